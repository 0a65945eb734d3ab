import PyProof.Rows.All
import Wide.All
import OpenK.AllK
import Wide.FinOn
import HandS.ForMost
import HandS.ForExc
import HandS.Wide
import HandS.WideBits
import HandS.Flow
import HandS.Style
import HandS.TupAny
import HandS.StrMore
import HandS.IsInst
import HandS.ExcIs
import HandS.TryOnly
import HandS.Codes
import HandS.Words
import HandS.WordsExc
import HandS.Ends
import HandS.EndBits
import PySem.Challenge.RW_pactlink_k00_integers_and_data
/-! MP0: plain values, a store, a small tree of Python's expressions and statements, and what they do. No library in sight. -/
namespace MP

inductive PV where
  | non
  | bl (b : Bool)
  | int (i : Int)
  | str (s : List Nat)
  | tup (xs : List PV)
  | frz (xs : List PV)
  | ref (n : Nat)
  | exc (c : Nat)

inductive MO where
  | lst (xs : List PV)

abbrev Store := List MO
abbrev Nv := List (Option PV)

/-- an expression's end -/
inductive Res (α : Type) where
  | ok (a : α) (S : Store)
  | exc (c : Nat) (S : Store)
  | bad

/-- a statement's end -/
inductive Out where
  | next (σ : Nv)
  | ret (v : PV)
  | brk (σ : Nv)
  | cont (σ : Nv)
  | exc (c : Nat) (σ : Nv)

inductive ResS where
  | ok (o : Out) (S : Store)
  | bad

def Res.bind {α β : Type} (r : Res α) (f : α → Store → Res β) : Res β := match r with
  | .ok a S => f a S
  | .exc c S => .exc c S
  | .bad => .bad
/-- an expression within a statement -/
def Res.bindS {α : Type} (r : Res α) (σ : Nv) (f : α → Store → ResS) : ResS := match r with
  | .ok a S => f a S
  | .exc c S => .ok (.exc c σ) S
  | .bad => .bad

theorem Res.bind_assoc {α β γ : Type} (r : Res α) (f : α → Store → Res β) (g : β → Store → Res γ) : (r.bind f).bind g = r.bind fun a T => (f a T).bind g := by cases r <;> rfl
theorem Res.bind_congr {α β : Type} (r : Res α) {f g : α → Store → Res β} (h : ∀ a T, f a T = g a T) : r.bind f = r.bind g := by
  have : f = g := funext fun a => funext fun T => h a T
  rw [this]
/-- the greatest length of a text or list -/
def SZ : Nat := 16777216
/-- more than any loop's turns -/
def FU : Nat := 1099511627776

inductive BinO where
  | add | sub | mul | fdiv | mod | pow
  deriving DecidableEq
inductive CmpO where
  | eq | ne | lt | le | gt | ge | isin | notin | is | isnot
  deriving DecidableEq
inductive Tyq where
  | int | bool | str | tuple | list
  | cls (c : Nat)
  deriving DecidableEq
inductive Prim where
  | len | abs | int | str | ord | tuple | list | all | any | sum | divmod | max | min
  deriving DecidableEq
inductive Mth where
  | append | extend | insert | pop | popAt | join | zfill | find | split
  deriving DecidableEq
/-- what a loop walks -/
inductive ItK where
  | plain | range
  deriving DecidableEq
/-- targets -/
inductive Tgt where
  | nm (i : Nat)
  | tp (is : List Nat)
  deriving DecidableEq

inductive E where
  | lit (v : PV)
  | var (i : Nat)
  | glob (g : Nat)
  | nil
  | cons (e es : E)
  | tup (es : E)
  | list (es : E)
  | bin (o : BinO) (a b : E)
  | neg (a : E)
  | not (a : E)
  | and (a b : E)
  | or (a b : E)
  | ite (c a b : E)
  | cmp (o : CmpO) (a b : E)
  | chain (o p : CmpO) (a b c : E)
  | idx (a i : E)
  | slice (a lo hi : E) (pl ph : Bool)
  | rev (a : E)
  | isinst (a : E) (t : Tyq)
  | isexc (i : Nat) (cs ps : List Nat)
  | prim (p : Prim) (es : E)
  | meth (m : Mth) (a es : E)
  | call (f : Nat) (es : E)
  | comp (tg : Tgt) (own : List Nat) (k : ItK) (it c e : E)

inductive S where
  | skip
  | seq (a b : S)
  | exp (e : E)
  | asg (tg : Tgt) (e : E)
  | par (i j : Nat) (es : E)
  | aug (i : Nat) (o : BinO) (e : E)
  | setix (a i e : E)
  | ite (c : E) (a b : S)
  | whl (c : E) (b : S)
  | loop (tg : Tgt) (k : ItK) (it : E) (b : S)
  | ret (e : E)
  | brk
  | cont
  | raise (c : Nat)
  | tryx (b : S) (cs ps : List Nat) (x : Option Nat) (h : S)

/-! ### values -/
/-- a slice's end: a part that is left out (b false), an int -/
def clipI (n d : Nat) (b : Bool) (x : PV) : Option Nat := if b then match x with
  | .int v => some (if v < 0 then (v + n).toNat else min v.toNat n)
  | _ => none else some d
def partOk (b : Bool) (x : PV) : Bool := if b then match x with
  | .int _ => true
  | _ => false else true
def cut {α : Type} (xs : List α) (lo hi : Nat) : List α := (xs.drop lo).take (hi - lo)
def normI (n : Nat) (i : Int) : Option Nat := if 0 ≤ i then (if i < n then some i.toNat else none) else if -(n : Int) ≤ i then some (i + n).toNat else none

def numV : PV → Option Int
  | .int i => some i
  | .bl b => some (if b then 1 else 0)
  | _ => none
mutual
/-- == of plain data; none where it is not served -/
def peq : PV → PV → Bool
  | .non, .non => true
  | .bl a, .bl b => a == b
  | .bl a, .int j => (if a then 1 else 0) == j
  | .int i, .bl b => i == (if b then 1 else 0)
  | .int i, .int j => i == j
  | .str x, .str y => x == y
  | .tup xs, .tup ys => peqs xs ys
  | _, _ => false
def peqs : List PV → List PV → Bool
  | [], [] => true
  | x :: xs, y :: ys => peq x y && peqs xs ys
  | _, _ => false
end
mutual
/-- plain data of depth at most n, with plain texts -/
def plainD : Nat → PV → Bool
  | _, .non => true
  | _, .bl _ => true
  | _, .int _ => true
  | _, .str s => s.all fun c => decide (c < 1114112)
  | n, .tup xs => match n with
    | 0 => false
    | m + 1 => plainDs m xs
  | _, _ => false
def plainDs : Nat → List PV → Bool
  | _, [] => true
  | n, x :: xs => plainD n x && plainDs n xs
end
def flat : PV → Bool
  | .non => true
  | .bl _ => true
  | .int _ => true
  | .str _ => true
  | _ => false

/-- the items of what may be read item by item, without the store -/
def items (S : Store) : PV → Option (List PV)
  | .tup xs => some xs
  | .frz xs => some xs
  | .ref n => match S[n]? with
    | some (.lst xs) => some xs
    | none => none
  | _ => none

def allocM (o : MO) (S : Store) : Res PV := .ok (.ref S.length) (S ++ [o])

def truthM (S : Store) : PV → Option Bool
  | .non => some false
  | .bl b => some b
  | .int i => some (i != 0)
  | .str s => if s.length ≤ SZ then some (!s.isEmpty) else none
  | .tup xs => some (!xs.isEmpty)
  | .frz xs => some (!xs.isEmpty)
  | .ref n => match S[n]? with
    | some (.lst xs) => some (!xs.isEmpty)
    | none => none
  | _ => none

def ofOpt {α : Type} (o : Option α) (S : Store) : Res α := match o with
  | some a => .ok a S
  | none => .bad

theorem ofBl (o : Option Bool) (T : Store) : ((ofOpt o T).bind fun t T3 => Res.ok (PV.bl t) T3).bind (fun x T1 => ofOpt (truthM T1 x) T1) = ofOpt o T := by cases o <;> rfl
def decText (i : Int) : List Nat := (toString i).toList.map Char.toNat
def digitsVal (s : List Nat) : Nat := s.foldl (fun n c => n * 10 + (c - 48)) 0
def isDig (c : Nat) : Bool := decide (48 ≤ c) && decide (c ≤ 57)

def binOp (o : BinO) (x y : PV) (S : Store) : Res PV := match o, x, y with
  | .add, .int a, .int b => .ok (.int (a + b)) S
  | .add, .str a, .str b => if a.length + b.length ≤ SZ then .ok (.str (a ++ b)) S else .bad
  | .add, .tup a, .tup b => if a.length + b.length ≤ SZ then .ok (.tup (a ++ b)) S else .bad
  | .add, .ref a, .ref b => match S[a]?, S[b]? with
    | some (.lst xs), some (.lst ys) => if xs.length + ys.length ≤ SZ then allocM (.lst (xs ++ ys)) S else .bad
    | _, _ => .bad
  | .sub, .int a, .int b => .ok (.int (a - b)) S
  | .mul, .int a, .int b => if a.natAbs.log2 + b.natAbs.log2 < 1000000 then .ok (.int (a * b)) S else .bad
  | .fdiv, .int a, .int b => if 0 < b ∧ b.natAbs.log2 < 9000 then .ok (.int (a / b)) S else .bad
  | .mod, .int a, .int b => if 0 < b then .ok (.int (a % b)) S else .bad
  | .pow, .int a, .int b => if 0 ≤ b ∧ b ≤ 1000000 ∧ a.natAbs < 18446744073709551616 then .ok (.int (a ^ b.toNat)) S else .bad
  | _, _, _ => .bad

/-- x[k] = v -/
def setOp (x k v : PV) (T : Store) : Option Store := match x, k with
  | .ref n, .int k => match T[n]? with
    | some (.lst xs) => (normI xs.length k).map fun j => T.set n (.lst (xs.set j v))
    | none => none
  | _, _ => none
/-- o= in place -/
def augOp (o : BinO) (x y : PV) : Option PV := match o, x, y with
  | .add, .int a, .int b => some (.int (a + b))
  | .sub, .int a, .int b => some (.int (a - b))
  | .add, .str a, .str b => if a.length + b.length ≤ SZ then some (.str (a ++ b)) else none
  | _, _, _ => none
def isNonV : PV → Bool
  | .non => true
  | _ => false
/-- y in x -/
def inSeq (v : PV) : List PV → Bool
  | [] => false
  | x :: xs => peq x v || inSeq v xs
def cmpOp (o : CmpO) (x y : PV) (S : Store) : Option Bool := match o, x, y with
  | .is, .bl a, .bl b => some (a == b)
  | .isnot, .bl a, .bl b => some (a != b)
  | .is, v, .non => some (isNonV v)
  | .isnot, v, .non => some (!isNonV v)
  | .lt, .int a, .int b => some (decide (a < b))
  | .le, .int a, .int b => some (decide (a ≤ b))
  | .gt, .int a, .int b => some (decide (b < a))
  | .ge, .int a, .int b => some (decide (b ≤ a))
  | .lt, .str a, .str b => some (decide (a < b))
  | .le, .str a, .str b => some (!decide (b < a))
  | .gt, .str a, .str b => some (decide (b < a))
  | .ge, .str a, .str b => some (!decide (a < b))
  | .eq, a, b => if flat a && flat b then some (peq a b) else if plainD 60 a && plainD 60 b then some (peq a b) else none
  | .ne, a, b => if flat a && flat b then some (!peq a b) else if plainD 60 a && plainD 60 b then some (!peq a b) else none
  | .isin, .str [c], .str z => some (decide (c ∈ z))
  | .notin, .str [c], .str z => some (!decide (c ∈ z))
  | .isin, v, .tup xs => if flat v && xs.all flat then some (inSeq v xs) else none
  | .notin, v, .tup xs => if flat v && xs.all flat then some (!inSeq v xs) else none
  | .isin, v, .ref n => match S[n]? with
    | some (.lst xs) => if flat v && xs.all flat then some (inSeq v xs) else none
    | none => none
  | .notin, v, .ref n => match S[n]? with
    | some (.lst xs) => if flat v && xs.all flat then some (!inSeq v xs) else none
    | none => none
  | _, _, _ => none

def idxOp (x i : PV) (S : Store) : Option PV := match x, i with
  | .str s, .int k => if s.length ≤ SZ then (normI s.length k).bind fun j => (s[j]?).map fun c => .str [c] else none
  | v, .int k => (items S v).bind fun xs => (normI xs.length k).bind fun j => xs[j]?
  | _, _ => none
def sliceOp (pl ph : Bool) (x lo hi : PV) (S : Store) : Res PV := match x with
  | .str s => match clipI s.length 0 pl lo, clipI s.length s.length ph hi with
    | some a, some b => if s.length ≤ SZ then .ok (.str (cut s a b)) S else .bad
    | _, _ => .bad
  | .tup xs => match clipI xs.length 0 pl lo, clipI xs.length xs.length ph hi with
    | some a, some b => .ok (.tup (cut xs a b)) S
    | _, _ => .bad
  | .ref n => match S[n]? with
    | some (.lst xs) => match clipI xs.length 0 pl lo, clipI xs.length xs.length ph hi with
      | some a, some b => allocM (.lst (cut xs a b)) S
      | _, _ => .bad
    | none => .bad
  | _ => .bad
def revOp (x : PV) (S : Store) : Res PV := match x with
  | .ref n => match S[n]? with
    | some (.lst xs) => allocM (.lst xs.reverse) S
    | none => .bad
  | _ => .bad

def isInst : PV → Tyq → Option Bool
  | .non, .cls _ => none
  | .non, _ => some false
  | .bl _, .int => some true
  | .bl _, .bool => some true
  | .bl _, .str => some false
  | .bl _, .tuple => some false
  | .bl _, .list => some false
  | .int _, .int => some true
  | .int _, .bool => some false
  | .int _, .str => some false
  | .int _, .tuple => some false
  | .int _, .list => some false
  | .str _, .str => some true
  | .str _, .int => some false
  | .str _, .bool => some false
  | .str _, .tuple => some false
  | .str _, .list => some false
  | .tup _, .tuple => some true
  | .tup _, .int => some false
  | .tup _, .bool => some false
  | .tup _, .str => some false
  | .tup _, .list => some false
  | _, _ => none

/-- all texts, joined -/
def strsOf : List PV → Option (List (List Nat))
  | [] => some []
  | .str s :: r => (strsOf r).map (s :: ·)
  | _ => none
def joinT (sep : List Nat) : List (List Nat) → List Nat
  | [] => []
  | [x] => x
  | x :: y :: r => x ++ sep ++ joinT sep (y :: r)
def boolsOf : List PV → Option (List Bool)
  | [] => some []
  | .bl b :: r => (boolsOf r).map (b :: ·)
  | _ => none
def intsOf : List PV → Option (List Int)
  | [] => some []
  | .int i :: r => (intsOf r).map (i :: ·)
  | _ => none

def primOp (p : Prim) (vs : List PV) (S : Store) : Res PV := match p, vs with
  | .len, [.str s] => if s.length ≤ SZ then .ok (.int s.length) S else .bad
  | .len, [v] => match items S v with
    | some xs => .ok (.int xs.length) S
    | none => .bad
  | .abs, [.int i] => .ok (.int (if i < 0 then -i else i)) S
  | .int, [.int i] => .ok (.int i) S
  | .int, [.bl b] => .ok (.int (if b then 1 else 0)) S
  | .int, [.str s] => if s ≠ [] ∧ s.length ≤ 640 ∧ s.all isDig = true then .ok (.int (digitsVal s)) S else .bad
  | .str, [.int i] => if i.natAbs.log2 < 1920 then .ok (.str (decText i)) S else .bad
  | .ord, [.str [c]] => .ok (.int c) S
  | .tuple, [.ref n] => match S[n]? with
    | some (.lst xs) => .ok (.tup xs) S
    | none => .bad
  | .tuple, [.tup xs] => .ok (.tup xs) S
  | .list, [v] => match items S v with
    | some xs => allocM (.lst xs) S
    | none => .bad
  | .all, [.ref n] => match S[n]? with
    | some (.lst xs) => match boolsOf xs with
      | some bs => .ok (.bl (bs.all id)) S
      | none => .bad
    | none => .bad
  | .any, [.ref n] => match S[n]? with
    | some (.lst xs) => match boolsOf xs with
      | some bs => .ok (.bl (bs.any id)) S
      | none => .bad
    | none => .bad
  | .sum, [.ref n] => match S[n]? with
    | some (.lst xs) => match intsOf xs with
      | some ns => .ok (.int ns.sum) S
      | none => .bad
    | none => .bad
  | .divmod, [.int a, .int b] => if 0 < b ∧ a.natAbs.log2 < 4000 then .ok (.tup [.int (a / b), .int (a % b)]) S else .bad
  | .max, [.int a, .int b] => .ok (.int (if b > a then b else a)) S
  | .min, [.int a, .int b] => .ok (.int (if b < a then b else a)) S
  | _, _ => .bad

/-- the first place of one sign from k on -/
def findSign (c : Nat) : List Nat → Nat → Option Nat
  | [], _ => none
  | x :: r, k => if x = c then some k else findSign c r (k + 1)
def findI (c : Nat) (s : List Nat) (k : Int) : Int := match findSign c (s.drop k.toNat) k.toNat with
  | some j => j
  | none => -1
def methOp (m : Mth) (x : PV) (vs : List PV) (S : Store) : Res PV := match m, x, vs with
  | .append, .ref n, [v] => match S[n]? with
    | some (.lst xs) => if xs.length < SZ then .ok .non (S.set n (.lst (xs ++ [v]))) else .bad
    | none => .bad
  | .pop, .ref n, [] => match S[n]? with
    | some (.lst xs) => match xs.getLast? with
      | some v => .ok v (S.set n (.lst xs.dropLast))
      | none => .bad
    | none => .bad
  | .join, .str sep, [.ref n] => match S[n]? with
    | some (.lst xs) => match strsOf xs with
      | some ss => if ((ss.map (·.length)).sum + ss.length * sep.length) ≤ SZ then .ok (.str (joinT sep ss)) S else .bad
      | none => .bad
    | none => .bad
  | .zfill, .str s, [.int 64] => match s with
    | c :: _ => if isDig c ∧ s.length ≤ SZ then .ok (.str (List.replicate (64 - s.length) 48 ++ s)) S else .bad
    | [] => .bad
  | .find, .str s, [.str [c], .int k] => if 0 ≤ k ∧ k < 4611686018427387904 ∧ s.length ≤ SZ then .ok (.int (findI c s k)) S else .bad
  | _, _, _ => .bad

/-- what the method's object must be -/
def recvOk : Mth → PV → Bool
  | .append, .ref _ => true
  | .extend, .ref _ => true
  | .insert, .ref _ => true
  | .pop, .ref _ => true
  | .popAt, .ref _ => true
  | .join, .str _ => true
  | .zfill, .str _ => true
  | .find, .str _ => true
  | .split, .str _ => true
  | _, _ => false

/-! ### targets, loops -/
def bindNames : List Nat → List PV → Nv → Option Nv
  | [], [], σ => some σ
  | i :: is, v :: vs, σ => bindNames is vs (σ.set i (some v))
  | _, _, _ => none
def bindT (tg : Tgt) (v : PV) (σ : Nv) : Option Nv := match tg, v with
  | .nm i, v => some (σ.set i (some v))
  | .tp is, .tup xs => bindNames is xs σ
  | _, _ => none
def slotsT : Tgt → List Nat
  | .nm i => [i]
  | .tp is => is
def wipeE (σ : Nv) : List Nat → Nv
  | [] => σ
  | i :: r => (wipeE σ r).set i none

/-- what is walked: the item at turn i (none: the end), by the store -/
inductive Wk where
  | items (xs : List PV)
  | ref (n : Nat)
  | range (lo c : Int) (n : Nat)
def Wk.at (w : Wk) (i : Nat) (S : Store) : Option (Option PV) := match w with
  | .items xs => some xs[i]?
  | .ref n => match S[n]? with
    | some (.lst xs) => some xs[i]?
    | none => none
  | .range lo c n => some (if i < n then some (.int (lo + i * c)) else none)
def small62 (i : Int) : Bool := decide (-4611686018427387904 ≤ i) && decide (i < 4611686018427387904)
def walkPlain : List PV → Option Wk
  | [.tup xs] => some (.items xs)
  | [.ref n] => some (.ref n)
  | [.str s] => some (.items (s.map fun c => .str [c]))
  | _ => none
def walkRange : List PV → Option Wk
  | [.int n] => if small62 n then some (.range 0 1 n.toNat) else none
  | [.int a, .int b] => if small62 a && small62 b then some (.range a 1 (b - a).toNat) else none
  | [.int a, .int b, .int c] => if 0 ≤ a ∧ a ≤ SZ ∧ 0 ≤ b ∧ b ≤ SZ ∧ 0 < c ∧ c < 1000 then some (.range a c (if a < b then (b - a - 1) / c + 1 else 0).toNat) else none
  | _ => none
def walkOf (k : ItK) (vs : List PV) : Option Wk := match k with
  | .plain => walkPlain vs
  | .range => walkRange vs

def iterL (w : Wk) (tg : Tgt) (b : Nv → Store → ResS) : Nat → Nat → Nv → Store → ResS
  | 0, _, _, _ => .bad
  | n + 1, i, σ, T => match w.at i T with
    | none => .bad
    | some none => .ok (.next σ) T
    | some (some v) => match bindT tg v σ with
      | none => .bad
      | some σ1 => match b σ1 T with
        | .ok (.next σ2) T2 => iterL w tg b n (i + 1) σ2 T2
        | .ok (.cont σ2) T2 => iterL w tg b n (i + 1) σ2 T2
        | .ok (.brk σ2) T2 => .ok (.next σ2) T2
        | .ok (.ret v) T2 => .ok (.ret v) T2
        | .ok (.exc c σ2) T2 => .ok (.exc c σ2) T2
        | .bad => .bad
def whileL (c : Nv → Store → Res Bool) (b : Nv → Store → ResS) : Nat → Nv → Store → ResS
  | 0, _, _ => .bad
  | n + 1, σ, T => (c σ T).bindS σ fun t T1 =>
    if t then match b σ T1 with
      | .ok (.next σ2) T2 => whileL c b n σ2 T2
      | .ok (.cont σ2) T2 => whileL c b n σ2 T2
      | .ok (.brk σ2) T2 => .ok (.next σ2) T2
      | .ok (.ret v) T2 => .ok (.ret v) T2
      | .ok (.exc c σ2) T2 => .ok (.exc c σ2) T2
      | .bad => .bad
    else .ok (.next σ) T1
/-- a comprehension's items, from the place i on; an exception is not served within -/
def compL (w : Wk) (tg : Tgt) (c : Nv → Store → Res Bool) (e : Nv → Store → Res PV) (σ : Nv) : Nat → Nat → List PV → Store → Res (List PV)
  | 0, _, _, _ => .bad
  | n + 1, i, acc, T => match w.at i T with
    | none => .bad
    | some none => .ok acc T
    | some (some v) => match bindT tg v σ with
      | none => .bad
      | some σ1 => match c σ1 T with
        | .ok true T1 => match e σ1 T1 with
          | .ok y T2 => if acc.length < SZ then compL w tg c e σ n (i + 1) (acc ++ [y]) T2 else .bad
          | _ => .bad
        | .ok false T1 => compL w tg c e σ n (i + 1) acc T1
        | _ => .bad

/-! ### expressions, statements, defs -/
/-- a slot's value; the exception that a handler holds is no value -/
def slotV : Option (Option PV) → Option PV
  | some (some (.exc _)) => none
  | some (some v) => some v
  | _ => none
/-- the slots without exceptions -/
def dropX (σ : Nv) : Nv := σ.map fun o => match o with
  | some (.exc _) => none
  | o => o
def asTup : PV → List PV
  | .tup xs => xs
  | _ => []
section
variable (C : Nat → List PV → Store → Res PV) (G : Nat → Option PV)
def ev : E → Nv → Store → Res PV
  | .lit v, _, T => .ok v T
  | .var i, σ, T => ofOpt (slotV σ[i]?) T
  | .glob g, _, T => match G g with
    | some v => .ok v T
    | none => .bad
  | .nil, _, T => .ok (.tup []) T
  | .cons e es, σ, T => (ev e σ T).bind fun v T1 => (ev es σ T1).bind fun vs T2 => .ok (.tup (v :: asTup vs)) T2
  | .tup es, σ, T => (ev es σ T).bind fun vs T1 => if (asTup vs).length ≤ SZ then .ok (.tup (asTup vs)) T1 else .bad
  | .list es, σ, T => (ev es σ T).bind fun vs T1 => if (asTup vs).length ≤ SZ then allocM (.lst (asTup vs)) T1 else .bad
  | .bin o a b, σ, T => (ev a σ T).bind fun x T1 => (ev b σ T1).bind fun y T2 => binOp o x y T2
  | .neg a, σ, T => (ev a σ T).bind fun x T1 => match x with
    | .int i => .ok (.int (-i)) T1
    | _ => .bad
  | .not a, σ, T => (ev a σ T).bind fun x T1 => (ofOpt (truthM T1 x) T1).bind fun b T2 => .ok (.bl (!b)) T2
  | .and a b, σ, T => (ev a σ T).bind fun x T1 => (ofOpt (truthM T1 x) T1).bind fun t T2 => if t then ev b σ T2 else .ok x T2
  | .or a b, σ, T => (ev a σ T).bind fun x T1 => (ofOpt (truthM T1 x) T1).bind fun t T2 => if t then .ok x T2 else ev b σ T2
  | .ite c a b, σ, T => (ev c σ T).bind fun x T1 => (ofOpt (truthM T1 x) T1).bind fun t T2 => if t then ev a σ T2 else ev b σ T2
  | .cmp o a b, σ, T => (ev a σ T).bind fun x T1 => (ev b σ T1).bind fun y T2 => (ofOpt (cmpOp o x y T2) T2).bind fun t T3 => .ok (.bl t) T3
  | .chain o p a b c, σ, T => (ev a σ T).bind fun x T1 => (ev b σ T1).bind fun y T2 => (ofOpt (cmpOp o x y T2) T2).bind fun t T3 =>
    if t then (ev c σ T3).bind fun z T4 => (ofOpt (cmpOp p y z T4) T4).bind fun t T5 => .ok (.bl t) T5 else .ok (.bl false) T3
  | .idx a i, σ, T => (ev a σ T).bind fun x T1 => (ev i σ T1).bind fun y T2 => ofOpt (idxOp x y T2) T2
  | .slice a lo hi pl ph, σ, T => (ev a σ T).bind fun x T1 => (ev lo σ T1).bind fun l T2 => if partOk pl l then (ev hi σ T2).bind fun h T3 => if partOk ph h then sliceOp pl ph x l h T3 else .bad else .bad
  | .rev a, σ, T => (ev a σ T).bind fun x T1 => revOp x T1
  | .isinst a t, σ, T => (ev a σ T).bind fun x T1 => (ofOpt (isInst x t) T1).bind fun b T2 => .ok (.bl b) T2
  | .isexc i cs ps, σ, T => match σ[i]? with
    | some (some (.exc c)) => if c ∈ cs then .ok (.bl true) T else if c ∈ ps then .ok (.bl false) T else .bad
    | _ => .bad
  | .prim p es, σ, T => (ev es σ T).bind fun vs T1 => primOp p (asTup vs) T1
  | .meth m a es, σ, T => (ev a σ T).bind fun x T1 => if recvOk m x then (ev es σ T1).bind fun vs T2 => methOp m x (asTup vs) T2 else .bad
  | .call f es, σ, T => (ev es σ T).bind fun vs T1 => C f (asTup vs) T1
  | .comp tg own k it c e, σ, T => (ev it σ T).bind fun vs T1 => match walkOf k (asTup vs) with
    | some w => (compL w tg (fun σ T => (ev c σ T).bind fun x T1 => ofOpt (truthM T1 x) T1) (fun σ T => ev e σ T) (wipeE σ own) FU 0 [] T1).bind fun xs T2 => allocM (.lst xs) T2
    | none => .bad
/-- an expression as a test -/
def evT (e : E) (σ : Nv) (T : Store) : Res Bool := (ev C G e σ T).bind fun x T1 => ofOpt (truthM T1 x) T1

def seqS (r : ResS) (f : Nv → Store → ResS) : ResS := match r with
  | .ok (.next σ) T => f σ T
  | r => r
/-- what an except clause's name holds, and what is left of it behind the clause -/
def holdX (x : Option Nat) (c : Nat) (σ : Nv) : Nv := match x with
  | none => σ
  | some i => σ.set i (some (.exc c))
def clrX (x : Option Nat) (σ : Nv) : Nv := match x with
  | none => dropX σ
  | some i => dropX (σ.set i none)
def endX (x : Option Nat) (r : ResS) : ResS := match r with
  | .ok (.next σ) T => .ok (.next (clrX x σ)) T
  | .ok (.brk σ) T => .ok (.brk (clrX x σ)) T
  | .ok (.cont σ) T => .ok (.cont (clrX x σ)) T
  | .ok (.ret v) T => .ok (.ret v) T
  | _ => .bad
def exS : S → Nv → Store → ResS
  | .skip, σ, T => .ok (.next σ) T
  | .seq a b, σ, T => seqS (exS a σ T) fun σ1 T1 => exS b σ1 T1
  | .exp e, σ, T => (ev C G e σ T).bindS σ fun _ T1 => .ok (.next σ) T1
  | .asg tg e, σ, T => (ev C G e σ T).bindS σ fun v T1 => match bindT tg v σ with
    | some σ1 => .ok (.next σ1) T1
    | none => .bad
  | .par i j es, σ, T => (ev C G es σ T).bindS σ fun vs T1 => match asTup vs with
    | [v, w] => .ok (.next ((σ.set i (some v)).set j (some w))) T1
    | _ => .bad
  | .aug i o e, σ, T => match σ[i]? with
    | some (some x) => (ev C G e σ T).bindS σ fun y T1 => match augOp o x y with
      | some z => .ok (.next (σ.set i (some z))) T1
      | none => .bad
    | _ => .bad
  | .setix a i e, σ, T => (ev C G e σ T).bindS σ fun v T1 => (ev C G a σ T1).bindS σ fun x T2 => (ev C G i σ T2).bindS σ fun k T3 => match setOp x k v T3 with
    | some T4 => .ok (.next σ) T4
    | none => .bad
  | .ite c a b, σ, T => (evT C G c σ T).bindS σ fun t T1 => if t then exS a σ T1 else exS b σ T1
  | .whl c b, σ, T => whileL (fun σ T => evT C G c σ T) (fun σ T => exS b σ T) FU σ T
  | .loop tg k it b, σ, T => (ev C G it σ T).bindS σ fun vs T1 => match walkOf k (asTup vs) with
    | some w => iterL w tg (fun σ T => exS b σ T) FU 0 σ T1
    | none => .bad
  | .ret e, σ, T => (ev C G e σ T).bindS σ fun v T1 => .ok (.ret v) T1
  | .brk, σ, T => .ok (.brk σ) T
  | .cont, σ, T => .ok (.cont σ) T
  | .raise c, σ, T => .ok (.exc c σ) T
  | .tryx b cs ps x h, σ, T => match exS b σ T with
    | .ok (.exc c σ1) T1 => if c ∈ cs then
        endX x (exS h (holdX x c σ1) T1)
      else if c ∈ ps then .ok (.exc c σ1) T1 else .bad
    | r => r
end

structure FD where
  np : Nat
  ns : Nat
  body : S

def startE (ns : Nat) (vs : List PV) : Nv := vs.map some ++ List.replicate (ns - vs.length) none
def ofBody (r : ResS) : Res PV := match r with
  | .ok (.next _) T => .ok .non T
  | .ok (.ret v) T => .ok v T
  | .ok (.exc c _) T => .exc c T
  | _ => .bad
/-- the defs of a program, called down to the level k -/
def callF (D : Nat → Option FD) (G : Nat → Option PV) : Nat → Nat → List PV → Store → Res PV
  | 0, _, _, _ => .bad
  | k + 1, f, vs, T => match D f with
    | some d => if vs.length = d.np then ofBody (exS (callF D G k) G d.body (startE d.ns vs) T) else .bad
    | none => .bad
end MP

set_option Elab.async false
set_option linter.all false
set_option maxRecDepth 100000
set_option maxHeartbeats 1000000
/-! MP1: how the plain values and the store lie in the hand layer's heap. -/
namespace MP
open PySem PySem.Spec PyProof.Rows L2

/-- a list that is read alone: the script, a list of the module -/
def SqF (K : PySem.W.Frag) (H : Hp) (a : Addr) (xs : List V) : Prop :=
  (∃ o, H a = some (.frz o (.lst xs))) ∨
    ∃ (o : Obj) (its : Array Value) (n : Nat), K.lookup a = some o ∧ o.cls = .type "list" ∧ o.dict = none ∧ o.data = .seq its n ∧ its.size ≤ sizeLine ∧ Vals xs its.toList
theorem SqF.sql {K : PySem.W.Frag} {H : Hp} {a : Addr} {xs : List V} (h : SqF K H a xs) : SqL K H a xs := by
  rcases h with h | h
  · exact .inl (.inr h)
  · exact .inr h

section
variable (K : PySem.W.Frag) (xa : Option (Addr × Nat)) (H : Hp) (μ : List Addr)
mutual
def Rel : PV → V → Prop
  | .non, v => v = .non
  | .bl b, v => v = .bl b
  | .int i, v => v = .int i
  | .str s, v => v = .str ⟨s.toArray⟩
  | .tup xs, v => ∃ a vs, v = .ref a ∧ SqT K H a vs ∧ Rels xs vs
  | .frz xs, v => ∃ a vs, v = .ref a ∧ SqF K H a vs ∧ Rels xs vs
  | .ref n, v => ∃ a, v = .ref a ∧ μ[n]? = some a
  | .exc _, _ => xa.isSome = true ∧ False
def Rels : List PV → List V → Prop
  | [], vs => vs = []
  | x :: xs, vs => ∃ v ws, vs = v :: ws ∧ Rel x v ∧ Rels xs ws
end
end

/-- the heap has grown, or lists of the store were written -/
structure Ex (μ μ' : List Addr) (H H' : Hp) : Prop where
  pre : ∃ ν, μ' = μ ++ ν
  fr : ∀ b o, H b = some o → b ∉ μ → H' b = some o
  new : ∀ b, b ∈ μ' → b ∈ μ ∨ H b = none
theorem Ex.refl (μ : List Addr) (H : Hp) : Ex μ μ H H := ⟨⟨[], by simp⟩, fun _ _ h _ => h, fun _ h => .inl h⟩
theorem Ex.trans {μ μ1 μ2 : List Addr} {H H1 H2 : Hp} (a : Ex μ μ1 H H1) (b : Ex μ1 μ2 H1 H2) : Ex μ μ2 H H2 := by
  refine ⟨?_, fun c o e n => ?_, fun c h => ?_⟩
  · obtain ⟨x, rfl⟩ := a.pre
    obtain ⟨y, rfl⟩ := b.pre
    exact ⟨x ++ y, by simp⟩
  · refine b.fr c o (a.fr c o e n) fun h => ?_
    rcases a.new c h with z | z
    · exact n z
    · rw [e] at z; cases z
  · rcases b.new c h with z | z
    · exact a.new c z
    · by_cases hm : c ∈ μ
      · exact .inl hm
      · refine .inr ?_
        cases e : H c with
        | none => rfl
        | some o => rw [a.fr c o e hm] at z; cases z
theorem Ex.get {μ μ' : List Addr} {H H' : Hp} (x : Ex μ μ' H H') {n : Nat} {a : Addr} (h : μ[n]? = some a) : μ'[n]? = some a := by
  obtain ⟨ν, rfl⟩ := x.pre
  rw [List.getElem?_append_left (by have := (List.getElem?_eq_some_iff.mp h).1; exact this)]
  exact h

/-- the store lies in the heap -/
structure SR (K : PySem.W.Frag) (xa : Option (Addr × Nat)) (H : Hp) (μ : List Addr) (T : Store) : Prop where
  len : μ.length = T.length
  lst : ∀ (n : Nat) (a : Addr) (xs : List PV), μ[n]? = some a → T[n]? = some (MO.lst xs) → ∃ vs, H a = some (.lst vs) ∧ Rels K xa H μ xs vs
  inj : ∀ (n m : Nat) (a : Addr), μ[n]? = some a → μ[m]? = some a → n = m

section
variable {K : PySem.W.Frag} {xa : Option (Addr × Nat)} {H H' : Hp} {μ μ' : List Addr} {T : Store}
theorem SR.at (r : SR K xa H μ T) {n : Nat} {xs : List PV} (h : T[n]? = some (MO.lst xs)) : ∃ a vs, μ[n]? = some a ∧ H a = some (.lst vs) ∧ Rels K xa H μ xs vs := by
  have hn : n < μ.length := by rw [r.len]; exact (List.getElem?_eq_some_iff.mp h).1
  obtain ⟨vs, e, q⟩ := r.lst n μ[n] xs (List.getElem?_eq_getElem hn) h
  exact ⟨_, vs, List.getElem?_eq_getElem hn, e, q⟩
theorem SR.mem (r : SR K xa H μ T) {a : Addr} (h : a ∈ μ) : ∃ vs, H a = some (.lst vs) := by
  obtain ⟨n, hn, e⟩ := List.mem_iff_getElem.mp h
  have hT : n < T.length := by rw [← r.len]; exact hn
  cases q : T[n] with
  | lst xs =>
    obtain ⟨vs, e2, _⟩ := r.lst n a xs (by rw [List.getElem?_eq_getElem hn, e]) (by rw [List.getElem?_eq_getElem hT, q])
    exact ⟨vs, e2⟩
theorem SR.fresh (r : SR K xa H μ T) {p : Addr} (h : H p = none) : p ∉ μ := fun m => by
  obtain ⟨vs, e⟩ := r.mem m
  rw [h] at e; cases e
theorem sqT_mono (r : SR K xa H μ T) (x : Ex μ μ' H H') {a : Addr} {vs : List V} (h : SqT K H a vs) : SqT K H' a vs := by
  have no : ∀ o, H a = some o → (∀ vs, o ≠ .lst vs) → a ∉ μ := fun o e n m => by
    obtain ⟨ws, q⟩ := r.mem m
    rw [e] at q; cases q; exact n ws rfl
  rcases h with (h | ⟨o, h⟩) | h
  · exact .inl (.inl (x.fr a _ h (no _ h fun _ z => nomatch z)))
  · exact .inl (.inr ⟨o, x.fr a _ h (no _ h fun _ z => nomatch z)⟩)
  · exact .inr h
theorem sqF_mono (r : SR K xa H μ T) (x : Ex μ μ' H H') {a : Addr} {vs : List V} (h : SqF K H a vs) : SqF K H' a vs := by
  have no : ∀ o, H a = some o → (∀ vs, o ≠ .lst vs) → a ∉ μ := fun o e n m => by
    obtain ⟨ws, q⟩ := r.mem m
    rw [e] at q; cases q; exact n ws rfl
  rcases h with ⟨o, h⟩ | h
  · exact .inl ⟨o, x.fr a _ h (no _ h fun _ z => nomatch z)⟩
  · exact .inr h
mutual
theorem Rel.mono (r : SR K xa H μ T) (x : Ex μ μ' H H') : ∀ (p : PV) (v : V), Rel K xa H μ p v → Rel K xa H' μ' p v
  | .non, _, h => h
  | .bl _, _, h => h
  | .int _, _, h => h
  | .str _, _, h => h
  | .tup xs, v, h => by
    obtain ⟨a, vs, e, s, q⟩ := h
    exact ⟨a, vs, e, sqT_mono r x s, Rels.mono r x xs vs q⟩
  | .frz xs, v, h => by
    obtain ⟨a, vs, e, s, q⟩ := h
    exact ⟨a, vs, e, sqF_mono r x s, Rels.mono r x xs vs q⟩
  | .ref n, v, h => by
    obtain ⟨a, e, s⟩ := h
    exact ⟨a, e, x.get s⟩
  | .exc _, _, h => h
theorem Rels.mono (r : SR K xa H μ T) (x : Ex μ μ' H H') : ∀ (ps : List PV) (vs : List V), Rels K xa H μ ps vs → Rels K xa H' μ' ps vs
  | [], _, h => h
  | p :: ps, vs, h => by
    obtain ⟨v, ws, e, q1, q2⟩ := h
    exact ⟨v, ws, e, Rel.mono r x p v q1, Rels.mono r x ps ws q2⟩
end

/-! ### lists of values -/
theorem Rels.length : ∀ {ps : List PV} {vs : List V}, Rels K xa H μ ps vs → ps.length = vs.length
  | [], vs, h => by
    have e : vs = [] := h
    subst e; rfl
  | _ :: _, _, h => by
    obtain ⟨v, ws, e, _, q⟩ := h
    rw [e, List.length_cons, List.length_cons, Rels.length q]
theorem Rels.get : ∀ {ps : List PV} {vs : List V} {i : Nat} {p : PV}, Rels K xa H μ ps vs → ps[i]? = some p → ∃ v, vs[i]? = some v ∧ Rel K xa H μ p v
  | [], _, i, _, _, e => by simp at e
  | q :: ps, _, 0, p, h, e => by
    obtain ⟨v, ws, e2, q1, q2⟩ := h
    subst e2
    have : q = p := by simpa using e
    subst this
    exact ⟨v, rfl, q1⟩
  | q :: ps, _, i + 1, p, h, e => by
    obtain ⟨v, ws, e2, q1, q2⟩ := h
    subst e2
    obtain ⟨u, h1, h2⟩ := Rels.get (i := i) (p := p) q2 (by simpa using e)
    exact ⟨u, by simpa using h1, h2⟩
theorem Rels.append : ∀ {ps qs : List PV} {vs ws : List V}, Rels K xa H μ ps vs → Rels K xa H μ qs ws → Rels K xa H μ (ps ++ qs) (vs ++ ws)
  | [], _, _, _, h, h' => by rw [show _ = _ from h]; exact h'
  | p :: ps, qs, _, _, h, h' => by
    obtain ⟨v, us, e, q1, q2⟩ := h
    subst e
    exact ⟨v, us ++ _, rfl, q1, Rels.append q2 h'⟩
theorem Rels.take : ∀ {ps : List PV} {vs : List V} (n : Nat), Rels K xa H μ ps vs → Rels K xa H μ (ps.take n) (vs.take n)
  | _, _, 0, _ => by simp [Rels]
  | [], _, n + 1, h => by rw [show _ = _ from h]; simp [Rels]
  | p :: ps, _, n + 1, h => by
    obtain ⟨v, us, e, q1, q2⟩ := h
    subst e
    exact ⟨v, us.take n, rfl, q1, Rels.take n q2⟩
theorem Rels.drop : ∀ {ps : List PV} {vs : List V} (n : Nat), Rels K xa H μ ps vs → Rels K xa H μ (ps.drop n) (vs.drop n)
  | _, _, 0, h => h
  | [], _, n + 1, h => by rw [show _ = _ from h]; simp [Rels]
  | p :: ps, _, n + 1, h => by
    obtain ⟨v, us, e, q1, q2⟩ := h
    subst e
    exact Rels.drop n q2
theorem Rels.set {p : PV} {v : V} (r : Rel K xa H μ p v) : ∀ {ps : List PV} {vs : List V} (i : Nat), Rels K xa H μ ps vs → Rels K xa H μ (ps.set i p) (vs.set i v)
  | [], _, i, h => by rw [show _ = _ from h]; simp [Rels]
  | q :: ps, _, 0, h => by
    obtain ⟨u, us, e, q1, q2⟩ := h
    subst e
    exact ⟨v, us, rfl, r, q2⟩
  | q :: ps, _, i + 1, h => by
    obtain ⟨u, us, e, q1, q2⟩ := h
    subst e
    exact ⟨u, us.set i v, rfl, q1, Rels.set r i q2⟩
theorem Rels.reverse : ∀ {ps : List PV} {vs : List V}, Rels K xa H μ ps vs → Rels K xa H μ ps.reverse vs.reverse
  | [], _, h => by rw [show _ = _ from h]; simp [Rels]
  | p :: ps, _, h => by
    obtain ⟨u, us, e, q1, q2⟩ := h
    subst e
    rw [List.reverse_cons, List.reverse_cons]
    exact Rels.append (Rels.reverse q2) ⟨u, [], rfl, q1, rfl⟩
theorem Rels.one {p : PV} {v : V} (r : Rel K xa H μ p v) : Rels K xa H μ [p] [v] := ⟨v, [], rfl, r, rfl⟩
theorem Rels.dropLast {ps : List PV} {vs : List V} (h : Rels K xa H μ ps vs) : Rels K xa H μ ps.dropLast vs.dropLast := by
  rw [List.dropLast_eq_take, List.dropLast_eq_take, ← h.length]
  exact h.take _

/-! ### the store changes -/
/-- a new list -/
theorem SR.alloc (r : SR K xa H μ T) {p : Addr} {xs : List PV} {vs : List V} (hp : H p = none) (q : Rels K xa H μ xs vs) :
    Ex μ (μ ++ [p]) H (upd H p (.lst vs)) ∧ SR K xa (upd H p (.lst vs)) (μ ++ [p]) (T ++ [MO.lst xs]) := by
  have nm := r.fresh hp
  have x : Ex μ (μ ++ [p]) H (upd H p (.lst vs)) := by
    refine ⟨⟨[p], rfl⟩, fun b o e n => ?_, fun b h => ?_⟩
    · rw [upd_ne (ne_of_none e hp)]; exact e
    · rcases List.mem_append.mp h with z | z
      · exact .inl z
      · have : b = p := by simpa using z
        subst this; exact .inr hp
  refine ⟨x, ?_, fun n a ys h1 h2 => ?_, fun n m a h1 h2 => ?_⟩
  · simp [r.len]
  · by_cases hn : n < μ.length
    · rw [List.getElem?_append_left hn] at h1
      rw [List.getElem?_append_left (by rw [← r.len]; exact hn)] at h2
      obtain ⟨ws, e, q2⟩ := r.lst n a ys h1 h2
      exact ⟨ws, by rw [upd_ne (ne_of_none e hp)]; exact e, Rels.mono r x _ _ q2⟩
    · have h3 : n < (μ ++ [p]).length := (List.getElem?_eq_some_iff.mp h1).1
      rw [List.length_append, List.length_singleton] at h3
      have e : n = μ.length := by omega
      subst e
      rw [List.getElem?_append_right (Nat.le_refl _), Nat.sub_self] at h1
      rw [List.getElem?_append_right (by rw [r.len]; exact Nat.le_refl _), r.len, Nat.sub_self] at h2
      have e1 : p = a := by simpa using h1
      have e2 : xs = ys := by simpa using h2
      subst e1 e2
      exact ⟨vs, upd_same, Rels.mono r x _ _ q⟩
  · have key : ∀ k, (μ ++ [p])[k]? = some a → (k < μ.length ∧ μ[k]? = some a) ∨ (k = μ.length ∧ a = p) := fun k h => by
      by_cases hk : k < μ.length
      · rw [List.getElem?_append_left hk] at h; exact .inl ⟨hk, h⟩
      · have h3 : k < (μ ++ [p]).length := (List.getElem?_eq_some_iff.mp h).1
        rw [List.length_append, List.length_singleton] at h3
        have e : k = μ.length := by omega
        subst e
        rw [List.getElem?_append_right (Nat.le_refl _), Nat.sub_self] at h
        exact .inr ⟨rfl, by simpa using h.symm⟩
    rcases key n h1 with ⟨z1, z2⟩ | ⟨z1, z2⟩ <;> rcases key m h2 with ⟨y1, y2⟩ | ⟨y1, y2⟩
    · exact r.inj n m a z2 y2
    · subst y2; exact absurd (List.mem_of_getElem? z2) nm
    · subst z2; exact absurd (List.mem_of_getElem? y2) nm
    · omega
/-- a list written -/
theorem SR.write (r : SR K xa H μ T) {n : Nat} {a : Addr} {xs : List PV} {vs : List V} (hn : μ[n]? = some a) (q : Rels K xa H μ xs vs) :
    Ex μ μ H (upd H a (.lst vs)) ∧ SR K xa (upd H a (.lst vs)) μ (T.set n (MO.lst xs)) := by
  have am : a ∈ μ := List.mem_of_getElem? hn
  have x : Ex μ μ H (upd H a (.lst vs)) := ⟨⟨[], by simp⟩, fun b o e nb => by rw [upd_ne (fun z => nb (by rw [z]; exact am))]; exact e, fun _ h => .inl h⟩
  refine ⟨x, by rw [List.length_set]; exact r.len, fun m b ys h1 h2 => ?_, r.inj⟩
  by_cases e : m = n
  · subst e
    rw [hn] at h1; cases h1
    rw [List.getElem?_set_self (by rw [← r.len]; exact (List.getElem?_eq_some_iff.mp hn).1)] at h2
    cases h2
    exact ⟨vs, upd_same, Rels.mono r x _ _ q⟩
  · rw [List.getElem?_set_ne (Ne.symm e)] at h2
    obtain ⟨ws, e1, q2⟩ := r.lst m b ys h1 h2
    have hb : b ≠ a := fun z => e (r.inj m n b h1 (by rw [z]; exact hn))
    exact ⟨ws, by rw [upd_ne hb]; exact e1, Rels.mono r x _ _ q2⟩
/-- another new object -/
theorem SR.other (r : SR K xa H μ T) {p : Addr} {o : HO} (hp : H p = none) : Ex μ μ H (upd H p o) ∧ SR K xa (upd H p o) μ T := by
  have x : Ex μ μ H (upd H p o) := ⟨⟨[], by simp⟩, fun b u e _ => by rw [upd_ne (ne_of_none e hp)]; exact e, fun _ h => .inl h⟩
  refine ⟨x, r.len, fun n a xs h1 h2 => ?_, r.inj⟩
  obtain ⟨ws, e, q⟩ := r.lst n a xs h1 h2
  exact ⟨ws, by rw [upd_ne (ne_of_none e hp)]; exact e, Rels.mono r x _ _ q⟩
theorem SR.tup (r : SR K xa H μ T) {p : Addr} {xs : List PV} {vs : List V} (hp : H p = none) (q : Rels K xa H μ xs vs) : Rel K xa (upd H p (.tup vs)) μ (.tup xs) (.ref p) :=
  ⟨p, vs, rfl, .inl (.inl upd_same), Rels.mono r (r.other hp).1 _ _ q⟩
end

/-! ### the handled exception is of no matter to values -/
section
variable {K : PySem.W.Frag} {xa xb : Option (Addr × Nat)} {H : Hp} {μ : List Addr} {T : Store}
mutual
theorem Rel.xx : ∀ (p : PV) (v : V), Rel K xa H μ p v → Rel K xb H μ p v
  | .non, _, h => h
  | .bl _, _, h => h
  | .int _, _, h => h
  | .str _, _, h => h
  | .tup xs, v, h => by
    obtain ⟨a, vs, e, s, q⟩ := h
    exact ⟨a, vs, e, s, Rels.xx xs vs q⟩
  | .frz xs, v, h => by
    obtain ⟨a, vs, e, s, q⟩ := h
    exact ⟨a, vs, e, s, Rels.xx xs vs q⟩
  | .ref _, _, h => h
  | .exc _, _, h => h.2.elim
theorem Rels.xx : ∀ (ps : List PV) (vs : List V), Rels K xa H μ ps vs → Rels K xb H μ ps vs
  | [], _, h => h
  | p :: ps, vs, h => by
    obtain ⟨v, ws, e, q1, q2⟩ := h
    exact ⟨v, ws, e, Rel.xx p v q1, Rels.xx ps ws q2⟩
end
theorem SR.xx (r : SR K xa H μ T) : SR K xb H μ T := ⟨r.len, fun n a xs h1 h2 => let ⟨vs, e, q⟩ := r.lst n a xs h1 h2; ⟨vs, e, Rels.xx _ _ q⟩, r.inj⟩
end

/-! ### slots -/
/-- what a slot holds: a value, or the exception of the handler -/
def RelX (K : PySem.W.Frag) (xa : Option (Addr × Nat)) (H : Hp) (μ : List Addr) (v : PV) (x : V) : Prop := Rel K xa H μ v x ∨ ∃ c a, v = .exc c ∧ x = .ref a ∧ xa = some (a, c)
theorem RelX.val {K : PySem.W.Frag} {xa : Option (Addr × Nat)} {H : Hp} {μ : List Addr} {v : PV} {x : V} (h : RelX K xa H μ v x) (n : ∀ c, v ≠ .exc c) : Rel K xa H μ v x := by
  rcases h with h | ⟨c, a, e, _⟩
  · exact h
  · exact absurd e (n c)
structure ER (K : PySem.W.Frag) (xa : Option (Addr × Nat)) (H : Hp) (μ : List Addr) (ρ : Nv) (σ : L2.St) : Prop where
  len : ρ.length = σ.length
  at_ : ∀ (i : Nat) (v : PV), ρ[i]? = some (some v) → ∃ x, σ[i]? = some (some x) ∧ RelX K xa H μ v x
section
variable {K : PySem.W.Frag} {xa : Option (Addr × Nat)} {H H' : Hp} {μ μ' : List Addr} {T : Store} {ρ : Nv} {σ : L2.St}
theorem ER.mono (e : ER K xa H μ ρ σ) (r : SR K xa H μ T) (x : Ex μ μ' H H') : ER K xa H' μ' ρ σ :=
  ⟨e.len, fun i v h => let ⟨y, h1, h2⟩ := e.at_ i v h; ⟨y, h1, h2.imp (Rel.mono r x _ _) id⟩⟩
theorem ER.setX (e : ER K xa H μ ρ σ) {v : PV} {y : V} (i : Nat) (q : RelX K xa H μ v y) : ER K xa H μ (ρ.set i (some v)) (σ.set i (some y)) := by
  refine ⟨by rw [List.length_set, List.length_set]; exact e.len, fun j u h => ?_⟩
  by_cases hj : i = j
  · subst hj
    have hi : i < ρ.length := by have := (List.getElem?_eq_some_iff.mp h).1; rwa [List.length_set] at this
    rw [List.getElem?_set_self hi] at h
    cases h
    exact ⟨y, by rw [List.getElem?_set_self (by rw [← e.len]; exact hi)], q⟩
  · rw [List.getElem?_set_ne hj] at h
    rw [List.getElem?_set_ne hj]
    exact e.at_ j u h
theorem ER.set (e : ER K xa H μ ρ σ) {v : PV} {y : V} (i : Nat) (q : Rel K xa H μ v y) : ER K xa H μ (ρ.set i (some v)) (σ.set i (some y)) := e.setX i (.inl q)
theorem ER.hot {a : Addr} {c : Nat} (e : ER K none H μ ρ σ) (i : Nat) : ER K (some (a, c)) H μ (ρ.set i (some (.exc c))) (σ.set i (some (.ref a))) := by
  have e' : ER K (some (a, c)) H μ ρ σ := ⟨e.len, fun j v h => by
    obtain ⟨x, h1, h2⟩ := e.at_ j v h
    rcases h2 with h2 | ⟨_, _, _, _, z⟩
    · exact ⟨x, h1, .inl (Rel.xx _ _ h2)⟩
    · cases z⟩
  exact e'.setX i (.inr ⟨c, a, rfl, rfl, rfl⟩)
theorem ER.hot0 {a : Addr} {c : Nat} (e : ER K none H μ ρ σ) : ER K (some (a, c)) H μ ρ σ := ⟨e.len, fun j v h => by
    obtain ⟨x, h1, h2⟩ := e.at_ j v h
    rcases h2 with h2 | ⟨_, _, _, _, z⟩
    · exact ⟨x, h1, .inl (Rel.xx _ _ h2)⟩
    · cases z⟩
theorem ER.cool (e : ER K xa H μ ρ σ) : ER K none H μ (dropX ρ) σ := by
  refine ⟨by unfold dropX; rw [List.length_map]; exact e.len, fun j v h => ?_⟩
  unfold dropX at h
  rw [List.getElem?_map] at h
  cases q : ρ[j]? with
  | none => rw [q] at h; cases h
  | some o =>
    rw [q] at h
    have h := Option.some.inj h
    cases o with
    | none => cases h
    | some p =>
      obtain ⟨x, h1, h2⟩ := e.at_ j p q
      have key : (∃ c, p = .exc c) ∨ (∀ c, p ≠ .exc c) := by
        cases p <;> first | exact .inl ⟨_, rfl⟩ | exact .inr fun c z => by cases z
      rcases key with ⟨c, rfl⟩ | n
      · cases h
      · have : p = v := by
          cases p <;> first | exact Option.some.inj h | exact absurd rfl (n _)
        subst this
        exact ⟨x, h1, .inl (Rel.xx _ _ (h2.val n))⟩
theorem ER.unset (e : ER K xa H μ ρ σ) (i : Nat) : ER K xa H μ (ρ.set i none) (σ.set i none) := by
  refine ⟨by rw [List.length_set, List.length_set]; exact e.len, fun j u h => ?_⟩
  by_cases hj : i = j
  · subst hj
    have hi : i < ρ.length := by have := (List.getElem?_eq_some_iff.mp h).1; rwa [List.length_set] at this
    rw [List.getElem?_set_self hi] at h
    cases h
  · rw [List.getElem?_set_ne hj] at h
    rw [List.getElem?_set_ne hj]
    exact e.at_ j u h
theorem ER.start {ps : List PV} {vs : List V} (N : List Str) (q : Rels K xa H μ ps vs) : ER K xa H μ (startE N.length ps) (L2.start N vs) := by
  have hl := q.length
  refine ⟨by unfold startE L2.start; simp [hl], fun i v h => ?_⟩
  unfold startE at h
  unfold L2.start
  by_cases hi : i < ps.length
  · rw [List.getElem?_append_left (by simpa using hi), List.getElem?_map] at h
    cases e : ps[i]? with
    | none => rw [e] at h; cases h
    | some p =>
      rw [e] at h; cases h
      obtain ⟨y, h1, h2⟩ := q.get e
      exact ⟨y, by rw [List.getElem?_append_left (by rw [List.length_map, ← hl]; exact hi), List.getElem?_map, h1] <;> rfl, .inl h2⟩
  · rw [List.getElem?_append_right (by simpa using hi), List.getElem?_replicate] at h
    split at h <;> cases h
end

/-! ### what is wanted of an end -/
section
variable (K : PySem.W.Frag) (xa : Option (Addr × Nat)) (ca : Nat → Addr)
abbrev RRel (α β : Type) := α → β → Hp → List Addr → Prop
abbrev rV : RRel PV V := fun v x H μ => Rel K xa H μ v x
abbrev rA : RRel PV (List V) := fun v xs H μ => Rels K xa H μ (asTup v) xs
abbrev rB : RRel Bool Bool := fun b c _ _ => b = c
def Post {α β : Type} (R : RRel α β) (μ : List Addr) (H : Hp) (r : Res α) (Q : β → Hp → Prop) (W : Value → Option Addr → Hp → Prop) : Prop := match r with
  | .ok v T => ∀ x μ' H', Ex μ μ' H H' → SR K xa H' μ' T → R v x H' μ' → Q x H'
  | .exc c T => ∀ μ' H', Ex μ μ' H H' → SR K xa H' μ' T → W (.ref (ca c)) none H'
  | .bad => False
def PostS (μ : List Addr) (H : Hp) (r : ResS) (D : Ends) (W : WX) : Prop := match r with
  | .bad => False
  | .ok (.next ρ) T => ∀ σ μ' H', Ex μ μ' H H' → SR K xa H' μ' T → ER K xa H' μ' ρ σ → D.nx σ H'
  | .ok (.brk ρ) T => ∀ σ μ' H', Ex μ μ' H H' → SR K xa H' μ' T → ER K xa H' μ' ρ σ → D.bk σ H'
  | .ok (.cont ρ) T => ∀ σ μ' H', Ex μ μ' H H' → SR K xa H' μ' T → ER K xa H' μ' ρ σ → D.ct σ H'
  | .ok (.ret v) T => ∀ x μ' H', Ex μ μ' H H' → SR K xa H' μ' T → Rel K xa H' μ' v x → D.rt x H'
  | .ok (.exc c ρ) T => ∀ σ μ' H', Ex μ μ' H H' → SR K xa H' μ' T → ER K xa H' μ' ρ σ → W (.ref (ca c)) none σ H'
/-- the reading of an expression by its run -/
def tR {α β : Type} (R : RRel α β) (W : WX) (m : Nv → Store → Res α) : L2.St → Hp → (β → Hp → Prop) → Prop := fun σ H Q =>
  ∃ ρ μ T, ER K xa H μ ρ σ ∧ SR K xa H μ T ∧ Post K xa ca R μ H (m ρ T) Q (fun c d H' => W c d σ H')
def tRS (W : WX) (m : Nv → Store → ResS) : TS := fun D σ H =>
  ∃ ρ μ T, ER K xa H μ ρ σ ∧ SR K xa H μ T ∧ PostS K xa ca μ H (m ρ T) D W
end
section
variable {K : PySem.W.Frag} {xa : Option (Addr × Nat)} {ca : Nat → Addr} {α β γ δ : Type} {R : RRel α β} {R' : RRel γ δ} {μ μ1 : List Addr} {H H1 : Hp} {T : Store} {ρ : Nv} {σ : L2.St}
theorem Post.shift {r : Res α} {Q : β → Hp → Prop} {W : Value → Option Addr → Hp → Prop} (h : Post K xa ca R μ H r Q W) (x : Ex μ μ1 H H1) : Post K xa ca R μ1 H1 r Q W := by
  cases r with
  | ok v T => exact fun y μ' H' x' s q => h y μ' H' (x.trans x') s q
  | exc c T => exact fun μ' H' x' s => h μ' H' (x.trans x') s
  | bad => exact h
theorem Post.mono {r : Res α} {Q Q' : β → Hp → Prop} {W : Value → Option Addr → Hp → Prop} (h : Post K xa ca R μ H r Q W) (hq : ∀ x H', Q x H' → Q' x H') : Post K xa ca R μ H r Q' W := by
  cases r with
  | ok v T => exact fun y μ' H' x' s q => hq _ _ (h y μ' H' x' s q)
  | exc c T => exact h
  | bad => exact h
/-- the first part, and what is left behind it -/
theorem Post.bind {r : Res α} {f : α → Store → Res γ} {Q : δ → Hp → Prop} {W : Value → Option Addr → Hp → Prop} (h : Post K xa ca R' μ H (r.bind f) Q W) (Q1 : β → Hp → Prop)
    (hq : ∀ v T1 x μ1 H1, Ex μ μ1 H H1 → SR K xa H1 μ1 T1 → R v x H1 μ1 → Post K xa ca R' μ1 H1 (f v T1) Q W → Q1 x H1) : Post K xa ca R μ H r Q1 W := by
  cases r with
  | ok v T => exact fun y μ' H' x' s q => hq v T y μ' H' x' s q (Post.shift (show Post K xa ca R' μ H (f v T) Q W from h) x')
  | exc c T => exact h
  | bad => exact h
theorem PostS.shift {r : ResS} {D : Ends} {W : WX} (h : PostS K xa ca μ H r D W) (x : Ex μ μ1 H H1) : PostS K xa ca μ1 H1 r D W := by
  cases r with
  | bad => exact h
  | ok o T => cases o <;> exact fun y μ' H' x' s q => h y μ' H' (x.trans x') s q
theorem Post.bindS {r : Res α} {f : α → Store → ResS} {D : Ends} {W : WX} (h : PostS K xa ca μ H (r.bindS ρ f) D W) (e : ER K xa H μ ρ σ) (s0 : SR K xa H μ T) (Q1 : β → Hp → Prop)
    (hq : ∀ v T1 x μ1 H1, Ex μ μ1 H H1 → SR K xa H1 μ1 T1 → R v x H1 μ1 → PostS K xa ca μ1 H1 (f v T1) D W → Q1 x H1) : Post K xa ca R μ H r Q1 (fun c d H' => W c d σ H') := by
  cases r with
  | ok v T => exact fun y μ' H' x' s q => hq v T y μ' H' x' s q (PostS.shift (show PostS K xa ca μ H (f v T) D W from h) x')
  | exc c T => exact fun μ' H' x' s => (show PostS K xa ca μ H (.ok (.exc c ρ) T) D W from h) σ μ' H' x' s (e.mono s0 x')
  | bad => exact h
end
end MP

set_option Elab.async false
set_option linter.all false
set_option maxRecDepth 100000
/-! MP2: from the model's syntax to the small tree. -/
namespace MP
open PySem PySem.Spec PyProof.Rows L2

/-- the module's names: defs by numbers, constants by numbers, exception classes by numbers; the built-in names that nobody binds -/
structure Tab where
  fns : List (Str × Nat)
  consts : List (Str × Nat)
  clss : List (Str × Nat)
  blts : List Str
  /-- the classes that an except clause of this class catches, and those that it lets by -/
  caught : Nat → List Nat
  passed : Nat → List Nat

def slotOf (N : List Str) (x : Str) : Option Nat := N.findIdx? (fun y => decide (y = x))
def isVis : Option NameKind → Bool
  | some .local => true
  | some .cell => true
  | some .free => true
  | _ => false
def isLoc : Option NameKind → Bool
  | some .local => true
  | some .cell => true
  | _ => false
def isGl : Option NameKind → Bool
  | some .globalImplicit => true
  | _ => false

def binO : Operator → Option BinO
  | .Add => some .add
  | .Sub => some .sub
  | .Mult => some .mul
  | .FloorDiv => some .fdiv
  | .Mod => some .mod
  | .Pow => some .pow
  | _ => none
def cmpO : PySem.CmpOp → CmpO
  | .Eq => .eq
  | .NotEq => .ne
  | .Lt => .lt
  | .LtE => .le
  | .Gt => .gt
  | .GtE => .ge
  | .Is => .is
  | .IsNot => .isnot
  | .In => .isin
  | .NotIn => .notin
/-- built-in functions by name -/
def primTab : List (Str × Prim) := [("len", .len), ("abs", .abs), ("int", .int), ("str", .str), ("ord", .ord), ("tuple", .tuple), ("list", .list), ("all", .all), ("any", .any), ("sum", .sum), ("divmod", .divmod), ("max", .max), ("min", .min)]
def primO (x : Str) : Option Prim := primTab.lookup x
def tyO (x : Str) : Option Tyq :=
  if x = "int" then some .int else if x = "bool" then some .bool else if x = "str" then some .str else if x = "tuple" then some .tuple else if x = "list" then some .list else none
/-- methods by name and number of arguments -/
def methO (x : Str) (n : Nat) : Option Mth :=
  if x = "append" ∧ n = 1 then some .append else if x = "pop" ∧ n = 0 then some .pop else if x = "join" ∧ n = 1 then some .join
  else if x = "zfill" ∧ n = 1 then some .zfill else if x = "find" ∧ n = 2 then some .find else none

/-- plain names in a tuple's target -/
def namesOf (N : List Str) (sc : Scope) : List PySem.Expr → Option (List Nat)
  | [] => some []
  | .Name x _ :: r => if isLoc (sc.names.lookup x) then (slotOf N x).bind fun i => (namesOf N sc r).map (i :: ·) else none
  | _ => none
def targ (N : List Str) (sc : Scope) : PySem.Expr → Option Tgt
  | .Name x _ => if isLoc (sc.names.lookup x) then (slotOf N x).map .nm else none
  | .Tuple es _ _ => (namesOf N sc es).map .tp
  | _ => none
/-- the own names of a comprehension's block with their slots -/
def ownOf (N : List Str) : List (Str × NameKind) → List (Str × Nat)
  | [] => []
  | (x, .local) :: r => match slotOf N x with
    | some i => (x, i) :: ownOf N r
    | none => ownOf N r
  | (x, .cell) :: r => match slotOf N x with
    | some i => (x, i) :: ownOf N r
    | none => ownOf N r
  | _ :: r => ownOf N r
def isSlice : PySem.Expr → Bool
  | .Slice _ _ _ _ => true
  | _ => false
def isStar : PySem.Expr → Bool
  | .Starred _ _ => true
  | _ => false
/-- an attribute's base that the model takes as it is -/
def isSuper : PySem.Expr → Bool
  | .Call (.Name _ _) [] [] _ => true
  | _ => false

abbrev Rc := Scope → PySem.Expr → Option E
/-- an argument list -/
def args (f : PySem.Expr → Option E) : List PySem.Expr → Option E
  | [] => some .nil
  | e :: r => if isStar e then none else (f e).bind fun a => (args f r).map fun b => E.cons a b
def part (f : PySem.Expr → Option E) : Option PySem.Expr → Option E
  | none => some (E.lit .non)
  | some e => f e
section
variable (T : Tab) (N : List Str) (hot : Bool) (f : Rc) (sc : Scope)
def cName (x : Str) : Option E :=
  if x = "__debug__" ∨ x = "__classdict__" then none
  else if isVis (sc.names.lookup x) then (slotOf N x).map E.var
  else if isGl (sc.names.lookup x) then (T.consts.lookup x).map E.glob else none
def cConst : Const → Option E
  | .int i => some (E.lit (.int i))
  | .str s => some (E.lit (.str s.cps.toList))
  | .bool b => some (E.lit (.bl b))
  | .none => some (E.lit .non)
  | _ => none
def cBool (op : PySem.BoolOp) (pos : Pos) : List PySem.Expr → Option E
  | [] => none
  | [a] => f sc a
  | a :: b :: r => (f sc a).bind fun x => (f sc (.BoolOp op (b :: r) pos)).map fun y => match op with
    | .And => E.and x y
    | .Or => E.or x y
def cCmp (a : PySem.Expr) : List PySem.CmpOp → List PySem.Expr → Option E
  | [op], [b] => if behindInMarks op b then none else (f sc a).bind fun x => (f sc b).map fun y => E.cmp (cmpO op) x y
  | [op, op'], [b, c] => if behindInMarks op' c then none else (f sc a).bind fun x => (f sc b).bind fun y => (f sc c).map fun z => E.chain (cmpO op) (cmpO op') x y z
  | _, _ => none
/-- [::-1] -/
def isRev : PySem.Expr → Bool
  | .Slice none none (some (.UnaryOp .USub (.Constant (.int i) _ _) _)) _ => decide (i = 1)
  | _ => false
def cSub (a : PySem.Expr) (i : PySem.Expr) : Option E :=
  if isRev i then (f sc a).map E.rev
  else match i with
    | .Slice lo hi none _ => (f sc a).bind fun x => (part (f sc) lo).bind fun y => (part (f sc) hi).map fun z => E.slice x y z lo.isSome hi.isSome
    | i => if isSlice i then none else (f sc a).bind fun x => (f sc i).map fun y => E.idx x y
/-- a call by name -/
def cCall (x : Str) (es : List PySem.Expr) : Option E :=
  if x = "__debug__" ∨ x = "__name__" ∨ ¬ isGl (sc.names.lookup x) ∨ es = [] then none
  else match T.fns.lookup x with
    | some k => if hot then none else (args (f sc) es).map fun y => E.call k y
    | none => if x ∈ T.blts then (primO x).bind fun p => if hot then none else (args (f sc) es).map fun y => E.prim p y else none
/-- isinstance(a, T) -/
def cIs (a : PySem.Expr) (y : Str) : Option E :=
  if isGl (sc.names.lookup ("isinstance" : Str)) ∧ isGl (sc.names.lookup y) ∧ ("isinstance" : Str) ∈ T.blts then
    if y ∈ T.blts then (tyO y).bind fun t => if hot ∨ isStar a then none else (f sc a).map fun z => E.isinst z t
    else match a with
      | .Name x _ => if hot ∧ y ≠ "__debug__" ∧ x ≠ "__debug__" ∧ x ≠ "__classdict__" ∧ isVis (sc.names.lookup x) then (T.clss.lookup y).bind fun c => (slotOf N x).map fun i => E.isexc i (T.caught c) (T.passed c) else none
      | _ => none
  else none
def isCls : List PySem.Expr → Option (PySem.Expr × Str)
  | [a, .Name y _] => some (a, y)
  | _ => none
def cWalk (iter : PySem.Expr) : Option (ItK × E) := match iter with
  | .Call (.Name x _) es [] _ => if x = "range" then
      (if isGl (sc.names.lookup x) ∧ ("range" : Str) ∈ T.blts ∧ (es.length = 1 ∨ es.length = 2 ∨ es.length = 3) then (args (f sc) es).map fun y => (.range, y) else none)
    else (f sc iter).map fun y => (.plain, E.cons y .nil)
  | .Set _ _ _ => none
  | iter => (f sc iter).map fun y => (.plain, E.cons y .nil)
def cIfs (scope : Scope) : List PySem.Expr → Option E
  | [] => some (E.lit (.bl true))
  | [c] => f scope c
  | _ => none
def cComp (elt : PySem.Expr) (gs : List Comprehension) (scope : Scope) : Option E := match gs with
  | [⟨tg, iter, ifs, k⟩] =>
    if hot = false ∧ k = 0 ∧ blkC N sc scope (ownOf N scope.names) = true then
      (cIfs f (relS scope sc) ifs).bind fun c => (targ N scope tg).bind fun g => if (slotsT g).all (fun i => decide (i ∈ (ownOf N scope.names).map (·.2))) = false then none else (f (relS scope sc) elt).bind fun y => (cWalk T f sc iter).map fun w =>
        E.comp g ((ownOf N scope.names).map (·.2)) w.1 w.2 c y
    else none
  | _ => none
def step : PySem.Expr → Option E
  | .Constant c _ _ => cConst c
  | .Name x _ => cName T N sc x
  | .Tuple es _ _ => (args (f sc) es).map E.tup
  | .List es _ => (args (f sc) es).map E.list
  | .BinOp a op b _ => (binO op).bind fun o => (f sc a).bind fun x => (f sc b).map fun y => E.bin o x y
  | .UnaryOp .USub a _ => (f sc a).map E.neg
  | .UnaryOp .Not a _ => (f sc a).map E.not
  | .BoolOp op es pos => cBool f sc op pos es
  | .IfExp c a b _ => (f sc c).bind fun x => (f sc a).bind fun y => (f sc b).map fun z => E.ite x y z
  | .Compare a ops bs _ => cCmp f sc a ops bs
  | .Subscript a i _ => cSub f sc a i
  | .Call (.Name x _) es [] _ => if x = "isinstance" then (isCls es).bind fun p => cIs T N hot f sc p.1 p.2 else cCall T hot f sc x es
  | .Call (.Attribute o m apos) es [] pos => if apos.endLine = pos.line ∧ isSuper o = false ∧ hot = false then
      (methO m es.length).bind fun k => (f sc o).bind fun x => (args (f sc) es).map fun y => E.meth k x y
    else none
  | .ListComp elt gs scope _ => cComp T N hot f sc elt gs scope
  | _ => none
end
def compE (T : Tab) (N : List Str) (hot : Bool) : Nat → Rc
  | 0 => fun _ _ => none
  | n + 1 => fun sc e => step T N hot (compE T N hot n) sc e

/-! ### statements -/
def isComp : PySem.Expr → Bool
  | .ListComp _ _ _ _ => true
  | .SetComp _ _ _ _ => true
  | .DictComp _ _ _ _ _ => true
  | _ => false
def isTup : PySem.Expr → Bool
  | .Tuple _ _ _ => true
  | .List _ _ => true
  | _ => false
/-- x = [..] on one line -/
def swapT (sc : Scope) (x : Str) (px : Pos) : PySem.Expr → Bool
  | .ListComp _ _ scope pos => (match sc.names.lookup x with | some .local => true | _ => false) && decide (px.line = pos.line) && !(scope.names.any fun (n, k) => n == x && (k == .local || k == .cell))
  | _ => false
section
variable (T : Tab) (N : List Str) (hot : Bool) (f : Rc) (g : List Stmt → Option S) (h : List Stmt → Option S) (sc : Scope)
def cPar : PySem.Expr → PySem.Expr → Option S
  | .Tuple [.Name x px, .Name y py] _ _, .Tuple [a, b] _ _ =>
    if hot = false ∧ sc.names.lookup x = some .local ∧ sc.names.lookup y = some .local ∧ x ≠ y ∧ px.line = py.line ∧ isStar a = false ∧ isStar b = false ∧ [a, b].all (foldedForSure 8) = false ∧ [a, b].all (constantsAlone 8) = false then
      (slotOf N x).bind fun i => (slotOf N y).bind fun j => (args (f sc) [a, b]).map fun es => S.par i j es
    else none
  | _, _ => none
def cAsg (tg e : PySem.Expr) : Option S := match tg with
  | .Name x px =>
    if isComp e && !swapT sc x px e then
      none
    else (targ N sc tg).bind fun g => (f sc e).map fun y => S.asg g y
  | .Tuple _ _ _ => if isTup e then cPar N hot f sc tg e else if hot ∨ isComp e then none else (targ N sc tg).bind fun g => (f sc e).map fun y => S.asg g y
  | .Subscript a i _ => if hot ∨ isSlice i ∨ isComp e then none else (f sc a).bind fun x => (f sc i).bind fun k => (f sc e).map fun y => S.setix x k y
  | _ => none
def cRaise : PySem.Expr → Option S
  | .Call (.Name x _) [.Constant (.str _) _ _] [] _ => if isGl (sc.names.lookup x) ∧ x ≠ "__debug__" ∧ hot = false then (T.clss.lookup x).map S.raise else none
  | _ => none
def cTry (body : List Stmt) : List ExceptHandler → Option S
  | [.ExceptHandler (some (.Name x _)) none (b :: su) _] =>
    if hot = false ∧ isGl (sc.names.lookup x) ∧ x ≠ "__debug__" then
      (T.clss.lookup x).bind fun c => (g body).bind fun p => (h (b :: su)).map fun q => S.tryx p (T.caught c) (T.passed c) none q
    else none
  | [.ExceptHandler (some (.Name x _)) (some n) (b :: su) _] =>
    if hot = false ∧ isGl (sc.names.lookup x) ∧ x ≠ "__debug__" ∧ sc.names.lookup n = some .local then
      (T.clss.lookup x).bind fun c => (slotOf N n).bind fun i => (g body).bind fun p => (h (b :: su)).map fun q => S.tryx p (T.caught c) (T.passed c) (some i) q
    else none
  | _ => none
def stepS : Stmt → Option S
  | .Return (some e) _ => (f sc e).map S.ret
  | .Return none _ => some (S.ret (E.lit .non))
  | .Assign [tg] e _ => cAsg N hot f sc tg e
  | .AugAssign (.Name x _) op e _ => if isLoc (sc.names.lookup x) then (binO op).bind fun o => (slotOf N x).bind fun i => (f sc e).map fun y => S.aug i o y else none
  | .For tg iter body [] _ => if hot then none else (targ N sc tg).bind fun t => (cWalk T f sc iter).bind fun w => (g body).map fun b => S.loop t w.1 w.2 b
  | .While c body [] _ => if hot then none else (f sc c).bind fun x => (g body).map fun b => S.whl x b
  | .If c a b _ => (f sc c).bind fun x => (g a).bind fun y => (g b).map fun z => S.ite x y z
  | .Raise (some e) none _ => cRaise T hot sc e
  | .Try body hs [] [] _ => cTry T N hot g h sc body hs
  | .Expr e _ => if isComp e then none else (f sc e).map S.exp
  | .Pass _ => some S.skip
  | .Break _ => some S.brk
  | .Continue _ => some S.cont
  | _ => none
def stepSs (p : Stmt → Option S) : List Stmt → Option S
  | [] => some S.skip
  | s :: r => (p s).bind fun a => (stepSs p r).map fun b => S.seq a b
end
def compS (T : Tab) (N : List Str) (sc : Scope) : Nat → Bool → List Stmt → Option S
  | 0 => fun _ _ => none
  | n + 1 => fun hot ss => stepSs (stepS T N hot (compE T N hot n) (compS T N sc n hot) (compS T N sc n true) sc) ss
end MP

set_option Elab.async false
set_option linter.all false
set_option maxRecDepth 100000
set_option maxHeartbeats 2000000
/-! MP3: the operations. -/
namespace MP
open PySem PySem.Spec PyProof.Rows L2
theorem SZ_eq : SZ = sizeLine := by rw [sizeLine_eq]; rfl
theorem le_line {n : Nat} (h : n ≤ SZ) : n ≤ sizeLine := by rw [← SZ_eq]; exact h
section
variable {K : PySem.W.Frag} {xa : Option (Addr × Nat)} {ca : Nat → Addr} {α β : Type} {R : RRel α β} {μ : List Addr} {H : Hp} {T : Store} {W : Value → Option Addr → Hp → Prop} {Q : V → Hp → Prop}
theorem Post.here {v : PV} {x : V} (h : Post K xa ca (rV K xa) μ H (.ok v T) Q W) (s : SR K xa H μ T) (r : Rel K xa H μ v x) : Q x H := h x μ H (Ex.refl _ _) s r
theorem Post.tup {xs : List PV} {vs : List V} (h : Post K xa ca (rV K xa) μ H (.ok (.tup xs) T) Q W) (s : SR K xa H μ T) (r : Rels K xa H μ xs vs) : ∀ p, H p = none → Q (.ref p) (upd H p (.tup vs)) := fun p hp =>
  h _ μ _ (s.other hp).1 (s.other hp).2 (s.tup hp r)
theorem Post.new {xs : List PV} {vs : List V} (h : Post K xa ca (rV K xa) μ H (allocM (.lst xs) T) Q W) (s : SR K xa H μ T) (r : Rels K xa H μ xs vs) : ∀ p, H p = none → Q (.ref p) (upd H p (.lst vs)) := fun p hp => by
  obtain ⟨x, q⟩ := s.alloc hp r
  refine h _ _ _ x q ⟨p, rfl, ?_⟩
  rw [← s.len, List.getElem?_append_right (Nat.le_refl _), Nat.sub_self] <;> rfl
theorem Post.wr {n : Nat} {a : Addr} {xs : List PV} {vs : List V} {v : PV} {x : V} (h : Post K xa ca (rV K xa) μ H (.ok v (T.set n (MO.lst xs))) Q W) (s : SR K xa H μ T) (ha : μ[n]? = some a) (r : Rels K xa H μ xs vs) (rv : Rel K xa H μ v x) : Q x (upd H a (.lst vs)) := by
  obtain ⟨e, q⟩ := s.write ha r
  exact h _ _ _ e q (Rel.mono s e _ _ rv)
theorem SR.ref (s : SR K xa H μ T) {n : Nat} {x : V} {xs : List PV} (r : Rel K xa H μ (.ref n) x) (h : T[n]? = some (MO.lst xs)) : ∃ a vs, x = .ref a ∧ μ[n]? = some a ∧ H a = some (.lst vs) ∧ Rels K xa H μ xs vs := by
  obtain ⟨a, rfl, ha⟩ := r
  obtain ⟨vs, h1, h2⟩ := s.lst n a xs ha h
  exact ⟨a, vs, rfl, ha, h1, h2⟩

/-! ### plain data -/
theorem flat_flatV {v : PV} {x : V} (r : Rel K xa H μ v x) (h : flat v = true) : flatV x = true := by
  cases v <;> first | exact absurd (show false = true from h) Bool.false_ne_true | (cases r; rfl)
theorem flats_flatV : ∀ {vs : List PV} {xs : List V}, Rels K xa H μ vs xs → vs.all flat = true → xs.all flatV = true
  | [], _, r, _ => by rw [show _ = _ from r] <;> rfl
  | v :: vs, _, r, h => by
    obtain ⟨x, xs, rfl, r1, r2⟩ := r
    rw [List.all_cons, Bool.and_eq_true] at h
    rw [List.all_cons, flat_flatV r1 h.1, flats_flatV r2 h.2] <;> rfl
theorem str_beq (a b : List Nat) : ((⟨a.toArray⟩ : Str) == ⟨b.toArray⟩) = (a == b) := SX.S_beq a b
theorem peq_eqV {v w : PV} {x y : V} (r : Rel K xa H μ v x) (q : Rel K xa H μ w y) (h : flat v = true) (h' : flat w = true) : eqV x y = peq v w := by
  cases v <;> first
    | exact absurd (show false = true from h) Bool.false_ne_true
    | (cases r; cases w <;> first | exact absurd (show false = true from h') Bool.false_ne_true | (cases q; first | rfl | (exact str_beq _ _)))
theorem inSeq_inV : ∀ {vs : List PV} {xs : List V} {w : PV} {y : V}, Rels K xa H μ vs xs → Rel K xa H μ w y → vs.all flat = true → flat w = true → inV y xs = inSeq w vs
  | [], _, w, y, r, _, _, _ => by rw [show _ = _ from r] <;> rfl
  | v :: vs, _, w, y, r, q, h, h' => by
    obtain ⟨x, xs, rfl, r1, r2⟩ := r
    rw [List.all_cons, Bool.and_eq_true] at h
    unfold inV
    rw [List.any_cons]
    unfold inSeq
    have ih : inV y xs = inSeq w vs := inSeq_inV r2 q h.2 h'
    unfold inV at ih
    rw [ih, peq_eqV r1 q h.1 h']
mutual
def toD : PV → PyData
  | .bl b => .bool b
  | .int i => .int i
  | .str s => .str ⟨s.toArray⟩
  | .tup xs => .tuple (toDs xs)
  | _ => .none
def toDs : List PV → List PyData
  | [] => []
  | x :: xs => toD x :: toDs xs
end
mutual
theorem toD_dp : ∀ (n : Nat) (v : PV) (x : V), Rel K xa H μ v x → plainD n v = true → Dp K H x (toD v)
  | _, .non, _, r, _ => by cases r; exact .non
  | _, .bl _, _, r, _ => by cases r; exact .bl _
  | _, .int _, _, r, _ => by cases r; exact .int _
  | _, .str _, _, r, _ => by cases r; exact .str _
  | 0, .tup _, _, _, h => by simp [plainD] at h
  | n + 1, .tup xs, _, r, h => by
    obtain ⟨a, vs, rfl, s, q⟩ := r
    exact .tup s (toDs_dp n xs vs q (by simpa [plainD] using h))
  | _, .frz _, _, _, h => by simp [plainD] at h
  | _, .ref _, _, _, h => by simp [plainD] at h
  | _, .exc _, _, _, h => by simp [plainD] at h
theorem toDs_dp : ∀ (n : Nat) (vs : List PV) (xs : List V), Rels K xa H μ vs xs → plainDs n vs = true → DpAll K H xs (toDs vs)
  | _, [], _, r, _ => by rw [show _ = _ from r]; exact .nil
  | n, v :: vs, _, r, h => by
    obtain ⟨x, xs, rfl, r1, r2⟩ := r
    have h : (plainD n v && plainDs n vs) = true := by simpa [plainDs] using h
    rw [Bool.and_eq_true] at h
    exact .cons (toD_dp n v x r1 h.1) (toDs_dp n vs xs r2 h.2)
end
mutual
theorem toD_can : ∀ (n : Nat) (v : PV), plainD n v = true → (toD v).canLay0 = true ∧ (toD v).depth ≤ n
  | _, .non, _ => ⟨rfl, Nat.zero_le _⟩
  | _, .bl _, _ => ⟨rfl, Nat.zero_le _⟩
  | _, .int _, _ => ⟨rfl, Nat.zero_le _⟩
  | _, .str s, h => ⟨by
      have h : (s.all fun c => decide (c < 1114112)) = true := by simpa [plainD] using h
      show ((⟨s.toArray⟩ : Str).cps.all (· < 0x110000)) = true
      simpa using h, Nat.zero_le _⟩
  | 0, .tup _, h => by simp [plainD] at h
  | n + 1, .tup xs, h => by
    obtain ⟨h1, h2⟩ := toDs_can n xs (by simpa [plainD] using h)
    exact ⟨h1, Nat.succ_le_succ h2⟩
  | _, .frz _, h => by simp [plainD] at h
  | _, .ref _, h => by simp [plainD] at h
  | _, .exc _, h => by simp [plainD] at h
theorem toDs_can : ∀ (n : Nat) (vs : List PV), plainDs n vs = true → PyData.canLayAll0 (toDs vs) = true ∧ PyData.depthAll (toDs vs) ≤ n
  | _, [], _ => ⟨rfl, Nat.zero_le _⟩
  | n, v :: vs, h => by
    have h : (plainD n v && plainDs n vs) = true := by simpa [plainDs] using h
    rw [Bool.and_eq_true] at h
    obtain ⟨a1, a2⟩ := toD_can n v h.1
    obtain ⟨b1, b2⟩ := toDs_can n vs h.2
    exact ⟨by show (PyData.canLay0 (toD v) && PyData.canLayAll0 (toDs vs)) = true; rw [a1, b1] <;> rfl, Nat.max_le.mpr ⟨a2, b2⟩⟩
end
theorem toD_shaped {v : PV} (h : plainD 60 v = true) : SeqAt.shaped (toD v) = true := by
  obtain ⟨a, b⟩ := toD_can 60 v h
  unfold SeqAt.shaped
  rw [a, Bool.true_and]
  exact decide_eq_true (by omega)
mutual
theorem toD_eqv : ∀ (n m : Nat) (v w : PV), plainD n v = true → plainD m w = true → PyData.eqv (toD v) (toD w) = peq v w
  | n, m, v, w, h, h' => by
    cases v with
    | frz _ => simp [plainD] at h
    | ref _ => simp [plainD] at h
    | exc _ => simp [plainD] at h
    | tup xs =>
      cases n with
      | zero => simp [plainD] at h
      | succ n =>
        cases w with
        | frz _ => simp [plainD] at h'
        | ref _ => simp [plainD] at h'
        | exc _ => simp [plainD] at h'
        | tup ys =>
          cases m with
          | zero => simp [plainD] at h'
          | succ m =>
            have z := toDs_eqv n m xs ys (by simpa [plainD] using h) (by simpa [plainD] using h')
            simpa [toD, PyData.eqv, peq] using z
        | _ => simp [toD, PyData.eqv, peq]
    | str s =>
      cases w with
      | frz _ => simp [plainD] at h'
      | ref _ => simp [plainD] at h'
      | exc _ => simp [plainD] at h'
      | str t => simp only [toD, PyData.eqv, peq]; exact str_beq _ _
      | _ => simp [toD, PyData.eqv, peq]
    | _ =>
      cases w with
      | frz _ => simp [plainD] at h'
      | ref _ => simp [plainD] at h'
      | exc _ => simp [plainD] at h'
      | _ => simp [toD, PyData.eqv, peq]
theorem toDs_eqv : ∀ (n m : Nat) (vs ws : List PV), plainDs n vs = true → plainDs m ws = true → PyData.eqvAll (toDs vs) (toDs ws) = peqs vs ws
  | n, m, [], [], _, _ => rfl
  | n, m, [], w :: ws, _, _ => rfl
  | n, m, v :: vs, [], _, _ => rfl
  | n, m, v :: vs, w :: ws, h, h' => by
    have h : (plainD n v && plainDs n vs) = true := by simpa [plainDs] using h
    have h' : (plainD m w && plainDs m ws) = true := by simpa [plainDs] using h'
    rw [Bool.and_eq_true] at h h'
    show (PyData.eqv (toD v) (toD w) && PyData.eqvAll (toDs vs) (toDs ws)) = (peq v w && peqs vs ws)
    rw [toD_eqv n m v w h.1 h'.1, toDs_eqv n m vs ws h.2 h'.2]
end
end

/-- what an operation of two values asks -/
def rBi (K : PySem.W.Frag) (xa : Option (Addr × Nat)) (ca : Nat → Addr) (f : PV → PV → Store → Res PV) : R2 := fun x y H Q =>
  ∃ v w μ T W, SR K xa H μ T ∧ Rel K xa H μ v x ∧ Rel K xa H μ w y ∧ Post K xa ca (rV K xa) μ H (f v w T) Q W
/-- a comparison -/
def rCp (K : PySem.W.Frag) (xa : Option (Addr × Nat)) (f : PV → PV → Store → Option Bool) : R2 := fun x y H Q =>
  ∃ v w μ T b, SR K xa H μ T ∧ Rel K xa H μ v x ∧ Rel K xa H μ w y ∧ f v w T = some b ∧ Q (.bl b) H
def rCl (K : PySem.W.Frag) (xa : Option (Addr × Nat)) (ca : Nat → Addr) (f : List PV → Store → Res PV) : List V → Hp → VK → Prop := fun xs H Q =>
  ∃ vs μ T W, SR K xa H μ T ∧ Rels K xa H μ vs xs ∧ Post K xa ca (rV K xa) μ H (f vs T) Q W
def rMt (K : PySem.W.Frag) (xa : Option (Addr × Nat)) (ca : Nat → Addr) (f : PV → List PV → Store → Res PV) : V → List V → Hp → VK → Prop := fun x xs H Q =>
  ∃ v vs μ T W, SR K xa H μ T ∧ Rel K xa H μ v x ∧ Rels K xa H μ vs xs ∧ Post K xa ca (rV K xa) μ H (f v vs T) Q W
theorem pow64 : (18446744073709551616 : Nat) = 2 ^ 64 := by decide
section
variable {X : Cx} {xa : Option (Addr × Nat)} {ca : Nat → Addr}
theorem str_app (a b : List Nat) : (⟨a.toArray⟩ : Str) ++ ⟨b.toArray⟩ = ⟨(a ++ b).toArray⟩ := SX.S_cat a b
theorem str_len (a : List Nat) : (⟨a.toArray⟩ : Str).length = a.length := SX.S_len a
theorem op_bin (o : BinO) (op : Operator) (e : binO op = some o) : OpR X (binaryOp op) (rBi X.K xa ca (binOp o)) := by
  rintro pins s σ H x y v u Q I rx ry ⟨a, b, μ, T, W, sr, ra, rb, h⟩
  unfold binOp at h
  split at h
  · -- int + int
    cases op <;> first | cases e | skip
    cases ra; cases rb
    exact op_add pins s σ H _ _ v u Q I rx ry ⟨_, _, rfl, rfl, h.here sr rfl⟩
  · cases op <;> first | cases e | skip
    split at h
    · rename_i hz
      cases ra; cases rb
      exact op_add_str pins s σ H _ _ v u Q I rx ry ⟨_, _, rfl, rfl, by rw [str_len, str_len]; exact le_line hz, h.here sr (show V.str _ = V.str _ by rw [str_app])⟩
    · exact h.elim
  · cases op <;> first | cases e | skip
    split at h
    · rename_i xs ys hz
      obtain ⟨a1, vs, rfl, s1, q1⟩ := ra
      obtain ⟨a2, ws, rfl, s2, q2⟩ := rb
      have hr := q1.append q2
      refine op_catA pins s σ H _ _ v u Q I rx ry ⟨a1, a2, vs, ws, rfl, rfl, s1, s2, by rw [← q1.length, ← q2.length]; exact le_line hz, fun z => ?_, fun _ z => ?_, fun _ _ => h.tup sr hr⟩
      · subst z
        exact h.here sr ⟨a2, _, rfl, s2, hr⟩
      · subst z
        exact h.here sr ⟨a1, _, rfl, s1, by simpa using hr⟩
    · exact h.elim
  · cases op <;> first | cases e | skip
    split at h
    · rename_i xs ys h1 h2
      split at h
      · rename_i hz
        obtain ⟨a1, vs, rfl, m1, s1, q1⟩ := sr.ref ra h1
        obtain ⟨a2, ws, rfl, m2, s2, q2⟩ := sr.ref rb h2
        exact op_cat pins s σ H _ _ v u Q I rx ry ⟨a1, a2, vs, ws, rfl, rfl, s1, s2, by rw [← q1.length, ← q2.length]; exact le_line hz, h.new sr (q1.append q2)⟩
      · exact h.elim
    · exact h.elim
  · cases op <;> first | cases e | skip
    cases ra; cases rb
    exact op_sub pins s σ H _ _ v u Q I rx ry ⟨_, _, rfl, rfl, h.here sr rfl⟩
  · cases op <;> first | cases e | skip
    split at h
    · rename_i hz
      cases ra; cases rb
      exact op_mulW pins s σ H _ _ v u Q I rx ry ⟨_, _, rfl, rfl, hz, h.here sr rfl⟩
    · exact h.elim
  · cases op <;> first | cases e | skip
    split at h
    · rename_i hz
      cases ra; cases rb
      exact op_fdivW pins s σ H _ _ v u Q I rx ry ⟨_, _, rfl, rfl, hz, h.here sr rfl⟩
    · exact h.elim
  · cases op <;> first | cases e | skip
    split at h
    · rename_i hz
      cases ra; cases rb
      exact op_mod pins s σ H _ _ v u Q I rx ry ⟨_, _, rfl, rfl, hz, h.here sr rfl⟩
    · exact h.elim
  · cases op <;> first | cases e | skip
    split at h
    · rename_i hz
      cases ra; cases rb
      exact op_pow pins s σ H _ _ v u Q I rx ry ⟨_, _, rfl, rfl, ⟨hz.1, hz.2.1, by rw [← pow64]; exact hz.2.2⟩, h.here sr rfl⟩
    · exact h.elim
  · exact h.elim
theorem op_eq_all (hu : X.A.units + 64 < cLine) {a b : PV} {μ : List Addr} {H : Hp} {T : Store} {x y : V} {Q : VK} (sr : SR X.K xa H μ T) (ra : Rel X.K xa H μ a x) (rb : Rel X.K xa H μ b y)
    {pins s σ} {v u : Value} (I : Inv X pins σ H s) (rx : RelV x v) (ry : RelV y u) (hp : plainD 60 a = true ∧ plainD 60 b = true) (q : Q (.bl (peq a b)) H) :
    wpAny (model X.prog X.w) X.A (compareOp .Eq v u) (EP X pins σ Q) X.xe s :=
  op_eqD hu pins s σ H x y v u Q I rx ry ⟨toD a, toD b, toD_dp 60 a x ra hp.1, toD_dp 60 b y rb hp.2, toD_shaped hp.1, toD_shaped hp.2, by rw [toD_eqv 60 60 a b hp.1 hp.2]; exact q⟩
theorem op_ne_all (hu : X.A.units + 64 < cLine) {a b : PV} {μ : List Addr} {H : Hp} {T : Store} {x y : V} {Q : VK} (sr : SR X.K xa H μ T) (ra : Rel X.K xa H μ a x) (rb : Rel X.K xa H μ b y)
    {pins s σ} {v u : Value} (I : Inv X pins σ H s) (rx : RelV x v) (ry : RelV y u) (hp : plainD 60 a = true ∧ plainD 60 b = true) (q : Q (.bl (!peq a b)) H) :
    wpAny (model X.prog X.w) X.A (compareOp .NotEq v u) (EP X pins σ Q) X.xe s :=
  op_neD hu pins s σ H x y v u Q I rx ry ⟨toD a, toD b, toD_dp 60 a x ra hp.1, toD_dp 60 b y rb hp.2, toD_shaped hp.1, toD_shaped hp.2, by rw [toD_eqv 60 60 a b hp.1 hp.2]; exact q⟩
theorem str_dec (a b : List Nat) : decide (V.str ⟨a.toArray⟩ = V.str ⟨b.toArray⟩) = (a == b) := by
  rw [dec_str]; exact str_beq a b
/-- == of flat values of any kinds -/
theorem scal_peq {a b : PV} {μ : List Addr} {H : Hp} {x y : V} (ra : Rel X.K xa H μ a x) (rb : Rel X.K xa H μ b y) (ha : flat a = true) (hb : flat b = true) :
    (scal x y = true ∧ decide (x = y) = peq a b) ∨ (plainD 60 a = true ∧ plainD 60 b = true) := by
  cases a <;> first | exact absurd (show false = true from ha) Bool.false_ne_true | skip
  all_goals cases ra
  all_goals (cases b <;> first | exact absurd (show false = true from hb) Bool.false_ne_true | skip)
  all_goals cases rb
  all_goals first
    | exact .inl ⟨rfl, rfl⟩
    | exact .inl ⟨rfl, str_dec _ _⟩
    | exact .inl ⟨rfl, dec_int⟩
    | exact .inl ⟨rfl, dec_bl⟩
    | exact .inl ⟨rfl, by simp [peq]⟩
    | exact .inr ⟨rfl, rfl⟩
theorem isNonV_eq {K : PySem.W.Frag} {H : Hp} {μ : List Addr} {a : PV} {x : V} (ra : Rel K xa H μ a x) : isNonV a = decide (x = V.non) := by
  cases a with
  | tup xs => obtain ⟨_, _, rfl, _⟩ := ra; rfl
  | frz xs => obtain ⟨_, _, rfl, _⟩ := ra; rfl
  | ref n => obtain ⟨_, rfl, _⟩ := ra; rfl
  | exc n => exact ra.2.elim
  | _ => cases ra; rfl
theorem op_cmpA (hu : X.A.units + 64 < cLine) (op : PySem.CmpOp) : OpR X (compareOp op) (rCp X.K xa (cmpOp (cmpO op))) := by
  rintro pins s σ H x y v u Q I rx ry ⟨a, b, μ, T, r, sr, ra, rb, h, q⟩
  unfold cmpOp at h
  split at h
  · rename_i e
    cases op <;> first | cases e | skip
    cases ra; cases rb; cases h
    exact op_isBl pins s σ H _ _ v u Q I rx ry ⟨_, _, rfl, rfl, by rw [← dec_bl] at q; simpa using q⟩
  · rename_i e
    cases op <;> first | cases e | skip
    cases ra; cases rb; cases h
    exact op_notBl pins s σ H _ _ v u Q I rx ry ⟨_, _, rfl, rfl, by simpa [bne, Bool.beq_eq_decide_eq] using q⟩
  · rename_i e
    cases op <;> first | cases e | skip
    cases rb; cases h
    exact op_isN pins s σ H _ _ v u Q I rx ry ⟨rfl, by rw [← isNonV_eq ra]; exact q⟩
  · rename_i e
    cases op <;> first | cases e | skip
    cases rb; cases h
    exact op_notN pins s σ H _ _ v u Q I rx ry ⟨rfl, by rw [← isNonV_eq ra]; exact q⟩
  · rename_i e
    cases op <;> first | cases e | skip
    cases ra; cases rb; cases h
    exact op_lt pins s σ H _ _ v u Q I rx ry ⟨_, _, rfl, rfl, q⟩
  · rename_i e
    cases op <;> first | cases e | skip
    cases ra; cases rb; cases h
    exact op_le pins s σ H _ _ v u Q I rx ry ⟨_, _, rfl, rfl, q⟩
  · rename_i e
    cases op <;> first | cases e | skip
    cases ra; cases rb; cases h
    exact op_gt pins s σ H _ _ v u Q I rx ry ⟨_, _, rfl, rfl, q⟩
  · rename_i e
    cases op <;> first | cases e | skip
    cases ra; cases rb; cases h
    exact op_ge pins s σ H _ _ v u Q I rx ry ⟨_, _, rfl, rfl, q⟩
  · rename_i e
    cases op <;> first | cases e | skip
    cases ra; cases rb; cases h
    exact op_lt_str pins s σ H _ _ v u Q I rx ry ⟨_, _, rfl, rfl, by simpa using q⟩
  · rename_i e
    cases op <;> first | cases e | skip
    cases ra; cases rb; cases h
    exact op_le_str pins s σ H _ _ v u Q I rx ry ⟨_, _, rfl, rfl, by simpa using q⟩
  · rename_i e
    cases op <;> first | cases e | skip
    cases ra; cases rb; cases h
    exact op_gt_str pins s σ H _ _ v u Q I rx ry ⟨_, _, rfl, rfl, by simpa using q⟩
  · rename_i e
    cases op <;> first | cases e | skip
    cases ra; cases rb; cases h
    exact op_ge_str pins s σ H _ _ v u Q I rx ry ⟨_, _, rfl, rfl, by simpa using q⟩
  · rename_i e
    cases op <;> first | cases e | skip
    split at h
    · rename_i hf
      rw [Bool.and_eq_true] at hf
      cases h
      rcases scal_peq ra rb hf.1 hf.2 with ⟨z1, z2⟩ | z
      · exact op_eq pins s σ H _ _ v u Q I rx ry ⟨z1, by rw [z2]; exact q⟩
      · exact op_eq_all hu sr ra rb I rx ry z q
    · split at h
      · rename_i hp
        rw [Bool.and_eq_true] at hp
        cases h
        exact op_eq_all hu sr ra rb I rx ry hp q
      · cases h
  · rename_i e
    cases op <;> first | cases e | skip
    split at h
    · rename_i hf
      rw [Bool.and_eq_true] at hf
      cases h
      rcases scal_peq ra rb hf.1 hf.2 with ⟨z1, z2⟩ | z
      · exact op_ne pins s σ H _ _ v u Q I rx ry ⟨z1, by rw [z2]; exact q⟩
      · exact op_ne_all hu sr ra rb I rx ry z q
    · split at h
      · rename_i hp
        rw [Bool.and_eq_true] at hp
        cases h
        exact op_ne_all hu sr ra rb I rx ry hp q
      · cases h
  · rename_i e
    cases op <;> first | cases e | skip
    cases ra; cases rb; cases h
    exact op_in_sign pins s σ H _ _ v u Q I rx ry ⟨_, _, rfl, rfl, by simpa using q⟩
  · rename_i e
    cases op <;> first | cases e | skip
    cases ra; cases rb; cases h
    exact op_notIn_sign pins s σ H _ _ v u Q I rx ry ⟨_, _, rfl, rfl, by simpa using q⟩
  · rename_i e
    cases op <;> first | cases e | skip
    split at h
    · rename_i hf
      rw [Bool.and_eq_true] at hf
      cases h
      obtain ⟨p, vs, rfl, s1, q1⟩ := rb
      exact op_in_seq pins s σ H _ _ v u Q I rx ry ⟨p, vs, rfl, .inr s1, flat_flatV ra hf.1, flats_flatV q1 hf.2, by rw [inSeq_inV q1 ra hf.2 hf.1]; exact q⟩
    · cases h
  · rename_i e
    cases op <;> first | cases e | skip
    split at h
    · rename_i hf
      rw [Bool.and_eq_true] at hf
      cases h
      obtain ⟨p, vs, rfl, s1, q1⟩ := rb
      exact op_notIn_seq pins s σ H _ _ v u Q I rx ry ⟨p, vs, rfl, .inr s1, flat_flatV ra hf.1, flats_flatV q1 hf.2, by rw [inSeq_inV q1 ra hf.2 hf.1]; exact q⟩
    · cases h
  · rename_i e
    cases op <;> first | cases e | skip
    split at h
    · rename_i xs hl
      split at h
      · rename_i hf
        rw [Bool.and_eq_true] at hf
        cases h
        obtain ⟨p, vs, rfl, m1, s1, q1⟩ := sr.ref rb hl
        exact op_in_seq pins s σ H _ _ v u Q I rx ry ⟨p, vs, rfl, .inl (.of s1), flat_flatV ra hf.1, flats_flatV q1 hf.2, by rw [inSeq_inV q1 ra hf.2 hf.1]; exact q⟩
      · cases h
    · cases h
  · rename_i e
    cases op <;> first | cases e | skip
    split at h
    · rename_i xs hl
      split at h
      · rename_i hf
        rw [Bool.and_eq_true] at hf
        cases h
        obtain ⟨p, vs, rfl, m1, s1, q1⟩ := sr.ref rb hl
        exact op_notIn_seq pins s σ H _ _ v u Q I rx ry ⟨p, vs, rfl, .inl (.of s1), flat_flatV ra hf.1, flats_flatV q1 hf.2, by rw [inSeq_inV q1 ra hf.2 hf.1]; exact q⟩
      · cases h
    · cases h
  · cases h
end
end MP

set_option Elab.async false
set_option linter.all false
set_option maxRecDepth 100000
set_option maxHeartbeats 2000000
/-! MP3b: truth, subscripts, slices, isinstance, built-in functions, methods. -/
namespace MP
open PySem PySem.Spec PyProof.Rows L2
section
variable {X : Cx} {xa : Option (Addr × Nat)} {ca : Nat → Addr}
/-- truth -/
theorem truV_of {K : PySem.W.Frag} {H : Hp} {μ : List Addr} {T : Store} {v : PV} {x : V} {k : Bool} (sr : SR K xa H μ T) (r : Rel K xa H μ v x) (h : truthM T v = some k) : TruV K x H k := by
  cases v with
  | non => cases r; cases h; rfl
  | bl b => cases r; cases h; rfl
  | int i => cases r; cases h; rfl
  | str s =>
    cases r
    have h : (if s.length ≤ SZ then some (!s.isEmpty) else none) = some k := h
    split at h
    · rename_i hz
      cases h
      refine ⟨by rw [str_len]; exact le_line hz, ?_⟩
      rw [str_len]
      cases s <;> simp
      omega
    · cases h
  | tup xs =>
    obtain ⟨a, vs, rfl, s, q⟩ := r
    cases h
    refine .inr (.inl ⟨vs, s, ?_⟩)
    have := q.length
    cases xs <;> cases vs <;> simp at this ⊢
  | frz xs =>
    obtain ⟨a, vs, rfl, s, q⟩ := r
    cases h
    refine .inl ⟨vs, s.sql, ?_⟩
    have := q.length
    cases xs <;> cases vs <;> simp at this ⊢
  | ref n =>
    have h : (match T[n]? with | some (.lst xs) => some (!xs.isEmpty) | none => none) = some k := h
    split at h
    · rename_i xs hl
      cases h
      obtain ⟨p, vs, rfl, m1, s1, q1⟩ := sr.ref r hl
      refine .inl ⟨vs, .of s1, ?_⟩
      have := q1.length
      cases xs <;> cases vs <;> simp at this ⊢
    · cases h
  | exc n => cases h

theorem sqT_or {K : PySem.W.Frag} {H : Hp} {μ : List Addr} {T : Store} {v : PV} {x : V} {xs : List PV} (sr : SR K xa H μ T) (r : Rel K xa H μ v x) (h : items T v = some xs) :
    ∃ a vs, x = .ref a ∧ (SqL K H a vs ∨ SqT K H a vs) ∧ Rels K xa H μ xs vs := by
  cases v with
  | tup ys =>
    obtain ⟨a, vs, rfl, s, q⟩ := r
    cases h
    exact ⟨a, vs, rfl, .inr s, q⟩
  | frz ys =>
    obtain ⟨a, vs, rfl, s, q⟩ := r
    cases h
    exact ⟨a, vs, rfl, .inl s.sql, q⟩
  | ref n =>
    have h : (match T[n]? with | some (.lst xs) => some xs | none => none) = some xs := h
    split at h
    · rename_i ys hl
      cases h
      obtain ⟨p, vs, rfl, m1, s1, q1⟩ := sr.ref r hl
      exact ⟨p, vs, rfl, .inl (.of s1), q1⟩
    · cases h
  | _ => cases h
theorem normI_eq (n : Nat) (i : Int) : normI n i = ixN n i := rfl
theorem ix_all : IxR X (fun x y H Q => ∃ v w μ T u, SR X.K xa H μ T ∧ Rel X.K xa H μ v x ∧ Rel X.K xa H μ w y ∧ idxOp v w T = some u ∧ ∀ z, Rel X.K xa H μ u z → Q z H) := by
  rintro value slice pins s σ H x y v u Q I rx ry ⟨a, b, μ, T, r, sr, ra, rb, h, q⟩ hs
  unfold idxOp at h
  split at h
  · rename_i t k
    split at h
    · rename_i hz
      cases ra; cases rb
      rw [normI_eq] at h
      cases e : ixN t.length k with
      | none => rw [e] at h; cases h
      | some j =>
        rw [e] at h
        have h : (t[j]?).map (fun c => PV.str [c]) = some r := h
        cases e2 : t[j]? with
        | none => rw [e2] at h; cases h
        | some c =>
          rw [e2] at h; cases h
          refine ix_str value slice pins s σ H _ _ v u Q I rx ry ⟨_, _, c, rfl, rfl, by rw [str_len]; exact le_line hz, ?_, q _ rfl⟩ hs
          show (ixN t.length k).bind _ = _
          rw [e]
          exact e2
    · cases h
  · rename_i v1 k _
    cases rb
    cases e : items T a with
    | none => rw [e] at h; cases h
    | some xs =>
      rw [e] at h
      have h : ((normI xs.length k).bind fun j => xs[j]?) = some r := h
      obtain ⟨p, vs, rfl, hp, rs⟩ := sqT_or sr ra e
      rw [normI_eq] at h
      cases e2 : ixN xs.length k with
      | none => rw [e2] at h; cases h
      | some j =>
        rw [e2] at h
        obtain ⟨z, hz, rz⟩ := rs.get (show xs[j]? = some r from h)
        have hat : atI vs k = some z := by
          show (ixN vs.length k).bind _ = _
          rw [← rs.length, e2]
          exact hz
        rcases hp with hp | hp
        · exact ix_list value slice pins s σ H _ _ v u Q I rx ry ⟨p, vs, _, z, rfl, rfl, hp, hat, q z rz⟩ hs
        · exact ix_tup value slice pins s σ H _ _ v u Q I rx ry ⟨p, vs, _, z, rfl, rfl, hp, hat, q z rz⟩ hs
  · cases h

/-- a slice's end by what the part gave -/
def PtR (b : Bool) (w : PV) (o : Option Int) : Prop := (b = false ∧ o = none) ∨ (b = true ∧ ∃ i, w = .int i ∧ o = some i)
theorem clip_sIx {n d : Nat} {b : Bool} {w : PV} {o : Option Int} {k : Nat} (p : PtR b w o) (h : clipI n d b w = some k) : HT.sIx n d o = k := by
  unfold clipI at h
  rcases p with ⟨rfl, rfl⟩ | ⟨rfl, i, rfl, rfl⟩
  · rw [if_neg (by decide)] at h; cases h; rfl
  · rw [if_pos rfl] at h; cases h; rfl
theorem sl_all : SlR X (fun x lo hi H Q => ∃ v w1 w2 pl ph μ T W, SR X.K xa H μ T ∧ Rel X.K xa H μ v x ∧ PtR pl w1 lo ∧ PtR ph w2 hi ∧ Post X.K xa ca (rV X.K xa) μ H (sliceOp pl ph v w1 w2 T) Q W) := by
  rintro pins s σ H x v vl vu lo hi sl Q I rx hs p1 p2 ⟨a, w1, w2, pl, ph, μ, T, W, sr, ra, q1, q2, h⟩
  unfold sliceOp at h
  split at h
  · rename_i t
    split at h
    · rename_i i j e1 e2
      split at h
      · rename_i hz
        cases ra
        refine sl_str pins s σ H _ v vl vu lo hi sl Q I rx hs p1 p2 ⟨_, rfl, by rw [str_len]; exact le_line hz, h.here sr ?_⟩
        show V.str (cutS _ lo hi) = _
        unfold cutS
        rw [str_len, clip_sIx q1 e1, clip_sIx q2 e2] <;> rfl
      · exact h.elim
    · exact h.elim
  · rename_i xs
    split at h
    · rename_i i j e1 e2
      obtain ⟨p, vs, rfl, s1, r1⟩ := ra
      have hl := r1.length
      rw [hl] at e1 e2
      have hc : cutV vs lo hi = cut vs i j := by
        unfold cutV cut
        rw [clip_sIx q1 e1, clip_sIx q2 e2]
      have hr : Rels X.K xa H μ (cut xs i j) (cut vs i j) := (r1.drop i).take _
      refine sl_tupA pins s σ H _ v vl vu lo hi sl Q I rx hs p1 p2 ⟨p, vs, rfl, s1, fun z => ?_, fun z => ?_⟩
      · rw [clip_sIx q1 e1, clip_sIx q2 e2] at z
        obtain ⟨z1, z2⟩ := z
        refine h.here sr ⟨p, vs, rfl, s1, ?_⟩
        have : cut vs i j = vs := by unfold cut; rw [z1, z2]; simp
        rw [this] at hr
        exact hr
      · rw [hc]
        exact h.tup sr hr
    · exact h.elim
  · rename_i n
    split at h
    · rename_i xs hl
      split at h
      · rename_i i j e1 e2
        obtain ⟨p, vs, rfl, m1, s1, r1⟩ := sr.ref ra hl
        have hl := r1.length
        rw [hl] at e1 e2
        have hc : cutV vs lo hi = cut vs i j := by
          unfold cutV cut
          rw [clip_sIx q1 e1, clip_sIx q2 e2]
        refine sl_list pins s σ H _ v vl vu lo hi sl Q I rx hs p1 p2 ⟨p, vs, rfl, .of s1, ?_⟩
        rw [hc]
        exact h.new sr ((r1.drop i).take _)
      · exact h.elim
    · exact h.elim
  · exact h.elim
/-- -x -/
theorem un_negA : UnR X (unaryOp .USub) (fun x H Q => ∃ v μ, Rel X.K xa H μ v x ∧ ∃ i, v = .int i ∧ Q (.int (-i)) H) := by
  rintro pins s σ H x v Q I rx ⟨a, μ, ra, i, rfl, q⟩
  cases ra
  exact un_neg pins s σ H _ v Q I rx ⟨i, rfl, q⟩

def tyName : Tyq → String
  | .int => "int"
  | .bool => "bool"
  | .str => "str"
  | .tuple => "tuple"
  | .list => "list"
  | .cls _ => ""
theorem isInst_ok {K : PySem.W.Frag} {H : Hp} {μ : List Addr} {T : Store} {v : PV} {x : V} {t : Tyq} {b : Bool} (sr : SR K xa H μ T) (r : Rel K xa H μ v x) (h : isInst v t = some b) :
    ∃ u, TyX K H x u ∧ PySem.W.kitOne K u (.type (tyName t)) = some b := by
  cases v with
  | non =>
    cases r
    refine ⟨_, .base .non, ?_⟩
    cases t <;> cases h <;> exact kit_ty (by decide +kernel)
  | bl b =>
    cases r
    refine ⟨_, .base (.bl _), ?_⟩
    cases t <;> cases h <;> exact kit_ty (by decide +kernel)
  | int b =>
    cases r
    refine ⟨_, .base (.int _), ?_⟩
    cases t <;> cases h <;> exact kit_ty (by decide +kernel)
  | str b =>
    cases r
    refine ⟨_, .base (.str _), ?_⟩
    cases t <;> cases h <;> exact kit_ty (by decide +kernel)
  | tup xs =>
    obtain ⟨a, vs, rfl, s, q⟩ := r
    have : TyX K H (.ref a) (.type "tuple") := by
      rcases s with (s | ⟨o, s⟩) | ⟨o, its, n, e, c, _⟩
      · exact .base (.tup s)
      · exact .fTuple s
      · exact .kTuple e c
    refine ⟨_, this, ?_⟩
    cases t <;> cases h <;> exact kit_ty (by decide +kernel)
  | _ => cases t <;> cases h
end
end MP

set_option Elab.async false
set_option linter.all false
set_option maxRecDepth 100000
set_option maxHeartbeats 2000000
/-! MP3c: built-in functions, methods. -/
namespace MP
open PySem PySem.Spec PyProof.Rows L2
section
variable {K : PySem.W.Frag} {xa : Option (Addr × Nat)} {H : Hp} {μ : List Addr}
theorem Rels.nil_inv {vs : List V} (r : Rels K xa H μ [] vs) : vs = [] := r
theorem Rels.one_inv {p : PV} {vs : List V} (r : Rels K xa H μ [p] vs) : ∃ x, vs = [x] ∧ Rel K xa H μ p x := by
  obtain ⟨x, ws, rfl, r1, r2⟩ := r
  cases (show ws = [] from r2)
  exact ⟨x, rfl, r1⟩
theorem Rels.two_inv {p q : PV} {vs : List V} (r : Rels K xa H μ [p, q] vs) : ∃ x y, vs = [x, y] ∧ Rel K xa H μ p x ∧ Rel K xa H μ q y := by
  obtain ⟨x, ws, rfl, r1, r2⟩ := r
  obtain ⟨y, rfl, r3⟩ := Rels.one_inv r2
  exact ⟨x, y, rfl, r1, r3⟩
theorem rels_bools : ∀ {xs : List PV} {vs : List V} {bs : List Bool}, Rels K xa H μ xs vs → boolsOf xs = some bs → vs = bs.map V.bl
  | [], _, _, r, h => by cases h; exact r
  | .bl b :: xs, _, bs, r, h => by
    obtain ⟨x, ws, rfl, r1, r2⟩ := r
    cases r1
    have h : (boolsOf xs).map (b :: ·) = some bs := h
    cases e : boolsOf xs with
    | none => rw [e] at h; cases h
    | some cs => rw [e] at h; cases h; rw [rels_bools r2 e] <;> rfl
  | .non :: _, _, _, _, h => by cases h
  | .int _ :: _, _, _, _, h => by cases h
  | .str _ :: _, _, _, _, h => by cases h
  | .tup _ :: _, _, _, _, h => by cases h
  | .frz _ :: _, _, _, _, h => by cases h
  | .ref _ :: _, _, _, _, h => by cases h
  | .exc _ :: _, _, _, _, h => by cases h
theorem rels_ints : ∀ {xs : List PV} {vs : List V} {bs : List Int}, Rels K xa H μ xs vs → intsOf xs = some bs → vs = bs.map V.int
  | [], _, _, r, h => by cases h; exact r
  | .int b :: xs, _, bs, r, h => by
    obtain ⟨x, ws, rfl, r1, r2⟩ := r
    cases r1
    have h : (intsOf xs).map (b :: ·) = some bs := h
    cases e : intsOf xs with
    | none => rw [e] at h; cases h
    | some cs => rw [e] at h; cases h; rw [rels_ints r2 e] <;> rfl
  | .non :: _, _, _, _, h => by cases h
  | .bl _ :: _, _, _, _, h => by cases h
  | .str _ :: _, _, _, _, h => by cases h
  | .tup _ :: _, _, _, _, h => by cases h
  | .frz _ :: _, _, _, _, h => by cases h
  | .ref _ :: _, _, _, _, h => by cases h
  | .exc _ :: _, _, _, _, h => by cases h
theorem rels_strs : ∀ {xs : List PV} {vs : List V} {bs : List (List Nat)}, Rels K xa H μ xs vs → strsOf xs = some bs → vs = (bs.map fun s => (⟨s.toArray⟩ : Str)).map V.str
  | [], _, _, r, h => by cases h; exact r
  | .str b :: xs, _, bs, r, h => by
    obtain ⟨x, ws, rfl, r1, r2⟩ := r
    cases r1
    have h : (strsOf xs).map (b :: ·) = some bs := h
    cases e : strsOf xs with
    | none => rw [e] at h; cases h
    | some cs => rw [e] at h; cases h; rw [rels_strs r2 e] <;> rfl
  | .non :: _, _, _, _, h => by cases h
  | .bl _ :: _, _, _, _, h => by cases h
  | .int _ :: _, _, _, _, h => by cases h
  | .tup _ :: _, _, _, _, h => by cases h
  | .frz _ :: _, _, _, _, h => by cases h
  | .ref _ :: _, _, _, _, h => by cases h
  | .exc _ :: _, _, _, _, h => by cases h
theorem joinT_eq (sep : List Nat) : ∀ ss : List (List Nat), joinT sep ss = TL.joinL sep ss
  | [] => rfl
  | [x] => rfl
  | x :: y :: r => by
    show x ++ sep ++ joinT sep (y :: r) = x ++ (sep ++ TL.joinL sep (y :: r))
    rw [joinT_eq sep (y :: r), List.append_assoc]
theorem decText_eq (i : Int) : Str.ofString (toString i) = ⟨(decText i).toArray⟩ := by
  refine TL.ext_tl ?_
  show (Str.ofString (toString i)).cps.toList = decText i
  rw [PyProof.Rows.signs_ofString] <;> rfl
end
section
variable {X : Cx} {xa : Option (Addr × Nat)} {ca : Nat → Addr}
/-- a built-in function's object -/
def primV : Prim → Value
  | .len => .builtin "len"
  | .abs => .builtin "abs"
  | .int => .type "int"
  | .str => .type "str"
  | .ord => .builtin "ord"
  | .tuple => .type "tuple"
  | .list => .type "list"
  | .all => .builtin "all"
  | .any => .builtin "any"
  | .sum => .builtin "sum"
  | .divmod => .builtin "divmod"
  | .max => .builtin "max"
  | .min => .builtin "min"
theorem divmod_ok {a b : Int} (hb : 0 < b) (ha : a.natAbs.log2 < 4000) : CDivP a b := by
  refine divp_ok hb ?_
  unfold Builtin.Int.intBits
  split <;> split <;> omega
theorem call_prim (hc : X.calm = true) (p : Prim) : CallR X (primV p) (rCl X.K xa ca (primOp p)) := by
  rintro pins s σ H xs us Q I rs ⟨ws, μ, T, W, sr, rw_, h⟩
  unfold primOp at h
  split at h
  · -- len of a text
    obtain ⟨x, rfl, r1⟩ := rw_.one_inv
    cases r1
    split at h
    · rename_i hz
      refine call_len pins s σ H _ us Q I rs ⟨_, _, rfl, ⟨by rw [str_len]; exact le_line hz, rfl⟩, ?_⟩
      rw [str_len]
      exact h.here sr rfl
    · exact h.elim
  · obtain ⟨x, rfl, r1⟩ := rw_.one_inv
    split at h
    · rename_i ys e
      obtain ⟨a, vs, rfl, hp, r2⟩ := sqT_or sr r1 e
      refine call_len_seq pins s σ H _ us Q I rs ⟨a, vs, rfl, hp, ?_⟩
      rw [← r2.length]
      exact h.here sr rfl
    · exact h.elim
  · obtain ⟨x, rfl, r1⟩ := rw_.one_inv
    cases r1
    exact call_abs pins s σ H _ us Q I rs ⟨_, rfl, h.here sr rfl⟩
  · obtain ⟨x, rfl, r1⟩ := rw_.one_inv
    cases r1
    exact call_int1 pins s σ H _ us Q I rs (.inl ⟨_, rfl, h.here sr rfl⟩)
  · obtain ⟨x, rfl, r1⟩ := rw_.one_inv
    cases r1
    exact call_int1 pins s σ H _ us Q I rs (.inr ⟨_, rfl, h.here sr rfl⟩)
  · obtain ⟨x, rfl, r1⟩ := rw_.one_inv
    cases r1
    split at h
    · rename_i hz
      refine call_int_str pins s σ H _ us Q I rs ⟨_, _, rfl, SX.int_S (by simpa [isDig] using hz.2.2) hz.1 (by omega), by rw [str_len]; exact hz.2.1, h.here sr rfl⟩
    · exact h.elim
  · obtain ⟨x, rfl, r1⟩ := rw_.one_inv
    cases r1
    split at h
    · rename_i hz
      refine call_str_int pins s σ H _ us Q I rs ⟨_, rfl, hz, ?_⟩
      have := h.here (x := V.str ⟨(decText _).toArray⟩) sr rfl
      rw [← decText_eq] at this
      exact this
    · exact h.elim
  · obtain ⟨x, rfl, r1⟩ := rw_.one_inv
    cases r1
    exact call_ord pins s σ H _ us Q I rs ⟨_, rfl, rfl, h.here sr rfl⟩
  · obtain ⟨x, rfl, r1⟩ := rw_.one_inv
    split at h
    · rename_i ys e
      obtain ⟨a, vs, rfl, m, s1, r2⟩ := sr.ref r1 e
      exact call_tuple_of pins s σ H _ us Q I rs ⟨a, vs, rfl, .inl ⟨.of s1, h.tup sr r2⟩⟩
    · exact h.elim
  · obtain ⟨x, rfl, r1⟩ := rw_.one_inv
    obtain ⟨a, vs, rfl, s1, r2⟩ := id r1
    exact call_tuple_of pins s σ H _ us Q I rs ⟨a, vs, rfl, .inr ⟨s1, h.here sr r1⟩⟩
  · obtain ⟨x, rfl, r1⟩ := rw_.one_inv
    split at h
    · rename_i ys e
      obtain ⟨a, vs, rfl, hp, r2⟩ := sqT_or sr r1 e
      exact call_list_of pins s σ H _ us Q I rs ⟨a, vs, rfl, hp, h.new sr r2⟩
    · exact h.elim
  · obtain ⟨x, rfl, r1⟩ := rw_.one_inv
    split at h
    · rename_i ys e
      split at h
      · rename_i bs e2
        obtain ⟨a, vs, rfl, m, s1, r2⟩ := sr.ref r1 e
        rw [rels_bools r2 e2] at s1
        exact cr_all hc pins s σ H _ us Q I rs ⟨a, bs, rfl, .of s1, h.here sr rfl⟩
      · exact h.elim
    · exact h.elim
  · obtain ⟨x, rfl, r1⟩ := rw_.one_inv
    split at h
    · rename_i ys e
      split at h
      · rename_i bs e2
        obtain ⟨a, vs, rfl, m, s1, r2⟩ := sr.ref r1 e
        rw [rels_bools r2 e2] at s1
        exact cr_any hc pins s σ H _ us Q I rs ⟨a, bs, rfl, .of s1, h.here sr rfl⟩
      · exact h.elim
    · exact h.elim
  · obtain ⟨x, rfl, r1⟩ := rw_.one_inv
    split at h
    · rename_i ys e
      split at h
      · rename_i bs e2
        obtain ⟨a, vs, rfl, m, s1, r2⟩ := sr.ref r1 e
        rw [rels_ints r2 e2] at s1
        exact cr_sum hc pins s σ H _ us Q I rs ⟨a, bs, rfl, .of s1, h.here sr rfl⟩
      · exact h.elim
    · exact h.elim
  · obtain ⟨x, y, rfl, r1, r2⟩ := rw_.two_inv
    cases r1; cases r2
    split at h
    · rename_i hz
      refine call_divmodW pins s σ H _ us Q I rs ⟨_, _, rfl, divmod_ok hz.1 hz.2, fun p hp => ?_⟩
      exact h.tup sr ⟨_, _, rfl, rfl, _, _, rfl, rfl, rfl⟩ p hp
    · exact h.elim
  · obtain ⟨x, y, rfl, r1, r2⟩ := rw_.two_inv
    cases r1; cases r2
    exact call_max2 hc pins s σ H _ us Q I rs ⟨_, _, rfl, h.here sr rfl⟩
  · obtain ⟨x, y, rfl, r1, r2⟩ := rw_.two_inv
    cases r1; cases r2
    exact call_min2 hc pins s σ H _ us Q I rs ⟨_, _, rfl, h.here sr rfl⟩
  · exact h.elim

/-! ### methods -/
def methT : Mth → String
  | .append => "list" | .extend => "list" | .insert => "list" | .pop => "list" | .popAt => "list"
  | .join => "str" | .zfill => "str" | .find => "str" | .split => "str"
def methId : Mth → String
  | .append => "list.append" | .extend => "list.extend" | .insert => "list.insert" | .pop => "list.pop" | .popAt => "list.pop"
  | .join => "str.join" | .zfill => "str.zfill" | .find => "str.find" | .split => "str.split"
theorem meth_ty {K : PySem.W.Frag} {H : Hp} {μ : List Addr} {T : Store} {m : Mth} {v : PV} {x : V} (sr : SR K xa H μ T) (r : Rel K xa H μ v x) (h : recvOk m v = true) : tyV K (methT m) x H := by
  cases v with
  | str s => cases r; cases m <;> first | rfl | exact absurd (show false = true from h) Bool.false_ne_true
  | ref n =>
    obtain ⟨a, rfl, ha⟩ := r
    obtain ⟨ws, e⟩ := sr.mem (List.mem_of_getElem? ha)
    cases m <;> first | exact .inl ⟨rfl, ws, .of e⟩ | exact absurd (show false = true from h) Bool.false_ne_true
  | _ => cases m <;> exact absurd (show false = true from h) Bool.false_ne_true
theorem findSign_spec (c : Nat) : ∀ (l : List Nat) (k : Nat), (findSign c l k = none ∧ ∀ i : Nat, l[i]? ≠ some c) ∨ ∃ j : Nat, findSign c l k = some (k + j) ∧ l[j]? = some c ∧ ∀ i : Nat, i < j → l[i]? ≠ some c
  | [], k => .inl ⟨rfl, fun i => by simp⟩
  | x :: r, k => by
    unfold findSign
    by_cases e : x = c
    · rw [if_pos e]
      exact .inr ⟨0, rfl, by simp [e], fun i hi => absurd hi (Nat.not_lt_zero i)⟩
    · rw [if_neg e]
      rcases findSign_spec c r (k + 1) with ⟨h1, h2⟩ | ⟨j, h1, h2, h3⟩
      · refine .inl ⟨h1, fun i => ?_⟩
        cases i with
        | zero => simpa using e
        | succ i => simpa using h2 i
      · refine .inr ⟨j + 1, by rw [h1]; congr 1; omega, by simpa using h2, fun i hi => ?_⟩
        cases i with
        | zero => simpa using e
        | succ i => simpa using h3 i (by omega)
theorem findI_eq {c : Nat} {s : List Nat} {k : Int} {j : Nat} (hk : 0 ≤ k) (hkj : k.toNat ≤ j) (h : s[j]? = some c) (hn : ∀ i : Nat, k.toNat ≤ i → i < j → s[i]? ≠ some c) : findI c s k = j := by
  unfold findI
  rcases findSign_spec c (s.drop k.toNat) k.toNat with ⟨h1, h2⟩ | ⟨m, h1, h2, h3⟩
  · exact absurd (by rw [List.getElem?_drop, show k.toNat + (j - k.toNat) = j by omega]; exact h) (h2 (j - k.toNat))
  · rw [h1]
    rw [List.getElem?_drop] at h2
    show ((k.toNat + m : Nat) : Int) = j
    have e1 : ¬ (k.toNat + m < j) := fun z => hn _ (by omega) z h2
    have e2 : ¬ (j < k.toNat + m) := fun z => by
      have := h3 (j - k.toNat) (by omega)
      rw [List.getElem?_drop, show k.toNat + (j - k.toNat) = j by omega] at this
      exact this h
    have : k.toNat + m = j := by omega
    rw [this]
theorem findI_none {c : Nat} {s : List Nat} {k : Int} (h : ∀ i : Nat, k.toNat ≤ i → s[i]? ≠ some c) : findI c s k = -1 := by
  unfold findI
  rcases findSign_spec c (s.drop k.toNat) k.toNat with ⟨h1, h2⟩ | ⟨m, h1, h2, h3⟩
  · rw [h1]
  · rw [List.getElem?_drop] at h2
    exact absurd h2 (h _ (by omega))
theorem range_pre {lo n a : Nat} {pre post : List Nat} (h : List.range' lo n = pre ++ a :: post) : ∀ k, lo ≤ k → k < a → k ∈ pre := by
  intro k hl hk
  have hL : n = pre.length + (post.length + 1) := by
    have := congrArg List.length h
    simpa using this
  have h1 : (List.range' lo n)[pre.length]? = some a := by rw [h]; simp
  rw [List.getElem?_range' (by omega)] at h1
  have h1 : lo + 1 * pre.length = a := Option.some.inj h1
  have h2 : (List.range' lo n)[k - lo]? = pre[k - lo]? := by rw [h, List.getElem?_append_left (by omega)]
  rw [List.getElem?_range' (by omega)] at h2
  have h3 : pre[k - lo]? = some k := by rw [← h2]; congr 1; omega
  exact List.mem_of_getElem? h3
theorem find_ok (t : List Nat) (c : Nat) (k : Int) (hk : 0 ≤ k) : Txt.find3 ⟨t.toArray⟩ ⟨[c].toArray⟩ k = findI c t k := by
  unfold Txt.find3
  have hf : fromIndex (⟨t.toArray⟩ : Str).length k = k.toNat := by
    unfold fromIndex
    rw [if_neg (by omega)]
    congr 1
    omega
  rw [hf, StrLaws.occ_eq]
  have one : ∀ i, StrLaws.At ⟨t.toArray⟩ ⟨#[c]⟩ (⟨t.toArray⟩ : Str).length i ↔ t[i]? = some c := fun i => StrLaws.subAt_one ⟨t.toArray⟩ c i
  rcases StrLaws.occ_first ⟨t.toArray⟩ ⟨#[c]⟩ (⟨t.toArray⟩ : Str).length 1 (Nat.le_refl _) (List.range' k.toNat ((⟨t.toArray⟩ : Str).length + 1 - k.toNat)) k.toNat (fun i hi => (List.mem_range'_1.mp hi).1) with ⟨h0, hn⟩ | ⟨pre, a, post, e, h0, ha, hn⟩
  · rw [h0]
    show (-1 : Int) = _
    refine (findI_none fun i hi z => ?_).symm
    have hi2 : i < t.length := (List.getElem?_eq_some_iff.mp z).1
    refine hn i (List.mem_range'_1.mpr ⟨hi, by rw [str_len]; omega⟩) ((one i).mpr z)
  · have hm : a ∈ List.range' k.toNat ((⟨t.toArray⟩ : Str).length + 1 - k.toNat) := by rw [e]; simp
    have hk2 := (List.mem_range'_1.mp hm).1
    have z : findI c t k = a := findI_eq hk hk2 ((one a).mp ha) fun i h1 h2 h3 => hn i (range_pre e i h1 h2) ((one i).mpr h3)
    rw [z]
    generalize (forIn (List.range' k.toNat ((⟨t.toArray⟩ : Str).length + 1 - k.toNat)) ((#[] : Array Nat), k.toNat) (StrLaws.occBody ⟨t.toArray⟩ ⟨#[c]⟩ (⟨t.toArray⟩ : Str).length 1)).run.fst = arr at h0
    have h1 : arr.toList[0]? = some a := by simpa using h0
    cases hL : arr.toList with
    | nil => rw [hL] at h1; cases h1
    | cons b r => rw [hL] at h1; simp at h1; rw [h1]
theorem zfill_ok (c : Nat) (t : List Nat) (hc : isDig c = true) : Txt.zfill ⟨(c :: t).toArray⟩ 64 = ⟨(List.replicate (64 - (c :: t).length) 48 ++ (c :: t)).toArray⟩ := by
  unfold isDig at hc
  rw [Bool.and_eq_true, decide_eq_true_eq, decide_eq_true_eq] at hc
  unfold Txt.zfill
  rw [str_len]
  split
  · rename_i h
    have : 64 - (c :: t).length = 0 := by omega
    rw [this] <;> rfl
  · rename_i h
    have e : ∀ m, zfilled ⟨(c :: t).toArray⟩ m = Builtin.Str.padded ⟨(c :: t).toArray⟩ m 0 48 := fun m => by
      unfold zfilled
      have h0 : (⟨(c :: t).toArray⟩ : Str).cps[0]? = some c := by simp
      rw [h0]
      split
      · rename_i z; cases z; omega
      · rename_i z; cases z; omega
      · rfl
    rw [e]
    unfold Builtin.Str.padded
    refine TL.ext_tl ?_
    show (Array.replicate _ 48 ++ (c :: t).toArray ++ Array.replicate 0 48).toList = (List.replicate (64 - (c :: t).length) 48 ++ (c :: t))
    simp
theorem meth_ok (m : Mth) : MtR X (methId m) (rMt X.K xa ca (methOp m)) := by
  rintro pins s σ H x xs v us Q I rx rs ⟨a, ws, μ, T, W, sr, ra, rw_, h⟩
  unfold methOp at h
  split at h
  · obtain ⟨y, rfl, r1⟩ := rw_.one_inv
    split at h
    · rename_i ys e
      split at h
      · rename_i hz
        obtain ⟨p, vs, rfl, m, s1, r2⟩ := sr.ref ra e
        refine mt_append pins s σ H _ _ v us Q I rx rs ⟨p, vs, y, rfl, rfl, s1, ?_, h.wr sr m (r2.append (Rels.one r1)) rfl⟩
        rw [← r2.length, ← SZ_eq]; exact hz
      · exact h.elim
    · exact h.elim
  · cases rw_.nil_inv
    split at h
    · rename_i ys e
      split at h
      · rename_i w e2
        obtain ⟨p, vs, rfl, m, s1, r2⟩ := sr.ref ra e
        rw [List.getLast?_eq_getElem?] at e2
        obtain ⟨z, hz, rz⟩ := r2.get e2
        refine mt_pop pins s σ H _ _ v us Q I rx rs ⟨p, vs, z, rfl, rfl, s1, by rw [← r2.length]; exact hz, h.wr sr m r2.dropLast rz⟩
      · exact h.elim
    · exact h.elim
  · obtain ⟨y, rfl, r1⟩ := rw_.one_inv
    cases ra
    split at h
    · rename_i ys e
      split at h
      · rename_i ss e2
        split at h
        · rename_i hz
          obtain ⟨p, vs, rfl, m, s1, r2⟩ := sr.ref r1 e
          rw [rels_strs r2 e2] at s1
          refine mt_join pins s σ H _ _ v us Q I rx rs ⟨_, p, _, rfl, rfl, .inl (.of s1), ?_, ?_⟩
          · rw [List.map_map, List.length_map, str_len]
            have : ((fun x : Str => x.length) ∘ fun s : List Nat => (⟨s.toArray⟩ : Str)) = List.length := by funext z; exact str_len z
            rw [this]
            exact hz
          · have := SX.join_S ‹List Nat› ss
            rw [show (ss.map fun s => (⟨s.toArray⟩ : Str)) = ss.map SX.S from rfl, SX.join_S, ← joinT_eq]
            exact h.here sr rfl
        · exact h.elim
      · exact h.elim
    · exact h.elim
  · obtain ⟨y, rfl, r1⟩ := rw_.one_inv
    cases ra; cases r1
    split at h
    · rename_i c t
      split at h
      · rename_i hz
        refine mt_zfill pins s σ H _ _ v us Q I rx rs ⟨_, _, rfl, rfl, by decide +kernel, ?_⟩
        rw [zfill_ok _ _ hz.1]
        exact h.here sr rfl
      · exact h.elim
    · exact h.elim
  · obtain ⟨y, z, rfl, r1, r2⟩ := rw_.two_inv
    cases ra; cases r1; cases r2
    split at h
    · rename_i hz
      refine mt_find3 pins s σ H _ _ v us Q I rx rs ⟨_, _, _, rfl, rfl, ?_⟩
      rw [find_ok _ _ _ hz.1]
      exact h.here sr rfl
    · exact h.elim
  · exact h.elim
end
end MP

set_option Elab.async false
set_option linter.all false
set_option maxRecDepth 100000
set_option maxHeartbeats 2000000
/-! MP4: the model's run of an expression is the small tree's. -/
namespace MP
open PySem PySem.Spec PyProof.Rows L2
/-- an own exception class over ValueError: its base's row -/
def veRow : List Value := [.type "ValueError", .type "Exception", .type "BaseException", .type "object"]
/-- what a def of the module promises: it does what the tree does -/
def spM (K : PySem.W.Frag) (ca : Nat → Addr) (D : Nat → Option FD) (G : Nat → Option PV) (k f : Nat) (np : Nat) : Sp := fun vs H Q E =>
  vs.length = np ∧ ∃ ws μ T, Rels K none H μ ws vs ∧ SR K none H μ T ∧ Post K none ca (rV K none) μ H (callF D G k f ws T) Q E
structure ClsFact (X : Cx) (T : Tab) (ca : Nat → Addr) (x : Str) (c : Nat) : Prop where
  mg : X.mg x = some (.ref (ca c))
  keep : PySem.W.keepIn X.K (.ref (ca c)) = true
  exc : PySem.W.excIn X.K (ca c) veRow "ValueError.__new__" = true
  rais : Raises X (.ref (ca c))
  ex : ∀ d ∈ T.caught c, ExcC X.K (ca d)
  kyes : ∀ d ∈ T.caught c, PySem.W.kitOne X.K (.ref (ca d)) (.ref (ca c)) = some true
  kno : ∀ d ∈ T.passed c, PySem.W.kitOne X.K (.ref (ca d)) (.ref (ca c)) = some false
  yes : ∀ d ∈ T.caught c, PySem.W.exmOne X.K (.ref (ca d)) (.ref (ca c)) = some true
  no : ∀ d ∈ T.passed c, PySem.W.exmOne X.K (.ref (ca d)) (.ref (ca c)) = some false
structure Facts (X : Cx) (T : Tab) (ca : Nat → Addr) (D : Nat → Option FD) (G : Nat → Option PV) (k : Nat) : Prop where
  fns : ∀ x f, T.fns.lookup x = some f → ∃ (a : Addr) (fd : FuncData) (ps : List Str), X.mg x = some (.ref a) ∧ PySem.W.keepIn X.K (.ref a) = true ∧ Binds X.K fd ps [] ∧ (∃ d, D f = some d ∧ d.np = ps.length) ∧
    FnOk X.prog X.w X.K X.mg X.base (L2.CX X.prog X.w) k a fd ps (spM X.K ca D G k f ps.length)
  consts : ∀ x g, T.consts.lookup x = some g → ∃ v u pv, G g = some pv ∧ X.mg x = some u ∧ RelV v u ∧ ∀ xa H μ, Rel X.K xa H μ pv v
  clss : ∀ x c, T.clss.lookup x = some c → ClsFact X T ca x c
  blts : ∀ x, x ∈ T.blts → X.mg x = none
/-- where an expression stands -/
structure GE (X : Cx) (ca : Nat → Addr) (N : List Str) (sc : Scope) (hot : Bool) (xa : Option (Addr × Nat)) (k : Nat) : Prop where
  nN : X.N = N
  nd : N.Nodup
  sc : X.env.scope = sc
  calm : hot = false → X.calm = true
  room : hot = false → Room k X.A
  un : X.A.units + 64 < cLine
  cold : hot = false → xa = none
  hotIs : hot = true → ∀ a c, xa = some (a, c) → CallR X (.builtin "isinstance") (rIsE X.K (ca c) a)

section
variable {X : Cx} {T : Tab} {N : List Str} {hot : Bool} {ca : Nat → Addr} {D : Nat → Option FD} {G : Nat → Option PV} {k : Nat} {xa : Option (Addr × Nat)} {W : WX} {sc : Scope}
theorem slot_of {N : List Str} {x : Str} {i : Nat} (h : slotOf N x = some i) : N[i]? = some x := by
  unfold slotOf at h
  obtain ⟨hi, h1, _⟩ := List.findIdx?_eq_some_iff_getElem.mp h
  rw [List.getElem?_eq_getElem hi]
  rw [of_decide_eq_true h1]
theorem vis_of {sc : Scope} {x : Str} (h : isVis (sc.names.lookup x) = true) : Vis sc x := by
  unfold isVis at h
  unfold Vis
  split at h
  · rename_i e; exact .inl e
  · rename_i e; exact .inr (.inl e)
  · rename_i e; exact .inr (.inr e)
  · cases h
theorem loc_of {sc : Scope} {x : Str} (h : isLoc (sc.names.lookup x) = true) : L2.Loc sc x := by
  unfold isLoc at h
  unfold L2.Loc
  split at h
  · rename_i e; exact .inl e
  · rename_i e; exact .inr e
  · cases h
theorem gl_of {x : Str} (h : isGl (X.env.scope.names.lookup x) = true) : Gl X x := by
  unfold isGl at h
  unfold Gl
  split at h
  · rename_i e; exact e
  · cases h
theorem str_ne {x y : Str} (h : x ≠ y) : (x == y) = false := by simpa using h

/-- what an expression's tree m promises -/
def PEm (X : Cx) (xa : Option (Addr × Nat)) (ca : Nat → Addr) (D : Nat → Option FD) (G : Nat → Option PV) (k : Nat) (W : WX) (e : PySem.Expr) (m : E) : Prop :=
  PE X e (tR X.K xa ca (rV X.K xa) W (ev (callF D G k) G m)) ∧ PT X e (tR X.K xa ca rB W (evT (callF D G k) G m))
theorem pe_of {e : PySem.Expr} {t t' : TE} (h : PE X e t) (hi : ∀ σ H Q, t' σ H Q → t σ H Q) : PE X e t' := ⟨fun pins s σ H Q I q => h.run pins s σ H Q I (hi σ H Q q)⟩
theorem pt_of {e : PySem.Expr} {t t' : TT} (h : PT X e t) (hi : ∀ σ H Q, t' σ H Q → t σ H Q) : PT X e t' := ⟨fun pins s σ H Q I q => h.run pins s σ H Q I (hi σ H Q q)⟩
theorem pa_of {e : List PySem.Expr} {t t' : TA} (h : PA X e t) (hi : ∀ σ H Q, t' σ H Q → t σ H Q) : PA X e t' := ⟨fun pos pins s σ H Q I q => h.run pos pins s σ H Q I (hi σ H Q q)⟩
/-- an expression whose test is its value's truth -/
theorem pem_plain {e : PySem.Expr} {m : E} (h : PE X e (tR X.K xa ca (rV X.K xa) W (ev (callF D G k) G m))) (he : ∀ whole, isTrue e X.env whole = (do let v ← whole; standAt e.pos; holding [v] (truthy v))) : PEm X xa ca D G k W e m := by
  refine ⟨h, pt_of (pt_truth h he) ?_⟩
  rintro σ H Q ⟨ρ, μ, S, er, sr, q⟩
  refine ⟨ρ, μ, S, er, sr, q.bind _ fun v S1 x μ1 H1 x1 sr1 r1 h1 => ?_⟩
  cases e : truthM S1 v with
  | none => rw [e] at h1; exact h1.elim
  | some b =>
    rw [e] at h1
    exact ⟨b, truV_of sr1 r1 e, h1 b μ1 H1 (Ex.refl _ _) sr1 rfl⟩

/-! ### argument lists -/
/-- what f's trees promise, at every place -/
def Snd (X : Cx) (xa : Option (Addr × Nat)) (ca : Nat → Addr) (D : Nat → Option FD) (G : Nat → Option PV) (k : Nat) (W : WX) (f : PySem.Expr → Option E) : Prop := ∀ e m, f e = some m → PEm X xa ca D G k W e m
theorem star_cons {e : PySem.Expr} {es : List PySem.Expr} {env : Env} (h : isStar e = false) : starEach (e :: es) env = (false, eval e env) :: starEach es env := by
  cases e <;> first | rfl | cases h
theorem args_cons {f : PySem.Expr → Option E} {e : PySem.Expr} {es : List PySem.Expr} {m : E} (h : args f (e :: es) = some m) : ∃ a b, isStar e = false ∧ f e = some a ∧ args f es = some b ∧ m = .cons a b := by
  unfold args at h
  split at h
  · cases h
  · rename_i hs
    cases h1 : f e with
    | none => rw [h1] at h; cases h
    | some a =>
      rw [h1] at h
      cases h2 : args f es with
      | none => rw [h2] at h; cases h
      | some b => rw [h2] at h; cases h; exact ⟨a, b, by simpa using hs, rfl, rfl, rfl⟩
theorem args_plain {f : PySem.Expr → Option E} {env : Env} {pos : Pos} : ∀ {es : List PySem.Expr} {m : E}, args f es = some m → (backTo pos (starEach es env)).any (·.1) = false
  | [], _, _ => rfl
  | e :: es, m, h => by
    obtain ⟨a, b, h1, h2, h3, _⟩ := args_cons h
    rw [star_cons h1]
    have := args_plain (env := env) (pos := pos) h3
    unfold backTo at this ⊢
    rw [List.map_cons, List.any_cons, this] <;> rfl
theorem asTup_ok : ∀ {f : PySem.Expr → Option E} {es : List PySem.Expr} {m : E}, args f es = some m → True := fun _ => trivial
theorem args_sound {f : PySem.Expr → Option E} (hf : Snd X xa ca D G k W f) : ∀ {es : List PySem.Expr} {m : E}, args f es = some m → PA X es (tR X.K xa ca (rA X.K xa) W (ev (callF D G k) G m))
  | [], m, h => by
    cases h
    refine pa_of pa_nil ?_
    rintro σ H Q ⟨ρ, μ, S, er, sr, q⟩
    exact q [] μ H (Ex.refl _ _) sr rfl
  | e :: es, m, h => by
    obtain ⟨a, b, h1, h2, h3, rfl⟩ := args_cons h
    refine pa_of (pa_cons (hf e a h2).1 (args_sound hf h3) (star_cons h1)) ?_
    rintro σ H Q ⟨ρ, μ, S, er, sr, q⟩
    refine ⟨ρ, μ, S, er, sr, q.bind _ fun v S1 x μ1 H1 x1 sr1 r1 h1 => ?_⟩
    refine ⟨ρ, μ1, S1, er.mono sr x1, sr1, h1.bind _ fun w S2 y μ2 H2 x2 sr2 r2 h2 => ?_⟩
    exact h2 (x :: y) μ2 H2 (Ex.refl _ _) sr2 ⟨x, y, rfl, Rel.mono sr1 x2 _ _ r1, r2⟩

/-! ### the forms -/
theorem s_const {c : Const} {j : Nat} {pos : Pos} {m : E} (h : cConst c = some m) : PEm X xa ca D G k W (.Constant c j pos) m := by
  cases c with
  | int i =>
    cases h
    refine pem_plain (pe_of pe_int ?_) (fun _ => rfl)
    rintro σ H Q ⟨ρ, μ, S, er, sr, q⟩
    exact q.here sr rfl
  | str i =>
    cases h
    refine pem_plain (pe_of pe_str ?_) (fun _ => rfl)
    rintro σ H Q ⟨ρ, μ, S, er, sr, q⟩
    exact q.here sr (congrArg V.str (SX.S_tl i)).symm
  | bool i =>
    cases h
    refine pem_plain (pe_of pe_bl ?_) (fun _ => rfl)
    rintro σ H Q ⟨ρ, μ, S, er, sr, q⟩
    exact q.here sr rfl
  | none =>
    cases h
    refine pem_plain (pe_of pe_non ?_) (fun _ => rfl)
    rintro σ H Q ⟨ρ, μ, S, er, sr, q⟩
    exact q.here sr rfl
  | _ => cases h
theorem slotV_some {o : Option (Option PV)} {v : PV} (h : slotV o = some v) : o = some (some v) ∧ ∀ c, v ≠ .exc c := by
  unfold slotV at h
  split at h
  · cases h
  · rename_i u n
    cases h
    exact ⟨rfl, fun c z => n c (by rw [z])⟩
  · cases h
theorem s_name {x : Str} {pos : Pos} {m : E} (g : GE X ca N sc hot xa k) (F : Facts X T ca D G k) (h : cName T N sc x = some m) : PEm X xa ca D G k W (.Name x pos) m := by
  unfold cName at h
  split at h
  · cases h
  · rename_i hn
    have hd : (x == ("__debug__" : Str)) = false := str_ne fun z => hn (.inl z)
    have hcd : (x == ("__classdict__" : Str)) = false := str_ne fun z => hn (.inr z)
    have hs := g.sc
    subst hs
    split at h
    · rename_i hv
      cases e : slotOf N x with
      | none => rw [e] at h; cases h
      | some i =>
        rw [e] at h; cases h
        refine pem_plain (pe_of (pe_var (by rw [g.nN]; exact slot_of e) (vis_of hv) hd hcd) ?_) (fun _ => rfl)
        rintro σ H Q ⟨ρ, μ, S, er, sr, q⟩
        have q : Post X.K xa ca (rV X.K xa) μ H (ofOpt (slotV ρ[i]?) S) Q _ := q
        cases e : slotV ρ[i]? with
        | none => rw [e] at q; exact q.elim
        | some v =>
          rw [e] at q
          obtain ⟨hv2, hn⟩ := slotV_some e
          obtain ⟨y, h1, h2⟩ := er.at_ i v hv2
          exact ⟨y, h1, Post.here q sr (h2.val hn)⟩
    · split at h
      · rename_i hgl
        cases e : T.consts.lookup x with
        | none => rw [e] at h; cases h
        | some c =>
          rw [e] at h; cases h
          obtain ⟨v, u, pv, h1, h2, h3, h4⟩ := F.consts x c e
          refine pem_plain (pe_of (pe_glob (gl_of hgl) h2 h3 hd) ?_) (fun _ => rfl)
          rintro σ H Q ⟨ρ, μ, S, er, sr, q⟩
          have q : Post X.K xa ca (rV X.K xa) μ H (match G c with | some v => .ok v S | none => .bad) Q _ := q
          rw [h1] at q
          exact q.here sr (h4 _ _ _)
      · cases h
theorem s_tup {f : PySem.Expr → Option E} (hf : Snd X xa ca D G k W f) {es : List PySem.Expr} {j : Nat} {pos : Pos} {m : E} (h : args f es = some m) : PEm X xa ca D G k W (.Tuple es j pos) (.tup m) := by
  refine pem_plain (pe_of (pe_tup (args_sound hf h)) ?_) (fun _ => rfl)
  rintro σ H Q ⟨ρ, μ, S, er, sr, q⟩
  refine ⟨ρ, μ, S, er, sr, q.bind _ fun v S1 x μ1 H1 x1 sr1 r1 h1 => ?_⟩
  have h1 : Post X.K xa ca (rV X.K xa) μ1 H1 (if (asTup v).length ≤ SZ then .ok (.tup (asTup v)) S1 else .bad) Q _ := h1
  split at h1
  · rename_i hz
    exact ⟨by rw [← Rels.length r1]; exact le_line hz, h1.tup sr1 r1⟩
  · exact h1.elim
theorem s_lst {f : PySem.Expr → Option E} (hf : Snd X xa ca D G k W f) {es : List PySem.Expr} {pos : Pos} {m : E} (h : args f es = some m) : PEm X xa ca D G k W (.List es pos) (.list m) := by
  refine pem_plain (pe_of (pe_lst (args_sound hf h)) ?_) (fun _ => rfl)
  rintro σ H Q ⟨ρ, μ, S, er, sr, q⟩
  refine ⟨ρ, μ, S, er, sr, q.bind _ fun v S1 x μ1 H1 x1 sr1 r1 h1 => ?_⟩
  have h1 : Post X.K xa ca (rV X.K xa) μ1 H1 (if (asTup v).length ≤ SZ then allocM (.lst (asTup v)) S1 else .bad) Q _ := h1
  split at h1
  · rename_i hz
    exact ⟨by rw [← Rels.length r1]; exact le_line hz, h1.new sr1 r1⟩
  · exact h1.elim
theorem s_bin {a b : PySem.Expr} {ma mb : E} {o : BinO} {op : Operator} {pos : Pos} (ho : binO op = some o) (ha : PEm X xa ca D G k W a ma) (hb : PEm X xa ca D G k W b mb) : PEm X xa ca D G k W (.BinOp a op b pos) (.bin o ma mb) := by
  refine pem_plain (pe_of (pe_op (op_bin (xa := xa) (ca := ca) o op ho) ha.1 hb.1) ?_) (fun _ => rfl)
  rintro σ H Q ⟨ρ, μ, S, er, sr, q⟩
  refine ⟨ρ, μ, S, er, sr, q.bind _ fun v S1 x μ1 H1 x1 sr1 r1 h1 => ?_⟩
  refine ⟨ρ, μ1, S1, er.mono sr x1, sr1, h1.bind _ fun w S2 y μ2 H2 x2 sr2 r2 h2 => ?_⟩
  exact ⟨v, w, μ2, S2, _, sr2, Rel.mono sr1 x2 _ _ r1, r2, h2⟩
theorem s_neg {a : PySem.Expr} {ma : E} {pos : Pos} (ha : PEm X xa ca D G k W a ma) : PEm X xa ca D G k W (.UnaryOp .USub a pos) (.neg ma) := by
  refine pem_plain (pe_of (pe_un (un_negA (xa := xa)) ha.1) ?_) (fun _ => rfl)
  rintro σ H Q ⟨ρ, μ, S, er, sr, q⟩
  refine ⟨ρ, μ, S, er, sr, q.bind _ fun v S1 x μ1 H1 x1 sr1 r1 h1 => ?_⟩
  cases v with
  | int i => exact ⟨_, μ1, r1, i, rfl, h1.here sr1 rfl⟩
  | _ => exact h1.elim

/-! ### tests -/
theorem evT_not (C : Nat → List PV → Store → Res PV) (a : E) (ρ : Nv) (S : Store) : evT C G (.not a) ρ S = (evT C G a ρ S).bind fun t S1 => .ok (!t) S1 := by
  unfold evT
  show ((ev C G a ρ S).bind fun x T1 => (ofOpt (truthM T1 x) T1).bind fun b T2 => Res.ok (PV.bl (!b)) T2).bind _ = _
  cases ev C G a ρ S with
  | ok v S1 =>
    show ((ofOpt (truthM S1 v) S1).bind fun b T2 => Res.ok (PV.bl (!b)) T2).bind _ = (ofOpt (truthM S1 v) S1).bind _
    cases truthM S1 v <;> rfl
  | _ => rfl
theorem evT_and (C : Nat → List PV → Store → Res PV) (a b : E) (ρ : Nv) (S : Store) : evT C G (.and a b) ρ S = (evT C G a ρ S).bind fun t S1 => if t then evT C G b ρ S1 else .ok false S1 := by
  unfold evT
  show ((ev C G a ρ S).bind fun x T1 => (ofOpt (truthM T1 x) T1).bind fun t T2 => if t then ev C G b ρ T2 else .ok x T2).bind _ = _
  cases ev C G a ρ S with
  | ok v S1 =>
    show ((ofOpt (truthM S1 v) S1).bind fun t T2 => if t then ev C G b ρ T2 else .ok v T2).bind _ = (ofOpt (truthM S1 v) S1).bind _
    cases e : truthM S1 v with
    | none => rfl
    | some t =>
      cases t with
      | true => rfl
      | false =>
        show ofOpt (truthM S1 v) S1 = _
        rw [e] <;> rfl
  | _ => rfl
theorem evT_or (C : Nat → List PV → Store → Res PV) (a b : E) (ρ : Nv) (S : Store) : evT C G (.or a b) ρ S = (evT C G a ρ S).bind fun t S1 => if t then .ok true S1 else evT C G b ρ S1 := by
  unfold evT
  show ((ev C G a ρ S).bind fun x T1 => (ofOpt (truthM T1 x) T1).bind fun t T2 => if t then .ok x T2 else ev C G b ρ T2).bind _ = _
  cases ev C G a ρ S with
  | ok v S1 =>
    show ((ofOpt (truthM S1 v) S1).bind fun t T2 => if t then .ok v T2 else ev C G b ρ T2).bind _ = (ofOpt (truthM S1 v) S1).bind _
    cases e : truthM S1 v with
    | none => rfl
    | some t =>
      cases t with
      | false => rfl
      | true =>
        show ofOpt (truthM S1 v) S1 = _
        rw [e] <;> rfl
  | _ => rfl
theorem evT_ite (C : Nat → List PV → Store → Res PV) (c a b : E) (ρ : Nv) (S : Store) : evT C G (.ite c a b) ρ S = (evT C G c ρ S).bind fun t S1 => if t then evT C G a ρ S1 else evT C G b ρ S1 := by
  unfold evT
  show ((ev C G c ρ S).bind fun x T1 => (ofOpt (truthM T1 x) T1).bind fun t T2 => if t then ev C G a ρ T2 else ev C G b ρ T2).bind _ = _
  cases ev C G c ρ S with
  | ok v S1 =>
    show ((ofOpt (truthM S1 v) S1).bind fun t T2 => if t then ev C G a ρ T2 else ev C G b ρ T2).bind _ = (ofOpt (truthM S1 v) S1).bind _
    cases e : truthM S1 v with
    | none => rfl
    | some t => cases t <;> rfl
  | _ => rfl
theorem s_not {a : PySem.Expr} {ma : E} {pos : Pos} (ha : PEm X xa ca D G k W a ma) : PEm X xa ca D G k W (.UnaryOp .Not a pos) (.not ma) := by
  refine ⟨pe_of (pe_notT ha.1) ?_, pt_of (pt_not ha.2) ?_⟩
  · rintro σ H Q ⟨ρ, μ, S, er, sr, q⟩
    refine ⟨ρ, μ, S, er, sr, q.bind _ fun v S1 x μ1 H1 x1 sr1 r1 h1 => ?_⟩
    cases e : truthM S1 v with
    | none => rw [e] at h1; exact h1.elim
    | some b =>
      rw [e] at h1
      exact ⟨b, truV_of sr1 r1 e, h1.here sr1 rfl⟩
  · rintro σ H Q ⟨ρ, μ, S, er, sr, q⟩
    rw [evT_not] at q
    refine ⟨ρ, μ, S, er, sr, q.bind _ fun v S1 x μ1 H1 x1 sr1 r1 h1 => ?_⟩
    subst r1
    exact h1 _ μ1 H1 (Ex.refl _ _) sr1 rfl
theorem s_and {a b : PySem.Expr} {r : List PySem.Expr} {ma mb : E} {pos : Pos} (ha : PEm X xa ca D G k W a ma) (hb : PEm X xa ca D G k W (.BoolOp .And (b :: r) pos) mb) : PEm X xa ca D G k W (.BoolOp .And (a :: b :: r) pos) (.and ma mb) := by
  have hw : PW X (.BoolOp .And (b :: r) pos) (tR X.K xa ca rB W (evT (callF D G k) G mb)) := ⟨fun whole pins s σ H Q I h => hb.2.run pins s σ H Q I h⟩
  refine ⟨pe_of (pe_andT ha.1 hb.1) ?_, pt_of (pw_and ha.2 hw).pt ?_⟩
  · rintro σ H Q ⟨ρ, μ, S, er, sr, q⟩
    refine ⟨ρ, μ, S, er, sr, q.bind _ fun v S1 x μ1 H1 x1 sr1 r1 h1 => ?_⟩
    cases e : truthM S1 v with
    | none => rw [e] at h1; exact h1.elim
    | some t =>
      rw [e] at h1
      refine ⟨t, truV_of sr1 r1 e, ?_⟩
      cases t with
      | true => exact ⟨ρ, μ1, S1, er.mono sr x1, sr1, h1⟩
      | false => exact h1.here sr1 r1
  · rintro σ H Q ⟨ρ, μ, S, er, sr, q⟩
    rw [evT_and] at q
    refine ⟨ρ, μ, S, er, sr, q.bind _ fun v S1 x μ1 H1 x1 sr1 r1 h1 => ?_⟩
    subst r1
    cases v with
    | true => exact ⟨ρ, μ1, S1, er.mono sr x1, sr1, h1⟩
    | false => exact h1 _ μ1 H1 (Ex.refl _ _) sr1 rfl
theorem s_or {a b : PySem.Expr} {r : List PySem.Expr} {ma mb : E} {pos : Pos} (ha : PEm X xa ca D G k W a ma) (hb : PEm X xa ca D G k W (.BoolOp .Or (b :: r) pos) mb) : PEm X xa ca D G k W (.BoolOp .Or (a :: b :: r) pos) (.or ma mb) := by
  have hw : PW X (.BoolOp .Or (b :: r) pos) (tR X.K xa ca rB W (evT (callF D G k) G mb)) := ⟨fun whole pins s σ H Q I h => hb.2.run pins s σ H Q I h⟩
  refine ⟨pe_of (pe_orT ha.1 hb.1) ?_, pt_of (pw_or ha.2 hw).pt ?_⟩
  · rintro σ H Q ⟨ρ, μ, S, er, sr, q⟩
    refine ⟨ρ, μ, S, er, sr, q.bind _ fun v S1 x μ1 H1 x1 sr1 r1 h1 => ?_⟩
    cases e : truthM S1 v with
    | none => rw [e] at h1; exact h1.elim
    | some t =>
      rw [e] at h1
      refine ⟨t, truV_of sr1 r1 e, ?_⟩
      cases t with
      | false => exact ⟨ρ, μ1, S1, er.mono sr x1, sr1, h1⟩
      | true => exact h1.here sr1 r1
  · rintro σ H Q ⟨ρ, μ, S, er, sr, q⟩
    rw [evT_or] at q
    refine ⟨ρ, μ, S, er, sr, q.bind _ fun v S1 x μ1 H1 x1 sr1 r1 h1 => ?_⟩
    subst r1
    cases v with
    | false => exact ⟨ρ, μ1, S1, er.mono sr x1, sr1, h1⟩
    | true => exact h1 _ μ1 H1 (Ex.refl _ _) sr1 rfl
theorem s_one {a : PySem.Expr} {ma : E} {op : PySem.BoolOp} {pos : Pos} (ha : PEm X xa ca D G k W a ma) : PEm X xa ca D G k W (.BoolOp op [a] pos) ma := by
  cases op with
  | And => exact ⟨pe_one ha.1, (pw_and1 ha.2).pt⟩
  | Or => exact ⟨pe_one ha.1, (pw_or1 ha.2).pt⟩
theorem s_bool {f : Rc} (hf : Snd X xa ca D G k W (f sc)) {op : PySem.BoolOp} {pos : Pos} {es : List PySem.Expr} {m : E} (h : cBool f sc op pos es = some m) : PEm X xa ca D G k W (.BoolOp op es pos) m := by
  unfold cBool at h
  split at h
  · cases h
  · exact s_one (hf _ _ h)
  · rename_i a b r
    cases e1 : f sc a with
    | none => rw [e1] at h; cases h
    | some x =>
      rw [e1] at h
      cases op with
      | And =>
        have h : (f sc (.BoolOp .And (b :: r) pos)).map (fun y => E.and x y) = some m := h
        cases e2 : f sc (.BoolOp .And (b :: r) pos) with
        | none => rw [e2] at h; cases h
        | some y => rw [e2] at h; cases h; exact s_and (hf _ _ e1) (hf _ _ e2)
      | Or =>
        have h : (f sc (.BoolOp .Or (b :: r) pos)).map (fun y => E.or x y) = some m := h
        cases e2 : f sc (.BoolOp .Or (b :: r) pos) with
        | none => rw [e2] at h; cases h
        | some y => rw [e2] at h; cases h; exact s_or (hf _ _ e1) (hf _ _ e2)
theorem pt_ifExp {c a b : PySem.Expr} {pos : Pos} {tc ta tb : TT} (hc : PT X c tc) (ha : PT X a ta) (hb : PT X b tb) : PT X (.IfExp c a b pos) (fun σ H Q => tc σ H fun t H1 => if t = true then ta σ H1 Q else tb σ H1 Q) := by
  refine ⟨fun pins s σ H Q I h => ?_⟩
  show wpAny _ _ (do if ← isTrue c X.env (eval c X.env) then isTrue a X.env (eval a X.env) else isTrue b X.env (eval b X.env)) _ _ _
  refine wpAny_bind (thn (hc.run pins s σ H _ I h) fun d s1 ⟨H1, I1, q1⟩ => ?_)
  cases d with
  | true => exact ha.run pins s1 σ H1 Q I1 q1
  | false => exact hb.run pins s1 σ H1 Q I1 q1
theorem s_ifExp {c a b : PySem.Expr} {mc ma mb : E} {pos : Pos} (hc : PEm X xa ca D G k W c mc) (ha : PEm X xa ca D G k W a ma) (hb : PEm X xa ca D G k W b mb) : PEm X xa ca D G k W (.IfExp c a b pos) (.ite mc ma mb) := by
  refine ⟨pe_of (pe_ifExp hc.2 ha.1 hb.1) ?_, pt_of (pt_ifExp hc.2 ha.2 hb.2) ?_⟩
  · rintro σ H Q ⟨ρ, μ, S, er, sr, q⟩
    have e : ev (callF D G k) G (.ite mc ma mb) ρ S = (evT (callF D G k) G mc ρ S).bind fun t S1 => if t then ev (callF D G k) G ma ρ S1 else ev (callF D G k) G mb ρ S1 := by
      unfold evT
      show ((ev (callF D G k) G mc ρ S).bind fun x T1 => (ofOpt (truthM T1 x) T1).bind fun t T2 => if t then ev (callF D G k) G ma ρ T2 else ev (callF D G k) G mb ρ T2) = _
      cases ev (callF D G k) G mc ρ S <;> rfl
    rw [e] at q
    refine ⟨ρ, μ, S, er, sr, q.bind _ fun v S1 x μ1 H1 x1 sr1 r1 h1 => ?_⟩
    subst r1
    cases v with
    | true => exact ⟨ρ, μ1, S1, er.mono sr x1, sr1, h1⟩
    | false => exact ⟨ρ, μ1, S1, er.mono sr x1, sr1, h1⟩
  · rintro σ H Q ⟨ρ, μ, S, er, sr, q⟩
    rw [evT_ite] at q
    refine ⟨ρ, μ, S, er, sr, q.bind _ fun v S1 x μ1 H1 x1 sr1 r1 h1 => ?_⟩
    subst r1
    cases v with
    | true => exact ⟨ρ, μ1, S1, er.mono sr x1, sr1, h1⟩
    | false => exact ⟨ρ, μ1, S1, er.mono sr x1, sr1, h1⟩
theorem evT_cmp (C : Nat → List PV → Store → Res PV) (o : MP.CmpO) (a b : E) (ρ : Nv) (S : Store) : evT C G (.cmp o a b) ρ S = (ev C G a ρ S).bind fun x T1 => (ev C G b ρ T1).bind fun y T2 => ofOpt (cmpOp o x y T2) T2 := by
  unfold evT
  show ((ev C G a ρ S).bind fun x T1 => (ev C G b ρ T1).bind fun y T2 => (ofOpt (cmpOp o x y T2) T2).bind fun t T3 => Res.ok (PV.bl t) T3).bind _ = _
  rw [Res.bind_assoc]
  refine Res.bind_congr _ fun x T1 => ?_
  rw [Res.bind_assoc]
  exact Res.bind_congr _ fun y T2 => ofBl _ _
theorem evT_chain (C : Nat → List PV → Store → Res PV) (o p : MP.CmpO) (a b c : E) (ρ : Nv) (S : Store) : evT C G (.chain o p a b c) ρ S = (ev C G a ρ S).bind fun x T1 => (ev C G b ρ T1).bind fun y T2 => (ofOpt (cmpOp o x y T2) T2).bind fun t T3 =>
    if t then (ev C G c ρ T3).bind fun z T4 => ofOpt (cmpOp p y z T4) T4 else .ok false T3 := by
  unfold evT
  show ((ev C G a ρ S).bind fun x T1 => (ev C G b ρ T1).bind fun y T2 => (ofOpt (cmpOp o x y T2) T2).bind fun t T3 =>
    if t then (ev C G c ρ T3).bind fun z T4 => (ofOpt (cmpOp p y z T4) T4).bind fun t T5 => Res.ok (PV.bl t) T5 else Res.ok (PV.bl false) T3).bind _ = _
  rw [Res.bind_assoc]
  refine Res.bind_congr _ fun x T1 => ?_
  rw [Res.bind_assoc]
  refine Res.bind_congr _ fun y T2 => ?_
  rw [Res.bind_assoc]
  refine Res.bind_congr _ fun t T3 => ?_
  cases t with
  | false => rfl
  | true =>
    show ((ev C G c ρ T3).bind fun z T4 => (ofOpt (cmpOp p y z T4) T4).bind fun t T5 => Res.ok (PV.bl t) T5).bind _ = _
    rw [Res.bind_assoc]
    exact Res.bind_congr _ fun z T4 => ofBl _ _
theorem s_cmp {a b : PySem.Expr} {ma mb : E} {op : PySem.CmpOp} {pos : Pos} (hu : X.A.units + 64 < cLine) (hm : behindInMarks op b = false) (ha : PEm X xa ca D G k W a ma) (hb : PEm X xa ca D G k W b mb) : PEm X xa ca D G k W (.Compare a [op] [b] pos) (.cmp (cmpO op) ma mb) := by
  refine ⟨pe_of (pe_cmpR (op_cmpA (xa := xa) hu op) ha.1 hb.1 hm) ?_, pt_of (pt_cmpR (op_cmpA (xa := xa) hu op) ha.1 hb.1 hm) ?_⟩
  · rintro σ H Q ⟨ρ, μ, S, er, sr, q⟩
    refine ⟨ρ, μ, S, er, sr, q.bind _ fun v S1 x μ1 H1 x1 sr1 r1 h1 => ?_⟩
    refine ⟨ρ, μ1, S1, er.mono sr x1, sr1, h1.bind _ fun w S2 y μ2 H2 x2 sr2 r2 h2 => ?_⟩
    cases e : cmpOp (cmpO op) v w S2 with
    | none => rw [e] at h2; exact h2.elim
    | some t =>
      rw [e] at h2
      exact ⟨v, w, μ2, S2, t, sr2, Rel.mono sr1 x2 _ _ r1, r2, e, h2.here sr2 rfl⟩
  · rintro σ H Q ⟨ρ, μ, S, er, sr, q⟩
    rw [evT_cmp] at q
    refine ⟨ρ, μ, S, er, sr, q.bind _ fun v S1 x μ1 H1 x1 sr1 r1 h1 => ?_⟩
    refine ⟨ρ, μ1, S1, er.mono sr x1, sr1, h1.bind _ fun w S2 y μ2 H2 x2 sr2 r2 h2 => ?_⟩
    cases e : cmpOp (cmpO op) v w S2 with
    | none => rw [e] at h2; exact h2.elim
    | some t =>
      rw [e] at h2
      exact ⟨v, w, μ2, S2, t, sr2, Rel.mono sr1 x2 _ _ r1, r2, e, t, rfl, h2 t μ2 H2 (Ex.refl _ _) sr2 rfl⟩
theorem s_chain {a b c : PySem.Expr} {ma mb mc : E} {op op' : PySem.CmpOp} {pos : Pos} (hu : X.A.units + 64 < cLine) (hm : behindInMarks op' c = false) (ha : PEm X xa ca D G k W a ma) (hb : PEm X xa ca D G k W b mb) (hc : PEm X xa ca D G k W c mc) : PEm X xa ca D G k W (.Compare a [op, op'] [b, c] pos) (.chain (cmpO op) (cmpO op') ma mb mc) := by
  have hm' : lastMarks [op, op'] [b, c] = false := hm
  refine ⟨pe_of (pe_chain (op_cmpA (xa := xa) hu op) (op_cmpA (xa := xa) hu op') ha.1 hb.1 hc.1 hm') ?_, pt_of (pt_chain (op_cmpA (xa := xa) hu op) (op_cmpA (xa := xa) hu op') ha.1 hb.1 hc.1 hm') ?_⟩
  · rintro σ H Q ⟨ρ, μ, S, er, sr, q⟩
    refine ⟨ρ, μ, S, er, sr, q.bind _ fun v S1 x μ1 H1 x1 sr1 r1 h1 => ?_⟩
    refine ⟨ρ, μ1, S1, er.mono sr x1, sr1, h1.bind _ fun w S2 y μ2 H2 x2 sr2 r2 h2 => ?_⟩
    cases e : cmpOp (cmpO op) v w S2 with
    | none => rw [e] at h2; exact h2.elim
    | some t =>
      rw [e] at h2
      refine ⟨v, w, μ2, S2, t, sr2, Rel.mono sr1 x2 _ _ r1, r2, e, t, rfl, ?_⟩
      cases t with
      | false => exact h2.here sr2 rfl
      | true =>
        refine ⟨ρ, μ2, S2, (er.mono sr x1).mono sr1 x2, sr2, Post.bind (R := rV X.K xa) h2 _ fun z S3 u μ3 H3 x3 sr3 r3 h3 => ?_⟩
        cases e' : cmpOp (cmpO op') w z S3 with
        | none => rw [e'] at h3; exact h3.elim
        | some t' =>
          rw [e'] at h3
          exact ⟨w, z, μ3, S3, t', sr3, Rel.mono sr2 x3 _ _ r2, r3, e', h3.here sr3 rfl⟩
  · rintro σ H Q ⟨ρ, μ, S, er, sr, q⟩
    rw [evT_chain] at q
    refine ⟨ρ, μ, S, er, sr, q.bind _ fun v S1 x μ1 H1 x1 sr1 r1 h1 => ?_⟩
    refine ⟨ρ, μ1, S1, er.mono sr x1, sr1, h1.bind _ fun w S2 y μ2 H2 x2 sr2 r2 h2 => ?_⟩
    cases e : cmpOp (cmpO op) v w S2 with
    | none => rw [e] at h2; exact h2.elim
    | some t =>
      rw [e] at h2
      refine ⟨v, w, μ2, S2, t, sr2, Rel.mono sr1 x2 _ _ r1, r2, e, t, rfl, ?_⟩
      cases t with
      | false => exact ⟨false, rfl, h2 false μ2 H2 (Ex.refl _ _) sr2 rfl⟩
      | true =>
        refine ⟨ρ, μ2, S2, (er.mono sr x1).mono sr1 x2, sr2, Post.bind (R := rV X.K xa) h2 _ fun z S3 u μ3 H3 x3 sr3 r3 h3 => ?_⟩
        cases e' : cmpOp (cmpO op') w z S3 with
        | none => rw [e'] at h3; exact h3.elim
        | some t' =>
          rw [e'] at h3
          exact ⟨w, z, μ3, S3, t', sr3, Rel.mono sr2 x3 _ _ r2, r3, e', t', rfl, h3 t' μ3 H3 (Ex.refl _ _) sr3 rfl⟩
theorem s_cmps {f : Rc} (hu : X.A.units + 64 < cLine) (hf : Snd X xa ca D G k W (f sc)) {a : PySem.Expr} {ops : List PySem.CmpOp} {pos : Pos} {es : List PySem.Expr} {m : E} (h : cCmp f sc a ops es = some m) : PEm X xa ca D G k W (.Compare a ops es pos) m := by
  unfold cCmp at h
  split at h
  · rename_i op b
    split at h
    · cases h
    · rename_i hm
      cases e1 : f sc a with
      | none => rw [e1] at h; cases h
      | some x =>
        rw [e1] at h
        cases e2 : f sc b with
        | none => rw [e2] at h; cases h
        | some y => rw [e2] at h; cases h; exact s_cmp hu (by simpa using hm) (hf _ _ e1) (hf _ _ e2)
  · rename_i op op' b c
    split at h
    · cases h
    · rename_i hm
      cases e1 : f sc a with
      | none => rw [e1] at h; cases h
      | some x =>
        rw [e1] at h
        cases e2 : f sc b with
        | none => rw [e2] at h; cases h
        | some y =>
          rw [e2] at h
          cases e3 : f sc c with
          | none => rw [e3] at h; cases h
          | some z => rw [e3] at h; cases h; exact s_chain hu (by simpa using hm) (hf _ _ e1) (hf _ _ e2) (hf _ _ e3)
  · cases h
end
end MP

set_option Elab.async false
set_option linter.all false
set_option maxRecDepth 100000
set_option maxHeartbeats 2000000
/-! MP4b: subscripts, calls, methods. -/
namespace MP
open PySem PySem.Spec PyProof.Rows L2
section
variable {X : Cx} {T : Tab} {N : List Str} {hot : Bool} {ca : Nat → Addr} {D : Nat → Option FD} {G : Nat → Option PV} {k : Nat} {xa : Option (Addr × Nat)} {W : WX} {sc : Scope}
theorem isRev_inv {i : PySem.Expr} (h : isRev i = true) : ∃ j p1 p2 p3, i = .Slice none none (some (.UnaryOp .USub (.Constant (.int 1) j p1) p2)) p3 := by
  unfold isRev at h
  split at h
  · have := of_decide_eq_true h
    subst this
    exact ⟨_, _, _, _, rfl⟩
  · cases h
theorem s_rev {a : PySem.Expr} {ma : E} {j : Nat} {p1 p2 p3 pos : Pos} (ha : PEm X xa ca D G k W a ma) : PEm X xa ca D G k W (.Subscript a (.Slice none none (some (.UnaryOp .USub (.Constant (.int 1) j p1) p2)) p3) pos) (.rev ma) := by
  refine pem_plain (pe_of (pe_revL ha.1) ?_) (fun _ => rfl)
  rintro σ H Q ⟨ρ, μ, S, er, sr, q⟩
  refine ⟨ρ, μ, S, er, sr, q.bind _ fun v S1 x μ1 H1 x1 sr1 r1 h1 => ?_⟩
  cases v with
  | ref n =>
    have h1 : Post X.K xa ca (rV X.K xa) μ1 H1 (match S1[n]? with | some (.lst xs) => allocM (.lst xs.reverse) S1 | none => .bad) Q _ := h1
    split at h1
    · rename_i xs e
      obtain ⟨p, vs, rfl, m, s1, r2⟩ := sr1.ref r1 e
      exact ⟨p, vs, rfl, .of s1, h1.new sr1 r2.reverse⟩
    · exact h1.elim
  | _ => exact h1.elim
theorem po_part {f : PySem.Expr → Option E} (hf : Snd X xa ca D G k W f) {o : Option PySem.Expr} {m : E} (h : part f o = some m) :
    PO X o (fun σ H Q => tR X.K xa ca (rV X.K xa) W (ev (callF D G k) G m) σ H fun x H1 => if o.isSome then ∃ i, x = V.int i ∧ Q (some i) H1 else Q none H1) := by
  cases o with
  | none =>
    cases h
    refine ⟨fun pins s σ H Q I q => po_none.run pins s σ H Q I ?_⟩
    obtain ⟨ρ, μ, S, er, sr, q⟩ := q
    exact q .non μ H (Ex.refl _ _) sr rfl
  | some e =>
    exact ⟨fun pins s σ H Q I q => (po_some (hf e m h).1).run pins s σ H Q I q⟩
theorem s_slice {f : PySem.Expr → Option E} (hf : Snd X xa ca D G k W f) {a : PySem.Expr} {lo hi : Option PySem.Expr} {ma ml mh : E} {p2 pos : Pos} (ha : PEm X xa ca D G k W a ma) (hl : part f lo = some ml) (hh : part f hi = some mh) :
    PEm X xa ca D G k W (.Subscript a (.Slice lo hi none p2) pos) (.slice ma ml mh lo.isSome hi.isSome) := by
  refine pem_plain (pe_of (pe_slice (sl_all (xa := xa) (ca := ca)) ha.1 (po_part hf hl) (po_part hf hh)) ?_) (fun _ => rfl)
  rintro σ H Q ⟨ρ, μ, S, er, sr, q⟩
  refine ⟨ρ, μ, S, er, sr, q.bind _ fun v S1 x μ1 H1 x1 sr1 r1 h1 => ?_⟩
  have er1 := er.mono sr x1
  refine ⟨ρ, μ1, S1, er1, sr1, h1.bind _ fun w S2 y μ2 H2 x2 sr2 r2 h2 => ?_⟩
  have er2 := er1.mono sr1 x2
  have h2 : Post X.K xa ca (rV X.K xa) μ2 H2 (if partOk lo.isSome w then (ev (callF D G k) G mh ρ S2).bind fun h T3 => if partOk hi.isSome h then sliceOp lo.isSome hi.isSome v w h T3 else .bad else .bad) Q _ := h2
  split at h2
  · rename_i hw
    -- the second part
    have key : ∀ (o1 : Option Int), PtR lo.isSome w o1 → tR X.K xa ca (rV X.K xa) W (ev (callF D G k) G mh) σ H2 (fun x3 H3 => if hi.isSome = true then ∃ i, x3 = V.int i ∧
        (fun o2 H4 => (∃ v w1 w2 pl ph μ T W, SR X.K xa H4 μ T ∧ Rel X.K xa H4 μ v x ∧ PtR pl w1 o1 ∧ PtR ph w2 o2 ∧ Post X.K xa ca (rV X.K xa) μ H4 (sliceOp pl ph v w1 w2 T) Q W)) (some i) H3
        else (fun o2 H4 => (∃ v w1 w2 pl ph μ T W, SR X.K xa H4 μ T ∧ Rel X.K xa H4 μ v x ∧ PtR pl w1 o1 ∧ PtR ph w2 o2 ∧ Post X.K xa ca (rV X.K xa) μ H4 (sliceOp pl ph v w1 w2 T) Q W)) none H3) := fun o1 p1 => by
      refine ⟨ρ, μ2, S2, er2, sr2, h2.bind _ fun w3 S3 z μ3 H3 x3 sr3 r3 h3 => ?_⟩
      split at h3
      · rename_i hw3
        have fin : ∀ o2, PtR hi.isSome w3 o2 → ∃ v w1 w2 pl ph μ T W, SR X.K xa H3 μ T ∧ Rel X.K xa H3 μ v x ∧ PtR pl w1 o1 ∧ PtR ph w2 o2 ∧ Post X.K xa ca (rV X.K xa) μ H3 (sliceOp pl ph v w1 w2 T) Q W := fun o2 p2 =>
          ⟨v, w, w3, lo.isSome, hi.isSome, μ3, S3, _, sr3, Rel.mono sr1 (x2.trans x3) _ _ r1, p1, p2, h3⟩
        cases hb : hi.isSome with
        | false =>
          rw [if_neg Bool.false_ne_true]
          exact fin none (.inl ⟨hb, rfl⟩)
        | true =>
          rw [if_pos rfl]
          rw [hb] at hw3
          cases w3 with
          | int i => exact ⟨i, r3, fin (some i) (.inr ⟨hb, i, rfl, rfl⟩)⟩
          | _ => exact absurd (show false = true from hw3) Bool.false_ne_true
      · exact h3.elim
    cases hb : lo.isSome with
    | false =>
      rw [if_neg Bool.false_ne_true]
      exact key none (.inl ⟨hb, rfl⟩)
    | true =>
      rw [if_pos rfl]
      rw [hb] at hw
      cases w with
      | int i => exact ⟨i, r2, key (some i) (.inr ⟨hb, i, rfl, rfl⟩)⟩
      | _ => exact absurd (show false = true from hw) Bool.false_ne_true
  · exact h2.elim
theorem plain_ix {b : PySem.Expr} (h : isSlice b = false) : PlainIx b := fun o i => by
  cases b <;> first | rfl | cases h
theorem s_idx {a b : PySem.Expr} {ma mb : E} {pos : Pos} (hs : isSlice b = false) (ha : PEm X xa ca D G k W a ma) (hb : PEm X xa ca D G k W b mb) : PEm X xa ca D G k W (.Subscript a b pos) (.idx ma mb) := by
  refine pem_plain (pe_of (pe_ix (ix_all (xa := xa)) ha.1 hb.1 (plain_ix hs)) ?_) (fun _ => rfl)
  rintro σ H Q ⟨ρ, μ, S, er, sr, q⟩
  refine ⟨ρ, μ, S, er, sr, q.bind _ fun v S1 x μ1 H1 x1 sr1 r1 h1 => ?_⟩
  refine ⟨ρ, μ1, S1, er.mono sr x1, sr1, h1.bind _ fun w S2 y μ2 H2 x2 sr2 r2 h2 => ?_⟩
  cases e : idxOp v w S2 with
  | none => rw [e] at h2; exact h2.elim
  | some u =>
    rw [e] at h2
    exact ⟨v, w, μ2, S2, u, sr2, Rel.mono sr1 x2 _ _ r1, r2, e, fun z rz => h2.here sr2 rz⟩
theorem s_sub {f : Rc} (hf : Snd X xa ca D G k W (f sc)) {a i : PySem.Expr} {pos : Pos} {m : E} (h : cSub f sc a i = some m) : PEm X xa ca D G k W (.Subscript a i pos) m := by
  unfold cSub at h
  split at h
  · rename_i hr
    obtain ⟨j, p1, p2, p3, rfl⟩ := isRev_inv hr
    cases e : f sc a with
    | none => rw [e] at h; cases h
    | some x => rw [e] at h; cases h; exact s_rev (hf _ _ e)
  · split at h
    · rename_i lo hi p _
      cases e1 : f sc a with
      | none => rw [e1] at h; cases h
      | some x =>
        rw [e1] at h
        cases e2 : part (f sc) lo with
        | none => rw [e2] at h; cases h
        | some y =>
          rw [e2] at h
          cases e3 : part (f sc) hi with
          | none => rw [e3] at h; cases h
          | some z => rw [e3] at h; cases h; exact s_slice hf (hf _ _ e1) e2 e3
    · split at h
      · cases h
      · rename_i hs
        cases e1 : f sc a with
        | none => rw [e1] at h; cases h
        | some x =>
          rw [e1] at h
          cases e2 : f sc i with
          | none => rw [e2] at h; cases h
          | some y => rw [e2] at h; cases h; exact s_idx (by simpa using hs) (hf _ _ e1) (hf _ _ e2)

/-! ### calls -/
theorem boot_prims : (primTab.all fun q => decide (bootBuiltins q.1 = some (primV q.2))) = true := by decide +kernel
theorem boot_prim {x : Str} {p : Prim} (h : primO x = some p) : bootBuiltins x = some (primV p) :=
  of_decide_eq_true (List.all_eq_true.mp boot_prims (x, p) (PySem.mem_of_lookup h))
theorem prim_shape (p : Prim) : (∃ id, primV p = .builtin id) ∨ ∃ t, primV p = .type t := by
  cases p <;> first | exact .inl ⟨_, rfl⟩ | exact .inr ⟨_, rfl⟩
theorem s_prim {f : PySem.Expr → Option E} (hf : Snd X xa ca D G k W f) {x : Str} {e : PySem.Expr} {es : List PySem.Expr} {m : E} {p : Prim} {np pos : Pos} (hc : X.calm = true) (hg : Gl X x) (hm : X.mg x = none) (hp : primO x = some p) (ha : args f (e :: es) = some m)
    (hn : x ≠ "__name__") (hdb : (x == ("__debug__" : Str)) = false) : PEm X xa ca D G k W (.Call (.Name x np) (e :: es) [] pos) (.prim p m) := by
  obtain ⟨a, b, h1, h2, h3, h4⟩ := args_cons ha
  have cr := call_prim (X := X) (xa := xa) (ca := ca) hc p
  have bt := boot_prim hp
  have hA := args_sound hf ha
  have pe : PE X (.Call (.Name x np) (e :: es) [] pos) (tCB (rCl X.K xa ca (primOp p)) (tR X.K xa ca (rA X.K xa) W (ev (callF D G k) G m))) := by
    rcases prim_shape p with ⟨id, z⟩ | ⟨t, z⟩
    · rw [z] at cr bt
      exact pe_callB cr hg hm bt hA hn hdb (star_cons h1) (args_plain h3)
    · rw [z] at cr bt
      exact pe_callTy cr hg hm bt hA hn hdb (star_cons h1) (args_plain h3)
  refine pem_plain (pe_of pe ?_) (fun _ => rfl)
  rintro σ H Q ⟨ρ, μ, S, er, sr, q⟩
  exact ⟨ρ, μ, S, er, sr, q.bind _ fun v S1 x μ1 H1 x1 sr1 r1 h1 => ⟨asTup v, μ1, S1, _, sr1, r1, h1⟩⟩
theorem callF_len {D : Nat → Option FD} {G : Nat → Option PV} {k f : Nat} {vs : List PV} {S : Store} {d : FD} {β : Type} {R : RRel PV β} {K : PySem.W.Frag} {μ : List Addr} {H : Hp} {Q : β → Hp → Prop} {W : Value → Option Addr → Hp → Prop}
    (h : Post K xa ca R μ H (callF D G k f vs S) Q W) (hd : D f = some d) : vs.length = d.np := by
  cases k with
  | zero => exact h.elim
  | succ k =>
    have h : Post K xa ca R μ H (match D f with | some d => if vs.length = d.np then ofBody (exS (callF D G k) G d.body (startE d.ns vs) S) else .bad | none => .bad) Q W := h
    rw [hd] at h
    have h : Post K xa ca R μ H (if vs.length = d.np then ofBody (exS (callF D G k) G d.body (startE d.ns vs) S) else .bad) Q W := h
    split at h
    · assumption
    · exact h.elim
theorem s_fn {f : PySem.Expr → Option E} (hf : Snd X none ca D G k W f) {x : Str} {fi : Nat} {e : PySem.Expr} {es : List PySem.Expr} {m : E} {np pos : Pos} (F : Facts X T ca D G k) (hr : Room k X.A) (tk : Takes X W) (hg : Gl X x) (hp : T.fns.lookup x = some fi) (ha : args f (e :: es) = some m)
    (hdb : (x == ("__debug__" : Str)) = false) : PEm X none ca D G k W (.Call (.Name x np) (e :: es) [] pos) (.call fi m) := by
  obtain ⟨a, b, h1, h2, h3, h4⟩ := args_cons ha
  obtain ⟨fa, fd, ps, hm, hk, hb, ⟨d, hd, hnp⟩, Fn⟩ := F.fns x fi hp
  refine pem_plain (pe_of (pe_callS Fn hr hg hm hk hb (fun σ => passAt tk σ) (args_sound hf ha) hdb (star_cons h1) (args_plain h3)) ?_) (fun _ => rfl)
  rintro σ H Q ⟨ρ, μ, S, er, sr, q⟩
  refine ⟨ρ, μ, S, er, sr, q.bind _ fun v S1 x μ1 H1 x1 sr1 r1 h1 => ?_⟩
  have h1 : Post X.K none ca (rV X.K none) μ1 H1 (callF D G k fi (asTup v) S1) Q _ := h1
  refine ⟨?_, asTup v, μ1, S1, r1, sr1, h1⟩
  have hl := callF_len h1 hd
  rw [← Rels.length r1, hl, hnp]
theorem s_isinst {a : PySem.Expr} {ma : E} {y : Str} {t : Tyq} {np yp pos : Pos} (hs : isStar a = false) (hgi : Gl X "isinstance") (hmi : X.mg "isinstance" = none) (hg : Gl X y) (hm : X.mg y = none) (ht : tyO y = some t) (ha : PEm X xa ca D G k W a ma) :
    PEm X xa ca D G k W (.Call (.Name "isinstance" np) [a, .Name y yp] [] pos) (.isinst ma t) := by
  have hb : bootBuiltins y = some (.type (tyName t)) ∧ y ≠ "__name__" ∧ (y == ("__debug__" : Str)) = false := by
    unfold tyO at ht
    repeat' split at ht
    all_goals first
      | (rename_i e; subst e; cases ht; exact ⟨by decide +kernel, by decide, by decide⟩)
      | cases ht
  have hy : PE X (.Name y yp) (tC (.ty (tyName t))) := pe_bltn hg hm hb.1 rfl hb.2.1 hb.2.2
  refine pem_plain (pe_of (pe_callB call_isi hgi hmi PyProof.Rows.boot_isinstance (pa_cons ha.1 (pa_cons hy pa_nil) (star_cons hs)) (by decide) (by decide) (star_cons hs)) ?_) (fun _ => rfl)
  rintro σ H Q ⟨ρ, μ, S, er, sr, q⟩
  refine ⟨ρ, μ, S, er, sr, q.bind _ fun v S1 x μ1 H1 x1 sr1 r1 h1 => ?_⟩
  cases e : isInst v t with
  | none => rw [e] at h1; exact h1.elim
  | some b =>
    rw [e] at h1
    obtain ⟨u, h2, h3⟩ := isInst_ok sr1 r1 e
    exact ⟨x, _, u, _, b, rfl, .ty _, h2, h3, h1.here sr1 rfl⟩
theorem s_isexc {x y : Str} {i c : Nat} {xp np yp pos : Pos} (g : GE X ca N sc hot xa k) (F : Facts X T ca D G k) (hh : hot = true) (hgi : Gl X "isinstance") (hmi : X.mg "isinstance" = none) (hg : Gl X y) (hy : T.clss.lookup y = some c) (hx : slotOf N x = some i) (hv : isVis (sc.names.lookup x) = true)
    (hd : (x == ("__debug__" : Str)) = false) (hcd : (x == ("__classdict__" : Str)) = false) (hyd : (y == ("__debug__" : Str)) = false) : PEm X xa ca D G k W (.Call (.Name "isinstance" np) [.Name x xp, .Name y yp] [] pos) (.isexc i (T.caught c) (T.passed c)) := by
  have hs := g.sc
  subst hs
  have C := F.clss y c hy
  have pex : PE X (.Name x xp) (tVar i) := pe_var (by rw [g.nN]; exact slot_of hx) (vis_of hv) hd hcd
  have pey : PE X (.Name y yp) (tC (.ref (ca c))) := pe_glob hg C.mg rfl hyd
  -- what the slot holds decides which rule
  refine pem_plain ⟨fun pins s σ H Q I q => ?_⟩ (fun _ => rfl)
  obtain ⟨ρ, μ, S, er, sr, q⟩ := q
  have q : Post X.K xa ca (rV X.K xa) μ H (match ρ[i]? with | some (some (.exc d)) => if d ∈ T.caught c then .ok (.bl true) S else if d ∈ T.passed c then .ok (.bl false) S else .bad | _ => .bad) Q _ := q
  split at q
  · rename_i d hv2
    obtain ⟨z, h1, h2⟩ := er.at_ i _ hv2
    obtain ⟨d', a, e1, rfl, h2⟩ : ∃ c a, PV.exc d = .exc c ∧ z = .ref a ∧ xa = some (a, c) := by
      rcases h2 with h2 | h2
      · exact h2.2.elim
      · exact h2
    cases e1
    have cr := g.hotIs hh a d h2
    refine (pe_callB cr hgi hmi PyProof.Rows.boot_isinstance (pa_cons pex (pa_cons pey pa_nil))).run pins s σ H Q I ⟨_, h1, .ref (ca c), .ref (ca c), ?_⟩
    split at q
    · rename_i hm
      exact ⟨true, rfl, fun u r => r, C.kyes d hm, q.here sr rfl⟩
    · split at q
      · rename_i hm
        exact ⟨false, rfl, fun u r => r, C.kno d hm, q.here sr rfl⟩
      · exact q.elim
  · exact q.elim

/-! ### methods -/
theorem meth_slot {x : Str} {n : Nat} {m : Mth} (h : methO x n = some m) : Slot (methT m) x (methId m) ∧ typeOf (.builtin (methId m)) = pure (.type "method_descriptor") ∧ PlainAttrs (methT m) := by
  unfold methO at h
  repeat' split at h
  · rename_i e; obtain ⟨rfl, _⟩ := e; cases h; exact ⟨PySem.F.slot_list_append, PySem.F.type_list_append, PySem.F.plainAttrs_list⟩
  · rename_i e; obtain ⟨rfl, _⟩ := e; cases h; exact ⟨PySem.F.slot_list_pop, PySem.F.type_list_pop, PySem.F.plainAttrs_list⟩
  · rename_i e; obtain ⟨rfl, _⟩ := e; cases h; exact ⟨PySem.F.slot_str_join, PySem.F.type_str_join, PySem.F.plainAttrs_str⟩
  · rename_i e; obtain ⟨rfl, _⟩ := e; cases h; exact ⟨PySem.F.slot_str_zfill, PySem.F.type_str_zfill, PySem.F.plainAttrs_str⟩
  · rename_i e; obtain ⟨rfl, _⟩ := e; cases h; exact ⟨PySem.F.slot_str_find, PySem.F.type_str_find, PySem.F.plainAttrs_str⟩
  · cases h
theorem attr_base {o : PySem.Expr} {x : Str} {env : Env} (h : isSuper o = false) : attributeBase o x env (eval o env) = eval o env := by
  cases o with
  | Call f as kws pos =>
    cases f <;> try rfl
    cases as <;> try rfl
    cases kws <;> first | rfl | cases h
  | _ => rfl
theorem few_args {f : PySem.Expr → Option E} {env : Env} {pos : Pos} : ∀ {es : List PySem.Expr} {m : E}, args f es = some m → (backTo pos (starEach es env)).all (fun x => !x.1) = true
  | [], _, _ => rfl
  | e :: es, m, h => by
    obtain ⟨a, b, h1, h2, h3, _⟩ := args_cons h
    rw [star_cons h1]
    have := few_args (env := env) (pos := pos) h3
    unfold backTo at this ⊢
    rw [List.map_cons, List.all_cons, this] <;> rfl
theorem s_meth {f : PySem.Expr → Option E} (hf : Snd X xa ca D G k W f) {o : PySem.Expr} {x : Str} {es : List PySem.Expr} {mo m : E} {mt : Mth} {apos pos : Pos} (hl : apos.endLine = pos.line) (hs : isSuper o = false) (hm : methO x es.length = some mt) (ho : PEm X xa ca D G k W o mo) (ha : args f es = some m) :
    PEm X xa ca D G k W (.Call (.Attribute o x apos) es [] pos) (.meth mt mo m) := by
  obtain ⟨sl, ty, pa⟩ := meth_slot hm
  have line : (apos.endLine == pos.line) = true := by rw [hl]; exact beq_self_eq_true _
  cases es with
  | nil =>
    cases ha
    refine pem_plain (pe_of (pe_bm0 pa sl ty (meth_ok (xa := xa) (ca := ca) mt) ho.1 (attr_base hs) line) ?_) (fun _ => rfl)
    rintro σ H Q ⟨ρ, μ, S, er, sr, q⟩
    refine ⟨ρ, μ, S, er, sr, q.bind _ fun v S1 x μ1 H1 x1 sr1 r1 h1 => ?_⟩
    have h1 : Post X.K xa ca (rV X.K xa) μ1 H1 (if recvOk mt v then methOp mt v [] S1 else .bad) Q _ := h1
    split at h1
    · rename_i hrc
      exact ⟨meth_ty sr1 r1 hrc, v, [], μ1, S1, _, sr1, r1, rfl, h1⟩
    · exact h1.elim
  | cons e es =>
    obtain ⟨a, b, h1, h2, h3, h4⟩ := args_cons ha
    have hn : es.length < 20 := by
      unfold methO at hm
      repeat' split at hm
      all_goals first
        | (rename_i z; obtain ⟨_, z⟩ := z; rw [List.length_cons] at z; omega)
        | cases hm
    refine pem_plain (pe_of (pe_bm pa sl ty (meth_ok (xa := xa) (ca := ca) mt) ho.1 (args_sound hf ha) (attr_base hs) ?_ line (star_cons h1) (args_plain h3)) ?_) (fun _ => rfl)
    · rw [few_args ha]
      show (true && true && decide ((e :: es).length + 0 + 0 < 30)) = true
      rw [List.length_cons]
      simp
      omega
    rintro σ H Q ⟨ρ, μ, S, er, sr, q⟩
    refine ⟨ρ, μ, S, er, sr, q.bind _ fun v S1 x μ1 H1 x1 sr1 r1 h1 => ?_⟩
    have h1 : Post X.K xa ca (rV X.K xa) μ1 H1 (if recvOk mt v then (ev (callF D G k) G m ρ S1).bind fun vs T2 => methOp mt v (asTup vs) T2 else .bad) Q _ := h1
    split at h1
    · rename_i hrc
      refine ⟨meth_ty sr1 r1 hrc, ρ, μ1, S1, er.mono sr x1, sr1, h1.bind _ fun w S2 y μ2 H2 x2 sr2 r2 h2 => ?_⟩
      exact ⟨v, asTup w, μ2, S2, _, sr2, Rel.mono sr1 x2 _ _ r1, r2, h2⟩
    · exact h1.elim
end
end MP

set_option Elab.async false
set_option linter.all false
set_option maxRecDepth 100000
set_option maxHeartbeats 2000000
/-! MP4c: what is walked; comprehensions; the whole of expressions. -/
namespace MP
open PySem PySem.Spec PyProof.Rows L2
section
variable {X : Cx} {T : Tab} {N : List Str} {hot : Bool} {ca : Nat → Addr} {D : Nat → Option FD} {G : Nat → Option PV} {k : Nat} {xa : Option (Addr × Nat)} {W : WX} {sc : Scope}
/-- the walk J of the model is the walk w of the tree -/
def IR (K : PySem.W.Frag) (xa : Option (Addr × Nat)) (μ0 : List Addr) (H0 : Hp) (J : It) (w : Wk) : Prop := ∀ μ H T i, Ex μ0 μ H0 H → SR K xa H μ T → match w.at i T with
  | none => True
  | some none => J.stop i H
  | some (some v) => J.go i H ∧ ∀ x H', J.yld i H x H' → Ex μ μ H H' ∧ SR K xa H' μ T ∧ Rel K xa H' μ v x
theorem ir_tup {K : PySem.W.Frag} {μ0 : List Addr} {H0 : Hp} {T0 : Store} {a : Addr} {xs : List PV} {vs : List V} (s0 : SR K xa H0 μ0 T0) (h : SqT K H0 a vs) (r : Rels K xa H0 μ0 xs vs) : IR K xa μ0 H0 (Itt K a) (.items xs) := by
  intro μ H T i x sr
  have h' := sqT_mono s0 x h
  have r' := Rels.mono s0 x _ _ r
  show match (some xs[i]? : Option (Option PV)) with | none => True | some none => _ | some (some v) => _
  cases e : xs[i]? with
  | none => exact ⟨vs, h', by rw [← r'.length]; exact List.getElem?_eq_none_iff.mp e⟩
  | some v =>
    obtain ⟨z, hz, rz⟩ := r'.get e
    refine ⟨⟨vs, z, h', hz⟩, fun y H' hy => ?_⟩
    obtain ⟨rfl, f⟩ := hy
    have : some y = some z := (f vs h').symm.trans hz
    cases this
    exact ⟨Ex.refl _ _, sr, rz⟩
theorem ir_ref {K : PySem.W.Frag} {μ0 : List Addr} {H0 : Hp} {a : Addr} {n : Nat} (ha : μ0[n]? = some a) : IR K xa μ0 H0 (Itl K a) (.ref n) := by
  intro μ H T i x sr
  have h' := x.get ha
  show match (match T[n]? with | some (.lst xs) => some xs[i]? | none => none : Option (Option PV)) with | none => True | some none => _ | some (some v) => _
  cases e : T[n]? with
  | none => trivial
  | some o =>
    cases o with
    | lst xs =>
      obtain ⟨vs, e1, r1⟩ := sr.lst n a xs h' e
      show match (some xs[i]? : Option (Option PV)) with | none => True | some none => _ | some (some v) => _
      cases e2 : xs[i]? with
      | none => exact ⟨vs, .of e1, by rw [← r1.length]; exact List.getElem?_eq_none_iff.mp e2⟩
      | some v =>
        obtain ⟨z, hz, rz⟩ := r1.get e2
        refine ⟨⟨vs, z, .of e1, hz⟩, fun y H' hy => ?_⟩
        obtain ⟨rfl, f⟩ := hy
        have : some y = some z := (f vs (.of e1)).symm.trans hz
        cases this
        exact ⟨Ex.refl _ _, sr, rz⟩
theorem ir_str {K : PySem.W.Frag} {μ0 : List Addr} {H0 : Hp} (t : List Nat) : IR K xa μ0 H0 (Its ⟨t.toArray⟩) (.items (t.map fun c => .str [c])) := by
  intro μ H T i x sr
  show match (some (t.map fun c => PV.str [c])[i]? : Option (Option PV)) with | none => True | some none => _ | some (some v) => _
  rw [List.getElem?_map]
  cases e : t[i]? with
  | none => exact (show t.toArray.size ≤ i by rw [List.size_toArray]; exact List.getElem?_eq_none_iff.mp e)
  | some c =>
    have hi : i < t.length := (List.getElem?_eq_some_iff.mp e).1
    refine ⟨(show i < t.toArray.size by rw [List.size_toArray]; exact hi), fun y H' hy => ?_⟩
    obtain ⟨rfl, c', hc, rfl⟩ := hy
    have : some c' = some c := by rw [← hc, ← e]; simp
    cases this
    exact ⟨Ex.refl _ _, sr, rfl⟩
theorem ir_range {K : PySem.W.Frag} {μ0 : List Addr} {H0 : Hp} (lo : Int) (n : Nat) : IR K xa μ0 H0 (Itr lo n) (.range lo 1 n) := by
  intro μ H T i x sr
  show match (some (if i < n then some (PV.int (lo + i * 1)) else none) : Option (Option PV)) with | none => True | some none => _ | some (some v) => _
  by_cases h : i < n
  · rw [if_pos h]
    refine ⟨h, fun y H' hy => ?_⟩
    obtain ⟨rfl, rfl⟩ := hy
    exact ⟨Ex.refl _ _, sr, by rw [Int.mul_one]; rfl⟩
  · rw [if_neg h]
    exact Nat.le_of_not_lt h
theorem ir_rangeC {K : PySem.W.Frag} {μ0 : List Addr} {H0 : Hp} (lo c : Int) (n : Nat) : IR K xa μ0 H0 (Itc lo c n) (.range lo c n) := by
  intro μ H T i x sr
  show match (some (if i < n then some (PV.int (lo + i * c)) else none) : Option (Option PV)) with | none => True | some none => _ | some (some v) => _
  by_cases h : i < n
  · rw [if_pos h]
    refine ⟨h, fun y H' hy => ?_⟩
    obtain ⟨rfl, rfl⟩ := hy
    exact ⟨Ex.refl _ _, sr, rfl⟩
  · rw [if_neg h]
    exact Nat.le_of_not_lt h
/-- a list, a tuple or a text is walked -/
theorem pi_any {tg e : PySem.Expr} {te : TE} (he : PE X e te) : PI X tg e (fun σ H R => te σ H fun x H1 => (∃ a, x = .ref a ∧ (∃ xs, SqL X.K H1 a xs) ∧ R (Itl X.K a) H1) ∨
    (∃ a xs, x = .ref a ∧ SqT X.K H1 a xs ∧ R (Itt X.K a) H1) ∨ (∃ z, x = .str z ∧ R (Its z) H1)) := by
  refine ⟨fun pins s σ H R I h => ?_⟩
  refine thn (he.run pins s σ H _ I h) fun v s1 ⟨x, H1, I1, r1, q1⟩ => ?_
  rcases q1 with ⟨a, rfl, ⟨xs, hq⟩, q⟩ | ⟨a, xs, rfl, hq, q⟩ | ⟨z, rfl, q⟩
  · cases r1
    obtain ⟨its, rv, p, hz⟩ := I1.list hq
    refine wpAny_pyIter_list p.isList ?_
    refine ⟨s1.heap.objs.size, [s1.heap.objs.size], _, _, H1, rfl, I1.kept (t' := s1.toks) fun b o e => Heap.get?_push_of_some _ e, turn_list a _, ⟨_, Heap.get?_push_size _ rfl, rfl, rfl⟩, fun b hb => ?_, q⟩
    have e : b = s1.heap.objs.size := by simpa using hb
    subst e
    exact I1.fpOk (Nat.le_refl _) (I1.hok.fresh (Nat.le_refl _))
  · cases r1
    obtain ⟨its, rv, p, hz⟩ := I1.tuple hq
    refine wpAny_pyIter_tuple (show s1.heap.IsTuple a its.toArray from p) ?_
    refine ⟨s1.heap.objs.size, [s1.heap.objs.size], _, _, H1, rfl, I1.kept (t' := s1.toks) fun b o e => Heap.get?_push_of_some _ e, turn_tuple a _, ⟨_, Heap.get?_push_size _ rfl, rfl, rfl⟩, fun b hb => ?_, q⟩
    have e : b = s1.heap.objs.size := by simpa using hb
    subst e
    exact I1.fpOk (Nat.le_refl _) (I1.hok.fresh (Nat.le_refl _))
  · obtain ⟨t, rfl⟩ := r1
    cases ha : z.cps.all (· < 128)
    · exact wpAny_pyIter_wide ha (pi_one (tk := s1.toks) I1 _ (turn_str _ z t "str_iterator" (.inr rfl)) ⟨_, Heap.get?_push_size _ rfl, rfl, rfl⟩ q)
    · exact wpAny_pyIter_ascii ha (pi_one (tk := s1.toks) I1 _ (turn_str _ z t "str_ascii_iterator" (.inl rfl)) ⟨_, Heap.get?_push_size _ rfl, rfl, rfl⟩ q)
def tWk (K : PySem.W.Frag) (xa : Option (Addr × Nat)) (ca : Nat → Addr) (W : WX) (C : Nat → List PV → Store → Res PV) (G : Nat → Option PV) (kk : ItK) (m : E) : TI := fun σ H R => tR K xa ca (rA K xa) W (ev C G m) σ H fun xs H1 =>
  ∃ vs μ1 T1 w, SR K xa H1 μ1 T1 ∧ Rels K xa H1 μ1 vs xs ∧ walkOf kk vs = some w ∧ ∀ J, IR K xa μ1 H1 J w → R J H1
theorem pi_of {tg e : PySem.Expr} {t t' : TI} (h : PI X tg e t) (hi : ∀ σ H Q, t' σ H Q → t σ H Q) : PI X tg e t' := ⟨fun pins s σ H Q I q => h.run pins s σ H Q I (hi σ H Q q)⟩
theorem w_plain {tg e : PySem.Expr} {m : E} (h : PEm X xa ca D G k W e m) : PI X tg e (tWk X.K xa ca W (callF D G k) G .plain (.cons m .nil)) := by
  refine pi_of (pi_any h.1) ?_
  rintro σ H Q ⟨ρ, μ, S, er, sr, q⟩
  refine ⟨ρ, μ, S, er, sr, q.bind _ fun v S1 x μ1 H1 x1 sr1 r1 h1 => ?_⟩
  have h1 : Post X.K xa ca (rA X.K xa) μ1 H1 (.ok (.tup [v]) S1) _ _ := h1
  obtain ⟨vs, μ2, T2, w, s2, r2, hw, hJ⟩ := h1 [x] μ1 H1 (Ex.refl _ _) sr1 (Rels.one r1)
  obtain ⟨v2, ws2, e2, r3, r4⟩ : ∃ v2 ws2, vs = v2 :: ws2 ∧ Rel X.K xa H1 μ2 v2 x ∧ ws2 = [] := by
    cases vs with
    | nil => cases (show [x] = [] from r2)
    | cons a b =>
      obtain ⟨y, ys, e, ra, rb⟩ := r2
      cases e
      have := rb.length
      exact ⟨a, b, rfl, ra, by cases b <;> simp at this ⊢⟩
  subst e2 r4
  cases v2 with
  | tup ys =>
    cases hw
    obtain ⟨a, us, rfl, s, q⟩ := r3
    exact .inr (.inl ⟨a, us, rfl, s, hJ _ (ir_tup s2 s q)⟩)
  | ref n =>
    cases hw
    obtain ⟨a, rfl, ha⟩ := r3
    obtain ⟨us, e⟩ := s2.mem (List.mem_of_getElem? ha)
    exact .inl ⟨a, rfl, ⟨us, .of e⟩, hJ _ (ir_ref ha)⟩
  | str t =>
    cases hw
    cases r3
    exact .inr (.inr ⟨_, rfl, hJ _ (ir_str t)⟩)
  | _ => cases hw
theorem small62_of {i : Int} (h : small62 i = true) : -(2 ^ 62) ≤ i ∧ i < 2 ^ 62 := by
  unfold small62 at h
  rw [Bool.and_eq_true, decide_eq_true_eq, decide_eq_true_eq] at h
  omega
theorem rgC_of {a b c : Int} (h : 0 ≤ a ∧ a ≤ SZ ∧ 0 ≤ b ∧ b ≤ SZ ∧ 0 < c ∧ c < 1000) : RgC a b c (if a < b then (b - a - 1) / c + 1 else 0).toNat := by
  obtain ⟨h1, h2, h3, h4, h5, h6⟩ := h
  have hz : (SZ : Int) = 16777216 := rfl
  have hs : Builtin.Range.rangeSize a b c = if a < b then (b - a - 1) / c + 1 else 0 := by
    unfold Builtin.Range.rangeSize
    rw [if_pos h5]
  have hq : a < b → 0 ≤ (b - a - 1) / c ∧ (b - a - 1) / c ≤ b - a - 1 := fun z => ⟨Int.ediv_nonneg (by omega) (by omega), Int.ediv_le_self _ (by omega)⟩
  refine ⟨by omega, by omega, ?_, ?_⟩
  · unfold Builtin.Range.small
    rw [hs]
    simp only [Builtin.Range.rangeFitsLong, Bool.and_eq_true, Bool.or_eq_true, decide_eq_true_eq, beq_iff_eq, show c > 0 from h5, if_true]
    split
    · rename_i z; have := hq z; omega
    · omega
  · rw [hs]
    split
    · rename_i z; have := hq z; omega
    · rfl
theorem range_inv {vs : List PV} {w : Wk} (h : walkOf .range vs = some w) : (∃ n, vs = [.int n] ∧ small62 n = true ∧ w = .range 0 1 n.toNat) ∨ (∃ a b, vs = [.int a, .int b] ∧ (small62 a && small62 b) = true ∧ w = .range a 1 (b - a).toNat) ∨
      ∃ a b c, vs = [.int a, .int b, .int c] ∧ (0 ≤ a ∧ a ≤ SZ ∧ 0 ≤ b ∧ b ≤ SZ ∧ 0 < c ∧ c < 1000) ∧ w = .range a c (if a < b then (b - a - 1) / c + 1 else 0).toNat := by
  have h : walkRange vs = some w := h
  unfold walkRange at h
  split at h
  · split at h
    · rename_i z; cases h; exact .inl ⟨_, rfl, z, rfl⟩
    · cases h
  · split at h
    · rename_i z; cases h; exact .inr (.inl ⟨_, _, rfl, z, rfl⟩)
    · cases h
  · split at h
    · rename_i z; cases h; exact .inr (.inr ⟨_, _, _, rfl, z, rfl⟩)
    · cases h
  · cases h
theorem Post.mono' {α β : Type} {R : RRel α β} {K : PySem.W.Frag} {μ : List Addr} {H : Hp} {r : Res α} {Q Q' : β → Hp → Prop} {W : Value → Option Addr → Hp → Prop} (h : Post K xa ca R μ H r Q W)
    (hq : ∀ v T x μ' H', r = .ok v T → R v x H' μ' → Q x H' → Q' x H') : Post K xa ca R μ H r Q' W := by
  cases r with
  | ok v T => exact fun y μ' H' x' s q => hq v T y μ' H' rfl q (h y μ' H' x' s q)
  | exc c T => exact h
  | bad => exact h
theorem evArgs_len {f : PySem.Expr → Option E} {C : Nat → List PV → Store → Res PV} : ∀ {es : List PySem.Expr} {m : E} {ρ : Nv} {S S' : Store} {v : PV}, args f es = some m → ev C G m ρ S = .ok v S' → (asTup v).length = es.length
  | [], m, ρ, S, S', v, h, e => by cases h; cases e; rfl
  | a :: es, m, ρ, S, S', v, h, e => by
    obtain ⟨m1, m2, g1, g2, g3, rfl⟩ := args_cons h
    have e : ((ev C G m1 ρ S).bind fun v T1 => (ev C G m2 ρ T1).bind fun vs T2 => Res.ok (PV.tup (v :: asTup vs)) T2) = .ok v S' := e
    cases e1 : ev C G m1 ρ S with
    | ok x S1 =>
      rw [e1] at e
      have e : ((ev C G m2 ρ S1).bind fun vs T2 => Res.ok (PV.tup (x :: asTup vs)) T2) = .ok v S' := e
      cases e2 : ev C G m2 ρ S1 with
      | ok y S2 =>
        rw [e2] at e
        cases e
        show (asTup y).length + 1 = es.length + 1
        rw [evArgs_len g3 e2]
      | _ => rw [e2] at e; cases e
    | _ => rw [e1] at e; cases e
theorem w_range {f : PySem.Expr → Option E} (hf : Snd X xa ca D G k W f) {tg : PySem.Expr} {es : List PySem.Expr} {m : E} {np pos : Pos} (hg : Gl X "range") (hm : X.mg "range" = none) (hl : es.length = 1 ∨ es.length = 2 ∨ es.length = 3) (ha : args f es = some m) :
    PI X tg (.Call (.Name "range" np) es [] pos) (tWk X.K xa ca W (callF D G k) G .range m) := by
  have hA := args_sound hf ha
  match es, hl, ha, hA with
  | [a], _, ha, hA =>
    obtain ⟨m1, m2, g1, g2, g3, g4⟩ := args_cons ha
    refine pi_of (pi_range1 hg hm hA (star_cons g1)) ?_
    rintro σ H Q ⟨ρ, μ, S, er, sr, q⟩
    refine ⟨ρ, μ, S, er, sr, q.mono' fun v T xs μ' H1 e r ⟨vs, μ1, T1, w, s1, r1, hw, hJ⟩ => ?_⟩
    have hx : xs.length = 1 := by rw [← Rels.length r]; exact evArgs_len ha e
    rcases range_inv hw with ⟨n, rfl, z, rfl⟩ | ⟨n, n2, rfl, z, rfl⟩ | ⟨n, n2, n3, rfl, z, rfl⟩
    · obtain ⟨x, rfl, rx⟩ := r1.one_inv
      cases rx
      exact ⟨n, rfl, (small62_of z).1, (small62_of z).2, hJ _ (ir_range 0 n.toNat)⟩
    · rw [← r1.length] at hx; cases hx
    · rw [← r1.length] at hx; cases hx
  | [a, b], _, ha, hA =>
    obtain ⟨m1, m2, g1, g2, g3, g4⟩ := args_cons ha
    obtain ⟨m3, m4, g5, g6, g7, g8⟩ := args_cons g3
    refine pi_of (pi_range2 hg hm hA (by rw [star_cons g1, star_cons g5] <;> rfl) (star_cons g5)) ?_
    rintro σ H Q ⟨ρ, μ, S, er, sr, q⟩
    refine ⟨ρ, μ, S, er, sr, q.mono' fun v T xs μ' H1 e r ⟨vs, μ1, T1, w, s1, r1, hw, hJ⟩ => ?_⟩
    have hx : xs.length = 2 := by rw [← Rels.length r]; exact evArgs_len ha e
    rcases range_inv hw with ⟨n, rfl, z, rfl⟩ | ⟨n, n2, rfl, z, rfl⟩ | ⟨n, n2, n3, rfl, z, rfl⟩
    · rw [← r1.length] at hx; cases hx
    · obtain ⟨x, y, rfl, rx, ry⟩ := r1.two_inv
      cases rx; cases ry
      rw [Bool.and_eq_true] at z
      exact ⟨n, n2, rfl, ⟨(small62_of z.1).1, (small62_of z.1).2, (small62_of z.2).1, (small62_of z.2).2⟩, hJ _ (ir_range n _)⟩
    · rw [← r1.length] at hx; cases hx
  | [a, b, c], _, ha, hA =>
    obtain ⟨m1, m2, g1, g2, g3, g4⟩ := args_cons ha
    refine pi_of (pi_range3 hg hm hA (star_cons g1) (args_plain g3)) ?_
    rintro σ H Q ⟨ρ, μ, S, er, sr, q⟩
    refine ⟨ρ, μ, S, er, sr, q.mono' fun v T xs μ' H1 e r ⟨vs, μ1, T1, w, s1, r1, hw, hJ⟩ => ?_⟩
    have hx : xs.length = 3 := by rw [← Rels.length r]; exact evArgs_len ha e
    rcases range_inv hw with ⟨n, rfl, z, rfl⟩ | ⟨n, n2, rfl, z, rfl⟩ | ⟨n, n2, n3, rfl, z, rfl⟩
    · rw [← r1.length] at hx; cases hx
    · rw [← r1.length] at hx; cases hx
    · obtain ⟨x, ws, rfl, rx, r2⟩ := r1
      obtain ⟨y, y2, rfl, ry, rz⟩ := Rels.two_inv r2
      cases rx; cases ry; cases rz
      exact ⟨n, n2, n3, _, rfl, rgC_of z, hJ _ (ir_rangeC n n3 _)⟩

/-- an iterable -/
theorem walk_sound {f : Rc} (hf : Snd X xa ca D G k W (f sc)) (g : GE X ca N sc hot xa k) (F : Facts X T ca D G k) {tg iter : PySem.Expr} {w : ItK × E} (h : cWalk T f sc iter = some w) : PI X tg iter (tWk X.K xa ca W (callF D G k) G w.1 w.2) := by
  unfold cWalk at h
  have hs := g.sc
  subst hs
  split at h
  · rename_i x np es pos
    split at h
    · rename_i hx
      subst hx
      split at h
      · rename_i hc
        cases e : args (f X.env.scope) es with
        | none => rw [e] at h; cases h
        | some m => rw [e] at h; cases h; exact w_range hf (gl_of hc.1) (F.blts _ hc.2.1) hc.2.2 e
      · cases h
    · cases e : f X.env.scope (.Call (.Name x np) es [] pos) with
      | none => rw [e] at h; cases h
      | some m => rw [e] at h; cases h; exact w_plain (hf _ _ e)
  · cases h
  · cases e : f X.env.scope iter with
    | none => rw [e] at h; cases h
    | some m => rw [e] at h; cases h; exact w_plain (hf _ _ e)
theorem walk_fold {f : Rc} {iter : PySem.Expr} {w : ItK × E} {env : Env} (h : cWalk T f sc iter = some w) : ∀ x, foldedSetIterable iter env x = pure x := fun x => by
  unfold cWalk at h
  cases iter <;> first | rfl | cases h

/-! ### targets -/
def TgP (K : PySem.W.Frag) (xa : Option (Addr × Nat)) (t : Tgt) : TG := fun v σ H Q => ∃ p ρ μ T ρ1, ER K xa H μ ρ σ ∧ SR K xa H μ T ∧ Rel K xa H μ p v ∧ bindT t p ρ = some ρ1 ∧
  ∀ σ1, ER K xa H μ ρ1 σ1 → σ1.length = σ.length → (∀ j, j ∉ slotsT t → σ1[j]? = σ[j]?) → Q σ1 H
theorem pg_of {tg : PySem.Expr} {t t' : TG} (h : PG X tg t) (hi : ∀ v σ H Q, t' v σ H Q → t v σ H Q) : PG X tg t' := ⟨fun pins s σ H v u Q I r q => h.run pins s σ H v u Q I r (hi v σ H Q q)⟩
theorem pgs_of {tg : List PySem.Expr} {t t' : TGs} (h : PGs X tg t) (hi : ∀ v σ H Q, t' v σ H Q → t v σ H Q) : PGs X tg t' := ⟨fun pins s σ H v u Q I r q => h.run pins s σ H v u Q I r (hi v σ H Q q)⟩
/-- the names that may be stored -/
def TgOk (X : Cx) (sc0 : Scope) : Prop := ∀ x, isLoc (sc0.names.lookup x) = true → L2.Loc X.env.scope x ∧ (X.fn x = true ∨ X.env.scope.names.lookup x = some .local)
theorem pg_nm {sc0 : Scope} (g : GE X ca N sc hot xa k) (ht : TgOk X sc0) {x : Str} {i : Nat} {pos : Pos} (hl : isLoc (sc0.names.lookup x) = true) (hi : slotOf N x = some i) : PG X (.Name x pos) (gName i) :=
  pg_name (by rw [g.nN]; exact g.nd) (by rw [g.nN]; exact slot_of hi) (ht x hl).1 (ht x hl).2
theorem names_sound {sc0 : Scope} (g : GE X ca N sc hot xa k) (ht : TgOk X sc0) : ∀ {es : List PySem.Expr} {is : List Nat}, namesOf N sc0 es = some is → is.length = es.length ∧ (assignEach es X.env).length = es.length ∧ (assignEach es X.env).findIdx? (·.1) = none ∧
    PGs X es (fun vs σ H Q => ∃ ps ρ μ T ρ1, ER X.K xa H μ ρ σ ∧ SR X.K xa H μ T ∧ Rels X.K xa H μ ps vs ∧ bindNames is ps ρ = some ρ1 ∧ ∀ σ1, ER X.K xa H μ ρ1 σ1 → σ1.length = σ.length → (∀ j, j ∉ is → σ1[j]? = σ[j]?) → Q σ1 H)
  | [], is, h => by
    cases h
    refine ⟨rfl, rfl, rfl, pgs_of pgs_nil ?_⟩
    rintro vs σ H Q ⟨ps, ρ, μ, T, ρ1, er, sr, r, hb, q⟩
    cases ps with
    | nil => cases hb; exact ⟨r, q σ er rfl fun _ _ => rfl⟩
    | cons _ _ => cases hb
  | e :: es, is, h => by
    cases e with
    | Name x pos =>
      unfold namesOf at h
      split at h
      · rename_i hl
        cases e1 : slotOf N x with
        | none => rw [e1] at h; cases h
        | some i =>
          rw [e1] at h
          cases e2 : namesOf N sc0 es with
          | none => rw [e2] at h; cases h
          | some js =>
            rw [e2] at h; cases h
            obtain ⟨h1, h2, h3, h4⟩ := names_sound g ht e2
            refine ⟨by simp [h1], by show ((assignEach es X.env).length + 1) = _; rw [h2] <;> rfl, ?_, pgs_of (pgs_cons (pg_nm g ht hl e1) h4) ?_⟩
            · show ((false, assign (.Name x pos) X.env) :: assignEach es X.env).findIdx? (·.1) = none
              rw [List.findIdx?_cons, h3] <;> rfl
            rintro vs σ H Q ⟨ps, ρ, μ, T, ρ1, er, sr, r, hb, q⟩
            cases ps with
            | nil => cases hb
            | cons p ps =>
              obtain ⟨v, ws, rfl, r1, r2⟩ := r
              refine ⟨v, ws, rfl, ps, ρ.set i (some p), μ, T, ρ1, er.set i r1, sr, r2, hb, fun σ1 e1 hl1 hj => ?_⟩
              refine q σ1 e1 (by rw [hl1, List.length_set]) fun j hn => ?_
              rw [hj j (fun z => hn (List.mem_cons_of_mem _ z)), List.getElem?_set_ne (fun z => hn (by rw [z]; exact List.mem_cons_self))]
      · cases h
    | _ => cases h
theorem targ_sound {sc0 : Scope} (g : GE X ca N sc hot xa k) (ht : TgOk X sc0) (hc : X.calm = true) {tg : PySem.Expr} {t : Tgt} (h : targ N sc0 tg = some t) : PG X tg (TgP X.K xa t) := by
  unfold targ at h
  split at h
  · rename_i x pos
    split at h
    · rename_i hl
      cases e : slotOf N x with
      | none => rw [e] at h; cases h
      | some i =>
        rw [e] at h; cases h
        refine pg_of (pg_nm g ht hl e) ?_
        rintro v σ H Q ⟨p, ρ, μ, T, ρ1, er, sr, r, hb, q⟩
        cases hb
        exact q _ (er.set i r) (List.length_set ..) fun j hn => List.getElem?_set_ne (fun z => hn (by rw [z]; exact List.mem_singleton.mpr rfl))
    · cases h
  · rename_i es kk pos
    cases e : namesOf N sc0 es with
    | none => rw [e] at h; cases h
    | some is =>
      rw [e] at h; cases h
      obtain ⟨h1, h2, h3, h4⟩ := names_sound g ht e
      refine pg_of (pg_tup hc h4 h2 h3) ?_
      rintro v σ H Q ⟨p, ρ, μ, T, ρ1, er, sr, r, hb, q⟩
      cases p with
      | tup ps =>
        obtain ⟨a, vs, rfl, s, r⟩ := r
        have hb : bindNames is ps ρ = some ρ1 := hb
        have hl : ∀ {is : List Nat} {ps : List PV} {ρ : Nv} {ρ1 : Nv}, bindNames is ps ρ = some ρ1 → ps.length = is.length := by
          intro is
          induction is with
          | nil => intro ps ρ ρ1 h; cases ps with
            | nil => rfl
            | cons _ _ => cases h
          | cons i is ih => intro ps ρ ρ1 h; cases ps with
            | nil => cases h
            | cons p ps => rw [List.length_cons, List.length_cons, ih h]
        exact ⟨a, vs, rfl, s, by rw [← r.length, hl hb, h1], ps, ρ, μ, T, ρ1, er, sr, r, hb, q⟩
      | _ => cases hb
  · cases h
end
end MP

set_option Elab.async false
set_option linter.all false
set_option maxRecDepth 100000
set_option maxHeartbeats 2000000
/-! MP4d: comprehensions; the whole of expressions. -/
namespace MP
open PySem PySem.Spec PyProof.Rows L2
section
variable {K : PySem.W.Frag} {xa : Option (Addr × Nat)} {H : Hp} {μ ν : List Addr} {T : Store}
mutual
theorem Rel.ext (ν : List Addr) : ∀ (p : PV) (v : V), Rel K xa H μ p v → Rel K xa H (μ ++ ν) p v
  | .non, _, h => h
  | .bl _, _, h => h
  | .int _, _, h => h
  | .str _, _, h => h
  | .tup xs, v, h => by
    obtain ⟨a, vs, e, s, q⟩ := h
    exact ⟨a, vs, e, s, Rels.ext ν xs vs q⟩
  | .frz xs, v, h => by
    obtain ⟨a, vs, e, s, q⟩ := h
    exact ⟨a, vs, e, s, Rels.ext ν xs vs q⟩
  | .ref n, v, h => by
    obtain ⟨a, e, s⟩ := h
    refine ⟨a, e, ?_⟩
    rw [List.getElem?_append_left (List.getElem?_eq_some_iff.mp s).1]
    exact s
  | .exc _, _, h => h
theorem Rels.ext (ν : List Addr) : ∀ (ps : List PV) (vs : List V), Rels K xa H μ ps vs → Rels K xa H (μ ++ ν) ps vs
  | [], _, h => h
  | p :: ps, vs, h => by
    obtain ⟨v, ws, e, q1, q2⟩ := h
    exact ⟨v, ws, e, Rel.ext ν p v q1, Rels.ext ν ps ws q2⟩
end
/-- a list that stands already joins the store -/
theorem SR.adopt (r : SR K xa H μ T) {p : Addr} {xs : List PV} {vs : List V} (hp : H p = some (.lst vs)) (nm : p ∉ μ) (q : Rels K xa H μ xs vs) : SR K xa H (μ ++ [p]) (T ++ [MO.lst xs]) := by
  refine ⟨by simp [r.len], fun n a ys h1 h2 => ?_, fun n m a h1 h2 => ?_⟩
  · by_cases hn : n < μ.length
    · rw [List.getElem?_append_left hn] at h1
      rw [List.getElem?_append_left (by rw [← r.len]; exact hn)] at h2
      obtain ⟨ws, e, q2⟩ := r.lst n a ys h1 h2
      exact ⟨ws, e, Rels.ext _ _ _ q2⟩
    · have h3 : n < (μ ++ [p]).length := (List.getElem?_eq_some_iff.mp h1).1
      rw [List.length_append, List.length_singleton] at h3
      have e : n = μ.length := by omega
      subst e
      rw [List.getElem?_append_right (Nat.le_refl _), Nat.sub_self] at h1
      rw [List.getElem?_append_right (by rw [r.len]; exact Nat.le_refl _), r.len, Nat.sub_self] at h2
      have e1 : p = a := by simpa using h1
      have e2 : xs = ys := by simpa using h2
      subst e1 e2
      exact ⟨vs, hp, Rels.ext _ _ _ q⟩
  · have key : ∀ k, (μ ++ [p])[k]? = some a → (k < μ.length ∧ μ[k]? = some a) ∨ (k = μ.length ∧ a = p) := fun k h => by
      by_cases hk : k < μ.length
      · rw [List.getElem?_append_left hk] at h; exact .inl ⟨hk, h⟩
      · have h3 : k < (μ ++ [p]).length := (List.getElem?_eq_some_iff.mp h).1
        rw [List.length_append, List.length_singleton] at h3
        have e : k = μ.length := by omega
        subst e
        rw [List.getElem?_append_right (Nat.le_refl _), Nat.sub_self] at h
        exact .inr ⟨rfl, by simpa using h.symm⟩
    rcases key n h1 with ⟨z1, z2⟩ | ⟨z1, z2⟩ <;> rcases key m h2 with ⟨y1, y2⟩ | ⟨y1, y2⟩
    · exact r.inj n m a z2 y2
    · subst y2; exact absurd (List.mem_of_getElem? z2) nm
    · subst z2; exact absurd (List.mem_of_getElem? y2) nm
    · omega
/-- the list that a comprehension fills is written: it is none of the store's -/
theorem SR.aside (r : SR K xa H μ T) {p : Addr} {vs ws : List V} (hp : H p = some (.lst vs)) (nm : p ∉ μ) : SR K xa (upd H p (.lst ws)) μ T ∧ (∀ q v, Rel K xa H μ q v → Rel K xa (upd H p (.lst ws)) μ q v) ∧ ∀ q v, Rels K xa H μ q v → Rels K xa (upd H p (.lst ws)) μ q v := by
  have tp : ∀ a us, SqT K H a us → SqT K (upd H p (.lst ws)) a us := fun a us h => by
    rcases h with (h | ⟨o, h⟩) | h
    · exact .inl (.inl (by rw [upd_ne (ne_of h hp (by intro z; cases z))]; exact h))
    · exact .inl (.inr ⟨o, by rw [upd_ne (ne_of h hp (by intro z; cases z))]; exact h⟩)
    · exact .inr h
  have fz : ∀ a us, SqF K H a us → SqF K (upd H p (.lst ws)) a us := fun a us h => by
    rcases h with ⟨o, h⟩ | h
    · exact .inl ⟨o, by rw [upd_ne (ne_of h hp (by intro z; cases z))]; exact h⟩
    · exact .inr h
  have key : (∀ q v, Rel K xa H μ q v → Rel K xa (upd H p (.lst ws)) μ q v) ∧ ∀ q v, Rels K xa H μ q v → Rels K xa (upd H p (.lst ws)) μ q v := by
    have h1 : ∀ (n : Nat), (∀ q v, sizeOf q < n → Rel K xa H μ q v → Rel K xa (upd H p (.lst ws)) μ q v) ∧ ∀ q v, sizeOf q < n → Rels K xa H μ q v → Rels K xa (upd H p (.lst ws)) μ q v := fun n => by
      induction n with
      | zero => exact ⟨fun q v h => absurd h (Nat.not_lt_zero _), fun q v h => absurd h (Nat.not_lt_zero _)⟩
      | succ n ih =>
        refine ⟨fun q v hs h => ?_, fun q v hs h => ?_⟩
        · cases q with
          | tup xs =>
            obtain ⟨a, us, e, s, q⟩ := h
            exact ⟨a, us, e, tp _ _ s, ih.2 xs us (by simp at hs; omega) q⟩
          | frz xs =>
            obtain ⟨a, us, e, s, q⟩ := h
            exact ⟨a, us, e, fz _ _ s, ih.2 xs us (by simp at hs; omega) q⟩
          | _ => exact h
        · cases q with
          | nil => exact h
          | cons a b =>
            obtain ⟨x, xs, e, r1, r2⟩ := h
            exact ⟨x, xs, e, ih.1 a x (by simp at hs; omega) r1, ih.2 b xs (by simp at hs; omega) r2⟩
    exact ⟨fun q v h => (h1 (sizeOf q + 1)).1 q v (Nat.lt_succ_self _) h, fun q v h => (h1 (sizeOf q + 1)).2 q v (Nat.lt_succ_self _) h⟩
  refine ⟨⟨r.len, fun n a xs h1 h2 => ?_, r.inj⟩, key.1, key.2⟩
  obtain ⟨us, e, q⟩ := r.lst n a xs h1 h2
  have ha : a ≠ p := fun z => nm (by rw [← z]; exact List.mem_of_getElem? h1)
  exact ⟨us, by rw [upd_ne ha]; exact e, key.2 _ _ q⟩
end
section
variable {X : Cx} {T : Tab} {N : List Str} {hot : Bool} {ca : Nat → Addr} {D : Nat → Option FD} {G : Nat → Option PV} {k : Nat} {xa : Option (Addr × Nat)} {W : WX} {sc : Scope}
/-- what a compiler of expressions promises, everywhere -/
def SndA (T : Tab) (N : List Str) (hot : Bool) (ca : Nat → Addr) (D : Nat → Option FD) (G : Nat → Option PV) (k : Nat) (f : Rc) : Prop := ∀ (X : Cx) (xa : Option (Addr × Nat)) (W : WX) (sc : Scope) (e : PySem.Expr) (m : E), f sc e = some m → GE X ca N sc hot xa k → Facts X T ca D G k → Takes X W → PEm X xa ca D G k W e m
abbrev WF : WX := fun _ _ _ _ => False
theorem Facts.blk (F : Facts X T ca D G k) (s : Shared) (H : Hp) (scope : Scope) (cenv : Env) (fp : List Addr) : Facts (X.blk s H scope cenv fp) T ca D G k := ⟨F.fns, F.consts, fun x c h => let C := F.clss x c h; ⟨C.mg, C.keep, C.exc, C.rais, C.ex, C.kyes, C.kno, C.yes, C.no⟩, F.blts⟩
theorem GE.blk (g : GE X ca N sc hot xa k) (hh : hot = false) (s : Shared) (H : Hp) (scope : Scope) (C : Addr) (cl : List (Str × Addr)) (fp : List Addr) : GE (X.blk s H scope (compEnvC scope cl C X.env) fp) ca N (relS scope X.env.scope) hot xa k :=
  ⟨g.nN, g.nd, rfl, g.calm, g.room, g.un, g.cold, fun z => by rw [hh] at z; cases z⟩
theorem tg_blk (s : Shared) (H : Hp) (scope : Scope) (C : Addr) (cl : List (Str × Addr)) (fp : List Addr) : TgOk (X.blk s H scope (compEnvC scope cl C X.env) fp) scope := fun x h => by
  rcases loc_of h with h | h
  · exact ⟨.inl (lookup_relS_keep (by decide) h), .inr (lookup_relS_keep (by decide) h)⟩
  · refine ⟨.inr (lookup_relS_keep (by decide) h), .inl ?_⟩
    show (scope.names.lookup x == some .cell) = true
    rw [h] <;> rfl
theorem pts_of {ifs : List PySem.Expr} {t t' : TT} (h : PTs X ifs t) (hi : ∀ σ H Q, t' σ H Q → t σ H Q) : PTs X ifs t' := ⟨fun pins s σ H Q I q => h.run pins s σ H Q I (hi σ H Q q)⟩
theorem wipe_at {σ : L2.St} : ∀ {vs : List Nat} {j : Nat}, j ∈ vs → j < σ.length → (wipe σ vs)[j]? = some none
  | v :: vs, j, h, hl => by
    show ((wipe σ vs).set v none)[j]? = some none
    by_cases e : v = j
    · subst e
      rw [List.getElem?_set_self (by rw [wipe_length]; exact hl)]
    · rw [List.getElem?_set_ne e]
      refine wipe_at ?_ hl
      rcases List.mem_cons.mp h with z | z
      · exact absurd z.symm e
      · exact z
theorem wipe_same {σ σ2 : L2.St} {vs is : List Nat} (hl : σ2.length = (wipe σ vs).length) (hj : ∀ j, j ∉ is → σ2[j]? = (wipe σ vs)[j]?) (hs : ∀ j ∈ is, j ∈ vs) : wipe σ2 vs = wipe σ vs := by
  have hl2 : σ2.length = σ.length := by rw [hl, wipe_length]
  refine List.ext_getElem? fun j => ?_
  by_cases hv : j ∈ vs
  · by_cases hb : j < σ.length
    · rw [wipe_at hv hb, wipe_at hv (by rw [hl2]; exact hb)]
    · rw [List.getElem?_eq_none_iff.mpr (by rw [wipe_length]; omega), List.getElem?_eq_none_iff.mpr (by rw [wipe_length]; omega)]
  · rw [wipe_out hv]
    exact hj j fun z => hv (hs j z)
theorem er_wipe {K : PySem.W.Frag} {H : Hp} {μ : List Addr} {ρ : Nv} {σ : L2.St} (e : ER K xa H μ ρ σ) : ∀ vs : List Nat, ER K xa H μ (wipeE ρ vs) (wipe σ vs)
  | [] => e
  | v :: vs => (er_wipe e vs).unset v
/-- a comprehension's parts -/
theorem comp_core {f : Rc} (hf : SndA T N hot ca D G k f) (g : GE X ca N sc hot xa k) (F : Facts X T ca D G k) (tk : Takes X W) {elt : PySem.Expr} {gs : List Comprehension} {scope : Scope} {m : E} (h : cComp T N hot f sc elt gs scope = some m) :
    hot = false ∧ ∃ (tg iter : PySem.Expr) (ifs : List PySem.Expr) (wi : TI) (gg : TG) (tt : TT) (te : TE) (own : List (Str × Nat)), gs = [⟨tg, iter, ifs, 0⟩] ∧ PI X tg iter wi ∧ BlkOk X.N X.env.scope scope own ∧
      (∀ (s : Shared) (H : Hp) (C : Addr) (cl : List (Str × Addr)) (fp : List Addr), PG (X.blk s H scope (compEnvC scope cl C X.env) fp) tg gg) ∧
      (∀ (s : Shared) (H : Hp) (C : Addr) (cl : List (Str × Addr)) (fp : List Addr), PTs (X.blk s H scope (compEnvC scope cl C X.env) fp) ifs tt) ∧
      (∀ (s : Shared) (H : Hp) (C : Addr) (cl : List (Str × Addr)) (fp : List Addr), PE (X.blk s H scope (compEnvC scope cl C X.env) fp) elt te) ∧
      (∀ x, foldedSetIterable iter X.env x = pure x) ∧ ∀ σ H Q, tR X.K xa ca (rV X.K xa) W (ev (callF D G k) G m) σ H Q → tLc wi gg tt te (own.map (·.2)) σ H Q := by
  unfold cComp at h
  have hs := g.sc
  subst hs
  split at h
  · rename_i tg iter ifs kk
    split at h
    · rename_i hc
      obtain ⟨hh, rfl, hb⟩ := hc
      have ok := blkOk_by hb
      cases e1 : cIfs f (relS scope X.env.scope) ifs with
      | none => rw [e1] at h; cases h
      | some mc =>
        rw [e1] at h
        cases e2 : targ N scope tg with
        | none => rw [e2] at h; cases h
        | some t =>
          rw [e2] at h
          have h : (if (slotsT t).all (fun i => decide (i ∈ (ownOf N scope.names).map (·.2))) = false then none else (f (relS scope X.env.scope) elt).bind fun y => (cWalk T f X.env.scope iter).map fun w => E.comp t ((ownOf N scope.names).map (·.2)) w.1 w.2 mc y) = some m := h
          split at h
          · cases h
          · rename_i hsl
            cases e3 : f (relS scope X.env.scope) elt with
            | none => rw [e3] at h; cases h
            | some me =>
              rw [e3] at h
              cases e4 : cWalk T f X.env.scope iter with
              | none => rw [e4] at h; cases h
              | some w =>
                rw [e4] at h
                cases h
                have hsl2 : ∀ j ∈ slotsT t, j ∈ (ownOf N scope.names).map (·.2) := fun j hj => by
                  have hsl : (slotsT t).all (fun i => decide (i ∈ (ownOf N scope.names).map (·.2))) = true := by
                    cases z : (slotsT t).all (fun i => decide (i ∈ (ownOf N scope.names).map (·.2))) with
                    | true => rfl
                    | false => exact absurd z hsl
                  exact of_decide_eq_true (List.all_eq_true.mp hsl j hj)
                have cl := g.calm hh
                have pw := walk_sound (tg := tg) (fun e m he => hf X xa W _ e m he g F tk) g F e4
                have pgt : ∀ (s : Shared) (H : Hp) (C : Addr) (cl' : List (Str × Addr)) (fp : List Addr), PG (X.blk s H scope (compEnvC scope cl' C X.env) fp) tg (TgP X.K xa t) := fun s H C cl' fp => targ_sound (g.blk hh s H scope C cl' fp) (tg_blk s H scope C cl' fp) cl e2
                have pif : ∀ (s : Shared) (H : Hp) (C : Addr) (cl' : List (Str × Addr)) (fp : List Addr), PTs (X.blk s H scope (compEnvC scope cl' C X.env) fp) ifs (tR X.K xa ca rB WF (evT (callF D G k) G mc)) := fun s H C cl' fp => by
                  unfold cIfs at e1
                  split at e1
                  · cases e1
                    refine pts_of pts_nil ?_
                    rintro σ H Q ⟨ρ, μ, S, er, sr, q⟩
                    exact q true μ H (Ex.refl _ _) sr rfl
                  · exact pts_one (hf _ xa WF _ _ _ e1 (g.blk hh s H scope C cl' fp) (F.blk s H scope _ fp) takes0).2
                  · cases e1
                have pel : ∀ (s : Shared) (H : Hp) (C : Addr) (cl' : List (Str × Addr)) (fp : List Addr), PE (X.blk s H scope (compEnvC scope cl' C X.env) fp) elt (tR X.K xa ca (rV X.K xa) WF (ev (callF D G k) G me)) := fun s H C cl' fp =>
                  (hf _ xa WF _ _ _ e3 (g.blk hh s H scope C cl' fp) (F.blk s H scope _ fp) takes0).1
                refine ⟨hh, tg, iter, ifs, _, _, _, _, ownOf N scope.names, rfl, pw, by rw [g.nN]; exact ok, pgt, pif, pel, walk_fold e4, ?_⟩
                rintro σ H Q ⟨ρ, μ, S, er, sr, q⟩
                refine ⟨ρ, μ, S, er, sr, q.bind _ fun vs S1 xs μ1 H1 x1 sr1 r1 h1 => ?_⟩
                have h1 : Post X.K xa ca (rV X.K xa) μ1 H1 (match walkOf w.1 (asTup vs) with
                  | some w' => (compL w' t (evT (callF D G k) G mc) (ev (callF D G k) G me) (wipeE ρ ((ownOf N scope.names).map (·.2))) FU 0 [] S1).bind fun xs T2 => allocM (.lst xs) T2
                  | none => .bad) Q _ := h1
                split at h1
                · rename_i w' hw
                  refine ⟨asTup vs, μ1, S1, w', sr1, r1, hw, fun J hJ DD hD => ?_⟩
                  have er1 := er.mono sr x1
                  refine ⟨fun i n H' => ∃ acc ws μ' S', Ex μ1 μ' H1 H' ∧ SR X.K xa H' μ' S' ∧ H' DD = some (.lst ws) ∧ DD ∉ μ' ∧ Rels X.K xa H' μ' acc ws ∧
                    Post X.K xa ca (rV X.K xa) μ1 H1 ((compL w' t (evT (callF D G k) G mc) (ev (callF D G k) G me) (wipeE ρ ((ownOf N scope.names).map (·.2))) n i acc S').bind fun xs T2 => allocM (.lst xs) T2) Q (fun c d H' => W c d σ H'),
                    ⟨FU, [], [], μ1, S1, (sr1.other hD).1, (sr1.other hD).2, upd_same, sr1.fresh hD, rfl, h1⟩, ?_⟩
                  rintro i n H' ⟨acc, ws, μ', S', x', s', hDD, hn, ra, hp⟩
                  cases n with
                  | zero => exact hp.elim
                  | succ n =>
                    have ir := hJ μ' H' S' i x' s'
                    have hp : Post X.K xa ca (rV X.K xa) μ1 H1 ((match w'.at i S' with
                      | none => .bad
                      | some none => .ok acc S'
                      | some (some v) => match bindT t v (wipeE ρ ((ownOf N scope.names).map (·.2))) with
                        | none => .bad
                        | some σ1 => match evT (callF D G k) G mc σ1 S' with
                          | .ok true T1 => match ev (callF D G k) G me σ1 T1 with
                            | .ok y T2 => if acc.length < SZ then compL w' t (evT (callF D G k) G mc) (ev (callF D G k) G me) (wipeE ρ ((ownOf N scope.names).map (·.2))) n (i + 1) (acc ++ [y]) T2 else .bad
                            | _ => .bad
                          | .ok false T1 => compL w' t (evT (callF D G k) G mc) (ev (callF D G k) G me) (wipeE ρ ((ownOf N scope.names).map (·.2))) n (i + 1) acc T1
                          | _ => .bad : Res (List PV)).bind fun xs T2 => allocM (.lst xs) T2) Q _ := hp
                    cases ew : w'.at i S' with
                    | none => rw [ew] at hp; exact hp.elim
                    | some o =>
                      rw [ew] at hp ir
                      cases o with
                      | none =>
                        -- the end
                        refine .inl ⟨ir, ?_⟩
                        have hp : Post X.K xa ca (rV X.K xa) μ1 H1 (.ok (.ref S'.length) (S' ++ [MO.lst acc])) Q _ := hp
                        have xD : Ex μ1 (μ' ++ [DD]) H1 H' := by
                          refine ⟨?_, x'.fr, fun b hb => ?_⟩
                          · obtain ⟨ν, e⟩ := x'.pre
                            exact ⟨ν ++ [DD], by rw [e, List.append_assoc]⟩
                          · rcases List.mem_append.mp hb with z | z
                            · exact x'.new b z
                            · have : b = DD := by simpa using z
                              subst this
                              exact .inr hD
                        refine hp (.ref DD) (μ' ++ [DD]) H' xD (s'.adopt hDD hn ra) ⟨DD, rfl, ?_⟩
                        rw [← s'.len, List.getElem?_append_right (Nat.le_refl _), Nat.sub_self] <;> rfl
                      | some v =>
                        obtain ⟨go, yld⟩ := ir
                        refine .inr ⟨go, fun H2 => ∃ acc ws μ' S', Ex μ1 μ' H1 H2 ∧ SR X.K xa H2 μ' S' ∧ H2 DD = some (.lst ws) ∧ DD ∉ μ' ∧ Rels X.K xa H2 μ' acc ws ∧
                          Post X.K xa ca (rV X.K xa) μ1 H1 ((compL w' t (evT (callF D G k) G mc) (ev (callF D G k) G me) (wipeE ρ ((ownOf N scope.names).map (·.2))) n (i + 1) acc S').bind fun xs T2 => allocM (.lst xs) T2) Q (fun c d H' => W c d σ H'),
                          fun H2 hN => ⟨n, Nat.lt_succ_self n, hN⟩, fun x H2 hy => ?_⟩
                        obtain ⟨x2, s2, r2⟩ := yld x H2 hy
                        have hp : Post X.K xa ca (rV X.K xa) μ1 H1 ((match bindT t v (wipeE ρ ((ownOf N scope.names).map (·.2))) with
                          | none => .bad
                          | some σ1 => match evT (callF D G k) G mc σ1 S' with
                            | .ok true T1 => match ev (callF D G k) G me σ1 T1 with
                              | .ok y T2 => if acc.length < SZ then compL w' t (evT (callF D G k) G mc) (ev (callF D G k) G me) (wipeE ρ ((ownOf N scope.names).map (·.2))) n (i + 1) (acc ++ [y]) T2 else .bad
                              | _ => .bad
                            | .ok false T1 => compL w' t (evT (callF D G k) G mc) (ev (callF D G k) G me) (wipeE ρ ((ownOf N scope.names).map (·.2))) n (i + 1) acc T1
                            | _ => .bad : Res (List PV)).bind fun xs T2 => allocM (.lst xs) T2) Q _ := hp
                        cases eb : bindT t v (wipeE ρ ((ownOf N scope.names).map (·.2))) with
                        | none => rw [eb] at hp; exact hp.elim
                        | some ρ1 =>
                          rw [eb] at hp
                          have hDD2 : H2 DD = some (.lst ws) := x2.fr DD _ hDD hn
                          have xx2 := x'.trans x2
                          have erw : ER X.K xa H2 μ' (wipeE ρ ((ownOf N scope.names).map (·.2))) (wipe σ ((ownOf N scope.names).map (·.2))) := er_wipe (er1.mono sr1 xx2) _
                          refine ⟨v, _, μ', S', ρ1, erw, s2, r2, eb, fun σ1 er2 hl hj => ⟨wipe_same hl hj hsl2, ?_⟩⟩
                          have ra2 := Rels.mono s' x2 _ _ ra
                          have hp : Post X.K xa ca (rV X.K xa) μ1 H1 ((match evT (callF D G k) G mc ρ1 S' with
                            | .ok true T1 => match ev (callF D G k) G me ρ1 T1 with
                              | .ok y T2 => if acc.length < SZ then compL w' t (evT (callF D G k) G mc) (ev (callF D G k) G me) (wipeE ρ ((ownOf N scope.names).map (·.2))) n (i + 1) (acc ++ [y]) T2 else .bad
                              | _ => .bad
                            | .ok false T1 => compL w' t (evT (callF D G k) G mc) (ev (callF D G k) G me) (wipeE ρ ((ownOf N scope.names).map (·.2))) n (i + 1) acc T1
                            | _ => .bad : Res (List PV)).bind fun xs T2 => allocM (.lst xs) T2) Q _ := hp
                          refine ⟨ρ1, μ', S', er2, s2, ?_⟩
                          cases et : evT (callF D G k) G mc ρ1 S' with
                          | exc c S3 => rw [et] at hp; exact hp.elim
                          | bad => rw [et] at hp; exact hp.elim
                          | ok b S3 =>
                            rw [et] at hp
                            intro b' μ3 H3 x3 s3 eb'
                            have eb' : b = b' := eb'
                            subst eb'
                            have ra3 := Rels.mono s2 x3 _ _ ra2
                            have hDD3 : H3 DD = some (.lst ws) := x3.fr DD _ hDD2 hn
                            have hn3 : DD ∉ μ3 := fun z => by
                              rcases x3.new DD z with z | z
                              · exact hn z
                              · rw [hDD2] at z; cases z
                            cases b with
                            | false => exact ⟨acc, ws, μ3, S3, xx2.trans x3, s3, hDD3, hn3, ra3, hp⟩
                            | true =>
                              rw [if_pos rfl]
                              have hp : Post X.K xa ca (rV X.K xa) μ1 H1 ((match ev (callF D G k) G me ρ1 S3 with
                                | .ok y T2 => if acc.length < SZ then compL w' t (evT (callF D G k) G mc) (ev (callF D G k) G me) (wipeE ρ ((ownOf N scope.names).map (·.2))) n (i + 1) (acc ++ [y]) T2 else .bad
                                | _ => .bad : Res (List PV)).bind fun xs T2 => allocM (.lst xs) T2) Q _ := hp
                              refine ⟨ρ1, μ3, S3, er2.mono s2 x3, s3, ?_⟩
                              cases ee : ev (callF D G k) G me ρ1 S3 with
                              | exc c S4 => rw [ee] at hp; exact hp.elim
                              | bad => rw [ee] at hp; exact hp.elim
                              | ok y S4 =>
                                rw [ee] at hp
                                intro z μ4 H4 x4 s4 rz
                                have hp : Post X.K xa ca (rV X.K xa) μ1 H1 ((if acc.length < SZ then compL w' t (evT (callF D G k) G mc) (ev (callF D G k) G me) (wipeE ρ ((ownOf N scope.names).map (·.2))) n (i + 1) (acc ++ [y]) S4 else .bad : Res (List PV)).bind fun xs T2 => allocM (.lst xs) T2) Q _ := hp
                                split at hp
                                · rename_i hz
                                  have ra4 := Rels.mono s3 x4 _ _ ra3
                                  have hDD4 : H4 DD = some (.lst ws) := x4.fr DD _ hDD3 hn3
                                  have hn4 : DD ∉ μ4 := fun z => by
                                    rcases x4.new DD z with z | z
                                    · exact hn3 z
                                    · rw [hDD3] at z; cases z
                                  obtain ⟨a1, a2, a3⟩ := s4.aside (ws := ws ++ [z]) hDD4 hn4
                                  have x5 := (xx2.trans x3).trans x4
                                  refine ⟨ws, hDD4, by rw [← ra4.length, ← SZ_eq]; exact hz, acc ++ [y], ws ++ [z], μ4, S4, ⟨x5.pre, fun b o e nb => ?_, x5.new⟩, a1, upd_same, hn4, (a3 _ _ ra4).append (Rels.one (a2 _ _ rz)), hp⟩
                                  rw [upd_ne (ne_of_none e hD)]
                                  exact x5.fr b o e nb
                                · exact hp.elim
                · exact h1.elim
    · cases h
  · cases h
theorem s_comp {f : Rc} (hf : SndA T N hot ca D G k f) (g : GE X ca N sc hot xa k) (F : Facts X T ca D G k) (tk : Takes X W) {elt : PySem.Expr} {gs : List Comprehension} {scope : Scope} {pos : Pos} {m : E} (h : cComp T N hot f sc elt gs scope = some m) : PEm X xa ca D G k W (.ListComp elt gs scope pos) m := by
  obtain ⟨hh, tg, iter, ifs, wi, gg, tt, te, own, rfl, pw, ok, pgt, pif, pel, fo, imp⟩ := comp_core hf g F tk h
  exact pem_plain (pe_of (pe_lc (g.calm hh) (by rw [g.nN]; exact g.nd) pw ok pgt pif pel fo) imp) (fun _ => rfl)
end
end MP

set_option Elab.async false
set_option linter.all false
set_option maxRecDepth 100000
set_option maxHeartbeats 2000000
/-! MP5: expressions as a whole; statements; defs. -/
namespace MP
open PySem PySem.Spec PyProof.Rows L2
section
variable {X : Cx} {T : Tab} {N : List Str} {hot : Bool} {ca : Nat → Addr} {D : Nat → Option FD} {G : Nat → Option PV} {k : Nat} {xa : Option (Addr × Nat)} {W : WX} {sc : Scope}
theorem opt_bind {α β : Type} {o : Option α} {f : α → Option β} {b : β} (h : o.bind f = some b) : ∃ a, o = some a ∧ f a = some b := by
  cases o with
  | none => cases h
  | some a => exact ⟨a, rfl, h⟩
theorem opt_map {α β : Type} {o : Option α} {f : α → β} {b : β} (h : o.map f = some b) : ∃ a, o = some a ∧ f a = b := by
  cases o with
  | none => cases h
  | some a => exact ⟨a, rfl, Option.some.inj h⟩
theorem s_call {f : Rc} (hf : Snd X xa ca D G k W (f sc)) (g : GE X ca N sc hot xa k) (F : Facts X T ca D G k) (tk : Takes X W) {x : Str} {es : List PySem.Expr} {np pos : Pos} {m : E} (h : cCall T hot f sc x es = some m) : PEm X xa ca D G k W (.Call (.Name x np) es [] pos) m := by
  unfold cCall at h
  have hs := g.sc
  subst hs
  split at h
  · cases h
  · rename_i hn
    have hd : (x == ("__debug__" : Str)) = false := str_ne fun z => hn (.inl z)
    have hn2 : x ≠ "__name__" := fun z => hn (.inr (.inl z))
    have hgl : isGl (X.env.scope.names.lookup x) = true := by
      cases e : isGl (X.env.scope.names.lookup x) with
      | true => rfl
      | false => exact absurd (.inr (.inr (.inl (by rw [e]; exact Bool.false_ne_true)))) hn
    cases es with
    | nil => exact absurd (.inr (.inr (.inr rfl))) hn
    | cons e es =>
      split at h
      · rename_i fi hfi
        split at h
        · cases h
        · rename_i hh
          have hh : hot = false := by simpa using hh
          obtain ⟨y, h1, rfl⟩ := opt_map h
          have hx := g.cold hh
          subst hx
          exact s_fn hf F (g.room hh) tk (gl_of hgl) hfi h1 hd
      · split at h
        · rename_i hb
          obtain ⟨p, hp, h⟩ := opt_bind h
          split at h
          · cases h
          · rename_i hh
            have hh : hot = false := by simpa using hh
            obtain ⟨y, h1, rfl⟩ := opt_map h
            exact s_prim hf (g.calm hh) (gl_of hgl) (F.blts x hb) hp h1 hn2 hd
        · cases h
theorem s_is {f : Rc} (hf : Snd X xa ca D G k W (f sc)) (g : GE X ca N sc hot xa k) (F : Facts X T ca D G k) {a : PySem.Expr} {y : Str} {np yp pos : Pos} {m : E} (h : cIs T N hot f sc a y = some m) : PEm X xa ca D G k W (.Call (.Name "isinstance" np) [a, .Name y yp] [] pos) m := by
  unfold cIs at h
  have hs := g.sc
  subst hs
  split at h
  · rename_i hc
    obtain ⟨h1, h2, h3⟩ := hc
    split at h
    · rename_i hy
      obtain ⟨t, ht, h⟩ := opt_bind h
      split at h
      · cases h
      · rename_i hst
        obtain ⟨z, hz, rfl⟩ := opt_map h
        exact s_isinst (by simpa using fun z => hst (.inr z)) (gl_of h1) (F.blts _ h3) (gl_of h2) (F.blts _ hy) ht (hf _ _ hz)
    · split at h
      · rename_i x xp
        split at h
        · rename_i hc
          obtain ⟨hh, hyd, hx1, hx2, hv⟩ := hc
          obtain ⟨c, hcl, h⟩ := opt_bind h
          obtain ⟨i, hi, rfl⟩ := opt_map h
          exact s_isexc g F hh (gl_of h1) (F.blts _ h3) (gl_of h2) hcl hi hv (str_ne hx1) (str_ne hx2) (str_ne hyd)
        · cases h
      · cases h
  · cases h
theorem step_sound {f : Rc} (hf : SndA T N hot ca D G k f) : SndA T N hot ca D G k (step T N hot f) := by
  intro X xa W sc e m h g F tk
  have hf' : Snd X xa ca D G k W (f sc) := fun e m he => hf X xa W sc e m he g F tk
  unfold step at h
  split at h
  · exact s_const h
  · exact s_name g F h
  · obtain ⟨y, h1, rfl⟩ := opt_map h; exact s_tup hf' h1
  · obtain ⟨y, h1, rfl⟩ := opt_map h; exact s_lst hf' h1
  · obtain ⟨o, h1, h⟩ := opt_bind h
    obtain ⟨x, h2, h⟩ := opt_bind h
    obtain ⟨y, h3, rfl⟩ := opt_map h
    exact s_bin h1 (hf' _ _ h2) (hf' _ _ h3)
  · obtain ⟨y, h1, rfl⟩ := opt_map h; exact s_neg (hf' _ _ h1)
  · obtain ⟨y, h1, rfl⟩ := opt_map h; exact s_not (hf' _ _ h1)
  · exact s_bool hf' h
  · obtain ⟨x, h1, h⟩ := opt_bind h
    obtain ⟨y, h2, h⟩ := opt_bind h
    obtain ⟨z, h3, rfl⟩ := opt_map h
    exact s_ifExp (hf' _ _ h1) (hf' _ _ h2) (hf' _ _ h3)
  · exact s_cmps g.un hf' h
  · exact s_sub hf' h
  · split at h
    · rename_i x np es pos hx
      subst hx
      obtain ⟨p, hp, h⟩ := opt_bind h
      unfold isCls at hp
      split at hp
      · cases hp; exact s_is hf' g F h
      · cases hp
    · exact s_call hf' g F tk h
  · split at h
    · rename_i hc
      obtain ⟨h1, h2, h3⟩ := hc
      obtain ⟨mt, hm, h⟩ := opt_bind h
      obtain ⟨x, hx, h⟩ := opt_bind h
      obtain ⟨y, hy, rfl⟩ := opt_map h
      exact s_meth hf' h1 h2 hm (hf' _ _ hx) hy
    · cases h
  · exact s_comp hf g F tk h
  · cases h
theorem compE_sound : ∀ n, SndA T N hot ca D G k (compE T N hot n)
  | 0 => fun X xa W sc e m h => by cases h
  | n + 1 => step_sound (compE_sound n)
end
end MP

set_option Elab.async false
set_option linter.all false
set_option maxRecDepth 100000
set_option maxHeartbeats 2000000
/-! MP6: statements. -/
namespace MP
open PySem PySem.Spec PyProof.Rows L2
section
variable {X : Cx} {T : Tab} {N : List Str} {hot : Bool} {ca : Nat → Addr} {D : Nat → Option FD} {G : Nat → Option PV} {k : Nat} {xa : Option (Addr × Nat)} {W : WX} {sc : Scope}
/-- where a statement stands -/
structure GS (X : Cx) (ca : Nat → Addr) (N : List Str) (sc : Scope) (hot : Bool) (xa : Option (Addr × Nat)) (k : Nat) : Prop where
  ge : GE X ca N sc hot xa k
  tg : TgOk X sc
  kind : sc.kind = .function
  stk : hot = false → X.stack = X.env :: X.outer ∧ X.env.frame = some X.env.locals
  po : hot = false → PassesOwn (model X.prog X.w) X.A X.env X.xe
def PSm (X : Cx) (xa : Option (Addr × Nat)) (ca : Nat → Addr) (D : Nat → Option FD) (G : Nat → Option PV) (k : Nat) (W : WX) (st : Stmt) (m : MP.S) : Prop := PS X st (tRS X.K xa ca W (exS (callF D G k) G m))
def PSsm (X : Cx) (xa : Option (Addr × Nat)) (ca : Nat → Addr) (D : Nat → Option FD) (G : Nat → Option PV) (k : Nat) (W : WX) (st : List Stmt) (m : MP.S) : Prop := PSs X st (tRS X.K xa ca W (exS (callF D G k) G m))
/-- what a compiler of blocks promises, everywhere -/
def SndS (T : Tab) (N : List Str) (sc : Scope) (hot : Bool) (ca : Nat → Addr) (D : Nat → Option FD) (G : Nat → Option PV) (k : Nat) (g : List Stmt → Option MP.S) : Prop := ∀ (X : Cx) (xa : Option (Addr × Nat)) (W : WX) (st : List Stmt) (m : MP.S), g st = some m → GS X ca N sc hot xa k → Facts X T ca D G k → Takes X W → PSsm X xa ca D G k W st m
theorem ps_of {st : Stmt} {t t' : TS} (h : PS X st t) (hi : ∀ D σ H, t' D σ H → t D σ H) : PS X st t' := ⟨fun pins s σ H D I q => h.run pins s σ H D I (hi D σ H q)⟩
theorem pss_of {st : List Stmt} {t t' : TS} (h : PSs X st t) (hi : ∀ D σ H, t' D σ H → t D σ H) : PSs X st t' := ⟨fun pins s σ H D I q => h.run pins s σ H D I (hi D σ H q)⟩
theorem no_swap {e : PySem.Expr} {o : Option PySem.Expr} {l : Nat} {env : Env} (h : isComp e = false) : swapsWith e o l env = pure false := by
  cases e <;> first | rfl | cases h
theorem no_swapSole {e tg : PySem.Expr} {l : Nat} {env : Env} (h : isComp e = false) : swapsWithSole [tg] e l env = pure false := by
  unfold swapsWithSole
  cases tg <;> first | rfl | exact no_swap h
theorem no_par {e : PySem.Expr} {env : Env} {tg : PySem.Expr} (h : isTup e = false) : swappedStores [tg] e env = pure none := by
  cases e <;> first | (cases tg <;> rfl) | cases h
section
variable {e c : PySem.Expr} {me mc : E} {pos : Pos}
theorem t_ret (he : PEm X xa ca D G k W e me) : PSm X xa ca D G k W (.Return (some e) pos) (.ret me) := by
  refine ps_of (ps_ret he.1) ?_
  rintro DD σ H ⟨ρ, μ, S, er, sr, q⟩
  exact ⟨ρ, μ, S, er, sr, Post.bindS q er sr _ fun v S1 x μ1 H1 x1 sr1 r1 h1 => h1 x μ1 H1 (Ex.refl _ _) sr1 r1⟩
theorem t_retN : PSm X xa ca D G k W (.Return none pos) (.ret (.lit .non)) := by
  refine ps_of ps_retN ?_
  rintro DD σ H ⟨ρ, μ, S, er, sr, q⟩
  exact q .non μ H (Ex.refl _ _) sr rfl
theorem t_exp (hc : isComp e = false) (he : PEm X xa ca D G k W e me) : PSm X xa ca D G k W (.Expr e pos) (.exp me) := by
  refine ps_of (ps_expr he.1 (no_swap hc)) ?_
  rintro DD σ H ⟨ρ, μ, S, er, sr, q⟩
  exact ⟨ρ, μ, S, er, sr, Post.bindS q er sr _ fun v S1 x μ1 H1 x1 sr1 r1 h1 => h1 σ μ1 H1 (Ex.refl _ _) sr1 (er.mono sr x1)⟩
theorem t_pass : PSm X xa ca D G k W (.Pass pos) .skip := by
  refine ps_of ps_pass ?_
  rintro DD σ H ⟨ρ, μ, S, er, sr, q⟩
  exact q σ μ H (Ex.refl _ _) sr er
theorem t_brk : PSm X xa ca D G k W (.Break pos) .brk := by
  refine ps_of ps_break ?_
  rintro DD σ H ⟨ρ, μ, S, er, sr, q⟩
  exact q σ μ H (Ex.refl _ _) sr er
theorem t_cont : PSm X xa ca D G k W (.Continue pos) .cont := by
  refine ps_of ps_continue ?_
  rintro DD σ H ⟨ρ, μ, S, er, sr, q⟩
  exact q σ μ H (Ex.refl _ _) sr er
theorem t_nil : PSsm X xa ca D G k W [] .skip := by
  refine pss_of pss_nil ?_
  rintro DD σ H ⟨ρ, μ, S, er, sr, q⟩
  exact q σ μ H (Ex.refl _ _) sr er
theorem t_cons {st : Stmt} {r : List Stmt} {ms mr : MP.S} (hs : PSm X xa ca D G k W st ms) (hr : PSsm X xa ca D G k W r mr) : PSsm X xa ca D G k W (st :: r) (.seq ms mr) := by
  refine pss_of (pss_cons hs hr) ?_
  rintro DD σ H ⟨ρ, μ, S, er, sr, q⟩
  refine ⟨ρ, μ, S, er, sr, ?_⟩
  have q : PostS X.K xa ca μ H (seqS (exS (callF D G k) G ms ρ S) fun σ1 T1 => exS (callF D G k) G mr σ1 T1) DD W := q
  cases e : exS (callF D G k) G ms ρ S with
  | bad => rw [e] at q; exact q
  | ok o S1 =>
    rw [e] at q
    cases o with
    | next ρ1 => exact fun σ1 μ1 H1 x1 s1 e1 => ⟨ρ1, μ1, S1, e1, s1, PostS.shift q x1⟩
    | _ => exact q
theorem t_if {a b : List Stmt} {ma mb : MP.S} (hc : PEm X xa ca D G k W c mc) (ha : PSsm X xa ca D G k W a ma) (hb : PSsm X xa ca D G k W b mb) : PSm X xa ca D G k W (.If c a b pos) (.ite mc ma mb) := by
  refine ps_of (ps_if hc.2 ha hb) ?_
  rintro DD σ H ⟨ρ, μ, S, er, sr, q⟩
  refine ⟨ρ, μ, S, er, sr, Post.bindS (R := rB) q er sr _ fun v S1 x μ1 H1 x1 sr1 r1 h1 => ?_⟩
  subst r1
  cases v with
  | true => exact ⟨ρ, μ1, S1, er.mono sr x1, sr1, h1⟩
  | false => exact ⟨ρ, μ1, S1, er.mono sr x1, sr1, h1⟩
theorem t_set (g : GS X ca N sc hot xa k) {x : Str} {i : Nat} {px : Pos} (hl : isLoc (sc.names.lookup x) = true) (hi : slotOf N x = some i) (hc : isComp e = false) (he : PEm X xa ca D G k W e me) : PSm X xa ca D G k W (.Assign [.Name x px] e pos) (.asg (.nm i) me) := by
  refine ps_of (ps_set (by rw [g.ge.nN]; exact g.ge.nd) (by rw [g.ge.nN]; exact slot_of hi) (g.tg x hl).1 he.1 (no_swap hc) (g.tg x hl).2) ?_
  rintro DD σ H ⟨ρ, μ, S, er, sr, q⟩
  exact ⟨ρ, μ, S, er, sr, Post.bindS q er sr _ fun v S1 x μ1 H1 x1 sr1 r1 h1 => h1 _ μ1 H1 (Ex.refl _ _) sr1 ((er.mono sr x1).set i r1)⟩
theorem t_setLc {f : Rc} (hf : SndA T N hot ca D G k f) (g : GS X ca N sc hot xa k) (F : Facts X T ca D G k) (tk : Takes X W) {elt : PySem.Expr} {gs : List Comprehension} {scope : Scope} {cpos : Pos} {x : Str} {i : Nat} {px : Pos}
    (hi : slotOf N x = some i) (hs : swapT sc x px (.ListComp elt gs scope cpos) = true) (hm : cComp T N hot f sc elt gs scope = some me) : PSm X xa ca D G k W (.Assign [.Name x px] (.ListComp elt gs scope cpos) pos) (.asg (.nm i) me) := by
  obtain ⟨hh, tg, iter, ifs, wi, gg, tt, te, own, rfl, pw, ok, pgt, pif, pel, fo, imp⟩ := comp_core hf g.ge F tk hm
  have hsc := g.ge.sc
  subst hsc
  unfold swapT at hs
  simp only [Bool.and_eq_true] at hs
  obtain ⟨⟨h1, h2⟩, h3⟩ := hs
  have hl : X.env.scope.names.lookup x = some .local := by
    split at h1
    · assumption
    · cases h1
  refine ps_of (ps_setLc (g.ge.calm hh) (by rw [g.ge.nN]; exact g.ge.nd) (by rw [g.ge.nN]; exact slot_of hi) hl (sw_true g.kind hl (by rw [of_decide_eq_true h2]; exact beq_self_eq_true _) (by simpa using h3)) pw ok pgt pif pel fo) ?_
  rintro DD σ H ⟨ρ, μ, S, er, sr, q⟩
  refine imp σ H _ ⟨ρ, μ, S, er, sr, Post.bindS q er sr _ fun v S1 x μ1 H1 x1 sr1 r1 h1 => ?_⟩
  exact h1 _ μ1 H1 (Ex.refl _ _) sr1 ((er.mono sr x1).set i r1)
theorem t_setT (g : GS X ca N sc hot xa k) (hh : hot = false) {ts : List PySem.Expr} {j : Nat} {tp : Pos} {t : Tgt} (ht : targ N sc (.Tuple ts j tp) = some t) (hc : isComp e = false) (hp : isTup e = false) (he : PEm X xa ca D G k W e me) : PSm X xa ca D G k W (.Assign [.Tuple ts j tp] e pos) (.asg t me) := by
  refine ps_of (ps_asg he.1 (targ_sound g.ge g.tg (g.ge.calm hh) ht) (no_swapSole hc) (no_par hp) rfl) ?_
  rintro DD σ H ⟨ρ, μ, S, er, sr, q⟩
  refine ⟨ρ, μ, S, er, sr, Post.bindS q er sr _ fun v S1 x μ1 H1 x1 sr1 r1 h1 => ?_⟩
  have h1 : PostS X.K xa ca μ1 H1 (match bindT t v ρ with | some σ1 => .ok (.next σ1) S1 | none => .bad) DD W := h1
  split at h1
  · rename_i ρ1 hb
    exact ⟨v, ρ, μ1, S1, ρ1, er.mono sr x1, sr1, r1, hb, fun σ1 e1 _ _ => h1 σ1 μ1 H1 (Ex.refl _ _) sr1 e1⟩
  · exact h1.elim
theorem set_all : PSet X (fun o i v H Q => ∃ p w u μ S S', SR X.K xa H μ S ∧ Rel X.K xa H μ p o ∧ Rel X.K xa H μ w i ∧ Rel X.K xa H μ u v ∧ setOp p w u S = some S' ∧ ∀ μ' H', Ex μ μ' H H' → SR X.K xa H' μ' S' → Q H') := by
  rintro pins s σ H o i v ov iv u Q I r1 r2 r3 ⟨p, w, u', μ, S, S', sr, rp, rw_, ru, hs, q⟩
  unfold setOp at hs
  split at hs
  · rename_i n kk
    split at hs
    · rename_i xs hl
      obtain ⟨j, hj, rfl⟩ := opt_map hs
      obtain ⟨a, vs, rfl, m, s1, ra⟩ := sr.ref rp hl
      cases rw_
      obtain ⟨x, s2⟩ := sr.write m (ra.set ru j)
      refine set_list pins s σ H _ _ v ov iv u Q I r1 r2 r3 ⟨a, vs, _, j, rfl, rfl, s1, ?_, q _ _ x s2⟩
      rw [← ra.length]
      exact hj
    · cases hs
  · cases hs
theorem t_setix {a i : PySem.Expr} {ma mi : E} {tp : Pos} (hsl : isSlice i = false) (hc : isComp e = false) (ha : PEm X xa ca D G k W a ma) (hi : PEm X xa ca D G k W i mi) (he : PEm X xa ca D G k W e me) : PSm X xa ca D G k W (.Assign [.Subscript a i tp] e pos) (.setix ma mi me) := by
  have hpg := pg_sub (pos := tp) ha.1 hi.1 (set_all (X := X) (xa := xa)) (fun v => by cases i <;> first | rfl | cases hsl)
  refine ps_of (ps_asg he.1 hpg (no_swapSole hc) (by cases e <;> rfl) rfl) ?_
  rintro DD σ H ⟨ρ, μ, S, er, sr, q⟩
  refine ⟨ρ, μ, S, er, sr, Post.bindS q er sr _ fun v S1 x μ1 H1 x1 sr1 r1 h1 => ?_⟩
  have er1 := er.mono sr x1
  refine ⟨ρ, μ1, S1, er1, sr1, Post.bindS h1 er1 sr1 _ fun p S2 y μ2 H2 x2 sr2 r2 h2 => ?_⟩
  have er2 := er1.mono sr1 x2
  refine ⟨ρ, μ2, S2, er2, sr2, Post.bindS h2 er2 sr2 _ fun w S3 z μ3 H3 x3 sr3 r3 h3 => ?_⟩
  have er3 := er2.mono sr2 x3
  cases hs : setOp p w v S3 with
  | none => rw [hs] at h3; exact h3.elim
  | some S4 =>
    rw [hs] at h3
    exact ⟨p, w, v, μ3, S3, S4, sr3, Rel.mono sr2 x3 _ _ r2, r3, Rel.mono sr1 (x2.trans x3) _ _ r1, hs, fun μ' H' x' s' => h3 σ μ' H' x' s' (er3.mono sr3 x')⟩
theorem ip_all (o : BinO) (op : Operator) (ho : binO op = some o) : PIp X op (fun x y H Q => ∃ v w μ S r, SR X.K xa H μ S ∧ Rel X.K xa H μ v x ∧ Rel X.K xa H μ w y ∧ augOp o v w = some r ∧ ∀ z, Rel X.K xa H μ r z → Q z H) := by
  rintro pins s σ H x y v u Q I rx ry ⟨a, b, μ, S, r, sr, ra, rb, h, q⟩
  unfold augOp at h
  split at h
  · cases op <;> first | cases ho | skip
    cases ra; cases rb; cases h
    exact iop_add pins s σ H _ _ v u Q I rx ry ⟨_, _, rfl, rfl, q _ rfl⟩
  · cases op <;> first | cases ho | skip
    cases ra; cases rb; cases h
    exact iop_sub pins s σ H _ _ v u Q I rx ry ⟨_, _, rfl, rfl, q _ rfl⟩
  · cases op <;> first | cases ho | skip
    split at h
    · rename_i hz
      cases ra; cases rb; cases h
      refine iop_add_str pins s σ H _ _ v u Q I rx ry ⟨_, _, rfl, rfl, by rw [str_len, str_len]; exact le_line hz, ?_⟩
      rw [str_app]
      exact q _ rfl
    · cases h
  · cases h
theorem t_aug (g : GS X ca N sc hot xa k) {x : Str} {i : Nat} {px : Pos} {o : BinO} {op : Operator} (ho : binO op = some o) (hl : isLoc (sc.names.lookup x) = true) (hi : slotOf N x = some i) (he : PEm X xa ca D G k W e me) : PSm X xa ca D G k W (.AugAssign (.Name x px) op e pos) (.aug i o me) := by
  refine ps_of (ps_aug (by rw [g.ge.nN]; exact g.ge.nd) (by rw [g.ge.nN]; exact slot_of hi) (g.tg x hl).1 he.1 (ip_all (xa := xa) o op ho) (g.tg x hl).2) ?_
  rintro DD σ H ⟨ρ, μ, S, er, sr, q⟩
  have q : PostS X.K xa ca μ H (match ρ[i]? with
    | some (some x) => (ev (callF D G k) G me ρ S).bindS ρ fun y T1 => match augOp o x y with
      | some z => .ok (.next (ρ.set i (some z))) T1
      | none => .bad
    | _ => .bad) DD W := q
  split at q
  · rename_i v hv
    obtain ⟨y, h1, h2⟩ := er.at_ i v hv
    refine ⟨y, h1, ρ, μ, S, er, sr, Post.bindS q er sr _ fun w S1 z μ1 H1 x1 sr1 r1 h3 => ?_⟩
    cases e1 : augOp o v w with
    | none => rw [e1] at h3; exact h3.elim
    | some r =>
      rw [e1] at h3
      exact ⟨v, w, μ1, S1, r, sr1, Rel.mono sr x1 _ _ (h2.val fun c z => by rw [z] at e1; cases o <;> cases e1), r1, e1, fun z' rz => h3 _ μ1 H1 (Ex.refl _ _) sr1 ((er.mono sr x1).set i rz)⟩
  · exact q.elim
theorem t_while (g : GS X ca N sc hot xa k) (hh : hot = false) {b : List Stmt} {mb : MP.S} (hc : PEm X xa ca D G k W c mc) (hb : PSsm X xa ca D G k W b mb) : PSm X xa ca D G k W (.While c b [] pos) (.whl mc mb) := by
  refine ps_of (ps_while (g.po hh) hc.2 hb) ?_
  rintro DD σ H ⟨ρ, μ, S, er, sr, q⟩
  have q : PostS X.K xa ca μ H (whileL (evT (callF D G k) G mc) (exS (callF D G k) G mb) FU ρ S) DD W := q
  refine ⟨fun n σ' H' => ∃ ρ' μ' S', ER X.K xa H' μ' ρ' σ' ∧ SR X.K xa H' μ' S' ∧ PostS X.K xa ca μ' H' (whileL (evT (callF D G k) G mc) (exS (callF D G k) G mb) n ρ' S') DD W, ⟨FU, ρ, μ, S, er, sr, q⟩, ?_⟩
  rintro n σ' H' ⟨ρ', μ', S', er', sr', q'⟩
  cases n with
  | zero => exact q'.elim
  | succ n =>
    have q' : PostS X.K xa ca μ' H' ((evT (callF D G k) G mc ρ' S').bindS ρ' fun t T1 =>
      if t then match exS (callF D G k) G mb ρ' T1 with
        | .ok (.next σ2) T2 => whileL (evT (callF D G k) G mc) (exS (callF D G k) G mb) n σ2 T2
        | .ok (.cont σ2) T2 => whileL (evT (callF D G k) G mc) (exS (callF D G k) G mb) n σ2 T2
        | .ok (.brk σ2) T2 => .ok (.next σ2) T2
        | .ok (.ret v) T2 => .ok (.ret v) T2
        | .ok (.exc c σ2) T2 => .ok (.exc c σ2) T2
        | .bad => .bad
      else .ok (.next ρ') T1) DD W := q'
    refine ⟨ρ', μ', S', er', sr', Post.bindS (R := rB) q' er' sr' _ fun t S1 t' μ1 H1 x1 sr1 r1 h1 => ?_⟩
    subst r1
    cases t with
    | false =>
      rw [if_neg Bool.false_ne_true]
      exact h1 σ' μ1 H1 (Ex.refl _ _) sr1 (er'.mono sr' x1)
    | true =>
      rw [if_pos rfl]
      refine ⟨fun σ2 H2 => ∃ ρ2 μ2 S2, ER X.K xa H2 μ2 ρ2 σ2 ∧ SR X.K xa H2 μ2 S2 ∧ PostS X.K xa ca μ2 H2 (whileL (evT (callF D G k) G mc) (exS (callF D G k) G mb) n ρ2 S2) DD W, fun σ2 H2 h => ⟨n, Nat.lt_succ_self n, h⟩, ρ', μ1, S1, er'.mono sr' x1, sr1, ?_⟩
      have h1 : PostS X.K xa ca μ1 H1 (match exS (callF D G k) G mb ρ' S1 with
        | .ok (.next σ2) T2 => whileL (evT (callF D G k) G mc) (exS (callF D G k) G mb) n σ2 T2
        | .ok (.cont σ2) T2 => whileL (evT (callF D G k) G mc) (exS (callF D G k) G mb) n σ2 T2
        | .ok (.brk σ2) T2 => .ok (.next σ2) T2
        | .ok (.ret v) T2 => .ok (.ret v) T2
        | .ok (.exc c σ2) T2 => .ok (.exc c σ2) T2
        | .bad => .bad) DD W := h1
      cases e : exS (callF D G k) G mb ρ' S1 with
      | bad => rw [e] at h1; exact h1.elim
      | ok o S2 =>
        rw [e] at h1
        cases o with
        | next ρ2 => exact fun σ2 μ2 H2 x2 s2 e2 => ⟨ρ2, μ2, S2, e2, s2, PostS.shift h1 x2⟩
        | cont ρ2 => exact fun σ2 μ2 H2 x2 s2 e2 => ⟨ρ2, μ2, S2, e2, s2, PostS.shift h1 x2⟩
        | brk ρ2 => exact h1
        | ret v => exact h1
        | exc c ρ2 => exact h1
theorem t_for (g : GS X ca N sc hot xa k) (hh : hot = false) {tg iter : PySem.Expr} {t : Tgt} {w : ItK × E} {b : List Stmt} {mb : MP.S} (ht : targ N sc tg = some t) (hi : PI X tg iter (tWk X.K xa ca W (callF D G k) G w.1 w.2)) (hf : ∀ x, foldedSetIterable iter X.env x = pure x)
    (hb : PSsm X xa ca D G k W b mb) : PSm X xa ca D G k W (.For tg iter b [] pos) (.loop t w.1 w.2 mb) := by
  refine ps_of (ps_for (g.po hh) (g.ge.calm hh) hi (targ_sound g.ge g.tg (g.ge.calm hh) ht) hb hf) ?_
  rintro DD σ H ⟨ρ, μ, S, er, sr, q⟩
  refine ⟨ρ, μ, S, er, sr, Post.bindS q er sr _ fun vs S1 xs μ1 H1 x1 sr1 r1 h1 => ?_⟩
  have h1 : PostS X.K xa ca μ1 H1 (match walkOf w.1 (asTup vs) with
    | some w' => iterL w' t (exS (callF D G k) G mb) FU 0 ρ S1
    | none => .bad) DD W := h1
  split at h1
  · rename_i w' hw
    refine ⟨asTup vs, μ1, S1, w', sr1, r1, hw, fun J hJ => ?_⟩
    refine ⟨fun i n σ' H' => ∃ ρ' μ' S', Ex μ1 μ' H1 H' ∧ ER X.K xa H' μ' ρ' σ' ∧ SR X.K xa H' μ' S' ∧ PostS X.K xa ca μ' H' (iterL w' t (exS (callF D G k) G mb) n i ρ' S') DD W, ⟨FU, ρ, μ1, S1, Ex.refl _ _, er.mono sr x1, sr1, h1⟩, ?_⟩
    rintro i n σ' H' ⟨ρ', μ', S', x', er', sr', q'⟩
    cases n with
    | zero => exact q'.elim
    | succ n =>
      have ir := hJ μ' H' S' i x' sr'
      have q' : PostS X.K xa ca μ' H' (match w'.at i S' with
        | none => .bad
        | some none => .ok (.next ρ') S'
        | some (some v) => match bindT t v ρ' with
          | none => .bad
          | some σ1 => match exS (callF D G k) G mb σ1 S' with
            | .ok (.next σ2) T2 => iterL w' t (exS (callF D G k) G mb) n (i + 1) σ2 T2
            | .ok (.cont σ2) T2 => iterL w' t (exS (callF D G k) G mb) n (i + 1) σ2 T2
            | .ok (.brk σ2) T2 => .ok (.next σ2) T2
            | .ok (.ret v) T2 => .ok (.ret v) T2
            | .ok (.exc c σ2) T2 => .ok (.exc c σ2) T2
            | .bad => .bad) DD W := q'
      cases ew : w'.at i S' with
      | none => rw [ew] at q'; exact q'.elim
      | some o =>
        rw [ew] at q' ir
        cases o with
        | none => exact .inl ⟨ir, q' σ' μ' H' (Ex.refl _ _) sr' er'⟩
        | some v =>
          obtain ⟨go, yld⟩ := ir
          refine .inr ⟨go, fun σ2 H2 => ∃ ρ' μ' S', Ex μ1 μ' H1 H2 ∧ ER X.K xa H2 μ' ρ' σ2 ∧ SR X.K xa H2 μ' S' ∧ PostS X.K xa ca μ' H2 (iterL w' t (exS (callF D G k) G mb) n (i + 1) ρ' S') DD W, fun σ2 H2 h => ⟨n, Nat.lt_succ_self n, h⟩, fun x H2 hy => ?_⟩
          obtain ⟨x2, s2, r2⟩ := yld x H2 hy
          have q' : PostS X.K xa ca μ' H' (match bindT t v ρ' with
            | none => .bad
            | some σ1 => match exS (callF D G k) G mb σ1 S' with
              | .ok (.next σ2) T2 => iterL w' t (exS (callF D G k) G mb) n (i + 1) σ2 T2
              | .ok (.cont σ2) T2 => iterL w' t (exS (callF D G k) G mb) n (i + 1) σ2 T2
              | .ok (.brk σ2) T2 => .ok (.next σ2) T2
              | .ok (.ret v) T2 => .ok (.ret v) T2
              | .ok (.exc c σ2) T2 => .ok (.exc c σ2) T2
              | .bad => .bad) DD W := q'
          cases eb : bindT t v ρ' with
          | none => rw [eb] at q'; exact q'.elim
          | some ρ1 =>
            rw [eb] at q'
            have q' : PostS X.K xa ca μ' H' (match exS (callF D G k) G mb ρ1 S' with
              | .ok (.next σ2) T2 => iterL w' t (exS (callF D G k) G mb) n (i + 1) σ2 T2
              | .ok (.cont σ2) T2 => iterL w' t (exS (callF D G k) G mb) n (i + 1) σ2 T2
              | .ok (.brk σ2) T2 => .ok (.next σ2) T2
              | .ok (.ret v) T2 => .ok (.ret v) T2
              | .ok (.exc c σ2) T2 => .ok (.exc c σ2) T2
              | .bad => .bad) DD W := q'
            refine ⟨v, ρ', μ', S', ρ1, er'.mono sr' x2, s2, r2, eb, fun σ1 e1 _ _ => ⟨ρ1, μ', S', e1, s2, ?_⟩⟩
            have q2 := PostS.shift q' x2
            cases e : exS (callF D G k) G mb ρ1 S' with
            | bad => rw [e] at q2; exact q2.elim
            | ok o S2 =>
              rw [e] at q2
              cases o with
              | next ρ2 => exact fun σ2 μ2 H3 x3 s3 e3 => ⟨ρ2, μ2, S2, (x'.trans x2).trans x3, e3, s3, PostS.shift q2 x3⟩
              | cont ρ2 => exact fun σ2 μ2 H3 x3 s3 e3 => ⟨ρ2, μ2, S2, (x'.trans x2).trans x3, e3, s3, PostS.shift q2 x3⟩
              | brk ρ2 => exact q2
              | ret v => exact q2
              | exc c ρ2 => exact q2
  · exact h1.elim
theorem t_raise (g : GS X ca N sc hot xa k) (hh : hot = false) (F : Facts X T ca D G k) (tk : Takes X W) {x m : Str} {j : Nat} {cc : Nat} {p p2 p3 : Pos} (hgl : isGl (sc.names.lookup x) = true) (hx : x ≠ "__debug__") (hc : T.clss.lookup x = some cc) :
    PSm X xa ca D G k W (.Raise (some (.Call (.Name x p) [.Constant (.str m) j p2] [] p3)) none pos) (.raise cc) := by
  have C := F.clss x cc hc
  have hsc := g.ge.sc
  subst hsc
  refine ps_of (ps_raise (g.ge.calm hh) tk (pmk_own PySem.F.excBase_ValueError C.exc C.mg C.keep C.rais (gl_of hgl) (str_ne hx))) ?_
  rintro DD σ H ⟨ρ, μ, S, er, sr, q⟩
  exact q σ μ H (Ex.refl _ _) sr er
end
end
end MP

set_option Elab.async false
set_option linter.all false
set_option maxRecDepth 100000
set_option maxHeartbeats 2000000
/-! MP7: try, pairs; statements as a whole; defs. -/
namespace MP
open PySem PySem.Spec PyProof.Rows L2
section
variable {X : Cx} {T : Tab} {N : List Str} {hot : Bool} {ca : Nat → Addr} {D : Nat → Option FD} {G : Nat → Option PV} {k : Nat} {xa : Option (Addr × Nat)} {W : WX} {sc : Scope}
theorem star_m : ∀ a : PySem.Expr, isStar a = false → (match a with | .Starred _ _ => true | _ => false) = false := fun a h => by cases a <;> first | rfl | cases h
theorem sw_pair {x y : Str} {px py pt pt2 : Pos} {kt k2 : Nat} {a b : PySem.Expr} {env : Env} (hk : env.scope.kind = .function) (hx : env.scope.names.lookup x = some .local) (hy : env.scope.names.lookup y = some .local) (hxy : x ≠ y) (hl : px.line = py.line) (sa : isStar a = false) (sb : isStar b = false)
    (h1 : [a, b].all (foldedForSure 8) = false) (h2 : [a, b].all (constantsAlone 8) = false) : swappedStores [.Tuple [.Name x px, .Name y py] kt pt] (.Tuple [a, b] k2 pt2) env = pure (some [x, y]) := by
  have kx : env.kindOf x = some .local := hx
  have ky : env.kindOf y = some .local := hy
  have hb : env.blockKind = .function := by unfold Env.blockKind; rw [hk]; rfl
  have ha := star_m a sa
  have hb' := star_m b sb
  have ed : ([x, y] : List Str).eraseDups = [x, y] := by
    have : (y == x) = false := by simpa using Ne.symm hxy
    simp [List.eraseDups_cons, this]
  unfold swappedStores
  simp only [List.all_cons, List.all_nil, Bool.and_true] at h1 h2
  simp [hb, ha, hb', kx, ky, PySem.Expr.pos, hl, ed, h1, h2]
  rintro (h | h)
  · exact absurd (ha.symm.trans h) (by decide)
  · exact absurd (hb'.symm.trans h) (by decide)
theorem t_par (g : GS X ca N sc hot xa k) {tg e : PySem.Expr} {m : MP.S} {f : Rc} {pos : Pos} (hf : Snd X xa ca D G k W (f sc)) (h : cPar N hot f sc tg e = some m) : PSm X xa ca D G k W (.Assign [tg] e pos) m := by
  unfold cPar at h
  split at h
  · rename_i x px y py kt pt a b k2 pt2
    split at h
    · rename_i hc
      obtain ⟨hh, hx, hy, hxy, hl, sa, sb, h1, h2⟩ := hc
      obtain ⟨i, hi, h⟩ := opt_bind h
      obtain ⟨j, hj, h⟩ := opt_bind h
      obtain ⟨es, he, rfl⟩ := opt_map h
      have hs := g.ge.sc
      subst hs
      have ni := slot_of hi
      have nj := slot_of hj
      have hij : i ≠ j := fun z => hxy (by subst z; rw [ni] at nj; exact Option.some.inj nj)
      refine ps_of (ps_par (g.ge.calm hh) (by rw [g.ge.nN]; exact g.ge.nd) (by rw [g.ge.nN]; exact ni) (by rw [g.ge.nN]; exact nj) hij hx hy (args_sound hf he) (sw_pair g.kind hx hy hxy hl sa sb h1 h2)) ?_
      rintro DD σ H ⟨ρ, μ, S, er, sr, q⟩
      refine ⟨ρ, μ, S, er, sr, Post.bindS q er sr _ fun v S1 vs μ1 H1 x1 sr1 r1 h1 => ?_⟩
      have h1 : PostS X.K xa ca μ1 H1 (match asTup v with
        | [v, w] => .ok (.next ((ρ.set i (some v)).set j (some w))) S1
        | _ => .bad) DD W := h1
      have r1 : Rels X.K xa H1 μ1 (asTup v) vs := r1
      split at h1
      · rename_i p q e
        rw [e] at r1
        obtain ⟨u, us, rfl, ru, u2, us2, rfl, rw2, e3⟩ := r1
        subst e3
        exact ⟨u, u2, rfl, h1 _ μ1 H1 (Ex.refl _ _) sr1 (((er.mono sr x1).set i ru).set j rw2)⟩
      · exact h1.elim
    · cases h
  · cases h
/-! ### try -/
theorem Facts.tr (F : Facts X T ca D G k) (pn : List (Addr × Obj)) (xe : Value → Shared → Prop) : Facts (X.tr pn xe) T ca D G k := ⟨F.fns, F.consts, fun x c h => let C := F.clss x c h; ⟨C.mg, C.keep, C.exc, C.rais, C.ex, C.kyes, C.kno, C.yes, C.no⟩, F.blts⟩
theorem Facts.suite (F : Facts X T ca D G k) (a : Addr) (pn : List (Addr × Obj)) : Facts (X.suite a pn) T ca D G k := ⟨F.fns, F.consts, fun x c h => let C := F.clss x c h; ⟨C.mg, C.keep, C.exc, C.rais, C.ex, C.kyes, C.kno, C.yes, C.no⟩, F.blts⟩
theorem GS.tr (g : GS X ca N sc hot xa k) (hh : hot = false) (pn : List (Addr × Obj)) (xe : Value → Shared → Prop) (hp : PassesOwn (model X.prog X.w) X.A X.env xe) : GS (X.tr pn xe) ca N sc hot xa k :=
  ⟨⟨g.ge.nN, g.ge.nd, g.ge.sc, g.ge.calm, g.ge.room, g.ge.un, g.ge.cold, fun z => by rw [hh] at z; cases z⟩, g.tg, g.kind, g.stk, fun _ => hp⟩
theorem GS.suite (g : GS X ca N sc hot xa k) {a : Addr} {c : Nat} {oe : Obj} {pn : List (Addr × Obj)} (C : ExcC X.K (ca c)) (hz : Zc (.ref (ca c)) none oe) (hf : ∃ vs, oe.data = .fields vs) : GS (X.suite a ((a, oe) :: pn)) ca N sc true (some (a, c)) k :=
  ⟨⟨g.ge.nN, g.ge.nd, g.ge.sc, (fun z => by cases z), (fun z => by cases z), g.ge.un, (fun z => by cases z), fun _ a' c' e => by cases e; exact call_isE C hz hf⟩, g.tg, g.kind, (fun z => by cases z), fun z => by cases z⟩
theorem takes_none {Y : Cx} : Takes Y WF := fun u s' ⟨a, B, sI, pins, σ, H, cls, d, e, I, nb, up, sky, na, os, ag, w⟩ => w.elim
/-- what the handler's block promises of the exception a of the class c -/
def tsH (X : Cx) (T : Tab) (ca : Nat → Addr) (D : Nat → Option FD) (G : Nat → Option PV) (k : Nat) (cs : List Nat) (m : MP.S) (a : Addr) (cls : Value) (d : Option Addr) : TS := fun DD σ H => ∃ c, cls = .ref (ca c) ∧ d = none ∧ c ∈ cs ∧ tRS X.K (some (a, c)) ca WF (exS (callF D G k) G m) DD σ H
theorem suite_ok {g : List Stmt → Option MP.S} (hg : SndS T N sc true ca D G k g) (gs : GS X ca N sc hot xa k) (F : Facts X T ca D G k) {cs : List Nat} (hcs : ∀ c ∈ cs, ExcC X.K (ca c)) {su : List Stmt} {m : MP.S} (h : g su = some m) (a : Addr) (oe : Obj) (cls : Value) (d : Option Addr) (pn : List (Addr × Obj)) (hz : Zc cls d oe) (hf : ∃ vs, oe.data = .fields vs) :
    PSs (X.suite a ((a, oe) :: pn)) su (tsH X T ca D G k cs m a cls d) := by
  refine ⟨fun pins s σ H DD I q => ?_⟩
  obtain ⟨c, e1, e2, hc, q⟩ := q
  subst e1 e2
  exact (hg (X.suite a ((a, oe) :: pn)) (some (a, c)) WF su m h (gs.suite (hcs c hc) hz hf) (F.suite _ _) takes_none).run pins s σ H DD I q
def clrS (x : Option Nat) (σ : L2.St) : L2.St := match x with
  | none => σ
  | some i => σ.set i none
theorem end_of {x : Option Nat} {a : Addr} {c : Nat} {r : ResS} {DD DD' : Ends} {μ : List Addr} {H : Hp} {K : PySem.W.Frag} (h : PostS K none ca μ H (endX x r) DD W)
    (hn : ∀ ρ σ μ H, ER K (some (a, c)) H μ ρ σ → ∀ Q : L2.St → Hp → Prop, True → ∃ σ', ER K none H μ (clrX x ρ) σ' ∧ (σ' = clrS x σ))
    (h1 : ∀ σ H, DD.nx (clrS x σ) H → DD'.nx σ H) (h2 : ∀ σ H, DD.bk (clrS x σ) H → DD'.bk σ H) (h3 : ∀ σ H, DD.ct (clrS x σ) H → DD'.ct σ H) (h4 : ∀ v H, DD.rt v H → DD'.rt v H) :
    PostS K (some (a, c)) ca μ H r DD' WF := by
  cases r with
  | bad => exact h
  | ok o S1 =>
    cases o with
    | next ρ => exact fun σ1 μ1 H1 x1 s1 e1 => h1 σ1 H1 (by obtain ⟨σ', e2, rfl⟩ := hn _ _ _ _ e1 (fun _ _ => True) trivial; exact h _ μ1 H1 x1 s1.xx e2)
    | brk ρ => exact fun σ1 μ1 H1 x1 s1 e1 => h2 σ1 H1 (by obtain ⟨σ', e2, rfl⟩ := hn _ _ _ _ e1 (fun _ _ => True) trivial; exact h _ μ1 H1 x1 s1.xx e2)
    | cont ρ => exact fun σ1 μ1 H1 x1 s1 e1 => h3 σ1 H1 (by obtain ⟨σ', e2, rfl⟩ := hn _ _ _ _ e1 (fun _ _ => True) trivial; exact h _ μ1 H1 x1 s1.xx e2)
    | ret v => exact fun y μ1 H1 x1 s1 r1 => h4 y H1 (h y μ1 H1 x1 s1.xx (Rel.xx _ _ r1))
    | exc d ρ => exact h.elim
theorem clr_ok (x : Option Nat) {a : Addr} {c : Nat} {K : PySem.W.Frag} (ρ : Nv) (σ : L2.St) (μ : List Addr) (H : Hp) (e : ER K (some (a, c)) H μ ρ σ) : ∀ Q : L2.St → Hp → Prop, True → ∃ σ', ER K none H μ (clrX x ρ) σ' ∧ (σ' = clrS x σ) := fun _ _ => by
  cases x with
  | none => exact ⟨σ, e.cool, rfl⟩
  | some i => exact ⟨_, (e.unset i).cool, rfl⟩
theorem t_try {g gh : List Stmt → Option MP.S} (hg : SndS T N sc hot ca D G k g) (hgh : SndS T N sc true ca D G k gh) (gs : GS X ca N sc hot xa k) (F : Facts X T ca D G k) (tk : Takes X W) {body : List Stmt} {hs : List ExceptHandler} {m : MP.S} {pos : Pos} (h : cTry T N hot g gh sc body hs = some m) : PSm X xa ca D G k W (.Try body hs [] [] pos) m := by
  unfold cTry at h
  split at h
  · rename_i x np b su hp
    split at h
    · rename_i hc
      obtain ⟨hh, hgl, hd⟩ := hc
      obtain ⟨c, hcl, h⟩ := opt_bind h
      obtain ⟨p, hb, h⟩ := opt_bind h
      obtain ⟨q, hq, rfl⟩ := opt_map h
      have C := F.clss x c hcl
      have hsc := gs.ge.sc
      subst hsc
      have hx := gs.ge.cold hh
      subst hx
      obtain ⟨stk, frm⟩ := gs.stk hh
      refine ps_of (ps_try_only (tb := fun W' => tRS X.K none ca W' (exS (callF D G k) G p)) stk frm ⟨gl_of hgl, str_ne hd, .inl C.mg⟩ tk (fun W' pn xe tk' po => hg (X.tr pn xe) none W' body p hb (gs.tr hh pn xe po) (F.tr pn xe) tk') (fun a oe cls d pn hz hf => suite_ok hgh gs F C.ex hq a oe cls d pn hz hf)) ?_
      rintro DD σ H ⟨ρ, μ, S, er, sr, r⟩
      refine ⟨ρ, μ, S, er, sr, ?_⟩
      have r : PostS X.K none ca μ H (match exS (callF D G k) G p ρ S with
        | .ok (.exc d ρ1) T1 => if d ∈ T.caught c then endX none (exS (callF D G k) G q (holdX none d ρ1) T1)
          else if d ∈ T.passed c then .ok (.exc d ρ1) T1 else .bad
        | r => r) DD W := r
      cases e : exS (callF D G k) G p ρ S with
      | bad => rw [e] at r; exact r
      | ok o S1 =>
        rw [e] at r
        cases o with
        | exc d ρ1 =>
          have r : PostS X.K none ca μ H (if d ∈ T.caught c then endX none (exS (callF D G k) G q (holdX none d ρ1) S1)
            else if d ∈ T.passed c then .ok (.exc d ρ1) S1 else .bad) DD W := r
          split at r
          · rename_i hm
            refine fun σ1 μ1 H1 x1 s1 e1 => ⟨true, C.yes d hm, fun _ a ha => ⟨d, rfl, rfl, hm, ρ1, μ1, S1, e1.hot0, s1.xx, end_of (PostS.shift r x1) (clr_ok none) (fun _ _ h => h) (fun _ _ h => h) (fun _ _ h => h) (fun _ _ h => h)⟩, fun z => by cases z⟩
          · split at r
            · rename_i hm
              exact fun σ1 μ1 H1 x1 s1 e1 => ⟨false, C.no d hm, (fun z => by cases z), fun _ => r σ1 μ1 H1 x1 s1 e1⟩
            · exact r.elim
        | _ => exact r
    · cases h
  · rename_i x np n b su hp
    split at h
    · rename_i hc
      obtain ⟨hh, hgl, hd, hl⟩ := hc
      obtain ⟨c, hcl, h⟩ := opt_bind h
      obtain ⟨i, hi, h⟩ := opt_bind h
      obtain ⟨p, hb, h⟩ := opt_bind h
      obtain ⟨q, hq, rfl⟩ := opt_map h
      have C := F.clss x c hcl
      have hsc := gs.ge.sc
      subst hsc
      have hx := gs.ge.cold hh
      subst hx
      obtain ⟨stk, frm⟩ := gs.stk hh
      refine ps_of (ps_try_as (tb := fun W' => tRS X.K none ca W' (exS (callF D G k) G p)) stk frm (by rw [gs.ge.nN]; exact gs.ge.nd) (by rw [gs.ge.nN]; exact slot_of hi) hl ⟨gl_of hgl, str_ne hd, .inl C.mg⟩ tk (fun W' pn xe tk' po => hg (X.tr pn xe) none W' body p hb (gs.tr hh pn xe po) (F.tr pn xe) tk') (fun a oe cls d pn hz hf => suite_ok hgh gs F C.ex hq a oe cls d pn hz hf)) ?_
      rintro DD σ H ⟨ρ, μ, S, er, sr, r⟩
      refine ⟨ρ, μ, S, er, sr, ?_⟩
      have r : PostS X.K none ca μ H (match exS (callF D G k) G p ρ S with
        | .ok (.exc d ρ1) T1 => if d ∈ T.caught c then endX (some i) (exS (callF D G k) G q (holdX (some i) d ρ1) T1)
          else if d ∈ T.passed c then .ok (.exc d ρ1) T1 else .bad
        | r => r) DD W := r
      cases e : exS (callF D G k) G p ρ S with
      | bad => rw [e] at r; exact r
      | ok o S1 =>
        rw [e] at r
        cases o with
        | exc d ρ1 =>
          have r : PostS X.K none ca μ H (if d ∈ T.caught c then endX (some i) (exS (callF D G k) G q (holdX (some i) d ρ1) S1)
            else if d ∈ T.passed c then .ok (.exc d ρ1) S1 else .bad) DD W := r
          split at r
          · rename_i hm
            refine fun σ1 μ1 H1 x1 s1 e1 => ⟨true, C.yes d hm, fun _ a ha => ⟨d, rfl, rfl, hm, holdX (some i) d ρ1, μ1, S1, e1.hot i, s1.xx, end_of (PostS.shift r x1) (clr_ok (some i)) (fun _ _ h => h) (fun _ _ h => h) (fun _ _ h => h) (fun _ _ h => h)⟩, fun z => by cases z⟩
          · split at r
            · rename_i hm
              exact fun σ1 μ1 H1 x1 s1 e1 => ⟨false, C.no d hm, (fun z => by cases z), fun _ => r σ1 μ1 H1 x1 s1 e1⟩
            · exact r.elim
        | _ => exact r
    · cases h
  · cases h
/-! ### statements as a whole -/
theorem folded_ok {iter : PySem.Expr} {f : Rc} {w : ItK × E} (h : cWalk T f sc iter = some w) (env : Env) : ∀ x, foldedSetIterable iter env x = pure x := fun x => by
  cases iter <;> first | rfl | (simp [cWalk] at h; done)
theorem stepS_sound {n : Nat} {g gh : List Stmt → Option MP.S} (hg : SndS T N sc hot ca D G k g) (hgh : SndS T N sc true ca D G k gh) (gs : GS X ca N sc hot xa k) (F : Facts X T ca D G k) (tk : Takes X W) {st : Stmt} {m : MP.S} (h : stepS T N hot (compE T N hot n) g gh sc st = some m) : PSm X xa ca D G k W st m := by
  have hf : Snd X xa ca D G k W (compE T N hot n sc) := fun e m he => compE_sound n X xa W sc e m he gs.ge F tk
  unfold stepS at h
  split at h
  · obtain ⟨y, h1, rfl⟩ := opt_map h; exact t_ret (hf _ _ h1)
  · cases h; exact t_retN
  · unfold cAsg at h
    split at h
    · rename_i e pos tg0 x px
      split at h
      · cases h
      · rename_i hc
        obtain ⟨t, ht, h⟩ := opt_bind h
        obtain ⟨y, h1, rfl⟩ := opt_map h
        have ht : (if isLoc (sc.names.lookup x) then (slotOf N x).map Tgt.nm else none) = some t := ht
        split at ht
        · rename_i hl
          obtain ⟨i, hi, rfl⟩ := opt_map ht
          cases hcc : isComp e with
          | false => exact t_set gs hl hi hcc (hf _ _ h1)
          | true =>
            rw [hcc] at hc
            have hs : swapT sc x px e = true := by simpa using hc
            cases e <;> first | (cases hs; done) | skip
            cases n with
            | zero => cases h1
            | succ n => exact t_setLc (compE_sound n) gs F tk hi hs h1
        · cases ht
    · split at h
      · exact t_par gs hf h
      · rename_i hp
        split at h
        · cases h
        · rename_i hc
          obtain ⟨t, ht, h⟩ := opt_bind h
          obtain ⟨y, h1, rfl⟩ := opt_map h
          exact t_setT gs (by simpa using fun z => hc (.inl z)) ht (by simpa using fun z => hc (.inr z)) (by simpa using hp) (hf _ _ h1)
    · split at h
      · cases h
      · rename_i hc
        obtain ⟨x, h1, h⟩ := opt_bind h
        obtain ⟨y, h2, h⟩ := opt_bind h
        obtain ⟨z, h3, rfl⟩ := opt_map h
        exact t_setix (by simpa using fun z => hc (.inr (.inl z))) (by simpa using fun z => hc (.inr (.inr z))) (hf _ _ h1) (hf _ _ h2) (hf _ _ h3)
    · cases h
  · split at h
    · rename_i hl
      obtain ⟨o, ho, h⟩ := opt_bind h
      obtain ⟨i, hi, h⟩ := opt_bind h
      obtain ⟨y, h1, rfl⟩ := opt_map h
      exact t_aug gs ho hl hi (hf _ _ h1)
    · cases h
  · split at h
    · cases h
    · rename_i hh
      have hh : hot = false := by simpa using hh
      obtain ⟨t, ht, h⟩ := opt_bind h
      obtain ⟨w, hw, h⟩ := opt_bind h
      obtain ⟨b, hb, rfl⟩ := opt_map h
      exact t_for gs hh ht (walk_sound hf gs.ge F hw) (folded_ok hw _) (hg _ _ _ _ _ hb gs F tk)
  · split at h
    · cases h
    · rename_i hh
      have hh : hot = false := by simpa using hh
      obtain ⟨x, h1, h⟩ := opt_bind h
      obtain ⟨b, hb, rfl⟩ := opt_map h
      exact t_while gs hh (hf _ _ h1) (hg _ _ _ _ _ hb gs F tk)
  · obtain ⟨x, h1, h⟩ := opt_bind h
    obtain ⟨y, h2, h⟩ := opt_bind h
    obtain ⟨z, h3, rfl⟩ := opt_map h
    exact t_if (hf _ _ h1) (hg _ _ _ _ _ h2 gs F tk) (hg _ _ _ _ _ h3 gs F tk)
  · unfold cRaise at h
    split at h
    · split at h
      · rename_i hc
        obtain ⟨hgl, hx, hh⟩ := hc
        obtain ⟨c, hc, rfl⟩ := opt_map h
        exact t_raise gs hh F tk hgl hx hc
      · cases h
    · cases h
  · exact t_try hg hgh gs F tk h
  · split at h
    · cases h
    · rename_i hc
      obtain ⟨y, h1, rfl⟩ := opt_map h
      exact t_exp (by simpa using hc) (hf _ _ h1)
  · cases h; exact t_pass
  · cases h; exact t_brk
  · cases h; exact t_cont
  · cases h
theorem stepSs_sound {p : Stmt → Option MP.S} (hp : ∀ st m, p st = some m → PSm X xa ca D G k W st m) : ∀ {st : List Stmt} {m : MP.S}, stepSs p st = some m → PSsm X xa ca D G k W st m
  | [], m, h => by cases h; exact t_nil
  | s :: r, m, h => by
    obtain ⟨a, h1, h⟩ := opt_bind h
    obtain ⟨b, h2, rfl⟩ := opt_map h
    exact t_cons (hp s a h1) (stepSs_sound hp h2)
theorem compS_sound : ∀ (n : Nat) (hot : Bool), SndS T N sc hot ca D G k (compS T N sc n hot)
  | 0, _ => fun X xa W st m h => by cases h
  | n + 1, hot => fun X xa W st m h gs F tk => stepSs_sound (fun s m hs => stepS_sound (compS_sound n hot) (compS_sound n true) gs F tk hs) h
end
end MP

set_option Elab.async false
set_option linter.all false
set_option maxRecDepth 100000
set_option maxHeartbeats 2000000
/-! MP8: the defs of a module do what their trees do, at every level of calls. -/
namespace MP
open PySem PySem.Spec PyProof.Rows L2
def psOf (s : Stmt) : List Str := (defArgs s).args.map (·.arg)
/-- a class of exceptions in the frozen heap -/
structure ClsF (K : PySem.W.Frag) (mg : Str → Option Value) (T : Tab) (ca : Nat → Addr) (x : Str) (c : Nat) : Prop where
  mg : mg x = some (.ref (ca c))
  keep : PySem.W.keepIn K (.ref (ca c)) = true
  exc : PySem.W.excIn K (ca c) veRow "ValueError.__new__" = true
  sub : PySem.W.subIn K (.ref (ca c)) (.type "BaseException") = some true
  ty : PySem.W.typeIn K (.ref (ca c)) = some (.type "type")
  ex : ∀ d ∈ T.caught c, ExcC K (ca d)
  kyes : ∀ d ∈ T.caught c, PySem.W.kitOne K (.ref (ca d)) (.ref (ca c)) = some true
  kno : ∀ d ∈ T.passed c, PySem.W.kitOne K (.ref (ca d)) (.ref (ca c)) = some false
  yes : ∀ d ∈ T.caught c, PySem.W.exmOne K (.ref (ca d)) (.ref (ca c)) = some true
  no : ∀ d ∈ T.passed c, PySem.W.exmOne K (.ref (ca d)) (.ref (ca c)) = some false
/-- a def in the frozen heap, and its tree -/
structure FnF (K : PySem.W.Frag) (mg : Str → Option Value) (T : Tab) (D : Nat → Option FD) (x : Str) (f : Nat) : Prop where
  ex : ∃ (a : Addr) (fd : FuncData) (st : Stmt) (N : List Str) (n : Nat) (m : MP.S), mg x = some (.ref a) ∧ Fun K x x st a fd ∧ Binds K fd (psOf st) [] ∧ FnScope N (psOf st) (defScope st) ∧ compS T N (defScope st) n false (defBody st) = some m ∧ D f = some ⟨(psOf st).length, N.length, m⟩
/-- the module -/
structure Wd (K : PySem.W.Frag) (mg : Str → Option Value) (T : Tab) (ca : Nat → Addr) (D : Nat → Option FD) (G : Nat → Option PV) : Prop where
  fns : ∀ x f, T.fns.lookup x = some f → FnF K mg T D x f
  consts : ∀ x g, T.consts.lookup x = some g → ∃ v u pv, G g = some pv ∧ mg x = some u ∧ RelV v u ∧ ∀ xa H μ, Rel K xa H μ pv v
  clss : ∀ x c, T.clss.lookup x = some c → ClsF K mg T ca x c
  blts : ∀ x, x ∈ T.blts → mg x = none
section
variable {P : Program} {w : World} {K : PySem.W.Frag} {mg : Str → Option Value} {base : Heap} {T : Tab} {ca : Nat → Addr} {D : Nat → Option FD} {G : Nat → Option PV}
/-- every def does what its tree does, down to the level k -/
def FnsAt (P : Program) (w : World) (K : PySem.W.Frag) (mg : Str → Option Value) (base : Heap) (T : Tab) (ca : Nat → Addr) (D : Nat → Option FD) (G : Nat → Option PV) (k : Nat) : Prop := ∀ x f, T.fns.lookup x = some f → ∃ (a : Addr) (fd : FuncData) (ps : List Str), mg x = some (.ref a) ∧ PySem.W.keepIn K (.ref a) = true ∧ Binds K fd ps [] ∧ (∃ d, D f = some d ∧ d.np = ps.length) ∧
    FnOk P w K mg base (L2.CX P w) k a fd ps (spM K ca D G k f ps.length)
theorem facts_of (W : Wd K mg T ca D G) {k : Nat} (F : FnsAt P w K mg base T ca D G k) (X : Cx) (h1 : X.prog = P) (h2 : X.w = w) (h3 : X.K = K) (h4 : X.mg = mg) (h5 : X.base = base) : Facts X T ca D G k := by
  subst h1 h2 h3 h4 h5
  exact ⟨F, W.consts, fun x c h => let C := W.clss x c h; ⟨C.mg, C.keep, C.exc, raises_own C.sub C.ty, C.ex, C.kyes, C.kno, C.yes, C.no⟩, W.blts⟩
theorem fn_one (W : Wd K mg T ca D G) {k : Nat} (ih : FnsAt P w K mg base T ca D G k) {x : Str} {f : Nat} {a : Addr} {fd : FuncData} {st : Stmt} {N : List Str} {n : Nat} {m : MP.S} (hF : Fun K x x st a fd) (hS : FnScope N (psOf st) (defScope st)) (hc : compS T N (defScope st) n false (defBody st) = some m) (hD : D f = some ⟨(psOf st).length, N.length, m⟩) :
    FnOk P w K mg base (L2.CX P w) (k + 1) a fd (psOf st) (spM K ca D G (k + 1) f (psOf st).length) := by
  refine Fun.okX hF hS (fun vs H Q E q => q.1) fun cdv A outer s H vs Q E hr q => ?_
  obtain ⟨hl, ws, μ, S, rs, sr, q⟩ := q
  have hw : ws.length = (psOf st).length := by rw [rs.length]; exact hl
  have q : Post K none ca (rV K none) μ H (match D f with
    | some d => if ws.length = d.np then ofBody (exS (callF D G k) G d.body (startE d.ns ws) S) else .bad
    | none => .bad) Q E := q
  rw [hD] at q
  have q : Post K none ca (rV K none) μ H (if ws.length = (psOf st).length then ofBody (exS (callF D G k) G m (startE N.length ws) S) else .bad) Q E := q
  rw [if_pos hw] at q
  have F := facts_of W ih (cxOf (L2.CX P w) P w K mg base N x (defScope st) a cdv A outer s H E) rfl rfl rfl rfl rfl
  have gs : GS (cxOf (L2.CX P w) P w K mg base N x (defScope st) a cdv A outer s H E) ca N (defScope st) false none k :=
    ⟨⟨rfl, hS.nd, rfl, fun _ => rfl, fun _ => hr, hr.units, fun _ => rfl, fun z => by cases z⟩, fun x hx => ⟨loc_of hx, .inl rfl⟩, hS.kind, fun _ => ⟨rfl, rfl⟩, fun _ => passes_of rfl⟩
  refine ⟨_, compS_sound n false _ none (fun cls d _ H => E cls d H) _ m hc gs F (takes_of rfl rfl rfl rfl), startE N.length ws, μ, S, ER.start N rs, sr, ?_⟩
  show PostS K none ca μ H (exS (callF D G k) G m (startE N.length ws) S) _ _
  cases e : exS (callF D G k) G m (startE N.length ws) S with
  | bad => rw [e] at q; exact q.elim
  | ok o S1 =>
    rw [e] at q
    cases o with
    | next ρ1 => exact fun σ1 μ1 H1 x1 s1 e1 => q .non μ1 H1 x1 s1 rfl
    | ret v => exact fun y μ1 H1 x1 s1 r1 => q y μ1 H1 x1 s1 r1
    | exc c ρ1 => exact fun σ1 μ1 H1 x1 s1 e1 => q μ1 H1 x1 s1
    | brk ρ1 => exact q.elim
    | cont ρ1 => exact q.elim
theorem fns_at (W : Wd K mg T ca D G) : ∀ k, FnsAt P w K mg base T ca D G k
  | 0 => fun x f h => by
    obtain ⟨a, fd, st, N, n, m, hm, hF, hB, hS, hc, hD⟩ := (W.fns x f h).ex
    refine ⟨a, fd, psOf st, hm, hF.kp, hB, ⟨_, hD, rfl⟩, ⟨fun vs H Q E q => q.1, fun A outer s H args us vs Q E hr he hb hv hs => ?_⟩⟩
    obtain ⟨_, ws, μ, S, _, _, q⟩ := hs
    exact q.elim
  | k + 1 => fun x f h => by
    obtain ⟨a, fd, st, N, n, m, hm, hF, hB, hS, hc, hD⟩ := (W.fns x f h).ex
    exact ⟨a, fd, psOf st, hm, hF.kp, hB, ⟨_, hD, rfl⟩, fn_one W (fns_at W k) hF hS hc hD⟩
end
end MP

set_option Elab.async false
set_option linter.all false
set_option maxRecDepth 100000
set_option maxHeartbeats 2000000
/-! MP9: from a law's row to its tree. -/
namespace MP
open PySem PySem.Spec PySem.W PyProof.Rows L2
theorem rels_ofInts {K : PySem.W.Frag} {xa : Option (Addr × Nat)} {H : Hp} {μ : List Addr} : ∀ ns : List Int, Rels K xa H μ (ns.map PV.int) (ns.map V.int)
  | [] => rfl
  | n :: ns => ⟨.int n, ns.map V.int, rfl, rfl, rels_ofInts ns⟩
theorem sqF_of {K : PySem.W.Frag} {H : Hp} {a : Addr} {xs : List V} (h : SqL K H a xs) (o : Only H) : SqF K H a xs := by
  rcases h with h | h
  · refine .inl ?_
    rcases o a with e | ⟨u, ys, e⟩
    · rcases h with h | ⟨_, h⟩ <;> (rw [e] at h; cases h)
    · rcases h with h | ⟨v, h⟩
      · rw [e] at h; cases h
      · exact ⟨v, h⟩
  · exact .inr h
/-- what a law's tree must do -/
def LawTrue (D : Nat → Option FD) (G : Nat → Option PV) (k i n : Nat) : Prop := ∀ ns : List Int, ns.length ≤ n → (∀ z ∈ ns, Builtin.Int.intBits z ≤ 1048576) → ∃ S, callF D G k i [.frz (ns.map PV.int)] [] = .ok (.bl true) S
theorem walk_mp {l : PySem.W.OpenLaw} {n k i : Nat} {q : Program} {loose : List Str} {XP : (Str → Option Value) → Heap → Prop} {YP : World → Heap → Prop} {d : DefRec} {K : Params → PySem.W.Frag} {T : Tab} {D : Nat → Option FD} {G : Nat → Option PV} {st : Stmt} {N : List Str} {cn : Nat} {m : MP.S} {x : Str}
    (hn : l.most = some n) (hn2 : n ≤ sizeLine) (hdf : d.params.defaults = []) (hr : Room (k + 1) callerA)
    (hY : ∀ (w : World) (h : Heap), YP w h → (K w.params).In h)
    (hS : FnScope N (psOf st) (defScope st)) (hps : psOf st = [x]) (hc : compS T N (defScope st) cn false (defBody st) = some m) (hD : D i = some ⟨1, N.length, m⟩)
    (F : ∀ (w : World) (mg : Str → Option Value) (fa : Addr) (h : Heap), XP mg h → (K w.params).In h → h.Ns mainGlobals mg → mg d.name = some (.ref fa) →
      ∃ (ca : Nat → Addr) (y : Str) (fd : FuncData), Fun (K w.params) y y st fa fd ∧ (∀ (s : Shared) (u : Value), BindsTo s fd ⟨[u], []⟩ [(x, u)]) ∧ Wd (K w.params) mg T ca D G)
    (law : LawTrue D G (k + 1) i n) : PySem.W.WalkO q loose XP YP l.row.toRowW d [] (fun f vs => PySem.call f vs) := by
  refine Att.attach_callB hn hdf fun w s₀ s₁ mg mb fa o pm cd doc a vs ns G' Y ho hd hcd hmg hobj hints hlen hbits hg => ?_
  have KX := hY w _ Y
  obtain ⟨ca, y, fd, hF, hb, W⟩ := F w mg fa _ G'.X KX G'.T.g hmg
  refine law_call (CX := L2.CX l.prog w) (k := k + 1) (sp := spM (K w.params) ca D G (k + 1) i 1) KX G'.T.g G'.T.b G'.T.builtins G'.T.nolimit hg hobj hints (Nat.le_trans hlen hn2) hr (fun base hk hbn => ?_) hb (fun H hO hS' => ?_) (fun H e s' z => by obtain ⟨_, _, _, _, _, _, _, _, _, _, _, _, z⟩ := z; exact z)
  · have h := fn_one (P := l.prog) (w := w) (base := base) (f := i) W (fns_at W k) hF hS hc (by rw [hD, hps] <;> rfl)
    rw [hps] at h
    exact h
  · obtain ⟨S, e⟩ := law ns hlen hbits
    refine ⟨rfl, [.frz (ns.map PV.int)], [], [], ⟨.ref a, [], rfl, ⟨a, _, rfl, sqF_of hS' hO, rels_ofInts ns⟩, rfl⟩, ⟨rfl, fun n a xs h => by simp at h, fun n m a h => by simp at h⟩, ?_⟩
    rw [e]
    exact fun v μ' H' _ _ r => r
/-! ### the parts of Wd -/
section
variable {K : PySem.W.Frag} {mg : Str → Option Value} {T : Tab} {ca : Nat → Addr} {D : Nat → Option FD} {G : Nat → Option PV} {h : Heap}
theorem fnF_of {x : Str} {f : Nat} {a : Addr} {st : Stmt} {N : List Str} {n : Nat} {m : MP.S} (X : K.In h) (Gm : h.Ns mainGlobals mg) {oc : Value} {od an : Option Addr} {osl : Array (Option Value)} {kV doc pm cdv ct : Value}
    (hs : FnScope N (psOf st) (defScope st)) (hc : compS T N (defScope st) n false (defBody st) = some m) (hD : D f = some ⟨(psOf st).length, N.length, m⟩)
    (hb : ∀ (kV doc pm : Value) (an : Option Addr) (cdv ct : Value) (us : List Value), us.length = (psOf st).length → bindArgs (PySem.W.fnOf x x (defArgs st) (defBody st) (defScope st) .none kV doc pm an cdv ct) ⟨us, []⟩ = pure ((psOf st).zip us))
    (h1 : PySem.W.nsIn K mainGlobals x = some (some (.ref a))) (h2 : K.lookup a = some ⟨oc, od, .func (PySem.W.fnOf x x (defArgs st) (defBody st) (defScope st) .none kV doc pm an cdv ct), osl⟩) (h3 : PySem.W.codeIn K cdv x = true) (h4 : PySem.W.keepIn K (.ref a) = true) : FnF K mg T D x f := by
  have F := fun_mk (st := st) h2 h3 h4
  exact ⟨a, _, st, N, n, m, PySem.W.mg_of X Gm h1, F, F.binds hb, hs, hc, hD⟩
/-- a class of the module, over ValueError at last -/
structure ClsK (K : PySem.W.Frag) (mg : Str → Option Value) (x : Str) (a : Addr) : Prop where
  g : mg x = some (.ref a)
  exc : PySem.W.excIn K a veRow "ValueError.__new__" = true
  keep : PySem.W.keepIn K (.ref a) = true
  sub : PySem.W.subIn K (.ref a) (.type "BaseException") = some true
  ty : PySem.W.typeIn K (.ref a) = some (.type "type")
  cls : PySem.W.isClsIn K a = true
  self : PySem.W.subIn K (.ref a) (.ref a) = some true
  ex : ExcC K a
theorem clsK_of {x : Str} {a : Addr} (X : K.In h) (Gm : h.Ns mainGlobals mg) (h1 : PySem.W.nsIn K mainGlobals x = some (some (.ref a))) (h2 : PySem.W.excIn K a veRow "ValueError.__new__" = true) (h3 : PySem.W.keepIn K (.ref a) = true) (h4 : PySem.W.subIn K (.ref a) (.type "BaseException") = some true)
    (h5 : PySem.W.typeIn K (.ref a) = some (.type "type")) (h6 : PySem.W.isClsIn K a = true) (h7 : PySem.W.subIn K (.ref a) (.ref a) = some true) (h8 : PySem.W.findIn K (.ref a) "__getattribute__" = some (some (.builtin "BaseException.__getattribute__")))
    (h9 : PySem.W.findIn K (.ref a) "__getattr__" = some none) (h10 : PySem.W.hasDictIn K a = true) (h11 : PySem.W.findIn K (.ref a) "__class__" = some (some (.builtin "object.__class__")))
    (h12 : PySem.W.specialIn K (.builtin "object.__class__") "__get__" = some (some (.builtin "getset_descriptor.__get__"))) (h13 : PySem.W.takesIn K (.builtin "object.__class__") = some true) (h14 : PySem.W.mroIn K a (.type "object") = some true) : ClsK K mg x a :=
  ⟨PySem.W.mg_of X Gm h1, h2, h3, h4, h5, h6, h7, ⟨h8, h9, h4, h10, h11, h12, h13, h14⟩⟩
theorem exm_gen {x : Str} {a d : Addr} {b : Bool} (C : ClsK K mg x a) (h1 : PySem.W.subIn K (.ref d) (.ref a) = some b) : PySem.W.exmOne K (.ref d) (.ref a) = some b ∧ PySem.W.kitOne K (.ref d) (.ref a) = some b := by
  have e1 : (PySem.W.subIn K (.ref a) (.type "BaseException") == some true) = true := by rw [C.sub] <;> rfl
  have e2 : ((PySem.W.clsIn K a).isSome && PySem.W.typeIn K (.ref a) == some (.type "type")) = true := by
    have h2' : (PySem.W.clsIn K a).isSome = true := C.cls
    rw [h2', C.ty] <;> rfl
  have e3 : PySem.W.kitCls K (.ref d) (.ref a) = some b := by
    show (if ((PySem.W.clsIn K a).isSome && PySem.W.typeIn K (.ref a) == some (.type "type")) = true then PySem.W.subIn K (.ref d) (.ref a) else none) = some b
    rw [if_pos e2]
    exact h1
  refine ⟨?_, ?_⟩
  · show (if (PySem.W.subIn K (.ref a) (.type "BaseException") == some true) = true then PySem.W.kitCls K (.ref d) (.ref a) else none) = some b
    rw [if_pos e1]
    exact e3
  · show (if ((Value.ref d) == (Value.ref a)) = true then some true else PySem.W.kitCls K (.ref d) (.ref a)) = some b
    split
    · rename_i e
      have e := beq_iff_eq.mp e
      rw [e, C.self] at h1
      exact h1
    · exact e3
theorem clsF_of {x : Str} {c : Nat} {y : Nat → Str} (C : ClsK K mg x (ca c)) (hy : ∀ d ∈ T.caught c, ClsK K mg (y d) (ca d)) (h1 : ∀ d ∈ T.caught c, PySem.W.subIn K (.ref (ca d)) (.ref (ca c)) = some true) (h2 : ∀ d ∈ T.passed c, PySem.W.subIn K (.ref (ca d)) (.ref (ca c)) = some false) : ClsF K mg T ca x c :=
  ⟨C.g, C.keep, C.exc, C.sub, C.ty, fun d hd => (hy d hd).ex, fun d hd => (exm_gen C (h1 d hd)).2, fun d hd => (exm_gen C (h2 d hd)).2, fun d hd => (exm_gen C (h1 d hd)).1, fun d hd => (exm_gen C (h2 d hd)).1⟩
end
end MP

set_option Elab.async false
set_option linter.all false
/-! MPd: decimal texts. -/
namespace MP
/-- a natural number's decimal text -/
def dg (n : Nat) : List Nat := (Nat.toDigits 10 n).map Char.toNat
theorem dc (n : Nat) (h : n < 10) : n.digitChar.toNat = 48 + n := by
  match n, h with
  | 0, _ => rfl | 1, _ => rfl | 2, _ => rfl | 3, _ => rfl | 4, _ => rfl | 5, _ => rfl | 6, _ => rfl | 7, _ => rfl | 8, _ => rfl | 9, _ => rfl
  | n + 10, h => omega
theorem dg_lt {n : Nat} (h : n < 10) : dg n = [48 + n] := by
  unfold dg
  rw [Nat.toDigits_of_lt_base h, List.map_cons, List.map_nil, dc n h]
theorem dg_step {n d : Nat} (hn : 0 < n) (hd : d < 10) : dg (10 * n + d) = dg n ++ [48 + d] := by
  have := Nat.toDigits_append_toDigits (b := 10) (by decide) hn hd
  unfold dg
  rw [← this, List.map_append, Nat.toDigits_of_lt_base hd, List.map_cons, List.map_nil, dc d hd]
theorem dg_div {n : Nat} (h : 10 ≤ n) : dg n = dg (n / 10) ++ [48 + n % 10] := by
  have e := dg_step (n := n / 10) (d := n % 10) (by omega) (by omega)
  rw [Nat.div_add_mod] at e
  exact e
theorem decText_nat (n : Nat) : decText (n : Int) = dg n := by
  show ((Nat.repr n).toList.map Char.toNat) = _
  unfold Nat.repr
  rw [String.toList_ofList]
  rfl
theorem decText_neg (n : Nat) : decText (-((n + 1 : Nat) : Int)) = 45 :: dg (n + 1) := by
  show (("-" ++ Nat.repr (n + 1)).toList.map Char.toNat) = _
  unfold Nat.repr
  rw [String.toList_append, List.map_append]
  show [45] ++ List.map Char.toNat (String.ofList _).toList = _
  rw [String.toList_ofList]
  rfl
/-- the last k digits -/
def pad : Nat → Nat → List Nat
  | 0, _ => []
  | k + 1, n => pad k (n / 10) ++ [48 + n % 10]
theorem pad_len : ∀ k n, (pad k n).length = k
  | 0, _ => rfl
  | k + 1, n => by
    show (pad k (n / 10) ++ [48 + n % 10]).length = _
    rw [List.length_append, pad_len k]
    rfl
theorem dg_split : ∀ (k q r : Nat), 0 < q → r < 10 ^ k → dg (q * 10 ^ k + r) = dg q ++ pad k r
  | 0, q, r, hq, hr => by
    have : r = 0 := by simpa using hr
    subst this
    simp [pad]
  | k + 1, q, r, hq, hr => by
    have hp : 0 < 10 ^ k := Nat.pos_of_ne_zero (by simp)
    have e : q * 10 ^ (k + 1) + r = 10 * (q * 10 ^ k + r / 10) + r % 10 := by
      rw [Nat.pow_succ]
      have := Nat.div_add_mod r 10
      have e2 : q * (10 ^ k * 10) = 10 * (q * 10 ^ k) := by rw [← Nat.mul_assoc, Nat.mul_comm]
      omega
    rw [e, dg_step (by have := Nat.mul_pos hq hp; omega) (Nat.mod_lt _ (by decide)), dg_split k q (r / 10) hq (by rw [Nat.pow_succ] at hr; omega), List.append_assoc]
    rfl
theorem pad_zero : ∀ k, pad k 0 = List.replicate k 48
  | 0 => rfl
  | k + 1 => by
    show pad k 0 ++ [48] = _
    rw [pad_zero k, ← List.replicate_succ']
theorem dg_pos (n : Nat) : 0 < (dg n).length := by
  by_cases h : n < 10
  · rw [dg_lt h]; simp
  · rw [dg_div (by omega), List.length_append]; simp
theorem dg_len_le : ∀ (k n : Nat), 0 < k → n < 10 ^ k → (dg n).length ≤ k
  | 0, _, h, _ => by omega
  | k + 1, n, _, h => by
    by_cases h2 : n < 10
    · rw [dg_lt h2]; simp
    · have hk : 0 < k := by
        rcases Nat.eq_zero_or_pos k with e | e
        · subst e; simp at h; omega
        · exact e
      rw [dg_div (by omega), List.length_append, List.length_singleton]
      have := dg_len_le k (n / 10) hk (by rw [Nat.pow_succ] at h; omega)
      omega
theorem pad_zfill : ∀ (k n : Nat), 0 < k → n < 10 ^ k → pad k n = List.replicate (k - (dg n).length) 48 ++ dg n
  | 0, _, h, _ => by omega
  | k + 1, n, _, h => by
    show pad k (n / 10) ++ [48 + n % 10] = _
    by_cases h2 : n < 10
    · have e1 : n / 10 = 0 := by omega
      have e2 : n % 10 = n := by omega
      rw [dg_lt h2, e1, e2, pad_zero]
      rfl
    · have hk : 0 < k := by
        rcases Nat.eq_zero_or_pos k with e | e
        · subst e; simp at h; omega
        · exact e
      rw [dg_div (by omega), List.length_append, List.length_singleton, pad_zfill k (n / 10) hk (by rw [Nat.pow_succ] at h; omega), List.append_assoc, Nat.add_sub_add_right]
theorem dg_digit : ∀ (n : Nat), ∀ c ∈ dg n, 48 ≤ c ∧ c ≤ 57 := by
  intro n
  induction n using Nat.strongRecOn with
  | _ n ih =>
    intro c hc
    by_cases h : n < 10
    · rw [dg_lt h] at hc
      have : c = 48 + n := by simpa using hc
      omega
    · rw [dg_div (by omega)] at hc
      rcases List.mem_append.mp hc with z | z
      · exact ih _ (by omega) c z
      · have : c = 48 + n % 10 := by simpa using z
        omega
theorem dv_append (xs ys : List Nat) : digitsVal (xs ++ ys) = digitsVal xs * 10 ^ ys.length + digitsVal ys := by
  have key : ∀ (ys : List Nat) (a : Nat), ys.foldl (fun n c => n * 10 + (c - 48)) a = a * 10 ^ ys.length + ys.foldl (fun n c => n * 10 + (c - 48)) 0 := by
    intro ys
    induction ys with
    | nil => intro a; simp
    | cons y ys ih =>
      intro a
      rw [List.foldl_cons, ih, List.foldl_cons, ih (0 * 10 + (y - 48)), List.length_cons, Nat.pow_succ]
      have : (a * 10 + (y - 48)) * 10 ^ ys.length = a * (10 ^ ys.length * 10) + (y - 48) * 10 ^ ys.length := by
        rw [Nat.add_mul, Nat.mul_assoc, Nat.mul_comm 10]
      rw [this]
      simp
      omega
  unfold digitsVal
  rw [List.foldl_append, key ys]
theorem dv_dg : ∀ n, digitsVal (dg n) = n := by
  intro n
  induction n using Nat.strongRecOn with
  | _ n ih =>
    by_cases h : n < 10
    · rw [dg_lt h]
      show 0 * 10 + (48 + n - 48) = n
      omega
    · rw [dg_div (by omega), dv_append, ih _ (by omega)]
      show n / 10 * 10 ^ 1 + (0 * 10 + (48 + n % 10 - 48)) = n
      omega
/-- the first digit -/
theorem dg_head : ∀ n, 0 < n → (dg n).head? ≠ some 48 := by
  intro n
  induction n using Nat.strongRecOn with
  | _ n ih =>
    intro hn
    by_cases h : n < 10
    · rw [dg_lt h]
      intro e
      have : 48 + n = 48 := by simpa using e
      omega
    · rw [dg_div (by omega)]
      have := ih (n / 10) (by omega) (by omega)
      cases e : dg (n / 10) with
      | nil => have := dg_pos (n / 10); rw [e] at this; simp at this
      | cons x r => rw [e] at this; simpa using this
theorem dg_zero : dg 0 = [48] := rfl
theorem dv_lt : ∀ (s : List Nat), (∀ c ∈ s, 48 ≤ c ∧ c ≤ 57) → digitsVal s < 10 ^ s.length := by
  intro s
  induction s with
  | nil => intro _; decide
  | cons x xs ih =>
    intro h
    have h1 := ih fun c hc => h c (List.mem_cons_of_mem _ hc)
    have h2 := h x (by simp)
    have e := dv_append [x] xs
    rw [show [x] ++ xs = x :: xs from rfl] at e
    rw [e, List.length_cons, Nat.pow_succ]
    have e2 : digitsVal [x] = x - 48 := by
      show 0 * 10 + (x - 48) = _
      omega
    rw [e2]
    have hx : x - 48 ≤ 9 := by omega
    have := Nat.mul_le_mul_right (10 ^ xs.length) hx
    omega
end MP

set_option Elab.async false
set_option linter.all false
/-! MPs: the rules by which simp runs the trees. -/
namespace MP
section
variable {α β : Type} {C : Nat → List PV → Store → Res PV} {G : Nat → Option PV} {σ : Nv} {T : Store}
@[simp] theorem bind_ok (a : α) (S : Store) (f : α → Store → Res β) : (Res.ok a S).bind f = f a S := rfl
@[simp] theorem bind_exc (c : Nat) (S : Store) (f : α → Store → Res β) : (Res.exc c S).bind f = .exc c S := rfl
@[simp] theorem bindS_ok (a : α) (S : Store) (f : α → Store → ResS) : (Res.ok a S).bindS σ f = f a S := rfl
@[simp] theorem bindS_exc (c : Nat) (S : Store) (f : α → Store → ResS) : (Res.exc c S : Res α).bindS σ f = .ok (.exc c σ) S := rfl
@[simp] theorem ofOpt_some (a : α) (S : Store) : ofOpt (some a) S = .ok a S := rfl
@[simp] theorem sV_int (i : Int) : slotV (some (some (.int i))) = some (.int i) := rfl
@[simp] theorem sV_str (i : List Nat) : slotV (some (some (.str i))) = some (.str i) := rfl
@[simp] theorem sV_bl (i : Bool) : slotV (some (some (.bl i))) = some (.bl i) := rfl
@[simp] theorem sV_tup (i : List PV) : slotV (some (some (.tup i))) = some (.tup i) := rfl
@[simp] theorem sV_frz (i : List PV) : slotV (some (some (.frz i))) = some (.frz i) := rfl
@[simp] theorem sV_ref (i : Nat) : slotV (some (some (.ref i))) = some (.ref i) := rfl
@[simp] theorem sV_non : slotV (some (some .non)) = some .non := rfl
@[simp] theorem ev_lit (v : PV) : ev C G (.lit v) σ T = .ok v T := rfl
@[simp] theorem ev_var (i : Nat) : ev C G (.var i) σ T = ofOpt (slotV σ[i]?) T := rfl
@[simp] theorem ev_glob (g : Nat) : ev C G (.glob g) σ T = ofOpt (G g) T := by
  show (match G g with | some v => Res.ok v T | none => .bad) = _
  cases G g <;> rfl
@[simp] theorem ev_nil : ev C G .nil σ T = .ok (.tup []) T := rfl
@[simp] theorem ev_cons (e es : E) : ev C G (.cons e es) σ T = (ev C G e σ T).bind fun v T1 => (ev C G es σ T1).bind fun vs T2 => .ok (.tup (v :: asTup vs)) T2 := rfl
@[simp] theorem ev_tup (es : E) : ev C G (.tup es) σ T = (ev C G es σ T).bind fun vs T1 => if (asTup vs).length ≤ SZ then .ok (.tup (asTup vs)) T1 else .bad := rfl
@[simp] theorem ev_list (es : E) : ev C G (.list es) σ T = (ev C G es σ T).bind fun vs T1 => if (asTup vs).length ≤ SZ then allocM (.lst (asTup vs)) T1 else .bad := rfl
@[simp] theorem ev_bin (o : BinO) (a b : E) : ev C G (.bin o a b) σ T = (ev C G a σ T).bind fun x T1 => (ev C G b σ T1).bind fun y T2 => binOp o x y T2 := rfl
/-- - -/
def negV (x : PV) (T : Store) : Res PV := match x with
  | .int i => .ok (.int (-i)) T
  | _ => .bad
@[simp] theorem negV_int (i : Int) : negV (.int i) T = .ok (.int (-i)) T := rfl
@[simp] theorem ev_neg (a : E) : ev C G (.neg a) σ T = (ev C G a σ T).bind negV := by
  refine Res.bind_congr _ fun x T1 => ?_
  cases x <;> rfl
@[simp] theorem ev_not (a : E) : ev C G (.not a) σ T = (ev C G a σ T).bind fun x T1 => (ofOpt (truthM T1 x) T1).bind fun b T2 => .ok (.bl (!b)) T2 := rfl
@[simp] theorem ev_and (a b : E) : ev C G (.and a b) σ T = (ev C G a σ T).bind fun x T1 => (ofOpt (truthM T1 x) T1).bind fun t T2 => if t then ev C G b σ T2 else .ok x T2 := rfl
@[simp] theorem ev_or (a b : E) : ev C G (.or a b) σ T = (ev C G a σ T).bind fun x T1 => (ofOpt (truthM T1 x) T1).bind fun t T2 => if t then .ok x T2 else ev C G b σ T2 := rfl
@[simp] theorem ev_ite (c a b : E) : ev C G (.ite c a b) σ T = (ev C G c σ T).bind fun x T1 => (ofOpt (truthM T1 x) T1).bind fun t T2 => if t then ev C G a σ T2 else ev C G b σ T2 := rfl
@[simp] theorem ev_cmp (o : CmpO) (a b : E) : ev C G (.cmp o a b) σ T = (ev C G a σ T).bind fun x T1 => (ev C G b σ T1).bind fun y T2 => (ofOpt (cmpOp o x y T2) T2).bind fun t T3 => .ok (.bl t) T3 := rfl
@[simp] theorem ev_idx (a i : E) : ev C G (.idx a i) σ T = (ev C G a σ T).bind fun x T1 => (ev C G i σ T1).bind fun y T2 => ofOpt (idxOp x y T2) T2 := rfl
@[simp] theorem ev_slice (a lo hi : E) (pl ph : Bool) : ev C G (.slice a lo hi pl ph) σ T = (ev C G a σ T).bind fun x T1 => (ev C G lo σ T1).bind fun l T2 => if partOk pl l then (ev C G hi σ T2).bind fun h T3 => if partOk ph h then sliceOp pl ph x l h T3 else .bad else .bad := rfl
@[simp] theorem ev_rev (a : E) : ev C G (.rev a) σ T = (ev C G a σ T).bind fun x T1 => revOp x T1 := rfl
@[simp] theorem ev_isinst (a : E) (t : Tyq) : ev C G (.isinst a t) σ T = (ev C G a σ T).bind fun x T1 => (ofOpt (isInst x t) T1).bind fun b T2 => .ok (.bl b) T2 := rfl
@[simp] theorem ev_prim (p : Prim) (es : E) : ev C G (.prim p es) σ T = (ev C G es σ T).bind fun vs T1 => primOp p (asTup vs) T1 := rfl
@[simp] theorem ev_meth (m : Mth) (a es : E) : ev C G (.meth m a es) σ T = (ev C G a σ T).bind fun x T1 => if recvOk m x then (ev C G es σ T1).bind fun vs T2 => methOp m x (asTup vs) T2 else .bad := rfl
@[simp] theorem ev_call (f : Nat) (es : E) : ev C G (.call f es) σ T = (ev C G es σ T).bind fun vs T1 => C f (asTup vs) T1 := rfl
@[simp] theorem asTup_tup (xs : List PV) : asTup (.tup xs) = xs := rfl
@[simp] theorem evT_eq (e : E) : evT C G e σ T = (ev C G e σ T).bind fun x T1 => ofOpt (truthM T1 x) T1 := rfl
@[simp] theorem tr_non : truthM T .non = some false := rfl
@[simp] theorem tr_bl (b : Bool) : truthM T (.bl b) = some b := rfl
@[simp] theorem tr_int (i : Int) : truthM T (.int i) = some (i != 0) := rfl
@[simp] theorem tr_tup (xs : List PV) : truthM T (.tup xs) = some (!xs.isEmpty) := rfl
/-! statements -/
@[simp] theorem ex_skip : exS C G .skip σ T = .ok (.next σ) T := rfl
@[simp] theorem ex_seq (a b : S) : exS C G (.seq a b) σ T = seqS (exS C G a σ T) fun σ1 T1 => exS C G b σ1 T1 := rfl
@[simp] theorem seqS_next (σ : Nv) (T : Store) (f : Nv → Store → ResS) : seqS (.ok (.next σ) T) f = f σ T := rfl
@[simp] theorem seqS_ret (v : PV) (T : Store) (f : Nv → Store → ResS) : seqS (.ok (.ret v) T) f = .ok (.ret v) T := rfl
@[simp] theorem seqS_exc (c : Nat) (σ : Nv) (T : Store) (f : Nv → Store → ResS) : seqS (.ok (.exc c σ) T) f = .ok (.exc c σ) T := rfl
@[simp] theorem seqS_brk (σ : Nv) (T : Store) (f : Nv → Store → ResS) : seqS (.ok (.brk σ) T) f = .ok (.brk σ) T := rfl
@[simp] theorem ex_exp (e : E) : exS C G (.exp e) σ T = (ev C G e σ T).bindS σ fun _ T1 => .ok (.next σ) T1 := rfl
def nextO (o : Option Nv) (T : Store) : ResS := match o with
  | some σ1 => .ok (.next σ1) T
  | none => .bad
@[simp] theorem nextO_some (σ : Nv) : nextO (some σ) T = .ok (.next σ) T := rfl
@[simp] theorem ex_asg (tg : Tgt) (e : E) : exS C G (.asg tg e) σ T = (ev C G e σ T).bindS σ fun v T1 => nextO (bindT tg v σ) T1 := by
  show (ev C G e σ T).bindS σ _ = _
  congr 1
@[simp] theorem bT_nm (i : Nat) (v : PV) : bindT (.nm i) v σ = some (σ.set i (some v)) := rfl
@[simp] theorem bT_tp (is : List Nat) (xs : List PV) : bindT (.tp is) (.tup xs) σ = bindNames is xs σ := rfl
@[simp] theorem bN_nil : bindNames [] [] σ = some σ := rfl
@[simp] theorem bN_cons (i : Nat) (is : List Nat) (v : PV) (vs : List PV) : bindNames (i :: is) (v :: vs) σ = bindNames is vs (σ.set i (some v)) := rfl
@[simp] theorem ex_ret (e : E) : exS C G (.ret e) σ T = (ev C G e σ T).bindS σ fun v T1 => .ok (.ret v) T1 := rfl
@[simp] theorem ex_brk : exS C G .brk σ T = .ok (.brk σ) T := rfl
@[simp] theorem ex_cont : exS C G .cont σ T = .ok (.cont σ) T := rfl
@[simp] theorem ex_raise (c : Nat) : exS C G (.raise c) σ T = .ok (.exc c σ) T := rfl
@[simp] theorem ex_ite (c : E) (a b : S) : exS C G (.ite c a b) σ T = (evT C G c σ T).bindS σ fun t T1 => if t then exS C G a σ T1 else exS C G b σ T1 := rfl
def setR (σ : Nv) (o : Option Store) : ResS := match o with
  | some T => .ok (.next σ) T
  | none => .bad
@[simp] theorem setR_some : setR σ (some T) = .ok (.next σ) T := rfl
@[simp] theorem ex_setix (a i e : E) : exS C G (.setix a i e) σ T = (ev C G e σ T).bindS σ fun v T1 => (ev C G a σ T1).bindS σ fun x T2 => (ev C G i σ T2).bindS σ fun k T3 => setR σ (setOp x k v T3) := by
  show (ev C G e σ T).bindS σ _ = _
  congr 1
def augR (σ : Nv) (i : Nat) (o : BinO) (x : Option PV) (r : Res PV) : ResS := match x with
  | some x => r.bindS σ fun y T1 => nextO ((augOp o x y).map fun z => σ.set i (some z)) T1
  | none => .bad
def slotA : Option (Option PV) → Option PV
  | some (some v) => some v
  | _ => none
@[simp] theorem slotA_some (v : PV) : slotA (some (some v)) = some v := rfl
@[simp] theorem augR_some (i : Nat) (o : BinO) (x : PV) (r : Res PV) : augR σ i o (some x) r = r.bindS σ fun y T1 => nextO ((augOp o x y).map fun z => σ.set i (some z)) T1 := rfl
@[simp] theorem ex_aug (i : Nat) (o : BinO) (e : E) : exS C G (.aug i o e) σ T = augR σ i o (slotA σ[i]?) (ev C G e σ T) := by
  have h : exS C G (.aug i o e) σ T = match σ[i]? with
    | some (some x) => (ev C G e σ T).bindS σ fun y T1 => match augOp o x y with
      | some z => .ok (.next (σ.set i (some z))) T1
      | none => .bad
    | _ => .bad := rfl
  rw [h]
  cases e1 : σ[i]? with
  | none => rfl
  | some v =>
    cases v with
    | none => rfl
    | some v =>
      show (ev C G e σ T).bindS σ _ = (ev C G e σ T).bindS σ _
      congr 1
      funext y T1
      cases augOp o v y <;> rfl
@[simp] theorem ofB_ret (v : PV) : ofBody (.ok (.ret v) T) = .ok v T := rfl
@[simp] theorem ofB_next : ofBody (.ok (.next σ) T) = .ok .non T := rfl
@[simp] theorem ofB_exc (c : Nat) : ofBody (.ok (.exc c σ) T) = .exc c T := rfl
/-! operations -/
@[simp] theorem add_int (a b : Int) : binOp .add (.int a) (.int b) T = .ok (.int (a + b)) T := rfl
@[simp] theorem sub_int (a b : Int) : binOp .sub (.int a) (.int b) T = .ok (.int (a - b)) T := rfl
theorem mul_int (a b : Int) : binOp .mul (.int a) (.int b) T = if a.natAbs.log2 + b.natAbs.log2 < 1000000 then .ok (.int (a * b)) T else .bad := rfl
@[simp] theorem fdiv_int (a b : Int) : binOp .fdiv (.int a) (.int b) T = if 0 < b ∧ b.natAbs.log2 < 9000 then .ok (.int (a / b)) T else .bad := rfl
@[simp] theorem mod_int (a b : Int) : binOp .mod (.int a) (.int b) T = if 0 < b then .ok (.int (a % b)) T else .bad := rfl
@[simp] theorem pow_18 : binOp .pow (.int 10) (.int 18) T = .ok (.int 1000000000000000000) T := rfl
@[simp] theorem add_str (a b : List Nat) : binOp .add (.str a) (.str b) T = if a.length + b.length ≤ SZ then .ok (.str (a ++ b)) T else .bad := rfl
@[simp] theorem aug_add (a b : Int) : augOp .add (.int a) (.int b) = some (.int (a + b)) := rfl
@[simp] theorem eq_int (a b : Int) : cmpOp .eq (.int a) (.int b) T = some (a == b) := rfl
@[simp] theorem ne_int (a b : Int) : cmpOp .ne (.int a) (.int b) T = some (!(a == b)) := rfl
@[simp] theorem eq_str (a b : List Nat) : cmpOp .eq (.str a) (.str b) T = some (a == b) := rfl
@[simp] theorem ne_str (a b : List Nat) : cmpOp .ne (.str a) (.str b) T = some (!(a == b)) := rfl
@[simp] theorem lt_int (a b : Int) : cmpOp .lt (.int a) (.int b) T = some (decide (a < b)) := rfl
@[simp] theorem le_int (a b : Int) : cmpOp .le (.int a) (.int b) T = some (decide (a ≤ b)) := rfl
@[simp] theorem gt_int (a b : Int) : cmpOp .gt (.int a) (.int b) T = some (decide (b < a)) := rfl
@[simp] theorem ge_int (a b : Int) : cmpOp .ge (.int a) (.int b) T = some (decide (b ≤ a)) := rfl
@[simp] theorem lt_str (a b : List Nat) : cmpOp .lt (.str a) (.str b) T = some (decide (a < b)) := rfl
@[simp] theorem gt_str (a b : List Nat) : cmpOp .gt (.str a) (.str b) T = some (decide (b < a)) := rfl
@[simp] theorem in_str (c : Nat) (z : List Nat) : cmpOp .isin (.str [c]) (.str z) T = some (decide (c ∈ z)) := rfl
@[simp] theorem nin_str (c : Nat) (z : List Nat) : cmpOp .notin (.str [c]) (.str z) T = some (!decide (c ∈ z)) := rfl
@[simp] theorem it_tup (xs : List PV) : items T (.tup xs) = some xs := rfl
@[simp] theorem it_frz (xs : List PV) : items T (.frz xs) = some xs := rfl
def lstO : Option MO → Option (List PV)
  | some (.lst xs) => some xs
  | none => none
@[simp] theorem lstO_some (xs : List PV) : lstO (some (.lst xs)) = some xs := rfl
@[simp] theorem it_ref (n : Nat) : items T (.ref n) = lstO T[n]? := by
  show (match T[n]? with | some (.lst xs) => some xs | none => none) = _
  cases T[n]? with
  | none => rfl
  | some o => cases o; rfl
@[simp] theorem ix_str (s : List Nat) (k : Int) : idxOp (.str s) (.int k) T = if s.length ≤ SZ then (normI s.length k).bind fun j => (s[j]?).map fun c => .str [c] else none := rfl
@[simp] theorem ix_tup (s : List PV) (k : Int) : idxOp (.tup s) (.int k) T = (normI s.length k).bind fun j => s[j]? := rfl
@[simp] theorem ix_ref (n : Nat) (k : Int) : idxOp (.ref n) (.int k) T = (lstO T[n]?).bind fun xs => (normI xs.length k).bind fun j => xs[j]? := by
  show (items T (.ref n)).bind _ = _
  rw [it_ref]
def lenR (o : Option (List PV)) (S : Store) : Res PV := match o with
  | some xs => .ok (.int xs.length) S
  | none => .bad
@[simp] theorem lenR_some (xs : List PV) : lenR (some xs) T = .ok (.int xs.length) T := rfl
@[simp] theorem len_str (s : List Nat) : primOp .len [.str s] T = if s.length ≤ SZ then .ok (.int s.length) T else .bad := rfl
@[simp] theorem len_tup (s : List PV) : primOp .len [.tup s] T = .ok (.int s.length) T := rfl
@[simp] theorem len_ref (n : Nat) : primOp .len [.ref n] T = lenR (lstO T[n]?) T := by
  show (match items T (.ref n) with | some xs => Res.ok (PV.int xs.length) T | none => .bad) = _
  rw [it_ref]
  rfl
@[simp] theorem p_abs (i : Int) : primOp .abs [.int i] T = .ok (.int (if i < 0 then -i else i)) T := rfl
@[simp] theorem p_int (i : Int) : primOp .int [.int i] T = .ok (.int i) T := rfl
@[simp] theorem p_ints (s : List Nat) : primOp .int [.str s] T = if s ≠ [] ∧ s.length ≤ 640 ∧ s.all isDig = true then .ok (.int (digitsVal s)) T else .bad := rfl
@[simp] theorem p_str (i : Int) : primOp .str [.int i] T = if i.natAbs.log2 < 1920 then .ok (.str (decText i)) T else .bad := rfl
@[simp] theorem p_ord (c : Nat) : primOp .ord [.str [c]] T = .ok (.int c) T := rfl
@[simp] theorem p_divmod (a b : Int) : primOp .divmod [.int a, .int b] T = if 0 < b ∧ a.natAbs.log2 < 4000 then .ok (.tup [.int (a / b), .int (a % b)]) T else .bad := rfl
def tupR (o : Option (List PV)) (S : Store) : Res PV := match o with
  | some xs => .ok (.tup xs) S
  | none => .bad
@[simp] theorem tupR_some (xs : List PV) : tupR (some xs) T = .ok (.tup xs) T := rfl
@[simp] theorem p_tuple (n : Nat) : primOp .tuple [.ref n] T = tupR (lstO T[n]?) T := by
  show (match T[n]? with | some (.lst xs) => Res.ok (PV.tup xs) T | none => .bad) = _
  cases T[n]? with
  | none => rfl
  | some o => cases o; rfl
@[simp] theorem p_list_frz (xs : List PV) : primOp .list [.frz xs] T = .ok (.ref T.length) (T ++ [.lst xs]) := rfl
@[simp] theorem alloc_eq (o : MO) : allocM o T = .ok (.ref T.length) (T ++ [o]) := rfl
def setI (o : Option (List PV)) (n : Nat) (k : Int) (v : PV) (T : Store) : Option Store := o.bind fun xs => (normI xs.length k).map fun j => T.set n (.lst (xs.set j v))
@[simp] theorem set_ref (n : Nat) (k : Int) (v : PV) : setOp (.ref n) (.int k) v T = (lstO T[n]?).bind fun xs => (normI xs.length k).map fun j => T.set n (.lst (xs.set j v)) := by
  show (match T[n]? with | some (.lst xs) => (normI xs.length k).map fun j => T.set n (.lst (xs.set j v)) | none => none) = _
  cases T[n]? with
  | none => rfl
  | some o => cases o; rfl
def appR (o : Option (List PV)) (n : Nat) (v : PV) (T : Store) : Res PV := match o with
  | some xs => if xs.length < SZ then .ok .non (T.set n (.lst (xs ++ [v]))) else .bad
  | none => .bad
@[simp] theorem appR_some (xs : List PV) (n : Nat) (v : PV) : appR (some xs) n v T = if xs.length < SZ then .ok .non (T.set n (.lst (xs ++ [v]))) else .bad := rfl
@[simp] theorem m_append (n : Nat) (v : PV) : methOp .append (.ref n) [v] T = appR (lstO T[n]?) n v T := by
  show (match T[n]? with | some (.lst xs) => if xs.length < SZ then Res.ok PV.non (T.set n (.lst (xs ++ [v]))) else .bad | none => .bad) = _
  cases T[n]? with
  | none => rfl
  | some o => cases o; rfl
def popR (o : Option (List PV)) (n : Nat) (T : Store) : Res PV := match o with
  | some xs => match xs.getLast? with
    | some v => .ok v (T.set n (.lst xs.dropLast))
    | none => .bad
  | none => .bad
@[simp] theorem m_pop (n : Nat) : methOp .pop (.ref n) [] T = popR (lstO T[n]?) n T := by
  show (match T[n]? with | some (.lst xs) => (match xs.getLast? with | some v => Res.ok v (T.set n (.lst xs.dropLast)) | none => .bad) | none => .bad) = _
  cases T[n]? with
  | none => rfl
  | some o => cases o; rfl
def joinR (sep : List Nat) (o : Option (List PV)) (S : Store) : Res PV := match o with
  | some xs => match strsOf xs with
      | some ss => if ((ss.map (·.length)).sum + ss.length * sep.length) ≤ SZ then .ok (.str (joinT sep ss)) S else .bad
      | none => .bad
  | none => .bad
@[simp] theorem m_join (sep : List Nat) (n : Nat) : methOp .join (.str sep) [.ref n] T = joinR sep (lstO T[n]?) T := by
  cases e : T[n]? with
  | none => simp [methOp, joinR, e, lstO]
  | some o => cases o; simp [methOp, joinR, e, lstO] <;> (cases strsOf _ <;> rfl)
@[simp] theorem m_find (s : List Nat) (c : Nat) (k : Int) : methOp .find (.str s) [.str [c], .int k] T = if 0 ≤ k ∧ k < 4611686018427387904 ∧ s.length ≤ SZ then .ok (.int (findI c s k)) T else .bad := rfl
@[simp] theorem ro_append (n : Nat) : recvOk .append (.ref n) = true := rfl
@[simp] theorem ro_pop (n : Nat) : recvOk .pop (.ref n) = true := rfl
@[simp] theorem ro_join (s : List Nat) : recvOk .join (.str s) = true := rfl
@[simp] theorem ro_zfill (s : List Nat) : recvOk .zfill (.str s) = true := rfl
@[simp] theorem ro_find (s : List Nat) : recvOk .find (.str s) = true := rfl
def revR (o : Option (List PV)) (S : Store) : Res PV := match o with
  | some xs => .ok (.ref S.length) (S ++ [.lst xs.reverse])
  | none => .bad
@[simp] theorem revR_some (xs : List PV) : revR (some xs) T = .ok (.ref T.length) (T ++ [.lst xs.reverse]) := rfl
@[simp] theorem rev_ref (n : Nat) : revOp (.ref n) T = revR (lstO T[n]?) T := by
  show (match T[n]? with | some (.lst xs) => allocM (.lst xs.reverse) T | none => .bad) = _
  cases T[n]? with
  | none => rfl
  | some o => cases o; rfl
@[simp] theorem po_f (x : PV) : partOk false x = true := rfl
@[simp] theorem po_t (x : Int) : partOk true (.int x) = true := rfl
/-! the store's end -/
@[simp] theorem get_last (x : MO) : (T ++ [x])[T.length]? = some x := by simp
@[simp] theorem set_last (x y : MO) : (T ++ [x]).set T.length y = T ++ [y] := by simp
@[simp] theorem n40 : normI 4 0 = some 0 := rfl
@[simp] theorem n41 : normI 4 1 = some 1 := rfl
@[simp] theorem n42 : normI 4 2 = some 2 := rfl
@[simp] theorem n43 : normI 4 3 = some 3 := rfl
theorem norm_in {n : Nat} {i : Int} (h0 : 0 ≤ i) (h1 : i < n) : normI n i = some i.toNat := by
  unfold normI
  rw [if_pos h0, if_pos h1]
theorem slice_from1 (s : List Nat) : sliceOp true false (.str s) (.int 1) .non T = if s.length ≤ SZ then .ok (.str (s.drop 1)) T else .bad := by
  show (if s.length ≤ SZ then Res.ok (PV.str (cut s (min 1 s.length) s.length)) T else .bad) = _
  have : cut s (min 1 s.length) s.length = s.drop 1 := by
    unfold cut
    cases s with
    | nil => rfl
    | cons a r =>
      have e : min 1 (a :: r).length = 1 := by rw [List.length_cons]; omega
      rw [e, List.take_of_length_le]
      simp
  rw [this]
theorem seq_next {a b : S} {σ1 : Nv} {T1 : Store} (h : exS C G a σ T = .ok (.next σ1) T1) : exS C G (.seq a b) σ T = exS C G b σ1 T1 := by
  rw [ex_seq, h, seqS_next]
theorem seq_ret {a b : S} {v : PV} {T1 : Store} (h : exS C G a σ T = .ok (.ret v) T1) : exS C G (.seq a b) σ T = .ok (.ret v) T1 := by
  rw [ex_seq, h, seqS_ret]
theorem seq_exc {a b : S} {c : Nat} {σ1 : Nv} {T1 : Store} (h : exS C G a σ T = .ok (.exc c σ1) T1) : exS C G (.seq a b) σ T = .ok (.exc c σ1) T1 := by
  rw [ex_seq, h, seqS_exc]
/-! loops -/
def loopO (o : Option Wk) (tg : Tgt) (b : Nv → Store → ResS) (σ : Nv) (T : Store) : ResS := match o with
  | some w => iterL w tg b FU 0 σ T
  | none => .bad
theorem loopO_some (w : Wk) (tg : Tgt) (b : Nv → Store → ResS) : loopO (some w) tg b σ T = iterL w tg b FU 0 σ T := rfl
@[simp] theorem ex_loop (tg : Tgt) (k : ItK) (it : E) (b : S) : exS C G (.loop tg k it b) σ T = (ev C G it σ T).bindS σ fun vs T1 => loopO (walkOf k (asTup vs)) tg (exS C G b) σ T1 := rfl
theorem loop_is {tg : Tgt} {k : ItK} {it : E} {b : S} {vs : List PV} {w : Wk} {r : ResS} {T1 : Store} (h1 : ev C G it σ T = .ok (.tup vs) T1) (h2 : walkOf k vs = some w) (h3 : loopO (some w) tg (exS C G b) σ T1 = r) : exS C G (.loop tg k it b) σ T = r := by
  rw [ex_loop, h1, bindS_ok, asTup_tup, h2, h3]
/-- a loop by its turns, from a fuel that suffices -/
theorem loop_by {w : Wk} {tg : Tgt} {b : Nv → Store → ResS} {r : ResS} (m : Nat) (hm : m ≤ 1099511627776) (h : ∀ n, m ≤ n → iterL w tg b n 0 σ T = r) : loopO (some w) tg b σ T = r := (loopO_some w tg b).trans (h FU hm)
def whileO (c : Nv → Store → Res Bool) (b : Nv → Store → ResS) (σ : Nv) (T : Store) : ResS := whileL c b FU σ T
theorem while_by {c : Nv → Store → Res Bool} {b : Nv → Store → ResS} {r : ResS} (m : Nat) (hm : m ≤ 1099511627776) (h : ∀ n, m ≤ n → whileL c b n σ T = r) : whileO c b σ T = r := h FU hm
@[simp] theorem ex_whl (c : E) (b : S) : exS C G (.whl c b) σ T = whileO (evT C G c) (exS C G b) σ T := rfl
theorem iterL_eq (w : Wk) (tg : Tgt) (b : Nv → Store → ResS) (n i : Nat) : iterL w tg b (n + 1) i σ T = match w.at i T with
    | none => .bad
    | some none => .ok (.next σ) T
    | some (some v) => match bindT tg v σ with
      | none => .bad
      | some σ1 => match b σ1 T with
        | .ok (.next σ2) T2 => iterL w tg b n (i + 1) σ2 T2
        | .ok (.cont σ2) T2 => iterL w tg b n (i + 1) σ2 T2
        | .ok (.brk σ2) T2 => .ok (.next σ2) T2
        | .ok (.ret v) T2 => .ok (.ret v) T2
        | .ok (.exc c σ2) T2 => .ok (.exc c σ2) T2
        | .bad => .bad := rfl
/-- a turn that goes on -/
theorem iterL_next {w : Wk} {x : Nat} {v : PV} {b : Nv → Store → ResS} {n i : Nat} {σ2 : Nv} {T2 : Store} (h1 : w.at i T = some (some v)) (h2 : b (σ.set x (some v)) T = .ok (.next σ2) T2) : iterL w (.nm x) b (n + 1) i σ T = iterL w (.nm x) b n (i + 1) σ2 T2 := by
  rw [iterL_eq, h1]
  show (match b (σ.set x (some v)) T with
        | .ok (.next σ2) T2 => iterL w (.nm x) b n (i + 1) σ2 T2
        | .ok (.cont σ2) T2 => iterL w (.nm x) b n (i + 1) σ2 T2
        | .ok (.brk σ2) T2 => .ok (.next σ2) T2
        | .ok (.ret v) T2 => .ok (.ret v) T2
        | .ok (.exc c σ2) T2 => .ok (.exc c σ2) T2
        | .bad => .bad) = _
  rw [h2]
theorem iterL_brk {w : Wk} {x : Nat} {v : PV} {b : Nv → Store → ResS} {n i : Nat} {σ2 : Nv} {T2 : Store} (h1 : w.at i T = some (some v)) (h2 : b (σ.set x (some v)) T = .ok (.brk σ2) T2) : iterL w (.nm x) b (n + 1) i σ T = .ok (.next σ2) T2 := by
  rw [iterL_eq, h1]
  show (match b (σ.set x (some v)) T with
        | .ok (.next σ2) T2 => iterL w (.nm x) b n (i + 1) σ2 T2
        | .ok (.cont σ2) T2 => iterL w (.nm x) b n (i + 1) σ2 T2
        | .ok (.brk σ2) T2 => .ok (.next σ2) T2
        | .ok (.ret v) T2 => .ok (.ret v) T2
        | .ok (.exc c σ2) T2 => .ok (.exc c σ2) T2
        | .bad => .bad) = _
  rw [h2]
theorem iterL_ret {w : Wk} {x : Nat} {v u : PV} {b : Nv → Store → ResS} {n i : Nat} {T2 : Store} (h1 : w.at i T = some (some v)) (h2 : b (σ.set x (some v)) T = .ok (.ret u) T2) : iterL w (.nm x) b (n + 1) i σ T = .ok (.ret u) T2 := by
  rw [iterL_eq, h1]
  show (match b (σ.set x (some v)) T with
        | .ok (.next σ2) T2 => iterL w (.nm x) b n (i + 1) σ2 T2
        | .ok (.cont σ2) T2 => iterL w (.nm x) b n (i + 1) σ2 T2
        | .ok (.brk σ2) T2 => .ok (.next σ2) T2
        | .ok (.ret v) T2 => .ok (.ret v) T2
        | .ok (.exc c σ2) T2 => .ok (.exc c σ2) T2
        | .bad => .bad) = _
  rw [h2]
theorem iterL_exc {w : Wk} {x c : Nat} {v : PV} {b : Nv → Store → ResS} {n i : Nat} {σ2 : Nv} {T2 : Store} (h1 : w.at i T = some (some v)) (h2 : b (σ.set x (some v)) T = .ok (.exc c σ2) T2) : iterL w (.nm x) b (n + 1) i σ T = .ok (.exc c σ2) T2 := by
  rw [iterL_eq, h1]
  show (match b (σ.set x (some v)) T with
        | .ok (.next σ2) T2 => iterL w (.nm x) b n (i + 1) σ2 T2
        | .ok (.cont σ2) T2 => iterL w (.nm x) b n (i + 1) σ2 T2
        | .ok (.brk σ2) T2 => .ok (.next σ2) T2
        | .ok (.ret v) T2 => .ok (.ret v) T2
        | .ok (.exc c σ2) T2 => .ok (.exc c σ2) T2
        | .bad => .bad) = _
  rw [h2]
theorem iterL_end {w : Wk} {tg : Tgt} {b : Nv → Store → ResS} {n i : Nat} (h1 : w.at i T = some none) : iterL w tg b (n + 1) i σ T = .ok (.next σ) T := by
  rw [iterL_eq, h1]
theorem whileL_eq (c : Nv → Store → Res Bool) (b : Nv → Store → ResS) (n : Nat) : whileL c b (n + 1) σ T = (c σ T).bindS σ fun t T1 =>
    if t then match b σ T1 with
      | .ok (.next σ2) T2 => whileL c b n σ2 T2
      | .ok (.cont σ2) T2 => whileL c b n σ2 T2
      | .ok (.brk σ2) T2 => .ok (.next σ2) T2
      | .ok (.ret v) T2 => .ok (.ret v) T2
      | .ok (.exc c σ2) T2 => .ok (.exc c σ2) T2
      | .bad => .bad
    else .ok (.next σ) T1 := rfl
theorem whileL_end {c : Nv → Store → Res Bool} {b : Nv → Store → ResS} {n : Nat} {T1 : Store} (h : c σ T = .ok false T1) : whileL c b (n + 1) σ T = .ok (.next σ) T1 := by
  rw [whileL_eq, h]
  rfl
theorem whileL_next {c : Nv → Store → Res Bool} {b : Nv → Store → ResS} {n : Nat} {T1 T2 : Store} {σ2 : Nv} (h : c σ T = .ok true T1) (h2 : b σ T1 = .ok (.next σ2) T2) : whileL c b (n + 1) σ T = whileL c b n σ2 T2 := by
  rw [whileL_eq, h]
  show (match b σ T1 with
      | .ok (.next σ2) T2 => whileL c b n σ2 T2
      | .ok (.cont σ2) T2 => whileL c b n σ2 T2
      | .ok (.brk σ2) T2 => .ok (.next σ2) T2
      | .ok (.ret v) T2 => .ok (.ret v) T2
      | .ok (.exc c σ2) T2 => .ok (.exc c σ2) T2
      | .bad => .bad) = _
  rw [h2]
theorem whileL_exc {c : Nv → Store → Res Bool} {b : Nv → Store → ResS} {n x : Nat} {T1 T2 : Store} {σ2 : Nv} (h : c σ T = .ok true T1) (h2 : b σ T1 = .ok (.exc x σ2) T2) : whileL c b (n + 1) σ T = .ok (.exc x σ2) T2 := by
  rw [whileL_eq, h]
  show (match b σ T1 with
      | .ok (.next σ2) T2 => whileL c b n σ2 T2
      | .ok (.cont σ2) T2 => whileL c b n σ2 T2
      | .ok (.brk σ2) T2 => .ok (.next σ2) T2
      | .ok (.ret v) T2 => .ok (.ret v) T2
      | .ok (.exc c σ2) T2 => .ok (.exc c σ2) T2
      | .bad => .bad) = _
  rw [h2]
/-! small numbers -/
theorem log2_lt_of {a n : Nat} (h : a < 2 ^ n) (hn : 0 < n) : a.log2 < n := by
  by_cases e : a = 0
  · subst e; simpa using hn
  · exact (Nat.log2_lt e).mpr h
end
end MP

set_option Elab.async false
set_option linter.all false
set_option maxRecDepth 100000
/-! the law's trees -/
namespace MP.K00
open MP
def t0 : MP.S := S.seq (S.ite (E.cmp (CmpO.lt) (E.var 0) (E.lit (PV.int 0))) (S.seq (S.ret (E.bin (BinO.add) (E.lit (PV.str [45])) (E.call 0 (E.cons (E.neg (E.var 0)) (E.nil))))) (S.skip)) (S.skip)) (S.seq (S.asg (Tgt.nm 1) (E.list (E.nil))) (S.seq (S.whl (E.cmp (CmpO.ge) (E.var 0) (E.glob 0)) (S.seq (S.asg (Tgt.tp [0, 2]) (E.prim (Prim.divmod) (E.cons (E.var 0) (E.cons (E.glob 0) (E.nil))))) (S.seq (S.exp (E.meth (Mth.append) (E.var 1) (E.cons (E.meth (Mth.zfill) (E.prim (Prim.str) (E.cons (E.var 2) (E.nil))) (E.cons (E.lit (PV.int 64)) (E.nil))) (E.nil)))) (S.skip)))) (S.seq (S.exp (E.meth (Mth.append) (E.var 1) (E.cons (E.prim (Prim.str) (E.cons (E.var 0) (E.nil))) (E.nil)))) (S.seq (S.ret (E.meth (Mth.join) (E.lit (PV.str [])) (E.cons (E.rev (E.var 1)) (E.nil)))) (S.skip))))) 
def t1 : MP.S := S.seq (S.asg (Tgt.nm 1) (E.var 0)) (S.seq (S.ite (E.cmp (CmpO.eq) (E.slice (E.var 0) (E.lit (PV.non)) (E.lit (PV.int 1)) false true) (E.lit (PV.str [45]))) (S.seq (S.asg (Tgt.nm 1) (E.slice (E.var 0) (E.lit (PV.int 1)) (E.lit (PV.non)) true false)) (S.skip)) (S.skip)) (S.seq (S.ite (E.or (E.cmp (CmpO.eq) (E.var 1) (E.lit (PV.str []))) (E.and (E.cmp (CmpO.eq) (E.idx (E.var 1) (E.lit (PV.int 0))) (E.lit (PV.str [48]))) (E.cmp (CmpO.ne) (E.var 0) (E.lit (PV.str [48]))))) (S.seq (S.raise 1) (S.skip)) (S.skip)) (S.seq (S.loop (Tgt.nm 2) (ItK.plain) (E.cons (E.var 1) (E.nil)) (S.seq (S.ite (E.cmp (CmpO.notin) (E.var 2) (E.glob 1)) (S.seq (S.raise 1) (S.skip)) (S.skip)) (S.skip))) (S.seq (S.asg (Tgt.nm 3) (E.bin (BinO.mod) (E.prim (Prim.len) (E.cons (E.var 1) (E.nil))) (E.lit (PV.int 64)))) (S.seq (S.asg (Tgt.nm 4) (E.lit (PV.int 0))) (S.seq (S.ite (E.cmp (CmpO.gt) (E.var 3) (E.lit (PV.int 0))) (S.seq (S.asg (Tgt.nm 4) (E.prim (Prim.int) (E.cons (E.slice (E.var 1) (E.lit (PV.non)) (E.var 3) false true) (E.nil)))) (S.skip)) (S.skip)) (S.seq (S.loop (Tgt.nm 5) (ItK.range) (E.cons (E.var 3) (E.cons (E.prim (Prim.len) (E.cons (E.var 1) (E.nil))) (E.cons (E.lit (PV.int 64)) (E.nil)))) (S.seq (S.asg (Tgt.nm 4) (E.bin (BinO.add) (E.bin (BinO.mul) (E.var 4) (E.glob 0)) (E.prim (Prim.int) (E.cons (E.slice (E.var 1) (E.var 5) (E.bin (BinO.add) (E.var 5) (E.lit (PV.int 64))) true true) (E.nil))))) (S.skip))) (S.seq (S.ite (E.cmp (CmpO.eq) (E.idx (E.var 0) (E.lit (PV.int 0))) (E.lit (PV.str [45]))) (S.seq (S.ret (E.neg (E.var 4))) (S.skip)) (S.skip)) (S.seq (S.ret (E.var 4)) (S.skip)))))))))) 
def t2 : MP.S := S.seq (S.ite (E.isinst (E.var 0) (Tyq.tuple)) (S.seq (S.ret (E.bin (BinO.add) (E.bin (BinO.add) (E.lit (PV.str [40])) (E.meth (Mth.join) (E.lit (PV.str [44, 32])) (E.cons (E.comp (Tgt.nm 2) [1, 2] (ItK.plain) (E.cons (E.var 0) (E.nil)) (E.lit (PV.bl true)) (E.call 2 (E.cons (E.var 2) (E.nil)))) (E.nil)))) (E.lit (PV.str [41])))) (S.skip)) (S.skip)) (S.seq (S.ite (E.isinst (E.var 0) (Tyq.str)) (S.seq (S.ret (E.bin (BinO.add) (E.bin (BinO.add) (E.lit (PV.str [39])) (E.var 0)) (E.lit (PV.str [39])))) (S.skip)) (S.skip)) (S.seq (S.ret (E.call 0 (E.cons (E.var 0) (E.nil)))) (S.skip))) 
def t3 : MP.S := S.seq (S.loop (Tgt.nm 1) (ItK.plain) (E.cons (E.var 0) (E.nil)) (S.seq (S.ite (E.or (E.cmp (CmpO.lt) (E.var 1) (E.lit (PV.str [32]))) (E.or (E.cmp (CmpO.gt) (E.var 1) (E.lit (PV.str [126]))) (E.or (E.cmp (CmpO.eq) (E.var 1) (E.lit (PV.str [39]))) (E.cmp (CmpO.eq) (E.prim (Prim.ord) (E.cons (E.var 1) (E.nil))) (E.lit (PV.int 37)))))) (S.seq (S.ret (E.lit (PV.bl false))) (S.skip)) (S.skip)) (S.skip))) (S.seq (S.ret (E.lit (PV.bl true))) (S.skip)) 
def t4 : MP.S := S.seq (S.ite (E.cmp (CmpO.eq) (E.idx (E.var 0) (E.var 1)) (E.lit (PV.str [39]))) (S.seq (S.asg (Tgt.nm 2) (E.meth (Mth.find) (E.var 0) (E.cons (E.lit (PV.str [39])) (E.cons (E.bin (BinO.add) (E.var 1) (E.lit (PV.int 1))) (E.nil))))) (S.seq (S.ite (E.or (E.cmp (CmpO.lt) (E.var 2) (E.lit (PV.int 0))) (E.not (E.call 3 (E.cons (E.slice (E.var 0) (E.bin (BinO.add) (E.var 1) (E.lit (PV.int 1))) (E.var 2) true true) (E.nil))))) (S.seq (S.raise 1) (S.skip)) (S.skip)) (S.seq (S.ret (E.tup (E.cons (E.slice (E.var 0) (E.bin (BinO.add) (E.var 1) (E.lit (PV.int 1))) (E.var 2) true true) (E.cons (E.bin (BinO.add) (E.var 2) (E.lit (PV.int 1))) (E.nil))))) (S.skip)))) (S.skip)) (S.seq (S.asg (Tgt.nm 2) (E.var 1)) (S.seq (S.whl (E.and (E.cmp (CmpO.lt) (E.var 2) (E.prim (Prim.len) (E.cons (E.var 0) (E.nil)))) (E.cmp (CmpO.isin) (E.idx (E.var 0) (E.var 2)) (E.glob 3))) (S.seq (S.aug 2 (BinO.add) (E.lit (PV.int 1))) (S.skip))) (S.seq (S.ret (E.tup (E.cons (E.call 1 (E.cons (E.slice (E.var 0) (E.var 1) (E.var 2) true true) (E.nil))) (E.cons (E.var 2) (E.nil))))) (S.skip)))) 
def t5 : MP.S := S.seq (S.asg (Tgt.nm 1) (E.list (E.cons (E.list (E.nil)) (E.nil)))) (S.seq (S.asg (Tgt.nm 2) (E.lit (PV.int 0))) (S.seq (S.asg (Tgt.nm 3) (E.lit (PV.bl true))) (S.seq (S.whl (E.cmp (CmpO.lt) (E.var 2) (E.prim (Prim.len) (E.cons (E.var 0) (E.nil)))) (S.seq (S.ite (E.and (E.var 3) (E.and (E.cmp (CmpO.eq) (E.idx (E.var 0) (E.var 2)) (E.lit (PV.str [40]))) (E.cmp (CmpO.le) (E.prim (Prim.len) (E.cons (E.var 1) (E.nil))) (E.glob 2)))) (S.seq (S.exp (E.meth (Mth.append) (E.var 1) (E.cons (E.list (E.nil)) (E.nil)))) (S.seq (S.aug 2 (BinO.add) (E.lit (PV.int 1))) (S.skip))) (S.seq (S.ite (E.and (E.cmp (CmpO.eq) (E.idx (E.var 0) (E.var 2)) (E.lit (PV.str [41]))) (E.and (E.cmp (CmpO.gt) (E.prim (Prim.len) (E.cons (E.var 1) (E.nil))) (E.lit (PV.int 1))) (E.or (E.not (E.var 3)) (E.cmp (CmpO.eq) (E.idx (E.var 0) (E.bin (BinO.sub) (E.var 2) (E.lit (PV.int 1)))) (E.lit (PV.str [40])))))) (S.seq (S.asg (Tgt.nm 4) (E.prim (Prim.tuple) (E.cons (E.meth (Mth.pop) (E.var 1) (E.nil)) (E.nil)))) (S.seq (S.exp (E.meth (Mth.append) (E.idx (E.var 1) (E.neg (E.lit (PV.int 1)))) (E.cons (E.var 4) (E.nil)))) (S.seq (S.aug 2 (BinO.add) (E.lit (PV.int 1))) (S.seq (S.asg (Tgt.nm 3) (E.lit (PV.bl false))) (S.skip))))) (S.seq (S.ite (E.and (E.not (E.var 3)) (E.and (E.cmp (CmpO.gt) (E.prim (Prim.len) (E.cons (E.var 1) (E.nil))) (E.lit (PV.int 1))) (E.cmp (CmpO.eq) (E.slice (E.var 0) (E.var 2) (E.bin (BinO.add) (E.var 2) (E.lit (PV.int 2))) true true) (E.lit (PV.str [44, 32]))))) (S.seq (S.aug 2 (BinO.add) (E.lit (PV.int 2))) (S.seq (S.asg (Tgt.nm 3) (E.lit (PV.bl true))) (S.skip))) (S.seq (S.ite (E.and (E.var 3) (E.cmp (CmpO.ne) (E.idx (E.var 0) (E.var 2)) (E.lit (PV.str [40])))) (S.seq (S.asg (Tgt.tp [5, 2]) (E.call 4 (E.cons (E.var 0) (E.cons (E.var 2) (E.nil))))) (S.seq (S.exp (E.meth (Mth.append) (E.idx (E.var 1) (E.neg (E.lit (PV.int 1)))) (E.cons (E.var 5) (E.nil)))) (S.seq (S.asg (Tgt.nm 3) (E.lit (PV.bl false))) (S.skip)))) (S.seq (S.raise 1) (S.skip))) (S.skip))) (S.skip))) (S.skip))) (S.skip))) (S.seq (S.ite (E.or (E.cmp (CmpO.ne) (E.prim (Prim.len) (E.cons (E.var 1) (E.nil))) (E.lit (PV.int 1))) (E.cmp (CmpO.ne) (E.prim (Prim.len) (E.cons (E.idx (E.var 1) (E.lit (PV.int 0))) (E.nil))) (E.lit (PV.int 1)))) (S.seq (S.raise 1) (S.skip)) (S.skip)) (S.seq (S.ret (E.idx (E.idx (E.var 1) (E.lit (PV.int 0))) (E.lit (PV.int 0)))) (S.skip)))))) 
def t6 : MP.S := S.seq (S.ret (E.list (E.cons (E.prim (Prim.list) (E.cons (E.var 0) (E.nil))) (E.cons (E.lit (PV.int 0)) (E.cons (E.lit (PV.int 0)) (E.cons (E.lit (PV.int 0)) (E.nil))))))) (S.skip) 
def t7 : MP.S := S.seq (S.setix (E.var 0) (E.lit (PV.int 3)) (E.bin (BinO.add) (E.idx (E.var 0) (E.lit (PV.int 3))) (E.lit (PV.int 1)))) (S.seq (S.ite (E.cmp (CmpO.gt) (E.idx (E.var 0) (E.lit (PV.int 2))) (E.lit (PV.int 0))) (S.seq (S.asg (Tgt.nm 2) (E.bin (BinO.mod) (E.prim (Prim.int) (E.cons (E.idx (E.var 0) (E.lit (PV.int 2))) (E.nil))) (E.var 1))) (S.seq (S.setix (E.var 0) (E.lit (PV.int 2)) (E.bin (BinO.fdiv) (E.idx (E.var 0) (E.lit (PV.int 2))) (E.var 1))) (S.seq (S.ret (E.var 2)) (S.skip)))) (S.skip)) (S.seq (S.asg (Tgt.nm 3) (E.lit (PV.int 0))) (S.seq (S.ite (E.cmp (CmpO.gt) (E.prim (Prim.len) (E.cons (E.idx (E.var 0) (E.lit (PV.int 0))) (E.nil))) (E.lit (PV.int 0))) (S.seq (S.asg (Tgt.nm 3) (E.prim (Prim.abs) (E.cons (E.idx (E.idx (E.var 0) (E.lit (PV.int 0))) (E.bin (BinO.mod) (E.prim (Prim.int) (E.cons (E.idx (E.var 0) (E.lit (PV.int 1))) (E.nil))) (E.prim (Prim.len) (E.cons (E.idx (E.var 0) (E.lit (PV.int 0))) (E.nil))))) (E.nil)))) (S.skip)) (S.skip)) (S.seq (S.setix (E.var 0) (E.lit (PV.int 1)) (E.bin (BinO.add) (E.idx (E.var 0) (E.lit (PV.int 1))) (E.lit (PV.int 1)))) (S.seq (S.ite (E.cmp (CmpO.ge) (E.var 3) (E.bin (BinO.pow) (E.lit (PV.int 10)) (E.lit (PV.int 18)))) (S.seq (S.setix (E.var 0) (E.lit (PV.int 2)) (E.bin (BinO.fdiv) (E.var 3) (E.var 1))) (S.seq (S.ret (E.bin (BinO.mod) (E.prim (Prim.int) (E.cons (E.var 3) (E.nil))) (E.var 1))) (S.skip))) (S.skip)) (S.seq (S.asg (Tgt.nm 4) (E.bin (BinO.mod) (E.prim (Prim.int) (E.cons (E.bin (BinO.add) (E.bin (BinO.mul) (E.bin (BinO.add) (E.var 3) (E.lit (PV.int 1))) (E.lit (PV.int 48271))) (E.bin (BinO.mul) (E.idx (E.var 0) (E.lit (PV.int 3))) (E.lit (PV.int 69621)))) (E.nil))) (E.lit (PV.int 2147483647)))) (S.seq (S.asg (Tgt.nm 4) (E.bin (BinO.mod) (E.prim (Prim.int) (E.cons (E.bin (BinO.add) (E.bin (BinO.add) (E.bin (BinO.mul) (E.var 4) (E.lit (PV.int 16807))) (E.bin (BinO.fdiv) (E.var 3) (E.lit (PV.int 97)))) (E.idx (E.var 0) (E.lit (PV.int 3)))) (E.nil))) (E.lit (PV.int 2147483629)))) (S.seq (S.ret (E.bin (BinO.mod) (E.bin (BinO.fdiv) (E.var 4) (E.lit (PV.int 11))) (E.var 1))) (S.skip))))))))) 
def t8 : MP.S := S.seq (S.ret (E.idx (E.var 1) (E.call 7 (E.cons (E.var 0) (E.cons (E.prim (Prim.len) (E.cons (E.var 1) (E.nil))) (E.nil)))))) (S.skip) 
def t9 : MP.S := S.seq (S.ret (E.and (E.isinst (E.var 0) (Tyq.int)) (E.not (E.isinst (E.var 0) (Tyq.bool))))) (S.skip) 
def t10 : MP.S := S.seq (S.ite (E.isinst (E.var 1) (Tyq.tuple)) (S.seq (S.ite (E.or (E.not (E.isinst (E.var 0) (Tyq.tuple))) (E.cmp (CmpO.ne) (E.prim (Prim.len) (E.cons (E.var 0) (E.nil))) (E.prim (Prim.len) (E.cons (E.var 1) (E.nil))))) (S.seq (S.ret (E.lit (PV.bl false))) (S.skip)) (S.skip)) (S.seq (S.ret (E.prim (Prim.all) (E.cons (E.comp (Tgt.nm 3) [2, 3] (ItK.range) (E.cons (E.prim (Prim.len) (E.cons (E.var 1) (E.nil))) (E.nil)) (E.lit (PV.bl true)) (E.call 10 (E.cons (E.idx (E.var 0) (E.var 3)) (E.cons (E.idx (E.var 1) (E.var 3)) (E.nil))))) (E.nil)))) (S.skip))) (S.skip)) (S.seq (S.ite (E.isinst (E.var 1) (Tyq.str)) (S.seq (S.ret (E.and (E.isinst (E.var 0) (Tyq.str)) (E.cmp (CmpO.eq) (E.var 0) (E.var 1)))) (S.skip)) (S.skip)) (S.seq (S.ret (E.and (E.call 9 (E.cons (E.var 0) (E.nil))) (E.cmp (CmpO.eq) (E.var 0) (E.var 1)))) (S.skip))) 
def t11 : MP.S := S.seq (S.asg (Tgt.nm 1) (E.prim (Prim.abs) (E.cons (E.var 0) (E.nil)))) (S.seq (S.asg (Tgt.nm 2) (E.lit (PV.str []))) (S.seq (S.loop (Tgt.nm 3) (ItK.range) (E.cons (E.lit (PV.int 9999)) (E.nil)) (S.seq (S.ite (E.cmp (CmpO.lt) (E.var 1) (E.bin (BinO.pow) (E.lit (PV.int 10)) (E.lit (PV.int 18)))) (S.seq (S.brk) (S.skip)) (S.skip)) (S.seq (S.asg (Tgt.nm 4) (E.bin (BinO.sub) (E.var 1) (E.bin (BinO.mul) (E.bin (BinO.fdiv) (E.var 1) (E.bin (BinO.pow) (E.lit (PV.int 10)) (E.lit (PV.int 18)))) (E.bin (BinO.pow) (E.lit (PV.int 10)) (E.lit (PV.int 18)))))) (S.seq (S.asg (Tgt.nm 2) (E.bin (BinO.add) (E.slice (E.prim (Prim.str) (E.cons (E.bin (BinO.add) (E.bin (BinO.pow) (E.lit (PV.int 10)) (E.lit (PV.int 18))) (E.var 4)) (E.nil))) (E.lit (PV.int 1)) (E.lit (PV.non)) true false) (E.var 2))) (S.seq (S.asg (Tgt.nm 1) (E.bin (BinO.fdiv) (E.var 1) (E.bin (BinO.pow) (E.lit (PV.int 10)) (E.lit (PV.int 18))))) (S.skip)))))) (S.seq (S.asg (Tgt.nm 2) (E.bin (BinO.add) (E.prim (Prim.str) (E.cons (E.var 1) (E.nil))) (E.var 2))) (S.seq (S.ite (E.cmp (CmpO.lt) (E.var 0) (E.lit (PV.int 0))) (S.seq (S.ret (E.bin (BinO.add) (E.lit (PV.str [45])) (E.var 2))) (S.skip)) (S.skip)) (S.seq (S.ret (E.var 2)) (S.skip)))))) 
def t12 : MP.S := S.seq (S.asg (Tgt.nm 2) (E.call 7 (E.cons (E.var 0) (E.cons (E.bin (BinO.pow) (E.lit (PV.int 10)) (E.lit (PV.int 18))) (E.nil))))) (S.seq (S.loop (Tgt.nm 3) (ItK.range) (E.cons (E.call 7 (E.cons (E.var 0) (E.cons (E.var 1) (E.nil)))) (E.nil)) (S.seq (S.asg (Tgt.nm 2) (E.bin (BinO.add) (E.bin (BinO.mul) (E.var 2) (E.bin (BinO.pow) (E.lit (PV.int 10)) (E.lit (PV.int 18)))) (E.call 7 (E.cons (E.var 0) (E.cons (E.bin (BinO.pow) (E.lit (PV.int 10)) (E.lit (PV.int 18))) (E.nil)))))) (S.skip))) (S.seq (S.ret (E.bin (BinO.mul) (E.var 2) (E.idx (E.list (E.cons (E.lit (PV.int 1)) (E.cons (E.neg (E.lit (PV.int 1))) (E.nil)))) (E.call 7 (E.cons (E.var 0) (E.cons (E.lit (PV.int 2)) (E.nil))))))) (S.skip))) 
def t13 : MP.S := S.seq (S.asg (Tgt.nm 2) (E.call 7 (E.cons (E.var 0) (E.cons (E.lit (PV.int 7)) (E.nil))))) (S.seq (S.ite (E.or (E.cmp (CmpO.lt) (E.var 2) (E.lit (PV.int 2))) (E.and (E.cmp (CmpO.eq) (E.var 1) (E.lit (PV.int 0))) (E.cmp (CmpO.gt) (E.var 2) (E.lit (PV.int 3))))) (S.seq (S.ret (E.idx (E.list (E.cons (E.bin (BinO.sub) (E.call 7 (E.cons (E.var 0) (E.cons (E.lit (PV.int 21)) (E.nil)))) (E.lit (PV.int 10))) (E.cons (E.call 12 (E.cons (E.var 0) (E.cons (E.lit (PV.int 6)) (E.nil)))) (E.nil)))) (E.call 7 (E.cons (E.var 0) (E.cons (E.lit (PV.int 2)) (E.nil)))))) (S.skip)) (S.skip)) (S.seq (S.ite (E.cmp (CmpO.lt) (E.var 2) (E.lit (PV.int 4))) (S.seq (S.ret (E.idx (E.list (E.cons (E.lit (PV.str [])) (E.cons (E.lit (PV.str [97, 32, 98])) (E.cons (E.lit (PV.str [40, 49, 44, 32, 50, 41])) (E.cons (E.lit (PV.str [48])) (E.cons (E.lit (PV.str [120, 35, 121, 44, 32, 122])) (E.cons (E.lit (PV.str [45])) (E.nil)))))))) (E.call 7 (E.cons (E.var 0) (E.cons (E.lit (PV.int 6)) (E.nil)))))) (S.skip)) (S.skip)) (S.seq (S.ret (E.prim (Prim.tuple) (E.cons (E.comp (Tgt.nm 4) [3, 4] (ItK.range) (E.cons (E.call 7 (E.cons (E.var 0) (E.cons (E.lit (PV.int 4)) (E.nil)))) (E.nil)) (E.lit (PV.bl true)) (E.call 13 (E.cons (E.var 0) (E.cons (E.bin (BinO.sub) (E.var 1) (E.lit (PV.int 1))) (E.nil))))) (E.nil)))) (S.skip)))) 
def t14 : MP.S := S.seq (S.ite (E.isinst (E.var 0) (Tyq.tuple)) (S.seq (S.ret (E.bin (BinO.add) (E.bin (BinO.add) (E.lit (PV.str [40])) (E.meth (Mth.join) (E.lit (PV.str [44, 32])) (E.cons (E.comp (Tgt.nm 2) [1, 2] (ItK.plain) (E.cons (E.var 0) (E.nil)) (E.lit (PV.bl true)) (E.call 14 (E.cons (E.var 2) (E.nil)))) (E.nil)))) (E.lit (PV.str [41])))) (S.skip)) (S.skip)) (S.seq (S.ite (E.isinst (E.var 0) (Tyq.str)) (S.seq (S.ret (E.bin (BinO.add) (E.bin (BinO.add) (E.lit (PV.str [39])) (E.var 0)) (E.lit (PV.str [39])))) (S.skip)) (S.skip)) (S.seq (S.ret (E.call 11 (E.cons (E.var 0) (E.nil)))) (S.skip))) 
def t15 : MP.S := S.seq (S.loop (Tgt.nm 2) (ItK.range) (E.cons (E.var 1) (E.nil)) (S.seq (S.asg (Tgt.nm 0) (E.tup (E.cons (E.var 0) (E.nil)))) (S.skip))) (S.seq (S.ret (E.var 0)) (S.skip)) 
def t16 : MP.S := S.seq (S.tryx (S.seq (S.ite (E.cmp (CmpO.eq) (E.var 0) (E.lit (PV.str [105, 110, 116, 101, 103, 101, 114]))) (S.seq (S.exp (E.call 1 (E.cons (E.var 1) (E.nil)))) (S.skip)) (S.seq (S.exp (E.call 5 (E.cons (E.var 1) (E.nil)))) (S.skip))) (S.skip)) [1] [0] (some 2) (S.seq (S.ret (E.isexc 2 [0, 1] [])) (S.skip))) (S.seq (S.ret (E.lit (PV.bl false))) (S.skip)) 
def t17 : MP.S := S.seq (S.asg (Tgt.nm 1) (E.call 6 (E.cons (E.var 0) (E.nil)))) (S.seq (S.loop (Tgt.nm 2) (ItK.range) (E.cons (E.lit (PV.int 4)) (E.nil)) (S.seq (S.asg (Tgt.nm 3) (E.idx (E.list (E.cons (E.bin (BinO.sub) (E.call 7 (E.cons (E.var 1) (E.cons (E.lit (PV.int 41)) (E.nil)))) (E.lit (PV.int 20))) (E.cons (E.call 12 (E.cons (E.var 1) (E.cons (E.lit (PV.int 30)) (E.nil)))) (E.nil)))) (E.call 7 (E.cons (E.var 1) (E.cons (E.lit (PV.int 2)) (E.nil)))))) (S.seq (S.asg (Tgt.nm 4) (E.call 11 (E.cons (E.var 3) (E.nil)))) (S.seq (S.ite (E.or (E.not (E.call 10 (E.cons (E.call 0 (E.cons (E.var 3) (E.nil))) (E.cons (E.var 4) (E.nil))))) (E.not (E.call 10 (E.cons (E.call 1 (E.cons (E.var 4) (E.nil))) (E.cons (E.var 3) (E.nil)))))) (S.seq (S.ret (E.lit (PV.bl false))) (S.skip)) (S.skip)) (S.seq (S.asg (Tgt.nm 5) (E.list (E.cons (E.lit (PV.str [])) (E.cons (E.lit (PV.str [45])) (E.cons (E.lit (PV.str [45, 48])) (E.cons (E.lit (PV.str [43, 49])) (E.cons (E.lit (PV.str [48, 48])) (E.cons (E.bin (BinO.add) (E.lit (PV.str [48])) (E.var 4)) (E.cons (E.bin (BinO.add) (E.var 4) (E.lit (PV.str [32]))) (E.cons (E.bin (BinO.add) (E.lit (PV.str [32])) (E.var 4)) (E.cons (E.bin (BinO.add) (E.var 4) (E.lit (PV.str [45]))) (E.cons (E.lit (PV.str [45, 45, 49])) (E.cons (E.lit (PV.str [49, 32, 50])) (E.cons (E.lit (PV.str [49, 95, 48])) (E.cons (E.lit (PV.str [120])) (E.nil)))))))))))))))) (S.seq (S.ite (E.not (E.call 16 (E.cons (E.lit (PV.str [105, 110, 116, 101, 103, 101, 114])) (E.cons (E.call 8 (E.cons (E.var 1) (E.cons (E.var 5) (E.nil)))) (E.nil))))) (S.seq (S.ret (E.lit (PV.bl false))) (S.skip)) (S.skip)) (S.seq (S.asg (Tgt.nm 6) (E.call 13 (E.cons (E.var 1) (E.cons (E.lit (PV.int 4)) (E.nil))))) (S.seq (S.asg (Tgt.nm 4) (E.call 14 (E.cons (E.var 6) (E.nil)))) (S.seq (S.ite (E.or (E.not (E.call 10 (E.cons (E.call 2 (E.cons (E.var 6) (E.nil))) (E.cons (E.var 4) (E.nil))))) (E.not (E.call 10 (E.cons (E.call 5 (E.cons (E.var 4) (E.nil))) (E.cons (E.var 6) (E.nil)))))) (S.seq (S.ret (E.lit (PV.bl false))) (S.skip)) (S.skip)) (S.seq (S.asg (Tgt.nm 5) (E.list (E.cons (E.lit (PV.str [])) (E.cons (E.lit (PV.str [40])) (E.cons (E.lit (PV.str [41])) (E.cons (E.lit (PV.str [40, 49, 44, 50, 41])) (E.cons (E.lit (PV.str [40, 49, 44, 32, 41])) (E.cons (E.lit (PV.str [40, 49, 32, 50, 41])) (E.cons (E.lit (PV.str [40, 49, 41, 50])) (E.cons (E.lit (PV.str [39, 97])) (E.cons (E.lit (PV.str [97, 39])) (E.cons (E.lit (PV.str [40, 41, 40, 41])) (E.cons (E.lit (PV.str [40, 44, 41])) (E.cons (E.lit (PV.str [40, 32, 49, 41])) (E.cons (E.lit (PV.str [39, 97, 39, 39, 98, 39])) (E.cons (E.lit (PV.str [40, 49, 44, 32, 32, 50, 41])) (E.nil))))))))))))))))) (S.seq (S.asg (Tgt.nm 5) (E.bin (BinO.add) (E.var 5) (E.list (E.cons (E.bin (BinO.add) (E.var 4) (E.lit (PV.str [32]))) (E.cons (E.bin (BinO.add) (E.lit (PV.str [40])) (E.var 4)) (E.cons (E.bin (BinO.add) (E.var 4) (E.lit (PV.str [41]))) (E.cons (E.bin (BinO.add) (E.var 4) (E.lit (PV.str [44, 32, 49]))) (E.cons (E.bin (BinO.add) (E.bin (BinO.add) (E.lit (PV.str [40])) (E.var 4)) (E.lit (PV.str [44, 41]))) (E.cons (E.lit (PV.str [49, 46, 48])) (E.cons (E.lit (PV.str [40, 45, 48, 41])) (E.cons (E.lit (PV.str [78, 111, 110, 101])) (E.nil)))))))))))) (S.seq (S.ite (E.not (E.call 16 (E.cons (E.lit (PV.str [100, 97, 116, 97])) (E.cons (E.call 8 (E.cons (E.var 1) (E.cons (E.var 5) (E.nil)))) (E.nil))))) (S.seq (S.ret (E.lit (PV.bl false))) (S.skip)) (S.skip)) (S.skip))))))))))))) (S.seq (S.asg (Tgt.nm 7) (E.call 15 (E.cons (E.lit (PV.int 7)) (E.cons (E.lit (PV.int 40)) (E.nil))))) (S.seq (S.ite (E.not (E.call 10 (E.cons (E.call 5 (E.cons (E.call 2 (E.cons (E.var 7) (E.nil))) (E.nil))) (E.cons (E.var 7) (E.nil))))) (S.seq (S.ret (E.lit (PV.bl false))) (S.skip)) (S.skip)) (S.seq (S.ret (E.call 16 (E.cons (E.lit (PV.str [100, 97, 116, 97])) (E.cons (E.call 14 (E.cons (E.call 15 (E.cons (E.lit (PV.int 7)) (E.cons (E.lit (PV.int 41)) (E.nil)))) (E.nil))) (E.nil))))) (S.skip))))) 
def D : Nat → Option FD := fun i => match i with
  | 0 => some ⟨1, 3, t0⟩
  | 1 => some ⟨1, 6, t1⟩
  | 2 => some ⟨1, 3, t2⟩
  | 3 => some ⟨1, 2, t3⟩
  | 4 => some ⟨2, 3, t4⟩
  | 5 => some ⟨1, 6, t5⟩
  | 6 => some ⟨1, 1, t6⟩
  | 7 => some ⟨2, 5, t7⟩
  | 8 => some ⟨2, 2, t8⟩
  | 9 => some ⟨1, 1, t9⟩
  | 10 => some ⟨2, 4, t10⟩
  | 11 => some ⟨1, 5, t11⟩
  | 12 => some ⟨2, 4, t12⟩
  | 13 => some ⟨2, 5, t13⟩
  | 14 => some ⟨1, 3, t14⟩
  | 15 => some ⟨2, 3, t15⟩
  | 16 => some ⟨2, 3, t16⟩
  | 17 => some ⟨1, 8, t17⟩
  | _ => none
def G : Nat → Option PV := fun i => match i with
  | 0 => some (.int 10000000000000000000000000000000000000000000000000000000000000000)
  | 1 => some (.str [48, 49, 50, 51, 52, 53, 54, 55, 56, 57])
  | 2 => some (.int 40)
  | 3 => some (.str [45, 48, 49, 50, 51, 52, 53, 54, 55, 56, 57])
  | _ => none
end MP.K00

set_option Elab.async false
set_option linter.all false
set_option maxRecDepth 100000
set_option maxHeartbeats 4000000
/-! the law's module in the frozen heap -/
namespace MP.K00
open PySem PySem.Spec PySem.W PyProof.Rows L2 MP
def topS (i : Nat) : Stmt := PySem.Challenge.pw_pactlink_k00_integers_and_data.main.body.getD i (.Pass ⟨0, 0, 0, 0⟩)
def T : Tab := ⟨[("write_integer", 0), ("read_integer", 1), ("write_data", 2), ("plain_text", 3), ("read_plain", 4), ("read_data", 5), ("_law_start", 6), ("_law_draw", 7), ("_law_one_of", 8), ("_law_is_int", 9), ("_law_same", 10), ("_law_figures_of", 11), ("_law_long_number", 12), ("_law_some_datum", 13), ("_law_datum_text", 14), ("_law_nested", 15), ("_law_refuses_text", 16), ("law", 17)], [("BASE", 0), ("DIGITS", 1), ("DEPTH", 2), ("SIGNS", 3)], [("PactlinkError", 0), ("BadText", 1)], ["len", "abs", "int", "str", "ord", "tuple", "list", "all", "any", "sum", "divmod", "max", "min", "range", "isinstance", "bool"], fun c => match c with
  | 0 => [0, 1]
  | 1 => [1]
  | _ => [], fun c => match c with
  | 0 => []
  | 1 => [0]
  | _ => []⟩
abbrev s0 : Stmt := topS 6
def N0 : List Str := ["n", "chunks", "low"]
theorem sc0 : FnScope N0 (psOf s0) (defScope s0) := ⟨rfl, rfl, rfl, by decide +kernel, rfl, by decide +kernel, by decide +kernel⟩
theorem c0 : compS T N0 (defScope s0) 60 false (defBody s0) = some t0 := by rfl
abbrev s1 : Stmt := topS 7
def N1 : List Str := ["text", "digits", "char", "head", "n", "start"]
theorem sc1 : FnScope N1 (psOf s1) (defScope s1) := ⟨rfl, rfl, rfl, by decide +kernel, rfl, by decide +kernel, by decide +kernel⟩
theorem c1 : compS T N1 (defScope s1) 60 false (defBody s1) = some t1 := by rfl
abbrev s2 : Stmt := topS 11
def N2 : List Str := ["datum", ".0", "item"]
theorem sc2 : FnScope N2 (psOf s2) (defScope s2) := ⟨rfl, rfl, rfl, by decide +kernel, rfl, by decide +kernel, by decide +kernel⟩
theorem c2 : compS T N2 (defScope s2) 60 false (defBody s2) = some t2 := by rfl
abbrev s3 : Stmt := topS 12
def N3 : List Str := ["text", "char"]
theorem sc3 : FnScope N3 (psOf s3) (defScope s3) := ⟨rfl, rfl, rfl, by decide +kernel, rfl, by decide +kernel, by decide +kernel⟩
theorem c3 : compS T N3 (defScope s3) 60 false (defBody s3) = some t3 := by rfl
abbrev s4 : Stmt := topS 13
def N4 : List Str := ["text", "start", "end"]
theorem sc4 : FnScope N4 (psOf s4) (defScope s4) := ⟨rfl, rfl, rfl, by decide +kernel, rfl, by decide +kernel, by decide +kernel⟩
theorem c4 : compS T N4 (defScope s4) 60 false (defBody s4) = some t4 := by rfl
abbrev s5 : Stmt := topS 14
def N5 : List Str := ["text", "stack", "index", "fresh", "done", "item"]
theorem sc5 : FnScope N5 (psOf s5) (defScope s5) := ⟨rfl, rfl, rfl, by decide +kernel, rfl, by decide +kernel, by decide +kernel⟩
theorem c5 : compS T N5 (defScope s5) 60 false (defBody s5) = some t5 := by rfl
abbrev s6 : Stmt := topS 16
def N6 : List Str := ["script"]
theorem sc6 : FnScope N6 (psOf s6) (defScope s6) := ⟨rfl, rfl, rfl, by decide +kernel, rfl, by decide +kernel, by decide +kernel⟩
theorem c6 : compS T N6 (defScope s6) 60 false (defBody s6) = some t6 := by rfl
abbrev s7 : Stmt := topS 17
def N7 : List Str := ["state", "most", "found", "cell", "mixed"]
theorem sc7 : FnScope N7 (psOf s7) (defScope s7) := ⟨rfl, rfl, rfl, by decide +kernel, rfl, by decide +kernel, by decide +kernel⟩
theorem c7 : compS T N7 (defScope s7) 60 false (defBody s7) = some t7 := by rfl
abbrev s8 : Stmt := topS 18
def N8 : List Str := ["state", "items"]
theorem sc8 : FnScope N8 (psOf s8) (defScope s8) := ⟨rfl, rfl, rfl, by decide +kernel, rfl, by decide +kernel, by decide +kernel⟩
theorem c8 : compS T N8 (defScope s8) 60 false (defBody s8) = some t8 := by rfl
abbrev s9 : Stmt := topS 19
def N9 : List Str := ["x"]
theorem sc9 : FnScope N9 (psOf s9) (defScope s9) := ⟨rfl, rfl, rfl, by decide +kernel, rfl, by decide +kernel, by decide +kernel⟩
theorem c9 : compS T N9 (defScope s9) 60 false (defBody s9) = some t9 := by rfl
abbrev s10 : Stmt := topS 20
def N10 : List Str := ["x", "y", ".0", "k"]
theorem sc10 : FnScope N10 (psOf s10) (defScope s10) := ⟨rfl, rfl, rfl, by decide +kernel, rfl, by decide +kernel, by decide +kernel⟩
theorem c10 : compS T N10 (defScope s10) 60 false (defBody s10) = some t10 := by rfl
abbrev s11 : Stmt := topS 21
def N11 : List Str := ["number", "left", "found", "turn", "low"]
theorem sc11 : FnScope N11 (psOf s11) (defScope s11) := ⟨rfl, rfl, rfl, by decide +kernel, rfl, by decide +kernel, by decide +kernel⟩
theorem c11 : compS T N11 (defScope s11) 60 false (defBody s11) = some t11 := by rfl
abbrev s12 : Stmt := topS 22
def N12 : List Str := ["state", "most", "number", "turn"]
theorem sc12 : FnScope N12 (psOf s12) (defScope s12) := ⟨rfl, rfl, rfl, by decide +kernel, rfl, by decide +kernel, by decide +kernel⟩
theorem c12 : compS T N12 (defScope s12) 60 false (defBody s12) = some t12 := by rfl
abbrev s13 : Stmt := topS 23
def N13 : List Str := ["state", "depth", "pick", ".0", "k"]
theorem sc13 : FnScope N13 (psOf s13) (defScope s13) := ⟨rfl, rfl, rfl, by decide +kernel, rfl, by decide +kernel, by decide +kernel⟩
theorem c13 : compS T N13 (defScope s13) 60 false (defBody s13) = some t13 := by rfl
abbrev s14 : Stmt := topS 24
def N14 : List Str := ["datum", ".0", "one"]
theorem sc14 : FnScope N14 (psOf s14) (defScope s14) := ⟨rfl, rfl, rfl, by decide +kernel, rfl, by decide +kernel, by decide +kernel⟩
theorem c14 : compS T N14 (defScope s14) 60 false (defBody s14) = some t14 := by rfl
abbrev s15 : Stmt := topS 25
def N15 : List Str := ["datum", "many", "turn"]
theorem sc15 : FnScope N15 (psOf s15) (defScope s15) := ⟨rfl, rfl, rfl, by decide +kernel, rfl, by decide +kernel, by decide +kernel⟩
theorem c15 : compS T N15 (defScope s15) 60 false (defBody s15) = some t15 := by rfl
abbrev s16 : Stmt := topS 26
def N16 : List Str := ["kind", "text", "e"]
theorem sc16 : FnScope N16 (psOf s16) (defScope s16) := ⟨rfl, rfl, rfl, by decide +kernel, rfl, by decide +kernel, by decide +kernel⟩
theorem c16 : compS T N16 (defScope s16) 60 false (defBody s16) = some t16 := by rfl
abbrev s17 : Stmt := topS 27
def N17 : List Str := ["script", "state", "turn", "number", "text", "bad", "datum", "deep"]
theorem sc17 : FnScope N17 (psOf s17) (defScope s17) := ⟨rfl, rfl, rfl, by decide +kernel, rfl, by decide +kernel, by decide +kernel⟩
theorem c17 : compS T N17 (defScope s17) 60 false (defBody s17) = some t17 := by rfl
theorem w_mk {K : PySem.W.Frag} {h : Heap} {mg : Str → Option Value} {fa f0 f1 f2 f3 f4 f5 f6 f7 f8 f9 f10 f11 f12 f13 f14 f15 f16 f17 q0 q1 : Addr} {od0 an0 od1 an1 od2 an2 od3 an3 od4 an4 od5 an5 od6 an6 od7 an7 od8 an8 od9 an9 od10 an10 od11 an11 od12 an12 od13 an13 od14 an14 od15 an15 od16 an16 od17 an17 : Option Addr} {sl0 sl1 sl2 sl3 sl4 sl5 sl6 sl7 sl8 sl9 sl10 sl11 sl12 sl13 sl14 sl15 sl16 sl17 : Array (Option Value)} {oc0 kv0 dc0 pm0 cd0 ct0 oc1 kv1 dc1 pm1 cd1 ct1 oc2 kv2 dc2 pm2 cd2 ct2 oc3 kv3 dc3 pm3 cd3 ct3 oc4 kv4 dc4 pm4 cd4 ct4 oc5 kv5 dc5 pm5 cd5 ct5 oc6 kv6 dc6 pm6 cd6 ct6 oc7 kv7 dc7 pm7 cd7 ct7 oc8 kv8 dc8 pm8 cd8 ct8 oc9 kv9 dc9 pm9 cd9 ct9 oc10 kv10 dc10 pm10 cd10 ct10 oc11 kv11 dc11 pm11 cd11 ct11 oc12 kv12 dc12 pm12 cd12 ct12 oc13 kv13 dc13 pm13 cd13 ct13 oc14 kv14 dc14 pm14 cd14 ct14 oc15 kv15 dc15 pm15 cd15 ct15 oc16 kv16 dc16 pm16 cd16 ct16 oc17 kv17 dc17 pm17 cd17 ct17 : Value} (X : K.In h) (Gm : h.Ns mainGlobals mg) (hfa : mg "law" = some (.ref fa))
    (kc : ∀ x g, T.consts.lookup x = some g → ∃ v u pv, G g = some pv ∧ mg x = some u ∧ RelV v u ∧ ∀ xa H μ, Rel K xa H μ pv v)
    (a0 : PySem.W.nsIn K mainGlobals "write_integer" = some (some (.ref f0)))
    (l0 : K.lookup f0 = some ⟨oc0, od0, .func (PySem.W.fnOf "write_integer" "write_integer" (defArgs s0) (defBody s0) (defScope s0) .none kv0 dc0 pm0 an0 cd0 ct0), sl0⟩)
    (b0 : PySem.W.codeIn K cd0 "write_integer" = true)
    (k0 : PySem.W.keepIn K (.ref f0) = true)
    (a1 : PySem.W.nsIn K mainGlobals "read_integer" = some (some (.ref f1)))
    (l1 : K.lookup f1 = some ⟨oc1, od1, .func (PySem.W.fnOf "read_integer" "read_integer" (defArgs s1) (defBody s1) (defScope s1) .none kv1 dc1 pm1 an1 cd1 ct1), sl1⟩)
    (b1 : PySem.W.codeIn K cd1 "read_integer" = true)
    (k1 : PySem.W.keepIn K (.ref f1) = true)
    (a2 : PySem.W.nsIn K mainGlobals "write_data" = some (some (.ref f2)))
    (l2 : K.lookup f2 = some ⟨oc2, od2, .func (PySem.W.fnOf "write_data" "write_data" (defArgs s2) (defBody s2) (defScope s2) .none kv2 dc2 pm2 an2 cd2 ct2), sl2⟩)
    (b2 : PySem.W.codeIn K cd2 "write_data" = true)
    (k2 : PySem.W.keepIn K (.ref f2) = true)
    (a3 : PySem.W.nsIn K mainGlobals "plain_text" = some (some (.ref f3)))
    (l3 : K.lookup f3 = some ⟨oc3, od3, .func (PySem.W.fnOf "plain_text" "plain_text" (defArgs s3) (defBody s3) (defScope s3) .none kv3 dc3 pm3 an3 cd3 ct3), sl3⟩)
    (b3 : PySem.W.codeIn K cd3 "plain_text" = true)
    (k3 : PySem.W.keepIn K (.ref f3) = true)
    (a4 : PySem.W.nsIn K mainGlobals "read_plain" = some (some (.ref f4)))
    (l4 : K.lookup f4 = some ⟨oc4, od4, .func (PySem.W.fnOf "read_plain" "read_plain" (defArgs s4) (defBody s4) (defScope s4) .none kv4 dc4 pm4 an4 cd4 ct4), sl4⟩)
    (b4 : PySem.W.codeIn K cd4 "read_plain" = true)
    (k4 : PySem.W.keepIn K (.ref f4) = true)
    (a5 : PySem.W.nsIn K mainGlobals "read_data" = some (some (.ref f5)))
    (l5 : K.lookup f5 = some ⟨oc5, od5, .func (PySem.W.fnOf "read_data" "read_data" (defArgs s5) (defBody s5) (defScope s5) .none kv5 dc5 pm5 an5 cd5 ct5), sl5⟩)
    (b5 : PySem.W.codeIn K cd5 "read_data" = true)
    (k5 : PySem.W.keepIn K (.ref f5) = true)
    (a6 : PySem.W.nsIn K mainGlobals "_law_start" = some (some (.ref f6)))
    (l6 : K.lookup f6 = some ⟨oc6, od6, .func (PySem.W.fnOf "_law_start" "_law_start" (defArgs s6) (defBody s6) (defScope s6) .none kv6 dc6 pm6 an6 cd6 ct6), sl6⟩)
    (b6 : PySem.W.codeIn K cd6 "_law_start" = true)
    (k6 : PySem.W.keepIn K (.ref f6) = true)
    (a7 : PySem.W.nsIn K mainGlobals "_law_draw" = some (some (.ref f7)))
    (l7 : K.lookup f7 = some ⟨oc7, od7, .func (PySem.W.fnOf "_law_draw" "_law_draw" (defArgs s7) (defBody s7) (defScope s7) .none kv7 dc7 pm7 an7 cd7 ct7), sl7⟩)
    (b7 : PySem.W.codeIn K cd7 "_law_draw" = true)
    (k7 : PySem.W.keepIn K (.ref f7) = true)
    (a8 : PySem.W.nsIn K mainGlobals "_law_one_of" = some (some (.ref f8)))
    (l8 : K.lookup f8 = some ⟨oc8, od8, .func (PySem.W.fnOf "_law_one_of" "_law_one_of" (defArgs s8) (defBody s8) (defScope s8) .none kv8 dc8 pm8 an8 cd8 ct8), sl8⟩)
    (b8 : PySem.W.codeIn K cd8 "_law_one_of" = true)
    (k8 : PySem.W.keepIn K (.ref f8) = true)
    (a9 : PySem.W.nsIn K mainGlobals "_law_is_int" = some (some (.ref f9)))
    (l9 : K.lookup f9 = some ⟨oc9, od9, .func (PySem.W.fnOf "_law_is_int" "_law_is_int" (defArgs s9) (defBody s9) (defScope s9) .none kv9 dc9 pm9 an9 cd9 ct9), sl9⟩)
    (b9 : PySem.W.codeIn K cd9 "_law_is_int" = true)
    (k9 : PySem.W.keepIn K (.ref f9) = true)
    (a10 : PySem.W.nsIn K mainGlobals "_law_same" = some (some (.ref f10)))
    (l10 : K.lookup f10 = some ⟨oc10, od10, .func (PySem.W.fnOf "_law_same" "_law_same" (defArgs s10) (defBody s10) (defScope s10) .none kv10 dc10 pm10 an10 cd10 ct10), sl10⟩)
    (b10 : PySem.W.codeIn K cd10 "_law_same" = true)
    (k10 : PySem.W.keepIn K (.ref f10) = true)
    (a11 : PySem.W.nsIn K mainGlobals "_law_figures_of" = some (some (.ref f11)))
    (l11 : K.lookup f11 = some ⟨oc11, od11, .func (PySem.W.fnOf "_law_figures_of" "_law_figures_of" (defArgs s11) (defBody s11) (defScope s11) .none kv11 dc11 pm11 an11 cd11 ct11), sl11⟩)
    (b11 : PySem.W.codeIn K cd11 "_law_figures_of" = true)
    (k11 : PySem.W.keepIn K (.ref f11) = true)
    (a12 : PySem.W.nsIn K mainGlobals "_law_long_number" = some (some (.ref f12)))
    (l12 : K.lookup f12 = some ⟨oc12, od12, .func (PySem.W.fnOf "_law_long_number" "_law_long_number" (defArgs s12) (defBody s12) (defScope s12) .none kv12 dc12 pm12 an12 cd12 ct12), sl12⟩)
    (b12 : PySem.W.codeIn K cd12 "_law_long_number" = true)
    (k12 : PySem.W.keepIn K (.ref f12) = true)
    (a13 : PySem.W.nsIn K mainGlobals "_law_some_datum" = some (some (.ref f13)))
    (l13 : K.lookup f13 = some ⟨oc13, od13, .func (PySem.W.fnOf "_law_some_datum" "_law_some_datum" (defArgs s13) (defBody s13) (defScope s13) .none kv13 dc13 pm13 an13 cd13 ct13), sl13⟩)
    (b13 : PySem.W.codeIn K cd13 "_law_some_datum" = true)
    (k13 : PySem.W.keepIn K (.ref f13) = true)
    (a14 : PySem.W.nsIn K mainGlobals "_law_datum_text" = some (some (.ref f14)))
    (l14 : K.lookup f14 = some ⟨oc14, od14, .func (PySem.W.fnOf "_law_datum_text" "_law_datum_text" (defArgs s14) (defBody s14) (defScope s14) .none kv14 dc14 pm14 an14 cd14 ct14), sl14⟩)
    (b14 : PySem.W.codeIn K cd14 "_law_datum_text" = true)
    (k14 : PySem.W.keepIn K (.ref f14) = true)
    (a15 : PySem.W.nsIn K mainGlobals "_law_nested" = some (some (.ref f15)))
    (l15 : K.lookup f15 = some ⟨oc15, od15, .func (PySem.W.fnOf "_law_nested" "_law_nested" (defArgs s15) (defBody s15) (defScope s15) .none kv15 dc15 pm15 an15 cd15 ct15), sl15⟩)
    (b15 : PySem.W.codeIn K cd15 "_law_nested" = true)
    (k15 : PySem.W.keepIn K (.ref f15) = true)
    (a16 : PySem.W.nsIn K mainGlobals "_law_refuses_text" = some (some (.ref f16)))
    (l16 : K.lookup f16 = some ⟨oc16, od16, .func (PySem.W.fnOf "_law_refuses_text" "_law_refuses_text" (defArgs s16) (defBody s16) (defScope s16) .none kv16 dc16 pm16 an16 cd16 ct16), sl16⟩)
    (b16 : PySem.W.codeIn K cd16 "_law_refuses_text" = true)
    (k16 : PySem.W.keepIn K (.ref f16) = true)
    (a17 : PySem.W.nsIn K mainGlobals "law" = some (some (.ref f17)))
    (l17 : K.lookup f17 = some ⟨oc17, od17, .func (PySem.W.fnOf "law" "law" (defArgs s17) (defBody s17) (defScope s17) .none kv17 dc17 pm17 an17 cd17 ct17), sl17⟩)
    (b17 : PySem.W.codeIn K cd17 "law" = true)
    (k17 : PySem.W.keepIn K (.ref f17) = true)
    (x0_0 : PySem.W.nsIn K mainGlobals "PactlinkError" = some (some (.ref q0)))
    (x0_1 : PySem.W.excIn K q0 veRow "ValueError.__new__" = true)
    (x0_2 : PySem.W.keepIn K (.ref q0) = true)
    (x0_3 : PySem.W.subIn K (.ref q0) (.type "BaseException") = some true)
    (x0_4 : PySem.W.typeIn K (.ref q0) = some (.type "type"))
    (x0_5 : PySem.W.isClsIn K q0 = true)
    (x0_6 : PySem.W.subIn K (.ref q0) (.ref q0) = some true)
    (x0_7 : PySem.W.findIn K (.ref q0) "__getattribute__" = some (some (.builtin "BaseException.__getattribute__")))
    (x0_8 : PySem.W.findIn K (.ref q0) "__getattr__" = some none)
    (x0_9 : PySem.W.hasDictIn K q0 = true)
    (x0_10 : PySem.W.findIn K (.ref q0) "__class__" = some (some (.builtin "object.__class__")))
    (x0_11 : PySem.W.specialIn K (.builtin "object.__class__") "__get__" = some (some (.builtin "getset_descriptor.__get__")))
    (x0_12 : PySem.W.takesIn K (.builtin "object.__class__") = some true)
    (x0_13 : PySem.W.mroIn K q0 (.type "object") = some true)
    (x1_0 : PySem.W.nsIn K mainGlobals "BadText" = some (some (.ref q1)))
    (x1_1 : PySem.W.excIn K q1 veRow "ValueError.__new__" = true)
    (x1_2 : PySem.W.keepIn K (.ref q1) = true)
    (x1_3 : PySem.W.subIn K (.ref q1) (.type "BaseException") = some true)
    (x1_4 : PySem.W.typeIn K (.ref q1) = some (.type "type"))
    (x1_5 : PySem.W.isClsIn K q1 = true)
    (x1_6 : PySem.W.subIn K (.ref q1) (.ref q1) = some true)
    (x1_7 : PySem.W.findIn K (.ref q1) "__getattribute__" = some (some (.builtin "BaseException.__getattribute__")))
    (x1_8 : PySem.W.findIn K (.ref q1) "__getattr__" = some none)
    (x1_9 : PySem.W.hasDictIn K q1 = true)
    (x1_10 : PySem.W.findIn K (.ref q1) "__class__" = some (some (.builtin "object.__class__")))
    (x1_11 : PySem.W.specialIn K (.builtin "object.__class__") "__get__" = some (some (.builtin "getset_descriptor.__get__")))
    (x1_12 : PySem.W.takesIn K (.builtin "object.__class__") = some true)
    (x1_13 : PySem.W.mroIn K q1 (.type "object") = some true)
    (y1_0 : PySem.W.subIn K (.ref q1) (.ref q0) = some true)
    (y0_1 : PySem.W.subIn K (.ref q0) (.ref q1) = some false)
    (z0 : PySem.W.nsIn K mainGlobals "len" = some none)
    (z1 : PySem.W.nsIn K mainGlobals "abs" = some none)
    (z2 : PySem.W.nsIn K mainGlobals "int" = some none)
    (z3 : PySem.W.nsIn K mainGlobals "str" = some none)
    (z4 : PySem.W.nsIn K mainGlobals "ord" = some none)
    (z5 : PySem.W.nsIn K mainGlobals "tuple" = some none)
    (z6 : PySem.W.nsIn K mainGlobals "list" = some none)
    (z7 : PySem.W.nsIn K mainGlobals "all" = some none)
    (z8 : PySem.W.nsIn K mainGlobals "any" = some none)
    (z9 : PySem.W.nsIn K mainGlobals "sum" = some none)
    (z10 : PySem.W.nsIn K mainGlobals "divmod" = some none)
    (z11 : PySem.W.nsIn K mainGlobals "max" = some none)
    (z12 : PySem.W.nsIn K mainGlobals "min" = some none)
    (z13 : PySem.W.nsIn K mainGlobals "range" = some none)
    (z14 : PySem.W.nsIn K mainGlobals "isinstance" = some none)
    (z15 : PySem.W.nsIn K mainGlobals "bool" = some none) :
    ∃ (ca : Nat → Addr) (y : Str) (fd : FuncData), Fun K y y s17 fa fd ∧ (∀ (s : Shared) (u : Value), BindsTo s fd ⟨[u], []⟩ [("script", u)]) ∧ Wd K mg T ca D G := by
  have e := hfa.symm.trans (PySem.W.mg_of X Gm a17)
  cases e
  have Q0 := clsK_of (x := "PactlinkError") X Gm x0_0 x0_1 x0_2 x0_3 x0_4 x0_5 x0_6 x0_7 x0_8 x0_9 x0_10 x0_11 x0_12 x0_13
  have Q1 := clsK_of (x := "BadText") X Gm x1_0 x1_1 x1_2 x1_3 x1_4 x1_5 x1_6 x1_7 x1_8 x1_9 x1_10 x1_11 x1_12 x1_13
  refine ⟨fun c => match c with | 0 => q0 | 1 => q1 | _ => 0, "law", _, fun_mk (st := s17) l17 b17 k17, fun s u => .of_eq rfl, ⟨?_, kc, ?_, ?_⟩⟩
  · intro x f hx
    unfold T at hx
    simp only [List.lookup] at hx
    repeat' split at hx
    · rename_i e; have e := beq_iff_eq.mp e; subst e; cases hx; exact fnF_of X Gm sc0 c0 rfl (fun _ _ _ _ _ _ us hl => match us, hl with | [_], _ => rfl) a0 l0 b0 k0
    · rename_i e; have e := beq_iff_eq.mp e; subst e; cases hx; exact fnF_of X Gm sc1 c1 rfl (fun _ _ _ _ _ _ us hl => match us, hl with | [_], _ => rfl) a1 l1 b1 k1
    · rename_i e; have e := beq_iff_eq.mp e; subst e; cases hx; exact fnF_of X Gm sc2 c2 rfl (fun _ _ _ _ _ _ us hl => match us, hl with | [_], _ => rfl) a2 l2 b2 k2
    · rename_i e; have e := beq_iff_eq.mp e; subst e; cases hx; exact fnF_of X Gm sc3 c3 rfl (fun _ _ _ _ _ _ us hl => match us, hl with | [_], _ => rfl) a3 l3 b3 k3
    · rename_i e; have e := beq_iff_eq.mp e; subst e; cases hx; exact fnF_of X Gm sc4 c4 rfl (fun _ _ _ _ _ _ us hl => match us, hl with | [_, _], _ => rfl) a4 l4 b4 k4
    · rename_i e; have e := beq_iff_eq.mp e; subst e; cases hx; exact fnF_of X Gm sc5 c5 rfl (fun _ _ _ _ _ _ us hl => match us, hl with | [_], _ => rfl) a5 l5 b5 k5
    · rename_i e; have e := beq_iff_eq.mp e; subst e; cases hx; exact fnF_of X Gm sc6 c6 rfl (fun _ _ _ _ _ _ us hl => match us, hl with | [_], _ => rfl) a6 l6 b6 k6
    · rename_i e; have e := beq_iff_eq.mp e; subst e; cases hx; exact fnF_of X Gm sc7 c7 rfl (fun _ _ _ _ _ _ us hl => match us, hl with | [_, _], _ => rfl) a7 l7 b7 k7
    · rename_i e; have e := beq_iff_eq.mp e; subst e; cases hx; exact fnF_of X Gm sc8 c8 rfl (fun _ _ _ _ _ _ us hl => match us, hl with | [_, _], _ => rfl) a8 l8 b8 k8
    · rename_i e; have e := beq_iff_eq.mp e; subst e; cases hx; exact fnF_of X Gm sc9 c9 rfl (fun _ _ _ _ _ _ us hl => match us, hl with | [_], _ => rfl) a9 l9 b9 k9
    · rename_i e; have e := beq_iff_eq.mp e; subst e; cases hx; exact fnF_of X Gm sc10 c10 rfl (fun _ _ _ _ _ _ us hl => match us, hl with | [_, _], _ => rfl) a10 l10 b10 k10
    · rename_i e; have e := beq_iff_eq.mp e; subst e; cases hx; exact fnF_of X Gm sc11 c11 rfl (fun _ _ _ _ _ _ us hl => match us, hl with | [_], _ => rfl) a11 l11 b11 k11
    · rename_i e; have e := beq_iff_eq.mp e; subst e; cases hx; exact fnF_of X Gm sc12 c12 rfl (fun _ _ _ _ _ _ us hl => match us, hl with | [_, _], _ => rfl) a12 l12 b12 k12
    · rename_i e; have e := beq_iff_eq.mp e; subst e; cases hx; exact fnF_of X Gm sc13 c13 rfl (fun _ _ _ _ _ _ us hl => match us, hl with | [_, _], _ => rfl) a13 l13 b13 k13
    · rename_i e; have e := beq_iff_eq.mp e; subst e; cases hx; exact fnF_of X Gm sc14 c14 rfl (fun _ _ _ _ _ _ us hl => match us, hl with | [_], _ => rfl) a14 l14 b14 k14
    · rename_i e; have e := beq_iff_eq.mp e; subst e; cases hx; exact fnF_of X Gm sc15 c15 rfl (fun _ _ _ _ _ _ us hl => match us, hl with | [_, _], _ => rfl) a15 l15 b15 k15
    · rename_i e; have e := beq_iff_eq.mp e; subst e; cases hx; exact fnF_of X Gm sc16 c16 rfl (fun _ _ _ _ _ _ us hl => match us, hl with | [_, _], _ => rfl) a16 l16 b16 k16
    · rename_i e; have e := beq_iff_eq.mp e; subst e; cases hx; exact fnF_of X Gm sc17 c17 rfl (fun _ _ _ _ _ _ us hl => match us, hl with | [_], _ => rfl) a17 l17 b17 k17
    · cases hx
  · intro x c hx
    unfold T at hx
    simp only [List.lookup] at hx
    repeat' split at hx
    · rename_i e; have e := beq_iff_eq.mp e; subst e; cases hx
      refine clsF_of (y := fun d => match d with | 0 => "PactlinkError" | 1 => "BadText" | _ => "") Q0 (fun d hd => ?_) (fun d hd => ?_) (fun d hd => ?_)
      · have hd : d = 0 ∨ d = 1 := by simpa [T] using hd
        rcases hd with rfl | rfl
        · exact Q0
        · exact Q1
      · have hd : d = 0 ∨ d = 1 := by simpa [T] using hd
        rcases hd with rfl | rfl
        · exact Q0.self
        · exact y1_0
      · cases hd
    · rename_i e; have e := beq_iff_eq.mp e; subst e; cases hx
      refine clsF_of (y := fun d => match d with | 0 => "PactlinkError" | 1 => "BadText" | _ => "") Q1 (fun d hd => ?_) (fun d hd => ?_) (fun d hd => ?_)
      · have hd : d = 1 := by simpa [T] using hd
        subst hd; exact Q1
      · have hd : d = 1 := by simpa [T] using hd
        subst hd; exact Q1.self
      · have hd : d = 0 := by simpa [T] using hd
        subst hd; exact y0_1
    · cases hx
  · intro x hx
    have hx : x = "len" ∨ x = "abs" ∨ x = "int" ∨ x = "str" ∨ x = "ord" ∨ x = "tuple" ∨ x = "list" ∨ x = "all" ∨ x = "any" ∨ x = "sum" ∨ x = "divmod" ∨ x = "max" ∨ x = "min" ∨ x = "range" ∨ x = "isinstance" ∨ x = "bool" := by simpa [T] using hx
    rcases hx with rfl | rfl | rfl | rfl | rfl | rfl | rfl | rfl | rfl | rfl | rfl | rfl | rfl | rfl | rfl | rfl
    · exact PySem.W.mg_none_of X Gm z0
    · exact PySem.W.mg_none_of X Gm z1
    · exact PySem.W.mg_none_of X Gm z2
    · exact PySem.W.mg_none_of X Gm z3
    · exact PySem.W.mg_none_of X Gm z4
    · exact PySem.W.mg_none_of X Gm z5
    · exact PySem.W.mg_none_of X Gm z6
    · exact PySem.W.mg_none_of X Gm z7
    · exact PySem.W.mg_none_of X Gm z8
    · exact PySem.W.mg_none_of X Gm z9
    · exact PySem.W.mg_none_of X Gm z10
    · exact PySem.W.mg_none_of X Gm z11
    · exact PySem.W.mg_none_of X Gm z12
    · exact PySem.W.mg_none_of X Gm z13
    · exact PySem.W.mg_none_of X Gm z14
    · exact PySem.W.mg_none_of X Gm z15
theorem kc_of {K : PySem.W.Frag} {h : Heap} {mg : Str → Option Value} {p : Program} (XP : XL p [("BASE", WData.int 10000000000000000000000000000000000000000000000000000000000000000)] mg h) (X : K.In h) (Gm : h.Ns mainGlobals mg) {u1 u2 u3 : _}
    (h1 : PySem.W.nsIn K mainGlobals "DIGITS" = some (some (.str "0123456789" u1))) (h2 : PySem.W.nsIn K mainGlobals "DEPTH" = some (some (.int 40 u2))) (h3 : PySem.W.nsIn K mainGlobals "SIGNS" = some (some (.str "-0123456789" u3))) :
    ∀ x g, T.consts.lookup x = some g → ∃ v u pv, G g = some pv ∧ mg x = some u ∧ RelV v u ∧ ∀ xa H μ, Rel K xa H μ pv v := by
  intro x g hx
  unfold T at hx
  simp only [List.lookup] at hx
  repeat' split at hx
  · rename_i e; have e := beq_iff_eq.mp e; subst e; cases hx
    obtain ⟨v, e1, e2⟩ := XP.2.val _ (List.mem_singleton.mpr rfl)
    cases e2
    exact ⟨.int _, _, _, rfl, e1, ⟨_, rfl⟩, fun _ _ _ => rfl⟩
  · rename_i e; have e := beq_iff_eq.mp e; subst e; cases hx
    exact ⟨.str "0123456789", _, _, rfl, PySem.W.mg_of X Gm h1, ⟨_, rfl⟩, fun _ _ _ => rfl⟩
  · rename_i e; have e := beq_iff_eq.mp e; subst e; cases hx
    exact ⟨.int 40, _, _, rfl, PySem.W.mg_of X Gm h2, ⟨_, rfl⟩, fun _ _ _ => rfl⟩
  · rename_i e; have e := beq_iff_eq.mp e; subst e; cases hx
    exact ⟨.str "-0123456789", _, _, rfl, PySem.W.mg_of X Gm h3, ⟨_, rfl⟩, fun _ _ _ => rfl⟩
  · cases hx
end MP.K00

set_option Elab.async false
set_option linter.all false
set_option maxRecDepth 100000
set_option maxHeartbeats 4000000
/-! the law's first functions -/
namespace MP.K00
open MP
theorem u0 {k : Nat} (a : PV) (T : Store) : callF D G (k + 1) 0 [a] T = ofBody (exS (callF D G k) G t0 [some a, none, none] T) := rfl
theorem u1 {k : Nat} (a : PV) (T : Store) : callF D G (k + 1) 1 [a] T = ofBody (exS (callF D G k) G t1 [some a, none, none, none, none, none] T) := rfl
theorem u2 {k : Nat} (a : PV) (T : Store) : callF D G (k + 1) 2 [a] T = ofBody (exS (callF D G k) G t2 [some a, none, none] T) := rfl
theorem u3 {k : Nat} (a : PV) (T : Store) : callF D G (k + 1) 3 [a] T = ofBody (exS (callF D G k) G t3 [some a, none] T) := rfl
theorem u4 {k : Nat} (a b : PV) (T : Store) : callF D G (k + 1) 4 [a, b] T = ofBody (exS (callF D G k) G t4 [some a, some b, none] T) := rfl
theorem u5 {k : Nat} (a : PV) (T : Store) : callF D G (k + 1) 5 [a] T = ofBody (exS (callF D G k) G t5 [some a, none, none, none, none, none] T) := rfl
theorem u6 {k : Nat} (a : PV) (T : Store) : callF D G (k + 1) 6 [a] T = ofBody (exS (callF D G k) G t6 [some a] T) := rfl
theorem u7 {k : Nat} (a b : PV) (T : Store) : callF D G (k + 1) 7 [a, b] T = ofBody (exS (callF D G k) G t7 [some a, some b, none, none, none] T) := rfl
theorem u8 {k : Nat} (a b : PV) (T : Store) : callF D G (k + 1) 8 [a, b] T = ofBody (exS (callF D G k) G t8 [some a, some b] T) := rfl
theorem u9 {k : Nat} (a : PV) (T : Store) : callF D G (k + 1) 9 [a] T = ofBody (exS (callF D G k) G t9 [some a] T) := rfl
theorem u10 {k : Nat} (a b : PV) (T : Store) : callF D G (k + 1) 10 [a, b] T = ofBody (exS (callF D G k) G t10 [some a, some b, none, none] T) := rfl
theorem u11 {k : Nat} (a : PV) (T : Store) : callF D G (k + 1) 11 [a] T = ofBody (exS (callF D G k) G t11 [some a, none, none, none, none] T) := rfl
theorem u12 {k : Nat} (a b : PV) (T : Store) : callF D G (k + 1) 12 [a, b] T = ofBody (exS (callF D G k) G t12 [some a, some b, none, none] T) := rfl
theorem u13 {k : Nat} (a b : PV) (T : Store) : callF D G (k + 1) 13 [a, b] T = ofBody (exS (callF D G k) G t13 [some a, some b, none, none, none] T) := rfl
theorem u14 {k : Nat} (a : PV) (T : Store) : callF D G (k + 1) 14 [a] T = ofBody (exS (callF D G k) G t14 [some a, none, none] T) := rfl
theorem u15 {k : Nat} (a b : PV) (T : Store) : callF D G (k + 1) 15 [a, b] T = ofBody (exS (callF D G k) G t15 [some a, some b, none] T) := rfl
theorem u16 {k : Nat} (a b : PV) (T : Store) : callF D G (k + 1) 16 [a, b] T = ofBody (exS (callF D G k) G t16 [some a, some b, none] T) := rfl
theorem u17 {k : Nat} (a : PV) (T : Store) : callF D G (k + 1) 17 [a] T = ofBody (exS (callF D G k) G t17 [some a, none, none, none, none, none, none, none] T) := rfl
/-! ### is_int -/
theorem r9 {k : Nat} (i : Int) (T : Store) : callF D G (k + 1) 9 [.int i] T = .ok (.bl true) T := rfl
/-! ### draw -/
/-- the state: cells, place, rest, count -/
def stO (p q c : Int) : MO := .lst [.ref 0, .int p, .int q, .int c]
theorem mul_ok {x y : Int} (h0 : 0 ≤ x) (h1 : x < 2000000000000000000) (hy : y.natAbs.log2 < 900000) (S : Store) : binOp .mul (.int x) (.int y) S = .ok (.int (x * y)) S := by
  rw [mul_int, if_pos]
  have := log2_lt_of (a := x.natAbs) (n := 64) (by omega) (by omega)
  omega
theorem r7 {k : Nat} (ns : List Int) (R : Store) (p q c most : Int) (hm : 0 < most) (hm2 : most.natAbs.log2 < 9000) (hp : 0 ≤ p) (hq : 0 ≤ q) (hc : 0 ≤ c) (hc2 : c < 1000000000) :
    ∃ r p' q', callF D G (k + 1) 7 [.ref 1, .int most] (.lst (ns.map .int) :: stO p q c :: R) = .ok (.int r) (.lst (ns.map .int) :: stO p' q' (c + 1) :: R) ∧ 0 ≤ r ∧ r < most ∧ 0 ≤ p' ∧ 0 ≤ q' := by
  rw [u7]
  unfold t7 stO
  have e1 : ∀ x : Int, 0 ≤ x → x < 1000000000000000000 → ∀ S, binOp .mul (.int (x + 1)) (.int 48271) S = .ok (.int ((x + 1) * 48271)) S := fun x h0 h1 S => mul_ok (by omega) (by omega) (by decide +kernel) S
  have e2 : ∀ S, binOp .mul (.int (c + 1)) (.int 69621) S = .ok (.int ((c + 1) * 69621)) S := fun S => mul_ok (by omega) (by omega) (by decide +kernel) S
  have e3 : ∀ (x : Int) S, binOp .mul (.int (x % 2147483647)) (.int 16807) S = .ok (.int (x % 2147483647 * 16807)) S := fun x S => mul_ok (Int.emod_nonneg _ (by decide)) (by have := Int.emod_lt_of_pos x (b := 2147483647) (by decide); omega) (by decide +kernel) S
  have l97 : Nat.log2 97 < 9000 := by decide +kernel
  have l11 : Nat.log2 11 < 9000 := by decide +kernel
  by_cases h1 : 0 < q
  · simp [hm, hm2, h1]
    exact ⟨_, p, _, ⟨rfl, rfl, rfl⟩, Int.emod_nonneg _ (by omega), Int.emod_lt_of_pos _ hm, hp, Int.ediv_nonneg hq (by omega)⟩
  · cases ns with
    | nil =>
      have e1' := e1 0 (by decide) (by decide)
      have e4 : ∀ S, binOp .mul (.int 1) (.int 48271) S = .ok (.int 48271) S := fun S => mul_ok (by decide) (by decide) (by decide +kernel) S
      simp [hm, hm2, h1, e4, e2, e3, l97, l11]
      exact ⟨_, _, _, ⟨rfl, rfl, rfl⟩, Int.emod_nonneg _ (by omega), Int.emod_lt_of_pos _ hm, by omega, hq⟩
    | cons n ns =>
      have hl : (0 : Int) < (ns.length : Int) + 1 := by omega
      have h3 := Int.emod_nonneg p (b := (ns.length : Int) + 1) (by omega)
      have h4 := Int.emod_lt_of_pos p hl
      have e5 : normI (ns.length + 1) (p % ((ns.length : Int) + 1)) = some (p % ((ns.length : Int) + 1)).toNat := norm_in h3 (by omega)
      obtain ⟨z, e6⟩ : ∃ z, (PV.int n :: List.map PV.int ns)[(p % ((ns.length : Int) + 1)).toNat]? = some (.int z) := by
        have : (p % ((ns.length : Int) + 1)).toNat < (n :: ns).length := by
          rw [List.length_cons]
          omega
        refine ⟨(n :: ns)[(p % ((ns.length : Int) + 1)).toNat], ?_⟩
        rw [show PV.int n :: List.map PV.int ns = (n :: ns).map PV.int from rfl, List.getElem?_map, List.getElem?_eq_getElem this]
        rfl
      have h5 : 0 ≤ (if z < 0 then -z else z) := by split <;> omega
      generalize hx : (if z < 0 then -z else z) = x at h5
      by_cases h6 : 1000000000000000000 ≤ x
      · simp [hm, hm2, h1, e5, e6, hx, h6, hl]
        exact ⟨_, _, _, ⟨rfl, rfl, rfl⟩, Int.emod_nonneg _ (by omega), Int.emod_lt_of_pos _ hm, by omega, Int.ediv_nonneg h5 (by omega)⟩
      · have e1' := e1 x h5 (by omega)
        simp [hm, hm2, h1, e5, e6, hx, h6, hl, e1', e2, e3, l97, l11]
        exact ⟨_, _, _, ⟨rfl, rfl, rfl⟩, Int.emod_nonneg _ (by omega), Int.emod_lt_of_pos _ hm, by omega, hq⟩
end MP.K00

set_option Elab.async false
set_option linter.all false
set_option maxRecDepth 100000
set_option maxHeartbeats 4000000
/-! integers: figures, write, read -/
namespace MP.K00
open MP
theorem ifsz {α : Type} {n : Nat} {a b : α} (h : n ≤ 16777216) : (if n ≤ SZ then a else b) = a := if_pos h
theorem pow_div {B t L : Nat} (hB : 0 < B) (h : L < B ^ (t + 1 + 1)) : L / B < B ^ (t + 1) := by
  rw [Nat.pow_succ] at h
  exact (Nat.div_lt_iff_lt_mul hB).mpr h
/-- the great power -/
theorem b18p : (1000000000000000000 : Nat) = 10 ^ 18 := by decide
/-! ### draws -/
def St (m : Nat) (a : MO) : Prop := ∃ p q c : Int, a = stO p q c ∧ 0 ≤ p ∧ 0 ≤ q ∧ 0 ≤ c ∧ c ≤ m
theorem St.mono {m n : Nat} {a : MO} (h : St m a) (l : m ≤ n) : St n a := by
  obtain ⟨p, q, c, e, h1, h2, h3, h4⟩ := h
  exact ⟨p, q, c, e, h1, h2, h3, by omega⟩
theorem draw {k m : Nat} {ns : List Int} {R : Store} {a : MO} (h : St m a) (hm : m < 100000000) (most : Nat) (h1 : 0 < most) (h2 : most ≤ 1000000000000000000) :
    ∃ (r : Nat) (a' : MO), callF D G (k + 1) 7 [.ref 1, .int most] (.lst (ns.map .int) :: a :: R) = .ok (.int r) (.lst (ns.map .int) :: a' :: R) ∧ r < most ∧ St (m + 1) a' := by
  obtain ⟨p, q, c, rfl, hp, hq, hc, hc2⟩ := h
  obtain ⟨r, p', q', e, r0, r1, hp', hq'⟩ := r7 (k := k) ns R p q c most (by omega) (by
    have := log2_lt_of (a := (most : Int).natAbs) (n := 64) (by omega) (by omega)
    omega) hp hq hc (by omega)
  refine ⟨r.toNat, _, ?_, by omega, p', q', c + 1, rfl, hp', hq', by omega, by omega⟩
  rw [e, show ((r.toNat : Nat) : Int) = r by omega]
theorem one_of {k m j : Nat} {ns : List Int} {R : Store} {a : MO} {xs : List PV} (h : St m a) (hm : m < 100000000) (hR : R[j]? = some (.lst xs)) (h0 : xs ≠ []) (h1 : xs.length ≤ 1000) :
    ∃ (v : PV) (a' : MO), callF D G (k + 2) 8 [.ref 1, .ref (j + 2)] (.lst (ns.map .int) :: a :: R) = .ok v (.lst (ns.map .int) :: a' :: R) ∧ v ∈ xs ∧ St (m + 1) a' := by
  have hl : 0 < xs.length := List.length_pos_iff.mpr h0
  obtain ⟨r, a', e, hr, s⟩ := draw (k := k) (ns := ns) (R := R) h hm xs.length hl (by omega)
  refine ⟨xs[r], a', ?_, List.getElem_mem _, s⟩
  rw [u8]
  unfold t8
  simp [hR, e, norm_in (n := xs.length) (i := r) (by omega) (by omega), hr]
/-! ### figures -/
theorem body11 {k : Nat} {num x3 x4 : Option PV} {L : Nat} {s : List Nat} {T : Store} (hL : L.log2 < 12060) (hs : s.length ≤ 1000000) :
    exS (callF D G k) G (.seq (.ite (.cmp .lt (.var 1) (.bin .pow (.lit (.int 10)) (.lit (.int 18)))) (.seq .brk .skip) .skip) (.seq (.asg (.nm 4) (.bin .sub (.var 1) (.bin .mul (.bin .fdiv (.var 1) (.bin .pow (.lit (.int 10)) (.lit (.int 18)))) (.bin .pow (.lit (.int 10)) (.lit (.int 18)))))) (.seq (.asg (.nm 2) (.bin .add (.slice (.prim .str (.cons (.bin .add (.bin .pow (.lit (.int 10)) (.lit (.int 18))) (.var 4)) .nil)) (.lit (.int 1)) (.lit .non) true false) (.var 2))) (.seq (.asg (.nm 1) (.bin .fdiv (.var 1) (.bin .pow (.lit (.int 10)) (.lit (.int 18))))) .skip)))) [num, some (.int L), some (.str s), x3, x4] T =
      if L < 1000000000000000000 then .ok (.brk [num, some (.int L), some (.str s), x3, x4]) T else .ok (.next [num, some (.int (L / 1000000000000000000 : Nat)), some (.str (pad 18 (L % 1000000000000000000) ++ s)), x3, some (.int (L % 1000000000000000000 : Nat))]) T := by
  by_cases h : L < 1000000000000000000
  · have h' : (L : Int) < 1000000000000000000 := by omega
    simp [h, h']
  · have h' : ¬ (L : Int) < 1000000000000000000 := by omega
    have l18 : Nat.log2 1000000000000000000 < 9000 := by decide +kernel
    have e1 : ((L : Int) / 1000000000000000000).natAbs.log2 + (1000000000000000000 : Int).natAbs.log2 < 1000000 := by
      have : ((L : Int) / 1000000000000000000).natAbs = L / 1000000000000000000 := by omega
      rw [this]
      have h2 : (L / 1000000000000000000).log2 < 12060 := by
        have a1 : L < 2 ^ 12060 := by
          by_cases e : L = 0
          · subst e; exact Nat.pow_pos (by decide)
          · exact (Nat.log2_lt e).mp hL
        exact log2_lt_of (Nat.lt_of_le_of_lt (Nat.div_le_self _ _) a1) (by decide)
      have h3 : (1000000000000000000 : Int).natAbs.log2 < 9000 := by decide +kernel
      omega
    have e2 : (L : Int) - (L : Int) / 1000000000000000000 * 1000000000000000000 = (L % 1000000000000000000 : Nat) := by omega
    have e3 : (1000000000000000000 : Int) + ((L % 1000000000000000000 : Nat) : Int) = ((1 * 10 ^ 18 + L % 1000000000000000000 : Nat) : Int) := by
      show (1000000000000000000 : Int) + ((L % 1000000000000000000 : Nat) : Int) = ((1 * 1000000000000000000 + L % 1000000000000000000 : Nat) : Int)
      omega
    have e4 : ((1 * 10 ^ 18 + L % 1000000000000000000 : Nat) : Int).natAbs.log2 < 1920 := by
      have : (1 * 10 ^ 18 + L % 1000000000000000000 : Nat) < 2 ^ 64 := by
        show (1 * 1000000000000000000 + L % 1000000000000000000 : Nat) < 18446744073709551616
        omega
      have := log2_lt_of this (by decide)
      rw [Int.natAbs_natCast]
      exact Nat.lt_trans this (by decide)
    have e5 : decText ((1 * 10 ^ 18 + L % 1000000000000000000 : Nat) : Int) = 49 :: pad 18 (L % 1000000000000000000) := by
      rw [decText_nat, dg_split 18 1 (L % 1000000000000000000) (by decide) (Nat.mod_lt _ (by decide)), dg_lt (by decide)]
      exact List.singleton_append
    have e6 : (L : Int) / 1000000000000000000 = (L / 1000000000000000000 : Nat) := by omega
    simp only [h, h', ex_seq, ex_ite, evT_eq, ev_cmp, ev_var, ev_bin, ev_lit, List.getElem?_cons_succ, List.getElem?_cons_zero, sV_int, ofOpt_some, bind_ok, pow_18, lt_int, decide_false, tr_bl, bindS_ok, Bool.false_eq_true, if_false, ex_skip, seqS_next, ex_asg, sV_str, fdiv_int, if_pos, l18]
    rw [if_pos (show (0 : Int) < 1000000000000000000 ∧ (1000000000000000000 : Int).natAbs.log2 < 9000 from ⟨by decide, l18⟩), bind_ok, mul_int, if_pos e1, bind_ok, sub_int, bindS_ok, e2]
    simp only [bT_nm, nextO_some, seqS_next, List.set_cons_succ, List.set_cons_zero, List.getElem?_cons_succ, List.getElem?_cons_zero, sV_int, ofOpt_some, bind_ok, ev_slice, ev_prim, ev_cons, ev_bin, ev_lit, pow_18, ev_var, add_int, ev_nil, asTup_tup, p_str, e3]
    rw [if_pos e4, bind_ok, e5]
    simp only [bind_ok, po_t, po_f, if_true, slice_from1, List.length_cons, pad_len, List.drop_succ_cons, List.drop_zero]
    rw [ifsz (by decide), bind_ok]
    simp only [sV_str, ofOpt_some, bind_ok, add_str, pad_len]
    rw [ifsz (by omega), bindS_ok]
    simp only [nextO_some, seqS_next, List.getElem?_cons_succ, List.getElem?_cons_zero, sV_int, ofOpt_some, bind_ok, fdiv_int]
    rw [if_pos (show (0 : Int) < 1000000000000000000 ∧ (1000000000000000000 : Int).natAbs.log2 < 9000 from ⟨by decide, l18⟩), bindS_ok, e6]
    simp only [bT_nm, nextO_some, seqS_next, List.set_cons_succ, List.set_cons_zero]
/-- the loop of figures_of -/
theorem loop11 {num : Option PV} {T : Store} (B : Nat) (hB : B = 10 ^ 18) (b : Nv → Store → ResS) (hb : ∀ (L : Nat) (s : List Nat) (x3 x4 : Option PV), L.log2 < 12060 → s.length ≤ 1000000 → b [num, some (.int L), some (.str s), x3, x4] T = if L < B then .ok (.brk [num, some (.int L), some (.str s), x3, x4]) T else .ok (.next [num, some (.int (L / B : Nat)), some (.str (pad 18 (L % B) ++ s)), x3, some (.int (L % B : Nat))]) T) :
    ∀ (t n i L : Nat) (s : List Nat) (x3 x4 : Option PV), L < B ^ (t + 1) → i + t < 200 → t + 2 ≤ n → s.length ≤ 18 * i →
    ∃ (l : Nat) (s' : List Nat) (y3 y4 : Option PV), iterL (.range 0 1 9999) (.nm 3) b n i [num, some (.int L), some (.str s), x3, x4] T = .ok (.next [num, some (.int l), some (.str s'), y3, y4]) T ∧ l < B ∧ dg l ++ s' = dg L ++ s ∧ s'.length ≤ 3600 := by
  have hB0 : 0 < B := by rw [hB]; decide
  have hB2 : B ≤ 2 ^ 60 := by rw [hB]; decide
  have hat : ∀ i, i < 9999 → (Wk.range 0 1 9999).at i T = some (some (.int (0 + i * 1))) := fun i hi => by
      show some (if i < 9999 then some (PV.int (0 + i * 1)) else none) = _
      rw [if_pos hi]
  intro t
  induction t with
  | zero =>
    intro n i L s x3 x4 hL hi hn hs
    obtain ⟨n, rfl⟩ : ∃ m, n = m + 1 := ⟨n - 1, by omega⟩
    have hL' : L < B := by simpa using hL
    have hb' := hb L s (some (.int (0 + i * 1))) x4 (Nat.lt_of_lt_of_le (log2_lt_of (n := 60) (by omega) (by decide)) (by decide)) (by omega)
    rw [if_pos hL'] at hb'
    exact ⟨L, s, _, _, iterL_brk (hat i (by omega)) hb', hL', rfl, by omega⟩
  | succ t ih =>
    intro n i L s x3 x4 hL hi hn hs
    obtain ⟨n, rfl⟩ : ∃ m, n = m + 1 := ⟨n - 1, by omega⟩
    have hlog : L.log2 < 12060 := by
      refine log2_lt_of ?_ (by decide)
      have h1 : B ^ (t + 1 + 1) ≤ (2 ^ 60) ^ (t + 1 + 1) := Nat.pow_le_pow_left hB2 _
      rw [← Nat.pow_mul] at h1
      have h2 : 2 ^ (60 * (t + 1 + 1)) ≤ 2 ^ 12060 := Nat.pow_le_pow_right (by decide) (by omega)
      exact Nat.lt_of_lt_of_le hL (Nat.le_trans h1 h2)
    have hb' := hb L s (some (.int (0 + i * 1))) x4 hlog (by omega)
    by_cases h : L < B
    · rw [if_pos h] at hb'
      exact ⟨L, s, _, _, iterL_brk (hat i (by omega)) hb', h, rfl, by omega⟩
    · rw [if_neg h] at hb'
      have hq : L / B < B ^ (t + 1) := pow_div hB0 hL
      obtain ⟨l, s', y3, y4, e, h1, h2, h3⟩ := ih n (i + 1) (L / B) (pad 18 (L % B) ++ s) (some (.int (0 + i * 1))) (some (.int (L % B : Nat))) hq (by omega) (by omega) (by rw [List.length_append, pad_len]; omega)
      refine ⟨l, s', y3, y4, ?_, h1, ?_, h3⟩
      · rw [iterL_next (σ := [num, some (.int L), some (.str s), x3, x4]) (hat i (by omega)) hb']
        exact e
      · rw [h2, ← List.append_assoc]
        have := dg_split 18 (L / B) (L % B) (Nat.div_pos (by omega) hB0) (by rw [← hB]; exact Nat.mod_lt _ hB0)
        rw [← this, ← hB, Nat.mul_comm, Nat.div_add_mod]
theorem fu_big : 59 + 2 ≤ FU := by unfold FU; omega
/-- behind the loop -/
theorem tail11 {k : Nat} (i : Int) (T : Store) (l : Nat) (s' : List Nat) (y3 y4 : Option PV) (hl : (l : Int).natAbs.log2 < 1920) (hlen : (dg l).length ≤ 18) (h3 : s'.length ≤ 3600) (hd : dg l ++ s' = dg i.natAbs) :
    ofBody (exS (callF D G k) G (.seq (.asg (.nm 2) (.bin .add (.prim .str (.cons (.var 1) .nil)) (.var 2))) (.seq (.ite (.cmp .lt (.var 0) (.lit (.int 0))) (.seq (.ret (.bin .add (.lit (.str [45])) (.var 2))) .skip) .skip) (.seq (.ret (.var 2)) .skip))) [some (.int i), some (.int l), some (.str s'), y3, y4] T) = .ok (.str (decText i)) T := by
  simp only [ex_seq, ex_asg, seqS_next, List.getElem?_cons_succ, List.getElem?_cons_zero, sV_int, ofOpt_some, bind_ok, ev_bin, ev_prim, ev_cons, ev_var, ev_nil, asTup_tup, p_str]
  rw [if_pos hl, bind_ok, decText_nat]
  simp only [sV_str, ofOpt_some, bind_ok, add_str]
  rw [ifsz (by omega), bindS_ok, hd]
  simp only [nextO_some, seqS_next, bT_nm, List.set_cons_succ, List.set_cons_zero, ex_ite, evT_eq, ev_cmp, ev_var, List.getElem?_cons_zero, List.getElem?_cons_succ, sV_int, sV_str, ofOpt_some, bind_ok, ev_lit, lt_int, tr_bl, bindS_ok]
  have hdl : (dg i.natAbs).length ≤ 4000 := by rw [← hd, List.length_append]; omega
  by_cases hn : i < 0
  · simp only [hn, decide_true, if_true, ex_ret, ex_seq, ev_bin, ev_lit, ev_var, List.getElem?_cons_zero, List.getElem?_cons_succ, sV_str, ofOpt_some, bind_ok, add_str, List.length_cons, List.length_nil]
    rw [ifsz (by omega), bindS_ok, seqS_ret, seqS_ret, ofB_ret]
    obtain ⟨j, rfl⟩ : ∃ j : Nat, i = -((j + 1 : Nat) : Int) := ⟨i.natAbs - 1, by omega⟩
    rw [decText_neg, Int.natAbs_neg, Int.natAbs_natCast]
    rfl
  · simp only [hn, decide_false, Bool.false_eq_true, if_false, ex_skip, seqS_next, ex_ret, ex_seq, ev_var, List.getElem?_cons_zero, List.getElem?_cons_succ, sV_str, ofOpt_some, bindS_ok, seqS_ret, ofB_ret]
    obtain ⟨j, rfl⟩ : ∃ j : Nat, i = (j : Int) := ⟨i.natAbs, by omega⟩
    rw [decText_nat, Int.natAbs_natCast]
theorem key11 {k : Nat} (i : Int) (T : Store) (h : i.natAbs < (10 ^ 18) ^ 60) : ∃ (l : Nat) (s' : List Nat) (y3 y4 : Option PV), loopO (some (.range 0 1 9999)) (.nm 3) (exS (callF D G k) G (.seq (.ite (.cmp .lt (.var 1) (.bin .pow (.lit (.int 10)) (.lit (.int 18)))) (.seq .brk .skip) .skip) (.seq (.asg (.nm 4) (.bin .sub (.var 1) (.bin .mul (.bin .fdiv (.var 1) (.bin .pow (.lit (.int 10)) (.lit (.int 18)))) (.bin .pow (.lit (.int 10)) (.lit (.int 18)))))) (.seq (.asg (.nm 2) (.bin .add (.slice (.prim .str (.cons (.bin .add (.bin .pow (.lit (.int 10)) (.lit (.int 18))) (.var 4)) .nil)) (.lit (.int 1)) (.lit .non) true false) (.var 2))) (.seq (.asg (.nm 1) (.bin .fdiv (.var 1) (.bin .pow (.lit (.int 10)) (.lit (.int 18))))) .skip))))) [some (.int i), some (.int (i.natAbs : Int)), some (.str []), none, none] T = .ok (.next [some (.int i), some (.int l), some (.str s'), y3, y4]) T ∧ l < 10 ^ 18 ∧ dg l ++ s' = dg i.natAbs ∧ s'.length ≤ 3600 := by
  obtain ⟨B, hB⟩ : ∃ B : Nat, B = 10 ^ 18 := ⟨_, rfl⟩
  rw [← hB] at h ⊢
  obtain ⟨l, s', y3, y4, e, h1, h2, h3⟩ := loop11 (num := some (.int i)) (T := T) B hB (exS (callF D G k) G _) (fun L s x3 x4 h1 h2 => by rw [hB, ← b18p]; exact body11 (k := k) h1 h2) 59 FU 0 i.natAbs [] none none h (by decide) fu_big (Nat.le_refl _)
  exact ⟨l, s', y3, y4, (loopO_some _ _ _).trans e, h1, by rw [h2, List.append_nil], h3⟩
end MP.K00

set_option Elab.async false
set_option linter.all false
set_option maxRecDepth 100000
set_option maxHeartbeats 4000000
namespace MP.K00
open MP
theorem hl11 {l : Nat} (h1 : l < 10 ^ 18) : ((l : Int)).natAbs.log2 < 1920 := by
  rw [Int.natAbs_natCast]
  exact Nat.lt_trans (log2_lt_of (n := 64) (Nat.lt_of_lt_of_le h1 (by decide)) (by decide)) (by decide)
theorem hw11 : walkOf .range [PV.int 9999] = some (.range 0 1 9999) := rfl
theorem a11 {k : Nat} (i : Int) (T : Store) : exS (callF D G k) G (.asg (.nm 1) (.prim .abs (.cons (.var 0) .nil))) [some (.int i), none, none, none, none] T = .ok (.next [some (.int i), some (.int (i.natAbs : Int)), none, none, none]) T := by
  have habs : (if i < 0 then -i else i) = (i.natAbs : Int) := by split <;> omega
  simp [habs]
/-- the whole of figures_of -/
theorem r11 {k : Nat} (i : Int) (T : Store) (h : i.natAbs < (10 ^ 18) ^ 60) : callF D G (k + 1) 11 [.int i] T = .ok (.str (decText i)) T := by
  obtain ⟨l, s', y3, y4, e, h1, hd, h3⟩ := key11 (k := k) i T h
  have t := tail11 (k := k) i T l s' y3 y4 (hl11 h1) (dg_len_le 18 l (by decide) h1) h3 hd
  rw [u11]
  unfold t11
  rw [seq_next (a11 i T), seq_next (b := .seq (.loop _ _ _ _) _) (σ1 := [some (.int i), some (.int (i.natAbs : Int)), some (.str []), none, none]) (T1 := T) rfl, seq_next (loop_is (T1 := T) (vs := [PV.int 9999]) rfl hw11 e)]
  exact t
end MP.K00

set_option Elab.async false
set_option linter.all false
set_option maxRecDepth 100000
set_option maxHeartbeats 4000000
/-! write_integer -/
namespace MP.K00
open MP
theorem strsOf_map : ∀ ss : List (List Nat), strsOf (ss.map PV.str) = some ss
  | [] => rfl
  | s :: ss => by
    show (strsOf (ss.map PV.str)).map (s :: ·) = _
    rw [strsOf_map ss]
    rfl
theorem joinT_nil : ∀ ss : List (List Nat), joinT [] ss = ss.flatten
  | [] => rfl
  | [x] => by simp [joinT]
  | x :: y :: r => by
    show x ++ [] ++ joinT [] (y :: r) = _
    rw [joinT_nil (y :: r)]
    simp
theorem joinR_map (sep : List Nat) (ss : List (List Nat)) (T : Store) : joinR sep (some (ss.map PV.str)) T = if ((ss.map (·.length)).sum + ss.length * sep.length) ≤ SZ then .ok (.str (joinT sep ss)) T else .bad := by
  show (match strsOf (ss.map PV.str) with
      | some ss => if ((ss.map (fun x : List Nat => x.length)).sum + ss.length * sep.length) ≤ SZ then Res.ok (PV.str (joinT sep ss)) T else .bad
      | none => .bad) = _
  rw [strsOf_map]
theorem zf {n : Nat} (h : n < 10 ^ 64) (T : Store) : methOp .zfill (.str (dg n)) [.int 64] T = .ok (.str (pad 64 n)) T := by
  have h1 := dg_digit n
  have h2 := dg_len_le 64 n (by decide) h
  have h3 := pad_zfill 64 n (by decide) h
  cases e : dg n with
  | nil => have := dg_pos n; rw [e] at this; simp at this
  | cons c r =>
    rw [e] at h1 h2 h3
    have hc := h1 c (by simp)
    have hd : isDig c = true := by unfold isDig; simp [hc.1, hc.2]
    show (if isDig c = true ∧ (c :: r).length ≤ SZ then Res.ok (PV.str (List.replicate (64 - (c :: r).length) 48 ++ (c :: r))) T else .bad) = _
    rw [if_pos ⟨hd, show (c :: r).length ≤ 16777216 by omega⟩, h3]
theorem body0 {k : Nat} {N : Nat} {x2 : Option PV} {cs : List (List Nat)} {T : Store} (B : Nat) (hB : B = 10000000000000000000000000000000000000000000000000000000000000000) (hN : N.log2 < 4000) (hc : cs.length < 1000) :
    exS (callF D G k) G (.seq (.asg (.tp [0, 2]) (.prim .divmod (.cons (.var 0) (.cons (.glob 0) .nil)))) (.seq (.exp (.meth .append (.var 1) (.cons (.meth .zfill (.prim .str (.cons (.var 2) .nil)) (.cons (.lit (.int 64)) .nil)) .nil))) .skip)) [some (.int N), some (.ref T.length), x2] (T ++ [.lst (cs.map .str)]) =
      .ok (.next [some (.int (N / B : Nat)), some (.ref T.length), some (.int (N % B : Nat))]) (T ++ [.lst ((cs ++ [pad 64 (N % B)]).map .str)]) := by
  have hG : G 0 = some (.int (B : Int)) := by rw [hB]; rfl
  have hB0 : 0 < B := by rw [hB]; decide
  have hBl : N % B < 10 ^ 64 := by have := Nat.mod_lt N hB0; rw [hB] at this ⊢; exact this
  have hl : (N % B).log2 < 1920 := by
    exact Nat.lt_trans (log2_lt_of (n := 256) (Nat.lt_trans hBl (by decide)) (by decide)) (by decide)
  have hd : primOp .divmod [.int N, .int B] (T ++ [.lst (cs.map .str)]) = .ok (.tup [.int (N / B : Nat), .int (N % B : Nat)]) (T ++ [.lst (cs.map .str)]) := by
    rw [p_divmod, if_pos ⟨by omega, by rw [Int.natAbs_natCast]; exact hN⟩, Int.natCast_ediv, Int.natCast_emod]
  have hcl : cs.length < SZ := by show _ < 16777216; omega
  have hz := zf hBl (T ++ [.lst (cs.map .str)])
  generalize N / B = q at *
  generalize N % B = r at *
  have e1 : exS (callF D G k) G (.asg (.tp [0, 2]) (.prim .divmod (.cons (.var 0) (.cons (.glob 0) .nil)))) [some (.int N), some (.ref T.length), x2] (T ++ [.lst (cs.map .str)]) = .ok (.next [some (.int q), some (.ref T.length), some (.int r)]) (T ++ [.lst (cs.map .str)]) := by
    simp [hG, hd]
  rw [seq_next e1]
  simp [hl, decText_nat, hz, hcl]
theorem loop0 {k : Nat} {T : Store} (B : Nat) (hB : B = 10000000000000000000000000000000000000000000000000000000000000000) : ∀ (t n N : Nat) (cs : List (List Nat)) (x2 : Option PV), N < B ^ (t + 1) → cs.length + t ≤ 17 → t + 1 ≤ n →
    ∃ (l : Nat) (cs' : List (List Nat)) (y2 : Option PV), whileL (evT (callF D G k) G (.cmp .ge (.var 0) (.glob 0))) (exS (callF D G k) G (.seq (.asg (.tp [0, 2]) (.prim .divmod (.cons (.var 0) (.cons (.glob 0) .nil)))) (.seq (.exp (.meth .append (.var 1) (.cons (.meth .zfill (.prim .str (.cons (.var 2) .nil)) (.cons (.lit (.int 64)) .nil)) .nil))) .skip))) n [some (.int N), some (.ref T.length), x2] (T ++ [.lst (cs.map .str)]) =
      .ok (.next [some (.int l), some (.ref T.length), y2]) (T ++ [.lst (cs'.map .str)]) ∧ l < B ∧ dg l ++ cs'.reverse.flatten = dg N ++ cs.reverse.flatten ∧ cs'.length ≤ 19 ∧ cs'.flatten.length = cs.flatten.length + 64 * (cs'.length - cs.length) ∧ cs.length ≤ cs'.length := by
  have hB0 : 0 < B := by rw [hB]; decide
  have hB2 : B ≤ 2 ^ 213 := by rw [hB]; decide
  have hB10 : B = 10 ^ 64 := by rw [hB]
  have hG : G 0 = some (.int (B : Int)) := by rw [hB]; rfl
  have hc1 : ∀ (N : Nat) (x1 x2 : Option PV) (T : Store), B ≤ N → evT (callF D G k) G (.cmp .ge (.var 0) (.glob 0)) [some (.int N), x1, x2] T = .ok true T := fun N x1 x2 T h => by simp [hG, h]
  have hc2 : ∀ (N : Nat) (x1 x2 : Option PV) (T : Store), N < B → evT (callF D G k) G (.cmp .ge (.var 0) (.glob 0)) [some (.int N), x1, x2] T = .ok false T := fun N x1 x2 T h => by simp [hG, h]
  have hb := fun (N : Nat) (x2 : Option PV) (cs : List (List Nat)) (h1 : N.log2 < 4000) (h2 : cs.length < 1000) => body0 (k := k) (x2 := x2) (T := T) B hB h1 h2
  generalize evT (callF D G k) G (.cmp .ge (.var 0) (.glob 0)) = c at *
  generalize exS (callF D G k) G (.seq (.asg (.tp [0, 2]) (.prim .divmod (.cons (.var 0) (.cons (.glob 0) .nil)))) _) = b at *
  intro t
  induction t with
  | zero =>
    intro n N cs x2 hN hl hn
    obtain ⟨n, rfl⟩ : ∃ m, n = m + 1 := ⟨n - 1, by omega⟩
    have hN' : N < B := by simpa using hN
    exact ⟨N, cs, x2, whileL_end (hc2 _ _ _ _ hN'), hN', rfl, by omega, by omega, Nat.le_refl _⟩
  | succ t ih =>
    intro n N cs x2 hN hl hn
    obtain ⟨n, rfl⟩ : ∃ m, n = m + 1 := ⟨n - 1, by omega⟩
    by_cases h : N < B
    · exact ⟨N, cs, x2, whileL_end (hc2 _ _ _ _ h), h, rfl, by omega, by omega, Nat.le_refl _⟩
    · have hlog : N.log2 < 4000 := by
        refine log2_lt_of ?_ (by decide)
        have h1 : B ^ (t + 1 + 1) ≤ (2 ^ 213) ^ (t + 1 + 1) := Nat.pow_le_pow_left hB2 _
        rw [← Nat.pow_mul] at h1
        have h2 : 2 ^ (213 * (t + 1 + 1)) ≤ 2 ^ 4000 := Nat.pow_le_pow_right (by decide) (by omega)
        exact Nat.lt_of_lt_of_le hN (Nat.le_trans h1 h2)
      obtain ⟨l, cs', y2, e, h1, h2, h3, h4, h5⟩ := ih n (N / B) (cs ++ [pad 64 (N % B)]) (some (.int (N % B : Nat))) (pow_div hB0 hN) (by rw [List.length_append, List.length_singleton]; omega) (by omega)
      refine ⟨l, cs', y2, ?_, h1, ?_, h3, ?_, ?_⟩
      · rw [whileL_next (hc1 _ _ _ _ (by omega)) (hb N x2 cs hlog (by omega))]
        exact e
      · rw [h2, List.reverse_append, List.reverse_singleton, List.singleton_append, List.flatten_cons, ← List.append_assoc]
        have := dg_split 64 (N / B) (N % B) (Nat.div_pos (by omega) hB0) (by rw [← hB10]; exact Nat.mod_lt _ hB0)
        rw [← this, ← hB10, Nat.mul_comm, Nat.div_add_mod]
      · rw [h4, List.flatten_append, List.length_append, List.length_append, List.length_singleton]
        rw [List.length_append, List.length_singleton] at h5
        have : [pad 64 (N % B)].flatten.length = 64 := by simp [pad_len]
        omega
      · rw [List.length_append, List.length_singleton] at h5
        omega
theorem r0n {k : Nat} (N : Nat) (T : Store) (h : N < (10 ^ 18) ^ 60) : ∃ X, callF D G (k + 1) 0 [.int N] T = .ok (.str (dg N)) (T ++ X) := by
  obtain ⟨B, hB⟩ : ∃ B : Nat, B = 10000000000000000000000000000000000000000000000000000000000000000 := ⟨_, rfl⟩
  have hbig : N < B ^ (17 + 1) := by
    have : (10 ^ 18) ^ 60 ≤ B ^ (17 + 1) := by rw [hB]; decide
    exact Nat.lt_of_lt_of_le h this
  have hlen : ∀ l < B, (dg l).length ≤ 64 := fun l hl => dg_len_le 64 l (by decide) (by rw [hB] at hl; exact hl)
  have hlog : ∀ l < B, l.log2 < 1920 := fun l hl => Nat.lt_trans (log2_lt_of (n := 256) (Nat.lt_of_lt_of_le hl (by rw [hB]; decide)) (by decide)) (by decide)
  have key : ∃ (l : Nat) (cs' : List (List Nat)) (y2 : Option PV), whileO (evT (callF D G k) G (.cmp .ge (.var 0) (.glob 0))) (exS (callF D G k) G (.seq (.asg (.tp [0, 2]) (.prim .divmod (.cons (.var 0) (.cons (.glob 0) .nil)))) (.seq (.exp (.meth .append (.var 1) (.cons (.meth .zfill (.prim .str (.cons (.var 2) .nil)) (.cons (.lit (.int 64)) .nil)) .nil))) .skip))) [some (.int N), some (.ref T.length), none] (T ++ [.lst []]) =
      .ok (.next [some (.int l), some (.ref T.length), y2]) (T ++ [.lst (cs'.map .str)]) ∧ l < B ∧ dg l ++ cs'.reverse.flatten = dg N ∧ cs'.length ≤ 19 ∧ cs'.flatten.length ≤ 2000 := by
    obtain ⟨l, cs', y2, e, h1, h2, h3, h4, h5⟩ := loop0 (k := k) (T := T) B hB 17 FU N [] none hbig (by decide) (by unfold FU; omega)
    exact ⟨l, cs', y2, e, h1, by rw [h2]; simp, h3, by rw [h4]; simp; omega⟩
  obtain ⟨l, cs', y2, e, h1, h2, h3, h4⟩ := key
  have e1 : exS (callF D G k) G (.ite (.cmp .lt (.var 0) (.lit (.int 0))) (.seq (.ret (.bin .add (.lit (.str [45])) (.call 0 (.cons (.neg (.var 0)) .nil)))) .skip) .skip) [some (.int N), none, none] T = .ok (.next [some (.int N), none, none]) T := by
    have : ¬ ((N : Int) < 0) := by omega
    simp [this]
  have e2 : exS (callF D G k) G (.asg (.nm 1) (.list .nil)) [some (.int N), none, none] T = .ok (.next [some (.int N), some (.ref T.length), none]) (T ++ [.lst []]) := by simp
  have hl := hlog l h1
  have hcl : cs'.length < SZ := by show _ < 16777216; omega
  have e3 : exS (callF D G k) G (.exp (.meth .append (.var 1) (.cons (.prim .str (.cons (.var 0) .nil)) .nil))) [some (.int l), some (.ref T.length), y2] (T ++ [.lst (cs'.map .str)]) = .ok (.next [some (.int l), some (.ref T.length), y2]) (T ++ [.lst ((cs' ++ [dg l]).map .str)]) := by
    simp [hl, decText_nat, hcl]
  have e4 : joinR [] (some ((cs' ++ [dg l]).map PV.str).reverse) (T ++ [.lst ((cs' ++ [dg l]).map .str)] ++ [.lst ((cs' ++ [dg l]).map PV.str).reverse]) = .ok (.str (dg N)) (T ++ [.lst ((cs' ++ [dg l]).map .str)] ++ [.lst ((cs' ++ [dg l]).map PV.str).reverse]) := by
    rw [← List.map_reverse, joinR_map]
    have hs : (((cs' ++ [dg l]).reverse.map (·.length)).sum + (cs' ++ [dg l]).reverse.length * ([] : List Nat).length) ≤ SZ := by
      show _ ≤ 16777216
      rw [← List.length_flatten, List.reverse_append, List.reverse_singleton, List.singleton_append, List.flatten_cons, h2]
      have : (dg N).length ≤ 64 + 2000 := by
        rw [← h2, List.length_append]
        have h5 : cs'.reverse.flatten.length = cs'.flatten.length := by rw [List.length_flatten, List.length_flatten, List.map_reverse, List.sum_reverse]
        have := hlen l h1
        omega
      simp
      omega
    rw [if_pos hs, joinT_nil, List.reverse_append, List.reverse_singleton, List.singleton_append, List.flatten_cons, h2]
  refine ⟨[.lst ((cs' ++ [dg l]).map .str)] ++ [.lst ((cs' ++ [dg l]).map PV.str).reverse], ?_⟩
  rw [u0]
  unfold t0
  rw [seq_next e1, seq_next e2, seq_next (a := .whl _ _) e, seq_next e3]
  generalize (cs' ++ [dg l]).map PV.str = ys at e4 ⊢
  simp [lstO]
  have e5 : (T ++ [MO.lst ys, MO.lst ys.reverse])[T.length + 1]? = some (.lst ys.reverse) := by simp
  simp [e5] at e4 ⊢
  rw [e4]
  simp
theorem r0 {k : Nat} (i : Int) (T : Store) (h : i.natAbs < (10 ^ 18) ^ 60) : ∃ X, callF D G (k + 2) 0 [.int i] T = .ok (.str (decText i)) (T ++ X) := by
  by_cases hn : i < 0
  · obtain ⟨j, rfl⟩ : ∃ j : Nat, i = -((j + 1 : Nat) : Int) := ⟨i.natAbs - 1, by omega⟩
    rw [Int.natAbs_neg, Int.natAbs_natCast] at h
    obtain ⟨X, e⟩ := r0n (k := k) (j + 1) T h
    refine ⟨X, ?_⟩
    have hl : (dg (j + 1)).length ≤ 1080 := dg_len_le 1080 _ (by decide) (by rw [← Nat.pow_mul] at h; exact h)
    have hsz : 0 + 1 + (dg (j + 1)).length ≤ SZ := by show _ ≤ 16777216; omega
    rw [u0, decText_neg]
    unfold t0
    have e1 : exS (callF D G (k + 1)) G (.ite (.cmp .lt (.var 0) (.lit (.int 0))) (.seq (.ret (.bin .add (.lit (.str [45])) (.call 0 (.cons (.neg (.var 0)) .nil)))) .skip) .skip) [some (.int (-((j + 1 : Nat) : Int))), none, none] T = .ok (.ret (.str (45 :: dg (j + 1)))) (T ++ X) := by
      generalize ((j + 1 : Nat) : Int) = z at *
      have hz : (-z : Int) < 0 := hn
      rw [ex_ite, evT_eq, ev_cmp, ev_var]
      simp only [ev_lit, List.getElem?_cons_zero, sV_int, ofOpt_some, bind_ok, lt_int, tr_bl, bindS_ok, decide_eq_true hz, if_true, ex_seq, ex_ret, ev_bin, ev_lit, ev_call, ev_cons, ev_neg, ev_var, negV_int, ev_nil, asTup_tup, Int.neg_neg, e, add_str, List.length_cons, List.length_nil]
      rw [if_pos hsz]
      rfl
    rw [seq_ret e1, ofB_ret]
  · obtain ⟨j, rfl⟩ : ∃ j : Nat, i = (j : Int) := ⟨i.natAbs, by omega⟩
    rw [Int.natAbs_natCast] at h
    rw [decText_nat]
    exact r0n (k := k + 1) j T h
end MP.K00

set_option Elab.async false
set_option linter.all false
set_option maxRecDepth 100000
set_option maxHeartbeats 4000000
/-! read_integer -/
namespace MP.K00
open MP
/-- the sign, the digits, the number: what read_integer makes of a text -/
def dsOf (s : List Nat) : List Nat := if s.take 1 = [45] then s.drop 1 else s
def rint (s : List Nat) : Option Int :=
  if dsOf s = [] ∨ ((dsOf s).head? = some 48 ∧ s ≠ [48]) then none
  else if (dsOf s).all isDig then some (if s.take 1 = [45] then -(digitsVal (dsOf s) : Int) else (digitsVal (dsOf s) : Int)) else none
theorem cut_min (s : List Nat) (a b : Nat) : cut s (min a s.length) (min b s.length) = (s.drop a).take (b - a) := by
  unfold cut
  by_cases h : s.length ≤ a
  · rw [Nat.min_eq_right h, List.drop_of_length_le (Nat.le_refl _), List.drop_of_length_le h]
    simp
  · rw [Nat.min_eq_left (a := a) (b := s.length) (by omega)]
    by_cases h2 : b ≤ s.length
    · rw [Nat.min_eq_left h2]
    · rw [Nat.min_eq_right (a := b) (b := s.length) (by omega), List.take_of_length_le (by simp), List.take_of_length_le (by simp; omega)]
theorem sl_to {s : List Nat} (T : Store) (b : Nat) (h : s.length ≤ 16777216) : sliceOp false true (.str s) .non (.int b) T = .ok (.str (s.take b)) T := by
  have e : sliceOp false true (.str s) .non (.int b) T = match clipI s.length 0 false .non, clipI s.length s.length true (.int b) with
    | some a, some b => if s.length ≤ SZ then .ok (.str (cut s a b)) T else .bad
    | _, _ => .bad := rfl
  have e2 : clipI s.length s.length true (.int (b : Int)) = some (min b s.length) := by
    show some (if (b : Int) < 0 then _ else min (b : Int).toNat s.length) = _
    rw [if_neg (by omega)]
    rfl
  rw [e, e2]
  show (if s.length ≤ SZ then Res.ok (PV.str (cut s 0 (min b s.length))) T else .bad) = _
  rw [ifsz h]
  have := cut_min s 0 b
  rw [Nat.zero_min] at this
  rw [this]
  rfl
theorem sl_mid {s : List Nat} (T : Store) (a b : Nat) (h : s.length ≤ 16777216) : sliceOp true true (.str s) (.int a) (.int b) T = .ok (.str ((s.drop a).take (b - a))) T := by
  have e : sliceOp true true (.str s) (.int a) (.int b) T = match clipI s.length 0 true (.int a), clipI s.length s.length true (.int b) with
    | some a, some b => if s.length ≤ SZ then .ok (.str (cut s a b)) T else .bad
    | _, _ => .bad := rfl
  have e2 : ∀ d (b : Nat), clipI s.length d true (.int (b : Int)) = some (min b s.length) := fun d b => by
    show some (if (b : Int) < 0 then _ else min (b : Int).toNat s.length) = _
    rw [if_neg (by omega)]
    rfl
  rw [e, e2, e2]
  show (if s.length ≤ SZ then Res.ok (PV.str (cut s (min a s.length) (min b s.length))) T else .bad) = _
  rw [ifsz h, cut_min]
theorem mem_dig (c : Nat) : decide (c ∈ [48, 49, 50, 51, 52, 53, 54, 55, 56, 57]) = isDig c := by
  unfold isDig
  rw [Bool.eq_iff_iff]
  simp
  omega
/-- the walk over the signs -/
theorem loopD {k : Nat} {T : Store} (x0 x1 x3 x4 x5 : Option PV) (ds : List Nat) : ∀ (rest pre : List Nat) (n : Nat) (x2 : Option PV), ds = pre ++ rest → rest.length + 1 ≤ n →
    ∃ y2, iterL (.items (ds.map fun c => .str [c])) (.nm 2) (exS (callF D G k) G (.seq (.ite (.cmp .notin (.var 2) (.glob 1)) (.seq (.raise 1) .skip) .skip) .skip)) n pre.length [x0, x1, x2, x3, x4, x5] T =
      if rest.all isDig then .ok (.next [x0, x1, y2, x3, x4, x5]) T else .ok (.exc 1 [x0, x1, y2, x3, x4, x5]) T := by
  have hG : G 1 = some (.str [48, 49, 50, 51, 52, 53, 54, 55, 56, 57]) := rfl
  have hb : ∀ c, exS (callF D G k) G (.seq (.ite (.cmp .notin (.var 2) (.glob 1)) (.seq (.raise 1) .skip) .skip) .skip) [x0, x1, some (.str [c]), x3, x4, x5] T = if isDig c then .ok (.next [x0, x1, some (.str [c]), x3, x4, x5]) T else .ok (.exc 1 [x0, x1, some (.str [c]), x3, x4, x5]) T := fun c => by
    have := mem_dig c
    cases e : isDig c with
    | true =>
      rw [e] at this
      have e2 : cmpOp .notin (.str [c]) (.str [48, 49, 50, 51, 52, 53, 54, 55, 56, 57]) T = some false := by rw [nin_str, this] <;> rfl
      rw [ex_seq, ex_ite, evT_eq, ev_cmp, ev_var]
      simp only [ev_glob, hG, List.getElem?_cons_succ, List.getElem?_cons_zero, sV_str, ofOpt_some, bind_ok, e2, tr_bl, bindS_ok, Bool.false_eq_true, if_false, ex_skip, seqS_next, if_true]
    | false =>
      rw [e] at this
      have e2 : cmpOp .notin (.str [c]) (.str [48, 49, 50, 51, 52, 53, 54, 55, 56, 57]) T = some true := by rw [nin_str, this] <;> rfl
      rw [ex_seq, ex_ite, evT_eq, ev_cmp, ev_var]
      simp only [ev_glob, hG, List.getElem?_cons_succ, List.getElem?_cons_zero, sV_str, ofOpt_some, bind_ok, e2, tr_bl, bindS_ok, Bool.false_eq_true, if_false, ex_skip, seqS_next, if_true, ex_raise, ex_seq, seqS_exc]
  generalize exS (callF D G k) G (.seq (.ite (.cmp .notin (.var 2) (.glob 1)) (.seq (.raise 1) .skip) .skip) .skip) = b at *
  intro rest
  induction rest with
  | nil =>
    intro pre n x2 e hn
    obtain ⟨n, rfl⟩ : ∃ m, n = m + 1 := ⟨n - 1, by simp at hn; omega⟩
    refine ⟨x2, ?_⟩
    rw [iterL_end]
    · rfl
    · show some ((ds.map fun c => PV.str [c])[pre.length]?) = some none
      rw [e, List.append_nil, List.getElem?_eq_none (by simp)]
  | cons c rest ih =>
    intro pre n x2 e hn
    obtain ⟨n, rfl⟩ : ∃ m, n = m + 1 := ⟨n - 1, by simp at hn; omega⟩
    have hat : (Wk.items (ds.map fun c => .str [c])).at pre.length T = some (some (.str [c])) := by
      show some ((ds.map fun c => PV.str [c])[pre.length]?) = _
      rw [e, List.getElem?_map, List.getElem?_append_right (Nat.le_refl _), Nat.sub_self]
      rfl
    have hbc := hb c
    cases hd : isDig c with
    | true =>
      rw [hd, if_pos rfl] at hbc
      obtain ⟨y2, h⟩ := ih (pre ++ [c]) n (some (.str [c])) (by rw [e]; simp) (by simp at hn; omega)
      refine ⟨y2, ?_⟩
      rw [iterL_next (σ := [x0, x1, x2, x3, x4, x5]) hat hbc]
      rw [List.length_append, List.length_singleton] at h
      rw [h, List.all_cons, hd, Bool.true_and]
    | false =>
      rw [hd] at hbc
      refine ⟨some (.str [c]), ?_⟩
      rw [iterL_exc (σ := [x0, x1, x2, x3, x4, x5]) hat hbc, List.all_cons, hd, Bool.false_and]
      rfl
/-- the chunks -/
theorem loopC {k : Nat} {T : Store} (x0 x2 x3 : Option PV) (ds : List Nat) (h : Nat) (hd : ds.all isDig = true) (hl : ds.length ≤ 120000) : ∀ (t n i : Nat) (x5 : Option PV), h + 64 * (i + t) = ds.length → t + 1 ≤ n →
    ∃ y5, iterL (.range h 64 (i + t)) (.nm 5) (exS (callF D G k) G (.seq (.asg (.nm 4) (.bin .add (.bin .mul (.var 4) (.glob 0)) (.prim .int (.cons (.slice (.var 1) (.var 5) (.bin .add (.var 5) (.lit (.int 64))) true true) .nil)))) .skip)) n i [x0, some (.str ds), x2, x3, some (.int (digitsVal (ds.take (h + 64 * i)))), x5] T =
      .ok (.next [x0, some (.str ds), x2, x3, some (.int (digitsVal ds)), y5]) T := by
  obtain ⟨B, hB⟩ : ∃ B : Nat, B = 10000000000000000000000000000000000000000000000000000000000000000 := ⟨_, rfl⟩
  have hG : G 0 = some (.int (B : Int)) := by rw [hB]; rfl
  have hBl : B.log2 < 300 := log2_lt_of (by rw [hB]; decide) (by decide)
  have hB10 : B = 10 ^ 64 := by rw [hB]
  have hall : ∀ c ∈ ds, 48 ≤ c ∧ c ≤ 57 := fun c hc => by
    have := List.all_eq_true.mp hd c hc
    unfold isDig at this
    simpa using this
  have hb : ∀ (j v : Nat) (x4 : Nat), j + 64 ≤ ds.length → v.log2 < 480001 → exS (callF D G k) G (.seq (.asg (.nm 4) (.bin .add (.bin .mul (.var 4) (.glob 0)) (.prim .int (.cons (.slice (.var 1) (.var 5) (.bin .add (.var 5) (.lit (.int 64))) true true) .nil)))) .skip) [x0, some (.str ds), x2, x3, some (.int v), some (.int j)] T = .ok (.next [x0, some (.str ds), x2, x3, some (.int (v * B + digitsVal ((ds.drop j).take 64) : Nat)), some (.int j)]) T := fun j v x4 hj hv => by
    have e1 : binOp .mul (.int v) (.int B) T = .ok (.int (v * B : Nat)) T := by
      rw [mul_int, if_pos (by rw [Int.natAbs_natCast, Int.natAbs_natCast]; omega), Int.natCast_mul]
    have e2 : sliceOp true true (.str ds) (.int j) (.int ((j : Int) + 64)) T = .ok (.str ((ds.drop j).take 64)) T := by
      have := sl_mid (s := ds) T j (j + 64) (by omega)
      rw [Nat.add_sub_cancel_left] at this
      exact this
    have e3 : primOp .int [.str ((ds.drop j).take 64)] T = .ok (.int (digitsVal ((ds.drop j).take 64))) T := by
      have hlen : ((ds.drop j).take 64).length = 64 := by rw [List.length_take, List.length_drop]; omega
      rw [p_ints, if_pos]
      refine ⟨fun z => by rw [z] at hlen; simp at hlen, by omega, ?_⟩
      rw [List.all_eq_true]
      intro c hc
      exact List.all_eq_true.mp hd c (List.mem_of_mem_drop (List.mem_of_mem_take hc))
    rw [seq_next (σ1 := [x0, some (.str ds), x2, x3, some (.int (v * B + digitsVal ((ds.drop j).take 64) : Nat)), some (.int j)]) (T1 := T), ex_skip]
    rw [ex_asg, ev_bin, ev_bin]
    simp only [ev_var, ev_glob, hG, ev_prim, ev_cons, ev_slice, List.getElem?_cons_succ, List.getElem?_cons_zero, sV_int, sV_str, ofOpt_some, bind_ok, e1, ev_var, po_t, if_true, ev_bin, ev_lit, add_int, e2, ev_nil, asTup_tup, e3, bindS_ok, bT_nm, nextO_some, List.set_cons_succ, List.set_cons_zero, Int.natCast_add]
  generalize exS (callF D G k) G (.seq (.asg (.nm 4) _) .skip) = b at *
  intro t
  induction t with
  | zero =>
    intro n i x5 hi hn
    obtain ⟨n, rfl⟩ : ∃ m, n = m + 1 := ⟨n - 1, by omega⟩
    refine ⟨x5, ?_⟩
    rw [iterL_end]
    · rw [List.take_of_length_le (by omega)]
    · show some (if i < i + 0 then some (PV.int (h + i * 64)) else none) = some none
      rw [if_neg (by omega)]
  | succ t ih =>
    intro n i x5 hi hn
    obtain ⟨n, rfl⟩ : ∃ m, n = m + 1 := ⟨n - 1, by omega⟩
    have hat : (Wk.range h 64 (i + (t + 1))).at i T = some (some (.int ((h + 64 * i : Nat) : Int))) := by
      show some (if i < i + (t + 1) then some (PV.int ((h : Int) + i * 64)) else none) = _
      rw [if_pos (by omega)]
      have : (h : Int) + i * 64 = ((h + 64 * i : Nat) : Int) := by omega
      rw [this]
    have hv : (digitsVal (ds.take (h + 64 * i))).log2 < 480001 := by
      refine log2_lt_of ?_ (by decide)
      have h1 := dv_lt (ds.take (h + 64 * i)) (fun c hc => hall c (List.mem_of_mem_take hc))
      have h2 : (ds.take (h + 64 * i)).length ≤ 120000 := by rw [List.length_take]; omega
      have h3 : (10 : Nat) ^ (ds.take (h + 64 * i)).length ≤ (2 ^ 4) ^ (ds.take (h + 64 * i)).length := Nat.pow_le_pow_left (by decide) _
      rw [← Nat.pow_mul] at h3
      have h4 : 2 ^ (4 * (ds.take (h + 64 * i)).length) ≤ 2 ^ 480001 := Nat.pow_le_pow_right (by decide) (by omega)
      exact Nat.lt_of_lt_of_le h1 (Nat.le_trans h3 h4)
    have hb' := hb (h + 64 * i) _ 0 (by omega) hv
    have hval : digitsVal (ds.take (h + 64 * i)) * B + digitsVal ((ds.drop (h + 64 * i)).take 64) = digitsVal (ds.take (h + 64 * (i + 1))) := by
      have e1 : ds.take (h + 64 * (i + 1)) = ds.take (h + 64 * i) ++ (ds.drop (h + 64 * i)).take 64 := by
        rw [show h + 64 * (i + 1) = (h + 64 * i) + 64 by omega, List.take_add]
      have hlen : ((ds.drop (h + 64 * i)).take 64).length = 64 := by rw [List.length_take, List.length_drop]; omega
      rw [e1, dv_append, hlen, hB10]
    rw [hval] at hb'
    obtain ⟨y5, e⟩ := ih n (i + 1) (some (.int ((h + 64 * i : Nat) : Int))) (by omega) (by omega)
    refine ⟨y5, ?_⟩
    rw [iterL_next (σ := [x0, some (.str ds), x2, x3, some (.int (digitsVal (ds.take (h + 64 * i)))), x5]) hat hb']
    rw [show i + (t + 1) = i + 1 + t by omega]
    exact e
end MP.K00

set_option Elab.async false
set_option linter.all false
set_option maxRecDepth 100000
set_option maxHeartbeats 4000000
/-! read_integer, the whole -/
namespace MP.K00
open MP
theorem r1 {k : Nat} (s : List Nat) (T : Store) (hs : s.length ≤ 120000) : callF D G (k + 1) 1 [.str s] T = match rint s with
    | some v => .ok (.int v) T
    | none => .exc 1 T := by
  have h16 : s.length ≤ 16777216 := by omega
  have e1 : exS (callF D G k) G (.asg (.nm 1) (.var 0)) [some (.str s), none, none, none, none, none] T = .ok (.next [some (.str s), some (.str s), none, none, none, none]) T := by simp
  have e2 : exS (callF D G k) G (.ite (.cmp .eq (.slice (.var 0) (.lit .non) (.lit (.int 1)) false true) (.lit (.str [45]))) (.seq (.asg (.nm 1) (.slice (.var 0) (.lit (.int 1)) (.lit .non) true false)) .skip) .skip) [some (.str s), some (.str s), none, none, none, none] T = .ok (.next [some (.str s), some (.str (dsOf s)), none, none, none, none]) T := by
    have q1 : sliceOp false true (.str s) .non (.int 1) T = .ok (.str (s.take 1)) T := sl_to T 1 h16
    have q2 : sliceOp true false (.str s) (.int 1) .non T = .ok (.str (s.drop 1)) T := by rw [slice_from1, ifsz h16]
    have c1 : evT (callF D G k) G (.cmp .eq (.slice (.var 0) (.lit .non) (.lit (.int 1)) false true) (.lit (.str [45]))) [some (.str s), some (.str s), none, none, none, none] T = .ok (s.take 1 == [45]) T := by
      rw [evT_eq, ev_cmp, ev_slice]
      simp only [ev_var, ev_lit, List.getElem?_cons_zero, sV_str, ofOpt_some, bind_ok, po_f, po_t, if_true, q1, eq_str, tr_bl]
    rw [ex_ite, c1, bindS_ok]
    unfold dsOf
    by_cases h : s.take 1 = [45]
    · rw [if_pos h, show (s.take 1 == [45]) = true by rw [h]; rfl, if_pos rfl]
      rw [seq_next (σ1 := [some (.str s), some (.str (s.drop 1)), none, none, none, none]) (T1 := T), ex_skip]
      rw [ex_asg, ev_slice]
      simp only [ev_var, ev_lit, List.getElem?_cons_zero, sV_str, ofOpt_some, bind_ok, po_f, po_t, if_true, q2, bindS_ok, bT_nm, nextO_some, List.set_cons_succ, List.set_cons_zero]
    · rw [if_neg h, show (s.take 1 == [45]) = false by simpa using h, if_neg Bool.false_ne_true, ex_skip]
  rw [u1]
  unfold t1
  rw [seq_next e1, seq_next e2]
  unfold rint
  have hdl : (dsOf s).length ≤ s.length := by unfold dsOf; split <;> simp
  have hneg : s.take 1 = [45] ∨ dsOf s = s := by unfold dsOf; by_cases h : s.take 1 = [45]; exact .inl h; rw [if_neg h]; exact .inr rfl
  generalize dsOf s = ds at *
  -- the first test
  have c3 : evT (callF D G k) G (.or (.cmp .eq (.var 1) (.lit (.str []))) (.and (.cmp .eq (.idx (.var 1) (.lit (.int 0))) (.lit (.str [48]))) (.cmp .ne (.var 0) (.lit (.str [48]))))) [some (.str s), some (.str ds), none, none, none, none] T = .ok (decide (ds = [] ∨ (ds.head? = some 48 ∧ s ≠ [48]))) T := by
    cases ds with
    | nil => simp
    | cons c r =>
      have h16' : r.length + 1 ≤ SZ := by show _ ≤ 16777216; simp at hdl; omega
      have hn : normI (r.length + 1) 0 = some 0 := norm_in (by omega) (by omega)
      by_cases h : c = 48
      · subst h
        simp [h16', hn]
        by_cases h2 : s = [48] <;> simp [h2]
      · simp [h16', hn, h]
  by_cases hbad : ds = [] ∨ (ds.head? = some 48 ∧ s ≠ [48])
  · rw [if_pos hbad]
    rw [decide_eq_true hbad] at c3
    have e3 : exS (callF D G k) G (.ite (.or (.cmp .eq (.var 1) (.lit (.str []))) (.and (.cmp .eq (.idx (.var 1) (.lit (.int 0))) (.lit (.str [48]))) (.cmp .ne (.var 0) (.lit (.str [48]))))) (.seq (.raise 1) .skip) .skip) [some (.str s), some (.str ds), none, none, none, none] T = .ok (.exc 1 [some (.str s), some (.str ds), none, none, none, none]) T := by
      rw [ex_ite, c3, bindS_ok, if_pos rfl, seq_exc (ex_raise 1)]
    rw [seq_exc e3, ofB_exc]
  · rw [if_neg hbad]
    rw [decide_eq_false hbad] at c3
    have e3 : exS (callF D G k) G (.ite (.or (.cmp .eq (.var 1) (.lit (.str []))) (.and (.cmp .eq (.idx (.var 1) (.lit (.int 0))) (.lit (.str [48]))) (.cmp .ne (.var 0) (.lit (.str [48]))))) (.seq (.raise 1) .skip) .skip) [some (.str s), some (.str ds), none, none, none, none] T = .ok (.next [some (.str s), some (.str ds), none, none, none, none]) T := by
      rw [ex_ite, c3, bindS_ok, if_neg Bool.false_ne_true, ex_skip]
    rw [seq_next e3]
    obtain ⟨y2, e4⟩ : ∃ y2, loopO (some (.items (ds.map fun c => .str [c]))) (.nm 2) (exS (callF D G k) G (.seq (.ite (.cmp .notin (.var 2) (.glob 1)) (.seq (.raise 1) .skip) .skip) .skip)) [some (.str s), some (.str ds), none, none, none, none] T =
      if ds.all isDig then .ok (.next [some (.str s), some (.str ds), y2, none, none, none]) T else .ok (.exc 1 [some (.str s), some (.str ds), y2, none, none, none]) T := by
      obtain ⟨y2, e⟩ := loopD (k := k) (T := T) (some (.str s)) (some (.str ds)) none none none ds ds [] FU none rfl (by show ds.length + 1 ≤ 1099511627776; omega)
      exact ⟨y2, (loopO_some _ _ _).trans e⟩
    have e4' := loop_is (C := callF D G k) (G := G) (k := .plain) (it := .cons (.var 1) .nil) (vs := [.str ds]) (T1 := T) (σ := [some (.str s), some (.str ds), none, none, none, none]) (T := T) rfl rfl e4
    by_cases hd : ds.all isDig = true
    · rw [if_pos hd] at e4' ⊢
      rw [seq_next e4']
      have hne : ds ≠ [] := fun z => hbad (.inl z)
      have hsz : ds.length ≤ SZ := by show _ ≤ 16777216; omega
      have e5 : exS (callF D G k) G (.asg (.nm 3) (.bin .mod (.prim .len (.cons (.var 1) .nil)) (.lit (.int 64)))) [some (.str s), some (.str ds), y2, none, none, none] T = .ok (.next [some (.str s), some (.str ds), y2, some (.int (ds.length % 64 : Nat)), none, none]) T := by
        simp [hsz]
      have e6 : exS (callF D G k) G (.asg (.nm 4) (.lit (.int 0))) [some (.str s), some (.str ds), y2, some (.int (ds.length % 64 : Nat)), none, none] T = .ok (.next [some (.str s), some (.str ds), y2, some (.int (ds.length % 64 : Nat)), some (.int 0), none]) T := by simp
      obtain ⟨h, hh⟩ : ∃ h, h = ds.length % 64 := ⟨_, rfl⟩
      have e7 : exS (callF D G k) G (.ite (.cmp .gt (.var 3) (.lit (.int 0))) (.seq (.asg (.nm 4) (.prim .int (.cons (.slice (.var 1) (.lit .non) (.var 3) false true) .nil))) .skip) .skip) [some (.str s), some (.str ds), y2, some (.int (h : Nat)), some (.int 0), none] T = .ok (.next [some (.str s), some (.str ds), y2, some (.int (h : Nat)), some (.int (digitsVal (ds.take h))), none]) T := by
        have q1 : sliceOp false true (.str ds) .non (.int h) T = .ok (.str (ds.take h)) T := sl_to T h (by omega)
        by_cases h0 : h = 0
        · subst h0
          have : digitsVal (ds.take 0) = 0 := rfl
          rw [this]
          simp
        · have hp : (0 : Int) < h := by omega
          have q2 : primOp .int [.str (ds.take h)] T = .ok (.int (digitsVal (ds.take h))) T := by
            rw [p_ints, if_pos]
            have hlen : (ds.take h).length = h := by rw [List.length_take]; have := Nat.mod_le ds.length 64; omega
            refine ⟨fun z => by rw [z] at hlen; simp at hlen; omega, by have := Nat.mod_lt ds.length (show 0 < 64 by decide); omega, ?_⟩
            rw [List.all_eq_true]
            intro c hc
            exact List.all_eq_true.mp hd c (List.mem_of_mem_take hc)
          rw [ex_ite, evT_eq, ev_cmp]
          simp only [ev_var, ev_lit, List.getElem?_cons_succ, List.getElem?_cons_zero, sV_int, ofOpt_some, bind_ok, gt_int, decide_eq_true hp, tr_bl, bindS_ok, if_true]
          rw [seq_next (σ1 := [some (.str s), some (.str ds), y2, some (.int (h : Nat)), some (.int (digitsVal (ds.take h))), none]) (T1 := T), ex_skip]
          rw [ex_asg, ev_prim, ev_cons, ev_slice]
          simp only [ev_var, ev_lit, List.getElem?_cons_succ, List.getElem?_cons_zero, sV_int, sV_str, ofOpt_some, bind_ok, po_f, po_t, if_true, q1, ev_nil, asTup_tup, q2, bindS_ok, bT_nm, nextO_some, List.set_cons_succ, List.set_cons_zero]
      rw [seq_next e5, seq_next e6, ← hh, seq_next e7]
      obtain ⟨y5, e8⟩ : ∃ y5, loopO (some (.range h 64 (ds.length / 64))) (.nm 5) (exS (callF D G k) G (.seq (.asg (.nm 4) (.bin .add (.bin .mul (.var 4) (.glob 0)) (.prim .int (.cons (.slice (.var 1) (.var 5) (.bin .add (.var 5) (.lit (.int 64))) true true) .nil)))) .skip)) [some (.str s), some (.str ds), y2, some (.int (h : Nat)), some (.int (digitsVal (ds.take h))), none] T =
          .ok (.next [some (.str s), some (.str ds), y2, some (.int (h : Nat)), some (.int (digitsVal ds)), y5]) T := by
        obtain ⟨y5, e⟩ := loopC (k := k) (T := T) (some (.str s)) y2 (some (.int (h : Nat))) ds h hd (by omega) (ds.length / 64) FU 0 none (by omega) (by show ds.length / 64 + 1 ≤ 1099511627776; omega)
        rw [Nat.zero_add] at e
        exact ⟨y5, (loopO_some _ _ _).trans e⟩
      have hw : walkOf .range [.int (h : Int), .int (ds.length : Int), .int 64] = some (.range h 64 (ds.length / 64)) := by
        show (if (0 : Int) ≤ h ∧ (h : Int) ≤ SZ ∧ (0 : Int) ≤ ds.length ∧ (ds.length : Int) ≤ SZ ∧ (0 : Int) < 64 ∧ (64 : Int) < 1000 then some (Wk.range h 64 (if (h : Int) < ds.length then ((ds.length : Int) - h - 1) / 64 + 1 else 0).toNat) else none) = _
        have hh2 : (SZ : Int) = 16777216 := rfl
        rw [if_pos ⟨by omega, by omega, by omega, by omega, by decide, by decide⟩]
        have : (if (h : Int) < ds.length then ((ds.length : Int) - h - 1) / 64 + 1 else 0).toNat = ds.length / 64 := by
          split <;> omega
        rw [this]
      have ea : ev (callF D G k) G (.cons (.var 3) (.cons (.prim .len (.cons (.var 1) .nil)) (.cons (.lit (.int 64)) .nil))) [some (.str s), some (.str ds), y2, some (.int (h : Nat)), some (.int (digitsVal (ds.take h))), none] T = .ok (.tup [.int (h : Int), .int (ds.length : Int), .int 64]) T := by
        simp [hsz]
      rw [seq_next (loop_is ea hw e8)]
      have hs1 : 0 < s.length := by
        cases s with
        | nil => rcases hneg with z | z; · simp at z
                 · exact absurd z hne
        | cons _ _ => simp
      have hssz : s.length ≤ SZ := by show _ ≤ 16777216; omega
      cases s with
      | nil => simp at hs1
      | cons c r =>
        have hn : normI (r.length + 1) 0 = some 0 := norm_in (by omega) (by omega)
        have hssz' : r.length + 1 ≤ SZ := hssz
        by_cases h45 : c = 45
        · subst h45
          simp [hssz', hn]
        · simp [hssz', hn, h45]
    · rw [if_neg hd] at e4' ⊢
      rw [seq_exc e4', ofB_exc]
/-- the text of a number is read -/
theorem rint_dec (i : Int) : rint (decText i) = some i := by
  have hdig : ∀ n, (dg n).all isDig = true := fun n => by
    rw [List.all_eq_true]
    intro c hc
    have := dg_digit n c hc
    unfold isDig
    simp [this.1, this.2]
  have hne : ∀ n, dg n ≠ [] := fun n z => by have := dg_pos n; rw [z] at this; simp at this
  have h45 : ∀ n, (dg n).take 1 ≠ [45] := fun n z => by
    cases e : dg n with
    | nil => exact hne n e
    | cons c r =>
      rw [e] at z
      have hc := dg_digit n c (by rw [e]; simp)
      have : c = 45 := by simpa using z
      omega
  by_cases hn : i < 0
  · obtain ⟨j, rfl⟩ : ∃ j : Nat, i = -((j + 1 : Nat) : Int) := ⟨i.natAbs - 1, by omega⟩
    rw [decText_neg]
    have hds : dsOf (45 :: dg (j + 1)) = dg (j + 1) := rfl
    have ht : (45 :: dg (j + 1)).take 1 = [45] := rfl
    unfold rint
    rw [hds, if_neg, if_pos (hdig _), if_pos ht, dv_dg]
    rintro (z | ⟨z, _⟩)
    · exact hne _ z
    · exact dg_head _ (by omega) z
  · obtain ⟨j, rfl⟩ : ∃ j : Nat, i = (j : Int) := ⟨i.natAbs, by omega⟩
    rw [decText_nat]
    have hds : dsOf (dg j) = dg j := if_neg (h45 j)
    unfold rint
    rw [hds, if_neg, if_pos (hdig _), if_neg (h45 j), dv_dg]
    rintro (z | ⟨z, z2⟩)
    · exact hne _ z
    · by_cases h0 : j = 0
      · subst h0; exact z2 rfl
      · exact dg_head _ (by omega) z
end MP.K00

set_option Elab.async false
set_option linter.all false
set_option maxRecDepth 100000
set_option maxHeartbeats 4000000
/-! data: texts of data, sameness -/
namespace MP
/-- a comprehension by its turns -/
theorem compL_eq (w : Wk) (tg : Tgt) (c : Nv → Store → Res Bool) (e : Nv → Store → Res PV) (σ : Nv) (n i : Nat) (acc : List PV) (T : Store) : compL w tg c e σ (n + 1) i acc T = match w.at i T with
    | none => .bad
    | some none => .ok acc T
    | some (some v) => match bindT tg v σ with
      | none => .bad
      | some σ1 => match c σ1 T with
        | .ok true T1 => match e σ1 T1 with
          | .ok y T2 => if acc.length < SZ then compL w tg c e σ n (i + 1) (acc ++ [y]) T2 else .bad
          | _ => .bad
        | .ok false T1 => compL w tg c e σ n (i + 1) acc T1
        | _ => .bad := rfl
theorem comp_by {w : Wk} {x : Nat} {c : Nv → Store → Res Bool} {e : Nv → Store → Res PV} {σ : Nv} (n0 : Nat) (hn0 : n0 ≤ 1000000) (v : Nat → PV) (Inv : Nat → Store → Prop) (Q : Nat → PV → Prop)
    (hat : ∀ i T, Inv i T → i ≤ n0 → w.at i T = some (if i < n0 then some (v i) else none)) (hc : ∀ σ T, c σ T = .ok true T)
    (he : ∀ i T, i < n0 → Inv i T → ∃ y T', e (σ.set x (some (v i))) T = .ok y T' ∧ Inv (i + 1) T' ∧ Q i y) :
    ∀ (m n i : Nat) (acc : List PV) (T : Store), i + m = n0 → m + 1 ≤ n → acc.length = i → Inv i T → (∀ j y, acc[j]? = some y → Q j y) →
      ∃ xs T', compL w (.nm x) c e σ n i acc T = .ok xs T' ∧ Inv n0 T' ∧ xs.length = n0 ∧ ∀ j y, xs[j]? = some y → Q j y := by
  intro m
  induction m with
  | zero =>
    intro n i acc T hi hn ha hI hq
    obtain ⟨n, rfl⟩ : ∃ m, n = m + 1 := ⟨n - 1, by omega⟩
    have h := hat i T hI (by omega)
    rw [if_neg (by omega)] at h
    refine ⟨acc, T, ?_, (show i = n0 by omega) ▸ hI, by omega, hq⟩
    rw [compL_eq, h]
  | succ m ih =>
    intro n i acc T hi hn ha hI hq
    obtain ⟨n, rfl⟩ : ∃ m, n = m + 1 := ⟨n - 1, by omega⟩
    have h := hat i T hI (by omega)
    rw [if_pos (by omega)] at h
    obtain ⟨y, T', e1, hI', hy⟩ := he i T (by omega) hI
    obtain ⟨xs, T2, e2, r⟩ := ih n (i + 1) (acc ++ [y]) T' (by omega) (by omega) (by simp [ha]) hI' (fun j z hj => by
      by_cases hj2 : j < acc.length
      · rw [List.getElem?_append_left hj2] at hj; exact hq j z hj
      · rw [List.getElem?_append_right (by omega)] at hj
        have : j - acc.length = 0 := by
          have := (List.getElem?_eq_some_iff.mp hj).1
          simp at this; omega
        rw [this] at hj
        have hz : y = z := by simpa using hj
        have hji : j = i := by omega
        subst hz hji
        exact hy)
    refine ⟨xs, T2, ?_, r⟩
    rw [compL_eq, h]
    show (match c (σ.set x (some (v i))) T with
        | .ok true T1 => match e (σ.set x (some (v i))) T1 with
          | .ok y T2 => if acc.length < SZ then compL w (.nm x) c e σ n (i + 1) (acc ++ [y]) T2 else .bad
          | _ => .bad
        | .ok false T1 => compL w (.nm x) c e σ n (i + 1) acc T1
        | _ => .bad) = _
    rw [hc]
    show (match e (σ.set x (some (v i))) T with
          | .ok y T2 => if acc.length < SZ then compL w (.nm x) c e σ n (i + 1) (acc ++ [y]) T2 else .bad
          | _ => .bad) = _
    rw [e1]
    show (if acc.length < SZ then compL w (.nm x) c e σ n (i + 1) (acc ++ [y]) T' else .bad) = _
    rw [if_pos (show acc.length < SZ from (by omega : acc.length < 16777216))]
    exact e2
theorem ev_comp {C : Nat → List PV → Store → Res PV} {G : Nat → Option PV} {σ : Nv} {T : Store} {tg : Tgt} {own : List Nat} {k : ItK} {it el : E} {vs : List PV} {w : Wk} {xs : List PV} {T1 T2 : Store} (h1 : ev C G it σ T = .ok (.tup vs) T1) (h2 : walkOf k vs = some w)
    (h3 : compL w tg (fun _ T => .ok true T) (fun σ T => ev C G el σ T) (wipeE σ own) FU 0 [] T1 = .ok xs T2) : ev C G (.comp tg own k it (.lit (.bl true)) el) σ T = .ok (.ref T2.length) (T2 ++ [.lst xs]) := by
  show ((ev C G it σ T).bind fun vs T1 => match walkOf k (asTup vs) with
    | some w => (compL w tg (fun σ T => (ev C G (.lit (.bl true)) σ T).bind fun x T1 => ofOpt (truthM T1 x) T1) (fun σ T => ev C G el σ T) (wipeE σ own) FU 0 [] T1).bind fun xs T2 => allocM (.lst xs) T2
    | none => .bad) = _
  rw [h1, bind_ok, asTup_tup, h2]
  show (compL w tg (fun _ T => .ok true T) (fun σ T => ev C G el σ T) (wipeE σ own) FU 0 [] T1).bind _ = _
  rw [h3]
  rfl
end MP
namespace MP.K00
open MP
mutual
/-- a datum's text -/
def txt : PV → List Nat
  | .int i => decText i
  | .str s => 39 :: (s ++ [39])
  | .tup xs => 40 :: (joinT [44, 32] (txts xs) ++ [41])
  | _ => []
def txts : List PV → List (List Nat)
  | [] => []
  | x :: xs => txt x :: txts xs
end
theorem txts_map : ∀ xs, txts xs = xs.map txt
  | [] => by rw [txts]; rfl
  | x :: xs => by rw [txts, txts_map xs]; rfl
theorem txt_tup (xs : List PV) : txt (.tup xs) = 40 :: (joinT [44, 32] (xs.map txt) ++ [41]) := by rw [txt, txts_map]
theorem txt_int (i : Int) : txt (.int i) = decText i := by rw [txt]
theorem txt_str (s : List Nat) : txt (.str s) = 39 :: (s ++ [39]) := by rw [txt]
theorem join_len : ∀ ss : List (List Nat), (joinT [44, 32] ss).length + 2 = (ss.map (fun x : List Nat => x.length)).sum + ss.length * 2 ∨ ss = []
  | [] => .inr rfl
  | [x] => by left; simp [joinT]
  | x :: y :: r => by
    left
    have ih := join_len (y :: r)
    rcases ih with ih | ih
    · show (x ++ [44, 32] ++ joinT [44, 32] (y :: r)).length + 2 = _
      rw [List.length_append, List.length_append, List.map_cons, List.sum_cons, List.length_cons]
      simp only [List.length_cons, List.length_nil] at ih ⊢
      omega
    · cases ih
theorem mem_sum : ∀ {ss : List (List Nat)} {x : List Nat}, x ∈ ss → x.length ≤ (ss.map (fun x : List Nat => x.length)).sum
  | [], _, h => by simp at h
  | y :: ss, x, h => by
    rw [List.map_cons, List.sum_cons]
    rcases List.mem_cons.mp h with e | e
    · subst e; omega
    · have := mem_sum e; omega
theorem txt_mem {xs : List PV} {x : PV} (h : x ∈ xs) : (txt x).length + 2 ≤ (txt (.tup xs)).length := by
  rw [txt_tup, List.length_cons, List.length_append, List.length_singleton]
  have h1 := mem_sum (List.mem_map.mpr ⟨x, h, rfl⟩ : txt x ∈ xs.map txt)
  have h3 : 0 < (xs.map txt).length := by rw [List.length_map]; exact List.length_pos_of_mem h
  rcases join_len (xs.map txt) with e | e
  · omega
  · rw [e] at h3; simp at h3
theorem txt_join (xs : List PV) : (((xs.map txt).map (fun x : List Nat => x.length)).sum + (xs.map txt).length * 2) ≤ (txt (.tup xs)).length := by
  rw [txt_tup, List.length_cons, List.length_append, List.length_singleton]
  rcases join_len (xs.map txt) with e | e
  · omega
  · rw [e]; simp
/-- signs that a text within data may have -/
def okS (s : List Nat) : Prop := ∀ c ∈ s, 32 ≤ c ∧ c ≤ 126 ∧ c ≠ 39 ∧ c ≠ 37
inductive Gd : Nat → PV → Prop
  | int (n : Nat) (i : Int) (h : i.natAbs < (10 ^ 18) ^ 60) : Gd n (.int i)
  | str (n : Nat) (s : List Nat) (h : okS s) : Gd n (.str s)
  | tup (n : Nat) (xs : List PV) (h : ∀ x ∈ xs, Gd n x) (hl : xs.length ≤ 1000) : Gd (n + 1) (.tup xs)
theorem Gd.nx {n : Nat} {x : PV} (h : Gd n x) : slotV (some (some x)) = some x := by cases h <;> rfl
theorem w_tup {k f : Nat} (xs : List PV) (T : Store) (hl : xs.length ≤ 1000) (hz : (txt (.tup xs)).length ≤ 16000000) (hx : ∀ x ∈ xs, slotV (some (some x)) = some x) (ih : ∀ x ∈ xs, ∀ T, ∃ X, callF D G k f [x] T = .ok (.str (txt x)) (T ++ X)) :
    ∃ X, exS (callF D G k) G (.ret (.bin .add (.bin .add (.lit (.str [40])) (.meth .join (.lit (.str [44, 32])) (.cons (.comp (.nm 2) [1, 2] .plain (.cons (.var 0) .nil) (.lit (.bl true)) (.call f (.cons (.var 2) .nil))) .nil))) (.lit (.str [41])))) [some (.tup xs), none, none] T = .ok (.ret (.str (txt (.tup xs)))) (T ++ X) := by
  obtain ⟨ys, T', e, ⟨X, hX⟩, hyl, hyq⟩ := comp_by (w := .items xs) (x := 2) (c := fun _ T => .ok true T) (e := fun σ T => ev (callF D G k) G (.call f (.cons (.var 2) .nil)) σ T) (σ := wipeE [some (.tup xs), none, none] [1, 2]) xs.length (by omega) (fun i => (xs[i]?).getD .non) (fun _ T' => ∃ X, T' = T ++ X) (fun i y => some y = ((xs.map txt).map PV.str)[i]?)
    (fun i T _ hi => by
      show some xs[i]? = _
      by_cases h : i < xs.length
      · rw [if_pos h, List.getElem?_eq_getElem h]; rfl
      · rw [if_neg h, List.getElem?_eq_none (by omega)])
    (fun _ _ => rfl)
    (fun i T0 hi ⟨X0, h0⟩ => by
      obtain ⟨X, e⟩ := ih xs[i] (List.getElem_mem _) T0
      refine ⟨.str (txt xs[i]), T0 ++ X, ?_, ⟨X0 ++ X, by rw [h0, List.append_assoc]⟩, by rw [List.getElem?_map, List.getElem?_map, List.getElem?_eq_getElem hi]; rfl⟩
      have hg : (xs[i]?).getD .non = xs[i] := by rw [List.getElem?_eq_getElem hi]; rfl
      rw [hg]
      have hv := hx xs[i] (List.getElem_mem _)
      show ev (callF D G k) G (.call f (.cons (.var 2) .nil)) [some (.tup xs), none, some xs[i]] T0 = _
      rw [ev_call, ev_cons, ev_var]
      simp only [List.getElem?_cons_succ, List.getElem?_cons_zero, hv, ofOpt_some, bind_ok, ev_nil, asTup_tup]
      exact e)
    xs.length FU 0 [] T (by omega) (by show xs.length + 1 ≤ 1099511627776; omega) rfl ⟨[], by simp⟩ (fun j y h => by simp at h)
  have hys : ys = (xs.map txt).map PV.str := by
    refine List.ext_getElem? fun j => ?_
    cases e1 : ys[j]? with
    | some y => exact hyq j y e1
    | none =>
      have := List.getElem?_eq_none_iff.mp e1
      exact (List.getElem?_eq_none (by rw [List.length_map, List.length_map]; omega)).symm
  subst hys hX
  have ec := ev_comp (C := callF D G k) (G := G) (σ := [some (.tup xs), none, none]) (T := T) (tg := .nm 2) (own := [1, 2]) (k := .plain) (it := .cons (.var 0) .nil) (el := .call f (.cons (.var 2) .nil)) (vs := [.tup xs]) (w := .items xs) (T1 := T) rfl rfl e
  have hj := joinR_map [44, 32] (xs.map txt) (T ++ X ++ [.lst ((xs.map txt).map PV.str)])
  have hlen := txt_join xs
  have hj0 : ((xs.map txt).map (fun x : List Nat => x.length)).sum + (xs.map txt).length * ([44, 32] : List Nat).length ≤ SZ := by
    show ((xs.map txt).map (fun x : List Nat => x.length)).sum + (xs.map txt).length * 2 ≤ 16777216
    omega
  rw [if_pos hj0] at hj
  rw [txt_tup] at hz ⊢
  rw [List.length_cons, List.length_append, List.length_singleton] at hz
  generalize joinT [44, 32] (xs.map txt) = jt at *
  generalize (xs.map txt).map PV.str = ys at *
  refine ⟨X ++ [.lst ys], ?_⟩
  rw [ex_ret, ev_bin, ev_bin]
  have a1 : 0 + 1 + jt.length ≤ SZ := by show _ ≤ 16777216; omega
  have a2 : ([40] ++ jt).length + (0 + 1) ≤ SZ := by rw [List.length_append]; show 1 + jt.length + 1 ≤ 16777216; omega
  simp only [ev_meth, ev_cons, ec, ev_lit, bind_ok, ro_join, if_true, ev_nil, asTup_tup, m_join, get_last, lstO_some, hj, add_str, List.length_cons, List.length_nil]
  rw [if_pos a1, bind_ok]
  simp only [add_str, List.length_cons, List.length_nil]
  rw [if_pos a2, bindS_ok, List.append_assoc T X]
  rfl
theorem r2 : ∀ (n : Nat) (d : PV), Gd n d → (txt d).length ≤ 16000000 → ∀ (k : Nat) (T : Store), ∃ X, callF D G (k + n + 3) 2 [d] T = .ok (.str (txt d)) (T ++ X) := by
  have gen : ∀ (n : Nat) (d : PV), Gd n d → (txt d).length ≤ 16000000 → (∀ m xs, n = m + 1 → d = .tup xs → ∀ x ∈ xs, ∀ (k : Nat) (T : Store), ∃ X, callF D G (k + m + 3) 2 [x] T = .ok (.str (txt x)) (T ++ X)) → ∀ (k : Nat) (T : Store), ∃ X, callF D G (k + n + 3) 2 [d] T = .ok (.str (txt d)) (T ++ X) := by
    intro n d hd hz ih k T
    cases hd with
    | int _ i h =>
      obtain ⟨X, e⟩ := r0 (k := k + n) i T h
      refine ⟨X, ?_⟩
      rw [u2, txt_int]
      unfold t2
      rw [seq_next (σ1 := [some (.int i), none, none]) (T1 := T) rfl, seq_next (σ1 := [some (.int i), none, none]) (T1 := T) rfl]
      rw [seq_ret (v := .str (decText i)) (T1 := T ++ X), ofB_ret]
      rw [ex_ret, ev_call, ev_cons, ev_var]
      simp only [List.getElem?_cons_zero, sV_int, ofOpt_some, bind_ok, ev_nil, asTup_tup, e, bindS_ok]
    | str _ s h =>
      refine ⟨[], ?_⟩
      rw [u2, txt_str, List.append_nil]
      unfold t2
      rw [txt_str, List.length_cons, List.length_append, List.length_singleton] at hz
      have a1 : 0 + 1 + s.length ≤ SZ := by show _ ≤ 16777216; omega
      have a2 : ([39] ++ s).length + (0 + 1) ≤ SZ := by rw [List.length_append]; show 1 + s.length + 1 ≤ 16777216; omega
      rw [seq_next (σ1 := [some (.str s), none, none]) (T1 := T) rfl]
      rw [seq_ret (v := .str (39 :: (s ++ [39]))) (T1 := T), ofB_ret]
      rw [ex_ite, evT_eq, ev_isinst, ev_var]
      simp only [List.getElem?_cons_zero, sV_str, ofOpt_some, bind_ok, isInst, tr_bl, bindS_ok, if_true]
      rw [seq_ret]
      rw [ex_ret, ev_bin, ev_bin]
      simp only [ev_lit, ev_var, List.getElem?_cons_zero, sV_str, ofOpt_some, bind_ok, add_str, List.length_cons, List.length_nil]
      rw [if_pos a1, bind_ok]
      simp only [add_str, List.length_cons, List.length_nil]
      rw [if_pos a2, bindS_ok]
      rfl
    | tup m xs h hl =>
      obtain ⟨X, e⟩ := w_tup (k := k + m + 3) (f := 2) xs T hl hz (fun x hx => (h x hx).nx) (fun x hx T => ih m xs rfl rfl x hx k T)
      refine ⟨X, ?_⟩
      rw [show k + (m + 1) + 3 = (k + m + 3) + 1 by omega, u2]
      unfold t2
      rw [seq_ret (v := .str (txt (.tup xs))) (T1 := T ++ X), ofB_ret]
      rw [ex_ite, evT_eq, ev_isinst, ev_var]
      simp only [List.getElem?_cons_zero, sV_tup, ofOpt_some, bind_ok, isInst, tr_bl, bindS_ok, if_true]
      rw [seq_ret e]
  intro n
  induction n with
  | zero => exact fun d hd hz => gen 0 d hd hz fun m xs e => by omega
  | succ n ih =>
    intro d hd hz
    refine gen (n + 1) d hd hz fun m xs e ed x hx => ?_
    have e : m = n := by omega
    subst e ed
    cases hd with
    | tup _ _ h _ => exact ih x (h x hx) (by have := txt_mem hx; omega)
theorem r14 : ∀ (n : Nat) (d : PV), Gd n d → (txt d).length ≤ 16000000 → ∀ (k : Nat) (T : Store), ∃ X, callF D G (k + n + 3) 14 [d] T = .ok (.str (txt d)) (T ++ X) := by
  have gen : ∀ (n : Nat) (d : PV), Gd n d → (txt d).length ≤ 16000000 → (∀ m xs, n = m + 1 → d = .tup xs → ∀ x ∈ xs, ∀ (k : Nat) (T : Store), ∃ X, callF D G (k + m + 3) 14 [x] T = .ok (.str (txt x)) (T ++ X)) → ∀ (k : Nat) (T : Store), ∃ X, callF D G (k + n + 3) 14 [d] T = .ok (.str (txt d)) (T ++ X) := by
    intro n d hd hz ih k T
    cases hd with
    | int _ i h =>
      have e := r11 (k := k + n + 1) i T h
      refine ⟨[], ?_⟩
      rw [u14, txt_int, List.append_nil]
      unfold t14
      rw [seq_next (σ1 := [some (.int i), none, none]) (T1 := T) rfl, seq_next (σ1 := [some (.int i), none, none]) (T1 := T) rfl]
      rw [seq_ret (v := .str (decText i)) (T1 := T), ofB_ret]
      rw [ex_ret, ev_call, ev_cons, ev_var]
      simp only [List.getElem?_cons_zero, sV_int, ofOpt_some, bind_ok, ev_nil, asTup_tup, e, bindS_ok]
    | str _ s h =>
      refine ⟨[], ?_⟩
      rw [u14, txt_str, List.append_nil]
      unfold t14
      rw [txt_str, List.length_cons, List.length_append, List.length_singleton] at hz
      have a1 : 0 + 1 + s.length ≤ SZ := by show _ ≤ 16777216; omega
      have a2 : ([39] ++ s).length + (0 + 1) ≤ SZ := by rw [List.length_append]; show 1 + s.length + 1 ≤ 16777216; omega
      rw [seq_next (σ1 := [some (.str s), none, none]) (T1 := T) rfl]
      rw [seq_ret (v := .str (39 :: (s ++ [39]))) (T1 := T), ofB_ret]
      rw [ex_ite, evT_eq, ev_isinst, ev_var]
      simp only [List.getElem?_cons_zero, sV_str, ofOpt_some, bind_ok, isInst, tr_bl, bindS_ok, if_true]
      rw [seq_ret]
      rw [ex_ret, ev_bin, ev_bin]
      simp only [ev_lit, ev_var, List.getElem?_cons_zero, sV_str, ofOpt_some, bind_ok, add_str, List.length_cons, List.length_nil]
      rw [if_pos a1, bind_ok]
      simp only [add_str, List.length_cons, List.length_nil]
      rw [if_pos a2, bindS_ok]
      rfl
    | tup m xs h hl =>
      obtain ⟨X, e⟩ := w_tup (k := k + m + 3) (f := 14) xs T hl hz (fun x hx => (h x hx).nx) (fun x hx T => ih m xs rfl rfl x hx k T)
      refine ⟨X, ?_⟩
      rw [show k + (m + 1) + 3 = (k + m + 3) + 1 by omega, u14]
      unfold t14
      rw [seq_ret (v := .str (txt (.tup xs))) (T1 := T ++ X), ofB_ret]
      rw [ex_ite, evT_eq, ev_isinst, ev_var]
      simp only [List.getElem?_cons_zero, sV_tup, ofOpt_some, bind_ok, isInst, tr_bl, bindS_ok, if_true]
      rw [seq_ret e]
  intro n
  induction n with
  | zero => exact fun d hd hz => gen 0 d hd hz fun m xs e => by omega
  | succ n ih =>
    intro d hd hz
    refine gen (n + 1) d hd hz fun m xs e ed x hx => ?_
    have e : m = n := by omega
    subst e ed
    cases hd with
    | tup _ _ h _ => exact ih x (h x hx) (by have := txt_mem hx; omega)
end MP.K00

set_option Elab.async false
set_option linter.all false
set_option maxRecDepth 100000
set_option maxHeartbeats 4000000
/-! sameness; the drawn numbers and data -/
namespace MP.K00
open MP
theorem bools_rep : ∀ n, boolsOf (List.replicate n (.bl true)) = some (List.replicate n true)
  | 0 => rfl
  | n + 1 => by
    show (boolsOf (List.replicate n (.bl true))).map (true :: ·) = _
    rw [bools_rep n]
    rfl
theorem all_rep (n : Nat) (T : Store) : primOp .all [.ref T.length] (T ++ [.lst (List.replicate n (.bl true))]) = .ok (.bl true) (T ++ [.lst (List.replicate n (.bl true))]) := by
  have h : primOp .all [.ref T.length] (T ++ [.lst (List.replicate n (.bl true))]) = match (T ++ [MO.lst (List.replicate n (.bl true))])[T.length]? with
    | some (.lst xs) => match boolsOf xs with
      | some bs => .ok (.bl (bs.all id)) (T ++ [.lst (List.replicate n (.bl true))])
      | none => .bad
    | none => .bad := rfl
  rw [h, get_last]
  show (match boolsOf (List.replicate n (.bl true)) with
      | some bs => Res.ok (PV.bl (bs.all id)) (T ++ [MO.lst (List.replicate n (PV.bl true))])
      | none => .bad) = _
  rw [bools_rep]
  have : (List.replicate n true).all id = true := by rw [List.all_eq_true]; intro b hb; exact (List.mem_replicate.mp hb).2
  show Res.ok (PV.bl ((List.replicate n true).all id)) _ = _
  rw [this]
theorem walk_r (n : Nat) (h : n ≤ 1000000) : walkOf .range [.int (n : Int)] = some (.range 0 1 n) := by
  show (if small62 (n : Int) then some (Wk.range 0 1 (n : Int).toNat) else none) = _
  have : small62 (n : Int) = true := by unfold small62; simp; omega
  rw [this]
  rfl
theorem r10 : ∀ (n : Nat) (d : PV), Gd n d → ∀ (k : Nat) (T : Store), ∃ X, callF D G (k + n + 3) 10 [d, d] T = .ok (.bl true) (T ++ X) := by
  have gen : ∀ (n : Nat) (d : PV), Gd n d → (∀ m xs, n = m + 1 → d = .tup xs → ∀ x ∈ xs, ∀ (k : Nat) (T : Store), ∃ X, callF D G (k + m + 3) 10 [x, x] T = .ok (.bl true) (T ++ X)) → ∀ (k : Nat) (T : Store), ∃ X, callF D G (k + n + 3) 10 [d, d] T = .ok (.bl true) (T ++ X) := by
    intro n d hd ih k T
    cases hd with
    | int _ i h =>
      refine ⟨[], ?_⟩
      rw [u10, List.append_nil]
      unfold t10
      rw [seq_next (σ1 := [some (.int i), some (.int i), none, none]) (T1 := T) rfl, seq_next (σ1 := [some (.int i), some (.int i), none, none]) (T1 := T) rfl]
      have e9 := r9 (k := k + n + 1) i T
      simp [e9]
    | str _ s h =>
      refine ⟨[], ?_⟩
      rw [u10, List.append_nil]
      unfold t10
      rw [seq_next (σ1 := [some (.str s), some (.str s), none, none]) (T1 := T) rfl]
      simp [isInst]
    | tup m xs h hl =>
      obtain ⟨ys, T', e, ⟨X, hX⟩, hyl, hyq⟩ := comp_by (w := .range 0 1 xs.length) (x := 3) (c := fun _ T => .ok true T) (e := fun σ T => ev (callF D G (k + m + 3)) G (.call 10 (.cons (.idx (.var 0) (.var 3)) (.cons (.idx (.var 1) (.var 3)) .nil))) σ T) (σ := wipeE [some (.tup xs), some (.tup xs), none, none] [2, 3]) xs.length (by omega) (fun i => .int (0 + (i : Int) * 1)) (fun _ T' => ∃ X, T' = T ++ X) (fun i y => y = .bl true)
        (fun i T _ hi => by
          show some (if i < xs.length then some (PV.int (0 + (i : Int) * 1)) else none) = _
          rfl)
        (fun _ _ => rfl)
        (fun i T0 hi ⟨X0, h0⟩ => by
          obtain ⟨X, e⟩ := ih m xs rfl rfl xs[i] (List.getElem_mem _) k T0
          refine ⟨.bl true, T0 ++ X, ?_, ⟨X0 ++ X, by rw [h0, List.append_assoc]⟩, rfl⟩
          show ev (callF D G (k + m + 3)) G (.call 10 (.cons (.idx (.var 0) (.var 3)) (.cons (.idx (.var 1) (.var 3)) .nil))) [some (.tup xs), some (.tup xs), none, some (.int (0 + (i : Int) * 1))] T0 = _
          have hi' : (0 + (i : Int) * 1) = (i : Int) := by omega
          have hn : normI xs.length (i : Int) = some i := norm_in (by omega) (by omega)
          have hg : xs[i]? = some xs[i] := List.getElem?_eq_getElem hi
          rw [hi']
          generalize xs[i] = x at *
          simp [hn, hg, e])
        xs.length FU 0 [] T (by omega) (by show xs.length + 1 ≤ 1099511627776; omega) rfl ⟨[], by simp⟩ (fun j y h => by simp at h)
      have hys : ys = List.replicate xs.length (.bl true) := by
        refine List.ext_getElem? fun j => ?_
        cases e1 : ys[j]? with
        | some y =>
          have := hyq j y e1
          have hj := (List.getElem?_eq_some_iff.mp e1).1
          rw [List.getElem?_replicate, if_pos (by omega), this]
        | none =>
          have := List.getElem?_eq_none_iff.mp e1
          exact (List.getElem?_eq_none (by rw [List.length_replicate]; omega)).symm
      subst hys hX
      have hw := walk_r xs.length (by omega)
      have ec := ev_comp (C := callF D G (k + m + 3)) (G := G) (σ := [some (.tup xs), some (.tup xs), none, none]) (T := T) (tg := .nm 3) (own := [2, 3]) (k := .range) (it := .cons (.prim .len (.cons (.var 1) .nil)) .nil) (el := .call 10 (.cons (.idx (.var 0) (.var 3)) (.cons (.idx (.var 1) (.var 3)) .nil))) (vs := [.int xs.length]) (w := .range 0 1 xs.length) (T1 := T) rfl hw e
      have ha := all_rep xs.length (T ++ X)
      refine ⟨X ++ [.lst (List.replicate xs.length (.bl true))], ?_⟩
      rw [show k + (m + 1) + 3 = (k + m + 3) + 1 by omega, u10]
      generalize List.replicate xs.length (PV.bl true) = ys at *
      unfold t10
      have e1 : exS (callF D G (k + m + 3)) G (.ite (.or (.not (.isinst (.var 0) .tuple)) (.cmp .ne (.prim .len (.cons (.var 0) .nil)) (.prim .len (.cons (.var 1) .nil)))) (.seq (.ret (.lit (.bl false))) .skip) .skip) [some (.tup xs), some (.tup xs), none, none] T = .ok (.next [some (.tup xs), some (.tup xs), none, none]) T := by
        simp [isInst]
      rw [seq_ret (v := .bl true) (T1 := T ++ (X ++ [.lst ys])), ofB_ret]
      rw [ex_ite, evT_eq, ev_isinst, ev_var]
      simp only [List.getElem?_cons_succ, List.getElem?_cons_zero, sV_tup, ofOpt_some, bind_ok, isInst, tr_bl, bindS_ok, if_true]
      rw [seq_next e1]
      rw [seq_ret]
      rw [ex_ret, ev_prim, ev_cons, ec]
      simp only [bind_ok, ev_nil, asTup_tup]
      rw [ha, bindS_ok, List.append_assoc]
  intro n
  induction n with
  | zero => exact fun d hd => gen 0 d hd fun m xs e => by omega
  | succ n ih =>
    intro d hd
    refine gen (n + 1) d hd fun m xs e ed x hx => ?_
    have e : m = n := by omega
    subst e ed
    cases hd with
    | tup _ _ h _ => exact ih x (h x hx)
/-! ### numbers and data by drawing -/
theorem E18p : binOp .pow (.int 10) (.int 18) = fun T => .ok (.int ((10 ^ 18 : Nat) : Int)) T := rfl
/-- the store: the cells, the state, the rest -/
abbrev Sx (ns : List Int) (a : MO) (R : Store) : Store := .lst (ns.map .int) :: a :: R
theorem r12 {k m : Nat} {ns : List Int} {R : Store} {a : MO} (h : St m a) (hm : m < 10000000) (most : Nat) (h0 : 0 < most) (h1 : most ≤ 40) :
    ∃ (i : Int) (a' : MO) (X : Store), callF D G (k + 2) 12 [.ref 1, .int most] (Sx ns a R) = .ok (.int i) (Sx ns a' (R ++ X)) ∧ i.natAbs < (10 ^ 18) ^ 60 ∧ St (m + 100) a' := by
  obtain ⟨B, hB⟩ : ∃ B : Nat, B = 1000000000000000000 := ⟨_, rfl⟩
  have hp : ∀ T, binOp .pow (.int 10) (.int 18) T = .ok (.int (B : Int)) T := fun T => by rw [hB]; rfl
  have hBp : B = 10 ^ 18 := by rw [hB]
  have hBl : B.log2 < 64 := log2_lt_of (by rw [hB]; decide) (by decide)
  have hB0 : 0 < B := by rw [hB]; decide
  rw [u12]
  unfold t12
  obtain ⟨v0, a1, e1, hv0, s1⟩ := draw (k := k) (ns := ns) (R := R) h (by omega) B hB0 (by rw [hB]; exact Nat.le_refl _)
  have f1 : exS (callF D G (k + 1)) G (.asg (.nm 2) (.call 7 (.cons (.var 0) (.cons (.bin .pow (.lit (.int 10)) (.lit (.int 18))) .nil)))) [some (.ref 1), some (.int most), none, none] (Sx ns a R) = .ok (.next [some (.ref 1), some (.int most), some (.int v0), none]) (Sx ns a1 R) := by
    rw [ex_asg]
    simp only [ev_call, ev_cons, ev_bin, ev_var, ev_lit, List.getElem?_cons_zero, sV_ref, ofOpt_some, bind_ok, hp, ev_nil, asTup_tup, e1, bindS_ok, bT_nm, nextO_some, List.set_cons_succ, List.set_cons_zero]
  rw [seq_next f1]
  obtain ⟨t, a2, e2, ht, s2⟩ := draw (k := k) (ns := ns) (R := R) s1 (by omega) most h0 (by omega)
  have hb : ∀ (v : Nat) (m : Nat) (a : MO) (x3 : Option PV), v.log2 < 4000 → St m a → m < 20000000 → ∃ (r : Nat) (a' : MO), exS (callF D G (k + 1)) G (.seq (.asg (.nm 2) (.bin .add (.bin .mul (.var 2) (.bin .pow (.lit (.int 10)) (.lit (.int 18)))) (.call 7 (.cons (.var 0) (.cons (.bin .pow (.lit (.int 10)) (.lit (.int 18))) .nil))))) .skip) [some (.ref 1), some (.int most), some (.int v), x3] (Sx ns a R) = .ok (.next [some (.ref 1), some (.int most), some (.int (v * B + r : Nat)), x3]) (Sx ns a' R) ∧ r < B ∧ St (m + 1) a' := fun v m a x3 hv hs hm => by
    obtain ⟨r, a', e, hr, s⟩ := draw (k := k) (ns := ns) (R := R) hs (by omega) B hB0 (by rw [hB]; exact Nat.le_refl _)
    have e1 : ∀ T, binOp .mul (.int v) (.int B) T = .ok (.int (v * B : Nat)) T := fun T => by
      rw [mul_int, if_pos (by rw [Int.natAbs_natCast, Int.natAbs_natCast]; omega), Int.natCast_mul]
    refine ⟨r, a', ?_, hr, s⟩
    rw [seq_next (σ1 := [some (.ref 1), some (.int most), some (.int (v * B + r : Nat)), x3]) (T1 := Sx ns a' R), ex_skip]
    rw [ex_asg]
    simp only [ev_call, ev_cons, ev_bin, ev_var, ev_lit, List.getElem?_cons_succ, List.getElem?_cons_zero, sV_ref, sV_int, ofOpt_some, bind_ok, hp, e1, ev_nil, asTup_tup, e, add_int, bindS_ok, bT_nm, nextO_some, List.set_cons_succ, List.set_cons_zero, Int.natCast_add]
  have hloop : ∀ (j n i v m : Nat) (a : MO) (x3 : Option PV), i + j = t → j + 1 ≤ n → v < B ^ (i + 1) → St m a → m + j < 20000000 → ∃ (v' : Nat) (a' : MO) (y3 : Option PV), iterL (.range 0 1 t) (.nm 3) (exS (callF D G (k + 1)) G (.seq (.asg (.nm 2) (.bin .add (.bin .mul (.var 2) (.bin .pow (.lit (.int 10)) (.lit (.int 18)))) (.call 7 (.cons (.var 0) (.cons (.bin .pow (.lit (.int 10)) (.lit (.int 18))) .nil))))) .skip)) n i [some (.ref 1), some (.int most), some (.int v), x3] (Sx ns a R) = .ok (.next [some (.ref 1), some (.int most), some (.int v'), y3]) (Sx ns a' R) ∧ v' < B ^ (t + 1) ∧ St (m + j) a' := by
    generalize exS (callF D G (k + 1)) G (.seq (.asg (.nm 2) _) .skip) = b at *
    intro j
    induction j with
    | zero =>
      intro n i v m a x3 hi hn hv hs hm
      obtain ⟨n, rfl⟩ : ∃ m, n = m + 1 := ⟨n - 1, by omega⟩
      have hit : i = t := by omega
      subst hit
      refine ⟨v, a, x3, ?_, hv, hs⟩
      rw [iterL_end]
      show some (if i < i then some (PV.int (0 + i * 1)) else none) = some none
      rw [if_neg (by omega)]
    | succ j ih =>
      intro n i v m a x3 hi hn hv hs hm
      obtain ⟨n, rfl⟩ : ∃ m, n = m + 1 := ⟨n - 1, by omega⟩
      have hat : (Wk.range 0 1 t).at i (Sx ns a R) = some (some (.int (0 + i * 1))) := by
        show some (if i < t then some (PV.int (0 + i * 1)) else none) = _
        rw [if_pos (by omega)]
      have hlog : v.log2 < 4000 := by
        refine log2_lt_of ?_ (by decide)
        have h1 : B ^ (i + 1) ≤ (2 ^ 60) ^ (i + 1) := Nat.pow_le_pow_left (by rw [hB]; decide) _
        rw [← Nat.pow_mul] at h1
        have h2 : 2 ^ (60 * (i + 1)) ≤ 2 ^ 4000 := Nat.pow_le_pow_right (by decide) (by omega)
        exact Nat.lt_of_lt_of_le hv (Nat.le_trans h1 h2)
      obtain ⟨r, a', e, hr, s⟩ := hb v m a (some (.int (0 + i * 1))) hlog hs (by omega)
      obtain ⟨v', a2, y3, e2, h2, h3⟩ := ih n (i + 1) (v * B + r) (m + 1) a' (some (.int (0 + i * 1))) (by omega) (by omega) (by
        rw [Nat.pow_succ]
        have : v + 1 ≤ B ^ (i + 1) := hv
        have := Nat.mul_le_mul_right B this
        rw [Nat.add_mul] at this
        omega) s (by omega)
      refine ⟨v', a2, y3, ?_, h2, h3.mono (by omega)⟩
      rw [iterL_next (σ := [some (.ref 1), some (.int most), some (.int v), x3]) hat e]
      exact e2
  obtain ⟨v, a3, y3, e3, hv, s3⟩ : ∃ (v' : Nat) (a' : MO) (y3 : Option PV), loopO (some (.range 0 1 t)) (.nm 3) (exS (callF D G (k + 1)) G (.seq (.asg (.nm 2) (.bin .add (.bin .mul (.var 2) (.bin .pow (.lit (.int 10)) (.lit (.int 18)))) (.call 7 (.cons (.var 0) (.cons (.bin .pow (.lit (.int 10)) (.lit (.int 18))) .nil))))) .skip)) [some (.ref 1), some (.int most), some (.int v0), none] (Sx ns a2 R) = .ok (.next [some (.ref 1), some (.int most), some (.int v'), y3]) (Sx ns a' R) ∧ v' < B ^ (t + 1) ∧ St (m + 1 + 1 + t) a' := by
    obtain ⟨v', a', y3, e, h1, h2⟩ := hloop t FU 0 v0 (m + 1 + 1) a2 none (by omega) (by show t + 1 ≤ 1099511627776; omega) (by simpa using hv0) s2 (by omega)
    exact ⟨v', a', y3, (loopO_some _ _ _).trans e, h1, h2⟩
  have ea : ev (callF D G (k + 1)) G (.cons (.call 7 (.cons (.var 0) (.cons (.var 1) .nil))) .nil) [some (.ref 1), some (.int most), some (.int v0), none] (Sx ns a1 R) = .ok (.tup [.int t]) (Sx ns a2 R) := by
    simp only [ev_call, ev_cons, ev_var, List.getElem?_cons_succ, List.getElem?_cons_zero, sV_ref, sV_int, ofOpt_some, bind_ok, ev_nil, asTup_tup, e2]
  rw [seq_next (loop_is ea (walk_r t (by omega)) e3)]
  obtain ⟨sgn, a4, e4, hs4, s4⟩ := draw (k := k) (ns := ns) (R := R ++ [.lst [.int 1, .int (-1)]]) s3 (by omega) 2 (by decide) (by decide)
  have hvlog : v.log2 < 900000 := by
    refine Nat.lt_trans (log2_lt_of (n := 4000) ?_ (by decide)) (by decide)
    have h1 : B ^ (t + 1) ≤ (2 ^ 60) ^ (t + 1) := Nat.pow_le_pow_left (by rw [hB]; decide) _
    rw [← Nat.pow_mul] at h1
    have h2 : 2 ^ (60 * (t + 1)) ≤ 2 ^ 4000 := Nat.pow_le_pow_right (by decide) (by omega)
    exact Nat.lt_of_lt_of_le hv (Nat.le_trans h1 h2)
  have hvb : v < (10 ^ 18) ^ 60 := by
    rw [← hBp]
    exact Nat.lt_of_lt_of_le hv (Nat.pow_le_pow_right hB0 (by omega))
  obtain ⟨z, hz, hz2, hz3⟩ : ∃ z : Int, ([PV.int 1, PV.int (-1)] : List PV)[sgn]? = some (.int z) ∧ z.natAbs = 1 ∧ normI 2 (sgn : Int) = some sgn := by
    have hn := norm_in (n := 2) (i := (sgn : Int)) (by omega) (by omega)
    rcases (show sgn = 0 ∨ sgn = 1 by omega) with e | e
    · subst e; exact ⟨1, rfl, rfl, hn⟩
    · subst e; exact ⟨-1, rfl, rfl, hn⟩
  have hmul : ∀ T, binOp .mul (.int v) (.int z) T = .ok (.int (v * z)) T := fun T => by
    rw [mul_int, if_pos]
    rw [Int.natAbs_natCast, hz2]
    have : Nat.log2 1 = 0 := rfl
    omega
  refine ⟨v * z, a4, [.lst [.int 1, .int (-1)]], ?_, by rw [Int.natAbs_mul, hz2, Int.natAbs_natCast, Nat.mul_one]; exact hvb, s4.mono (by omega)⟩
  have e4' : callF D G (k + 1) 7 [PV.ref 1, PV.int 2] (Sx ns a3 (R ++ [.lst [.int 1, .int (-1)]])) = .ok (.int sgn) (Sx ns a4 (R ++ [.lst [.int 1, .int (-1)]])) := e4
  rw [seq_ret (v := .int (v * z)) (T1 := Sx ns a4 (R ++ [.lst [.int 1, .int (-1)]])), ofB_ret]
  have hsz : (0 + 1 + 1 : Nat) ≤ SZ := by show _ ≤ 16777216; omega
  have hap : Sx ns a3 R ++ [.lst [.int 1, .int (-1)]] = Sx ns a3 (R ++ [.lst [.int 1, .int (-1)]]) := rfl
  have hlen : (Sx ns a3 R).length = R.length + 2 := rfl
  have hget : (Sx ns a4 (R ++ [.lst [.int 1, .int (-1)]]))[R.length + 2]? = some (.lst [.int 1, .int (-1)]) := by simp
  have hev : ∀ σ : Nv, ev (callF D G (k + 1)) G (.list (.cons (.lit (.int 1)) (.cons (.neg (.lit (.int 1))) .nil))) σ (Sx ns a3 R) = .ok (.ref (R.length + 2)) (Sx ns a3 (R ++ [.lst [.int 1, .int (-1)]])) := fun σ => rfl
  rw [ex_ret]
  simp only [ev_bin, ev_idx, hev, ev_call, ev_cons, ev_var, ev_lit, List.getElem?_cons_succ, List.getElem?_cons_zero, sV_ref, sV_int, ofOpt_some, bind_ok, ev_nil, asTup_tup, e4']
  simp only [bind_ok, ix_ref, hget, lstO_some, Option.bind_some, List.length_cons, List.length_nil, hz3, hz, ofOpt_some, hmul, bindS_ok]
end MP.K00

set_option Elab.async false
set_option linter.all false
set_option maxRecDepth 100000
set_option maxHeartbeats 4000000
/-! drawn data -/
namespace MP.K00
open MP
theorem dec_len (i : Int) (h : i.natAbs < (10 ^ 18) ^ 60) : (decText i).length ≤ 1081 := by
  have h2 : i.natAbs < 10 ^ 1080 := by rw [← Nat.pow_mul] at h; exact h
  by_cases hn : i < 0
  · obtain ⟨j, rfl⟩ : ∃ j : Nat, i = -((j + 1 : Nat) : Int) := ⟨i.natAbs - 1, by omega⟩
    rw [decText_neg, List.length_cons]
    rw [Int.natAbs_neg, Int.natAbs_natCast] at h2
    have := dg_len_le 1080 (j + 1) (by decide) h2
    omega
  · obtain ⟨j, rfl⟩ : ∃ j : Nat, i = (j : Int) := ⟨i.natAbs, by omega⟩
    rw [decText_nat]
    rw [Int.natAbs_natCast] at h2
    have := dg_len_le 1080 j (by decide) h2
    omega
theorem sum_le {L : Nat} : ∀ {ss : List (List Nat)}, (∀ s ∈ ss, s.length ≤ L) → (ss.map (fun x : List Nat => x.length)).sum ≤ ss.length * L
  | [], _ => by simp
  | s :: ss, h => by
    rw [List.map_cons, List.sum_cons, List.length_cons, Nat.add_mul]
    have := sum_le (ss := ss) fun x hx => h x (List.mem_cons_of_mem _ hx)
    have := h s (by simp)
    omega
def strs6 : List PV := [.str [], .str [97, 32, 98], .str [40, 49, 44, 32, 50, 41], .str [48], .str [120, 35, 121, 44, 32, 122], .str [45]]
theorem strs6_ok (n : Nat) : ∀ v ∈ strs6, Gd n v ∧ (txt v).length ≤ 20 := by
  intro v hv
  unfold strs6 at hv
  simp only [List.mem_cons, List.not_mem_nil, or_false] at hv
  rcases hv with rfl | rfl | rfl | rfl | rfl | rfl <;> exact ⟨.str _ _ (by unfold okS; decide), by rw [txt_str]; decide⟩
abbrev tA : S := .ret (.idx (.list (.cons (.bin .sub (.call 7 (.cons (.var 0) (.cons (.lit (.int 21)) .nil))) (.lit (.int 10))) (.cons (.call 12 (.cons (.var 0) (.cons (.lit (.int 6)) .nil))) .nil))) (.call 7 (.cons (.var 0) (.cons (.lit (.int 2)) .nil))))
abbrev tB : S := .ret (.idx (.list (.cons (.lit (.str [])) (.cons (.lit (.str [97, 32, 98])) (.cons (.lit (.str [40, 49, 44, 32, 50, 41])) (.cons (.lit (.str [48])) (.cons (.lit (.str [120, 35, 121, 44, 32, 122])) (.cons (.lit (.str [45])) .nil))))))) (.call 7 (.cons (.var 0) (.cons (.lit (.int 6)) .nil))))
abbrev tCE : E := .call 13 (.cons (.var 0) (.cons (.bin .sub (.var 1) (.lit (.int 1))) .nil))
abbrev tC : S := .ret (.prim .tuple (.cons (.comp (.nm 4) [3, 4] .range (.cons (.call 7 (.cons (.var 0) (.cons (.lit (.int 4)) .nil))) .nil) (.lit (.bl true)) tCE) .nil))
theorem t13_eq : t13 = .seq (.asg (.nm 2) (.call 7 (.cons (.var 0) (.cons (.lit (.int 7)) .nil)))) (.seq (.ite (.or (.cmp .lt (.var 2) (.lit (.int 2))) (.and (.cmp .eq (.var 1) (.lit (.int 0))) (.cmp .gt (.var 2) (.lit (.int 3))))) (.seq tA .skip) .skip) (.seq (.ite (.cmp .lt (.var 2) (.lit (.int 4))) (.seq tB .skip) .skip) (.seq tC .skip))) := rfl
section
variable {k m : Nat} {ns : List Int} {R : Store} {a : MO} {x1 x2 x3 x4 : Option PV}
theorem caseA (h : St m a) (hm : m < 9000000) : ∃ (i : Int) (a' : MO) (X : Store), exS (callF D G (k + 2)) G tA [some (.ref 1), x1, x2, x3, x4] (Sx ns a R) = .ok (.ret (.int i)) (Sx ns a' (R ++ X)) ∧ i.natAbs < (10 ^ 18) ^ 60 ∧ St (m + 200) a' := by
  obtain ⟨r, a1, e1, hr, s1⟩ := draw (k := k + 1) (ns := ns) (R := R) h (by omega) 21 (by decide) (by decide)
  obtain ⟨i, a2, X, e2, hi, s2⟩ := r12 (k := k) (ns := ns) (R := R) s1 (by omega) 6 (by decide) (by decide)
  obtain ⟨j, a3, e3, hj, s3⟩ := draw (k := k + 1) (ns := ns) (R := R ++ X ++ [.lst [.int ((r : Int) - 10), .int i]]) s2 (by omega) 2 (by decide) (by decide)
  have f1 : callF D G (k + 2) 7 [.ref 1, .int 21] (Sx ns a R) = .ok (.int r) (Sx ns a1 R) := e1
  have f2 : callF D G (k + 2) 12 [.ref 1, .int 6] (Sx ns a1 R) = .ok (.int i) (Sx ns a2 (R ++ X)) := e2
  have f3 : callF D G (k + 2) 7 [.ref 1, .int 2] (Sx ns a2 (R ++ X ++ [.lst [.int ((r : Int) - 10), .int i]])) = .ok (.int j) (Sx ns a3 (R ++ X ++ [.lst [.int ((r : Int) - 10), .int i]])) := e3
  have hl : ev (callF D G (k + 2)) G (.list (.cons (.bin .sub (.call 7 (.cons (.var 0) (.cons (.lit (.int 21)) .nil))) (.lit (.int 10))) (.cons (.call 12 (.cons (.var 0) (.cons (.lit (.int 6)) .nil))) .nil))) [some (.ref 1), x1, x2, x3, x4] (Sx ns a R) = .ok (.ref ((R ++ X).length + 2)) (Sx ns a2 (R ++ X ++ [.lst [.int ((r : Int) - 10), .int i]])) := by
    rw [ev_list]
    simp only [ev_cons, ev_bin, ev_call, ev_var, ev_lit, List.getElem?_cons_zero, sV_ref, ofOpt_some, bind_ok, ev_nil, asTup_tup, f1, sub_int, f2]
    rfl
  have hget : (Sx ns a3 (R ++ X ++ [.lst [.int ((r : Int) - 10), .int i]]))[(R ++ X).length + 2]? = some (.lst [.int ((r : Int) - 10), .int i]) := by
    show (R ++ X ++ [MO.lst [.int ((r : Int) - 10), .int i]])[(R ++ X).length]? = _
    exact get_last _
  obtain ⟨z, hz, hz2⟩ : ∃ z : Int, ([PV.int ((r : Int) - 10), PV.int i] : List PV)[j]? = some (.int z) ∧ z.natAbs < (10 ^ 18) ^ 60 := by
    rcases (show j = 0 ∨ j = 1 by omega) with e | e
    · subst e
      refine ⟨(r : Int) - 10, rfl, Nat.lt_of_lt_of_le (show ((r : Int) - 10).natAbs < 100 by omega) ?_⟩
      rw [← Nat.pow_mul]
      exact Nat.le_trans (show 100 ≤ 10 ^ 2 by decide) (Nat.pow_le_pow_right (by decide) (by decide))
    · subst e; exact ⟨i, rfl, hi⟩
  refine ⟨z, a3, X ++ [.lst [.int ((r : Int) - 10), .int i]], ?_, hz2, s3.mono (by omega)⟩
  rw [ex_ret, ev_idx, hl, bind_ok]
  simp only [ev_call, ev_cons, ev_var, ev_lit, List.getElem?_cons_zero, sV_ref, ofOpt_some, bind_ok, ev_nil, asTup_tup, f3, ix_ref, hget, lstO_some, Option.bind_some, List.length_cons, List.length_nil, norm_in (n := 0 + 1 + 1) (i := (j : Int)) (by omega) (by omega), Int.toNat_natCast, hz, bindS_ok]
  rw [List.append_assoc]
theorem caseB (h : St m a) (hm : m < 9000000) : ∃ (v : PV) (a' : MO) (X : Store), exS (callF D G (k + 2)) G tB [some (.ref 1), x1, x2, x3, x4] (Sx ns a R) = .ok (.ret v) (Sx ns a' (R ++ X)) ∧ v ∈ strs6 ∧ St (m + 200) a' := by
  obtain ⟨j, a3, e3, hj, s3⟩ := draw (k := k + 1) (ns := ns) (R := R ++ [.lst strs6]) h (by omega) 6 (by decide) (by decide)
  have f3 : callF D G (k + 2) 7 [.ref 1, .int 6] (Sx ns a (R ++ [.lst strs6])) = .ok (.int j) (Sx ns a3 (R ++ [.lst strs6])) := e3
  have hl : ev (callF D G (k + 2)) G (.list (.cons (.lit (.str [])) (.cons (.lit (.str [97, 32, 98])) (.cons (.lit (.str [40, 49, 44, 32, 50, 41])) (.cons (.lit (.str [48])) (.cons (.lit (.str [120, 35, 121, 44, 32, 122])) (.cons (.lit (.str [45])) .nil))))))) [some (.ref 1), x1, x2, x3, x4] (Sx ns a R) = .ok (.ref (R.length + 2)) (Sx ns a (R ++ [.lst strs6])) := rfl
  have hget : (Sx ns a3 (R ++ [.lst strs6]))[R.length + 2]? = some (.lst strs6) := by
    show (R ++ [MO.lst strs6])[R.length]? = _
    exact get_last _
  have hlen : strs6.length = 6 := rfl
  have hz : strs6[j]? = some strs6[j] := List.getElem?_eq_getElem (by omega)
  refine ⟨strs6[j], a3, [.lst strs6], ?_, List.getElem_mem _, s3.mono (by omega)⟩
  rw [ex_ret, ev_idx, hl, bind_ok]
  simp only [ev_call, ev_cons, ev_var, ev_lit, List.getElem?_cons_zero, sV_ref, ofOpt_some, bind_ok, ev_nil, asTup_tup, f3, ix_ref, hget, lstO_some, Option.bind_some, hlen, norm_in (n := 6) (i := (j : Int)) (by omega) (by omega), Int.toNat_natCast, hz, bindS_ok]
end
theorem r13 : ∀ (n : Nat), n ≤ 4 → ∀ (k m : Nat) (ns : List Int) (R : Store) (a : MO), St m a → m + 1000 * 4 ^ n < 8000000 → ∃ (d : PV) (a' : MO) (X : Store), callF D G (k + n + 4) 13 [.ref 1, .int n] (Sx ns a R) = .ok d (Sx ns a' (R ++ X)) ∧ Gd n d ∧ (txt d).length ≤ 1200 * 3 ^ n - 100 ∧ St (m + 1000 * 4 ^ n) a' := by
  have gen : ∀ (n : Nat), n ≤ 4 → (∀ p, n = p + 1 → ∀ (k m : Nat) (ns : List Int) (R : Store) (a : MO), St m a → m + 1000 * 4 ^ p < 8000000 → ∃ (d : PV) (a' : MO) (X : Store), callF D G (k + p + 4) 13 [.ref 1, .int p] (Sx ns a R) = .ok d (Sx ns a' (R ++ X)) ∧ Gd p d ∧ (txt d).length ≤ 1200 * 3 ^ p - 100 ∧ St (m + 1000 * 4 ^ p) a') → ∀ (k m : Nat) (ns : List Int) (R : Store) (a : MO), St m a → m + 1000 * 4 ^ n < 8000000 → ∃ (d : PV) (a' : MO) (X : Store), callF D G (k + n + 4) 13 [.ref 1, .int n] (Sx ns a R) = .ok d (Sx ns a' (R ++ X)) ∧ Gd n d ∧ (txt d).length ≤ 1200 * 3 ^ n - 100 ∧ St (m + 1000 * 4 ^ n) a' := by
    intro n hn4 ih k m ns R a h hm
    have hp4 : 0 < 4 ^ n := Nat.pow_pos (by decide)
    have hp3 : 0 < 3 ^ n := Nat.pow_pos (by decide)
    obtain ⟨p, a1, e1, hp, s1⟩ := draw (k := k + n + 2) (ns := ns) (R := R) h (by omega) 7 (by decide) (by decide)
    have f1 : callF D G (k + n + 3) 7 [.ref 1, .int 7] (Sx ns a R) = .ok (.int p) (Sx ns a1 R) := e1
    rw [show k + n + 4 = (k + n + 3) + 1 by omega, u13, t13_eq]
    have g1 : exS (callF D G (k + n + 3)) G (.asg (.nm 2) (.call 7 (.cons (.var 0) (.cons (.lit (.int 7)) .nil)))) [some (.ref 1), some (.int n), none, none, none] (Sx ns a R) = .ok (.next [some (.ref 1), some (.int n), some (.int p), none, none]) (Sx ns a1 R) := by
      rw [ex_asg]
      simp only [ev_call, ev_cons, ev_var, ev_lit, List.getElem?_cons_zero, sV_ref, ofOpt_some, bind_ok, ev_nil, asTup_tup, f1, bindS_ok, bT_nm, nextO_some, List.set_cons_succ, List.set_cons_zero]
    rw [seq_next g1]
    have c1 : evT (callF D G (k + n + 3)) G (.or (.cmp .lt (.var 2) (.lit (.int 2))) (.and (.cmp .eq (.var 1) (.lit (.int 0))) (.cmp .gt (.var 2) (.lit (.int 3))))) [some (.ref 1), some (.int n), some (.int p), none, none] (Sx ns a1 R) = .ok (decide (p < 2 ∨ (n = 0 ∧ 3 < p))) (Sx ns a1 R) := by
      by_cases q1 : p < 2
      · have q1' : (p : Int) < 2 := by omega
        simp [q1, q1']
      · have q1' : ¬ (p : Int) < 2 := by omega
        by_cases q2 : n = 0
        · subst q2
          by_cases q3 : 3 < p
          · have q3' : (3 : Int) < p := by omega
            simp [q1', q3, q3']
          · have q3' : ¬ (3 : Int) < p := by omega
            simp [q1', q1, q3, q3']
        · have q2' : ¬ ((n : Int) = 0) := by omega
          simp [q1', q1, q2, q2']
    by_cases hA : p < 2 ∨ (n = 0 ∧ 3 < p)
    · rw [decide_eq_true hA] at c1
      obtain ⟨i, a2, X, e2, hi, s2⟩ := caseA (k := k + n + 1) (ns := ns) (R := R) (x1 := some (.int n)) (x2 := some (.int p)) (x3 := none) (x4 := none) s1 (by omega)
      refine ⟨.int i, a2, X, ?_, .int _ _ hi, ?_, s2.mono (by omega)⟩
      · rw [seq_ret (v := .int i) (T1 := Sx ns a2 (R ++ X)), ofB_ret]
        rw [ex_ite, c1, bindS_ok, if_pos rfl, seq_ret e2]
      · rw [txt_int]
        have := dec_len i hi
        omega
    · rw [decide_eq_false hA] at c1
      have g2 : exS (callF D G (k + n + 3)) G (.ite (.or (.cmp .lt (.var 2) (.lit (.int 2))) (.and (.cmp .eq (.var 1) (.lit (.int 0))) (.cmp .gt (.var 2) (.lit (.int 3))))) (.seq tA .skip) .skip) [some (.ref 1), some (.int n), some (.int p), none, none] (Sx ns a1 R) = .ok (.next [some (.ref 1), some (.int n), some (.int p), none, none]) (Sx ns a1 R) := by
        rw [ex_ite, c1, bindS_ok, if_neg Bool.false_ne_true, ex_skip]
      rw [seq_next g2]
      have c2 : evT (callF D G (k + n + 3)) G (.cmp .lt (.var 2) (.lit (.int 4))) [some (.ref 1), some (.int n), some (.int p), none, none] (Sx ns a1 R) = .ok (decide (p < 4)) (Sx ns a1 R) := by
        by_cases q1 : p < 4
        · have q1' : (p : Int) < 4 := by omega
          simp [q1, q1']
        · have q1' : ¬ (p : Int) < 4 := by omega
          simp [q1, q1']
      by_cases hB : p < 4
      · rw [decide_eq_true hB] at c2
        obtain ⟨v, a2, X, e2, hv, s2⟩ := caseB (k := k + n + 1) (ns := ns) (R := R) (x1 := some (.int n)) (x2 := some (.int p)) (x3 := none) (x4 := none) s1 (by omega)
        have := strs6_ok n v hv
        refine ⟨v, a2, X, ?_, this.1, by omega, s2.mono (by omega)⟩
        rw [seq_ret (v := v) (T1 := Sx ns a2 (R ++ X)), ofB_ret]
        rw [ex_ite, c2, bindS_ok, if_pos rfl, seq_ret e2]
      · rw [decide_eq_false hB] at c2
        have g3 : exS (callF D G (k + n + 3)) G (.ite (.cmp .lt (.var 2) (.lit (.int 4))) (.seq tB .skip) .skip) [some (.ref 1), some (.int n), some (.int p), none, none] (Sx ns a1 R) = .ok (.next [some (.ref 1), some (.int n), some (.int p), none, none]) (Sx ns a1 R) := by
          rw [ex_ite, c2, bindS_ok, if_neg Bool.false_ne_true, ex_skip]
        rw [seq_next g3]
        obtain ⟨q, rfl⟩ : ∃ q, n = q + 1 := ⟨n - 1, by omega⟩
        obtain ⟨t, a2, e2, ht, s2⟩ := draw (k := k + (q + 1) + 2) (ns := ns) (R := R) s1 (by omega) 4 (by decide) (by decide)
        have f2 : callF D G (k + (q + 1) + 3) 7 [.ref 1, .int 4] (Sx ns a1 R) = .ok (.int t) (Sx ns a2 R) := e2
        have hpow : 4 ^ (q + 1) = 4 * 4 ^ q := by rw [Nat.pow_succ, Nat.mul_comm]
        have hpq : 0 < 4 ^ q := Nat.pow_pos (by decide)
        have hpow3 : 3 ^ (q + 1) = 3 * 3 ^ q := by rw [Nat.pow_succ, Nat.mul_comm]
        have hpq3 : 0 < 3 ^ q := Nat.pow_pos (by decide)
        generalize hK : 4 ^ q = K at *
        generalize hM : 3 ^ q = M at *
        obtain ⟨ys, T', e, ⟨a3, X, hX, s3⟩, hyl, hyq⟩ := comp_by (w := .range 0 1 t) (x := 4) (c := fun _ T => .ok true T) (e := fun σ T => ev (callF D G (k + (q + 1) + 3)) G tCE σ T) (σ := wipeE [some (.ref 1), some (.int (q + 1 : Nat)), some (.int p), none, none] [3, 4]) t (by omega) (fun i => .int (0 + (i : Int) * 1)) (fun i T' => ∃ a' X, T' = Sx ns a' (R ++ X) ∧ St (m + 2 + i * (1000 * K)) a') (fun i y => Gd q y ∧ (txt y).length ≤ 1200 * M - 100)
          (fun i T _ hi => rfl)
          (fun _ _ => rfl)
          (fun i T0 hi ⟨a0, X0, h0, s0⟩ => by
            have hik : i * (1000 * K) ≤ 2 * (1000 * K) := Nat.mul_le_mul_right _ (by omega)
            obtain ⟨d, a', X, e, hd, hl, s⟩ := ih q rfl k (m + 2 + i * (1000 * K)) ns (R ++ X0) a0 s0 (by omega)
            rw [hK] at s
            rw [hM] at hl
            refine ⟨d, Sx ns a' (R ++ X0 ++ X), ?_, ⟨a', X0 ++ X, by rw [List.append_assoc], s.mono (by rw [Nat.add_mul]; omega)⟩, hd, hl⟩
            subst h0
            show ev (callF D G (k + (q + 1) + 3)) G tCE [some (.ref 1), some (.int (q + 1 : Nat)), some (.int p), none, some (.int (0 + (i : Int) * 1))] _ = _
            have hq1 : ((q + 1 : Nat) : Int) - 1 = (q : Int) := by omega
            have e' : callF D G (k + (q + 1) + 3) 13 [.ref 1, .int q] (Sx ns a0 (R ++ X0)) = .ok d (Sx ns a' (R ++ X0 ++ X)) := by
              rw [show k + (q + 1) + 3 = k + q + 4 by omega]; exact e
            simp only [ev_call, ev_cons, ev_bin, ev_var, ev_lit, List.getElem?_cons_succ, List.getElem?_cons_zero, sV_ref, sV_int, ofOpt_some, bind_ok, sub_int, hq1, ev_nil, asTup_tup, e'])
          t FU 0 [] (Sx ns a2 R) (by omega) (by show t + 1 ≤ 1099511627776; omega) rfl ⟨a2, [], by simp, by rw [Nat.zero_mul]; exact s2.mono (by omega)⟩ (fun j y h => by simp at h)
        subst hX
        have hti : t * (1000 * K) ≤ 3 * (1000 * K) := Nat.mul_le_mul_right _ (by omega)
        have ea : ev (callF D G (k + (q + 1) + 3)) G (.cons (.call 7 (.cons (.var 0) (.cons (.lit (.int 4)) .nil))) .nil) [some (.ref 1), some (.int (q + 1 : Nat)), some (.int p), none, none] (Sx ns a1 R) = .ok (.tup [.int t]) (Sx ns a2 R) := by
          simp only [ev_call, ev_cons, ev_var, ev_lit, List.getElem?_cons_zero, sV_ref, ofOpt_some, bind_ok, ev_nil, asTup_tup, f2]
        have ec := ev_comp (C := callF D G (k + (q + 1) + 3)) (G := G) (tg := .nm 4) (own := [3, 4]) (k := .range) (el := tCE) ea (walk_r t (by omega)) e
        have hall : ∀ y ∈ ys, Gd q y ∧ (txt y).length ≤ 1200 * M - 100 := fun y hy => by
          obtain ⟨j, hj, e⟩ := List.mem_iff_getElem.mp hy
          exact hyq j y (by rw [List.getElem?_eq_getElem hj, e])
        refine ⟨.tup ys, a3, X ++ [.lst ys], ?_, .tup _ _ (fun y hy => (hall y hy).1) (by omega), ?_, s3.mono (by omega)⟩
        · rw [seq_ret (v := .tup ys) (T1 := Sx ns a3 (R ++ (X ++ [.lst ys]))), ofB_ret]
          rw [ex_ret, ev_prim, ev_cons, ec]
          simp only [bind_ok, ev_nil, asTup_tup, p_tuple, get_last, lstO_some, tupR_some, bindS_ok]
          rw [← List.append_assoc R]
          rfl
        · rw [txt_tup, List.length_cons, List.length_append, List.length_singleton]
          have h1 := sum_le (L := 1200 * M - 100) (ss := ys.map txt) fun s hs => by
            obtain ⟨y, hy, rfl⟩ := List.mem_map.mp hs
            exact (hall y hy).2
          have h2 := join_len (ys.map txt)
          rw [List.length_map] at h1 h2
          have h3 : ys.length * (1200 * M - 100) ≤ 3 * (1200 * M - 100) := Nat.mul_le_mul_right _ (by omega)
          rcases h2 with h2 | h2
          · omega
          · rw [h2]; simp [joinT]; omega
  intro n
  induction n with
  | zero => exact fun h => gen 0 h fun p e => by omega
  | succ n ih =>
    intro h
    refine gen (n + 1) h fun p e => ?_
    have e : p = n := by omega
    subst e
    exact ih (by omega)
end MP.K00

set_option Elab.async false
set_option linter.all false
set_option maxRecDepth 100000
set_option maxHeartbeats 4000000
/-! plain_text, read_plain -/
namespace MP.K00
open MP
def okC (c : Nat) : Bool := !(decide (c < 32) || decide (126 < c) || c == 39 || c == 37)
theorem lt1 (c d : Nat) : ([c] < [d]) ↔ c < d := by simp [List.cons_lt_cons_iff]
theorem r3 {k : Nat} (s : List Nat) (T : Store) (hs : s.length ≤ 16000000) : callF D G (k + 1) 3 [.str s] T = .ok (.bl (s.all okC)) T := by
  rw [u3]
  unfold t3
  have hb : ∀ c, exS (callF D G k) G (.seq (.ite (.or (.cmp .lt (.var 1) (.lit (.str [32]))) (.or (.cmp .gt (.var 1) (.lit (.str [126]))) (.or (.cmp .eq (.var 1) (.lit (.str [39]))) (.cmp .eq (.prim .ord (.cons (.var 1) .nil)) (.lit (.int 37)))))) (.seq (.ret (.lit (.bl false))) .skip) .skip) .skip) [some (.str s), some (.str [c])] T = if okC c then .ok (.next [some (.str s), some (.str [c])]) T else .ok (.ret (.bl false)) T := fun c => by
    unfold okC
    by_cases h1 : c < 32
    · simp [lt1, h1]
    · by_cases h2 : 126 < c
      · simp [lt1, h1, h2]
      · by_cases h3 : c = 39
        · subst h3; simp [lt1]
        · by_cases h4 : c = 37
          · subst h4; simp [lt1]
          · have h4' : ¬ ((c : Int) = 37) := by omega
            simp [lt1, h1, h2, h3, h4, h4']
  have hl : ∀ (rest pre : List Nat) (n : Nat) (x1 : Option PV), s = pre ++ rest → rest.length + 1 ≤ n → ∃ y1, iterL (.items (s.map fun c => .str [c])) (.nm 1) (exS (callF D G k) G (.seq (.ite (.or (.cmp .lt (.var 1) (.lit (.str [32]))) (.or (.cmp .gt (.var 1) (.lit (.str [126]))) (.or (.cmp .eq (.var 1) (.lit (.str [39]))) (.cmp .eq (.prim .ord (.cons (.var 1) .nil)) (.lit (.int 37)))))) (.seq (.ret (.lit (.bl false))) .skip) .skip) .skip)) n pre.length [some (.str s), x1] T = if rest.all okC then .ok (.next [some (.str s), y1]) T else .ok (.ret (.bl false)) T := by
    generalize exS (callF D G k) G (.seq (.ite (.or (.cmp .lt (.var 1) (.lit (.str [32]))) _) _ .skip) .skip) = b at *
    intro rest
    induction rest with
    | nil =>
      intro pre n x1 e hn
      obtain ⟨n, rfl⟩ : ∃ m, n = m + 1 := ⟨n - 1, by simp at hn; omega⟩
      refine ⟨x1, ?_⟩
      rw [iterL_end]
      · rfl
      · show some ((s.map fun c => PV.str [c])[pre.length]?) = some none
        rw [e, List.append_nil, List.getElem?_eq_none (by simp)]
    | cons c rest ih =>
      intro pre n x1 e hn
      obtain ⟨n, rfl⟩ : ∃ m, n = m + 1 := ⟨n - 1, by simp at hn; omega⟩
      have hat : (Wk.items (s.map fun c => .str [c])).at pre.length T = some (some (.str [c])) := by
        show some ((s.map fun c => PV.str [c])[pre.length]?) = _
        rw [e, List.getElem?_map, List.getElem?_append_right (Nat.le_refl _), Nat.sub_self]
        rfl
      have hbc := hb c
      cases hd : okC c with
      | true =>
        rw [hd, if_pos rfl] at hbc
        obtain ⟨y, h⟩ := ih (pre ++ [c]) n (some (.str [c])) (by rw [e]; simp) (by simp at hn; omega)
        refine ⟨y, ?_⟩
        rw [iterL_next (σ := [some (.str s), x1]) hat hbc]
        rw [List.length_append, List.length_singleton] at h
        rw [h, List.all_cons, hd, Bool.true_and]
      | false =>
        rw [hd] at hbc
        refine ⟨x1, ?_⟩
        rw [iterL_ret (σ := [some (.str s), x1]) hat hbc, List.all_cons, hd, Bool.false_and]
        rfl
  obtain ⟨y, e⟩ := hl s [] FU none rfl (by show s.length + 1 ≤ 1099511627776; omega)
  have e' := (loopO_some (σ := [some (.str s), none]) (T := T) _ _ _).trans e
  have e4 := loop_is (C := callF D G k) (G := G) (k := .plain) (it := .cons (.var 0) .nil) (vs := [.str s]) (T1 := T) (σ := [some (.str s), none]) (T := T) rfl rfl e'
  cases h : s.all okC with
  | true =>
    rw [h, if_pos rfl] at e4
    rw [seq_next e4]
    rfl
  | false =>
    rw [h] at e4
    rw [seq_ret e4]
    rfl
/-- signs of a number -/
def inS (c : Nat) : Bool := decide (c ∈ [45, 48, 49, 50, 51, 52, 53, 54, 55, 56, 57])
/-- a text or number at the front: its value, and how many signs it took -/
def rp : List Nat → Option (PV × Nat)
  | [] => none
  | c :: r => if c = 39 then match findSign 39 r 0 with
      | some j => if (r.take j).all okC then some (.str (r.take j), j + 2) else none
      | none => none
    else match rint ((c :: r).takeWhile inS) with
      | some v => some (.int v, ((c :: r).takeWhile inS).length)
      | none => none
theorem find_shift (c : Nat) : ∀ (r : List Nat) (i j : Nat), findSign c r (i + j) = (findSign c r i).map (· + j)
  | [], _, _ => rfl
  | x :: r, i, j => by
    unfold findSign
    split
    · rfl
    · rw [show i + j + 1 = (i + 1) + j by omega, find_shift c r (i + 1) j]
theorem r4 {k : Nat} (t : List Nat) (i : Nat) (T : Store) (ht : t.length ≤ 120000) (hi : i < t.length) : callF D G (k + 2) 4 [.str t, .int i] T = match rp (t.drop i) with
    | some (v, j) => .ok (.tup [v, .int (i + j : Nat)]) T
    | none => .exc 1 T := by
  have hsz : t.length ≤ SZ := by show _ ≤ 16777216; omega
  have hn : normI t.length (i : Int) = some i := norm_in (by omega) (by omega)
  obtain ⟨c, hc⟩ : ∃ c, t[i]? = some c := ⟨t[i], List.getElem?_eq_getElem hi⟩
  have hdrop : t.drop i = c :: t.drop (i + 1) := by
    rw [List.drop_eq_getElem_cons hi]
    rw [List.getElem?_eq_getElem hi] at hc
    cases hc
    rfl
  rw [u4, hdrop]
  unfold t4
  have cc : evT (callF D G (k + 1)) G (.cmp .eq (.idx (.var 0) (.var 1)) (.lit (.str [39]))) [some (.str t), some (.int i), none] T = .ok (decide (c = 39)) T := by
    simp [hsz, hn, hc]
    by_cases h : c = 39 <;> simp [h]
  by_cases h39 : c = 39
  · rw [decide_eq_true h39] at cc
    subst h39
    have hi1 : (i : Int) + 1 = ((i + 1 : Nat) : Int) := by omega
    have hfind : findI 39 t ((i + 1 : Nat) : Int) = match findSign 39 (t.drop (i + 1)) 0 with
        | some j => ((j + (i + 1) : Nat) : Int)
        | none => -1 := by
      unfold findI
      rw [Int.toNat_natCast]
      have := find_shift 39 (t.drop (i + 1)) 0 (i + 1)
      rw [Nat.zero_add] at this
      rw [this]
      cases findSign 39 (t.drop (i + 1)) 0 <;> rfl
    have hfb : (0 : Int) ≤ ((i + 1 : Nat) : Int) ∧ ((i + 1 : Nat) : Int) < 4611686018427387904 ∧ t.length ≤ SZ := ⟨by omega, by omega, hsz⟩
    have g1 : exS (callF D G (k + 1)) G (.asg (.nm 2) (.meth .find (.var 0) (.cons (.lit (.str [39])) (.cons (.bin .add (.var 1) (.lit (.int 1))) .nil)))) [some (.str t), some (.int i), none] T = .ok (.next [some (.str t), some (.int i), some (.int (findI 39 t ((i + 1 : Nat) : Int)))]) T := by
      have ea : ev (callF D G (k + 1)) G (.cons (.lit (.str [39])) (.cons (.bin .add (.var 1) (.lit (.int 1))) .nil)) [some (.str t), some (.int i), none] T = .ok (.tup [.str [39], .int ((i + 1 : Nat) : Int)]) T := by
        simp only [ev_cons, ev_lit, ev_bin, ev_var, List.getElem?_cons_succ, List.getElem?_cons_zero, sV_int, ofOpt_some, bind_ok, add_int, hi1, ev_nil, asTup_tup]
      rw [ex_asg, ev_meth, ev_var, List.getElem?_cons_zero, sV_str, ofOpt_some, bind_ok, ro_find, if_pos rfl, ea, bind_ok, asTup_tup, m_find, if_pos hfb, bindS_ok, bT_nm, nextO_some, List.set_cons_succ, List.set_cons_succ, List.set_cons_zero]
    have hrp : rp (39 :: t.drop (i + 1)) = match findSign 39 (t.drop (i + 1)) 0 with
      | some j => if ((t.drop (i + 1)).take j).all okC then some (.str ((t.drop (i + 1)).take j), j + 2) else none
      | none => none := rfl
    rw [hrp]
    cases hf : findSign 39 (t.drop (i + 1)) 0 with
    | none =>
      rw [hf] at hfind
      have hfind : findI 39 t ((i + 1 : Nat) : Int) = -1 := hfind
      rw [hfind] at g1
      have g2 : exS (callF D G (k + 1)) G (.ite (.or (.cmp .lt (.var 2) (.lit (.int 0))) (.not (.call 3 (.cons (.slice (.var 0) (.bin .add (.var 1) (.lit (.int 1))) (.var 2) true true) .nil)))) (.seq (.raise 1) .skip) .skip) [some (.str t), some (.int i), some (.int (-1))] T = .ok (.exc 1 [some (.str t), some (.int i), some (.int (-1))]) T := by
        simp
      rw [seq_exc (c := 1) (σ1 := [some (.str t), some (.int i), some (.int (-1))]) (T1 := T), ofB_exc]
      rw [ex_ite, cc, bindS_ok, if_pos rfl, seq_next g1, seq_exc g2]
    | some j =>
      rw [hf] at hfind
      have hfind : findI 39 t ((i + 1 : Nat) : Int) = ((j + (i + 1) : Nat) : Int) := hfind
      rw [hfind] at g1
      have hsl : sliceOp true true (.str t) (.int ((i + 1 : Nat) : Int)) (.int ((j + (i + 1) : Nat) : Int)) T = .ok (.str ((t.drop (i + 1)).take j)) T := by
        have := sl_mid (s := t) T (i + 1) (j + (i + 1)) (by omega)
        rw [Nat.add_sub_cancel] at this
        exact this
      have hsub : ((t.drop (i + 1)).take j).length ≤ 16000000 := by rw [List.length_take, List.length_drop]; omega
      obtain ⟨w, hwd⟩ : ∃ w, w = (t.drop (i + 1)).take j := ⟨_, rfl⟩
      rw [← hwd] at hsl hsub
      have e3 := r3 (k := k) w T hsub
      have hnn : ¬ (((j + (i + 1) : Nat) : Int) < 0) := by omega
      have cond : evT (callF D G (k + 1)) G (.or (.cmp .lt (.var 2) (.lit (.int 0))) (.not (.call 3 (.cons (.slice (.var 0) (.bin .add (.var 1) (.lit (.int 1))) (.var 2) true true) .nil)))) [some (.str t), some (.int i), some (.int ((j + (i + 1) : Nat) : Int))] T = .ok (!(w.all okC)) T := by
        generalize ((j + (i + 1) : Nat) : Int) = z at *
        rw [evT_eq]
        simp only [ev_or, ev_cmp, ev_not, ev_call, ev_cons, ev_slice, ev_bin, ev_var, ev_lit, List.getElem?_cons_succ, List.getElem?_cons_zero, sV_str, sV_int, ofOpt_some, bind_ok, lt_int, decide_eq_false hnn, tr_bl, Bool.false_eq_true, if_false, add_int, hi1, po_t, if_true, hsl, ev_nil, asTup_tup, e3]
      cases hw : w.all okC with
      | true =>
        rw [hw] at cond
        have g2 : exS (callF D G (k + 1)) G (.ite (.or (.cmp .lt (.var 2) (.lit (.int 0))) (.not (.call 3 (.cons (.slice (.var 0) (.bin .add (.var 1) (.lit (.int 1))) (.var 2) true true) .nil)))) (.seq (.raise 1) .skip) .skip) [some (.str t), some (.int i), some (.int ((j + (i + 1) : Nat) : Int))] T = .ok (.next [some (.str t), some (.int i), some (.int ((j + (i + 1) : Nat) : Int))]) T := by
          rw [ex_ite, cond, bindS_ok]
          rfl
        have hz : ((j + (i + 1) : Nat) : Int) + 1 = ((i + (j + 2) : Nat) : Int) := by omega
        have g3 : exS (callF D G (k + 1)) G (.ret (.tup (.cons (.slice (.var 0) (.bin .add (.var 1) (.lit (.int 1))) (.var 2) true true) (.cons (.bin .add (.var 2) (.lit (.int 1))) .nil)))) [some (.str t), some (.int i), some (.int ((j + (i + 1) : Nat) : Int))] T = .ok (.ret (.tup [.str w, .int ((i + (j + 2) : Nat) : Int)])) T := by
          have h2 : (0 + 1 + 1 : Nat) ≤ SZ := by show _ ≤ 16777216; omega
          generalize ((i + (j + 2) : Nat) : Int) = y at *
          generalize ((j + (i + 1) : Nat) : Int) = z at *
          rw [ex_ret]
          simp only [ev_tup, ev_cons, ev_slice, ev_bin, ev_var, ev_lit, List.getElem?_cons_succ, List.getElem?_cons_zero, sV_str, sV_int, ofOpt_some, bind_ok, add_int, hi1, po_t, if_true, hsl, hz, ev_nil, asTup_tup]
          rfl
        rw [seq_ret (v := .tup [.str w, .int ((i + (j + 2) : Nat) : Int)]) (T1 := T), ofB_ret]
        · simp only [← hwd, hw, if_true]
        · rw [ex_ite, cc, bindS_ok, if_pos rfl, seq_next g1, seq_next g2, seq_ret g3]
      | false =>
        rw [hw] at cond
        have g2 : exS (callF D G (k + 1)) G (.ite (.or (.cmp .lt (.var 2) (.lit (.int 0))) (.not (.call 3 (.cons (.slice (.var 0) (.bin .add (.var 1) (.lit (.int 1))) (.var 2) true true) .nil)))) (.seq (.raise 1) .skip) .skip) [some (.str t), some (.int i), some (.int ((j + (i + 1) : Nat) : Int))] T = .ok (.exc 1 [some (.str t), some (.int i), some (.int ((j + (i + 1) : Nat) : Int))]) T := by
          rw [ex_ite, cond, bindS_ok]
          rfl
        rw [seq_exc (c := 1) (σ1 := [some (.str t), some (.int i), some (.int ((j + (i + 1) : Nat) : Int))]) (T1 := T), ofB_exc]
        · simp only [← hwd, hw, Bool.false_eq_true, if_false]
        · rw [ex_ite, cc, bindS_ok, if_pos rfl, seq_next g1, seq_exc g2]
  · rw [decide_eq_false h39] at cc
    have g0 : ∀ A, exS (callF D G (k + 1)) G (.ite (.cmp .eq (.idx (.var 0) (.var 1)) (.lit (.str [39]))) A .skip) [some (.str t), some (.int i), none] T = .ok (.next [some (.str t), some (.int i), none]) T := fun A => by
      rw [ex_ite, cc, bindS_ok, if_neg Bool.false_ne_true, ex_skip]
    have g1 : exS (callF D G (k + 1)) G (.asg (.nm 2) (.var 1)) [some (.str t), some (.int i), none] T = .ok (.next [some (.str t), some (.int i), some (.int i)]) T := by simp
    rw [seq_next (g0 _), seq_next g1]
    -- the walk over the number's signs
    have hG : G 3 = some (.str [45, 48, 49, 50, 51, 52, 53, 54, 55, 56, 57]) := rfl
    have hcond : ∀ e : Nat, e ≤ t.length → evT (callF D G (k + 1)) G (.and (.cmp .lt (.var 2) (.prim .len (.cons (.var 0) .nil))) (.cmp .isin (.idx (.var 0) (.var 2)) (.glob 3))) [some (.str t), some (.int i), some (.int e)] T = .ok (match t[e]? with | some c => inS c | none => false) T := fun e he => by
      by_cases hlt : e < t.length
      · have hlt' : (e : Int) < (t.length : Int) := by omega
        have hne : normI t.length (e : Int) = some e := norm_in (by omega) (by omega)
        obtain ⟨d, hd⟩ : ∃ d, t[e]? = some d := ⟨t[e], List.getElem?_eq_getElem hlt⟩
        rw [hd, evT_eq]
        simp only [ev_and, ev_cmp, ev_prim, ev_cons, ev_idx, ev_var, ev_glob, hG, List.getElem?_cons_succ, List.getElem?_cons_zero, sV_str, sV_int, ofOpt_some, bind_ok, ev_nil, asTup_tup, len_str, if_pos hsz, lt_int, decide_eq_true hlt', tr_bl, if_true, ix_str, hne, Option.bind_some, hd, Option.map_some, in_str]
        rfl
      · have hlt' : ¬ ((e : Int) < (t.length : Int)) := by omega
        rw [List.getElem?_eq_none (by omega), evT_eq]
        simp only [ev_and, ev_cmp, ev_prim, ev_cons, ev_var, List.getElem?_cons_succ, List.getElem?_cons_zero, sV_str, sV_int, ofOpt_some, bind_ok, ev_nil, asTup_tup, len_str, if_pos hsz, lt_int, decide_eq_false hlt', tr_bl, Bool.false_eq_true, if_false]
    have hbody : ∀ e : Nat, exS (callF D G (k + 1)) G (.seq (.aug 2 .add (.lit (.int 1))) .skip) [some (.str t), some (.int i), some (.int e)] T = .ok (.next [some (.str t), some (.int i), some (.int (e + 1 : Nat))]) T := fun e => by
      have : (e : Int) + 1 = ((e + 1 : Nat) : Int) := by omega
      rw [seq_next (σ1 := [some (.str t), some (.int i), some (.int (e + 1 : Nat))]) (T1 := T), ex_skip]
      rw [ex_aug]
      simp only [ev_lit, List.getElem?_cons_succ, List.getElem?_cons_zero, slotA_some, augR_some, bindS_ok, aug_add, this, Option.map_some, nextO_some, List.set_cons_succ, List.set_cons_zero]
    have hloop : ∀ (n e : Nat), e ≤ t.length → t.length - e + 1 ≤ n → whileL (evT (callF D G (k + 1)) G (.and (.cmp .lt (.var 2) (.prim .len (.cons (.var 0) .nil))) (.cmp .isin (.idx (.var 0) (.var 2)) (.glob 3)))) (exS (callF D G (k + 1)) G (.seq (.aug 2 .add (.lit (.int 1))) .skip)) n [some (.str t), some (.int i), some (.int e)] T = .ok (.next [some (.str t), some (.int i), some (.int (e + ((t.drop e).takeWhile inS).length : Nat))]) T := by
      generalize evT (callF D G (k + 1)) G (.and (.cmp .lt (.var 2) _) _) = cnd at *
      generalize exS (callF D G (k + 1)) G (.seq (.aug 2 .add (.lit (.int 1))) .skip) = b at *
      intro n
      induction n with
      | zero => intro e he hn; omega
      | succ n ih =>
        intro e he hn
        have hce := hcond e he
        by_cases hlt : e < t.length
        · have hd : t[e]? = some t[e] := List.getElem?_eq_getElem hlt
          rw [hd] at hce
          have hdr : t.drop e = t[e] :: t.drop (e + 1) := List.drop_eq_getElem_cons hlt
          generalize t[e] = d at *
          have hce : cnd [some (.str t), some (.int i), some (.int e)] T = .ok (inS d) T := hce
          rw [hdr, List.takeWhile_cons]
          cases hin : inS d with
          | true =>
            rw [hin] at hce
            rw [whileL_next hce (hbody e), ih (e + 1) (by omega) (by omega), if_pos rfl, List.length_cons]
            have : e + 1 + ((t.drop (e + 1)).takeWhile inS).length = e + (((t.drop (e + 1)).takeWhile inS).length + 1) := by omega
            rw [this]
          | false =>
            rw [hin] at hce
            rw [whileL_end hce]
            rfl
        · rw [List.getElem?_eq_none (by omega)] at hce
          rw [whileL_end hce, List.drop_of_length_le (by omega)]
          rfl
    have g2 := while_by (t.length + 1) (by omega) (fun n hn => hloop n i (by omega) (by omega))
    clear hloop
    have hrp : rp (c :: t.drop (i + 1)) = match rint ((c :: t.drop (i + 1)).takeWhile inS) with
      | some v => some (.int v, ((c :: t.drop (i + 1)).takeWhile inS).length)
      | none => none := if_neg h39
    rw [hrp, ← hdrop]
    obtain ⟨w, hw⟩ : ∃ w, w = (t.drop i).takeWhile inS := ⟨_, rfl⟩
    have hwl : w.length ≤ t.length - i := by
      rw [hw]
      have := (List.takeWhile_sublist (p := inS) (l := t.drop i)).length_le
      rw [List.length_drop] at this
      exact this
    have htk : (t.drop i).take w.length = w := by
      rw [hw]
      exact (List.prefix_iff_eq_take.mp (List.takeWhile_prefix inS)).symm
    rw [← hw] at g2 ⊢
    have hsl : sliceOp true true (.str t) (.int (i : Int)) (.int ((i + w.length : Nat) : Int)) T = .ok (.str w) T := by
      have := sl_mid (s := t) T i (i + w.length) (by omega)
      rw [Nat.add_sub_cancel_left, htk] at this
      exact this
    have e1 := r1 (k := k) w T (by omega)
    rw [seq_next ((ex_whl _ _).trans g2)]
    cases hr : rint w with
    | some v =>
      rw [hr] at e1
      have e1 : callF D G (k + 1) 1 [.str w] T = .ok (.int v) T := e1
      rw [seq_ret (v := .tup [.int v, .int ((i + w.length : Nat) : Int)]) (T1 := T), ofB_ret]
      generalize ((i + w.length : Nat) : Int) = y at *
      rw [ex_ret]
      simp only [ev_tup, ev_cons, ev_call, ev_slice, ev_var, List.getElem?_cons_succ, List.getElem?_cons_zero, sV_str, sV_int, ofOpt_some, bind_ok, po_t, if_true, hsl, ev_nil, asTup_tup, e1]
      rfl
    | none =>
      rw [hr] at e1
      have e1 : callF D G (k + 1) 1 [.str w] T = .exc 1 T := e1
      rw [seq_exc (c := 1) (σ1 := [some (.str t), some (.int i), some (.int ((i + w.length : Nat) : Int))]) (T1 := T), ofB_exc]
      generalize ((i + w.length : Nat) : Int) = y at *
      rw [ex_ret]
      simp only [ev_tup, ev_cons, ev_call, ev_slice, ev_var, List.getElem?_cons_succ, List.getElem?_cons_zero, sV_str, sV_int, ofOpt_some, bind_ok, po_t, if_true, hsl, ev_nil, asTup_tup, e1, bind_exc, bindS_exc]
end MP.K00

set_option Elab.async false
set_option linter.all false
set_option maxRecDepth 100000
set_option maxHeartbeats 4000000
/-! read_data -/
namespace MP.K00
open MP
/-- the parser: some none: refused -/
def prun : Nat → List Nat → List (List PV) → Nat → Option (Option (List (List PV)))
  | 0, _, _, _ => none
  | _ + 1, [], stk, _ => some (some stk)
  | n + 1, c :: r, stk, fr =>
    if fr ≠ 0 ∧ c = 40 ∧ stk.length ≤ 40 then prun n r ([] :: stk) 2
    else if c = 41 ∧ 1 < stk.length ∧ (fr = 0 ∨ fr = 2) then match stk with
      | top :: nxt :: more => prun n r ((nxt ++ [.tup top]) :: more) 0
      | _ => none
    else if fr = 0 ∧ 1 < stk.length ∧ (c :: r).take 2 = [44, 32] then prun n (r.drop 1) stk 1
    else if fr ≠ 0 ∧ c ≠ 40 then match rp (c :: r) with
      | some (v, j) => match stk with
        | top :: more => prun n ((c :: r).drop j) ((top ++ [v]) :: more) 0
        | [] => none
      | none => some none
    else some none
structure PR (T Z : Store) (ids : List Nat) (stk : List (List PV)) : Prop where
  len : ids.length = stk.length
  out : Z[1]? = some (.lst (ids.reverse.map fun j => PV.ref (T.length + j)))
  at_ : ∀ (p j : Nat) (l : List PV), ids[p]? = some j → stk[p]? = some l → Z[j]? = some (.lst l)
  nd : ids.Nodup
  n1 : ∀ j ∈ ids, j ≠ 1
theorem gT {T Z : Store} (j : Nat) : (T ++ Z)[T.length + j]? = Z[j]? := by
  rw [List.getElem?_append_right (by omega), Nat.add_sub_cancel_left]
theorem sT {T Z : Store} (j : Nat) (x : MO) : (T ++ Z).set (T.length + j) x = T ++ Z.set j x := by
  rw [List.set_append_right _ _ (by omega), Nat.add_sub_cancel_left]
theorem neg1 {n : Nat} (h : 0 < n) : normI n (-1) = some (n - 1) := by
  unfold normI
  rw [if_neg (by decide), if_pos (by omega)]
  congr 1
  omega
abbrev CA : E := .and (.var 3) (.and (.cmp .eq (.idx (.var 0) (.var 2)) (.lit (.str [40]))) (.cmp .le (.prim .len (.cons (.var 1) .nil)) (.glob 2)))
abbrev CB : E := .and (.cmp .eq (.idx (.var 0) (.var 2)) (.lit (.str [41]))) (.and (.cmp .gt (.prim .len (.cons (.var 1) .nil)) (.lit (.int 1))) (.or (.not (.var 3)) (.cmp .eq (.idx (.var 0) (.bin .sub (.var 2) (.lit (.int 1)))) (.lit (.str [40])))))
abbrev CC : E := .and (.not (.var 3)) (.and (.cmp .gt (.prim .len (.cons (.var 1) .nil)) (.lit (.int 1))) (.cmp .eq (.slice (.var 0) (.var 2) (.bin .add (.var 2) (.lit (.int 2))) true true) (.lit (.str [44, 32]))))
abbrev CD : E := .and (.var 3) (.cmp .ne (.idx (.var 0) (.var 2)) (.lit (.str [40])))
abbrev AA : S := .seq (.exp (.meth .append (.var 1) (.cons (.list .nil) .nil))) (.seq (.aug 2 .add (.lit (.int 1))) .skip)
abbrev BB : S := .seq (.asg (.nm 4) (.prim .tuple (.cons (.meth .pop (.var 1) .nil) .nil))) (.seq (.exp (.meth .append (.idx (.var 1) (.neg (.lit (.int 1)))) (.cons (.var 4) .nil))) (.seq (.aug 2 .add (.lit (.int 1))) (.seq (.asg (.nm 3) (.lit (.bl false))) .skip)))
abbrev C2 : S := .seq (.aug 2 .add (.lit (.int 2))) (.seq (.asg (.nm 3) (.lit (.bl true))) .skip)
abbrev DD : S := .seq (.asg (.tp [5, 2]) (.call 4 (.cons (.var 0) (.cons (.var 2) .nil)))) (.seq (.exp (.meth .append (.idx (.var 1) (.neg (.lit (.int 1)))) (.cons (.var 5) .nil))) (.seq (.asg (.nm 3) (.lit (.bl false))) .skip))
abbrev BD : S := .seq (.ite CA AA (.seq (.ite CB BB (.seq (.ite CC C2 (.seq (.ite CD DD (.seq (.raise 1) .skip)) .skip)) .skip)) .skip)) .skip
abbrev CW : E := .cmp .lt (.var 2) (.prim .len (.cons (.var 0) .nil))
theorem t5_eq : t5 = .seq (.asg (.nm 1) (.list (.cons (.list .nil) .nil))) (.seq (.asg (.nm 2) (.lit (.int 0))) (.seq (.asg (.nm 3) (.lit (.bl true))) (.seq (.whl CW BD) (.seq (.ite (.or (.cmp .ne (.prim .len (.cons (.var 1) .nil)) (.lit (.int 1))) (.cmp .ne (.prim .len (.cons (.idx (.var 1) (.lit (.int 0))) .nil)) (.lit (.int 1)))) (.seq (.raise 1) .skip) .skip) (.seq (.ret (.idx (.idx (.var 1) (.lit (.int 0))) (.lit (.int 0)))) .skip))))) := rfl
section
variable {k : Nat} {T Z : Store} {t : List Nat} {i c : Nat} {f : Bool} {x4 x5 : Option PV} {O : List PV}
abbrev sg (T : Store) (t : List Nat) (i : Nat) (f : Bool) (x4 x5 : Option PV) : Nv := [some (.str t), some (.ref (T.length + 1)), some (.int i), some (.bl f), x4, x5]
theorem ix0 (ht : t.length ≤ 120000) (hc : t[i]? = some c) : idxOp (.str t) (.int i) (T ++ Z) = some (.str [c]) := by
  have hi := (List.getElem?_eq_some_iff.mp hc).1
  rw [ix_str, if_pos (show _ ≤ SZ from (show _ ≤ 16777216 by omega)), norm_in (i := (i : Int)) (by omega) (by omega), Int.toNat_natCast, Option.bind_some, hc]
  rfl
theorem len1 (hO : Z[1]? = some (.lst O)) : primOp .len [.ref (T.length + 1)] (T ++ Z) = .ok (.int O.length) (T ++ Z) := by
  rw [len_ref, gT, hO, lstO_some, lenR_some]
theorem eq1 (c d : Nat) (T : Store) : cmpOp .eq (.str [c]) (.str [d]) T = some (decide (c = d)) := by
  rw [eq_str]
  congr 1
  by_cases h : c = d <;> simp [h]
theorem ne1 (c d : Nat) (T : Store) : cmpOp .ne (.str [c]) (.str [d]) T = some (!decide (c = d)) := by
  rw [ne_str]
  congr 1
  by_cases h : c = d <;> simp [h]
theorem cA (ht : t.length ≤ 120000) (hc : t[i]? = some c) (hO : Z[1]? = some (.lst O)) : evT (callF D G k) G CA (sg T t i f x4 x5) (T ++ Z) = .ok (f && (decide (c = 40) && decide (O.length ≤ 40))) (T ++ Z) := by
  have hG : G 2 = some (.int 40) := rfl
  have h1 := ix0 (T := T) (Z := Z) ht hc
  have h2 := len1 (T := T) hO
  have h3 : decide ((O.length : Int) ≤ 40) = decide (O.length ≤ 40) := by rw [decide_eq_decide]; omega
  cases f with
  | false => simp
  | true =>
    rw [evT_eq]
    simp only [ev_and, ev_var, List.getElem?_cons_succ, List.getElem?_cons_zero, sV_bl, ofOpt_some, bind_ok, tr_bl, if_true, ev_cmp, ev_idx, sV_str, sV_int, h1, ev_lit, eq1]
    cases decide (c = 40) with
    | false => simp
    | true => simp only [if_true, ev_prim, ev_cons, ev_var, List.getElem?_cons_succ, List.getElem?_cons_zero, sV_ref, ofOpt_some, bind_ok, ev_nil, asTup_tup, h2, ev_glob, hG, le_int, tr_bl, h3, Bool.true_and]
theorem cB (ht : t.length ≤ 120000) (hc : t[i]? = some c) (hO : Z[1]? = some (.lst O)) (q : Bool) (hq : f = true → 1 < O.length → ∃ d, 1 ≤ i ∧ t[i - 1]? = some d ∧ decide (d = 40) = q) : evT (callF D G k) G CB (sg T t i f x4 x5) (T ++ Z) = .ok (decide (c = 41) && (decide (1 < O.length) && (!f || q))) (T ++ Z) := by
  have h1 := ix0 (T := T) (Z := Z) ht hc
  have h2 := len1 (T := T) hO
  have h3 : decide ((1 : Int) < (O.length : Int)) = decide (1 < O.length) := by rw [decide_eq_decide]; omega
  rw [evT_eq]
  simp only [ev_and, ev_var, List.getElem?_cons_succ, List.getElem?_cons_zero, ofOpt_some, bind_ok, ev_cmp, ev_idx, sV_str, sV_int, h1, ev_lit, eq1, tr_bl]
  cases decide (c = 41) with
  | false => simp
  | true =>
    simp only [if_true, ev_prim, ev_cons, ev_var, List.getElem?_cons_succ, List.getElem?_cons_zero, sV_ref, ofOpt_some, bind_ok, ev_nil, asTup_tup, h2, ev_lit, gt_int, tr_bl, h3, Bool.true_and]
    by_cases hL : 1 < O.length
    · rw [decide_eq_true hL]
      cases f with
      | false => simp
      | true =>
        obtain ⟨d, hi, hd, hdq⟩ := hq rfl hL
        have h4 := ix0 (T := T) (Z := Z) (i := i - 1) ht hd
        have h5 : (i : Int) - 1 = ((i - 1 : Nat) : Int) := by omega
        simp only [if_true, ev_or, ev_not, ev_var, List.getElem?_cons_succ, List.getElem?_cons_zero, sV_bl, sV_str, sV_int, ofOpt_some, bind_ok, tr_bl, Bool.not_true, Bool.false_eq_true, if_false, ev_cmp, ev_idx, ev_bin, ev_lit, sub_int, h5, h4, eq1, hdq, Bool.true_and, Bool.false_or]
    · rw [decide_eq_false hL]
      simp
theorem cC (ht : t.length ≤ 120000) (hO : Z[1]? = some (.lst O)) : evT (callF D G k) G CC (sg T t i f x4 x5) (T ++ Z) = .ok (!f && (decide (1 < O.length) && decide ((t.drop i).take 2 = [44, 32]))) (T ++ Z) := by
  have h2 := len1 (T := T) hO
  have h3 : decide ((1 : Int) < (O.length : Int)) = decide (1 < O.length) := by rw [decide_eq_decide]; omega
  have h4 : sliceOp true true (.str t) (.int (i : Int)) (.int ((i : Int) + 2)) (T ++ Z) = .ok (.str ((t.drop i).take 2)) (T ++ Z) := by
    have := sl_mid (s := t) (T ++ Z) i (i + 2) (by omega)
    rw [Nat.add_sub_cancel_left] at this
    exact this
  cases f with
  | true => simp
  | false =>
    rw [evT_eq]
    simp only [ev_and, ev_not, ev_var, List.getElem?_cons_succ, List.getElem?_cons_zero, sV_bl, ofOpt_some, bind_ok, tr_bl, Bool.not_false, if_true, ev_cmp, ev_prim, ev_cons, sV_ref, ev_nil, asTup_tup, h2, ev_lit, gt_int, h3, Bool.true_and]
    by_cases hL : 1 < O.length
    · rw [decide_eq_true hL]
      generalize (t.drop i).take 2 = w at *
      simp only [if_true, ev_slice, ev_var, ev_bin, ev_lit, List.getElem?_cons_succ, List.getElem?_cons_zero, sV_str, sV_int, ofOpt_some, bind_ok, po_t, add_int, h4, eq_str, tr_bl, Bool.true_and]
      congr 1
      by_cases h : w = [44, 32] <;> simp [h]
    · rw [decide_eq_false hL]
      simp
theorem cD (ht : t.length ≤ 120000) (hc : t[i]? = some c) : evT (callF D G k) G CD (sg T t i f x4 x5) (T ++ Z) = .ok (f && !decide (c = 40)) (T ++ Z) := by
  have h1 := ix0 (T := T) (Z := Z) ht hc
  cases f with
  | false => simp
  | true =>
    rw [evT_eq]
    simp only [ev_and, ev_var, List.getElem?_cons_succ, List.getElem?_cons_zero, sV_bl, ofOpt_some, bind_ok, tr_bl, if_true, ev_cmp, ev_idx, sV_str, sV_int, h1, ev_lit, ne1, Bool.true_and]
theorem aug2 (n : Nat) (S0 : Store) : exS (callF D G k) G (.aug 2 .add (.lit (.int n))) (sg T t i f x4 x5) S0 = .ok (.next (sg T t (i + n) f x4 x5)) S0 := by
  rw [ex_aug]
  simp only [ev_lit, List.getElem?_cons_succ, List.getElem?_cons_zero, slotA_some, augR_some, bindS_ok, aug_add, Option.map_some, nextO_some, List.set_cons_succ, List.set_cons_zero]
  rw [← Int.natCast_add]
theorem aug21 (S0 : Store) : exS (callF D G k) G (.aug 2 .add (.lit (.int 1))) (sg T t i f x4 x5) S0 = .ok (.next (sg T t (i + 1) f x4 x5)) S0 := aug2 1 S0
theorem aug22 (S0 : Store) : exS (callF D G k) G (.aug 2 .add (.lit (.int 2))) (sg T t i f x4 x5) S0 = .ok (.next (sg T t (i + 2) f x4 x5)) S0 := aug2 2 S0
theorem set3 (b : Bool) (S0 : Store) : exS (callF D G k) G (.asg (.nm 3) (.lit (.bl b))) (sg T t i f x4 x5) S0 = .ok (.next (sg T t i b x4 x5)) S0 := by
  rw [ex_asg, ev_lit, bindS_ok, bT_nm, nextO_some]
  simp only [List.set_cons_succ, List.set_cons_zero]
theorem appLast {x j0 : Nat} {O' l : List PV} {v : PV} (hO : Z[1]? = some (.lst (O' ++ [PV.ref (T.length + j0)]))) (hj : Z[j0]? = some (.lst l)) (hv : slotV (sg T t i f x4 x5)[x]? = some v) (hl : l.length ≤ 120000) :
    exS (callF D G k) G (.exp (.meth .append (.idx (.var 1) (.neg (.lit (.int 1)))) (.cons (.var x) .nil))) (sg T t i f x4 x5) (T ++ Z) = .ok (.next (sg T t i f x4 x5)) (T ++ Z.set j0 (.lst (l ++ [v]))) := by
  have h1 : idxOp (.ref (T.length + 1)) (.int (-1)) (T ++ Z) = some (.ref (T.length + j0)) := by
    rw [ix_ref, gT, hO, lstO_some, Option.bind_some, neg1 (by simp), Option.bind_some]
    simp
  have h2 : methOp .append (.ref (T.length + j0)) [v] (T ++ Z) = .ok .non (T ++ Z.set j0 (.lst (l ++ [v]))) := by
    rw [m_append, gT, hj, lstO_some, appR_some, if_pos (show l.length < SZ from (show l.length < 16777216 by omega)), sT]
  rw [ex_exp, ev_meth, ev_idx, ev_var]
  have hx : (sg T t i f x4 x5)[1]? = some (some (.ref (T.length + 1))) := rfl
  rw [hx, sV_ref, ofOpt_some, bind_ok, ev_neg, ev_lit, bind_ok, negV_int, bind_ok, h1, ofOpt_some, bind_ok, ro_append, if_pos rfl, ev_cons, ev_var, hv, ofOpt_some, bind_ok, ev_nil, bind_ok, asTup_tup, bind_ok, asTup_tup, h2, bindS_ok]
end
end MP.K00

set_option Elab.async false
set_option linter.all false
set_option maxRecDepth 100000
set_option maxHeartbeats 4000000
/-! read_data, the loop -/
namespace MP.K00
open MP
section
variable {T Z : Store} {ids : List Nat} {stk : List (List PV)} {j0 : Nat} {l0 : List PV}
theorem PR.mem (h : PR T Z ids stk) {j : Nat} (hj : j ∈ ids) : ∃ l, l ∈ stk ∧ Z[j]? = some (.lst l) := by
  obtain ⟨p, hp, e⟩ := List.mem_iff_getElem.mp hj
  have hp2 : p < stk.length := by rw [← h.len]; exact hp
  exact ⟨stk[p], List.getElem_mem _, h.at_ p j _ (by rw [List.getElem?_eq_getElem hp, e]) (List.getElem?_eq_getElem hp2)⟩
theorem PR.lt (h : PR T Z ids stk) {j : Nat} (hj : j ∈ ids) : j < Z.length := by
  obtain ⟨l, _, e⟩ := h.mem hj
  exact (List.getElem?_eq_some_iff.mp e).1
theorem PR.lt1 (h : PR T Z ids stk) : 1 < Z.length := (List.getElem?_eq_some_iff.mp h.out).1
theorem PR.push (h : PR T Z ids stk) : PR T ((Z ++ [MO.lst []]).set 1 (.lst ((ids.reverse.map fun j => PV.ref (T.length + j)) ++ [PV.ref (T.length + Z.length)]))) (Z.length :: ids) ([] :: stk) := by
  have h1 := h.lt1
  refine ⟨by simp [h.len], ?_, fun p j l hp hs => ?_, ?_, fun j hj => ?_⟩
  · rw [List.getElem?_set_self (by simp; omega), List.reverse_cons, List.map_append]
    rfl
  · cases p with
    | zero =>
      have e1 : Z.length = j := by simpa using hp
      have e2 : [] = l := by simpa using hs
      subst e1 e2
      rw [List.getElem?_set_ne (by omega)]
      exact get_last _
    | succ p =>
      have hp' : ids[p]? = some j := by simpa using hp
      have hs' : stk[p]? = some l := by simpa using hs
      have := h.at_ p j l hp' hs'
      have hj := h.n1 j (List.mem_of_getElem? hp')
      rw [List.getElem?_set_ne (Ne.symm hj), List.getElem?_append_left (List.getElem?_eq_some_iff.mp this).1]
      exact this
  · exact List.nodup_cons.mpr ⟨fun z => Nat.lt_irrefl _ (h.lt z), h.nd⟩
  · rcases List.mem_cons.mp hj with e | e
    · omega
    · exact h.n1 j e
theorem PR.setTop (h : PR T Z (j0 :: ids) (l0 :: stk)) (l' : List PV) : PR T (Z.set j0 (.lst l')) (j0 :: ids) (l' :: stk) := by
  have hn := h.n1 j0 (by simp)
  refine ⟨by have := h.len; simpa using this, ?_, fun p j l hp hs => ?_, h.nd, h.n1⟩
  · rw [List.getElem?_set_ne hn]; exact h.out
  · cases p with
    | zero =>
      have e1 : j0 = j := by simpa using hp
      have e2 : l' = l := by simpa using hs
      subst e1 e2
      exact List.getElem?_set_self (h.lt (by simp))
    | succ p =>
      have hp' : ids[p]? = some j := by simpa using hp
      have hne : j0 ≠ j := fun z => (List.nodup_cons.mp h.nd).1 (z ▸ List.mem_of_getElem? hp')
      rw [List.getElem?_set_ne hne]
      exact h.at_ (p + 1) j l hp (by simpa using hs)
theorem PR.pop (h : PR T Z (j0 :: ids) (l0 :: stk)) : PR T (Z.set 1 (.lst (ids.reverse.map fun j => PV.ref (T.length + j)))) ids stk := by
  refine ⟨by have := h.len; simpa using this, List.getElem?_set_self h.lt1, fun p j l hp hs => ?_, (List.nodup_cons.mp h.nd).2, fun j hj => h.n1 j (List.mem_cons_of_mem _ hj)⟩
  have := h.at_ (p + 1) j l (by simpa using hp) (by simpa using hs)
  rw [List.getElem?_set_ne (Ne.symm (h.n1 j (List.mem_cons_of_mem _ (List.mem_of_getElem? hp))))]
  exact this
end
theorem find_lt (c : Nat) : ∀ (r : List Nat) (i j : Nat), findSign c r i = some j → j < i + r.length
  | [], _, _, h => by cases h
  | x :: r, i, j, h => by
    unfold findSign at h
    split at h
    · cases h; simp
    · have := find_lt c r (i + 1) j h
      rw [List.length_cons]
      omega
theorem rp_val {r : List Nat} {v : PV} {j : Nat} (h : rp r = some (v, j)) : slotV (some (some v)) = some v ∧ 1 ≤ j ∧ j ≤ r.length := by
  cases r with
  | nil => cases h
  | cons c r =>
    have e : rp (c :: r) = if c = 39 then match findSign 39 r 0 with
      | some j => if (r.take j).all okC then some (.str (r.take j), j + 2) else none
      | none => none
    else match rint ((c :: r).takeWhile inS) with
      | some v => some (.int v, ((c :: r).takeWhile inS).length)
      | none => none := rfl
    rw [e] at h
    by_cases h39 : c = 39
    · rw [if_pos h39] at h
      cases hq : findSign 39 r 0 with
      | none => rw [hq] at h; cases h
      | some q =>
        rw [hq] at h
        have h : (if (r.take q).all okC then some (PV.str (r.take q), q + 2) else none) = some (v, j) := h
        have := find_lt 39 r 0 q hq
        split at h
        · have h := Option.some.inj h
          have e1 : PV.str (r.take q) = v := congrArg Prod.fst h
          have e2 : q + 2 = j := congrArg Prod.snd h
          subst e1 e2
          refine ⟨rfl, by omega, ?_⟩
          rw [List.length_cons]
          omega
        · cases h
    · rw [if_neg h39] at h
      cases hz : rint ((c :: r).takeWhile inS) with
      | none => rw [hz] at h; cases h
      | some z =>
        rw [hz] at h
        have h := Option.some.inj h
        have e1 : PV.int z = v := congrArg Prod.fst h
        have e2 : ((c :: r).takeWhile inS).length = j := congrArg Prod.snd h
        subst e1 e2
        refine ⟨rfl, ?_, (List.takeWhile_sublist _).length_le⟩
        cases e : (c :: r).takeWhile inS with
        | nil => rw [e] at hz; cases hz
        | cons _ _ => simp
section
variable {k : Nat} {T Z : Store} {t : List Nat} {i : Nat} {f : Bool} {x4 x5 : Option PV} {ids : List Nat} {stk : List (List PV)}
theorem actA (h : PR T Z ids stk) (hl : stk.length ≤ 100) : exS (callF D G k) G AA (sg T t i f x4 x5) (T ++ Z) = .ok (.next (sg T t (i + 1) f x4 x5)) (T ++ (Z ++ [MO.lst []]).set 1 (.lst ((ids.reverse.map fun j => PV.ref (T.length + j)) ++ [PV.ref (T.length + Z.length)]))) := by
  have h1 := h.lt1
  have hO := h.out
  have hOl : (ids.reverse.map fun j => PV.ref (T.length + j)).length = stk.length := by rw [List.length_map, List.length_reverse, h.len]
  generalize (ids.reverse.map fun j => PV.ref (T.length + j)) = O at *
  have e1 : ev (callF D G k) G (.list .nil) (sg T t i f x4 x5) (T ++ Z) = .ok (.ref (T.length + Z.length)) (T ++ (Z ++ [MO.lst []])) := by
    show Res.ok (PV.ref (T ++ Z).length) (T ++ Z ++ [MO.lst []]) = _
    rw [List.length_append, List.append_assoc]
  have e2 : methOp .append (.ref (T.length + 1)) [.ref (T.length + Z.length)] (T ++ (Z ++ [MO.lst []])) = .ok .non (T ++ (Z ++ [MO.lst []]).set 1 (.lst (O ++ [PV.ref (T.length + Z.length)]))) := by
    rw [m_append, gT, List.getElem?_append_left h1, hO, lstO_some, appR_some, if_pos (show O.length < SZ from (show O.length < 16777216 by omega)), sT]
  have hx : (sg T t i f x4 x5)[1]? = some (some (.ref (T.length + 1))) := rfl
  rw [seq_next (σ1 := sg T t i f x4 x5) (T1 := T ++ (Z ++ [MO.lst []]).set 1 (.lst (O ++ [PV.ref (T.length + Z.length)]))), seq_next (aug21 _), ex_skip]
  rw [ex_exp, ev_meth, ev_var, hx, sV_ref, ofOpt_some, bind_ok, ro_append, if_pos rfl, ev_cons, e1, bind_ok, ev_nil, bind_ok, asTup_tup, bind_ok, asTup_tup, e2, bindS_ok]
theorem actB {j0 j1 : Nat} {more : List Nat} {top nxt : List PV} {mm : List (List PV)} (h : PR T Z (j0 :: j1 :: more) (top :: nxt :: mm)) (hl : nxt.length ≤ 120000) : ∃ Z', exS (callF D G k) G BB (sg T t i f x4 x5) (T ++ Z) = .ok (.next (sg T t (i + 1) false (some (.tup top)) x5)) (T ++ Z') ∧ PR T Z' (j1 :: more) ((nxt ++ [.tup top]) :: mm) := by
  have hO := h.out
  have hp := h.pop
  have ht := hp.setTop (nxt ++ [.tup top])
  refine ⟨_, ?_, ht⟩
  have hO2 : ((j0 :: j1 :: more).reverse.map fun j => PV.ref (T.length + j)) = ((j1 :: more).reverse.map fun j => PV.ref (T.length + j)) ++ [PV.ref (T.length + j0)] := by
    rw [List.reverse_cons, List.map_append]; rfl
  have hO3 : ((j1 :: more).reverse.map fun j => PV.ref (T.length + j)) = (more.reverse.map fun j => PV.ref (T.length + j)) ++ [PV.ref (T.length + j1)] := by
    rw [List.reverse_cons, List.map_append]; rfl
  rw [hO2] at hO
  have hj0 := h.at_ 0 j0 top rfl rfl
  have hn0 := h.n1 j0 (by simp)
  have e1 : methOp .pop (.ref (T.length + 1)) [] (T ++ Z) = .ok (.ref (T.length + j0)) (T ++ Z.set 1 (.lst ((j1 :: more).reverse.map fun j => PV.ref (T.length + j)))) := by
    rw [m_pop, gT, hO, lstO_some]
    show (match (((j1 :: more).reverse.map fun j => PV.ref (T.length + j)) ++ [PV.ref (T.length + j0)]).getLast? with
      | some v => Res.ok v ((T ++ Z).set (T.length + 1) (.lst (((j1 :: more).reverse.map fun j => PV.ref (T.length + j)) ++ [PV.ref (T.length + j0)]).dropLast))
      | none => .bad) = _
    rw [List.getLast?_concat, List.dropLast_concat, sT]
  have e2 : primOp .tuple [.ref (T.length + j0)] (T ++ Z.set 1 (.lst ((j1 :: more).reverse.map fun j => PV.ref (T.length + j)))) = .ok (.tup top) (T ++ Z.set 1 (.lst ((j1 :: more).reverse.map fun j => PV.ref (T.length + j)))) := by
    rw [p_tuple, gT, List.getElem?_set_ne (Ne.symm hn0), hj0, lstO_some, tupR_some]
  have hx : (sg T t i f x4 x5)[1]? = some (some (.ref (T.length + 1))) := rfl
  have g1 : exS (callF D G k) G (.asg (.nm 4) (.prim .tuple (.cons (.meth .pop (.var 1) .nil) .nil))) (sg T t i f x4 x5) (T ++ Z) = .ok (.next (sg T t i f (some (.tup top)) x5)) (T ++ Z.set 1 (.lst ((j1 :: more).reverse.map fun j => PV.ref (T.length + j)))) := by
    rw [ex_asg, ev_prim, ev_cons, ev_meth, ev_var, hx, sV_ref, ofOpt_some, bind_ok, ro_pop, if_pos rfl, ev_nil, bind_ok, asTup_tup, e1, bind_ok, ev_nil, bind_ok, asTup_tup, bind_ok, asTup_tup, e2, bindS_ok, bT_nm, nextO_some]
    simp only [List.set_cons_succ, List.set_cons_zero]
  have g2 := appLast (k := k) (T := T) (t := t) (i := i) (f := f) (x4 := some (.tup top)) (x5 := x5) (x := 4) (j0 := j1) (v := .tup top) (by rw [← hO3]; exact hp.out) (hp.at_ 0 j1 nxt rfl rfl) rfl hl
  rw [seq_next g1, seq_next g2, seq_next (aug21 _), seq_next (set3 false _), ex_skip]
theorem actD {j0 : Nat} {more : List Nat} {top : List PV} {mm : List (List PV)} (ht : t.length ≤ 120000) (hi : i < t.length) (h : PR T Z (j0 :: more) (top :: mm)) (hl : top.length ≤ 120000) : match rp (t.drop i) with
    | some (v, j) => ∃ Z', exS (callF D G (k + 2)) G DD (sg T t i f x4 x5) (T ++ Z) = .ok (.next (sg T t (i + j) false x4 (some v))) (T ++ Z') ∧ PR T Z' (j0 :: more) ((top ++ [v]) :: mm)
    | none => exS (callF D G (k + 2)) G DD (sg T t i f x4 x5) (T ++ Z) = .ok (.exc 1 (sg T t i f x4 x5)) (T ++ Z) := by
  have e4 := r4 (k := k) t i (T ++ Z) ht hi
  have ea : ev (callF D G (k + 2)) G (.cons (.var 0) (.cons (.var 2) .nil)) (sg T t i f x4 x5) (T ++ Z) = .ok (.tup [.str t, .int i]) (T ++ Z) := by
    simp only [ev_cons, ev_var, List.getElem?_cons_succ, List.getElem?_cons_zero, sV_str, sV_int, ofOpt_some, bind_ok, ev_nil, asTup_tup]
  cases hr : rp (t.drop i) with
  | none =>
    rw [hr] at e4
    have e4 : callF D G (k + 2) 4 [.str t, .int i] (T ++ Z) = .exc 1 (T ++ Z) := e4
    show exS (callF D G (k + 2)) G DD _ _ = _
    rw [seq_exc (c := 1) (σ1 := sg T t i f x4 x5) (T1 := T ++ Z)]
    rw [ex_asg, ev_call, ea, bind_ok, asTup_tup, e4, bindS_exc]
  | some vj =>
    obtain ⟨v, j⟩ := vj
    rw [hr] at e4
    have e4 : callF D G (k + 2) 4 [.str t, .int i] (T ++ Z) = .ok (.tup [v, .int (i + j : Nat)]) (T ++ Z) := e4
    have hv := (rp_val hr).1
    have hs := h.setTop (top ++ [v])
    refine ⟨_, ?_, hs⟩
    have hO := h.out
    have hO2 : ((j0 :: more).reverse.map fun j => PV.ref (T.length + j)) = (more.reverse.map fun j => PV.ref (T.length + j)) ++ [PV.ref (T.length + j0)] := by
      rw [List.reverse_cons, List.map_append]; rfl
    rw [hO2] at hO
    have g1 : exS (callF D G (k + 2)) G (.asg (.tp [5, 2]) (.call 4 (.cons (.var 0) (.cons (.var 2) .nil)))) (sg T t i f x4 x5) (T ++ Z) = .ok (.next (sg T t (i + j) f x4 (some v))) (T ++ Z) := by
      rw [ex_asg, ev_call, ea, bind_ok, asTup_tup, e4, bindS_ok, bT_tp, bN_cons, bN_cons, bN_nil, nextO_some]
      simp only [List.set_cons_succ, List.set_cons_zero]
    have g2 := appLast (k := k + 2) (T := T) (t := t) (i := i + j) (f := f) (x4 := x4) (x5 := some v) (x := 5) (j0 := j0) (v := v) hO (h.at_ 0 j0 top rfl rfl) hv hl
    rw [seq_next g1, seq_next g2, seq_next (set3 false _), ex_skip]
end
section
variable {C : Nat → List PV → Store → Res PV} {σ σ2 : Nv} {S0 S2 : Store} {e : Nat}
theorem iteT {c : E} {a b : S} {r : ResS} (h : evT C G c σ S0 = .ok true S0) (hb : exS C G a σ S0 = r) : exS C G (.ite c a b) σ S0 = r := by
  rw [ex_ite, h, bindS_ok, if_pos rfl, hb]
theorem iteF {c : E} {a b : S} {r : ResS} (h : evT C G c σ S0 = .ok false S0) (hb : exS C G b σ S0 = r) : exS C G (.ite c a b) σ S0 = r := by
  rw [ex_ite, h, bindS_ok, if_neg Bool.false_ne_true, hb]
theorem sN {a : S} (h : exS C G a σ S0 = .ok (.next σ2) S2) : exS C G (.seq a .skip) σ S0 = .ok (.next σ2) S2 := by
  rw [seq_next h, ex_skip]
theorem bdA (hA : evT C G CA σ S0 = .ok true S0) (hb : exS C G AA σ S0 = .ok (.next σ2) S2) : exS C G BD σ S0 = .ok (.next σ2) S2 := sN (iteT hA hb)
theorem bdB (hA : evT C G CA σ S0 = .ok false S0) (hB : evT C G CB σ S0 = .ok true S0) (hb : exS C G BB σ S0 = .ok (.next σ2) S2) : exS C G BD σ S0 = .ok (.next σ2) S2 := sN (iteF hA (sN (iteT hB hb)))
theorem bdC (hA : evT C G CA σ S0 = .ok false S0) (hB : evT C G CB σ S0 = .ok false S0) (hC : evT C G CC σ S0 = .ok true S0) (hb : exS C G C2 σ S0 = .ok (.next σ2) S2) : exS C G BD σ S0 = .ok (.next σ2) S2 := sN (iteF hA (sN (iteF hB (sN (iteT hC hb)))))
theorem bdD (hA : evT C G CA σ S0 = .ok false S0) (hB : evT C G CB σ S0 = .ok false S0) (hC : evT C G CC σ S0 = .ok false S0) (hD : evT C G CD σ S0 = .ok true S0) (hb : exS C G DD σ S0 = .ok (.next σ2) S2) : exS C G BD σ S0 = .ok (.next σ2) S2 := sN (iteF hA (sN (iteF hB (sN (iteF hC (sN (iteT hD hb)))))))
theorem bdX (hA : evT C G CA σ S0 = .ok false S0) (hB : evT C G CB σ S0 = .ok false S0) (hC : evT C G CC σ S0 = .ok false S0) (hD : evT C G CD σ S0 = .ok true S0) (hb : exS C G DD σ S0 = .ok (.exc e σ2) S2) : exS C G BD σ S0 = .ok (.exc e σ2) S2 := seq_exc (iteF hA (seq_exc (iteF hB (seq_exc (iteF hC (seq_exc (iteT hD hb)))))))
theorem bdE (hA : evT C G CA σ S0 = .ok false S0) (hB : evT C G CB σ S0 = .ok false S0) (hC : evT C G CC σ S0 = .ok false S0) (hD : evT C G CD σ S0 = .ok false S0) : exS C G BD σ S0 = .ok (.exc 1 σ) S0 := seq_exc (iteF hA (seq_exc (iteF hB (seq_exc (iteF hC (seq_exc (iteF hD (seq_exc (ex_raise 1)))))))))
end
/-- what the turns before left -/
def frOk (pre : List Nat) (stk : List (List PV)) (fr : Nat) : Prop := fr ≤ 2 ∧ (fr = 2 → pre.getLast? = some 40) ∧ (fr = 1 → stk.length = 1 ∨ ∃ c, c ≠ 40 ∧ pre.getLast? = some c)
theorem loop5 {k : Nat} {T : Store} {t : List Nat} (ht : t.length ≤ 120000) : ∀ (n : Nat) (rest pre : List Nat) (stk : List (List PV)) (fr : Nat) (ids : List Nat) (Z : Store) (x4 x5 : Option PV), t = pre ++ rest → PR T Z ids stk → stk ≠ [] → stk.length ≤ 41 → (∀ l ∈ stk, l.length ≤ pre.length) → frOk pre stk fr →
    match prun n rest stk fr with
    | none => True
    | some none => ∃ σ' Z', whileL (evT (callF D G (k + 2)) G CW) (exS (callF D G (k + 2)) G BD) n (sg T t pre.length (decide (fr ≠ 0)) x4 x5) (T ++ Z) = .ok (.exc 1 σ') (T ++ Z')
    | some (some stk') => ∃ ids' Z' i' f' y4 y5, whileL (evT (callF D G (k + 2)) G CW) (exS (callF D G (k + 2)) G BD) n (sg T t pre.length (decide (fr ≠ 0)) x4 x5) (T ++ Z) = .ok (.next (sg T t i' f' y4 y5)) (T ++ Z') ∧ PR T Z' ids' stk' ∧ stk' ≠ [] := by
  have hsz : t.length ≤ SZ := by show _ ≤ 16777216; omega
  have hcw : ∀ (i : Nat) (f : Bool) (x4 x5 : Option PV) (S0 : Store), evT (callF D G (k + 2)) G CW (sg T t i f x4 x5) S0 = .ok (decide (i < t.length)) S0 := fun i f x4 x5 S0 => by
    have h3 : decide ((i : Int) < (t.length : Int)) = decide (i < t.length) := by rw [decide_eq_decide]; omega
    rw [evT_eq]
    simp only [ev_cmp, ev_prim, ev_cons, ev_var, List.getElem?_cons_succ, List.getElem?_cons_zero, sV_str, sV_int, ofOpt_some, bind_ok, ev_nil, asTup_tup, len_str, if_pos hsz, lt_int, h3, tr_bl]
  intro n
  induction n with
  | zero => intros; exact trivial
  | succ n ih =>
    intro rest pre stk fr ids Z x4 x5 hp h hne h41 hll hfr
    cases rest with
    | nil =>
      refine ⟨ids, Z, pre.length, decide (fr ≠ 0), x4, x5, ?_, h, hne⟩
      refine whileL_end ((hcw _ _ _ _ _).trans ?_)
      rw [decide_eq_false]
      rw [hp, List.append_nil]
      exact Nat.lt_irrefl _
    | cons c r =>
      have hil : pre.length < t.length := by rw [hp, List.length_append, List.length_cons]; omega
      have hc : t[pre.length]? = some c := by
        rw [hp, List.getElem?_append_right (Nat.le_refl _), Nat.sub_self]; rfl
      have hdr : t.drop pre.length = c :: r := by rw [hp, List.drop_left]
      have hw : evT (callF D G (k + 2)) G CW (sg T t pre.length (decide (fr ≠ 0)) x4 x5) (T ++ Z) = .ok true (T ++ Z) := by
        rw [hcw, decide_eq_true hil]
      have hO := h.out
      have hOl : (ids.reverse.map fun j => PV.ref (T.length + j)).length = stk.length := by rw [List.length_map, List.length_reverse, h.len]
      have kA := cA (k := k + 2) (T := T) (f := decide (fr ≠ 0)) (x4 := x4) (x5 := x5) ht hc hO
      have kB := cB (k := k + 2) (T := T) (f := decide (fr ≠ 0)) (x4 := x4) (x5 := x5) ht hc hO (decide (fr = 2)) (fun h1 h2 => by
        rw [hOl] at h2
        have h1 : fr ≠ 0 := of_decide_eq_true h1
        have hlast : ∃ d, pre.getLast? = some d ∧ decide (d = 40) = decide (fr = 2) := by
          rcases (show fr = 1 ∨ fr = 2 by have := hfr.1; omega) with e | e
          · rcases hfr.2.2 e with z | ⟨d, hd, hd2⟩
            · omega
            · refine ⟨d, hd2, ?_⟩
              rw [decide_eq_false hd, decide_eq_false (by omega)]
          · refine ⟨40, hfr.2.1 e, ?_⟩
            rw [decide_eq_true e]; rfl
        obtain ⟨d, hd, hd2⟩ := hlast
        have hpl : 1 ≤ pre.length := by
          cases pre with
          | nil => cases hd
          | cons _ _ => simp
        refine ⟨d, hpl, ?_, hd2⟩
        rw [hp, List.getElem?_append_left (by omega), ← List.getLast?_eq_getElem?]
        exact hd)
      have kC := cC (k := k + 2) (T := T) (i := pre.length) (f := decide (fr ≠ 0)) (x4 := x4) (x5 := x5) ht hO
      have kD := cD (k := k + 2) (T := T) (Z := Z) (f := decide (fr ≠ 0)) (x4 := x4) (x5 := x5) ht hc
      rw [hOl] at kA kB kC
      rw [hdr] at kC
      have hstep : ∀ (σ2 : Nv) (T2 : Store), exS (callF D G (k + 2)) G BD (sg T t pre.length (decide (fr ≠ 0)) x4 x5) (T ++ Z) = .ok (.next σ2) T2 → whileL (evT (callF D G (k + 2)) G CW) (exS (callF D G (k + 2)) G BD) (n + 1) (sg T t pre.length (decide (fr ≠ 0)) x4 x5) (T ++ Z) = whileL (evT (callF D G (k + 2)) G CW) (exS (callF D G (k + 2)) G BD) n σ2 T2 := fun σ2 T2 hb => whileL_next hw hb
      have hexc : ∀ (σ2 : Nv) (T2 : Store), exS (callF D G (k + 2)) G BD (sg T t pre.length (decide (fr ≠ 0)) x4 x5) (T ++ Z) = .ok (.exc 1 σ2) T2 → whileL (evT (callF D G (k + 2)) G CW) (exS (callF D G (k + 2)) G BD) (n + 1) (sg T t pre.length (decide (fr ≠ 0)) x4 x5) (T ++ Z) = .ok (.exc 1 σ2) T2 := fun σ2 T2 hb => whileL_exc hw hb
      unfold prun
      by_cases hA : fr ≠ 0 ∧ c = 40 ∧ stk.length ≤ 40
      · rw [if_pos hA]
        have kA' : (decide (fr ≠ 0) && (decide (c = 40) && decide (stk.length ≤ 40))) = true := by rw [decide_eq_true hA.1, decide_eq_true hA.2.1, decide_eq_true hA.2.2]; rfl
        rw [kA'] at kA
        have hb := actA (k := k + 2) (t := t) (i := pre.length) (f := decide (fr ≠ 0)) (x4 := x4) (x5 := x5) h (by omega)
        have hb' := bdA kA hb
        have h2 : decide (fr ≠ 0) = decide (2 ≠ 0) := by rw [decide_eq_true hA.1]; rfl
        rw [hstep _ _ hb', h2]
        have := ih r (pre ++ [c]) ([] :: stk) 2 (Z.length :: ids) _ x4 x5 (by rw [hp]; simp) h.push (by simp) (by simp; omega) (fun l hl => by
          rcases List.mem_cons.mp hl with e | e
          · subst e; simp
          · have := hll l e; rw [List.length_append]; omega) ⟨by omega, fun _ => by rw [hA.2.1]; simp, fun z => by omega⟩
        rw [List.length_append, List.length_singleton] at this
        exact this
      · rw [if_neg hA]
        have kA' : (decide (fr ≠ 0) && (decide (c = 40) && decide (stk.length ≤ 40))) = false := by
          rw [← Bool.decide_and, ← Bool.decide_and, decide_eq_false hA]
        rw [kA'] at kA
        by_cases hB : c = 41 ∧ 1 < stk.length ∧ (fr = 0 ∨ fr = 2)
        · rw [if_pos hB]
          have kB' : (decide (c = 41) && (decide (1 < stk.length) && (!decide (fr ≠ 0) || decide (fr = 2)))) = true := by
            rw [decide_eq_true hB.1, decide_eq_true hB.2.1]
            rcases hB.2.2 with e | e <;> subst e <;> rfl
          rw [kB'] at kB
          match stk, ids, h, hB, hll, h41 with
          | [], _, _, hB, _, _ => simp at hB
          | [_], _, _, hB, _, _ => simp at hB
          | top :: nxt :: mm, [], h, _, _, _ => have := h.len; simp at this
          | top :: nxt :: mm, [_], h, _, _, _ => have := h.len; simp at this
          | top :: nxt :: mm, j0 :: j1 :: more, h, hB, hll, h41 =>
            obtain ⟨Z', hb, hpr⟩ := actB (k := k + 2) (t := t) (i := pre.length) (f := decide (fr ≠ 0)) (x4 := x4) (x5 := x5) h (by have := hll nxt (by simp); omega)
            have hb' := bdB kA kB hb
            rw [hstep _ _ hb']
            have := ih r (pre ++ [c]) ((nxt ++ [.tup top]) :: mm) 0 (j1 :: more) Z' (some (.tup top)) x5 (by rw [hp]; simp) hpr (by simp) (by simp at h41 ⊢; omega) (fun l hl => by
              rcases List.mem_cons.mp hl with e | e
              · subst e; have := hll nxt (by simp); rw [List.length_append, List.length_append, List.length_singleton, List.length_singleton]; omega
              · have := hll l (by simp [e]); rw [List.length_append]; omega) ⟨by omega, fun z => by omega, fun z => by omega⟩
            rw [List.length_append, List.length_singleton] at this
            exact this
        · rw [if_neg hB]
          have kB' : (decide (c = 41) && (decide (1 < stk.length) && (!decide (fr ≠ 0) || decide (fr = 2)))) = false := by
            have : (!decide (fr ≠ 0) || decide (fr = 2)) = decide (fr = 0 ∨ fr = 2) := by
              rcases (show fr = 0 ∨ fr = 1 ∨ fr = 2 by have := hfr.1; omega) with e | e | e <;> subst e <;> rfl
            rw [this, ← Bool.decide_and, ← Bool.decide_and, decide_eq_false hB]
          rw [kB'] at kB
          by_cases hC : fr = 0 ∧ 1 < stk.length ∧ (c :: r).take 2 = [44, 32]
          · rw [if_pos hC]
            have kC' : (!decide (fr ≠ 0) && (decide (1 < stk.length) && decide ((c :: r).take 2 = [44, 32]))) = true := by
              rw [decide_eq_true hC.2.1, decide_eq_true hC.2.2, hC.1]; rfl
            rw [kC'] at kC
            have hb : exS (callF D G (k + 2)) G C2 (sg T t pre.length (decide (fr ≠ 0)) x4 x5) (T ++ Z) = .ok (.next (sg T t (pre.length + 2) true x4 x5)) (T ++ Z) := by
              rw [seq_next (aug22 _), seq_next (set3 true _), ex_skip]
            have hb' := bdC kA kB kC hb
            rw [hstep _ _ hb']
            cases r with
            | nil => have := hC.2.2; simp at this
            | cons c2 r =>
              have e2 : c = 44 ∧ c2 = 32 := by have := hC.2.2; simpa using this
              have := ih r (pre ++ [c, c2]) stk 1 ids Z x4 x5 (by rw [hp]; simp) h hne h41 (fun l hl => by have := hll l hl; rw [List.length_append]; omega) ⟨by omega, fun z => by omega, fun _ => .inr ⟨32, by decide, by rw [e2.2]; simp⟩⟩
              rw [List.length_append] at this
              exact this
          · rw [if_neg hC]
            have kC' : (!decide (fr ≠ 0) && (decide (1 < stk.length) && decide ((c :: r).take 2 = [44, 32]))) = false := by
              have : (!decide (fr ≠ 0)) = decide (fr = 0) := by by_cases e : fr = 0 <;> simp [e]
              rw [this, ← Bool.decide_and, ← Bool.decide_and, decide_eq_false hC]
            rw [kC'] at kC
            by_cases hD : fr ≠ 0 ∧ c ≠ 40
            · rw [if_pos hD]
              have kD' : (decide (fr ≠ 0) && !decide (c = 40)) = true := by rw [decide_eq_true hD.1, decide_eq_false hD.2]; rfl
              rw [kD'] at kD
              match stk, ids, h, hne, hll, h41 with
              | [], _, _, hne, _, _ => exact absurd rfl hne
              | top :: mm, [], h, _, _, _ => have := h.len; simp at this
              | top :: mm, j0 :: more, h, hne, hll, h41 =>
                have hb := actD (k := k) (t := t) (i := pre.length) (f := decide (fr ≠ 0)) (x4 := x4) (x5 := x5) ht hil h (by have := hll top (by simp); omega)
                rw [hdr] at hb
                cases hr : rp (c :: r) with
                | none =>
                  rw [hr] at hb
                  have hb2 := bdX kA kB kC kD hb
                  exact ⟨_, _, hexc _ _ hb2⟩
                | some vj =>
                  obtain ⟨v, j⟩ := vj
                  rw [hr] at hb
                  obtain ⟨Z', hb, hpr⟩ := hb
                  obtain ⟨_, hj1, hj2⟩ := rp_val hr
                  have hb2 := bdD kA kB kC kD hb
                  rw [hstep _ _ hb2]
                  have := ih ((c :: r).drop j) (pre ++ (c :: r).take j) ((top ++ [v]) :: mm) 0 (j0 :: more) Z' x4 (some v) (by rw [hp, List.append_assoc, List.take_append_drop]) hpr (by simp) (by simp at h41 ⊢; omega) (fun l hl => by
                    rw [List.length_append, List.length_take]
                    rcases List.mem_cons.mp hl with e | e
                    · subst e; have := hll top (by simp); rw [List.length_append, List.length_singleton]; omega
                    · have := hll l (by simp [e]); omega) ⟨by omega, fun z => by omega, fun z => by omega⟩
                  rw [List.length_append, List.length_take, Nat.min_eq_left hj2] at this
                  exact this
            · rw [if_neg hD]
              have kD' : (decide (fr ≠ 0) && !decide (c = 40)) = false := by
                have : (!decide (c = 40)) = decide (c ≠ 40) := by by_cases e : c = 40 <;> simp [e]
                rw [this, ← Bool.decide_and, decide_eq_false hD]
              rw [kD'] at kD
              have hb2 := bdE kA kB kC kD
              exact ⟨_, _, hexc _ _ hb2⟩
end MP.K00

set_option Elab.async false
set_option linter.all false
set_option maxRecDepth 100000
set_option maxHeartbeats 4000000
/-! read_data, refuses, nested -/
namespace MP.K00
open MP
theorem prun_mono : ∀ (n : Nat) (rest : List Nat) (stk : List (List PV)) (fr : Nat) (r : Option (List (List PV))), prun n rest stk fr = some r → ∀ m, n ≤ m → prun m rest stk fr = some r := by
  intro n
  induction n with
  | zero => intro rest stk fr r h; cases h
  | succ n ih =>
    intro rest stk fr r h m hm
    obtain ⟨m, rfl⟩ : ∃ q, m = q + 1 := ⟨m - 1, by omega⟩
    have hm : n ≤ m := by omega
    cases rest with
    | nil => exact h
    | cons c rs =>
      unfold prun at h ⊢
      split at h
      · rename_i hA; rw [if_pos hA]; exact ih _ _ _ _ h m hm
      · rename_i hA; rw [if_neg hA]
        split at h
        · rename_i hB; rw [if_pos hB]
          split at h
          · exact ih _ _ _ _ h m hm
          · cases h
        · rename_i hB; rw [if_neg hB]
          split at h
          · rename_i hC; rw [if_pos hC]; exact ih _ _ _ _ h m hm
          · rename_i hC; rw [if_neg hC]
            split at h
            · rename_i hD; rw [if_pos hD]
              cases hr : rp (c :: rs) with
              | none => rw [hr] at h; exact h
              | some vj =>
                rw [hr] at h
                obtain ⟨v, j⟩ := vj
                cases stk with
                | nil => cases h
                | cons top more => exact ih _ _ _ _ h m hm
            · rename_i hD; rw [if_neg hD]; exact h
/-- what is left of a run -/
def fin : Option (List (List PV)) → Option PV
  | some [[v]] => some v
  | _ => none
theorem fin_two (l1 l2 : List PV) (more : List (List PV)) : fin (some (l1 :: l2 :: more)) = none := by
  cases l1 with
  | nil => rfl
  | cons a as => cases as <;> rfl
theorem r5 {k : Nat} (t : List Nat) (T : Store) (ht : t.length ≤ 120000) (N : Nat) (hN : N ≤ 1000000000) (r : Option (List (List PV))) (hr : prun N t [[]] 1 = some r) :
    ∃ X, callF D G (k + 3) 5 [.str t] T = match fin r with
      | some v => .ok v (T ++ X)
      | none => .exc 1 (T ++ X) := by
  rw [u5, t5_eq]
  have g1 : exS (callF D G (k + 2)) G (.asg (.nm 1) (.list (.cons (.list .nil) .nil))) [some (.str t), none, none, none, none, none] T = .ok (.next [some (.str t), some (.ref (T.length + 1)), none, none, none, none]) (T ++ [MO.lst [], MO.lst [PV.ref (T.length + 0)]]) := by
    have e1 : ev (callF D G (k + 2)) G (.list (.cons (.list .nil) .nil)) [some (.str t), none, none, none, none, none] T = .ok (.ref (T ++ [MO.lst []]).length) (T ++ [MO.lst []] ++ [MO.lst [PV.ref T.length]]) := rfl
    rw [ex_asg, e1, bindS_ok, bT_nm, nextO_some, List.append_assoc, List.length_append]
    rfl
  have g2 : exS (callF D G (k + 2)) G (.asg (.nm 2) (.lit (.int 0))) [some (.str t), some (.ref (T.length + 1)), none, none, none, none] (T ++ [MO.lst [], MO.lst [PV.ref (T.length + 0)]]) = .ok (.next [some (.str t), some (.ref (T.length + 1)), some (.int 0), none, none, none]) (T ++ [MO.lst [], MO.lst [PV.ref (T.length + 0)]]) := by
    rw [ex_asg, ev_lit, bindS_ok, bT_nm, nextO_some]; rfl
  have g3 : exS (callF D G (k + 2)) G (.asg (.nm 3) (.lit (.bl true))) [some (.str t), some (.ref (T.length + 1)), some (.int 0), none, none, none] (T ++ [MO.lst [], MO.lst [PV.ref (T.length + 0)]]) = .ok (.next (sg T t 0 true none none)) (T ++ [MO.lst [], MO.lst [PV.ref (T.length + 0)]]) := by
    rw [ex_asg, ev_lit, bindS_ok, bT_nm, nextO_some]; rfl
  rw [seq_next g1, seq_next g2, seq_next g3]
  have hpr : PR T [MO.lst [], MO.lst [PV.ref (T.length + 0)]] [0] [[]] := ⟨rfl, rfl, fun p j l hp hs => by
    cases p with
    | zero =>
      have e1 : 0 = j := by simpa using hp
      have e2 : [] = l := by simpa using hs
      subst e1 e2
      rfl
    | succ p => simp at hp, by simp, fun j hj => by rw [List.mem_singleton.mp hj]; decide⟩
  have hl := loop5 (k := k) (T := T) ht FU t [] [[]] 1 [0] [MO.lst [], MO.lst [PV.ref (T.length + 0)]] none none rfl hpr (by simp) (by simp) (by simp) ⟨by omega, fun z => by omega, fun _ => .inl rfl⟩
  have hF : N ≤ FU := by show N ≤ 1099511627776; omega
  rw [prun_mono N t [[]] 1 r hr FU hF] at hl
  clear hF hr
  cases r with
  | none =>
    obtain ⟨σ', Z', e⟩ := hl
    refine ⟨Z', ?_⟩
    have e : whileO (evT (callF D G (k + 2)) G CW) (exS (callF D G (k + 2)) G BD) (sg T t 0 true none none) (T ++ [MO.lst [], MO.lst [PV.ref (T.length + 0)]]) = .ok (.exc 1 σ') (T ++ Z') := e
    rw [seq_exc ((ex_whl _ _).trans e), ofB_exc]
    rfl
  | some stk =>
    obtain ⟨ids', Z', i', f', y4, y5, e, hp, hne⟩ := hl
    refine ⟨Z', ?_⟩
    have e : whileO (evT (callF D G (k + 2)) G CW) (exS (callF D G (k + 2)) G BD) (sg T t 0 true none none) (T ++ [MO.lst [], MO.lst [PV.ref (T.length + 0)]]) = .ok (.next (sg T t i' f' y4 y5)) (T ++ Z') := e
    rw [seq_next ((ex_whl _ _).trans e)]
    clear e g1 g2 g3 hpr
    have hO := hp.out
    have hOl : (ids'.reverse.map fun j => PV.ref (T.length + j)).length = stk.length := by rw [List.length_map, List.length_reverse, hp.len]
    have h2 := len1 (T := T) hO
    have hx : (sg T t i' f' y4 y5)[1]? = some (some (.ref (T.length + 1))) := rfl
    have ea : ev (callF D G (k + 2)) G (.cmp .ne (.prim .len (.cons (.var 1) .nil)) (.lit (.int 1))) (sg T t i' f' y4 y5) (T ++ Z') = .ok (.bl (!((stk.length : Int) == 1))) (T ++ Z') := by
      rw [hOl] at h2
      simp only [ev_cmp, ev_prim, ev_cons, ev_var, hx, sV_ref, ofOpt_some, bind_ok, ev_nil, asTup_tup, h2, ev_lit, ne_int]
    match stk, ids', hp, hne with
    | [], _, _, hne => exact absurd rfl hne
    | l1 :: l2 :: more, _, _, _ =>
      have hb : (!(((l1 :: l2 :: more).length : Int) == 1)) = true := by
        have : ¬ (((l1 :: l2 :: more).length : Int) = 1) := by simp; omega
        simp only [beq_eq_false_iff_ne.mpr this, Bool.not_false]
      rw [hb] at ea
      have ec : evT (callF D G (k + 2)) G (.or (.cmp .ne (.prim .len (.cons (.var 1) .nil)) (.lit (.int 1))) (.cmp .ne (.prim .len (.cons (.idx (.var 1) (.lit (.int 0))) .nil)) (.lit (.int 1)))) (sg T t i' f' y4 y5) (T ++ Z') = .ok true (T ++ Z') := by
        rw [evT_eq, ev_or, ea, bind_ok, tr_bl, ofOpt_some, bind_ok, if_pos rfl, bind_ok, tr_bl, ofOpt_some]
      rw [seq_exc (iteT ec (seq_exc (ex_raise 1))), ofB_exc, fin_two]
    | [l], [], hp, _ => have := hp.len; simp at this
    | [l], _ :: _ :: _, hp, _ => have := hp.len; simp at this
    | [l], [j0], hp, _ =>
      have hO : Z'[1]? = some (.lst [PV.ref (T.length + j0)]) := hp.out
      have hj := hp.at_ 0 j0 l rfl rfl
      have h3 : idxOp (.ref (T.length + 1)) (.int 0) (T ++ Z') = some (.ref (T.length + j0)) := by
        rw [ix_ref, gT, hO, lstO_some, Option.bind_some]
        rfl
      have h4 : primOp .len [.ref (T.length + j0)] (T ++ Z') = .ok (.int l.length) (T ++ Z') := by
        rw [len_ref, gT, hj, lstO_some, lenR_some]
      have hb : (!((([l] : List (List PV)).length : Int) == 1)) = false := rfl
      rw [hb] at ea
      have e2 : ev (callF D G (k + 2)) G (.cmp .ne (.prim .len (.cons (.idx (.var 1) (.lit (.int 0))) .nil)) (.lit (.int 1))) (sg T t i' f' y4 y5) (T ++ Z') = .ok (.bl (!((l.length : Int) == 1))) (T ++ Z') := by
        simp only [ev_cmp, ev_prim, ev_cons, ev_idx, ev_var, hx, sV_ref, ofOpt_some, bind_ok, ev_nil, asTup_tup, h3, h4, ev_lit, ne_int]
      have ec : evT (callF D G (k + 2)) G (.or (.cmp .ne (.prim .len (.cons (.var 1) .nil)) (.lit (.int 1))) (.cmp .ne (.prim .len (.cons (.idx (.var 1) (.lit (.int 0))) .nil)) (.lit (.int 1)))) (sg T t i' f' y4 y5) (T ++ Z') = .ok (!((l.length : Int) == 1)) (T ++ Z') := by
        rw [evT_eq, ev_or, ea, bind_ok, tr_bl, ofOpt_some, bind_ok, if_neg Bool.false_ne_true, e2, bind_ok, tr_bl, ofOpt_some]
      match l, hj, ec with
      | [], _, ec =>
        have ec : evT (callF D G (k + 2)) G _ (sg T t i' f' y4 y5) (T ++ Z') = .ok true (T ++ Z') := ec
        rw [seq_exc (iteT ec (seq_exc (ex_raise 1))), ofB_exc]
        rfl
      | a :: b :: more, _, ec =>
        have hb : (!(((a :: b :: more).length : Int) == 1)) = true := by
          have : ¬ (((a :: b :: more).length : Int) = 1) := by simp; omega
          simp only [beq_eq_false_iff_ne.mpr this, Bool.not_false]
        rw [hb] at ec
        rw [seq_exc (iteT ec (seq_exc (ex_raise 1))), ofB_exc]
        rfl
      | [v], hj, ec =>
        have ec : evT (callF D G (k + 2)) G _ (sg T t i' f' y4 y5) (T ++ Z') = .ok false (T ++ Z') := ec
        have h5 : idxOp (.ref (T.length + j0)) (.int 0) (T ++ Z') = some v := by
          rw [ix_ref, gT, hj, lstO_some, Option.bind_some]
          rfl
        rw [seq_next (iteF ec (ex_skip)), seq_ret (v := v) (T1 := T ++ Z'), ofB_ret]
        · rfl
        · rw [ex_ret, ev_idx, ev_idx, ev_var, hx, sV_ref, ofOpt_some, bind_ok, ev_lit, bind_ok, h3, ofOpt_some, bind_ok, ev_lit, bind_ok, h5, ofOpt_some, bindS_ok]
/-! ### refuses -/
theorem r16i {k : Nat} (s : List Nat) (T T' : Store) (h : callF D G k 1 [.str s] T = .exc 1 T') : callF D G (k + 1) 16 [.str [105, 110, 116, 101, 103, 101, 114], .str s] T = .ok (.bl true) T' := by
  rw [u16]
  unfold t16
  have e1 : exS (callF D G k) G (.seq (.ite (.cmp .eq (.var 0) (.lit (.str [105, 110, 116, 101, 103, 101, 114]))) (.seq (.exp (.call 1 (.cons (.var 1) .nil))) .skip) (.seq (.exp (.call 5 (.cons (.var 1) .nil))) .skip)) .skip) [some (.str [105, 110, 116, 101, 103, 101, 114]), some (.str s), none] T = .ok (.exc 1 [some (.str [105, 110, 116, 101, 103, 101, 114]), some (.str s), none]) T' := by
    simp [h]
  rw [seq_ret (v := .bl true) (T1 := T'), ofB_ret]
  show (match exS (callF D G k) G _ _ T with
      | .ok (.exc c σ1) T1 => if c ∈ [1] then endX (some 2) (exS (callF D G k) G (.seq (.ret (.isexc 2 [0, 1] [])) .skip) (holdX (some 2) c σ1) T1)
        else if c ∈ [0] then .ok (.exc c σ1) T1 else .bad
      | r => r) = _
  rw [e1]
  rfl
theorem r16d {k : Nat} (s : List Nat) (T T' : Store) (h : callF D G k 5 [.str s] T = .exc 1 T') : callF D G (k + 1) 16 [.str [100, 97, 116, 97], .str s] T = .ok (.bl true) T' := by
  rw [u16]
  unfold t16
  have e1 : exS (callF D G k) G (.seq (.ite (.cmp .eq (.var 0) (.lit (.str [105, 110, 116, 101, 103, 101, 114]))) (.seq (.exp (.call 1 (.cons (.var 1) .nil))) .skip) (.seq (.exp (.call 5 (.cons (.var 1) .nil))) .skip)) .skip) [some (.str [100, 97, 116, 97]), some (.str s), none] T = .ok (.exc 1 [some (.str [100, 97, 116, 97]), some (.str s), none]) T' := by
    simp [h]
  rw [seq_ret (v := .bl true) (T1 := T'), ofB_ret]
  show (match exS (callF D G k) G _ _ T with
      | .ok (.exc c σ1) T1 => if c ∈ [1] then endX (some 2) (exS (callF D G k) G (.seq (.ret (.isexc 2 [0, 1] [])) .skip) (holdX (some 2) c σ1) T1)
        else if c ∈ [0] then .ok (.exc c σ1) T1 else .bad
      | r => r) = _
  rw [e1]
  rfl
/-! ### nested -/
def nest : Nat → PV → PV
  | 0, d => d
  | n + 1, d => nest n (.tup [d])
theorem r15 {k : Nat} (n : Nat) (hn : n ≤ 100) (T : Store) : callF D G (k + 1) 15 [.int 7, .int n] T = .ok (nest n (.int 7)) T := by
  rw [u15]
  unfold t15
  have hb : ∀ (d : PV) (x2 : Option PV), slotV (some (some d)) = some d → exS (callF D G k) G (.seq (.asg (.nm 0) (.tup (.cons (.var 0) .nil))) .skip) [some d, some (.int n), x2] T = .ok (.next [some (.tup [d]), some (.int n), x2]) T := fun d x2 hd => by
    rw [sN (σ2 := [some (.tup [d]), some (.int n), x2]) (S2 := T)]
    have hx : [some d, some (PV.int n), x2][0]? = some (some d) := rfl
    rw [ex_asg, ev_tup, ev_cons, ev_var, hx, hd, ofOpt_some, bind_ok, ev_nil, bind_ok, bind_ok]
    rfl
  have hl : ∀ (j m i : Nat) (d : PV) (x2 : Option PV), slotV (some (some d)) = some d → i + j = n → j + 1 ≤ m → ∃ y2, iterL (.range 0 1 n) (.nm 2) (exS (callF D G k) G (.seq (.asg (.nm 0) (.tup (.cons (.var 0) .nil))) .skip)) m i [some d, some (.int n), x2] T = .ok (.next [some (nest j d), some (.int n), y2]) T := by
    generalize exS (callF D G k) G (.seq (.asg (.nm 0) (.tup (.cons (.var 0) .nil))) .skip) = b at *
    intro j
    induction j with
    | zero =>
      intro m i d x2 hd hi hm
      obtain ⟨m, rfl⟩ : ∃ q, m = q + 1 := ⟨m - 1, by omega⟩
      refine ⟨x2, iterL_end ?_⟩
      show some (if i < n then some (PV.int (0 + i * 1)) else none) = some none
      rw [if_neg (by omega)]
    | succ j ih =>
      intro m i d x2 hd hi hm
      obtain ⟨m, rfl⟩ : ∃ q, m = q + 1 := ⟨m - 1, by omega⟩
      obtain ⟨y2, e⟩ := ih m (i + 1) (.tup [d]) (some (.int (0 + i * 1))) rfl (by omega) (by omega)
      refine ⟨y2, ?_⟩
      have hat : (Wk.range 0 1 n).at i T = some (some (.int (0 + i * 1))) := by
        show some (if i < n then some (PV.int (0 + i * 1)) else none) = _
        rw [if_pos (by omega)]
      rw [iterL_next (σ := [some d, some (.int n), x2]) hat (hb d _ hd)]
      exact e
  have hx : ∀ d : PV, d = nest n (.int 7) → slotV (some (some d)) = some d := fun d e => by
    subst e
    have : ∀ (n : Nat) (d : PV), slotV (some (some d)) = some d → slotV (some (some (nest n d))) = some (nest n d) := by
      intro n
      induction n with
      | zero => intro d h; exact h
      | succ n ih => intro d h; exact ih (.tup [d]) rfl
    exact this n (.int 7) rfl
  obtain ⟨y2, e⟩ := hl n FU 0 (.int 7) none rfl (by omega) (by show n + 1 ≤ 1099511627776; omega)
  have e := (loopO_some (σ := [some (.int 7), some (.int n), none]) (T := T) (.range 0 1 n) (.nm 2) (exS (callF D G k) G (.seq (.asg (.nm 0) (.tup (.cons (.var 0) .nil))) .skip))).trans e
  have ea : ev (callF D G k) G (.cons (.var 1) .nil) [some (.int 7), some (.int n), none] T = .ok (.tup [.int n]) T := rfl
  rw [seq_next (loop_is ea (walk_r n (by omega)) e)]
  have hd := hx _ rfl
  generalize nest n (.int 7) = d at *
  rw [seq_ret (v := d) (T1 := T), ofB_ret]
  have h0 : [some d, some (PV.int n), y2][0]? = some (some d) := rfl
  rw [ex_ret, ev_var, h0, hd, ofOpt_some, bindS_ok]
end MP.K00

set_option Elab.async false
set_option linter.all false
set_option maxRecDepth 100000
set_option maxHeartbeats 4000000
/-! the parser on texts of data -/
namespace MP.K00
open MP
theorem prun_cons (n c : Nat) (r : List Nat) (stk : List (List PV)) (fr : Nat) : prun (n + 1) (c :: r) stk fr =
    if fr ≠ 0 ∧ c = 40 ∧ stk.length ≤ 40 then prun n r ([] :: stk) 2
    else if c = 41 ∧ 1 < stk.length ∧ (fr = 0 ∨ fr = 2) then match stk with
      | top :: nxt :: more => prun n r ((nxt ++ [.tup top]) :: more) 0
      | _ => none
    else if fr = 0 ∧ 1 < stk.length ∧ (c :: r).take 2 = [44, 32] then prun n (r.drop 1) stk 1
    else if fr ≠ 0 ∧ c ≠ 40 then match rp (c :: r) with
      | some (v, j) => match stk with
        | top :: more => prun n ((c :: r).drop j) ((top ++ [v]) :: more) 0
        | [] => none
      | none => some none
    else some none := rfl
/-- the run over a, from one place to the next -/
def Runs (a : List Nat) (stk : List (List PV)) (fr : Nat) (stk' : List (List PV)) (fr' : Nat) (rest : List Nat) : Prop := ∃ m, m ≤ 2 * a.length ∧ ∀ N, prun (N + m) (a ++ rest) stk fr = prun N rest stk' fr'
theorem Runs.trans {a b : List Nat} {s1 s2 s3 : List (List PV)} {f1 f2 f3 : Nat} {rest : List Nat} (h1 : Runs a s1 f1 s2 f2 (b ++ rest)) (h2 : Runs b s2 f2 s3 f3 rest) : Runs (a ++ b) s1 f1 s3 f3 rest := by
  obtain ⟨m1, l1, e1⟩ := h1
  obtain ⟨m2, l2, e2⟩ := h2
  refine ⟨m2 + m1, by rw [List.length_append]; omega, fun N => ?_⟩
  rw [List.append_assoc, ← Nat.add_assoc, e1, e2]
theorem p_open {stk : List (List PV)} {fr : Nat} {rest : List Nat} (h1 : fr ≠ 0) (h2 : stk.length ≤ 40) : Runs [40] stk fr ([] :: stk) 2 rest := ⟨1, by decide, fun N => by
  show prun (N + 1) (40 :: rest) stk fr = _
  rw [prun_cons, if_pos ⟨h1, rfl, h2⟩]⟩
theorem p_close {top nxt : List PV} {more : List (List PV)} {fr : Nat} {rest : List Nat} (h1 : fr = 0 ∨ fr = 2) : Runs [41] (top :: nxt :: more) fr ((nxt ++ [.tup top]) :: more) 0 rest := ⟨1, by decide, fun N => by
  show prun (N + 1) (41 :: rest) (top :: nxt :: more) fr = _
  rw [prun_cons, if_neg (fun z => absurd z.2.1 (by decide)), if_pos ⟨rfl, by simp, h1⟩]⟩
theorem p_comma {stk : List (List PV)} {rest : List Nat} (h : 1 < stk.length) : Runs [44, 32] stk 0 stk 1 rest := ⟨1, by decide, fun N => by
  show prun (N + 1) (44 :: 32 :: rest) stk 0 = _
  rw [prun_cons, if_neg (fun z => z.1 rfl), if_neg (fun z => absurd z.1 (by decide)), if_pos ⟨rfl, h, rfl⟩]
  rfl⟩
theorem p_leaf {a : List Nat} {c : Nat} {r rest : List Nat} {v : PV} {top : List PV} {more : List (List PV)} {fr : Nat} (ha : a = c :: r) (h1 : fr ≠ 0) (h40 : c ≠ 40) (h41 : c ≠ 41) (hr : rp (a ++ rest) = some (v, a.length)) : Runs a (top :: more) fr ((top ++ [v]) :: more) 0 rest := ⟨1, by subst ha; rw [List.length_cons]; omega, fun N => by
  subst ha
  show prun (N + 1) (c :: (r ++ rest)) (top :: more) fr = _
  have hr : rp (c :: (r ++ rest)) = some (v, (c :: r).length) := hr
  rw [prun_cons, if_neg (fun z => h40 z.2.1), if_neg (fun z => h41 z.1), if_neg (fun z => h1 z.1), if_pos ⟨h1, h40⟩, hr]
  show prun N ((c :: (r ++ rest)).drop (c :: r).length) _ _ = _
  rw [show c :: (r ++ rest) = (c :: r) ++ rest from rfl, List.drop_left]⟩
/-- what follows is no part of a number -/
def stop (rest : List Nat) : Prop := ∀ c r, rest = c :: r → inS c = false
theorem tw {a rest : List Nat} (h : a.all inS = true) (hs : stop rest) : (a ++ rest).takeWhile inS = a := by
  induction a with
  | nil =>
    cases rest with
    | nil => rfl
    | cons c r =>
      show (c :: r).takeWhile inS = []
      rw [List.takeWhile_cons, hs c r rfl]
      rfl
  | cons c a ih =>
    rw [List.all_cons, Bool.and_eq_true] at h
    rw [List.cons_append, List.takeWhile_cons, h.1, if_pos rfl, ih h.2]
theorem dec_inS (i : Int) : (decText i).all inS = true := by
  have hd : ∀ n, ∀ c ∈ dg n, inS c = true := fun n c hc => by
    have := dg_digit n c hc
    unfold inS
    simp
    omega
  rw [List.all_eq_true]
  by_cases hn : i < 0
  · obtain ⟨j, rfl⟩ : ∃ j : Nat, i = -((j + 1 : Nat) : Int) := ⟨i.natAbs - 1, by omega⟩
    rw [decText_neg]
    intro c hc
    rcases List.mem_cons.mp hc with e | e
    · subst e; rfl
    · exact hd _ c e
  · obtain ⟨j, rfl⟩ : ∃ j : Nat, i = (j : Int) := ⟨i.natAbs, by omega⟩
    rw [decText_nat]
    exact hd j
theorem dec_cons (i : Int) : ∃ c r, decText i = c :: r ∧ inS c = true := by
  have h1 := dec_inS i
  cases e : decText i with
  | nil =>
    have := rint_dec i
    rw [e] at this
    cases this
  | cons c r =>
    rw [e, List.all_cons, Bool.and_eq_true] at h1
    exact ⟨c, r, rfl, h1.1⟩
theorem inS_ne {c : Nat} (h : inS c = true) : c ≠ 39 ∧ c ≠ 40 ∧ c ≠ 41 := by
  refine ⟨?_, ?_, ?_⟩ <;> (intro e; subst e; revert h; decide)
theorem rp_int (i : Int) {rest : List Nat} (hs : stop rest) : rp (decText i ++ rest) = some (.int i, (decText i).length) := by
  have ht := tw (dec_inS i) hs
  obtain ⟨c, r, e, hc⟩ := dec_cons i
  have hri := rint_dec i
  rw [e] at ht hri ⊢
  have e2 : rp (c :: (r ++ rest)) = match rint ((c :: (r ++ rest)).takeWhile inS) with
      | some v => some (.int v, ((c :: (r ++ rest)).takeWhile inS).length)
      | none => none := if_neg (inS_ne hc).1
  rw [show c :: r ++ rest = c :: (r ++ rest) from rfl] at ht ⊢
  rw [e2, ht, hri]
theorem find_str : ∀ (s rest : List Nat) (k : Nat), (∀ c ∈ s, c ≠ 39) → findSign 39 (s ++ 39 :: rest) k = some (k + s.length)
  | [], rest, k, _ => by
    show (if (39 : Nat) = 39 then some k else _) = _
    rw [if_pos rfl]
    rfl
  | c :: s, rest, k, h => by
    show (if c = 39 then some k else findSign 39 (s ++ 39 :: rest) (k + 1)) = _
    rw [if_neg (h c (by simp)), find_str s rest (k + 1) fun x hx => h x (by simp [hx]), List.length_cons]
    congr 1
    omega
theorem rp_str (s rest : List Nat) (h : okS s) : rp (39 :: (s ++ [39]) ++ rest) = some (.str s, (39 :: (s ++ [39])).length) := by
  have e : rp (39 :: (s ++ 39 :: rest)) = match findSign 39 (s ++ 39 :: rest) 0 with
      | some j => if ((s ++ 39 :: rest).take j).all okC then some (.str ((s ++ 39 :: rest).take j), j + 2) else none
      | none => none := rfl
  have hok : s.all okC = true := by
    rw [List.all_eq_true]
    intro c hc
    obtain ⟨h1, h2, h3, h4⟩ := h c hc
    unfold okC
    simp
    omega
  rw [show 39 :: (s ++ [39]) ++ rest = 39 :: (s ++ 39 :: rest) by simp, e, find_str s rest 0 fun c hc => (h c hc).2.2.1, Nat.zero_add]
  show (if ((s ++ 39 :: rest).take s.length).all okC then some (PV.str ((s ++ 39 :: rest).take s.length), s.length + 2) else none) = _
  rw [List.take_left, if_pos hok]
  simp
theorem p_int {i : Int} {top : List PV} {more : List (List PV)} {fr : Nat} {rest : List Nat} (h1 : fr ≠ 0) (hs : stop rest) : Runs (decText i) (top :: more) fr ((top ++ [.int i]) :: more) 0 rest := by
  obtain ⟨c, r, e, hc⟩ := dec_cons i
  exact p_leaf e h1 (inS_ne hc).2.1 (inS_ne hc).2.2 (rp_int i hs)
theorem p_str {s : List Nat} {top : List PV} {more : List (List PV)} {fr : Nat} {rest : List Nat} (h1 : fr ≠ 0) (h : okS s) : Runs (39 :: (s ++ [39])) (top :: more) fr ((top ++ [.str s]) :: more) 0 rest :=
  p_leaf rfl h1 (by decide) (by decide) (rp_str s rest h)
theorem p_items {n : Nat} (ih : ∀ d, Gd n d → ∀ (top : List PV) (more : List (List PV)) (fr : Nat) (rest : List Nat), fr ≠ 0 → (top :: more).length + n ≤ 41 → stop rest → Runs (txt d) (top :: more) fr ((top ++ [d]) :: more) 0 rest) :
    ∀ (xs : List PV), (∀ x ∈ xs, Gd n x) → xs ≠ [] → ∀ (acc nxt : List PV) (more : List (List PV)) (fr : Nat) (rest : List Nat), fr ≠ 0 → (acc :: nxt :: more).length + n ≤ 41 → Runs (joinT [44, 32] (xs.map txt)) (acc :: nxt :: more) fr ((acc ++ xs) :: nxt :: more) 0 (41 :: rest) := by
  intro xs
  induction xs with
  | nil => intro _ h; exact absurd rfl h
  | cons x xs ihx =>
    intro hg _ acc nxt more fr rest hfr hd
    cases xs with
    | nil => exact ih x (hg x (by simp)) acc (nxt :: more) fr (41 :: rest) hfr hd (fun c r e => by cases e; rfl)
    | cons y ys =>
      have h1 := ih x (hg x (by simp)) acc (nxt :: more) fr (([44, 32] ++ joinT [44, 32] ((y :: ys).map txt)) ++ 41 :: rest) hfr hd (fun c r e => by cases e; rfl)
      have h2 := p_comma (stk := (acc ++ [x]) :: nxt :: more) (rest := joinT [44, 32] ((y :: ys).map txt) ++ 41 :: rest) (by simp)
      have h3 := ihx (fun z hz => hg z (by simp [hz])) (by simp) (acc ++ [x]) nxt more 1 rest (by decide) hd
      have h := (h1.trans (h2.trans h3))
      rw [List.append_assoc, List.singleton_append] at h
      have e : joinT [44, 32] ((x :: y :: ys).map txt) = txt x ++ ([44, 32] ++ joinT [44, 32] ((y :: ys).map txt)) := by
        show txt x ++ [44, 32] ++ joinT [44, 32] (txt y :: ys.map txt) = _
        rw [List.append_assoc]
        rfl
      rw [e]
      exact h
theorem p_txt : ∀ (n : Nat) (d : PV), Gd n d → ∀ (top : List PV) (more : List (List PV)) (fr : Nat) (rest : List Nat), fr ≠ 0 → (top :: more).length + n ≤ 41 → stop rest → Runs (txt d) (top :: more) fr ((top ++ [d]) :: more) 0 rest := by
  have gen : ∀ (n : Nat) (d : PV), Gd n d → (∀ p, n = p + 1 → ∀ d, Gd p d → ∀ (top : List PV) (more : List (List PV)) (fr : Nat) (rest : List Nat), fr ≠ 0 → (top :: more).length + p ≤ 41 → stop rest → Runs (txt d) (top :: more) fr ((top ++ [d]) :: more) 0 rest) → ∀ (top : List PV) (more : List (List PV)) (fr : Nat) (rest : List Nat), fr ≠ 0 → (top :: more).length + n ≤ 41 → stop rest → Runs (txt d) (top :: more) fr ((top ++ [d]) :: more) 0 rest := by
    intro n d hd ih top more fr rest hfr hl hs
    cases hd with
    | int _ i h => rw [txt_int]; exact p_int hfr hs
    | str _ s h => rw [txt_str]; exact p_str hfr h
    | tup p xs h hx =>
      rw [txt_tup]
      have h0 : (top :: more).length ≤ 40 := by omega
      cases xs with
      | nil =>
        have h1 := p_open (stk := top :: more) (fr := fr) (rest := [41] ++ rest) hfr h0
        have h2 := p_close (top := []) (nxt := top) (more := more) (fr := 2) (rest := rest) (.inr rfl)
        exact h1.trans h2
      | cons x xs =>
        have h1 := p_open (stk := top :: more) (fr := fr) (rest := (joinT [44, 32] ((x :: xs).map txt) ++ [41]) ++ rest) hfr h0
        have h2 := p_items (ih p rfl) (x :: xs) h (by simp) [] top more 2 rest (by decide) (by simp at hl ⊢; omega)
        have h3 := p_close (top := x :: xs) (nxt := top) (more := more) (fr := 0) (rest := rest) (.inl rfl)
        exact h1.trans (h2.trans h3)
  intro n
  induction n with
  | zero => exact fun d hd => gen 0 d hd fun p e => by omega
  | succ n ih =>
    intro d hd
    refine gen (n + 1) d hd fun p e => ?_
    have e : p = n := by omega
    subst e
    exact ih
/-- a text is read back -/
theorem parse_ok {n : Nat} {d : PV} (hd : Gd n d) (hn : n ≤ 40) : prun (2 * (txt d).length + 1) (txt d) [[]] 1 = some (some [[d]]) := by
  obtain ⟨m, hm, e⟩ := p_txt n d hd [] [] 1 [] (by decide) (by simp; omega) (fun c r e => by cases e)
  have := e 1
  rw [List.append_nil] at this
  exact prun_mono _ _ _ _ _ (this.trans rfl) _ (by omega)
theorem parse_bad {n : Nat} {d : PV} (hd : Gd n d) (hn : n ≤ 39) : (∃ r, prun (2 * (txt d).length + 10) (txt d ++ [32]) [[]] 1 = some r ∧ fin r = none) ∧ (∃ r, prun (2 * (txt d).length + 10) ([40] ++ txt d) [[]] 1 = some r ∧ fin r = none) ∧ (∃ r, prun (2 * (txt d).length + 10) (txt d ++ [41]) [[]] 1 = some r ∧ fin r = none) ∧ (∃ r, prun (2 * (txt d).length + 10) (txt d ++ [44, 32, 49]) [[]] 1 = some r ∧ fin r = none) ∧ (∃ r, prun (2 * (txt d).length + 10) ([40] ++ txt d ++ [44, 41]) [[]] 1 = some r ∧ fin r = none) := by
  refine ⟨?_, ?_, ?_, ?_, ?_⟩
  · obtain ⟨m, hm, e⟩ := p_txt n d hd [] [] 1 [32] (by decide) (by simp; omega) (fun c r e => by cases e; rfl)
    exact ⟨none, prun_mono _ _ _ _ _ ((e 1).trans rfl) _ (by omega), rfl⟩
  · obtain ⟨m1, hm1, e1⟩ := p_open (stk := [[]]) (fr := 1) (rest := txt d ++ []) (by decide) (by decide)
    obtain ⟨m, hm, e⟩ := p_txt n d hd [] [[]] 2 [] (by decide) (by simp; omega) (fun c r e => by cases e)
    have h := (e1 (1 + m)).trans (e 1)
    rw [List.append_nil] at h
    have hm1 : m1 ≤ 2 := hm1
    exact ⟨some [[d], []], prun_mono _ _ _ _ _ (h.trans rfl) _ (by omega), rfl⟩
  · obtain ⟨m, hm, e⟩ := p_txt n d hd [] [] 1 [41] (by decide) (by simp; omega) (fun c r e => by cases e; rfl)
    exact ⟨none, prun_mono _ _ _ _ _ ((e 1).trans rfl) _ (by omega), rfl⟩
  · obtain ⟨m, hm, e⟩ := p_txt n d hd [] [] 1 [44, 32, 49] (by decide) (by simp; omega) (fun c r e => by cases e; rfl)
    exact ⟨none, prun_mono _ _ _ _ _ ((e 1).trans rfl) _ (by omega), rfl⟩
  · obtain ⟨m1, hm1, e1⟩ := p_open (stk := [[]]) (fr := 1) (rest := txt d ++ [44, 41]) (by decide) (by decide)
    obtain ⟨m, hm, e⟩ := p_txt n d hd [] [[]] 2 [44, 41] (by decide) (by simp; omega) (fun c r e => by cases e; rfl)
    have h := (e1 (1 + m)).trans (e 1)
    rw [← List.append_assoc] at h
    have hm1 : m1 ≤ 2 := hm1
    exact ⟨none, prun_mono _ _ _ _ _ (h.trans rfl) _ (by omega), rfl⟩
/-- the fixed bad texts -/
def badD : List (List Nat) := [[], [40], [41], [40, 49, 44, 50, 41], [40, 49, 44, 32, 41], [40, 49, 32, 50, 41], [40, 49, 41, 50], [39, 97], [97, 39], [40, 41, 40, 41], [40, 44, 41], [40, 32, 49, 41], [39, 97, 39, 39, 98, 39], [40, 49, 44, 32, 32, 50, 41], [49, 46, 48], [40, 45, 48, 41], [78, 111, 110, 101]]
def chk (s : List Nat) : Bool := match prun 100 s [[]] 1 with
  | some r => (fin r).isNone
  | none => false
theorem chk_ok {s : List Nat} (h : chk s = true) : ∃ r, prun 100 s [[]] 1 = some r ∧ fin r = none := by
  unfold chk at h
  split at h
  · rename_i r e; exact ⟨r, e, Option.isNone_iff_eq_none.mp h⟩
  · cases h
theorem badD_ok : badD.all chk = true := by decide +kernel
end MP.K00

set_option Elab.async false
set_option linter.all false
set_option maxRecDepth 100000
set_option maxHeartbeats 4000000
/-! the law -/
namespace MP.K00
open MP
theorem r10s {k : Nat} (s : List Nat) (T : Store) : callF D G (k + 1) 10 [.str s, .str s] T = .ok (.bl true) T := by
  rw [u10]
  unfold t10
  rw [seq_next (σ1 := [some (.str s), some (.str s), none, none]) (T1 := T) rfl]
  simp [isInst]
/-! ### bad numbers -/
theorem dsOf_or (s : List Nat) : dsOf s = s ∨ dsOf s = s.drop 1 := by
  unfold dsOf; split
  · exact .inr rfl
  · exact .inl rfl
theorem rint_nd {s : List Nat} {c : Nat} (h : c ∈ dsOf s) (hc : isDig c = false) : rint s = none := by
  unfold rint
  split
  · rfl
  · rw [if_neg]
    intro z
    have := List.all_eq_true.mp z c h
    rw [hc] at this
    cases this
def badI (t : List Nat) : List (List Nat) := [[], [45], [45, 48], [43, 49], [48, 48], [48] ++ t, t ++ [32], [32] ++ t, t ++ [45], [45, 45, 49], [49, 32, 50], [49, 95, 48], [120]]
theorem badI_ok (i : Int) : ∀ s ∈ badI (decText i), rint s = none := by
  obtain ⟨c, r, e, hc⟩ := dec_cons i
  intro s hs
  unfold badI at hs
  simp only [List.mem_cons, List.not_mem_nil, or_false] at hs
  have hend : ∀ x, isDig x = false → rint (decText i ++ [x]) = none := fun x hx => by
    refine rint_nd (c := x) ?_ hx
    rcases dsOf_or (decText i ++ [x]) with q | q
    · rw [q]; simp
    · rw [q, e]; simp
  rcases hs with rfl | rfl | rfl | rfl | rfl | rfl | rfl | rfl | rfl | rfl | rfl | rfl | rfl
  · decide
  · decide
  · decide
  · decide
  · decide
  · have hd : dsOf ([48] ++ decText i) = [48] ++ decText i := if_neg (by simp)
    unfold rint
    rw [hd, if_pos]
    refine .inr ⟨rfl, ?_⟩
    rw [e]
    simp
  · exact hend 32 rfl
  · have hd : dsOf ([32] ++ decText i) = [32] ++ decText i := if_neg (by simp)
    exact rint_nd (c := 32) (by rw [hd]; simp) rfl
  · exact hend 45 rfl
  · decide
  · decide
  · decide
  · decide
def badT (t : List Nat) : List (List Nat) := [t ++ [32], [40] ++ t, t ++ [41], t ++ [44, 32, 49], [40] ++ t ++ [44, 41], [49, 46, 48], [40, 45, 48, 41], [78, 111, 110, 101]]
def badF : List (List Nat) := [[], [40], [41], [40, 49, 44, 50, 41], [40, 49, 44, 32, 41], [40, 49, 32, 50, 41], [40, 49, 41, 50], [39, 97], [97, 39], [40, 41, 40, 41], [40, 44, 41], [40, 32, 49, 41], [39, 97, 39, 39, 98, 39], [40, 49, 44, 32, 32, 50, 41]]
theorem badF_ok : badF.all chk = true := by decide +kernel
theorem bad3_ok : [[49, 46, 48], [40, 45, 48, 41], [78, 111, 110, 101]].all chk = true := by decide +kernel
theorem badF_len : badF.all (fun s => decide (s.length ≤ 100)) = true := by decide +kernel
theorem bad_all {n : Nat} {d : PV} (hd : Gd n d) (hn : n ≤ 39) (hz : (txt d).length ≤ 100000) : ∀ s ∈ badF ++ badT (txt d), s.length ≤ 120000 ∧ ∃ N r, N ≤ 1000000000 ∧ prun N s [[]] 1 = some r ∧ fin r = none := by
  intro s hs
  obtain ⟨b1, b2, b3, b4, b5⟩ := parse_bad hd hn
  have h3 := List.all_eq_true.mp bad3_ok
  rcases List.mem_append.mp hs with h | h
  · obtain ⟨r, e1, e2⟩ := chk_ok (List.all_eq_true.mp badF_ok s h)
    have := of_decide_eq_true (List.all_eq_true.mp badF_len s h)
    exact ⟨by omega, 100, r, by omega, e1, e2⟩
  · unfold badT at h
    simp only [List.mem_cons, List.not_mem_nil, or_false] at h
    rcases h with rfl | rfl | rfl | rfl | rfl | rfl | rfl | rfl
    · obtain ⟨r, e1, e2⟩ := b1; exact ⟨by simp; omega, _, r, by omega, e1, e2⟩
    · obtain ⟨r, e1, e2⟩ := b2; exact ⟨by simp; omega, _, r, by omega, e1, e2⟩
    · obtain ⟨r, e1, e2⟩ := b3; exact ⟨by simp; omega, _, r, by omega, e1, e2⟩
    · obtain ⟨r, e1, e2⟩ := b4; exact ⟨by simp; omega, _, r, by omega, e1, e2⟩
    · obtain ⟨r, e1, e2⟩ := b5; exact ⟨by simp; omega, _, r, by omega, e1, e2⟩
    · obtain ⟨r, e1, e2⟩ := chk_ok (h3 [49, 46, 48] (by simp)); exact ⟨by decide, 100, r, by omega, e1, e2⟩
    · obtain ⟨r, e1, e2⟩ := chk_ok (h3 [40, 45, 48, 41] (by simp)); exact ⟨by decide, 100, r, by omega, e1, e2⟩
    · obtain ⟨r, e1, e2⟩ := chk_ok (h3 [78, 111, 110, 101] (by simp)); exact ⟨by decide, 100, r, by omega, e1, e2⟩
/-! ### nested data -/
theorem nest_gd : ∀ (n m : Nat) (d : PV), Gd m d → Gd (m + n) (nest n d)
  | 0, _, _, h => h
  | n + 1, m, d, h => by
    have := nest_gd n (m + 1) (.tup [d]) (.tup m [d] (fun x hx => by rw [List.mem_singleton.mp hx]; exact h) (by simp))
    rw [show m + (n + 1) = m + 1 + n by omega]
    exact this
theorem nest_txt : ∀ (n : Nat) (d : PV), txt (nest n d) = List.replicate n 40 ++ (txt d ++ List.replicate n 41)
  | 0, d => by simp [nest]
  | n + 1, d => by
    show txt (nest n (.tup [d])) = _
    rw [nest_txt n, txt_tup]
    show List.replicate n 40 ++ (40 :: (txt d ++ [41]) ++ List.replicate n 41) = _
    rw [List.replicate_succ' (n := n) (a := 40), List.replicate_succ (n := n) (a := 41)]
    simp
theorem txt7 : txt (.int 7) = [55] := by
  rw [txt_int]
  exact (decText_nat 7).trans (dg_lt (by decide))
theorem deep_bad : chk (List.replicate 41 40 ++ ([55] ++ List.replicate 41 41)) = true := by decide +kernel
/-! ### the parts of the law's turn -/
theorem addS {a b : List Nat} (h : a.length + b.length ≤ 16777216) (T : Store) : binOp .add (.str a) (.str b) T = .ok (.str (a ++ b)) T := by
  rw [add_str, ifsz h]
theorem add_refs {T : Store} {a b : Nat} {xs ys : List PV} (h1 : T[a]? = some (.lst xs)) (h2 : T[b]? = some (.lst ys)) (h : xs.length + ys.length ≤ 16777216) : binOp .add (.ref a) (.ref b) T = .ok (.ref T.length) (T ++ [.lst (xs ++ ys)]) := by
  have e : binOp .add (.ref a) (.ref b) T = match T[a]?, T[b]? with
    | some (.lst xs), some (.lst ys) => if xs.length + ys.length ≤ SZ then allocM (.lst (xs ++ ys)) T else .bad
    | _, _ => .bad := rfl
  rw [e, h1, h2]
  show (if xs.length + ys.length ≤ SZ then allocM (.lst (xs ++ ys)) T else .bad) = _
  rw [ifsz h]
  rfl
theorem Sx_app (ns : List Int) (a : MO) (R X : Store) : Sx ns a R ++ X = Sx ns a (R ++ X) := rfl
theorem Sx_len (ns : List Int) (a : MO) (R : Store) : (Sx ns a R).length = R.length + 2 := rfl
/-- not .. -/
theorem not_true {C : Nat → List PV → Store → Res PV} {e : E} {σ : Nv} {T T' : Store} (h : ev C G e σ T = .ok (.bl true) T') : ev C G (.not e) σ T = .ok (.bl false) T' := by
  rw [ev_not, h, bind_ok, tr_bl, ofOpt_some, bind_ok]; rfl
theorem if_not {C : Nat → List PV → Store → Res PV} {e : E} {a : S} {σ : Nv} {T T' : Store} (h : ev C G e σ T = .ok (.bl true) T') : exS C G (.ite (.not e) a .skip) σ T = .ok (.next σ) T' := by
  rw [ex_ite, evT_eq, not_true h, bind_ok, tr_bl, ofOpt_some, bindS_ok, if_neg Bool.false_ne_true, ex_skip]
theorem if_or {C : Nat → List PV → Store → Res PV} {e f : E} {a : S} {σ : Nv} {T T' T2 : Store} (h : ev C G e σ T = .ok (.bl true) T') (h2 : ev C G f σ T' = .ok (.bl true) T2) : exS C G (.ite (.or (.not e) (.not f)) a .skip) σ T = .ok (.next σ) T2 := by
  rw [ex_ite, evT_eq, ev_or, not_true h, bind_ok, tr_bl, ofOpt_some, bind_ok, if_neg Bool.false_ne_true, not_true h2, bind_ok, tr_bl, ofOpt_some, bindS_ok, if_neg Bool.false_ne_true, ex_skip]
section
variable {C : Nat → List PV → Store → Res PV} {σ : Nv} {T T1 T2 : Store} {a b : E} {x y v : PV} {f : Nat} {r : Res PV}
theorem call1 (h1 : ev C G a σ T = .ok x T1) (h2 : C f [x] T1 = r) : ev C G (.call f (.cons a .nil)) σ T = r := by
  rw [ev_call, ev_cons, h1, bind_ok, ev_nil, bind_ok, asTup_tup, bind_ok, asTup_tup, h2]
theorem call2 (h1 : ev C G a σ T = .ok x T1) (h2 : ev C G b σ T1 = .ok y T2) (h3 : C f [x, y] T2 = r) : ev C G (.call f (.cons a (.cons b .nil))) σ T = r := by
  rw [ev_call, ev_cons, h1, bind_ok, ev_cons, h2, bind_ok, ev_nil, bind_ok, asTup_tup, bind_ok, asTup_tup, bind_ok, asTup_tup, h3]
theorem vr {i : Nat} (h : slotV σ[i]? = some v) : ev C G (.var i) σ T = .ok v T := by rw [ev_var, h, ofOpt_some]
theorem asg1 {i : Nat} {e : E} (h : ev C G e σ T = .ok v T1) : exS C G (.asg (.nm i) e) σ T = .ok (.next (σ.set i (some v))) T1 := by rw [ex_asg, h, bindS_ok, bT_nm, nextO_some]
end
end MP.K00

set_option Elab.async false
set_option linter.all false
set_option maxRecDepth 100000
set_option maxHeartbeats 4000000
/-! the law, the whole -/
namespace MP.K00
open MP
abbrev B1 : S := .asg (.nm 3) (.idx (.list (.cons (.bin .sub (.call 7 (.cons (.var 1) (.cons (.lit (.int 41)) .nil))) (.lit (.int 20))) (.cons (.call 12 (.cons (.var 1) (.cons (.lit (.int 30)) .nil))) .nil))) (.call 7 (.cons (.var 1) (.cons (.lit (.int 2)) .nil))))
abbrev B2 : S := .asg (.nm 4) (.call 11 (.cons (.var 3) .nil))
abbrev B3 : S := .ite (.or (.not (.call 10 (.cons (.call 0 (.cons (.var 3) .nil)) (.cons (.var 4) .nil)))) (.not (.call 10 (.cons (.call 1 (.cons (.var 4) .nil)) (.cons (.var 3) .nil))))) (.seq (.ret (.lit (.bl false))) .skip) .skip
abbrev B4E : E := .list (.cons (.lit (.str [])) (.cons (.lit (.str [45])) (.cons (.lit (.str [45, 48])) (.cons (.lit (.str [43, 49])) (.cons (.lit (.str [48, 48])) (.cons (.bin .add (.lit (.str [48])) (.var 4)) (.cons (.bin .add (.var 4) (.lit (.str [32]))) (.cons (.bin .add (.lit (.str [32])) (.var 4)) (.cons (.bin .add (.var 4) (.lit (.str [45]))) (.cons (.lit (.str [45, 45, 49])) (.cons (.lit (.str [49, 32, 50])) (.cons (.lit (.str [49, 95, 48])) (.cons (.lit (.str [120])) .nil)))))))))))))
abbrev B5 : S := .ite (.not (.call 16 (.cons (.lit (.str [105, 110, 116, 101, 103, 101, 114])) (.cons (.call 8 (.cons (.var 1) (.cons (.var 5) .nil))) .nil)))) (.seq (.ret (.lit (.bl false))) .skip) .skip
abbrev B6 : S := .asg (.nm 6) (.call 13 (.cons (.var 1) (.cons (.lit (.int 4)) .nil)))
abbrev B7 : S := .asg (.nm 4) (.call 14 (.cons (.var 6) .nil))
abbrev B8 : S := .ite (.or (.not (.call 10 (.cons (.call 2 (.cons (.var 6) .nil)) (.cons (.var 4) .nil)))) (.not (.call 10 (.cons (.call 5 (.cons (.var 4) .nil)) (.cons (.var 6) .nil))))) (.seq (.ret (.lit (.bl false))) .skip) .skip
abbrev B9E : E := .list (.cons (.lit (.str [])) (.cons (.lit (.str [40])) (.cons (.lit (.str [41])) (.cons (.lit (.str [40, 49, 44, 50, 41])) (.cons (.lit (.str [40, 49, 44, 32, 41])) (.cons (.lit (.str [40, 49, 32, 50, 41])) (.cons (.lit (.str [40, 49, 41, 50])) (.cons (.lit (.str [39, 97])) (.cons (.lit (.str [97, 39])) (.cons (.lit (.str [40, 41, 40, 41])) (.cons (.lit (.str [40, 44, 41])) (.cons (.lit (.str [40, 32, 49, 41])) (.cons (.lit (.str [39, 97, 39, 39, 98, 39])) (.cons (.lit (.str [40, 49, 44, 32, 32, 50, 41])) .nil))))))))))))))
abbrev BAE : E := .list (.cons (.bin .add (.var 4) (.lit (.str [32]))) (.cons (.bin .add (.lit (.str [40])) (.var 4)) (.cons (.bin .add (.var 4) (.lit (.str [41]))) (.cons (.bin .add (.var 4) (.lit (.str [44, 32, 49]))) (.cons (.bin .add (.bin .add (.lit (.str [40])) (.var 4)) (.lit (.str [44, 41]))) (.cons (.lit (.str [49, 46, 48])) (.cons (.lit (.str [40, 45, 48, 41])) (.cons (.lit (.str [78, 111, 110, 101])) .nil))))))))
abbrev BB' : S := .ite (.not (.call 16 (.cons (.lit (.str [100, 97, 116, 97])) (.cons (.call 8 (.cons (.var 1) (.cons (.var 5) .nil))) .nil)))) (.seq (.ret (.lit (.bl false))) .skip) .skip
abbrev BODY : S := .seq B1 (.seq B2 (.seq B3 (.seq (.asg (.nm 5) B4E) (.seq B5 (.seq B6 (.seq B7 (.seq B8 (.seq (.asg (.nm 5) B9E) (.seq (.asg (.nm 5) (.bin .add (.var 5) BAE)) (.seq BB' .skip))))))))))
theorem t17_eq : t17 = .seq (.asg (.nm 1) (.call 6 (.cons (.var 0) .nil))) (.seq (.loop (.nm 2) .range (.cons (.lit (.int 4)) .nil) BODY) (.seq (.asg (.nm 7) (.call 15 (.cons (.lit (.int 7)) (.cons (.lit (.int 40)) .nil)))) (.seq (.ite (.not (.call 10 (.cons (.call 5 (.cons (.call 2 (.cons (.var 7) .nil)) .nil)) (.cons (.var 7) .nil)))) (.seq (.ret (.lit (.bl false))) .skip) .skip) (.seq (.ret (.call 16 (.cons (.lit (.str [100, 97, 116, 97])) (.cons (.call 14 (.cons (.call 15 (.cons (.lit (.int 7)) (.cons (.lit (.int 41)) .nil))) .nil)) .nil)))) .skip)))) := rfl
abbrev K := callF D G 200
theorem lst1 {C : Nat → List PV → Store → Res PV} {es : E} {σ : Nv} {T T1 : Store} {xs : List PV} (h : ev C G es σ T = .ok (.tup xs) T1) (hl : xs.length ≤ 16777216) : ev C G (.list es) σ T = .ok (.ref T1.length) (T1 ++ [MO.lst xs]) := by
  rw [ev_list, h, bind_ok]
  show (if xs.length ≤ SZ then allocM (MO.lst xs) T1 else .bad) = _
  rw [ifsz hl]
  rfl
section
variable {ns : List Int} {x0 x2 x3 x4 x5 x6 x7 : Option PV} {R : Store} {a : MO} {m : Nat}
theorem dr (h : St m a) (hm : m < 100000000) (most : Nat) (h1 : 0 < most) (h2 : most ≤ 1000000000000000000) : ∃ (r : Nat) (a' : MO), K 7 [.ref 1, .int most] (Sx ns a R) = .ok (.int r) (Sx ns a' R) ∧ r < most ∧ St (m + 1) a' := draw (k := 199) h hm most h1 h2
theorem pB1 (h : St m a) (hm : m < 5000000) : ∃ (z : Int) (a' : MO) (X : Store), exS K G B1 [x0, some (.ref 1), x2, x3, x4, x5, x6, x7] (Sx ns a R) = .ok (.next [x0, some (.ref 1), x2, some (.int z), x4, x5, x6, x7]) (Sx ns a' (R ++ X)) ∧ z.natAbs < (10 ^ 18) ^ 60 ∧ St (m + 200) a' := by
  obtain ⟨r, a1, f1, hr, s1⟩ := dr (ns := ns) (R := R) h (by omega) 41 (by decide) (by decide)
  obtain ⟨i, a2, X, f2, hi, s2⟩ := r12 (k := 198) (ns := ns) (R := R) s1 (by omega) 30 (by decide) (by decide)
  obtain ⟨j, a3, f3, hj, s3⟩ := dr (ns := ns) (R := R ++ X ++ [MO.lst [.int ((r : Int) - 20), .int i]]) s2 (by omega) 2 (by decide) (by decide)
  have f1 : K 7 [.ref 1, .int 41] (Sx ns a R) = .ok (.int r) (Sx ns a1 R) := f1
  have f2 : K 12 [.ref 1, .int 30] (Sx ns a1 R) = .ok (.int i) (Sx ns a2 (R ++ X)) := f2
  have f3 : K 7 [.ref 1, .int 2] (Sx ns a2 (R ++ X ++ [MO.lst [.int ((r : Int) - 20), .int i]])) = .ok (.int j) (Sx ns a3 (R ++ X ++ [MO.lst [.int ((r : Int) - 20), .int i]])) := f3
  have v1 : ∀ T, ev K G (.var 1) [x0, some (.ref 1), x2, x3, x4, x5, x6, x7] T = .ok (.ref 1) T := fun T => vr rfl
  have c1 := call2 (v1 (Sx ns a R)) (ev_lit (.int 41)) f1
  have c2 := call2 (v1 (Sx ns a1 R)) (ev_lit (.int 30)) f2
  have c3 := call2 (v1 (Sx ns a2 (R ++ X ++ [MO.lst [.int ((r : Int) - 20), .int i]]))) (ev_lit (.int 2)) f3
  have hl : ev K G (.list (.cons (.bin .sub (.call 7 (.cons (.var 1) (.cons (.lit (.int 41)) .nil))) (.lit (.int 20))) (.cons (.call 12 (.cons (.var 1) (.cons (.lit (.int 30)) .nil))) .nil))) [x0, some (.ref 1), x2, x3, x4, x5, x6, x7] (Sx ns a R) = .ok (.ref ((R ++ X).length + 2)) (Sx ns a2 (R ++ X ++ [MO.lst [.int ((r : Int) - 20), .int i]])) := by
    rw [ev_list, ev_cons, ev_bin, c1, bind_ok, ev_lit, bind_ok, sub_int, bind_ok, ev_cons, c2, bind_ok, ev_nil, bind_ok, asTup_tup, bind_ok, asTup_tup, bind_ok, asTup_tup, ifsz (by simp), alloc_eq]
    rfl
  have hget : (Sx ns a3 (R ++ X ++ [MO.lst [.int ((r : Int) - 20), .int i]]))[(R ++ X).length + 2]? = some (.lst [.int ((r : Int) - 20), .int i]) := by
    show (R ++ X ++ [MO.lst [.int ((r : Int) - 20), .int i]])[(R ++ X).length]? = _
    exact get_last _
  obtain ⟨z, hz, hz2⟩ : ∃ z : Int, ([PV.int ((r : Int) - 20), PV.int i] : List PV)[j]? = some (.int z) ∧ z.natAbs < (10 ^ 18) ^ 60 := by
    rcases (show j = 0 ∨ j = 1 by omega) with e | e
    · subst e
      refine ⟨(r : Int) - 20, rfl, Nat.lt_of_lt_of_le (show ((r : Int) - 20).natAbs < 100 by omega) ?_⟩
      rw [← Nat.pow_mul]
      exact Nat.le_trans (show 100 ≤ 10 ^ 2 by decide) (Nat.pow_le_pow_right (by decide) (by decide))
    · subst e; exact ⟨i, rfl, hi⟩
  have hn : normI ([PV.int ((r : Int) - 20), PV.int i] : List PV).length (j : Int) = some j := norm_in (n := 2) (by omega) (by omega)
  refine ⟨z, a3, X ++ [MO.lst [.int ((r : Int) - 20), .int i]], ?_, hz2, s3.mono (by omega)⟩
  rw [← List.append_assoc]
  refine (asg1 (v := .int z) (T1 := Sx ns a3 (R ++ X ++ [MO.lst [.int ((r : Int) - 20), .int i]])) ?_)
  rw [ev_idx, hl, bind_ok, c3, bind_ok, ix_ref, hget, lstO_some, Option.bind_some, hn, Option.bind_some, hz, ofOpt_some]
theorem pB2 (z : Int) (hz : z.natAbs < (10 ^ 18) ^ 60) (T : Store) : exS K G B2 [x0, some (.ref 1), x2, some (.int z), x4, x5, x6, x7] T = .ok (.next [x0, some (.ref 1), x2, some (.int z), some (.str (decText z)), x5, x6, x7]) T :=
  asg1 (call1 (vr rfl) (r11 (k := 199) z T hz))
theorem pB3 (z : Int) (hz : z.natAbs < (10 ^ 18) ^ 60) (T : Store) : ∃ X, exS K G B3 [x0, some (.ref 1), x2, some (.int z), some (.str (decText z)), x5, x6, x7] T = .ok (.next [x0, some (.ref 1), x2, some (.int z), some (.str (decText z)), x5, x6, x7]) (T ++ X) := by
  obtain ⟨X1, e1⟩ := r0 (k := 198) z T hz
  have e2 := r10s (k := 199) (decText z) (T ++ X1)
  have e3 := r1 (k := 199) (decText z) (T ++ X1) (by have := dec_len z hz; omega)
  rw [rint_dec] at e3
  obtain ⟨X2, e4⟩ := r10 0 (.int z) (.int _ _ hz) 197 (T ++ X1)
  refine ⟨X1 ++ X2, ?_⟩
  rw [← List.append_assoc]
  exact if_or (call2 (call1 (vr rfl) e1) (vr rfl) e2) (call2 (call1 (vr rfl) e3) (vr rfl) e4)
theorem pB4 (t : List Nat) (ht : t.length ≤ 200000) : exS K G (.asg (.nm 5) B4E) [x0, some (.ref 1), x2, x3, some (.str t), x5, x6, x7] (Sx ns a R) = .ok (.next [x0, some (.ref 1), x2, x3, some (.str t), some (.ref (R.length + 2)), x6, x7]) (Sx ns a (R ++ [MO.lst ((badI t).map .str)])) := by
  refine asg1 (v := .ref (R.length + 2)) (T1 := Sx ns a (R ++ [MO.lst ((badI t).map .str)])) ?_
  have a1 : ∀ T, binOp .add (.str [48]) (.str t) T = .ok (.str ([48] ++ t)) T := fun T => addS (by simp; omega) T
  have a2 : ∀ T, binOp .add (.str t) (.str [32]) T = .ok (.str (t ++ [32])) T := fun T => addS (by simp; omega) T
  have a3 : ∀ T, binOp .add (.str [32]) (.str t) T = .ok (.str ([32] ++ t)) T := fun T => addS (by simp; omega) T
  have a4 : ∀ T, binOp .add (.str t) (.str [45]) T = .ok (.str (t ++ [45])) T := fun T => addS (by simp; omega) T
  have v4 : ∀ T, ev K G (.var 4) [x0, some (.ref 1), x2, x3, some (.str t), x5, x6, x7] T = .ok (.str t) T := fun T => vr rfl
  have hx := lst1 (C := K) (xs := (badI t).map PV.str) (T1 := Sx ns a R) (T := Sx ns a R) (σ := [x0, some (.ref 1), x2, x3, some (.str t), x5, x6, x7]) (es := .cons (.lit (.str [])) (.cons (.lit (.str [45])) (.cons (.lit (.str [45, 48])) (.cons (.lit (.str [43, 49])) (.cons (.lit (.str [48, 48])) (.cons (.bin .add (.lit (.str [48])) (.var 4)) (.cons (.bin .add (.var 4) (.lit (.str [32]))) (.cons (.bin .add (.lit (.str [32])) (.var 4)) (.cons (.bin .add (.var 4) (.lit (.str [45]))) (.cons (.lit (.str [45, 45, 49])) (.cons (.lit (.str [49, 32, 50])) (.cons (.lit (.str [49, 95, 48])) (.cons (.lit (.str [120])) .nil))))))))))))) (by
    simp only [ev_cons, ev_lit, ev_bin, v4, a1, a2, a3, a4, bind_ok, ev_nil, asTup_tup]
    rfl) (by simp [badI])
  exact hx
theorem pB5 (h : St m a) (hm : m < 5000000) (z : Int) (hz : z.natAbs < (10 ^ 18) ^ 60) : ∃ a', exS K G B5 [x0, some (.ref 1), x2, x3, x4, some (.ref (R.length + 2)), x6, x7] (Sx ns a (R ++ [MO.lst ((badI (decText z)).map .str)])) = .ok (.next [x0, some (.ref 1), x2, x3, x4, some (.ref (R.length + 2)), x6, x7]) (Sx ns a' (R ++ [MO.lst ((badI (decText z)).map .str)])) ∧ St (m + 1) a' := by
  obtain ⟨v, a', e, hv, s⟩ := one_of (k := 198) (ns := ns) (R := R ++ [MO.lst ((badI (decText z)).map .str)]) (j := R.length) (xs := (badI (decText z)).map .str) h (by omega) (get_last _) (by simp [badI]) (by simp [badI])
  obtain ⟨s0, hs, rfl⟩ := List.mem_map.mp hv
  have hl : s0.length ≤ 120000 := by
    have hd := dec_len z hz
    unfold badI at hs
    simp only [List.mem_cons, List.not_mem_nil, or_false] at hs
    rcases hs with rfl | rfl | rfl | rfl | rfl | rfl | rfl | rfl | rfl | rfl | rfl | rfl | rfl <;> (simp; try omega)
  have e1 := r1 (k := 198) s0 (Sx ns a' (R ++ [MO.lst ((badI (decText z)).map .str)])) hl
  rw [badI_ok z s0 hs] at e1
  have e2 := r16i (k := 199) s0 _ _ e1
  exact ⟨a', if_not (call2 (ev_lit _) (call2 (vr rfl) (vr rfl) e) e2), s⟩
theorem pB6 (h : St m a) (hm : m < 5000000) : ∃ (d : PV) (a' : MO) (X : Store), exS K G B6 [x0, some (.ref 1), x2, x3, x4, x5, x6, x7] (Sx ns a R) = .ok (.next [x0, some (.ref 1), x2, x3, x4, x5, some d, x7]) (Sx ns a' (R ++ X)) ∧ Gd 4 d ∧ (txt d).length ≤ 97100 ∧ St (m + 256000) a' := by
  obtain ⟨d, a', X, e, h1, h2, h3⟩ := r13 4 (by omega) 192 m ns R a h (by omega)
  exact ⟨d, a', X, asg1 (call2 (vr rfl) (ev_lit _) e), h1, h2, h3⟩
theorem pB7 (d : PV) (hd : Gd 4 d) (hl : (txt d).length ≤ 97100) (T : Store) : ∃ X, exS K G B7 [x0, some (.ref 1), x2, x3, x4, x5, some d, x7] T = .ok (.next [x0, some (.ref 1), x2, x3, some (.str (txt d)), x5, some d, x7]) (T ++ X) := by
  obtain ⟨X, e⟩ := r14 4 d hd (by omega) 193 T
  exact ⟨X, asg1 (call1 (vr hd.nx) e)⟩
theorem pB8 (d : PV) (hd : Gd 4 d) (hl : (txt d).length ≤ 97100) (T : Store) : ∃ X, exS K G B8 [x0, some (.ref 1), x2, x3, some (.str (txt d)), x5, some d, x7] T = .ok (.next [x0, some (.ref 1), x2, x3, some (.str (txt d)), x5, some d, x7]) (T ++ X) := by
  obtain ⟨X1, e1⟩ := r2 4 d hd (by omega) 193 T
  have e2 := r10s (k := 199) (txt d) (T ++ X1)
  obtain ⟨X3, e3⟩ := r5 (k := 197) (txt d) (T ++ X1) (by omega) _ (by omega) _ (parse_ok hd (by omega))
  have e3 : K 5 [.str (txt d)] (T ++ X1) = .ok d (T ++ X1 ++ X3) := e3
  obtain ⟨X4, e4⟩ := r10 4 d hd 193 (T ++ X1 ++ X3)
  refine ⟨X1 ++ X3 ++ X4, ?_⟩
  rw [← List.append_assoc, ← List.append_assoc]
  exact if_or (call2 (call1 (vr hd.nx) e1) (vr rfl) e2) (call2 (call1 (vr rfl) e3) (vr hd.nx) e4)
theorem pB9 : exS K G (.asg (.nm 5) B9E) [x0, some (.ref 1), x2, x3, x4, x5, x6, x7] (Sx ns a R) = .ok (.next [x0, some (.ref 1), x2, x3, x4, some (.ref (R.length + 2)), x6, x7]) (Sx ns a (R ++ [MO.lst (badF.map .str)])) :=
  asg1 (v := .ref (R.length + 2)) (T1 := Sx ns a (R ++ [MO.lst (badF.map .str)])) rfl
theorem pBA (t : List Nat) (ht : t.length ≤ 200000) : exS K G (.asg (.nm 5) (.bin .add (.var 5) BAE)) [x0, some (.ref 1), x2, x3, some (.str t), some (.ref (R.length + 2)), x6, x7] (Sx ns a (R ++ [MO.lst (badF.map .str)])) = .ok (.next [x0, some (.ref 1), x2, x3, some (.str t), some (.ref ((R ++ [MO.lst (badF.map .str)] ++ [MO.lst ((badT t).map .str)]).length + 2)), x6, x7]) (Sx ns a (R ++ [MO.lst (badF.map .str)] ++ [MO.lst ((badT t).map .str)] ++ [MO.lst ((badF ++ badT t).map .str)])) := by
  refine asg1 (v := .ref ((R ++ [MO.lst (badF.map .str)] ++ [MO.lst ((badT t).map .str)]).length + 2)) (T1 := Sx ns a (R ++ [MO.lst (badF.map .str)] ++ [MO.lst ((badT t).map .str)] ++ [MO.lst ((badF ++ badT t).map .str)])) ?_
  have a1 : ∀ T, binOp .add (.str t) (.str [32]) T = .ok (.str (t ++ [32])) T := fun T => addS (by simp; omega) T
  have a2 : ∀ T, binOp .add (.str [40]) (.str t) T = .ok (.str ([40] ++ t)) T := fun T => addS (by simp; omega) T
  have a3 : ∀ T, binOp .add (.str t) (.str [41]) T = .ok (.str (t ++ [41])) T := fun T => addS (by simp; omega) T
  have a4 : ∀ T, binOp .add (.str t) (.str [44, 32, 49]) T = .ok (.str (t ++ [44, 32, 49])) T := fun T => addS (by simp; omega) T
  have a5 : ∀ T, binOp .add (.str ([40] ++ t)) (.str [44, 41]) T = .ok (.str ([40] ++ t ++ [44, 41])) T := fun T => addS (by simp; omega) T
  have v4 : ∀ T, ev K G (.var 4) [x0, some (.ref 1), x2, x3, some (.str t), some (.ref (R.length + 2)), x6, x7] T = .ok (.str t) T := fun T => vr rfl
  have v5 : ∀ T, ev K G (.var 5) [x0, some (.ref 1), x2, x3, some (.str t), some (.ref (R.length + 2)), x6, x7] T = .ok (.ref (R.length + 2)) T := fun T => vr rfl
  have hl : ev K G BAE [x0, some (.ref 1), x2, x3, some (.str t), some (.ref (R.length + 2)), x6, x7] (Sx ns a (R ++ [MO.lst (badF.map .str)])) = .ok (.ref ((R ++ [MO.lst (badF.map .str)]).length + 2)) (Sx ns a (R ++ [MO.lst (badF.map .str)] ++ [MO.lst ((badT t).map .str)])) := by
    have hx := lst1 (C := K) (xs := (badT t).map PV.str) (T1 := Sx ns a (R ++ [MO.lst (badF.map .str)])) (T := Sx ns a (R ++ [MO.lst (badF.map .str)])) (σ := [x0, some (.ref 1), x2, x3, some (.str t), some (.ref (R.length + 2)), x6, x7]) (es := .cons (.bin .add (.var 4) (.lit (.str [32]))) (.cons (.bin .add (.lit (.str [40])) (.var 4)) (.cons (.bin .add (.var 4) (.lit (.str [41]))) (.cons (.bin .add (.var 4) (.lit (.str [44, 32, 49]))) (.cons (.bin .add (.bin .add (.lit (.str [40])) (.var 4)) (.lit (.str [44, 41]))) (.cons (.lit (.str [49, 46, 48])) (.cons (.lit (.str [40, 45, 48, 41])) (.cons (.lit (.str [78, 111, 110, 101])) .nil)))))))) (by
      simp only [ev_cons, ev_lit, ev_bin, v4, a1, a2, a3, a4, a5, bind_ok, ev_nil, asTup_tup]
      rfl) (by simp [badT])
    exact hx
  have g1 : (Sx ns a (R ++ [MO.lst (badF.map .str)] ++ [MO.lst ((badT t).map .str)]))[R.length + 2]? = some (.lst (badF.map .str)) := by
    show (R ++ [MO.lst (badF.map .str)] ++ [MO.lst ((badT t).map .str)])[R.length]? = _
    rw [List.getElem?_append_left (by simp), get_last]
  have g2 : (Sx ns a (R ++ [MO.lst (badF.map .str)] ++ [MO.lst ((badT t).map .str)]))[(R ++ [MO.lst (badF.map .str)]).length + 2]? = some (.lst ((badT t).map .str)) := by
    show (R ++ [MO.lst (badF.map .str)] ++ [MO.lst ((badT t).map .str)])[(R ++ [MO.lst (badF.map .str)]).length]? = _
    exact get_last _
  rw [ev_bin, v5, bind_ok, hl, bind_ok, add_refs g1 g2 (by simp [badF, badT]), List.map_append]
  rfl
theorem pBB (h : St m a) (hm : m < 5000000) (d : PV) (hd : Gd 4 d) (hl : (txt d).length ≤ 97100) : ∃ a' X, exS K G BB' [x0, some (.ref 1), x2, x3, x4, some (.ref (R.length + 2)), x6, x7] (Sx ns a (R ++ [MO.lst ((badF ++ badT (txt d)).map .str)])) = .ok (.next [x0, some (.ref 1), x2, x3, x4, some (.ref (R.length + 2)), x6, x7]) (Sx ns a' (R ++ [MO.lst ((badF ++ badT (txt d)).map .str)] ++ X)) ∧ St (m + 1) a' := by
  obtain ⟨v, a', e, hv, s⟩ := one_of (k := 198) (ns := ns) (R := R ++ [MO.lst ((badF ++ badT (txt d)).map .str)]) (j := R.length) (xs := (badF ++ badT (txt d)).map .str) h (by omega) (get_last _) (by simp [badF]) (by simp [badF, badT])
  obtain ⟨s0, hs, rfl⟩ := List.mem_map.mp hv
  obtain ⟨hsl, N, r, hN, hr, hf⟩ := bad_all hd (by omega) (by omega) s0 hs
  obtain ⟨X, e1⟩ := r5 (k := 196) s0 (Sx ns a' (R ++ [MO.lst ((badF ++ badT (txt d)).map .str)])) hsl N hN r hr
  rw [hf] at e1
  have e2 := r16d (k := 199) s0 _ _ e1
  exact ⟨a', X, if_not (call2 (ev_lit _) (call2 (vr rfl) (vr rfl) e) e2), s⟩
theorem pBody (h : St m a) (hm : m < 4000000) : ∃ (y3 y4 y5 y6 : Option PV) (a' : MO) (X : Store), exS K G BODY [x0, some (.ref 1), x2, x3, x4, x5, x6, x7] (Sx ns a R) = .ok (.next [x0, some (.ref 1), x2, y3, y4, y5, y6, x7]) (Sx ns a' (R ++ X)) ∧ St (m + 400000) a' := by
  obtain ⟨z, a1, X1, e1, hz, s1⟩ := pB1 (ns := ns) (x0 := x0) (x2 := x2) (x3 := x3) (x4 := x4) (x5 := x5) (x6 := x6) (x7 := x7) (R := R) h (by omega)
  have e2 := pB2 (x0 := x0) (x2 := x2) (x4 := x4) (x5 := x5) (x6 := x6) (x7 := x7) z hz (Sx ns a1 (R ++ X1))
  obtain ⟨X3, e3⟩ := pB3 (x0 := x0) (x2 := x2) (x5 := x5) (x6 := x6) (x7 := x7) z hz (Sx ns a1 (R ++ X1))
  rw [Sx_app] at e3
  have e4 := pB4 (ns := ns) (x0 := x0) (x2 := x2) (x3 := some (.int z)) (x5 := x5) (x6 := x6) (x7 := x7) (R := R ++ X1 ++ X3) (a := a1) (decText z) (by have := dec_len z hz; omega)
  obtain ⟨a5, e5, s5⟩ := pB5 (ns := ns) (x0 := x0) (x2 := x2) (x3 := some (.int z)) (x4 := some (.str (decText z))) (x6 := x6) (x7 := x7) (R := R ++ X1 ++ X3) s1 (by omega) z hz
  obtain ⟨d, a6, X6, e6, hd, hl, s6⟩ := pB6 (ns := ns) (x0 := x0) (x2 := x2) (x3 := some (.int z)) (x4 := some (.str (decText z))) (x5 := some (.ref ((R ++ X1 ++ X3).length + 2))) (x6 := x6) (x7 := x7) (R := R ++ X1 ++ X3 ++ [MO.lst ((badI (decText z)).map .str)]) s5 (by omega)
  obtain ⟨X7, e7⟩ := pB7 (x0 := x0) (x2 := x2) (x3 := some (.int z)) (x4 := some (.str (decText z))) (x5 := some (.ref ((R ++ X1 ++ X3).length + 2))) (x7 := x7) d hd hl (Sx ns a6 (R ++ X1 ++ X3 ++ [MO.lst ((badI (decText z)).map .str)] ++ X6))
  rw [Sx_app] at e7
  obtain ⟨X8, e8⟩ := pB8 (x0 := x0) (x2 := x2) (x3 := some (.int z)) (x5 := some (.ref ((R ++ X1 ++ X3).length + 2))) (x7 := x7) d hd hl (Sx ns a6 (R ++ X1 ++ X3 ++ [MO.lst ((badI (decText z)).map .str)] ++ X6 ++ X7))
  rw [Sx_app] at e8
  obtain ⟨R2, hR2⟩ : ∃ R2, R2 = R ++ X1 ++ X3 ++ [MO.lst ((badI (decText z)).map .str)] ++ X6 ++ X7 ++ X8 := ⟨_, rfl⟩
  rw [← hR2] at e8
  have e9 := pB9 (ns := ns) (x0 := x0) (x2 := x2) (x3 := some (.int z)) (x4 := some (.str (txt d))) (x5 := some (.ref ((R ++ X1 ++ X3).length + 2))) (x6 := some d) (x7 := x7) (R := R2) (a := a6)
  have eA := pBA (ns := ns) (x0 := x0) (x2 := x2) (x3 := some (.int z)) (x6 := some d) (x7 := x7) (R := R2) (a := a6) (txt d) (by omega)
  obtain ⟨aB, XB, eB, sB⟩ := pBB (ns := ns) (x0 := x0) (x2 := x2) (x3 := some (.int z)) (x4 := some (.str (txt d))) (x6 := some d) (x7 := x7) (R := R2 ++ [MO.lst (badF.map .str)] ++ [MO.lst ((badT (txt d)).map .str)]) s6 (by omega) d hd hl
  refine ⟨some (.int z), some (.str (txt d)), some (.ref ((R2 ++ [MO.lst (badF.map .str)] ++ [MO.lst ((badT (txt d)).map .str)]).length + 2)), some d, aB, X1 ++ (X3 ++ ([MO.lst ((badI (decText z)).map .str)] ++ (X6 ++ (X7 ++ (X8 ++ ([MO.lst (badF.map .str)] ++ ([MO.lst ((badT (txt d)).map .str)] ++ ([MO.lst ((badF ++ badT (txt d)).map .str)] ++ XB)))))))), ?_, sB.mono (by omega)⟩
  rw [seq_next e1, seq_next e2, seq_next e3, seq_next e4, seq_next e5, seq_next e6, seq_next e7, seq_next e8, seq_next e9, seq_next eA, seq_next eB, ex_skip]
  rw [hR2]
  simp only [List.append_assoc]
end
theorem law_true' (ns : List Int) : ∃ T, callF D G 201 17 [.frz (ns.map PV.int)] [] = .ok (.bl true) T := by
  have h6 : K 6 [.frz (ns.map PV.int)] [] = .ok (.ref 1) (Sx ns (stO 0 0 0) []) := rfl
  have e1 : exS K G (.asg (.nm 1) (.call 6 (.cons (.var 0) .nil))) [some (.frz (ns.map PV.int)), none, none, none, none, none, none, none] [] = .ok (.next [some (.frz (ns.map PV.int)), some (.ref 1), none, none, none, none, none, none]) (Sx ns (stO 0 0 0) []) := asg1 (call1 (vr rfl) h6)
  have hst : St 0 (stO 0 0 0) := ⟨0, 0, 0, rfl, by omega, by omega, by omega, by omega⟩
  have hl : ∀ (j n i m : Nat) (a : MO) (R : Store) (x2 x3 x4 x5 x6 : Option PV), i + j = 4 → j + 1 ≤ n → St m a → m + j * 400000 < 3000000 → ∃ (y2 y3 y4 y5 y6 : Option PV) (a' : MO) (X : Store), iterL (.range 0 1 4) (.nm 2) (exS K G BODY) n i [some (.frz (ns.map PV.int)), some (.ref 1), x2, x3, x4, x5, x6, none] (Sx ns a R) = .ok (.next [some (.frz (ns.map PV.int)), some (.ref 1), y2, y3, y4, y5, y6, none]) (Sx ns a' (R ++ X)) := by
    have hb := fun (m : Nat) (a : MO) (R : Store) (x2 x3 x4 x5 x6 : Option PV) (h : St m a) (hm : m < 4000000) => pBody (ns := ns) (x0 := some (.frz (ns.map PV.int))) (x2 := x2) (x3 := x3) (x4 := x4) (x5 := x5) (x6 := x6) (x7 := none) (R := R) h hm
    generalize exS K G BODY = b at *
    intro j
    induction j with
    | zero =>
      intro n i m a R x2 x3 x4 x5 x6 hi hn hs hm
      obtain ⟨n, rfl⟩ : ∃ q, n = q + 1 := ⟨n - 1, by omega⟩
      refine ⟨x2, x3, x4, x5, x6, a, [], ?_⟩
      rw [iterL_end, List.append_nil]
      show some (if i < 4 then some (PV.int (0 + i * 1)) else none) = some none
      rw [if_neg (by omega)]
    | succ j ih =>
      intro n i m a R x2 x3 x4 x5 x6 hi hn hs hm
      obtain ⟨n, rfl⟩ : ∃ q, n = q + 1 := ⟨n - 1, by omega⟩
      obtain ⟨y3, y4, y5, y6, a', X, e, s⟩ := hb m a R (some (.int (0 + i * 1))) x3 x4 x5 x6 hs (by omega)
      obtain ⟨z2, z3, z4, z5, z6, a2, X2, e2⟩ := ih n (i + 1) (m + 400000) a' (R ++ X) (some (.int (0 + i * 1))) y3 y4 y5 y6 (by omega) (by omega) s (by omega)
      refine ⟨z2, z3, z4, z5, z6, a2, X ++ X2, ?_⟩
      have hat : (Wk.range 0 1 4).at i (Sx ns a R) = some (some (.int (0 + i * 1))) := by
        show some (if i < 4 then some (PV.int (0 + i * 1)) else none) = _
        rw [if_pos (by omega)]
      rw [iterL_next (σ := [some (.frz (ns.map PV.int)), some (.ref 1), x2, x3, x4, x5, x6, none]) hat e, ← List.append_assoc]
      exact e2
  obtain ⟨y2, y3, y4, y5, y6, a', X, e2⟩ := hl 4 FU 0 0 (stO 0 0 0) [] none none none none none (by omega) (by show 5 ≤ 1099511627776; omega) hst (by omega)
  have e2 := (loopO_some (σ := [some (.frz (ns.map PV.int)), some (.ref 1), none, none, none, none, none, none]) (T := Sx ns (stO 0 0 0) []) (.range 0 1 4) (.nm 2) (exS K G BODY)).trans e2
  have ea : ev K G (.cons (.lit (.int 4)) .nil) [some (.frz (ns.map PV.int)), some (.ref 1), none, none, none, none, none, none] (Sx ns (stO 0 0 0) []) = .ok (.tup [.int 4]) (Sx ns (stO 0 0 0) []) := rfl
  have e3 := loop_is ea (walk_r 4 (by omega)) e2
  clear hl
  generalize Sx ns a' ([] ++ X) = T3 at *
  have h40 := nest_gd 40 0 (.int 7) (.int _ _ (by decide))
  have h41 := nest_gd 41 0 (.int 7) (.int _ _ (by decide))
  rw [Nat.zero_add] at h40 h41
  have t40 : (txt (nest 40 (.int 7))).length = 81 := by rw [nest_txt, txt7]; simp
  have t41 : (txt (nest 41 (.int 7))).length = 83 := by rw [nest_txt, txt7]; simp
  have f40 := r15 (k := 199) 40 (by omega) T3
  obtain ⟨d, hd⟩ : ∃ d, d = nest 40 (.int 7) := ⟨_, rfl⟩
  rw [← hd] at f40 h40 t40
  have e4 : exS K G (.asg (.nm 7) (.call 15 (.cons (.lit (.int 7)) (.cons (.lit (.int 40)) .nil)))) [some (.frz (ns.map PV.int)), some (.ref 1), y2, y3, y4, y5, y6, none] T3 = .ok (.next [some (.frz (ns.map PV.int)), some (.ref 1), y2, y3, y4, y5, y6, some d]) T3 := asg1 (call2 (ev_lit _) (ev_lit _) f40)
  obtain ⟨X1, g1⟩ := r2 40 d h40 (by omega) 157 T3
  obtain ⟨X2, g2⟩ := r5 (k := 197) (txt d) (T3 ++ X1) (by omega) _ (by omega) _ (parse_ok h40 (by omega))
  have g2 : K 5 [.str (txt d)] (T3 ++ X1) = .ok d (T3 ++ X1 ++ X2) := g2
  obtain ⟨X3, g3⟩ := r10 40 d h40 157 (T3 ++ X1 ++ X2)
  have e5 : exS K G (.ite (.not (.call 10 (.cons (.call 5 (.cons (.call 2 (.cons (.var 7) .nil)) .nil)) (.cons (.var 7) .nil)))) (.seq (.ret (.lit (.bl false))) .skip) .skip) [some (.frz (ns.map PV.int)), some (.ref 1), y2, y3, y4, y5, y6, some d] T3 = .ok (.next [some (.frz (ns.map PV.int)), some (.ref 1), y2, y3, y4, y5, y6, some d]) (T3 ++ X1 ++ X2 ++ X3) :=
    if_not (call2 (call1 (call1 (vr h40.nx) g1) g2) (vr h40.nx) g3)
  generalize T3 ++ X1 ++ X2 ++ X3 = T4 at *
  have f41 := r15 (k := 199) 41 (by omega) T4
  obtain ⟨X5, g5⟩ := r14 41 (nest 41 (.int 7)) h41 (by omega) 156 T4
  obtain ⟨r, p1, p2⟩ := chk_ok deep_bad
  have hte : txt (nest 41 (.int 7)) = List.replicate 41 40 ++ ([55] ++ List.replicate 41 41) := by rw [nest_txt, txt7]
  rw [← hte] at p1
  obtain ⟨X6, g6⟩ := r5 (k := 196) (txt (nest 41 (.int 7))) (T4 ++ X5) (by omega) 100 (by omega) r p1
  rw [p2] at g6
  have g7 := r16d (k := 199) _ _ _ g6
  obtain ⟨d2, hd2⟩ : ∃ d2, d2 = nest 41 (.int 7) := ⟨_, rfl⟩
  rw [← hd2] at f41 g5 g7
  refine ⟨T4 ++ X5 ++ X6, ?_⟩
  rw [u17, t17_eq, seq_next e1, seq_next e3, seq_next e4, seq_next e5, seq_ret (v := .bl true) (T1 := T4 ++ X5 ++ X6), ofB_ret]
  have e6 : ev K G (.call 16 (.cons (.lit (.str [100, 97, 116, 97])) (.cons (.call 14 (.cons (.call 15 (.cons (.lit (.int 7)) (.cons (.lit (.int 41)) .nil))) .nil)) .nil))) [some (.frz (ns.map PV.int)), some (.ref 1), y2, y3, y4, y5, y6, some d] T4 = .ok (.bl true) (T4 ++ X5 ++ X6) := call2 (ev_lit _) (call1 (call2 (ev_lit _) (ev_lit _) f41) g5) g7
  rw [ex_ret, e6, bindS_ok]
end MP.K00

set_option Elab.async false
open PySem PySem.W PyProof.Rows
set_option maxRecDepth 100000 in
set_option maxHeartbeats 0 in
theorem PySem.Challenge.cw_pactlink_k00_integers_and_data_holds : PySem.Challenge.rw_pactlink_k00_integers_and_data.Holds := by
  w_on; o_law; k_head; (case hw => w_witness2)
  k_fill
  refine MP.walk_mp (l := PySem.Challenge.rw_pactlink_k00_integers_and_data) (n := 63) (k := 200) (i := 17) (x := "script") (st := MP.K00.s17) (N := MP.K00.N17) (cn := 60) (m := MP.K00.t17) (T := MP.K00.T) (D := MP.K00.D) (G := MP.K00.G) rfl (by decide) rfl ⟨rfl, by decide, by decide⟩ (fun w h Y => PySem.W.kIn_of Y) MP.K00.sc17 rfl MP.K00.c17 rfl ?F (fun ns _ _ => MP.K00.law_true' ns)
  case F =>
    intro w mg fa h XP KX G hmg
    refine' MP.K00.w_mk KX G hmg ?kc ?a0 ?l0 ?b0 ?k0 ?a1 ?l1 ?b1 ?k1 ?a2 ?l2 ?b2 ?k2 ?a3 ?l3 ?b3 ?k3 ?a4 ?l4 ?b4 ?k4 ?a5 ?l5 ?b5 ?k5 ?a6 ?l6 ?b6 ?k6 ?a7 ?l7 ?b7 ?k7 ?a8 ?l8 ?b8 ?k8 ?a9 ?l9 ?b9 ?k9 ?a10 ?l10 ?b10 ?k10 ?a11 ?l11 ?b11 ?k11 ?a12 ?l12 ?b12 ?k12 ?a13 ?l13 ?b13 ?k13 ?a14 ?l14 ?b14 ?k14 ?a15 ?l15 ?b15 ?k15 ?a16 ?l16 ?b16 ?k16 ?a17 ?l17 ?b17 ?k17 ?x0_0 ?x0_1 ?x0_2 ?x0_3 ?x0_4 ?x0_5 ?x0_6 ?x0_7 ?x0_8 ?x0_9 ?x0_10 ?x0_11 ?x0_12 ?x0_13 ?x1_0 ?x1_1 ?x1_2 ?x1_3 ?x1_4 ?x1_5 ?x1_6 ?x1_7 ?x1_8 ?x1_9 ?x1_10 ?x1_11 ?x1_12 ?x1_13 ?y1_0 ?y0_1 ?z0 ?z1 ?z2 ?z3 ?z4 ?z5 ?z6 ?z7 ?z8 ?z9 ?z10 ?z11 ?z12 ?z13 ?z14 ?z15
    case a0 => k_is
    case l0 => k_is
    case b0 => k_is
    case k0 => k_is
    case a1 => k_is
    case l1 => k_is
    case b1 => k_is
    case k1 => k_is
    case a2 => k_is
    case l2 => k_is
    case b2 => k_is
    case k2 => k_is
    case a3 => k_is
    case l3 => k_is
    case b3 => k_is
    case k3 => k_is
    case a4 => k_is
    case l4 => k_is
    case b4 => k_is
    case k4 => k_is
    case a5 => k_is
    case l5 => k_is
    case b5 => k_is
    case k5 => k_is
    case a6 => k_is
    case l6 => k_is
    case b6 => k_is
    case k6 => k_is
    case a7 => k_is
    case l7 => k_is
    case b7 => k_is
    case k7 => k_is
    case a8 => k_is
    case l8 => k_is
    case b8 => k_is
    case k8 => k_is
    case a9 => k_is
    case l9 => k_is
    case b9 => k_is
    case k9 => k_is
    case a10 => k_is
    case l10 => k_is
    case b10 => k_is
    case k10 => k_is
    case a11 => k_is
    case l11 => k_is
    case b11 => k_is
    case k11 => k_is
    case a12 => k_is
    case l12 => k_is
    case b12 => k_is
    case k12 => k_is
    case a13 => k_is
    case l13 => k_is
    case b13 => k_is
    case k13 => k_is
    case a14 => k_is
    case l14 => k_is
    case b14 => k_is
    case k14 => k_is
    case a15 => k_is
    case l15 => k_is
    case b15 => k_is
    case k15 => k_is
    case a16 => k_is
    case l16 => k_is
    case b16 => k_is
    case k16 => k_is
    case a17 => k_is
    case l17 => k_is
    case b17 => k_is
    case k17 => k_is
    case x0_0 => k_is
    case x0_1 => k_exc
    case x0_2 => k_is
    case x0_3 => k_is
    case x0_4 => k_is
    case x0_5 => k_is
    case x0_6 => first | rfl | k_is
    case x0_7 => k_is
    case x0_8 => k_is
    case x0_9 => k_is
    case x0_10 => k_is
    case x0_11 => k_is
    case x0_12 => k_is
    case x0_13 => k_is
    case x1_0 => k_is
    case x1_1 => k_exc
    case x1_2 => k_is
    case x1_3 => k_is
    case x1_4 => k_is
    case x1_5 => k_is
    case x1_6 => first | rfl | k_is
    case x1_7 => k_is
    case x1_8 => k_is
    case x1_9 => k_is
    case x1_10 => k_is
    case x1_11 => k_is
    case x1_12 => k_is
    case x1_13 => k_is
    case y1_0 => k_is
    case y0_1 => k_is
    case z0 => k_is
    case z1 => k_is
    case z2 => k_is
    case z3 => k_is
    case z4 => k_is
    case z5 => k_is
    case z6 => k_is
    case z7 => k_is
    case z8 => k_is
    case z9 => k_is
    case z10 => k_is
    case z11 => k_is
    case z12 => k_is
    case z13 => k_is
    case z14 => k_is
    case z15 => k_is
    case kc => exact MP.K00.kc_of XP KX G (by k_is) (by k_is) (by k_is)

