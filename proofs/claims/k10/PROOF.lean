import PyProof.Rows.All
import Wide.All
import OpenK.AllK
import Wide.FinOn
import HandS.ForMost
import HandS.ForExc
import HandS.Wide
import HandS.WideBits
import HandS.Flow
import HandS.Style
import HandS.TupAny
import HandS.TupMul
import HandS.StrMore
import HandS.StrSplit
import HandS.IsInst
import HandS.ExcIs
import HandS.TryOnly
import HandS.Deep
import HandS.DictComp
import HandS.SortInts
import HandS.TupLe
import HandS.RaiseMore
import HandS.Zip
import PyProof.StrWalks
import PyProof.EnumMake
import HandS.Codes
import HandS.Comp
import HandS.Exc
import KE.GoesComp
import PyProof.Rows.PlainStore
import HandS.TupSets
import HandS.SetFor
import HandS.Conv
import HandS.Small
import HandS.Words
import HandS.WordsExc
import HandS.Ends
import HandS.EndBits
import PySem.Challenge.RW_pactlink_k10_code
/-! M0: plain values, a store, a small tree of Python's expressions and statements, and what they do. No library in sight.
Lists and dicts that nobody writes are values (vl, vd); those that are written stand in the store. -/
namespace MP

/-- a dict's key -/
inductive PK where
  | i (k : Int)
  | s (x : List Nat)
  deriving DecidableEq

inductive PV where
  | non
  | bl (b : Bool)
  | int (i : Int)
  | str (s : List Nat)
  | tup (xs : List PV)
  | frz (xs : List PV)
  | vl (xs : List PV)
  | vd (ks : List PK) (vs : List PV)
  | ref (n : Nat)
  | fn (f : Nat)
  | exc (c : Nat)

inductive MO where
  | lst (xs : List PV)
  | dct (ks : List PK) (vs : List PV)
  | obj (c : Nat) (fs : List Nat) (vs : List PV)

abbrev Store := List MO
abbrev Nv := List (Option PV)

/-- an expression's end -/
inductive Res (α : Type) where
  | ok (a : α) (S : Store)
  | exc (c : Nat) (S : Store)
  | bad

/-- a statement's end -/
inductive Out where
  | next (σ : Nv)
  | ret (v : PV)
  | brk (σ : Nv)
  | cont (σ : Nv)
  | exc (c : Nat) (σ : Nv)

inductive ResS where
  | ok (o : Out) (S : Store)
  | bad

/-- a mark that keeps simp out of what comes after -/
structure Mark {α : Type} (a : α) : Type where

def Res.bind {α β : Type} (r : Res α) (f : α → Store → Res β) (u : Mark f := ⟨⟩) : Res β := match r with
  | .ok a S => f a S
  | .exc c S => .exc c S
  | .bad => .bad
/-- an expression within a statement -/
def Res.bindS {α : Type} (r : Res α) (σ : Nv) (f : α → Store → ResS) (u : Mark f := ⟨⟩) : ResS := match r with
  | .ok a S => f a S
  | .exc c S => .ok (.exc c σ) S
  | .bad => .bad

theorem Res.bind_assoc {α β γ : Type} (r : Res α) (f : α → Store → Res β) (g : β → Store → Res γ) : (r.bind f).bind g = r.bind fun a T => (f a T).bind g := by cases r <;> rfl
theorem Res.bind_congr {α β : Type} (r : Res α) {f g : α → Store → Res β} (h : ∀ a T, f a T = g a T) : r.bind f = r.bind g := by
  have : f = g := funext fun a => funext fun T => h a T
  subst this
  rfl
/-- the greatest length of a text or list -/
def SZ : Nat := 16777216
/-- more than any loop's turns -/
def FU : Nat := 1099511627776

inductive BinO where
  | add | sub | mul | fdiv | mod | pow
  deriving DecidableEq
inductive CmpO where
  | eq | ne | lt | le | gt | ge | isin | notin | is | isnot
  deriving DecidableEq
inductive Tyq where
  | int | bool | str | tuple | list
  | cls (c : Nat)
  deriving DecidableEq
inductive Prim where
  | len | abs | int | str | ord | tuple | list | all | any | sum | divmod | max | min | sorted | dict
  deriving DecidableEq
inductive Mth where
  | append | extend | insert | pop | popAt | join | zfill | find | split | count | index | get | dget | values
  deriving DecidableEq
/-- what a loop walks -/
inductive ItK where
  | plain | range | enum | zip | items
  deriving DecidableEq
/-- targets -/
inductive Tgt where
  | nm (i : Nat)
  | tp (is : List Nat)
  deriving DecidableEq

/-- m: what is made anew stands in the store -/
inductive E where
  | lit (v : PV)
  | var (i : Nat)
  | glob (g : Nat)
  | nil
  | cons (e es : E)
  | tup (es : E)
  | list (m : Bool) (es : E)
  | dict (m : Bool)
  | bin (m : Bool) (o : BinO) (a b : E)
  | neg (a : E)
  | not (a : E)
  | and (a b : E)
  | or (a b : E)
  | ite (c a b : E)
  | cmp (o : CmpO) (a b : E)
  | chain (o p : CmpO) (a b c : E)
  | idx (a i : E)
  | slice (m : Bool) (a lo hi : E) (pl ph : Bool)
  | rev (m : Bool) (a : E)
  | isinst (a : E) (t : Tyq)
  | isexc (i : Nat) (cs ps : List Nat)
  | prim (m : Bool) (p : Prim) (es : E)
  | lenset (a : E)
  | lrng (m tu : Bool) (a b : E)
  | meth (m : Bool) (k : Mth) (a es : E)
  | call (f : Nat) (es : E)
  | callv (i : Nat) (es : E)
  | comp (m x : Bool) (tg : Tgt) (own : List Nat) (k : ItK) (it c e : E)
  | comp2 (m : Bool) (tg : Tgt) (own : List Nat) (k : ItK) (it c : E) (tg2 : Tgt) (k2 : ItK) (it2 c2 e : E)
  | dcomp (m : Bool) (tg : Tgt) (own : List Nat) (k : ItK) (it c ek ev : E)
  | kidx (g : Nat) (e : E)
  | kin (g : Nat) (b : Bool) (e : E)
  | kget (g : Nat) (e d : E)
  | fld (a : E) (f : Nat)
  | mcall (c f : Nat) (a es : E)
  | new (c f : Nat) (es : E)
  | bad

inductive S where
  | skip
  | seq (a b : S)
  | exp (e : E)
  | asg (tg : Tgt) (e : E)
  | par (i j : Nat) (es : E)
  | aug (i : Nat) (o : BinO) (e : E)
  | setix (a i e : E)
  | setfld (a : E) (f : Nat) (e : E)
  | augfld (a : E) (f : Nat) (o : BinO) (e : E)
  | ite (c : E) (a b : S)
  | whl (c : E) (b : S)
  | loop (tg : Tgt) (k : ItK) (it : E) (b : S)
  | ret (e : E)
  | brk
  | cont
  | raise (c : Nat)
  | tryx (b : S) (cs ps : List Nat) (x : Option Nat) (h : S)
  | bad

/-! ### values -/
/-- a slice's end: a part that is left out (b false), an int -/
def clipI (n d : Nat) (b : Bool) (x : PV) : Option Nat := if b then match x with
  | .int v => some (if v < 0 then (v + n).toNat else min v.toNat n)
  | _ => none else some d
def partOk (b : Bool) (x : PV) : Bool := if b then match x with
  | .int _ => true
  | _ => false else true
def cut {α : Type} (xs : List α) (lo hi : Nat) : List α := (xs.drop lo).take (hi - lo)
def normI (n : Nat) (i : Int) : Option Nat := if 0 ≤ i then (if i < n then some i.toNat else none) else if -(n : Int) ≤ i then some (i + n).toNat else none

mutual
/-- == of plain data; lists as values too -/
def peq : PV → PV → Bool
  | .non, .non => true
  | .bl a, .bl b => a == b
  | .bl a, .int j => (if a then 1 else 0) == j
  | .int i, .bl b => i == (if b then 1 else 0)
  | .int i, .int j => i == j
  | .str x, .str y => x == y
  | .tup xs, .tup ys => peqs xs ys
  | .vl xs, .vl ys => peqs xs ys
  | _, _ => false
def peqs : List PV → List PV → Bool
  | [], [] => true
  | x :: xs, y :: ys => peq x y && peqs xs ys
  | _, _ => false
end
mutual
/-- plain data of depth at most n, with plain texts -/
def plainD : Nat → PV → Bool
  | _, .non => true
  | _, .bl _ => true
  | _, .int _ => true
  | _, .str s => s.all fun c => decide (c < 1114112)
  | n, .tup xs => match n with
    | 0 => false
    | m + 1 => plainDs m xs
  | n, .vl xs => match n with
    | 0 => false
    | m + 1 => plainDs m xs
  | _, _ => false
def plainDs : Nat → List PV → Bool
  | _, [] => true
  | n, x :: xs => plainD n x && plainDs n xs
end
def flat : PV → Bool
  | .non => true
  | .bl _ => true
  | .int _ => true
  | .str _ => true
  | _ => false
mutual
/-- the same -/
def same : PV → PV → Bool
  | .non, .non => true
  | .bl a, .bl b => a == b
  | .int i, .int j => i == j
  | .str x, .str y => x == y
  | .tup xs, .tup ys => sames xs ys
  | .frz xs, .frz ys => sames xs ys
  | .vl xs, .vl ys => sames xs ys
  | .vd ks xs, .vd js ys => decide (ks = js) && sames xs ys
  | .ref n, .ref m => n == m
  | .fn n, .fn m => n == m
  | .exc n, .exc m => n == m
  | _, _ => false
def sames : List PV → List PV → Bool
  | [], [] => true
  | x :: xs, y :: ys => same x y && sames xs ys
  | _, _ => false
end
def sameO : MO → MO → Bool
  | .lst xs, .lst ys => sames xs ys
  | .dct ks xs, .dct js ys => decide (ks = js) && sames xs ys
  | .obj c fs xs, .obj d gs ys => c == d && decide (fs = gs) && sames xs ys
  | _, _ => false
mutual
/-- no thing of the store from n on -/
def low (n : Nat) : PV → Bool
  | .ref m => decide (m < n)
  | .tup xs => lows n xs
  | .frz xs => lows n xs
  | .vl xs => lows n xs
  | .vd _ xs => lows n xs
  | .exc _ => false
  | _ => true
def lows (n : Nat) : List PV → Bool
  | [] => true
  | x :: xs => low n x && lows n xs
end
def lowO (n : Nat) : MO → Bool
  | .lst xs => lows n xs
  | .dct _ xs => lows n xs
  | .obj _ _ xs => lows n xs
/-- the first things of a store, as they were, or without things from n on -/
def lowS (n : Nat) : Store → Store → Bool
  | [], _ => true
  | _ :: _, [] => false
  | a :: T, b :: T' => (sameO a b || lowO n b) && lowS n T T'

/-- the items of what may be read item by item -/
def lstOf (S : Store) (n : Nat) : Option (List PV) := match S[n]? with
  | some (.lst xs) => some xs
  | _ => none
def items (S : Store) : PV → Option (List PV)
  | .tup xs => some xs
  | .frz xs => some xs
  | .vl xs => some xs
  | .ref n => lstOf S n
  | _ => none
def listOf (S : Store) : PV → Option (List PV)
  | .vl xs => some xs
  | .ref n => lstOf S n
  | _ => none
def dctOf (S : Store) (n : Nat) : Option (List PK × List PV) := match S[n]? with
  | some (.dct ks vs) => some (ks, vs)
  | _ => none
def dictOf (S : Store) : PV → Option (List PK × List PV)
  | .vd ks vs => some (ks, vs)
  | .ref n => dctOf S n
  | _ => none
def objOf (S : Store) (n : Nat) : Option (Nat × List Nat × List PV) := match S[n]? with
  | some (.obj c fs vs) => some (c, fs, vs)
  | _ => none

def allocM (o : MO) (S : Store) : Res PV := .ok (.ref S.length) (S ++ [o])
/-- a new list -/
def newL (m : Bool) (xs : List PV) (S : Store) : Res PV := if m then allocM (.lst xs) S else .ok (.vl xs) S
def newD (m : Bool) (ks : List PK) (xs : List PV) (S : Store) : Res PV := if m then allocM (.dct ks xs) S else .ok (.vd ks xs) S

def truthM (S : Store) : PV → Option Bool
  | .non => some false
  | .bl b => some b
  | .int i => some (i != 0)
  | .str s => if s.length ≤ SZ then some (!s.isEmpty) else none
  | .tup xs => some (!xs.isEmpty)
  | .vl xs => some (!xs.isEmpty)
  | .ref n => (lstOf S n).map fun xs => !xs.isEmpty
  | _ => none

/-- exceptions are not served -/
def Res.noX {α : Type} (r : Res α) : Res α := match r with
  | .exc _ _ => .bad
  | r => r
/-- exceptions are served where x -/
def Res.outX {α : Type} (x : Bool) (r : Res α) : Res α := if x then r else r.noX
def ofOpt {α : Type} (o : Option α) (S : Store) : Res α := match o with
  | some a => .ok a S
  | none => .bad

theorem ofBl (o : Option Bool) (T : Store) : ((ofOpt o T).bind fun t T3 => Res.ok (PV.bl t) T3).bind (fun x T1 => ofOpt (truthM T1 x) T1) = ofOpt o T := by cases o <;> rfl
def decText (i : Int) : List Nat := (toString i).toList.map Char.toNat
def digitsVal (s : List Nat) : Nat := s.foldl (fun n c => n * 10 + (c - 48)) 0
def isDig (c : Nat) : Bool := decide (48 ≤ c) && decide (c ≤ 57)

/-! ### dicts -/
def keyOf : PV → Option PK
  | .int i => some (.i i)
  | .str s => some (.s s)
  | _ => none
def pvK : PK → PV
  | .i k => .int k
  | .s x => .str x
def kGet : List PK → List PV → PK → Option PV
  | k :: ks, v :: vs, j => if k = j then some v else kGet ks vs j
  | _, _, _ => none
def kRep : List PK → List PV → PK → PV → List PV
  | k :: ks, v :: vs, j, y => (if k = j then y else v) :: kRep ks vs j y
  | _, _, _, _ => []
/-- in its place, or at the end -/
def kPut (ks : List PK) (vs : List PV) (j : PK) (y : PV) : List PK × List PV := if ks.any (fun k => decide (k = j)) then (ks, kRep ks vs j y) else (ks ++ [j], vs ++ [y])

def binOp (m : Bool) (o : BinO) (x y : PV) (S : Store) : Res PV := match o, x, y with
  | .add, .int a, .int b => .ok (.int (a + b)) S
  | .add, .str a, .str b => if a.length + b.length ≤ SZ then .ok (.str (a ++ b)) S else .bad
  | .add, .tup a, .tup b => if a.length + b.length ≤ SZ then .ok (.tup (a ++ b)) S else .bad
  | .sub, .int a, .int b => .ok (.int (a - b)) S
  | .mul, .int a, .int b => if a.natAbs.log2 + b.natAbs.log2 < 1000000 then .ok (.int (a * b)) S else .bad
  | .mul, .str a, .int b => if 0 ≤ b ∧ b < 1000 ∧ a.length < 1000 then .ok (.str (List.replicate b.toNat a).flatten) S else .bad
  | .mul, .tup a, .int b => if 0 ≤ b ∧ b ≤ 1000 ∧ a.length ≤ 1000 ∧ a ≠ [] then .ok (.tup (List.replicate b.toNat a).flatten) S else .bad
  | .fdiv, .int a, .int b => if 0 < b ∧ b.natAbs.log2 < 9000 then .ok (.int (a / b)) S else .bad
  | .mod, .int a, .int b => if 0 < b then .ok (.int (a % b)) S else .bad
  | .pow, .int a, .int b => if 0 ≤ b ∧ b ≤ 1000000 ∧ a.natAbs < 18446744073709551616 then .ok (.int (a ^ b.toNat)) S else .bad
  | .add, x, y => match listOf S x, listOf S y with
    | some xs, some ys => if xs.length + ys.length ≤ SZ then newL m (xs ++ ys) S else .bad
    | _, _ => .bad
  | .mul, x, .int b => match listOf S x with
    | some xs => if 0 ≤ b ∧ b ≤ 1000000 ∧ xs.length * b.toNat ≤ SZ then newL m (List.replicate b.toNat xs).flatten S else .bad
    | _ => .bad
  | _, _, _ => .bad

/-- x[k] = v -/
def setOp (x k v : PV) (T : Store) : Option Store := match x with
  | .ref n => match T[n]?, k with
    | some (.lst xs), .int i => (normI xs.length i).map fun j => T.set n (.lst (xs.set j v))
    | some (.dct ks vs), k => (keyOf k).bind fun q => if vs.length < SZ then let r := kPut ks vs q v; some (T.set n (.dct r.1 r.2)) else none
    | _, _ => none
  | _ => none
/-- o= in place -/
def augOp (o : BinO) (x y : PV) : Option PV := match o, x, y with
  | .add, .int a, .int b => some (.int (a + b))
  | .sub, .int a, .int b => some (.int (a - b))
  | .add, .str a, .str b => if a.length + b.length ≤ SZ then some (.str (a ++ b)) else none
  | _, _, _ => none
def isNonV : PV → Bool
  | .non => true
  | _ => false
/-- y in x -/
def inSeq (v : PV) : List PV → Bool
  | [] => false
  | x :: xs => peq x v || inSeq v xs
/-- y in x, where it is served -/
def inOp (v : PV) (xs : List PV) : Option Bool := if flat v && xs.all flat then some (inSeq v xs) else if plainD 60 v && plainDs 59 xs then some (inSeq v xs) else none
/-- a list of the store as a value -/
def shal (S : Store) (x : PV) : PV := match x with
  | .ref n => match lstOf S n with
    | some xs => .vl xs
    | none => x
  | x => x
def eqOp (S : Store) (x y : PV) : Option Bool := if flat x && flat y then some (peq x y) else if plainD 60 (shal S x) && plainD 60 (shal S y) then some (peq (shal S x) (shal S y)) else none
def inAny (S : Store) (v x : PV) : Option Bool := match x with
  | .str z => match v with
    | .str [c] => some (decide (c ∈ z))
    | _ => none
  | .vd ks vs => (keyOf v).map fun q => (kGet ks vs q).isSome
  | .ref n => match S[n]? with
    | some (.lst xs) => if flat v && xs.all flat then some (inSeq v xs) else none
    | some (.dct ks vs) => (keyOf v).map fun q => (kGet ks vs q).isSome
    | _ => none
  | .vl xs => inOp v xs
  | .tup xs => inOp v xs
  | _ => none
def cmpOp (o : CmpO) (x y : PV) (S : Store) : Option Bool := match o with
  | .is => match x, y with
    | .bl a, .bl b => some (a == b)
    | v, .non => some (isNonV v)
    | _, _ => none
  | .isnot => match x, y with
    | .bl a, .bl b => some (a != b)
    | v, .non => some (!isNonV v)
    | _, _ => none
  | .lt => match x, y with
    | .int a, .int b => some (decide (a < b))
    | .str a, .str b => some (decide (a < b))
    | _, _ => none
  | .le => match x, y with
    | .int a, .int b => some (decide (a ≤ b))
    | .str a, .str b => some (!decide (b < a))
    | _, _ => none
  | .gt => match x, y with
    | .int a, .int b => some (decide (b < a))
    | .str a, .str b => some (decide (b < a))
    | _, _ => none
  | .ge => match x, y with
    | .int a, .int b => some (decide (b ≤ a))
    | .str a, .str b => some (!decide (a < b))
    | _, _ => none
  | .eq => eqOp S x y
  | .ne => (eqOp S x y).map fun b => !b
  | .isin => inAny S x y
  | .notin => (inAny S x y).map fun b => !b

def idxOp (x i : PV) (S : Store) : Option PV := match x with
  | .str s => match i with
    | .int k => if s.length ≤ SZ then (normI s.length k).bind fun j => (s[j]?).map fun c => .str [c] else none
    | _ => none
  | .vd ks vs => (keyOf i).bind fun q => kGet ks vs q
  | x => match dictOf S x with
    | some (ks, vs) => (keyOf i).bind fun q => kGet ks vs q
    | none => match i with
      | .int k => (items S x).bind fun xs => (normI xs.length k).bind fun j => xs[j]?
      | _ => none
def sliceOp (m : Bool) (pl ph : Bool) (x lo hi : PV) (S : Store) : Res PV := match x with
  | .str s => match clipI s.length 0 pl lo, clipI s.length s.length ph hi with
    | some a, some b => if s.length ≤ SZ then .ok (.str (cut s a b)) S else .bad
    | _, _ => .bad
  | .tup xs => match clipI xs.length 0 pl lo, clipI xs.length xs.length ph hi with
    | some a, some b => .ok (.tup (cut xs a b)) S
    | _, _ => .bad
  | x => match listOf S x with
    | some xs => match clipI xs.length 0 pl lo, clipI xs.length xs.length ph hi with
      | some a, some b => newL m (cut xs a b) S
      | _, _ => .bad
    | none => .bad
def revOp (m : Bool) (x : PV) (S : Store) : Res PV := match x with
  | .tup xs => .ok (.tup xs.reverse) S
  | x => match listOf S x with
    | some xs => newL m xs.reverse S
    | none => .bad

def isInst : PV → Tyq → Option Bool
  | .non, .cls _ => none
  | .non, _ => some false
  | .bl _, .int => some true
  | .bl _, .bool => some true
  | .bl _, .str => some false
  | .bl _, .tuple => some false
  | .bl _, .list => some false
  | .int _, .int => some true
  | .int _, .bool => some false
  | .int _, .str => some false
  | .int _, .tuple => some false
  | .int _, .list => some false
  | .str _, .str => some true
  | .str _, .int => some false
  | .str _, .bool => some false
  | .str _, .tuple => some false
  | .str _, .list => some false
  | .tup _, .tuple => some true
  | .tup _, .int => some false
  | .tup _, .bool => some false
  | .tup _, .str => some false
  | .tup _, .list => some false
  | _, _ => none

/-- all texts, joined -/
def strsOf : List PV → Option (List (List Nat))
  | [] => some []
  | .str s :: r => (strsOf r).map (s :: ·)
  | _ => none
def joinT (sep : List Nat) : List (List Nat) → List Nat
  | [] => []
  | [x] => x
  | x :: y :: r => x ++ sep ++ joinT sep (y :: r)
def boolsOf : List PV → Option (List Bool)
  | [] => some []
  | .bl b :: r => (boolsOf r).map (b :: ·)
  | _ => none
def intsOf : List PV → Option (List Int)
  | [] => some []
  | .int i :: r => (intsOf r).map (i :: ·)
  | _ => none
def keysS : List PK → Option (List (List Nat))
  | [] => some []
  | .s x :: r => (keysS r).map (x :: ·)
  | _ => none
/-- texts in order -/
def insT (x : List Nat) : List (List Nat) → List (List Nat)
  | [] => [x]
  | y :: r => if y < x then y :: insT x r else x :: y :: r
def sortT : List (List Nat) → List (List Nat)
  | [] => []
  | x :: r => insT x (sortT r)
def insI (x : Int) : List Int → List Int
  | [] => [x]
  | y :: r => if y < x then y :: insI x r else x :: y :: r
def sortI : List Int → List Int
  | [] => []
  | x :: r => insI x (sortI r)

/-- the greatest, the least -/
def maxL : List Int → Option Int
  | [] => none
  | [x] => some x
  | x :: r => (maxL r).map fun y => if y < x then x else y
def minL : List Int → Option Int
  | [] => none
  | [x] => some x
  | x :: r => (minL r).map fun y => if x < y then x else y
def sortedOp (m : Bool) (v : PV) (S : Store) : Res PV := match dictOf S v with
  | some (ks, _) => match keysS ks with
    | some xs => if xs.length < 64 then newL m ((sortT xs).map PV.str) S else .bad
    | none => .bad
  | none => match listOf S v with
    | some ys => match strsOf ys with
      | some xs => if xs.length < 64 then newL m ((sortT xs).map PV.str) S else .bad
      | none => match intsOf ys with
        | some xs => newL m ((sortI xs).map PV.int) S
        | none => .bad
    | none => .bad

def primOp (m : Bool) (p : Prim) (vs : List PV) (S : Store) : Res PV := match p with
  | .len => match vs with
    | [.str s] => if s.length ≤ SZ then .ok (.int s.length) S else .bad
    | [v] => match items S v with
      | some xs => .ok (.int xs.length) S
      | none => match dictOf S v with
        | some (_, xs) => .ok (.int xs.length) S
        | none => .bad
    | _ => .bad
  | .abs => match vs with
    | [.int i] => .ok (.int (if i < 0 then -i else i)) S
    | _ => .bad
  | .int => match vs with
    | [.int i] => .ok (.int i) S
    | [.bl b] => .ok (.int (if b then 1 else 0)) S
    | [.str s] => if s ≠ [] ∧ s.length ≤ 640 ∧ s.all isDig = true then .ok (.int (digitsVal s)) S else .bad
    | _ => .bad
  | .str => match vs with
    | [.int i] => if i.natAbs.log2 < 1920 then .ok (.str (decText i)) S else .bad
    | [.str s] => .ok (.str s) S
    | _ => .bad
  | .ord => match vs with
    | [.str [c]] => .ok (.int c) S
    | _ => .bad
  | .tuple => match vs with
    | [v] => match items S v with
      | some xs => .ok (.tup xs) S
      | none => .bad
    | _ => .bad
  | .list => match vs with
    | [v] => match items S v with
      | some xs => newL m xs S
      | none => match v with
        | .str s => if s.length ≤ SZ then newL m (s.map fun c => PV.str [c]) S else .bad
        | _ => .bad
    | _ => .bad
  | .all => match vs with
    | [v] => match (listOf S v).bind boolsOf with
      | some bs => .ok (.bl (bs.all id)) S
      | none => .bad
    | _ => .bad
  | .any => match vs with
    | [v] => match (listOf S v).bind boolsOf with
      | some bs => .ok (.bl (bs.any id)) S
      | none => .bad
    | _ => .bad
  | .sum => match vs with
    | [v] => match (listOf S v).bind intsOf with
      | some ns => .ok (.int ns.sum) S
      | none => .bad
    | _ => .bad
  | .divmod => match vs with
    | [.int a, .int b] => if 0 < b ∧ a.natAbs.log2 < 4000 then .ok (.tup [.int (a / b), .int (a % b)]) S else .bad
    | _ => .bad
  | .max => match vs with
    | [.int a, .int b] => .ok (.int (if b > a then b else a)) S
    | [v] => match ((listOf S v).bind intsOf).bind maxL with
      | some z => .ok (.int z) S
      | none => .bad
    | _ => .bad
  | .min => match vs with
    | [.int a, .int b] => .ok (.int (if b < a then b else a)) S
    | [v] => match ((listOf S v).bind intsOf).bind minL with
      | some z => .ok (.int z) S
      | none => .bad
    | _ => .bad
  | .sorted => match vs with
    | [v] => sortedOp m v S
    | _ => .bad
  | .dict => match vs with
    | [v] => match dictOf S v with
      | some (ks, xs) => newD m ks xs S
      | none => .bad
    | _ => .bad

/-- the first place of one sign from k on -/
def findSign (c : Nat) : List Nat → Nat → Option Nat
  | [], _ => none
  | x :: r, k => if x = c then some k else findSign c r (k + 1)
def findI (c : Nat) (s : List Nat) (k : Int) : Int := match findSign c (s.drop k.toNat) k.toNat with
  | some j => j
  | none => -1
/-- split at one sign -/
def splitC (c : Nat) : List Nat → List (List Nat)
  | [] => [[]]
  | x :: r => if x = c then [] :: splitC c r else match splitC c r with
    | [] => [[x]]
    | y :: ys => (x :: y) :: ys
/-- the first place of an item -/
def placeOf (v : PV) : List PV → Nat → Option Nat
  | [], _ => none
  | x :: r, k => if peq x v then some k else placeOf v r (k + 1)
def countOf (v : PV) : List PV → Nat
  | [] => 0
  | x :: r => (if peq x v then 1 else 0) + countOf v r
def methOp (m : Bool) (k : Mth) (x : PV) (vs : List PV) (S : Store) : Res PV := match k with
  | .append => match x, vs with
    | .ref n, [v] => match lstOf S n with
      | some xs => if xs.length < SZ then .ok .non (S.set n (.lst (xs ++ [v]))) else .bad
      | none => .bad
    | _, _ => .bad
  | .extend => match x, vs with
    | .ref n, [.tup ys] => match lstOf S n with
      | some xs => if xs.length + ys.length ≤ SZ then .ok .non (S.set n (.lst (xs ++ ys))) else .bad
      | _ => .bad
    | .ref n, [v] => match lstOf S n, listOf S v with
      | some xs, some ys => if xs.length + ys.length ≤ SZ then .ok .non (S.set n (.lst (xs ++ ys))) else .bad
      | _, _ => .bad
    | _, _ => .bad
  | .insert => match x, vs with
    | .ref n, [.int i, v] => match lstOf S n with
      | some xs => if xs.length < SZ ∧ 0 ≤ i ∧ i < 4611686018427387904 then .ok .non (S.set n (.lst (xs.take i.toNat ++ [v] ++ xs.drop i.toNat))) else .bad
      | none => .bad
    | _, _ => .bad
  | .pop => match x, vs with
    | .ref n, [] => match lstOf S n with
      | some xs => match xs.getLast? with
        | some v => .ok v (S.set n (.lst xs.dropLast))
        | none => .bad
      | none => .bad
    | _, _ => .bad
  | .popAt => match x, vs with
    | .ref n, [.int i] => match lstOf S n with
      | some xs => if small62' i then match (normI xs.length i).bind fun j => (xs[j]?).map fun v => (j, v) with
        | some (j, v) => .ok v (S.set n (.lst (xs.eraseIdx j)))
        | none => .bad
        else .bad
      | none => .bad
    | _, _ => .bad
  | .join => match x, vs with
    | .str sep, [v] => match (items S v).bind strsOf with
      | some ss => if ((ss.map (·.length)).sum + ss.length * sep.length) ≤ SZ then .ok (.str (joinT sep ss)) S else .bad
      | none => .bad
    | _, _ => .bad
  | .zfill => match x, vs with
    | .str s, [.int 64] => match s with
      | c :: _ => if isDig c ∧ s.length ≤ SZ then .ok (.str (List.replicate (64 - s.length) 48 ++ s)) S else .bad
      | [] => .bad
    | _, _ => .bad
  | .find => match x, vs with
    | .str s, [.str [c], .int k] => if 0 ≤ k ∧ k < 4611686018427387904 ∧ s.length ≤ SZ then .ok (.int (findI c s k)) S else .bad
    | _, _ => .bad
  | .split => match x, vs with
    | .str s, [.str [c]] => if s.length + 2 ≤ SZ ∧ c < 256 then newL m ((splitC c s).map PV.str) S else .bad
    | _, _ => .bad
  | .count => .bad
  | .index => match listOf S x, vs with
    | some xs, [v] => if flat v && xs.all flat then match placeOf v xs 0 with
      | some j => .ok (.int j) S
      | none => .bad
      else .bad
    | _, _ => .bad
  | .get => match dictOf S x, vs with
    | some (ks, xs), [v] => match keyOf v with
      | some q => .ok ((kGet ks xs q).getD .non) S
      | none => .bad
    | _, _ => .bad
  | .dget => match dictOf S x, vs with
    | some (ks, xs), [v, d] => match keyOf v with
      | some q => .ok ((kGet ks xs q).getD d) S
      | none => .bad
    | _, _ => .bad
  | .values => .bad
where small62' (i : Int) : Bool := decide (-4611686018427387904 ≤ i) && decide (i < 4611686018427387904)

/-- what the method's object must be -/
def recvOk (S : Store) : Mth → PV → Bool
  | .append, .ref n => (lstOf S n).isSome
  | .extend, .ref n => (lstOf S n).isSome
  | .insert, .ref n => (lstOf S n).isSome
  | .pop, .ref n => (lstOf S n).isSome
  | .popAt, .ref n => (lstOf S n).isSome
  | .index, .ref n => (lstOf S n).isSome
  | .index, .vl _ => true
  | .join, .str _ => true
  | .zfill, .str _ => true
  | .find, .str _ => true
  | .split, .str _ => true
  | .get, v => (dictOf S v).isSome
  | .dget, v => (dictOf S v).isSome
  | _, _ => false

/-- ints, each once -/
def dedupI : List Int → List Int
  | [] => []
  | x :: r => if x ∈ r then dedupI r else x :: dedupI r
/-- len(set(x)) -/
def lensetOp (x : PV) (T : Store) : Res PV := match x with
  | .tup xs => match intsOf xs with
    | some ns => if ns.length < 64 then .ok (.int (dedupI ns).length) T else .bad
    | none => .bad
  | _ => .bad

/-- list(range(a, b)), tuple(range(a, b)) -/
def rgL (a b : Int) : List PV := (List.range (b - a).toNat).map fun i => PV.int (a + (i : Nat))
def rgB (a b : Int) : Bool := decide (-4611686018427387904 ≤ a) && decide (a < 4611686018427387904) && decide (-4611686018427387904 ≤ b) && decide (b < 4611686018427387904) && decide ((b - a).toNat ≤ 16777216)
def rgOp (m tu : Bool) (x y : PV) (T : Store) : Res PV := match x, y with
  | .int a, .int b => if rgB a b then (if tu then .ok (.tup (rgL a b)) T else newL m (rgL a b) T) else .bad
  | _, _ => .bad

/-! ### targets, loops -/
def bindNames : List Nat → List PV → Nv → Option Nv
  | [], [], σ => some σ
  | i :: is, v :: vs, σ => bindNames is vs (σ.set i (some v))
  | _, _, _ => none
def bindT (tg : Tgt) (v : PV) (σ : Nv) : Option Nv := match tg, v with
  | .nm i, v => some (σ.set i (some v))
  | .tp is, .tup xs => bindNames is xs σ
  | _, _ => none
def slotsT : Tgt → List Nat
  | .nm i => [i]
  | .tp is => is
def wipeE (σ : Nv) : List Nat → Nv
  | [] => σ
  | i :: r => (wipeE σ r).set i none

/-- what is walked: the item at turn i (none: the end), by the store -/
inductive Wk where
  | items (xs : List PV)
  | ref (n : Nat)
  | range (lo c : Int) (n : Nat)
  | enum (xs : List PV)
  | zip (xs ys : List PV)
def Wk.at (w : Wk) (i : Nat) (S : Store) : Option (Option PV) := match w with
  | .items xs => some xs[i]?
  | .ref n => (lstOf S n).map fun xs => xs[i]?
  | .range lo c n => some (if i < n then some (.int (lo + i * c)) else none)
  | .enum xs => some ((xs[i]?).map fun v => .tup [.int i, v])
  | .zip xs ys => match xs[i]?, ys[i]? with
    | some x, some y => some (some (.tup [x, y]))
    | _, _ => some none
def small62 (i : Int) : Bool := decide (-4611686018427387904 ≤ i) && decide (i < 4611686018427387904)
def walkPlain (S : Store) : List PV → Option Wk
  | [.tup xs] => some (.items xs)
  | [.vl xs] => some (.items xs)
  | [.ref n] => (lstOf S n).map fun _ => .ref n
  | [.str s] => some (.items (s.map fun c => .str [c]))
  | _ => none
def walkRange : List PV → Option Wk
  | [.int n] => if small62 n then some (.range 0 1 n.toNat) else none
  | [.int a, .int b] => if small62 a && small62 b then some (.range a 1 (b - a).toNat) else none
  | [.int a, .int b, .int c] => if 0 ≤ a ∧ a ≤ SZ ∧ 0 ≤ b ∧ b ≤ SZ ∧ 0 < c ∧ c < 1000 then some (.range a c (if a < b then (b - a - 1) / c + 1 else 0).toNat) else none
  | _ => none
def walkOf (S : Store) (k : ItK) (vs : List PV) : Option Wk := match k with
  | .plain => walkPlain S vs
  | .range => walkRange vs
  | .enum => match vs with
    | [.vl xs] => some (.enum xs)
    | _ => none
  | .zip => match vs with
    | [.vl xs, .vl ys] => some (.zip xs ys)
    | [.tup xs, .tup ys] => some (.zip xs ys)
    | _ => none
  | .items => none

def iterL (w : Wk) (tg : Tgt) (b : Nv → Store → ResS) : Nat → Nat → Nv → Store → ResS
  | 0, _, _, _ => .bad
  | n + 1, i, σ, T => match w.at i T with
    | none => .bad
    | some none => .ok (.next σ) T
    | some (some v) => match bindT tg v σ with
      | none => .bad
      | some σ1 => match b σ1 T with
        | .ok (.next σ2) T2 => iterL w tg b n (i + 1) σ2 T2
        | .ok (.cont σ2) T2 => iterL w tg b n (i + 1) σ2 T2
        | .ok (.brk σ2) T2 => .ok (.next σ2) T2
        | .ok (.ret v) T2 => .ok (.ret v) T2
        | .ok (.exc c σ2) T2 => .ok (.exc c σ2) T2
        | .bad => .bad
def whileL (c : Nv → Store → Res Bool) (b : Nv → Store → ResS) : Nat → Nv → Store → ResS
  | 0, _, _ => .bad
  | n + 1, σ, T => (c σ T).bindS σ fun t T1 =>
    if t then match b σ T1 with
      | .ok (.next σ2) T2 => whileL c b n σ2 T2
      | .ok (.cont σ2) T2 => whileL c b n σ2 T2
      | .ok (.brk σ2) T2 => .ok (.next σ2) T2
      | .ok (.ret v) T2 => .ok (.ret v) T2
      | .ok (.exc c σ2) T2 => .ok (.exc c σ2) T2
      | .bad => .bad
    else .ok (.next σ) T1
/-- a comprehension: from the place i on; f: what a turn adds -/
def compL {α : Type} (w : Wk) (tg : Tgt) (c : Nv → Store → Res Bool) (f : Nv → α → Store → Res α) (σ : Nv) : Nat → Nat → α → Store → Res α
  | 0, _, _, _ => .bad
  | n + 1, i, acc, T => match w.at i T with
    | none => .bad
    | some none => .ok acc T
    | some (some v) => match bindT tg v σ with
      | none => .bad
      | some σ1 => (c σ1 T).bind fun t T1 => if t then (f σ1 acc T1).bind fun acc1 T2 => compL w tg c f σ n (i + 1) acc1 T2 else compL w tg c f σ n (i + 1) acc T1

/-! ### expressions, statements, defs -/
/-- a slot's value; the exception that a handler holds is no value -/
def slotV : Option (Option PV) → Option PV
  | some (some (.exc _)) => none
  | some (some v) => some v
  | _ => none
/-- the slots without exceptions -/
def dropX (σ : Nv) : Nv := σ.map fun o => match o with
  | some (.exc _) => none
  | o => o
def asTup : PV → List PV
  | .tup xs => xs
  | _ => []
def addL (acc : List PV) (v : PV) (T : Store) : Res (List PV) := if acc.length < SZ then .ok (acc ++ [v]) T else .bad
def negOp (x : PV) (T : Store) : Res PV := match x with
  | .int i => .ok (.int (-i)) T
  | _ => .bad
/-- the fields of an object -/
def fldGet : List Nat → List PV → Nat → Option PV
  | k :: ks, v :: vs, j => if k = j then some v else fldGet ks vs j
  | _, _, _ => none
def fldPut : List Nat → List PV → Nat → PV → List Nat × List PV
  | k :: ks, v :: vs, j, y => if k = j then (k :: ks, y :: vs) else let r := fldPut ks vs j y; (k :: r.1, v :: r.2)
  | ks, vs, j, y => (ks ++ [j], vs ++ [y])
def fldOp (T : Store) (x : PV) (f : Nat) : Option PV := match x with
  | .ref n => (objOf T n).bind fun o => fldGet o.2.1 o.2.2 f
  | _ => none
def setF (x : PV) (f : Nat) (v : PV) (T : Store) : Option Store := match x with
  | .ref n => (objOf T n).bind fun o => if o.2.2.length < 900 then let r := fldPut o.2.1 o.2.2 f v; some (T.set n (.obj o.1 r.1 r.2)) else none
  | _ => none
def isObj (T : Store) (c : Nat) (x : PV) : Bool := match x with
  | .ref n => match objOf T n with
    | some o => o.1 == c
    | none => false
  | _ => false
/-- what a call of __init__ leaves -/
def initOk (v : PV) (r : Res PV) : Res PV := match r with
  | .ok .non T => .ok v T
  | .ok _ _ => .bad
  | .exc c T => .exc c T
  | .bad => .bad
section
variable (C : Nat → List PV → Store → Res PV) (G : Nat → Option PV)
def ev : E → Nv → Store → Res PV
  | .lit v, _, T => .ok v T
  | .var i, σ, T => ofOpt (slotV σ[i]?) T
  | .glob g, _, T => ofOpt (G g) T
  | .nil, _, T => .ok (.tup []) T
  | .cons e es, σ, T => (ev e σ T).bind fun v T1 => (ev es σ T1).bind fun vs T2 => .ok (.tup (v :: asTup vs)) T2
  | .tup es, σ, T => (ev es σ T).bind fun vs T1 => if (asTup vs).length ≤ SZ then .ok (.tup (asTup vs)) T1 else .bad
  | .list m es, σ, T => (ev es σ T).bind fun vs T1 => if (asTup vs).length ≤ SZ then newL m (asTup vs) T1 else .bad
  | .dict m, _, T => newD m [] [] T
  | .bin m o a b, σ, T => (ev a σ T).bind fun x T1 => (ev b σ T1).bind fun y T2 => binOp m o x y T2
  | .neg a, σ, T => (ev a σ T).bind fun x T1 => negOp x T1
  | .not a, σ, T => (ev a σ T).bind fun x T1 => (ofOpt (truthM T1 x) T1).bind fun b T2 => .ok (.bl (!b)) T2
  | .and a b, σ, T => (ev a σ T).bind fun x T1 => (ofOpt (truthM T1 x) T1).bind fun t T2 => if t then ev b σ T2 else .ok x T2
  | .or a b, σ, T => (ev a σ T).bind fun x T1 => (ofOpt (truthM T1 x) T1).bind fun t T2 => if t then .ok x T2 else ev b σ T2
  | .ite c a b, σ, T => (ev c σ T).bind fun x T1 => (ofOpt (truthM T1 x) T1).bind fun t T2 => if t then ev a σ T2 else ev b σ T2
  | .cmp o a b, σ, T => (ev a σ T).bind fun x T1 => (ev b σ T1).bind fun y T2 => (ofOpt (cmpOp o x y T2) T2).bind fun t T3 => .ok (.bl t) T3
  | .chain o p a b c, σ, T => (ev a σ T).bind fun x T1 => (ev b σ T1).bind fun y T2 => (ofOpt (cmpOp o x y T2) T2).bind fun t T3 =>
    if t then (ev c σ T3).bind fun z T4 => (ofOpt (cmpOp p y z T4) T4).bind fun t T5 => .ok (.bl t) T5 else .ok (.bl false) T3
  | .idx a i, σ, T => (ev a σ T).bind fun x T1 => (ev i σ T1).bind fun y T2 => ofOpt (idxOp x y T2) T2
  | .slice m a lo hi pl ph, σ, T => (ev a σ T).bind fun x T1 => (ev lo σ T1).bind fun l T2 => if partOk pl l then (ev hi σ T2).bind fun h T3 => if partOk ph h then sliceOp m pl ph x l h T3 else .bad else .bad
  | .rev m a, σ, T => (ev a σ T).bind fun x T1 => revOp m x T1
  | .isinst a t, σ, T => (ev a σ T).bind fun x T1 => (ofOpt (isInst x t) T1).bind fun b T2 => .ok (.bl b) T2
  | .isexc i cs ps, σ, T => match σ[i]? with
    | some (some (.exc c)) => if c ∈ cs then .ok (.bl true) T else if c ∈ ps then .ok (.bl false) T else .bad
    | _ => .bad
  | .prim m p es, σ, T => (ev es σ T).bind fun vs T1 => primOp m p (asTup vs) T1
  | .lrng m tu a b, σ, T => (ev a σ T).bind fun x T1 => (ev b σ T1).bind fun y T2 => rgOp m tu x y T2
  | .lenset a, σ, T => (ev a σ T).bind fun x T1 => lensetOp x T1
  | .meth m k a es, σ, T => (ev a σ T).bind fun x T1 => if recvOk T1 k x then (ev es σ T1).bind fun vs T2 => methOp m k x (asTup vs) T2 else .bad
  | .call f es, σ, T => (ev es σ T).bind fun vs T1 => C f (asTup vs) T1
  | .callv i es, σ, T => match σ[i]? with
    | some (some (.fn f)) => (ev es σ T).bind fun vs T1 => C f (asTup vs) T1
    | _ => .bad
  | .comp m x tg own k it c e, σ, T => (ev it σ T).bind fun vs T1 => match walkOf T1 k (asTup vs) with
    | some w => (Res.outX x (compL w tg (fun σ T => (ev c σ T).bind fun x T1 => ofOpt (truthM T1 x) T1) (fun σ acc T => (ev e σ T).bind fun v T2 => addL acc v T2) (wipeE σ own) FU 0 [] T1)).bind fun xs T2 => newL m xs T2
    | none => .bad
  | .comp2 m tg own k it c tg2 k2 it2 c2 e, σ, T => (ev it σ T).bind fun vs T1 => match walkOf T1 k (asTup vs) with
    | some w => (compL w tg (fun σ T => (ev c σ T).bind fun x T1 => ofOpt (truthM T1 x) T1)
        (fun σ acc T => (ev it2 σ T).bind fun vs T1 => match walkOf T1 k2 (asTup vs) with
          | some w2 => compL w2 tg2 (fun σ T => (ev c2 σ T).bind fun x T1 => ofOpt (truthM T1 x) T1) (fun σ acc T => (ev e σ T).bind fun v T2 => addL acc v T2) (wipeE σ (slotsT tg2)) FU 0 acc T1
          | none => .bad) (wipeE σ own) FU 0 [] T1).noX.bind fun xs T2 => newL m xs T2
    | none => .bad
  | .dcomp m tg own k it c ek e, σ, T => (ev it σ T).bind fun vs T1 => match walkOf T1 k (asTup vs) with
    | some w => (compL w tg (fun σ T => (ev c σ T).bind fun x T1 => ofOpt (truthM T1 x) T1) (fun σ (acc : List PK × List PV) T => (ev ek σ T).bind fun q T2 => (ev e σ T2).bind fun v T3 =>
        match keyOf q with
        | some j => if acc.2.length < SZ then .ok (kPut acc.1 acc.2 j v) T3 else .bad
        | none => .bad) (wipeE σ own) FU 0 ([], []) T1).noX.bind fun xs T2 => newD m xs.1 xs.2 T2
    | none => .bad
  | .kidx g e, σ, T => (ev e σ T).bind fun x T1 => match G g, x with
    | some (.vd ks vs), .str s => ofOpt (kGet ks vs (.s s)) T1
    | _, _ => .bad
  | .kin g b e, σ, T => (ev e σ T).bind fun x T1 => match G g, x with
    | some (.vd ks vs), .str s => .ok (.bl (if b then (kGet ks vs (.s s)).isSome else !(kGet ks vs (.s s)).isSome)) T1
    | _, _ => .bad
  | .kget g e d, σ, T => (ev e σ T).bind fun x T1 => (ev d σ T1).bind fun y T2 => match G g, x with
    | some (.vd ks vs), .str s => .ok ((kGet ks vs (.s s)).getD y) T2
    | _, _ => .bad
  | .fld a f, σ, T => (ev a σ T).bind fun x T1 => ofOpt (fldOp T1 x f) T1
  | .mcall c f a es, σ, T => (ev a σ T).bind fun x T1 => if isObj T1 c x then (ev es σ T1).bind fun vs T2 => C f (x :: asTup vs) T2 else .bad
  | .new c f es, σ, T => (ev es σ T).bind fun vs T1 => initOk (.ref T1.length) (C f (.ref T1.length :: asTup vs) (T1 ++ [.obj c [] []]))
  | .bad, _, _ => .bad
/-- an expression as a test -/
def evT (e : E) (σ : Nv) (T : Store) : Res Bool := (ev C G e σ T).bind fun x T1 => ofOpt (truthM T1 x) T1

def seqS (r : ResS) (f : Nv → Store → ResS) (u : Mark f := ⟨⟩) : ResS := match r with
  | .ok (.next σ) T => f σ T
  | r => r
/-- what an except clause's name holds, and what is left of it behind the clause -/
def holdX (x : Option Nat) (c : Nat) (σ : Nv) : Nv := match x with
  | none => σ
  | some i => σ.set i (some (.exc c))
def clrX (x : Option Nat) (σ : Nv) : Nv := match x with
  | none => dropX σ
  | some i => dropX (σ.set i none)
def endX (x : Option Nat) (r : ResS) : ResS := match r with
  | .ok (.next σ) T => .ok (.next (clrX x σ)) T
  | .ok (.brk σ) T => .ok (.brk (clrX x σ)) T
  | .ok (.cont σ) T => .ok (.cont (clrX x σ)) T
  | .ok (.ret v) T => .ok (.ret v) T
  | _ => .bad
def nextO (o : Option Nv) (T : Store) : ResS := match o with
  | some σ1 => .ok (.next σ1) T
  | none => .bad
def nextT (σ : Nv) (o : Option Store) : ResS := match o with
  | some T => .ok (.next σ) T
  | none => .bad
def exS : S → Nv → Store → ResS
  | .skip, σ, T => .ok (.next σ) T
  | .seq a b, σ, T => seqS (exS a σ T) fun σ1 T1 => exS b σ1 T1
  | .exp e, σ, T => (ev C G e σ T).bindS σ fun _ T1 => .ok (.next σ) T1
  | .asg tg e, σ, T => (ev C G e σ T).bindS σ fun v T1 => nextO (bindT tg v σ) T1
  | .par i j es, σ, T => (ev C G es σ T).bindS σ fun vs T1 => match asTup vs with
    | [v, w] => .ok (.next ((σ.set i (some v)).set j (some w))) T1
    | _ => .bad
  | .aug i o e, σ, T => match σ[i]? with
    | some (some x) => (ev C G e σ T).bindS σ fun y T1 => nextO ((augOp o x y).map fun z => σ.set i (some z)) T1
    | _ => .bad
  | .setix a i e, σ, T => (ev C G e σ T).bindS σ fun v T1 => (ev C G a σ T1).bindS σ fun x T2 => (ev C G i σ T2).bindS σ fun k T3 => nextT σ (setOp x k v T3)
  | .setfld a f e, σ, T => (ev C G e σ T).bindS σ fun v T1 => (ev C G a σ T1).bindS σ fun x T2 => nextT σ (setF x f v T2)
  | .augfld a f o e, σ, T => (ev C G a σ T).bindS σ fun x T1 => match fldOp T1 x f with
    | some u => (ev C G e σ T1).bindS σ fun y T2 => nextT σ ((augOp o u y).bind fun z => setF x f z T2)
    | none => .bad
  | .ite c a b, σ, T => (evT C G c σ T).bindS σ fun t T1 => if t then exS a σ T1 else exS b σ T1
  | .whl c b, σ, T => whileL (fun σ T => evT C G c σ T) (fun σ T => exS b σ T) FU σ T
  | .loop tg k it b, σ, T => (ev C G it σ T).bindS σ fun vs T1 => match walkOf T1 k (asTup vs) with
    | some w => iterL w tg (fun σ T => exS b σ T) FU 0 σ T1
    | none => .bad
  | .ret e, σ, T => (ev C G e σ T).bindS σ fun v T1 => .ok (.ret v) T1
  | .brk, σ, T => .ok (.brk σ) T
  | .cont, σ, T => .ok (.cont σ) T
  | .raise c, σ, T => .ok (.exc c σ) T
  | .tryx b cs ps x h, σ, T => match exS b σ T with
    | .ok (.exc c σ1) T1 => if c ∈ cs then
        endX x (exS h (holdX x c σ1) T1)
      else if c ∈ ps then .ok (.exc c σ1) T1 else .bad
    | r => r
  | .bad, _, _ => .bad
end

/-- keep: a new list of the store that is told stays one -/
structure FD where
  np : Nat
  ns : Nat
  keep : Bool
  body : S

def startE (ns : Nat) (vs : List PV) : Nv := vs.map some ++ List.replicate (ns - vs.length) none
def ofBody (r : ResS) : Res PV := match r with
  | .ok (.next _) T => .ok .non T
  | .ok (.ret v) T => .ok v T
  | .ok (.exc c _) T => .exc c T
  | _ => .bad
/-- a new list of the store that is told: a value from now on -/
def told1 (n : Nat) (T : Store) (v : PV) : PV := match v with
  | .ref m => if n ≤ m then match T[m]? with
    | some (.lst xs) => .vl xs
    | some (.dct ks xs) => .vd ks xs
    | _ => .ref m
    else .ref m
  | v => v
def toldV (n : Nat) (T : Store) (v : PV) : PV := match v with
  | .tup xs => .tup (xs.map (told1 n T))
  | v => told1 n T v
/-- what a def made and does not tell is let go -/
def letGo (T : Store) (r : Res PV) : Res PV := match r with
  | .ok v T' => if T'.length ≤ T.length then .ok v T' else
    if low T.length (toldV T.length T' v) && lowS T.length T T' then .ok (toldV T.length T' v) (T'.take T.length) else .ok v T'
  | .exc c T' => if T'.length ≤ T.length then .exc c T' else if lowS T.length T T' then .exc c (T'.take T.length) else .exc c T'
  | .bad => .bad
/-- the defs of a program, called down to the level k -/
def callF (D : Nat → Option FD) (G : Nat → Option PV) : Nat → Nat → List PV → Store → Res PV
  | 0, _, _, _ => .bad
  | k + 1, f, vs, T => match D f with
    | some d => if vs.length = d.np then (if d.keep then ofBody (exS (callF D G k) G d.body (startE d.ns vs) T) else letGo T (ofBody (exS (callF D G k) G d.body (startE d.ns vs) T))) else .bad
    | none => .bad
end MP

/-! MN: names by numbers (printed by names.py) -/
namespace MP
open PySem
def clsNm : Nat → Str
  | 0 => "PactlinkError"
  | 1 => "BadText"
  | 2 => "Table"
  | 3 => "Equation"
  | 4 => "Reduction"
  | 5 => "Rest"
  | 6 => "Context"
  | 7 => "Place"
  | 8 => "Row"
  | 9 => "System"
  | 10 => "Pairs"
  | 11 => "Goal"
  | 12 => "BadLine"
  | 13 => "BadModule"
  | 14 => "Scope"
  | 15 => "Walk"
  | 16 => "Compiler"
  | 17 => "Stop"
  | 18 => "Stop_machine"
  | 19 => "Frame"
  | 20 => "Frame_machine"
  | 21 => "Machine"
  | 22 => "WrongToken"
  | 23 => "Cursor"
  | 24 => "Face"
  | 25 => "Block"
  | 26 => "Body"
  | 27 => "Reader"
  | 28 => "Stop_textrun"
  | 29 => "Frame_textrun"
  | 30 => "TextRun"
  | 31 => "Stuck"
  | 32 => "State"
  | 33 => "Walker"
  | 34 => "Papers"
  | 35 => "Table_pivot"
  | 36 => "Frame_walking"
  | 37 => "Watcher"
  | 38 => "Sifter"
  | 39 => "Table_making"
  | 40 => "Missing"
  | 41 => "Packer"
  | 42 => "UnknownName"
  | 43 => "NotFit"
  | 44 => "Keeper"
  | 45 => "Told"
  | 46 => "Desk"
  | 47 => "Uses"
  | 48 => "Sayer"
  | 49 => "Side"
  | 50 => "Links"
  | 51 => "Meeting"
  | 52 => "NothingBack"
  | 53 => "NothingAhead"
  | 54 => "BadBook"
  | 55 => "BookReader"
  | 56 => "Versions"
  | _ => ""
def fldNm : Nat → Str
  | 0 => "many"
  | 1 => "signs"
  | 2 => "rows"
  | 3 => "basis"
  | 4 => "den"
  | 5 => "missing"
  | 6 => "costs"
  | 7 => "entries"
  | 8 => "goal"
  | 9 => "trace"
  | 10 => "columns"
  | 11 => "pairs"
  | 12 => "active"
  | 13 => "solved"
  | 14 => "part"
  | 15 => "remainder"
  | 16 => "low"
  | 17 => "high"
  | 18 => "hyps"
  | 19 => "formula"
  | 20 => "names"
  | 21 => "kind"
  | 22 => "parts"
  | 23 => "places"
  | 24 => "decided"
  | 25 => "meant"
  | 26 => "name"
  | 27 => "lows"
  | 28 => "highs"
  | 29 => "others"
  | 30 => "options"
  | 31 => "line"
  | 32 => "module"
  | 33 => "ints"
  | 34 => "arrays"
  | 35 => "made"
  | 36 => "wrong"
  | 37 => "scope"
  | 38 => "sets"
  | 39 => "function"
  | 40 => "table"
  | 41 => "eaches"
  | 42 => "code"
  | 43 => "holds"
  | 44 => "labels"
  | 45 => "answer"
  | 46 => "place"
  | 47 => "stack"
  | 48 => "locals"
  | 49 => "modules"
  | 50 => "fuel"
  | 51 => "steps"
  | 52 => "frames"
  | 53 => "at"
  | 54 => "tokens"
  | 55 => "items"
  | 56 => "needs"
  | 57 => "ensures"
  | 58 => "within"
  | 59 => "test"
  | 60 => "first"
  | 61 => "blocks"
  | 62 => "uses"
  | 63 => "functions"
  | 64 => "head"
  | 65 => "face"
  | 66 => "body"
  | 67 => "target"
  | 68 => "word"
  | 69 => "locals_count"
  | 70 => "cuts"
  | 71 => "faces"
  | 72 => "handed"
  | 73 => "slots"
  | 74 => "fresh"
  | 75 => "lengths"
  | 76 => "hypotheses"
  | 77 => "spent"
  | 78 => "seen"
  | 79 => "goals"
  | 80 => "effects"
  | 81 => "frame"
  | 82 => "found"
  | 83 => "plans"
  | 84 => "notes"
  | 85 => "said"
  | 86 => "told"
  | 87 => "image"
  | 88 => "calls"
  | 89 => "lines"
  | 90 => "history"
  | 91 => "known"
  | 92 => "plan"
  | 93 => "now"
  | 94 => "one"
  | 95 => "two"
  | 96 => "relations"
  | 97 => "number"
  | 98 => "new"
  | _ => ""
def fnNm : Nat → Str
  | 312 => "read_unit"
  | 314 => "read_and"
  | 310 => "read_sum"
  | _ => ""
end MP

set_option Elab.async false
set_option linter.all false
set_option maxRecDepth 100000
set_option maxHeartbeats 1000000
/-! M1: how the plain values and the store lie in the hand layer's heap. -/
namespace MP
open PySem PySem.Spec PyProof.Rows L2

/-- where the store's things stand; what is being filled and stands aside -/
structure Mu where
  st : List Addr
  rs : List Addr

def keyV : PK → L2.Key
  | .i k => .inl k
  | .s x => .inr ⟨x.toArray⟩
/-- a list that is read alone: the script -/
def SqF (K : PySem.W.Frag) (H : Hp) (a : Addr) (xs : List V) : Prop :=
  (∃ o, H a = some (.frz o (.lst xs))) ∨
    ∃ (o : Obj) (its : Array Value) (n : Nat), K.lookup a = some o ∧ o.cls = .type "list" ∧ o.dict = none ∧ o.data = .seq its n ∧ its.size ≤ sizeLine ∧ Vals xs its.toList
theorem SqF.sql {K : PySem.W.Frag} {H : Hp} {a : Addr} {xs : List V} (h : SqF K H a xs) : SqL K H a xs := by
  rcases h with h | h
  · exact .inl (.inr h)
  · exact .inr h
/-- where the class c stands -/
def ClsAt (K : PySem.W.Frag) (c : Nat) (C : Addr) : Prop := PySem.W.nsIn K mainGlobals (clsNm c) = some (some (.ref C))

section
variable (K : PySem.W.Frag) (xa : Option (Addr × Nat)) (H : Hp) (μ : Mu)
mutual
def Rel : PV → V → Prop
  | .non, v => v = .non
  | .bl b, v => v = .bl b
  | .int i, v => v = .int i
  | .str s, v => v = .str ⟨s.toArray⟩
  | .tup xs, v => ∃ a vs, v = .ref a ∧ SqT K H a vs ∧ Rels xs vs
  | .frz xs, v => ∃ a vs, v = .ref a ∧ SqF K H a vs ∧ Rels xs vs
  | .vl xs, v => ∃ a vs, v = .ref a ∧ (H a = some (.lst vs) ∧ a ∉ μ.st ∧ a ∉ μ.rs) ∧ Rels xs vs
  | .vd ks xs, v => ∃ a kvs, v = .ref a ∧ (H a = some (.dK kvs) ∧ a ∉ μ.st ∧ a ∉ μ.rs) ∧ kvs.map (·.1) = ks.map keyV ∧ Rels xs (kvs.map (·.2))
  | .ref n, v => ∃ a, v = .ref a ∧ μ.st[n]? = some a
  | .fn f, v => ∃ a, v = .ref a ∧ PySem.W.nsIn K mainGlobals (fnNm f) = some (some (.ref a))
  | .exc _, _ => xa.isSome = true ∧ False
def Rels : List PV → List V → Prop
  | [], vs => vs = []
  | x :: xs, vs => ∃ v ws, vs = v :: ws ∧ Rel x v ∧ Rels xs ws
end
/-- how a thing of the store stands: its values ps, those of the heap vs -/
def Shape (o : MO) (u : HO) (ps : List PV) (vs : List V) : Prop := match o with
  | .lst xs => ps = xs ∧ u = .lst vs
  | .dct ks xs => ps = xs ∧ ∃ kvs, u = .dK kvs ∧ kvs.map (·.1) = ks.map keyV ∧ vs = kvs.map (·.2)
  | .obj c fs xs => ps = xs ∧ ∃ (C dx : Addr) (kvs : List (Str × V)), ClsAt K c C ∧ u = .ins C dx kvs ∧ kvs.map (·.1) = fs.map fldNm ∧ vs = kvs.map (·.2)
/-- a thing of the store at an address -/
def Cell (o : MO) (a : Addr) : Prop := ∃ u ps vs, H a = some u ∧ Shape K o u ps vs ∧ Rels K xa H μ ps vs
end
/-- things that change -/
def Chg : HO → Prop
  | .lst _ => True
  | .dK _ => True
  | .ins _ _ _ => True
  | _ => False

/-- the heap has grown, or things of the store were written -/
structure Ex (μ μ' : Mu) (H H' : Hp) : Prop where
  pre : ∃ ν, μ'.st = μ.st ++ ν
  rs : ∀ b, b ∈ μ.rs → b ∈ μ'.rs
  fr : ∀ b o, H b = some o → b ∉ μ.st → H' b = some o
  new : ∀ b, b ∈ μ'.st → b ∈ μ.st ∨ H b = none
  newR : ∀ b, b ∈ μ'.rs → b ∈ μ.rs ∨ b ∈ μ.st ∨ H b = none
theorem Ex.refl (μ : Mu) (H : Hp) : Ex μ μ H H := ⟨⟨[], by simp⟩, fun _ h => h, fun _ _ h _ => h, fun _ h => .inl h, fun _ h => .inl h⟩
theorem Ex.trans {μ μ1 μ2 : Mu} {H H1 H2 : Hp} (a : Ex μ μ1 H H1) (b : Ex μ1 μ2 H1 H2) : Ex μ μ2 H H2 := by
  have old : ∀ c, H1 c = none → c ∈ μ.st ∨ H c = none := fun c z => by
    by_cases hm : c ∈ μ.st
    · exact .inl hm
    · refine .inr ?_
      cases e : H c with
      | none => rfl
      | some o => rw [a.fr c o e hm] at z; cases z
  refine ⟨?_, fun c h => b.rs c (a.rs c h), fun c o e n => ?_, fun c h => ?_, fun c h => ?_⟩
  · obtain ⟨x, hx⟩ := a.pre
    obtain ⟨y, hy⟩ := b.pre
    exact ⟨x ++ y, by rw [hy, hx, List.append_assoc]⟩
  · refine b.fr c o (a.fr c o e n) fun h => ?_
    rcases a.new c h with z | z
    · exact n z
    · rw [e] at z; cases z
  · rcases b.new c h with z | z
    · exact a.new c z
    · exact old c z
  · rcases b.newR c h with z | z | z
    · exact a.newR c z
    · exact .inr (a.new c z)
    · exact .inr (old c z)
theorem Ex.get {μ μ' : Mu} {H H' : Hp} (x : Ex μ μ' H H') {n : Nat} {a : Addr} (h : μ.st[n]? = some a) : μ'.st[n]? = some a := by
  obtain ⟨ν, e⟩ := x.pre
  rw [e, List.getElem?_append_left (by have := (List.getElem?_eq_some_iff.mp h).1; exact this)]
  exact h
/-- what stands and is none of the store's stays none -/
theorem Ex.out {μ μ' : Mu} {H H' : Hp} (x : Ex μ μ' H H') {b : Addr} {o : HO} (h : H b = some o) (n : b ∉ μ.st) : b ∉ μ'.st := fun z => by
  rcases x.new b z with z | z
  · exact n z
  · rw [h] at z; cases z

theorem Ex.outR {μ μ' : Mu} {H H' : Hp} (x : Ex μ μ' H H') {b : Addr} {o : HO} (h : H b = some o) (n : b ∉ μ.st) (n2 : b ∉ μ.rs) : b ∉ μ'.rs := fun z => by
  rcases x.newR b z with z | z | z
  · exact n2 z
  · exact n z
  · rw [h] at z; cases z

/-- the store lies in the heap -/
structure SR (K : PySem.W.Frag) (xa : Option (Addr × Nat)) (H : Hp) (μ : Mu) (T : Store) : Prop where
  len : μ.st.length = T.length
  cell : ∀ (n : Nat) (a : Addr) (o : MO), μ.st[n]? = some a → T[n]? = some o → Cell K xa H μ o a
  inj : ∀ (n m : Nat) (a : Addr), μ.st[n]? = some a → μ.st[m]? = some a → n = m
  res : ∀ b, b ∈ μ.rs → ∃ o, H b = some o ∧ b ∉ μ.st

section
variable {K : PySem.W.Frag} {xa : Option (Addr × Nat)} {H H' : Hp} {μ μ' : Mu} {T : Store}
theorem Shape.chg {o : MO} {u : HO} {ps : List PV} {vs : List V} (h : Shape K o u ps vs) : Chg u := by
  cases o with
  | lst xs => obtain ⟨_, rfl⟩ := h; trivial
  | dct ks xs => obtain ⟨_, kvs, rfl, _⟩ := h; trivial
  | obj c fs xs => obtain ⟨_, C, dx, kvs, _, rfl, _⟩ := h; trivial
theorem Cell.chg {o : MO} {a : Addr} (h : Cell K xa H μ o a) : ∃ u, H a = some u ∧ Chg u := by
  obtain ⟨u, ps, vs, e, s, _⟩ := h
  exact ⟨u, e, s.chg⟩
theorem SR.at (r : SR K xa H μ T) {n : Nat} {o : MO} (h : T[n]? = some o) : ∃ a, μ.st[n]? = some a ∧ Cell K xa H μ o a := by
  have hn : n < μ.st.length := by rw [r.len]; exact (List.getElem?_eq_some_iff.mp h).1
  exact ⟨_, List.getElem?_eq_getElem hn, r.cell n _ o (List.getElem?_eq_getElem hn) h⟩
theorem SR.mem (r : SR K xa H μ T) {a : Addr} (h : a ∈ μ.st) : ∃ u, H a = some u ∧ Chg u := by
  obtain ⟨n, hn, e⟩ := List.mem_iff_getElem.mp h
  have hT : n < T.length := by rw [← r.len]; exact hn
  exact (r.cell n a T[n] (by rw [List.getElem?_eq_getElem hn, e]) (List.getElem?_eq_getElem hT)).chg
theorem SR.fresh (r : SR K xa H μ T) {p : Addr} (h : H p = none) : p ∉ μ.st := fun m => by
  obtain ⟨u, e, _⟩ := r.mem m
  rw [h] at e; cases e
theorem SR.freshR (r : SR K xa H μ T) {p : Addr} (h : H p = none) : p ∉ μ.rs := fun m => by
  obtain ⟨u, e, _⟩ := r.res p m
  rw [h] at e; cases e
/-- what does not change stays -/
theorem SR.keep (r : SR K xa H μ T) (x : Ex μ μ' H H') {a : Addr} {o : HO} (h : H a = some o) (n : ¬ Chg o) : H' a = some o := x.fr a o h fun m => by
  obtain ⟨u, e, c⟩ := r.mem m
  rw [h] at e; cases e; exact n c
theorem sqT_mono (r : SR K xa H μ T) (x : Ex μ μ' H H') {a : Addr} {vs : List V} (h : SqT K H a vs) : SqT K H' a vs := by
  rcases h with (h | ⟨o, h⟩) | h
  · exact .inl (.inl (r.keep x h id))
  · exact .inl (.inr ⟨o, r.keep x h id⟩)
  · exact .inr h
theorem sqF_mono (r : SR K xa H μ T) (x : Ex μ μ' H H') {a : Addr} {vs : List V} (h : SqF K H a vs) : SqF K H' a vs := by
  rcases h with ⟨o, h⟩ | h
  · exact .inl ⟨o, r.keep x h id⟩
  · exact .inr h
mutual
theorem Rel.mono (r : SR K xa H μ T) (x : Ex μ μ' H H') : ∀ (p : PV) (v : V), Rel K xa H μ p v → Rel K xa H' μ' p v
  | .non, _, h => h
  | .bl _, _, h => h
  | .int _, _, h => h
  | .str _, _, h => h
  | .tup xs, v, h => by
    obtain ⟨a, vs, e, s, q⟩ := h
    exact ⟨a, vs, e, sqT_mono r x s, Rels.mono r x xs vs q⟩
  | .frz xs, v, h => by
    obtain ⟨a, vs, e, s, q⟩ := h
    exact ⟨a, vs, e, sqF_mono r x s, Rels.mono r x xs vs q⟩
  | .vl xs, v, h => by
    obtain ⟨a, vs, e, ⟨s, n1, n2⟩, q⟩ := h
    exact ⟨a, vs, e, ⟨x.fr a _ s n1, x.out s n1, x.outR s n1 n2⟩, Rels.mono r x xs vs q⟩
  | .vd ks xs, v, h => by
    obtain ⟨a, kvs, e, ⟨s, n1, n2⟩, k, q⟩ := h
    exact ⟨a, kvs, e, ⟨x.fr a _ s n1, x.out s n1, x.outR s n1 n2⟩, k, Rels.mono r x xs _ q⟩
  | .ref n, v, h => by
    obtain ⟨a, e, s⟩ := h
    exact ⟨a, e, x.get s⟩
  | .fn f, _, h => h
  | .exc _, _, h => h
theorem Rels.mono (r : SR K xa H μ T) (x : Ex μ μ' H H') : ∀ (ps : List PV) (vs : List V), Rels K xa H μ ps vs → Rels K xa H' μ' ps vs
  | [], _, h => h
  | p :: ps, vs, h => by
    obtain ⟨v, ws, e, q1, q2⟩ := h
    exact ⟨v, ws, e, Rel.mono r x p v q1, Rels.mono r x ps ws q2⟩
end

/-! ### lists of values -/
theorem Rels.length : ∀ {ps : List PV} {vs : List V}, Rels K xa H μ ps vs → ps.length = vs.length
  | [], vs, h => by
    have e : vs = [] := h
    subst e; rfl
  | _ :: _, _, h => by
    obtain ⟨v, ws, e, _, q⟩ := h
    rw [e, List.length_cons, List.length_cons, Rels.length q]
theorem Rels.get : ∀ {ps : List PV} {vs : List V} {i : Nat} {p : PV}, Rels K xa H μ ps vs → ps[i]? = some p → ∃ v, vs[i]? = some v ∧ Rel K xa H μ p v
  | [], _, i, _, _, e => by simp at e
  | q :: ps, _, 0, p, h, e => by
    obtain ⟨v, ws, e2, q1, q2⟩ := h
    subst e2
    have : q = p := by simpa using e
    subst this
    exact ⟨v, rfl, q1⟩
  | q :: ps, _, i + 1, p, h, e => by
    obtain ⟨v, ws, e2, q1, q2⟩ := h
    subst e2
    obtain ⟨u, h1, h2⟩ := Rels.get (i := i) (p := p) q2 (by simpa using e)
    exact ⟨u, by simpa using h1, h2⟩
theorem Rels.append : ∀ {ps qs : List PV} {vs ws : List V}, Rels K xa H μ ps vs → Rels K xa H μ qs ws → Rels K xa H μ (ps ++ qs) (vs ++ ws)
  | [], _, _, _, h, h' => by rw [show _ = _ from h]; exact h'
  | p :: ps, qs, _, _, h, h' => by
    obtain ⟨v, us, e, q1, q2⟩ := h
    subst e
    exact ⟨v, us ++ _, rfl, q1, Rels.append q2 h'⟩
theorem Rels.take : ∀ {ps : List PV} {vs : List V} (n : Nat), Rels K xa H μ ps vs → Rels K xa H μ (ps.take n) (vs.take n)
  | _, _, 0, _ => by simp [Rels]
  | [], _, n + 1, h => by rw [show _ = _ from h]; simp [Rels]
  | p :: ps, _, n + 1, h => by
    obtain ⟨v, us, e, q1, q2⟩ := h
    subst e
    exact ⟨v, us.take n, rfl, q1, Rels.take n q2⟩
theorem Rels.drop : ∀ {ps : List PV} {vs : List V} (n : Nat), Rels K xa H μ ps vs → Rels K xa H μ (ps.drop n) (vs.drop n)
  | _, _, 0, h => h
  | [], _, n + 1, h => by rw [show _ = _ from h]; simp [Rels]
  | p :: ps, _, n + 1, h => by
    obtain ⟨v, us, e, q1, q2⟩ := h
    subst e
    exact Rels.drop n q2
theorem Rels.set {p : PV} {v : V} (r : Rel K xa H μ p v) : ∀ {ps : List PV} {vs : List V} (i : Nat), Rels K xa H μ ps vs → Rels K xa H μ (ps.set i p) (vs.set i v)
  | [], _, i, h => by rw [show _ = _ from h]; simp [Rels]
  | q :: ps, _, 0, h => by
    obtain ⟨u, us, e, q1, q2⟩ := h
    subst e
    exact ⟨v, us, rfl, r, q2⟩
  | q :: ps, _, i + 1, h => by
    obtain ⟨u, us, e, q1, q2⟩ := h
    subst e
    exact ⟨u, us.set i v, rfl, q1, Rels.set r i q2⟩
theorem Rels.reverse : ∀ {ps : List PV} {vs : List V}, Rels K xa H μ ps vs → Rels K xa H μ ps.reverse vs.reverse
  | [], _, h => by rw [show _ = _ from h]; simp [Rels]
  | p :: ps, _, h => by
    obtain ⟨u, us, e, q1, q2⟩ := h
    subst e
    rw [List.reverse_cons, List.reverse_cons]
    exact Rels.append (Rels.reverse q2) ⟨u, [], rfl, q1, rfl⟩
theorem Rels.one {p : PV} {v : V} (r : Rel K xa H μ p v) : Rels K xa H μ [p] [v] := ⟨v, [], rfl, r, rfl⟩
theorem Rels.two {p q : PV} {v w : V} (r : Rel K xa H μ p v) (s : Rel K xa H μ q w) : Rels K xa H μ [p, q] [v, w] := ⟨v, [w], rfl, r, Rels.one s⟩
theorem Rels.dropLast {ps : List PV} {vs : List V} (h : Rels K xa H μ ps vs) : Rels K xa H μ ps.dropLast vs.dropLast := by
  rw [List.dropLast_eq_take, List.dropLast_eq_take, ← h.length]
  exact h.take _
theorem Rels.eraseIdx : ∀ {ps : List PV} {vs : List V} (i : Nat), Rels K xa H μ ps vs → Rels K xa H μ (ps.eraseIdx i) (vs.eraseIdx i)
  | [], _, i, h => by rw [show _ = _ from h]; simp [Rels]
  | q :: ps, _, 0, h => by
    obtain ⟨u, us, e, q1, q2⟩ := h
    subst e
    exact q2
  | q :: ps, _, i + 1, h => by
    obtain ⟨u, us, e, q1, q2⟩ := h
    subst e
    exact ⟨u, us.eraseIdx i, rfl, q1, Rels.eraseIdx i q2⟩
theorem Rels.rep {ps : List PV} {vs : List V} (h : Rels K xa H μ ps vs) : ∀ n : Nat, Rels K xa H μ (List.replicate n ps).flatten (List.replicate n vs).flatten
  | 0 => rfl
  | n + 1 => by
    rw [List.replicate_succ, List.replicate_succ, List.flatten_cons, List.flatten_cons]
    exact h.append (Rels.rep h n)
/-! ### the store changes -/
theorem Cell.mono (r : SR K xa H μ T) (x : Ex μ μ' H H') {o : MO} {a : Addr} (h : Cell K xa H μ o a) (hu : ∀ u, H a = some u → H' a = some u) : Cell K xa H' μ' o a := by
  obtain ⟨u, ps, vs, e, s, q⟩ := h
  exact ⟨u, ps, vs, hu _ e, s, Rels.mono r x _ _ q⟩
/-- another new object -/
theorem SR.other (r : SR K xa H μ T) {p : Addr} {o : HO} (hp : H p = none) : Ex μ μ H (upd H p o) ∧ SR K xa (upd H p o) μ T := by
  have x : Ex μ μ H (upd H p o) := ⟨⟨[], by simp⟩, fun _ h => h, fun b u e _ => by rw [upd_ne (ne_of_none e hp)]; exact e, fun _ h => .inl h, fun _ h => .inl h⟩
  refine ⟨x, r.len, fun n a c h1 h2 => ?_, r.inj, fun b hb => ?_⟩
  · exact (r.cell n a c h1 h2).mono r x fun u e => by rw [upd_ne (ne_of_none e hp)]; exact e
  · obtain ⟨u, e, n⟩ := r.res b hb
    exact ⟨u, by rw [upd_ne (ne_of_none e hp)]; exact e, n⟩
/-- a new thing of the store -/
theorem SR.alloc (r : SR K xa H μ T) {p : Addr} {o : MO} {u : HO} {ps : List PV} {vs : List V} (hp : H p = none) (sh : Shape K o u ps vs) (q : Rels K xa H μ ps vs) :
    Ex μ ⟨μ.st ++ [p], μ.rs⟩ H (upd H p u) ∧ SR K xa (upd H p u) ⟨μ.st ++ [p], μ.rs⟩ (T ++ [o]) := by
  have nm := r.fresh hp
  have x : Ex μ ⟨μ.st ++ [p], μ.rs⟩ H (upd H p u) := by
    refine ⟨⟨[p], rfl⟩, fun _ h => h, fun b o e n => ?_, fun b h => ?_, fun _ h => .inl h⟩
    · rw [upd_ne (ne_of_none e hp)]; exact e
    · rcases List.mem_append.mp h with z | z
      · exact .inl z
      · have : b = p := by simpa using z
        subst this; exact .inr hp
  have key : ∀ k a, (μ.st ++ [p])[k]? = some a → (k < μ.st.length ∧ μ.st[k]? = some a) ∨ (k = μ.st.length ∧ a = p) := fun k a h => by
    by_cases hk : k < μ.st.length
    · rw [List.getElem?_append_left hk] at h; exact .inl ⟨hk, h⟩
    · have h3 : k < (μ.st ++ [p]).length := (List.getElem?_eq_some_iff.mp h).1
      rw [List.length_append, List.length_singleton] at h3
      have e : k = μ.st.length := by omega
      subst e
      rw [List.getElem?_append_right (Nat.le_refl _), Nat.sub_self] at h
      exact .inr ⟨rfl, by simpa using h.symm⟩
  refine ⟨x, ?_, fun n a c h1 h2 => ?_, fun n m a h1 h2 => ?_, fun b hb => ?_⟩
  · simp [r.len]
  · rcases key n a h1 with ⟨hn, h1⟩ | ⟨hn, rfl⟩
    · rw [List.getElem?_append_left (by rw [← r.len]; exact hn)] at h2
      exact (r.cell n a c h1 h2).mono r x fun u e => by rw [upd_ne (ne_of_none e hp)]; exact e
    · subst hn
      rw [List.getElem?_append_right (by rw [r.len]; exact Nat.le_refl _), r.len, Nat.sub_self] at h2
      have e2 : o = c := by simpa using h2
      subst e2
      exact ⟨u, ps, vs, upd_same, sh, Rels.mono r x _ _ q⟩
  · rcases key n a h1 with ⟨z1, z2⟩ | ⟨z1, z2⟩ <;> rcases key m a h2 with ⟨y1, y2⟩ | ⟨y1, y2⟩
    · exact r.inj n m a z2 y2
    · subst y2; exact absurd (List.mem_of_getElem? z2) nm
    · subst z2; exact absurd (List.mem_of_getElem? y2) nm
    · omega
  · obtain ⟨u', e, n⟩ := r.res b hb
    refine ⟨u', by rw [upd_ne (ne_of_none e hp)]; exact e, fun z => ?_⟩
    rcases List.mem_append.mp z with z | z
    · exact n z
    · have : b = p := by simpa using z
      subst this; rw [hp] at e; cases e
/-- a thing of the store is written -/
theorem SR.write (r : SR K xa H μ T) {n : Nat} {a : Addr} {o : MO} {u : HO} {ps : List PV} {vs : List V} (hn : μ.st[n]? = some a) (sh : Shape K o u ps vs) (q : Rels K xa H μ ps vs) :
    Ex μ μ H (upd H a u) ∧ SR K xa (upd H a u) μ (T.set n o) := by
  have am : a ∈ μ.st := List.mem_of_getElem? hn
  have x : Ex μ μ H (upd H a u) := ⟨⟨[], by simp⟩, fun _ h => h, fun b o e nb => by rw [upd_ne (fun z => nb (by rw [z]; exact am))]; exact e, fun _ h => .inl h, fun _ h => .inl h⟩
  refine ⟨x, by rw [List.length_set]; exact r.len, fun m b c h1 h2 => ?_, r.inj, fun b hb => ?_⟩
  · by_cases e : m = n
    · subst e
      rw [hn] at h1; cases h1
      rw [List.getElem?_set_self (by rw [← r.len]; exact (List.getElem?_eq_some_iff.mp hn).1)] at h2
      cases h2
      exact ⟨u, ps, vs, upd_same, sh, Rels.mono r x _ _ q⟩
    · rw [List.getElem?_set_ne (Ne.symm e)] at h2
      have hb : b ≠ a := fun z => e (r.inj m n b h1 (by rw [z]; exact hn))
      exact (r.cell m b c h1 h2).mono r x fun u e => by rw [upd_ne hb]; exact e
  · obtain ⟨u', e, n⟩ := r.res b hb
    exact ⟨u', by rw [upd_ne (fun z => n (by rw [z]; exact am))]; exact e, n⟩
theorem SR.tup (r : SR K xa H μ T) {p : Addr} {xs : List PV} {vs : List V} (hp : H p = none) (q : Rels K xa H μ xs vs) : Rel K xa (upd H p (.tup vs)) μ (.tup xs) (.ref p) :=
  ⟨p, vs, rfl, .inl (.inl upd_same), Rels.mono r (r.other hp).1 _ _ q⟩
/-- a new list that nobody will write -/
theorem SR.vl (r : SR K xa H μ T) {p : Addr} {xs : List PV} {vs : List V} (hp : H p = none) (q : Rels K xa H μ xs vs) : Rel K xa (upd H p (.lst vs)) μ (.vl xs) (.ref p) :=
  ⟨p, vs, rfl, ⟨upd_same, r.fresh hp, r.freshR hp⟩, Rels.mono r (r.other hp).1 _ _ q⟩
theorem SR.vd (r : SR K xa H μ T) {p : Addr} {ks : List PK} {xs : List PV} {kvs : List (Key × V)} (hp : H p = none) (hk : kvs.map (·.1) = ks.map keyV) (q : Rels K xa H μ xs (kvs.map (·.2))) : Rel K xa (upd H p (.dK kvs)) μ (.vd ks xs) (.ref p) :=
  ⟨p, kvs, rfl, ⟨upd_same, r.fresh hp, r.freshR hp⟩, hk, Rels.mono r (r.other hp).1 _ _ q⟩
/-! what a thing of the store tells -/
theorem lstOf_inv {T : Store} {n : Nat} {xs : List PV} (h : lstOf T n = some xs) : T[n]? = some (.lst xs) := by
  unfold lstOf at h
  split at h
  · rename_i e; cases h; exact e
  · cases h
theorem dctOf_inv {T : Store} {n : Nat} {ks : List PK} {xs : List PV} (h : dctOf T n = some (ks, xs)) : T[n]? = some (.dct ks xs) := by
  unfold dctOf at h
  split at h
  · rename_i e; cases h; exact e
  · cases h
theorem objOf_inv {T : Store} {n : Nat} {c : Nat} {fs : List Nat} {xs : List PV} (h : objOf T n = some (c, fs, xs)) : T[n]? = some (.obj c fs xs) := by
  unfold objOf at h
  split at h
  · rename_i e; cases h; exact e
  · cases h
theorem SR.ref (s : SR K xa H μ T) {n : Nat} {x : V} {xs : List PV} (r : Rel K xa H μ (.ref n) x) (h : lstOf T n = some xs) : ∃ a vs, x = .ref a ∧ μ.st[n]? = some a ∧ H a = some (.lst vs) ∧ Rels K xa H μ xs vs := by
  obtain ⟨a, rfl, ha⟩ := r
  obtain ⟨u, ps, vs, e, ⟨rfl, rfl⟩, q⟩ := s.cell n a _ ha (lstOf_inv h)
  exact ⟨a, vs, rfl, ha, e, q⟩
theorem SR.refD (s : SR K xa H μ T) {n : Nat} {x : V} {ks : List PK} {xs : List PV} (r : Rel K xa H μ (.ref n) x) (h : dctOf T n = some (ks, xs)) : ∃ a kvs, x = .ref a ∧ μ.st[n]? = some a ∧ H a = some (.dK kvs) ∧ kvs.map (·.1) = ks.map keyV ∧ Rels K xa H μ xs (kvs.map (·.2)) := by
  obtain ⟨a, rfl, ha⟩ := r
  obtain ⟨u, ps, vs, e, ⟨rfl, kvs, rfl, hk, rfl⟩, q⟩ := s.cell n a _ ha (dctOf_inv h)
  exact ⟨a, kvs, rfl, ha, e, hk, q⟩
theorem SR.refO (s : SR K xa H μ T) {n : Nat} {x : V} {c : Nat} {fs : List Nat} {xs : List PV} (r : Rel K xa H μ (.ref n) x) (h : objOf T n = some (c, fs, xs)) : ∃ a C dx kvs, x = .ref a ∧ μ.st[n]? = some a ∧ ClsAt K c C ∧ H a = some (.ins C dx kvs) ∧ kvs.map (·.1) = fs.map fldNm ∧ Rels K xa H μ xs (kvs.map (·.2)) := by
  obtain ⟨a, rfl, ha⟩ := r
  obtain ⟨u, ps, vs, e, ⟨rfl, C, dx, kvs, hc, rfl, hk, rfl⟩, q⟩ := s.cell n a _ ha (objOf_inv h)
  exact ⟨a, C, dx, kvs, rfl, ha, hc, e, hk, q⟩
end

/-! ### the handled exception is of no matter to values -/
section
variable {K : PySem.W.Frag} {xa xb : Option (Addr × Nat)} {H : Hp} {μ : Mu} {T : Store}
mutual
theorem Rel.xx : ∀ (p : PV) (v : V), Rel K xa H μ p v → Rel K xb H μ p v
  | .non, _, h => h
  | .bl _, _, h => h
  | .int _, _, h => h
  | .str _, _, h => h
  | .tup xs, v, h => by
    obtain ⟨a, vs, e, s, q⟩ := h
    exact ⟨a, vs, e, s, Rels.xx xs vs q⟩
  | .frz xs, v, h => by
    obtain ⟨a, vs, e, s, q⟩ := h
    exact ⟨a, vs, e, s, Rels.xx xs vs q⟩
  | .vl xs, v, h => by
    obtain ⟨a, vs, e, s, q⟩ := h
    exact ⟨a, vs, e, s, Rels.xx xs vs q⟩
  | .vd ks xs, v, h => by
    obtain ⟨a, vs, e, s, k, q⟩ := h
    exact ⟨a, vs, e, s, k, Rels.xx xs _ q⟩
  | .ref _, _, h => h
  | .fn _, _, h => h
  | .exc _, _, h => h.2.elim
theorem Rels.xx : ∀ (ps : List PV) (vs : List V), Rels K xa H μ ps vs → Rels K xb H μ ps vs
  | [], _, h => h
  | p :: ps, vs, h => by
    obtain ⟨v, ws, e, q1, q2⟩ := h
    exact ⟨v, ws, e, Rel.xx p v q1, Rels.xx ps ws q2⟩
end
theorem SR.xx (r : SR K xa H μ T) : SR K xb H μ T := ⟨r.len, fun n a o h1 h2 => let ⟨u, ps, vs, e, s, q⟩ := r.cell n a o h1 h2; ⟨u, ps, vs, e, s, Rels.xx _ _ q⟩, r.inj, r.res⟩
end

/-! ### slots -/
/-- what a slot holds: a value, or the exception of the handler -/
def RelX (K : PySem.W.Frag) (xa : Option (Addr × Nat)) (H : Hp) (μ : Mu) (v : PV) (x : V) : Prop := Rel K xa H μ v x ∨ ∃ c a, v = .exc c ∧ x = .ref a ∧ xa = some (a, c)
theorem RelX.val {K : PySem.W.Frag} {xa : Option (Addr × Nat)} {H : Hp} {μ : Mu} {v : PV} {x : V} (h : RelX K xa H μ v x) (n : ∀ c, v ≠ .exc c) : Rel K xa H μ v x := by
  rcases h with h | ⟨c, a, e, _⟩
  · exact h
  · exact absurd e (n c)
structure ER (K : PySem.W.Frag) (xa : Option (Addr × Nat)) (H : Hp) (μ : Mu) (ρ : Nv) (σ : L2.St) : Prop where
  len : ρ.length = σ.length
  at_ : ∀ (i : Nat) (v : PV), ρ[i]? = some (some v) → ∃ x, σ[i]? = some (some x) ∧ RelX K xa H μ v x
section
variable {K : PySem.W.Frag} {xa : Option (Addr × Nat)} {H H' : Hp} {μ μ' : Mu} {T : Store} {ρ : Nv} {σ : L2.St}
theorem ER.mono (e : ER K xa H μ ρ σ) (r : SR K xa H μ T) (x : Ex μ μ' H H') : ER K xa H' μ' ρ σ :=
  ⟨e.len, fun i v h => let ⟨y, h1, h2⟩ := e.at_ i v h; ⟨y, h1, h2.imp (Rel.mono r x _ _) id⟩⟩
theorem ER.setX (e : ER K xa H μ ρ σ) {v : PV} {y : V} (i : Nat) (q : RelX K xa H μ v y) : ER K xa H μ (ρ.set i (some v)) (σ.set i (some y)) := by
  refine ⟨by rw [List.length_set, List.length_set]; exact e.len, fun j u h => ?_⟩
  by_cases hj : i = j
  · subst hj
    have hi : i < ρ.length := by have := (List.getElem?_eq_some_iff.mp h).1; rwa [List.length_set] at this
    rw [List.getElem?_set_self hi] at h
    cases h
    exact ⟨y, by rw [List.getElem?_set_self (by rw [← e.len]; exact hi)], q⟩
  · rw [List.getElem?_set_ne hj] at h
    rw [List.getElem?_set_ne hj]
    exact e.at_ j u h
theorem ER.set (e : ER K xa H μ ρ σ) {v : PV} {y : V} (i : Nat) (q : Rel K xa H μ v y) : ER K xa H μ (ρ.set i (some v)) (σ.set i (some y)) := e.setX i (.inl q)
theorem ER.hot0 {a : Addr} {c : Nat} (e : ER K none H μ ρ σ) : ER K (some (a, c)) H μ ρ σ := ⟨e.len, fun j v h => by
    obtain ⟨x, h1, h2⟩ := e.at_ j v h
    rcases h2 with h2 | ⟨_, _, _, _, z⟩
    · exact ⟨x, h1, .inl (Rel.xx _ _ h2)⟩
    · cases z⟩
theorem ER.hot {a : Addr} {c : Nat} (e : ER K none H μ ρ σ) (i : Nat) : ER K (some (a, c)) H μ (ρ.set i (some (.exc c))) (σ.set i (some (.ref a))) :=
  e.hot0.setX i (.inr ⟨c, a, rfl, rfl, rfl⟩)
theorem ER.cool (e : ER K xa H μ ρ σ) : ER K none H μ (dropX ρ) σ := by
  refine ⟨by unfold dropX; rw [List.length_map]; exact e.len, fun j v h => ?_⟩
  unfold dropX at h
  rw [List.getElem?_map] at h
  cases q : ρ[j]? with
  | none => rw [q] at h; cases h
  | some o =>
    rw [q] at h
    have h := Option.some.inj h
    cases o with
    | none => cases h
    | some p =>
      obtain ⟨x, h1, h2⟩ := e.at_ j p q
      have key : (∃ c, p = .exc c) ∨ (∀ c, p ≠ .exc c) := by
        cases p <;> first | exact .inl ⟨_, rfl⟩ | exact .inr fun c z => by cases z
      rcases key with ⟨c, rfl⟩ | n
      · cases h
      · have : p = v := by
          cases p <;> first | exact Option.some.inj h | exact absurd rfl (n _)
        subst this
        exact ⟨x, h1, .inl (Rel.xx _ _ (h2.val n))⟩
theorem ER.unset (e : ER K xa H μ ρ σ) (i : Nat) : ER K xa H μ (ρ.set i none) (σ.set i none) := by
  refine ⟨by rw [List.length_set, List.length_set]; exact e.len, fun j u h => ?_⟩
  by_cases hj : i = j
  · subst hj
    have hi : i < ρ.length := by have := (List.getElem?_eq_some_iff.mp h).1; rwa [List.length_set] at this
    rw [List.getElem?_set_self hi] at h
    cases h
  · rw [List.getElem?_set_ne hj] at h
    rw [List.getElem?_set_ne hj]
    exact e.at_ j u h
theorem ER.start {ps : List PV} {vs : List V} (N : List Str) (q : Rels K xa H μ ps vs) : ER K xa H μ (startE N.length ps) (L2.start N vs) := by
  have hl := q.length
  refine ⟨by unfold startE L2.start; simp [hl], fun i v h => ?_⟩
  unfold startE at h
  unfold L2.start
  by_cases hi : i < ps.length
  · rw [List.getElem?_append_left (by simpa using hi), List.getElem?_map] at h
    cases e : ps[i]? with
    | none => rw [e] at h; cases h
    | some p =>
      rw [e] at h; cases h
      obtain ⟨y, h1, h2⟩ := q.get e
      exact ⟨y, by rw [List.getElem?_append_left (by rw [List.length_map, ← hl]; exact hi), List.getElem?_map, h1] <;> rfl, .inl h2⟩
  · rw [List.getElem?_append_right (by simpa using hi), List.getElem?_replicate] at h
    split at h <;> cases h
end

section
variable {K : PySem.W.Frag} {xa : Option (Addr × Nat)} {H H' H2 : Hp} {μ μ' μ2 : Mu} {T : Store}
/-- what values need of another heap -/
structure Lift (K : PySem.W.Frag) (H H' : Hp) (μ μ' : Mu) : Prop where
  st : ∀ (n : Nat) (a : Addr), μ.st[n]? = some a → μ'.st[n]? = some a
  fix : ∀ a o, H a = some o → ¬ Chg o → H' a = some o
  out : ∀ a o, H a = some o → a ∉ μ.st → a ∉ μ.rs → H' a = some o ∧ a ∉ μ'.st ∧ a ∉ μ'.rs
mutual
theorem Rel.lift (x : Lift K H H' μ μ') : ∀ (p : PV) (v : V), Rel K xa H μ p v → Rel K xa H' μ' p v
  | .non, _, h => h
  | .bl _, _, h => h
  | .int _, _, h => h
  | .str _, _, h => h
  | .tup xs, v, h => by
    obtain ⟨a, vs, e, s, q⟩ := h
    refine ⟨a, vs, e, ?_, Rels.lift x xs vs q⟩
    rcases s with (h | ⟨o, h⟩) | h
    · exact .inl (.inl (x.fix _ _ h id))
    · exact .inl (.inr ⟨o, x.fix _ _ h id⟩)
    · exact .inr h
  | .frz xs, v, h => by
    obtain ⟨a, vs, e, s, q⟩ := h
    refine ⟨a, vs, e, ?_, Rels.lift x xs vs q⟩
    rcases s with ⟨o, h⟩ | h
    · exact .inl ⟨o, x.fix _ _ h id⟩
    · exact .inr h
  | .vl xs, v, h => by
    obtain ⟨a, vs, e, ⟨s, n1, n2⟩, q⟩ := h
    exact ⟨a, vs, e, x.out _ _ s n1 n2, Rels.lift x xs vs q⟩
  | .vd ks xs, v, h => by
    obtain ⟨a, kvs, e, ⟨s, n1, n2⟩, k, q⟩ := h
    exact ⟨a, kvs, e, x.out _ _ s n1 n2, k, Rels.lift x xs _ q⟩
  | .ref n, v, h => by
    obtain ⟨a, e, s⟩ := h
    exact ⟨a, e, x.st _ _ s⟩
  | .fn f, _, h => h
  | .exc _, _, h => h
theorem Rels.lift (x : Lift K H H' μ μ') : ∀ (ps : List PV) (vs : List V), Rels K xa H μ ps vs → Rels K xa H' μ' ps vs
  | [], _, h => h
  | p :: ps, vs, h => by
    obtain ⟨v, ws, e, q1, q2⟩ := h
    exact ⟨v, ws, e, Rel.lift x p v q1, Rels.lift x ps ws q2⟩
end
theorem ER.lift {ρ : Nv} {σ : L2.St} (x : Lift K H H' μ μ') (e : ER K xa H μ ρ σ) : ER K xa H' μ' ρ σ := ⟨e.len, fun i v h => let ⟨y, h1, h2⟩ := e.at_ i v h; ⟨y, h1, h2.imp (Rel.lift x _ _) id⟩⟩
theorem Lift.trans (x : Lift K H H' μ μ') (y : Lift K H' H2 μ' μ2) : Lift K H H2 μ μ2 :=
  ⟨fun n a h => y.st n a (x.st n a h), fun a o h n => y.fix a o (x.fix a o h n) n, fun a o h n1 n2 => let ⟨z1, z2, z3⟩ := x.out a o h n1 n2; y.out a o z1 z2 z3⟩
theorem Lift.refl : Lift K H H μ μ := ⟨fun _ _ h => h, fun _ _ h _ => h, fun _ _ h n1 n2 => ⟨h, n1, n2⟩⟩
theorem Ex.lift (x : Ex μ μ' H H') (r : SR K xa H μ T) : Lift K H H' μ μ' := ⟨fun _ _ h => x.get h, fun _ _ h n => r.keep x h n, fun _ _ h n1 n2 => ⟨x.fr _ _ h n1, x.out h n1, x.outR h n1 n2⟩⟩
end
/-! ### what is wanted of an end -/
section
variable (K : PySem.W.Frag) (xa : Option (Addr × Nat)) (ca : Nat → Addr)
abbrev RRel (α β : Type) := α → β → Hp → Mu → Prop
abbrev rV : RRel PV V := fun v x H μ => Rel K xa H μ v x
abbrev rA : RRel PV (List V) := fun v xs H μ => Rels K xa H μ (asTup v) xs
abbrev rB : RRel Bool Bool := fun b c _ _ => b = c
def Post {α β : Type} (R : RRel α β) (μ : Mu) (H : Hp) (r : Res α) (Q : β → Hp → Prop) (W : Value → Option Addr → Hp → Prop) : Prop := match r with
  | .ok v T => ∀ x μ' H', Ex μ μ' H H' → SR K xa H' μ' T → R v x H' μ' → Q x H'
  | .exc c T => ∀ μ' H', Ex μ μ' H H' → SR K xa H' μ' T → W (.ref (ca c)) none H'
  | .bad => False
def PostS (μ : Mu) (H : Hp) (r : ResS) (D : Ends) (W : WX) : Prop := match r with
  | .bad => False
  | .ok (.next ρ) T => ∀ σ μ' H', Ex μ μ' H H' → SR K xa H' μ' T → ER K xa H' μ' ρ σ → D.nx σ H'
  | .ok (.brk ρ) T => ∀ σ μ' H', Ex μ μ' H H' → SR K xa H' μ' T → ER K xa H' μ' ρ σ → D.bk σ H'
  | .ok (.cont ρ) T => ∀ σ μ' H', Ex μ μ' H H' → SR K xa H' μ' T → ER K xa H' μ' ρ σ → D.ct σ H'
  | .ok (.ret v) T => ∀ x μ' H', Ex μ μ' H H' → SR K xa H' μ' T → Rel K xa H' μ' v x → D.rt x H'
  | .ok (.exc c ρ) T => ∀ σ μ' H', Ex μ μ' H H' → SR K xa H' μ' T → ER K xa H' μ' ρ σ → W (.ref (ca c)) none σ H'
/-- the reading of an expression by its run -/
def tR {α β : Type} (R : RRel α β) (W : WX) (m : Nv → Store → Res α) : L2.St → Hp → (β → Hp → Prop) → Prop := fun σ H Q =>
  ∃ ρ μ T, ER K xa H μ ρ σ ∧ SR K xa H μ T ∧ Post K xa ca R μ H (m ρ T) Q (fun c d H' => W c d σ H')
def tRS (W : WX) (m : Nv → Store → ResS) : TS := fun D σ H =>
  ∃ ρ μ T, ER K xa H μ ρ σ ∧ SR K xa H μ T ∧ PostS K xa ca μ H (m ρ T) D W
end
section
variable {K : PySem.W.Frag} {xa : Option (Addr × Nat)} {ca : Nat → Addr} {α β γ δ : Type} {R : RRel α β} {R' : RRel γ δ} {μ μ1 : Mu} {H H1 : Hp} {T : Store} {ρ : Nv} {σ : L2.St}
theorem Post.shift {r : Res α} {Q : β → Hp → Prop} {W : Value → Option Addr → Hp → Prop} (h : Post K xa ca R μ H r Q W) (x : Ex μ μ1 H H1) : Post K xa ca R μ1 H1 r Q W := by
  cases r with
  | ok v T => exact fun y μ' H' x' s q => h y μ' H' (x.trans x') s q
  | exc c T => exact fun μ' H' x' s => h μ' H' (x.trans x') s
  | bad => exact h
theorem Post.mono {r : Res α} {Q Q' : β → Hp → Prop} {W : Value → Option Addr → Hp → Prop} (h : Post K xa ca R μ H r Q W) (hq : ∀ x H', Q x H' → Q' x H') : Post K xa ca R μ H r Q' W := by
  cases r with
  | ok v T => exact fun y μ' H' x' s q => hq _ _ (h y μ' H' x' s q)
  | exc c T => exact h
  | bad => exact h
/-- the first part, and what is left behind it -/
theorem Post.bind {r : Res α} {f : α → Store → Res γ} {Q : δ → Hp → Prop} {W : Value → Option Addr → Hp → Prop} (h : Post K xa ca R' μ H (r.bind f) Q W) (Q1 : β → Hp → Prop)
    (hq : ∀ v T1 x μ1 H1, Ex μ μ1 H H1 → SR K xa H1 μ1 T1 → R v x H1 μ1 → Post K xa ca R' μ1 H1 (f v T1) Q W → Q1 x H1) : Post K xa ca R μ H r Q1 W := by
  cases r with
  | ok v T => exact fun y μ' H' x' s q => hq v T y μ' H' x' s q (Post.shift (show Post K xa ca R' μ H (f v T) Q W from h) x')
  | exc c T => exact h
  | bad => exact h
theorem PostS.shift {r : ResS} {D : Ends} {W : WX} (h : PostS K xa ca μ H r D W) (x : Ex μ μ1 H H1) : PostS K xa ca μ1 H1 r D W := by
  cases r with
  | bad => exact h
  | ok o T => cases o <;> exact fun y μ' H' x' s q => h y μ' H' (x.trans x') s q
theorem Post.bindS {r : Res α} {f : α → Store → ResS} {D : Ends} {W : WX} (h : PostS K xa ca μ H (r.bindS ρ f) D W) (e : ER K xa H μ ρ σ) (s0 : SR K xa H μ T) (Q1 : β → Hp → Prop)
    (hq : ∀ v T1 x μ1 H1, Ex μ μ1 H H1 → SR K xa H1 μ1 T1 → R v x H1 μ1 → PostS K xa ca μ1 H1 (f v T1) D W → Q1 x H1) : Post K xa ca R μ H r Q1 (fun c d H' => W c d σ H') := by
  cases r with
  | ok v T => exact fun y μ' H' x' s q => hq v T y μ' H' x' s q (PostS.shift (show PostS K xa ca μ H (f v T) D W from h) x')
  | exc c T => exact fun μ' H' x' s => (show PostS K xa ca μ H (.ok (.exc c ρ) T) D W from h) σ μ' H' x' s (e.mono s0 x')
  | bad => exact h
end
end MP

set_option Elab.async false
set_option linter.all false
set_option maxRecDepth 100000
/-! M2: from the model's syntax to the small tree. -/
namespace MP
open PySem PySem.Spec PyProof.Rows L2

/-- the module's names: defs, constants, dicts, exception classes by numbers; the built-in names that nobody binds -/
structure Tab where
  fns : List (Str × Nat)
  consts : List (Str × Nat)
  dicts : List (Str × Nat)
  clss : List (Str × Nat)
  blts : List Str
  /-- the classes that an except clause of this class catches, and those that it lets by -/
  caught : Nat → List Nat
  passed : Nat → List Nat
  /-- hints: the names whose new lists are written; a new list that is told is written; an empty list among items is written -/
  mu : List Str
  keep : Bool
  nest : Bool

def slotOf (N : List Str) (x : Str) : Option Nat := N.findIdx? (fun y => decide (y = x))
def isVis : Option NameKind → Bool
  | some .local => true
  | some .cell => true
  | some .free => true
  | _ => false
def isLoc : Option NameKind → Bool
  | some .local => true
  | some .cell => true
  | _ => false
def isGl : Option NameKind → Bool
  | some .globalImplicit => true
  | _ => false

def binO : Operator → Option BinO
  | .Add => some .add
  | .Sub => some .sub
  | .Mult => some .mul
  | .FloorDiv => some .fdiv
  | .Mod => some .mod
  | .Pow => some .pow
  | _ => none
def cmpO : PySem.CmpOp → CmpO
  | .Eq => .eq
  | .NotEq => .ne
  | .Lt => .lt
  | .LtE => .le
  | .Gt => .gt
  | .GtE => .ge
  | .Is => .is
  | .IsNot => .isnot
  | .In => .isin
  | .NotIn => .notin
/-- built-in functions by name -/
def primTab : List (Str × Prim) := [("len", .len), ("abs", .abs), ("int", .int), ("str", .str), ("ord", .ord), ("tuple", .tuple), ("list", .list), ("all", .all), ("any", .any), ("sum", .sum), ("divmod", .divmod), ("max", .max), ("min", .min), ("sorted", .sorted), ("dict", .dict)]
def primO (x : Str) : Option Prim := primTab.lookup x
def tyO (x : Str) : Option Tyq :=
  if x = "int" then some .int else if x = "bool" then some .bool else if x = "str" then some .str else if x = "tuple" then some .tuple else if x = "list" then some .list else none
/-- methods by name and number of arguments -/
def methTab : List ((Str × Nat) × Mth) := [(("append", 1), .append), (("pop", 0), .pop), (("pop", 1), .popAt), (("join", 1), .join), (("zfill", 1), .zfill), (("find", 2), .find), (("extend", 1), .extend), (("insert", 2), .insert),
  (("split", 1), .split), (("index", 1), .index), (("get", 1), .get), (("get", 2), .dget)]
def methO (x : Str) (n : Nat) : Option Mth := methTab.lookup (x, n)

/-- plain names in a tuple's target -/
def namesOf (N : List Str) (sc : Scope) : List PySem.Expr → Option (List Nat)
  | [] => some []
  | .Name x _ :: r => if isLoc (sc.names.lookup x) then (slotOf N x).bind fun i => (namesOf N sc r).map (i :: ·) else none
  | _ => none
def targ (N : List Str) (sc : Scope) : PySem.Expr → Option Tgt
  | .Name x _ => if isLoc (sc.names.lookup x) then (slotOf N x).map .nm else none
  | .Tuple es _ _ => (namesOf N sc es).map .tp
  | _ => none
/-- the own names of a comprehension's block with their slots -/
def ownOf (N : List Str) : List (Str × NameKind) → List (Str × Nat)
  | [] => []
  | (x, .local) :: r => match slotOf N x with
    | some i => (x, i) :: ownOf N r
    | none => ownOf N r
  | (x, .cell) :: r => match slotOf N x with
    | some i => (x, i) :: ownOf N r
    | none => ownOf N r
  | _ :: r => ownOf N r
def isSlice : PySem.Expr → Bool
  | .Slice _ _ _ _ => true
  | _ => false
def isStar : PySem.Expr → Bool
  | .Starred _ _ => true
  | _ => false
/-- an attribute's base that the model takes as it is -/
def isSuper : PySem.Expr → Bool
  | .Call (.Name _ _) [] [] _ => true
  | _ => false
def isTup : PySem.Expr → Bool
  | .Tuple _ _ _ => true
  | .List _ _ => true
  | _ => false
def isNil : PySem.Expr → Bool
  | .List [] _ => true
  | _ => false

/-- a compiler of expressions; the first part: what is made anew stands in the store -/
abbrev Rc := Bool → Scope → PySem.Expr → Option E
/-- an argument list -/
def args (f : PySem.Expr → Option E) : List PySem.Expr → Option E
  | [] => some .nil
  | e :: r => if isStar e then none else (f e).bind fun a => (args f r).map fun b => E.cons a b
def part (f : PySem.Expr → Option E) : Option PySem.Expr → Option E
  | none => some (E.lit .non)
  | some e => f e
section
variable (T : Tab) (N : List Str) (hot : Bool) (f : Rc) (m : Bool) (sc : Scope)
def cName (x : Str) : Option E :=
  if x = "__debug__" ∨ x = "__classdict__" then none
  else if isVis (sc.names.lookup x) then (slotOf N x).map E.var
  else if isGl (sc.names.lookup x) then (T.consts.lookup x).map E.glob else none
def cConst : Const → Option E
  | .int i => some (E.lit (.int i))
  | .str s => some (E.lit (.str s.cps.toList))
  | .bool b => some (E.lit (.bl b))
  | .none => some (E.lit .non)
  | _ => none
def cBool (op : PySem.BoolOp) (pos : Pos) : List PySem.Expr → Option E
  | [] => none
  | [a] => f false sc a
  | a :: b :: r => (f false sc a).bind fun x => (f false sc (.BoolOp op (b :: r) pos)).map fun y => match op with
    | .And => E.and x y
    | .Or => E.or x y
/-- a dict of the module -/
def dictG : PySem.Expr → Option Nat
  | .Name x _ => if isGl (sc.names.lookup x) ∧ x ≠ "__debug__" ∧ hot = false then T.dicts.lookup x else none
  | _ => none
def cCmp (a : PySem.Expr) : List PySem.CmpOp → List PySem.Expr → Option E
  | [op], [b] => if behindInMarks op b then none else match dictG T hot sc b with
    | some g => (f false sc a).bind fun x => match op with
      | .In => some (E.kin g true x)
      | .NotIn => some (E.kin g false x)
      | _ => none
    | none => (f false sc a).bind fun x => (f false sc b).map fun y => E.cmp (cmpO op) x y
  | [op, op'], [b, c] => if behindInMarks op' c then none else (f false sc a).bind fun x => (f false sc b).bind fun y => (f false sc c).map fun z => E.chain (cmpO op) (cmpO op') x y z
  | _, _ => none
/-- [::-1] -/
def isRev : PySem.Expr → Bool
  | .Slice none none (some (.UnaryOp .USub (.Constant (.int i) _ _) _)) _ => decide (i = 1)
  | _ => false
def cSub (a : PySem.Expr) (i : PySem.Expr) : Option E :=
  if isRev i then (f false sc a).map (E.rev m)
  else match i with
    | .Slice lo hi none _ => (f false sc a).bind fun x => (part (f false sc) lo).bind fun y => (part (f false sc) hi).map fun z => E.slice m x y z lo.isSome hi.isSome
    | i => if isSlice i then none else match dictG T hot sc a with
      | some g => (f false sc i).map fun y => E.kidx g y
      | none => (f false sc a).bind fun x => (f false sc i).map fun y => E.idx x y
/-- a call by name -/
def cCall (x : Str) (es : List PySem.Expr) : Option E :=
  if x = "__debug__" ∨ x = "__name__" ∨ ¬ isGl (sc.names.lookup x) ∨ es = [] then none
  else match T.fns.lookup x with
    | some k => if hot then none else (args (f false sc) es).map fun y => E.call k y
    | none => if x ∈ T.blts then (primO x).bind fun p => if hot then none else (args (f false sc) es).map fun y => E.prim m p y else none
/-- isinstance(a, T) -/
def cIs (a : PySem.Expr) (y : Str) : Option E :=
  if isGl (sc.names.lookup ("isinstance" : Str)) ∧ isGl (sc.names.lookup y) ∧ ("isinstance" : Str) ∈ T.blts then
    if y ∈ T.blts then (tyO y).bind fun t => if hot ∨ isStar a then none else (f false sc a).map fun z => E.isinst z t
    else match a with
      | .Name x _ => if hot ∧ y ≠ "__debug__" ∧ x ≠ "__debug__" ∧ x ≠ "__classdict__" ∧ isVis (sc.names.lookup x) then (T.clss.lookup y).bind fun c => (slotOf N x).map fun i => E.isexc i (T.caught c) (T.passed c) else none
      | _ => none
  else none
def isCls : List PySem.Expr → Option (PySem.Expr × Str)
  | [a, .Name y _] => some (a, y)
  | _ => none
/-- a call within a call -/
def inCall : List PySem.Expr → Option (Str × List PySem.Expr)
  | [.Call (.Name y _) as [] _] => some (y, as)
  | _ => none
/-- list(range(..)), tuple(range(..)) -/
def cRng (x : Str) (as : List PySem.Expr) : Option E :=
  if (x = "list" ∨ x = "tuple") ∧ isGl (sc.names.lookup x) ∧ isGl (sc.names.lookup ("range" : Str)) ∧ x ∈ T.blts ∧ ("range" : Str) ∈ T.blts ∧ hot = false then
    match args (f false sc) as with
    | some (.cons a .nil) => some (E.lrng m (decide (x = "tuple")) (E.lit (.int 0)) a)
    | some (.cons a (.cons b .nil)) => some (E.lrng m (decide (x = "tuple")) a b)
    | _ => none
  else none
def one1 : List PySem.Expr → Option PySem.Expr
  | [a] => some a
  | _ => none
/-- len(set(a)) -/
def cLenSet (x : Str) (a : PySem.Expr) : Option E :=
  if x = "len" ∧ isGl (sc.names.lookup ("len" : Str)) ∧ isGl (sc.names.lookup ("set" : Str)) ∧ ("len" : Str) ∈ T.blts ∧ ("set" : Str) ∈ T.blts ∧ hot = false ∧ isStar a = false then (f false sc a).map E.lenset else none
/-- d.get(k, x), d a dict of the module -/
def kgetO (g : Nat) : E → Option E
  | .cons a (.cons b .nil) => some (E.kget g a b)
  | _ => none
def cWalk (tg iter : PySem.Expr) : Option (ItK × E) := match iter with
  | .Call (.Name x _) es [] _ => if x = "range" then
      (if isGl (sc.names.lookup x) ∧ ("range" : Str) ∈ T.blts ∧ (es.length = 1 ∨ es.length = 2 ∨ es.length = 3) then (args (f false sc) es).map fun y => (.range, y) else none)
    else if x = "enumerate" then
      (if isGl (sc.names.lookup x) ∧ ("enumerate" : Str) ∈ T.blts ∧ es.length = 1 ∧ isTup tg = true then (args (f false sc) es).map fun y => (.enum, y) else none)
    else if x = "zip" then
      (if isGl (sc.names.lookup x) ∧ ("zip" : Str) ∈ T.blts ∧ es.length = 2 ∧ isTup tg = true then (args (f false sc) es).map fun y => (.zip, y) else none)
    else (f false sc iter).map fun y => (.plain, E.cons y .nil)
  | .Set _ _ _ => none
  | iter => (f false sc iter).map fun y => (.plain, E.cons y .nil)
def cIfs (scope : Scope) : List PySem.Expr → Option E
  | [] => some (E.lit (.bl true))
  | [c] => f false scope c
  | _ => none
/-- the scope of a comprehension's block -/
def isBlk (sc : Scope) : Bool := match sc.names.lookup (".0" : Str) with
  | some .local => true
  | _ => false
def cComp (elt : PySem.Expr) (gs : List Comprehension) (scope : Scope) : Option E := match gs with
  | [⟨tg, iter, ifs, k⟩] =>
    if hot = false ∧ k = 0 ∧ blkC N sc scope (ownOf N scope.names) = true ∧ isBlk scope = true then
      (cIfs f (relS scope sc) ifs).bind fun c => (targ N scope tg).bind fun g => if (slotsT g).all (fun i => decide (i ∈ (ownOf N scope.names).map (·.2))) = false then none else (f false (relS scope sc) elt).bind fun y => (cWalk T f sc tg iter).map fun w =>
        E.comp m (!isBlk sc) g ((ownOf N scope.names).map (·.2)) w.1 w.2 c y
    else none
  | [⟨tg, iter, ifs, k⟩, ⟨tg2, iter2, ifs2, k2⟩] =>
    if hot = false ∧ k = 0 ∧ k2 = 0 ∧ blkC N sc scope (ownOf N scope.names) = true ∧ isBlk scope = true then
      (cIfs f (relS scope sc) ifs).bind fun c => (targ N scope tg).bind fun g => (targ N scope tg2).bind fun g2 => if (slotsT g ++ slotsT g2).all (fun i => decide (i ∈ (ownOf N scope.names).map (·.2))) = false then none else (f false (relS scope sc) elt).bind fun y => (cWalk T f sc tg iter).bind fun w =>
        (cIfs f (relS scope sc) ifs2).bind fun c2 => (cWalk T f (relS scope sc) tg2 iter2).map fun w2 =>
        E.comp2 m g ((ownOf N scope.names).map (·.2)) w.1 w.2 c g2 w2.1 w2.2 c2 y
    else none
  | _ => none
def cDcomp (ek elt : PySem.Expr) (gs : List Comprehension) (scope : Scope) : Option E := match gs with
  | [⟨tg, iter, ifs, k⟩] =>
    if hot = false ∧ k = 0 ∧ blkC N sc scope (ownOf N scope.names) = true ∧ isBlk scope = true then
      (cIfs f (relS scope sc) ifs).bind fun c => (targ N scope tg).bind fun g => if (slotsT g).all (fun i => decide (i ∈ (ownOf N scope.names).map (·.2))) = false then none else (f false (relS scope sc) ek).bind fun x => (f false (relS scope sc) elt).bind fun y => (cWalk T f sc tg iter).map fun w =>
        E.dcomp m g ((ownOf N scope.names).map (·.2)) w.1 w.2 c x y
    else none
  | _ => none
def step : PySem.Expr → Option E
  | .Constant c _ _ => cConst c
  | .Name x _ => cName T N sc x
  | .Tuple es _ _ => (args (f false sc) es).map E.tup
  | .List es _ => (args (fun e => f (T.nest && isNil e) sc e) es).map (E.list m)
  | .Dict [] [] _ => some (E.dict m)
  | .BinOp a op b _ => (binO op).bind fun o => (f false sc a).bind fun x => (f false sc b).map fun y => E.bin m o x y
  | .UnaryOp .USub a _ => (f false sc a).map E.neg
  | .UnaryOp .Not a _ => (f false sc a).map E.not
  | .BoolOp op es pos => cBool f sc op pos es
  | .IfExp c a b _ => (f false sc c).bind fun x => (f m sc a).bind fun y => (f m sc b).map fun z => E.ite x y z
  | .Compare a ops bs _ => cCmp T hot f sc a ops bs
  | .Subscript a i _ => cSub T hot f m sc a i
  | .Call (.Name x _) es [] _ => if x = "isinstance" then (isCls es).bind fun p => cIs T N hot f sc p.1 p.2 else match inCall es with
    | some (y, as) => if y = "set" then (one1 as).bind fun a => cLenSet T hot f sc x a
      else if y = "range" then cRng T hot f m sc x as else cCall T hot f m sc x es
    | none => cCall T hot f m sc x es
  | .Call (.Attribute o x apos) es [] pos => if apos.endLine = pos.line ∧ isSuper o = false ∧ hot = false then match dictG T hot sc o with
    | some g => if x = "get" then (args (f false sc) es).bind (kgetO g) else none
    | none => (methO x es.length).bind fun k => (f false sc o).bind fun x => (args (f false sc) es).map fun y => E.meth m k x y
    else none
  | .ListComp elt gs scope _ => cComp T N hot f m sc elt gs scope
  | .DictComp ek elt gs scope _ => cDcomp T N hot f m sc ek elt gs scope
  | _ => none
end
def compE (T : Tab) (N : List Str) (hot : Bool) : Nat → Rc
  | 0 => fun _ _ _ => none
  | n + 1 => fun m sc e => step T N hot (compE T N hot n) m sc e

/-! ### statements -/
def isComp : PySem.Expr → Bool
  | .ListComp _ _ _ _ => true
  | .SetComp _ _ _ _ => true
  | .DictComp _ _ _ _ _ => true
  | _ => false
/-- x = [..] on one line -/
def swapT (sc : Scope) (x : Str) (px : Pos) : PySem.Expr → Bool
  | .ListComp _ _ scope pos => (match sc.names.lookup x with | some .local => true | _ => false) && decide (px.line = pos.line) && !(scope.names.any fun (n, k) => n == x && (k == .local || k == .cell))
  | .DictComp _ _ _ scope pos => (match sc.names.lookup x with | some .local => true | _ => false) && decide (px.line = pos.line) && !(scope.names.any fun (n, k) => n == x && (k == .local || k == .cell))
  | _ => false
section
variable (T : Tab) (N : List Str) (hot : Bool) (f : Rc) (g : List Stmt → Option S) (h : List Stmt → Option S) (sc : Scope)
def cPar : PySem.Expr → PySem.Expr → Option S
  | .Tuple [.Name x px, .Name y py] _ _, .Tuple [a, b] _ _ =>
    if hot = false ∧ sc.names.lookup x = some .local ∧ sc.names.lookup y = some .local ∧ x ≠ y ∧ px.line = py.line ∧ isStar a = false ∧ isStar b = false ∧ [a, b].all (foldedForSure 8) = false ∧ [a, b].all (constantsAlone 8) = false then
      (slotOf N x).bind fun i => (slotOf N y).bind fun j => (args (f false sc) [a, b]).map fun es => S.par i j es
    else none
  | _, _ => none
def cAsg (tg e : PySem.Expr) : Option S := match tg with
  | .Name x px =>
    if isComp e && !swapT sc x px e then
      none
    else (targ N sc tg).bind fun g => (f (decide (x ∈ T.mu)) sc e).map fun y => S.asg g y
  | .Tuple _ _ _ => if isTup e then cPar N hot f sc tg e else if hot ∨ isComp e then none else (targ N sc tg).bind fun g => (f false sc e).map fun y => S.asg g y
  | .Subscript a i _ => if hot ∨ isSlice i ∨ isComp e then none else (f false sc a).bind fun x => (f false sc i).bind fun k => (f false sc e).map fun y => S.setix x k y
  | _ => none
def cRaise : PySem.Expr → Option S
  | .Call (.Name x _) [.Constant (.str _) _ _] [] _ => if isGl (sc.names.lookup x) ∧ x ≠ "__debug__" ∧ hot = false then (T.clss.lookup x).map S.raise else none
  | _ => none
def cTry (body : List Stmt) : List ExceptHandler → Option S
  | [.ExceptHandler (some (.Name x _)) none (b :: su) _] =>
    if hot = false ∧ isGl (sc.names.lookup x) ∧ x ≠ "__debug__" then
      (T.clss.lookup x).bind fun c => (g body).bind fun p => (h (b :: su)).map fun q => S.tryx p (T.caught c) (T.passed c) none q
    else none
  | [.ExceptHandler (some (.Name x _)) (some n) (b :: su) _] =>
    if hot = false ∧ isGl (sc.names.lookup x) ∧ x ≠ "__debug__" ∧ sc.names.lookup n = some .local then
      (T.clss.lookup x).bind fun c => (slotOf N n).bind fun i => (g body).bind fun p => (h (b :: su)).map fun q => S.tryx p (T.caught c) (T.passed c) (some i) q
    else none
  | _ => none
def stepS : Stmt → Option S
  | .Return (some e) _ => (f T.keep sc e).map S.ret
  | .Return none _ => some (S.ret (E.lit .non))
  | .Assign [tg] e _ => cAsg T N hot f sc tg e
  | .AugAssign (.Name x _) op e _ => if isLoc (sc.names.lookup x) then (binO op).bind fun o => (slotOf N x).bind fun i => (f false sc e).map fun y => S.aug i o y else none
  | .For tg iter body [] _ => if hot then none else (targ N sc tg).bind fun t => (cWalk T f sc tg iter).bind fun w => (g body).map fun b => S.loop t w.1 w.2 b
  | .While c body [] _ => if hot then none else (f false sc c).bind fun x => (g body).map fun b => S.whl x b
  | .If c a b _ => (f false sc c).bind fun x => (g a).bind fun y => (g b).map fun z => S.ite x y z
  | .Raise (some e) none _ => cRaise T hot sc e
  | .Try body hs [] [] _ => cTry T N hot g h sc body hs
  | .Expr e _ => if isComp e then none else (f false sc e).map S.exp
  | .Pass _ => some S.skip
  | .Break _ => some S.brk
  | .Continue _ => some S.cont
  | _ => none
/-- a statement that is not served must not be come to -/
def stepSs (p : Stmt → Option S) : List Stmt → Option S
  | [] => some S.skip
  | s :: r => (stepSs p r).map fun b => S.seq ((p s).getD S.bad) b
end
def compS (T : Tab) (N : List Str) (sc : Scope) : Nat → Bool → List Stmt → Option S
  | 0 => fun _ _ => none
  | n + 1 => fun hot ss => stepSs (stepS T N hot (compE T N hot n) (compS T N sc n hot) (compS T N sc n true) sc) ss
end MP

set_option Elab.async false
set_option linter.all false
set_option maxRecDepth 100000
set_option maxHeartbeats 2000000
/-! M3s: list(x) of a text. -/
namespace MP
open PySem PySem.Spec PyProof.Rows L2
section
variable {prog : Program} {w : World} {A : Around} {E : Value → Shared → Prop} {s : Shared}
theorem ls_hint {x : Str} {t : Tok} {Q : Bool → Shared → Prop} (h : Q false s) : wpAny (model prog w) A (Builtin.List.listLengthHint (.str x t)) Q E s := by
  have ty : s.TypeIs (.str x t) "str" := typeIs_str s x t
  unfold Builtin.List.listLengthHint
  refine wpAny_bind (wpAny_specialOf ty F.slot_str_len.lookup ?_)
  generalize hq : ("str.__len__" : String) = q0
  wp_delta
  have hs : splitId q0 = some ("str", "__len__") := by subst hq; decide +kernel
  rw [hs]
  subst hq
  refine wpAny_bind (wpAny_isInstance (T := "str") (b := true) ty (by rw [isSubtype_type]; kernel_rfl) ?_)
  refine wpAny_ite_split (fun z => absurd z (by decide)) fun _ => ?_
  refine wpAny_ite_split (fun _ => ?_) fun z => absurd (by decide +kernel) z
  exact wpAny_bind (wpAny_typeOf ty (wpAny_pure h))
theorem ls_walks (hh : A.handled = none) (I : Addr) (x : Str) (t : Tok) : Walks prog w A I [I] [I] x.cps.size (SignAt x) fun i h => h.IsStrIter I (strIterType x) x t i := by
  unfold strIterType
  cases e : x.cps.all (· < 128)
  · exact .strWide hh I x t
  · exact .strAscii hh I x t
theorem ls_ext {R : Result → Shared → Prop} (hh : A.handled = none) (x : Str) (t : Tok) (p : Addr) (res : Value) (c₀ : Nat) (hp : s.heap.get? p = some { cls := .type "list", data := .seq #[] c₀ })
    (k : ∀ h' tk acc c, (∀ b o, b ≠ p → s.heap.get? b = some o → h'.get? b = some o) → h'.get? p = some { cls := .type "list", dict := none, data := .seq acc c, slots := #[] } →
      ItemsOf (SignAt x) acc x.cps.size → R (.ok (.ret res)) { s with heap := h', toks := tk }) (hn : x.cps.size ≤ sizeLine) :
    wpAny (model prog w) A.in1 (Builtin.List.listExtendWith (.ref p) (.str x t) res)
      (fun fin s' => match fin with | .done f => R (.ok f) s' | .again c' => c'.quiet = true ∧ codeAny (model prog w) A c' R s') (fun e s' => R (.error e) s') s := by
  have ne : p ≠ s.heap.objs.size := Nat.ne_of_lt (Heap.lt_size hp)
  have nm : p ∉ [s.heap.objs.size] := fun z => ne (List.mem_singleton.mp z)
  unfold Builtin.List.listExtendWith
  refine wpAny_bind (wpAny_typeOf (T := "str") (v := .str x t) (typeIs_str s x t) ?_)
  have e1 : Builtin.List.listSameRef (.ref p) (.str x t) = false := rfl
  have e2 : (Value.type "str" == Value.type "list") = false := by decide
  have e3 : (Value.type "str" == Value.type "tuple") = false := by decide
  simp only [e1, e2, e3, Bool.or_false, Bool.false_eq_true, if_false]
  refine wpAny_bind (wpAny_pyIter_strU ?_)
  refine wpAny_bind (wpAny_holding (ls_hint ?_))
  rw [if_neg (by first | decide | decide +kernel)]
  have W := ls_walks (prog := prog) (w := w) (A := A.in1) hh s.heap.objs.size x t
  have st : (s.heap.push { cls := .type (strIterType x), data := .fields #[.str x t, .int 0 0] }).IsStrIter s.heap.objs.size (strIterType x) x t 0 := ⟨_, Heap.get?_push_size _ rfl, rfl, rfl⟩
  refine wpAny_pure ⟨plainId_quiet PySem.F.plain_extend_loop _, codeAny_extend_loopS W.toS hn _ nm _ x.cps.size 0 _ _ _ rfl (Nat.zero_le _) st (Heap.get?_push_of_some _ hp) (ItemsOf.nil _) fun s' acc c' hm hp' ha => ?_⟩
  rw [Moved.eq_with hm]
  refine k s'.heap s'.toks acc c' (fun b o hb e => hm.heap b o (fun z => ?_) (Heap.get?_push_of_some _ e)) hp' ha
  rcases List.mem_cons.mp z with q | q
  · exact hb q
  · exact absurd (Heap.lt_size e) (by rw [List.mem_singleton.mp q]; exact Nat.lt_irrefl _)
theorem ls_init {R : Result → Shared → Prop} (hh : A.handled = none) (x : Str) (t : Tok) (p : Addr) (hp : s.heap.get? p = some { cls := .type "list", data := .seq #[] })
    (k : ∀ h' tk acc c, (∀ b o, b ≠ p → s.heap.get? b = some o → h'.get? b = some o) → h'.get? p = some { cls := .type "list", dict := none, data := .seq acc c, slots := #[] } →
      ItemsOf (SignAt x) acc x.cps.size → R (.ok (.ret .none)) { s with heap := h', toks := tk }) (hn : x.cps.size ≤ sizeLine) :
    wpAny (model prog w) A.in1 (Builtin.«list.__init__» ⟨[.ref p, .str x t], []⟩)
      (fun fin s' => match fin with | .done f => R (.ok f) s' | .again c' => c'.quiet = true ∧ codeAny (model prog w) A c' R s') (fun e s' => R (.error e) s') s := by
  show wpAny _ _ (do let o ← Builtin.List.listItems (.ref p); Builtin.List.listUpdate (.ref p) (fun _ => #[]); PySem.letGo o.toList.reverse; Builtin.List.listExtendWith (.ref p) (.str x t) .none) _ _ s
  refine wpAny_bind ?_
  unfold Builtin.List.listItems
  refine wpAny_bind (wpAny_seqItems hp rfl (wpAny_pure ?_))
  show wpAny _ _ (updateSeq p (fun _ => #[]) >>= fun _ => PySem.letGo (#[] : Array Value).toList.reverse >>= fun _ => Builtin.List.listExtendWith (.ref p) (.str x t) .none) _ _ s
  refine wpAny_bind (wpAny_updateSeq hp rfl ?_)
  have hp₂ := Heap.get?_update_self (Obj.mapSeq (fun _ => (#[] : Array Value))) hp rfl
  refine wpAny_bind (wpAny_letGo (ls_ext hh x t p .none _ hp₂ (fun h' tk acc c hk hp' ha => ?_) hn))
  exact k h' tk acc c (fun b o hb e => hk b o hb ((Heap.get?_update_other _ _ (Ne.symm hb)).trans e)) hp' ha
theorem ls_call {x : Str} {t : Tok} {Q : Value → Shared → Prop} (hh : A.handled = none) (hn : x.cps.size ≤ sizeLine)
    (k : ∀ h' tk acc c, (∀ b o, s.heap.get? b = some o → h'.get? b = some o) →
      h'.get? s.heap.objs.size = some { cls := .type "list", dict := none, data := .seq acc c, slots := #[] } → ItemsOf (SignAt x) acc x.cps.size → Q (.ref s.heap.objs.size) { s with heap := h', toks := tk }) :
    wpAny (model prog w) A (call (.type "list") [.str x t]) Q E s := by
  refine callType_codes (Q₁ := fun o s₁ => o = .ref s.heap.objs.size ∧ s₁ = { s with heap := s.heap.push { cls := .type "list", data := .seq #[] } }) PySem.F.called_list (PySem.F.typeCall_list_1 _) PySem.F.entry_list_init
    (code_list_new _ ⟨rfl, rfl⟩) fun o s₁ h₁ => ?_
  obtain ⟨rfl, rfl⟩ := h₁
  have hp : (s.heap.push { cls := .type "list", data := .seq #[] }).get? s.heap.objs.size = some { cls := .type "list", data := .seq #[] } := Heap.get?_push_size _ rfl
  refine ⟨⟨_, hp, rfl⟩, PySem.F.args_list_init_2 _ _, ls_init (A := A.in1) hh x t _ hp (fun h' tk acc c hk hp' ha => ?_) hn⟩
  exact ⟨rfl, k h' tk acc c (fun b o e => hk b o (Nat.ne_of_lt (Heap.lt_size e)) (Heap.get?_push_of_some _ e)) hp' ha⟩
end
section
variable {X : Cx}
/-- list(x) of a text: its signs -/
theorem call_list_txt (hc : X.calm = true) : CallR X (.type "list") (fun xs H Q => ∃ z : List Nat, xs = [.str ⟨z.toArray⟩] ∧ z.length ≤ sizeLine ∧ ∀ l, H l = none → Q (.ref l) (upd H l (.lst (z.map fun c => V.str ⟨#[c]⟩)))) := by
  intro pins s σ H xs us Q I r h
  obtain ⟨z, rfl, hz, q⟩ := h
  obtain ⟨u, rfl, t, rfl⟩ := vals1 r
  refine ls_call (I.ok.hd hc) (by simpa using hz) fun h' tk acc c hk e hi => ?_
  refine ⟨.ref s.heap.objs.size, upd H s.heap.objs.size (.lst (z.map fun c => V.str ⟨#[c]⟩)), I.laid hk (Nat.le_refl _) ⟨by rw [List.length_map]; exact hz, acc.toList, c, ?_, by rw [Array.toArray_toList]; exact e⟩, rfl, q _ (I.hok.fresh (Nat.le_refl _))⟩
  refine vals_of_idx _ _ (by rw [List.length_map, Array.length_toList]; simpa using hi.1) fun j u hj => ?_
  obtain ⟨d, t', hd, rfl⟩ := hi.2 j u (by rw [← Array.getElem?_toList]; exact hj)
  exact ⟨.str ⟨#[d]⟩, by rw [List.getElem?_map]; simp at hd; simp [hd], ⟨_, rfl⟩⟩
end
/-! list.extend(t), t a tuple -/
theorem ext_tup (l : Addr) (xs : Array Value) (n : Nat) (b : Addr) (ys : Array Value) (n2 : Nat) (dd : Option Addr) (sl : Array (Option Value))
    (h0 : ¬(!xs.isEmpty && Builtin.List.listTooLong (xs.size + ys.size)) = true) (h1 : xs.size ≤ sizeLine) (h2 : xs.size + ys.size ≤ sizeLine + 1) :
    Meets (Builtin.«list.extend» ⟨[.ref l, .ref b], []⟩) fun _ R s => s.heap.get? l = some ⟨.type "list", none, .seq xs n, #[]⟩ ∧ s.heap.get? b = some ⟨.type "tuple", dd, .seq ys n2, sl⟩ ∧
      R (.ok (.ret Value.none)) { s with heap := s.heap.update l (Obj.mapSeq fun x => x ++ ys), toks := s.toks } :=
  .of_wp fun prog w A R s h => by
    obtain ⟨hp, g, d, tk, os⟩ := s
    obtain ⟨hl, hb, h⟩ := h
    have f1 := AutoSeq1.idx_int
    have f2 := AutoSeq1.sub_tuple_tuple
    have f3 := AutoSeq1.sub_list_list
    have f4 := AutoSeq1.sub_tuple_list
    have f5 := AutoSeq1.sub_list_tuple
    have hz : (xs ++ ys).size ≤ sizeLine + 1 := by rw [Array.size_append]; exact h2
    wp_walk using (wpAny_updateSeq hl rfl (hz := h1) (_hz' := hz)), wpAny_loadPart' hl, wpAny_loadPart' hb
    exact ⟨_, rfl, h⟩
section
variable {X : Cx}
theorem mt_extT : MtM X "list.extend" fun x vs H Q => ∃ l b xs zs, x = .ref l ∧ vs = [.ref b] ∧ H l = some (.lst xs) ∧ SqT X.K H b zs ∧ xs.length + zs.length ≤ sizeLine ∧ Q .non (upd H l (.lst (xs ++ zs))) := by
  intro pins s σ H x vs v us Q I rx rv h
  obtain ⟨l, b, xs, zs, rfl, rfl, hH, hB, hz, q⟩ := h
  cases rx
  obtain ⟨u, rfl, ru⟩ := rv.one
  cases ru
  obtain ⟨z, its, n, r, hl, e⟩ := I.lstM hH
  obtain ⟨its2, r2, pl, z2⟩ := I.tuple hB
  obtain ⟨⟨cls, dd, dt, sl⟩, ho, hc, n2, hd⟩ := pl
  simp only at hc hd
  subst hc
  subst hd
  have hl2 := r2.length
  have hsz : its.toArray.size + its2.toArray.size ≤ sizeLine := by rw [List.size_toArray, List.size_toArray]; omega
  have hlong : ¬ (!its.toArray.isEmpty && Builtin.List.listTooLong (its.toArray.size + its2.toArray.size)) = true := by
    rw [notLongL hsz, Bool.and_false]
    exact Bool.false_ne_true
  refine call_meets F.slot_list_extend ⟨_, e, rfl⟩ F.entry_list_extend (F.args_list_extend_2 _ _) (ext_tup l its.toArray n b its2.toArray n2 dd sl hlong (by rw [List.size_toArray]; omega) (by omega)) ⟨e, ho, ?_⟩
  exact ⟨.non, _, I.lset (its' := its ++ its2) hH e (by simp) (r.append r2) (by rw [List.length_append]; omega), rfl, q⟩
end
end MP

set_option Elab.async false
set_option linter.all false
set_option maxRecDepth 100000
set_option maxHeartbeats 2000000
/-! M3: the operations. -/
namespace MP
open PySem PySem.Spec PyProof.Rows L2
theorem SZ_eq : SZ = sizeLine := by rw [sizeLine_eq]; rfl
theorem le_line {n : Nat} (h : n ≤ SZ) : n ≤ sizeLine := by rw [← SZ_eq]; exact h
section
variable {K : PySem.W.Frag} {xa : Option (Addr × Nat)} {ca : Nat → Addr} {α β : Type} {R : RRel α β} {μ : Mu} {H : Hp} {T : Store} {W : Value → Option Addr → Hp → Prop} {Q : V → Hp → Prop}
theorem Post.here {v : PV} {x : V} (h : Post K xa ca (rV K xa) μ H (.ok v T) Q W) (s : SR K xa H μ T) (r : Rel K xa H μ v x) : Q x H := h x μ H (Ex.refl _ _) s r
theorem Post.tup {xs : List PV} {vs : List V} (h : Post K xa ca (rV K xa) μ H (.ok (.tup xs) T) Q W) (s : SR K xa H μ T) (r : Rels K xa H μ xs vs) : ∀ p, H p = none → Q (.ref p) (upd H p (.tup vs)) := fun p hp =>
  h _ μ _ (s.other hp).1 (s.other hp).2 (s.tup hp r)
theorem Post.newL {m : Bool} {xs : List PV} {vs : List V} (h : Post K xa ca (rV K xa) μ H (newL m xs T) Q W) (s : SR K xa H μ T) (r : Rels K xa H μ xs vs) : ∀ p, H p = none → Q (.ref p) (upd H p (.lst vs)) := fun p hp => by
  cases m with
  | false => exact h _ μ _ (s.other hp).1 (s.other hp).2 (s.vl hp r)
  | true =>
    obtain ⟨x, q⟩ := s.alloc (o := .lst xs) (u := .lst vs) hp ⟨rfl, rfl⟩ r
    refine h _ _ _ x q ⟨p, rfl, ?_⟩
    rw [← s.len, List.getElem?_append_right (Nat.le_refl _), Nat.sub_self] <;> rfl
theorem Post.newD {m : Bool} {ks : List PK} {xs : List PV} {kvs : List (Key × V)} (h : Post K xa ca (rV K xa) μ H (newD m ks xs T) Q W) (s : SR K xa H μ T) (hk : kvs.map (·.1) = ks.map keyV) (r : Rels K xa H μ xs (kvs.map (·.2))) : ∀ p, H p = none → Q (.ref p) (upd H p (.dK kvs)) := fun p hp => by
  cases m with
  | false => exact h _ μ _ (s.other hp).1 (s.other hp).2 (s.vd hp hk r)
  | true =>
    obtain ⟨x, q⟩ := s.alloc (o := .dct ks xs) (u := .dK kvs) hp ⟨rfl, kvs, rfl, hk, rfl⟩ r
    refine h _ _ _ x q ⟨p, rfl, ?_⟩
    rw [← s.len, List.getElem?_append_right (Nat.le_refl _), Nat.sub_self] <;> rfl
theorem Post.wr {n : Nat} {a : Addr} {xs : List PV} {vs : List V} {v : PV} {x : V} (h : Post K xa ca (rV K xa) μ H (.ok v (T.set n (MO.lst xs))) Q W) (s : SR K xa H μ T) (ha : μ.st[n]? = some a) (r : Rels K xa H μ xs vs) (rv : Rel K xa H μ v x) : Q x (upd H a (.lst vs)) := by
  obtain ⟨e, q⟩ := s.write (o := .lst xs) (u := .lst vs) ha ⟨rfl, rfl⟩ r
  exact h _ _ _ e q (Rel.mono s e _ _ rv)
/-- a list of either kind -/
theorem listOf_inv {v : PV} {x : V} {xs : List PV} (s : SR K xa H μ T) (r : Rel K xa H μ v x) (h : listOf T v = some xs) : ∃ a vs, x = .ref a ∧ H a = some (.lst vs) ∧ Rels K xa H μ xs vs := by
  cases v with
  | vl ys =>
    cases h
    obtain ⟨a, vs, rfl, ⟨q, _⟩, rs⟩ := r
    exact ⟨a, vs, rfl, q, rs⟩
  | ref n =>
    obtain ⟨a, vs, rfl, m, e, rs⟩ := s.ref r h
    exact ⟨a, vs, rfl, e, rs⟩
  | _ => cases h
theorem dictOf_inv {v : PV} {x : V} {ks : List PK} {xs : List PV} (s : SR K xa H μ T) (r : Rel K xa H μ v x) (h : dictOf T v = some (ks, xs)) : ∃ a kvs, x = .ref a ∧ H a = some (.dK kvs) ∧ kvs.map (·.1) = ks.map keyV ∧ Rels K xa H μ xs (kvs.map (·.2)) := by
  cases v with
  | vd ks ys =>
    cases h
    obtain ⟨a, kvs, rfl, ⟨e, _⟩, hk, rs⟩ := r
    exact ⟨a, kvs, rfl, e, hk, rs⟩
  | ref n =>
    obtain ⟨a, kvs, rfl, m, e, hk, rs⟩ := s.refD r h
    exact ⟨a, kvs, rfl, e, hk, rs⟩
  | _ => cases h

/-! ### plain data -/
theorem flat_flatV {v : PV} {x : V} (r : Rel K xa H μ v x) (h : flat v = true) : flatV x = true := by
  cases v <;> first | exact absurd (show false = true from h) Bool.false_ne_true | (cases r; rfl)
theorem flats_flatV : ∀ {vs : List PV} {xs : List V}, Rels K xa H μ vs xs → vs.all flat = true → xs.all flatV = true
  | [], _, r, _ => by rw [show _ = _ from r] <;> rfl
  | v :: vs, _, r, h => by
    obtain ⟨x, xs, rfl, r1, r2⟩ := r
    rw [List.all_cons, Bool.and_eq_true] at h
    rw [List.all_cons, flat_flatV r1 h.1, flats_flatV r2 h.2] <;> rfl
theorem str_beq (a b : List Nat) : ((⟨a.toArray⟩ : Str) == ⟨b.toArray⟩) = (a == b) := SX.S_beq a b
theorem peq_eqV {v w : PV} {x y : V} (r : Rel K xa H μ v x) (q : Rel K xa H μ w y) (h : flat v = true) (h' : flat w = true) : eqV x y = peq v w := by
  cases v <;> first
    | exact absurd (show false = true from h) Bool.false_ne_true
    | (cases r; cases w <;> first | exact absurd (show false = true from h') Bool.false_ne_true | (cases q; first | rfl | (exact str_beq _ _)))
theorem inSeq_inV : ∀ {vs : List PV} {xs : List V} {w : PV} {y : V}, Rels K xa H μ vs xs → Rel K xa H μ w y → vs.all flat = true → flat w = true → inV y xs = inSeq w vs
  | [], _, w, y, r, _, _, _ => by rw [show _ = _ from r] <;> rfl
  | v :: vs, _, w, y, r, q, h, h' => by
    obtain ⟨x, xs, rfl, r1, r2⟩ := r
    rw [List.all_cons, Bool.and_eq_true] at h
    unfold inV
    rw [List.any_cons]
    unfold inSeq
    have ih : inV y xs = inSeq w vs := inSeq_inV r2 q h.2 h'
    unfold inV at ih
    rw [ih, peq_eqV r1 q h.1 h']
mutual
def toD : PV → PyData
  | .bl b => .bool b
  | .int i => .int i
  | .str s => .str ⟨s.toArray⟩
  | .tup xs => .tuple (toDs xs)
  | .vl xs => .list (toDs xs)
  | _ => .none
def toDs : List PV → List PyData
  | [] => []
  | x :: xs => toD x :: toDs xs
end
mutual
theorem toD_dp : ∀ (n : Nat) (v : PV) (x : V), Rel K xa H μ v x → plainD n v = true → Dp K H x (toD v)
  | _, .non, _, r, _ => by cases r; exact .non
  | _, .bl _, _, r, _ => by cases r; exact .bl _
  | _, .int _, _, r, _ => by cases r; exact .int _
  | _, .str _, _, r, _ => by cases r; exact .str _
  | 0, .tup _, _, _, h => by simp [plainD] at h
  | n + 1, .tup xs, _, r, h => by
    obtain ⟨a, vs, rfl, s, q⟩ := r
    exact .tup s (toDs_dp n xs vs q (by simpa [plainD] using h))
  | 0, .vl _, _, _, h => by simp [plainD] at h
  | n + 1, .vl xs, _, r, h => by
    obtain ⟨a, vs, rfl, ⟨s, _⟩, q⟩ := r
    exact .lst (.of s) (toDs_dp n xs vs q (by simpa [plainD] using h))
  | _, .vd _ _, _, _, h => by simp [plainD] at h
  | _, .frz _, _, _, h => by simp [plainD] at h
  | _, .fn _, _, _, h => by simp [plainD] at h
  | _, .ref _, _, _, h => by simp [plainD] at h
  | _, .exc _, _, _, h => by simp [plainD] at h
theorem toDs_dp : ∀ (n : Nat) (vs : List PV) (xs : List V), Rels K xa H μ vs xs → plainDs n vs = true → DpAll K H xs (toDs vs)
  | _, [], _, r, _ => by rw [show _ = _ from r]; exact .nil
  | n, v :: vs, _, r, h => by
    obtain ⟨x, xs, rfl, r1, r2⟩ := r
    have h : (plainD n v && plainDs n vs) = true := by simpa [plainDs] using h
    rw [Bool.and_eq_true] at h
    exact .cons (toD_dp n v x r1 h.1) (toDs_dp n vs xs r2 h.2)
end
mutual
theorem toD_can : ∀ (n : Nat) (v : PV), plainD n v = true → (toD v).canLay0 = true ∧ (toD v).depth ≤ n
  | _, .non, _ => ⟨rfl, Nat.zero_le _⟩
  | _, .bl _, _ => ⟨rfl, Nat.zero_le _⟩
  | _, .int _, _ => ⟨rfl, Nat.zero_le _⟩
  | _, .str s, h => ⟨by
      have h : (s.all fun c => decide (c < 1114112)) = true := by simpa [plainD] using h
      show ((⟨s.toArray⟩ : Str).cps.all (· < 0x110000)) = true
      simpa using h, Nat.zero_le _⟩
  | 0, .tup _, h => by simp [plainD] at h
  | n + 1, .tup xs, h => by
    obtain ⟨h1, h2⟩ := toDs_can n xs (by simpa [plainD] using h)
    exact ⟨h1, Nat.succ_le_succ h2⟩
  | 0, .vl _, h => by simp [plainD] at h
  | n + 1, .vl xs, h => by
    obtain ⟨h1, h2⟩ := toDs_can n xs (by simpa [plainD] using h)
    exact ⟨h1, Nat.succ_le_succ h2⟩
  | _, .vd _ _, h => by simp [plainD] at h
  | _, .frz _, h => by simp [plainD] at h
  | _, .fn _, h => by simp [plainD] at h
  | _, .ref _, h => by simp [plainD] at h
  | _, .exc _, h => by simp [plainD] at h
theorem toDs_can : ∀ (n : Nat) (vs : List PV), plainDs n vs = true → PyData.canLayAll0 (toDs vs) = true ∧ PyData.depthAll (toDs vs) ≤ n
  | _, [], _ => ⟨rfl, Nat.zero_le _⟩
  | n, v :: vs, h => by
    have h : (plainD n v && plainDs n vs) = true := by simpa [plainDs] using h
    rw [Bool.and_eq_true] at h
    obtain ⟨a1, a2⟩ := toD_can n v h.1
    obtain ⟨b1, b2⟩ := toDs_can n vs h.2
    exact ⟨by show (PyData.canLay0 (toD v) && PyData.canLayAll0 (toDs vs)) = true; rw [a1, b1] <;> rfl, Nat.max_le.mpr ⟨a2, b2⟩⟩
end
theorem toD_shaped {v : PV} (h : plainD 60 v = true) : SeqAt.shaped (toD v) = true := by
  obtain ⟨a, b⟩ := toD_can 60 v h
  unfold SeqAt.shaped
  rw [a, Bool.true_and]
  exact decide_eq_true (by omega)
mutual
theorem toD_eqv : ∀ (n m : Nat) (v w : PV), plainD n v = true → plainD m w = true → PyData.eqv (toD v) (toD w) = peq v w
  | n, m, v, w, h, h' => by
    cases v with
    | vd _ _ => simp [plainD] at h
    | frz _ => simp [plainD] at h
    | fn _ => simp [plainD] at h
    | ref _ => simp [plainD] at h
    | exc _ => simp [plainD] at h
    | tup xs =>
      cases n with
      | zero => simp [plainD] at h
      | succ n =>
        cases w with
        | vd _ _ => simp [plainD] at h'
        | frz _ => simp [plainD] at h'
        | fn _ => simp [plainD] at h'
        | ref _ => simp [plainD] at h'
        | exc _ => simp [plainD] at h'
        | tup ys =>
          cases m with
          | zero => simp [plainD] at h'
          | succ m =>
            have z := toDs_eqv n m xs ys (by simpa [plainD] using h) (by simpa [plainD] using h')
            simpa [toD, PyData.eqv, peq] using z
        | _ => simp [toD, PyData.eqv, peq]
    | vl xs =>
      cases n with
      | zero => simp [plainD] at h
      | succ n =>
        cases w with
        | vd _ _ => simp [plainD] at h'
        | frz _ => simp [plainD] at h'
        | fn _ => simp [plainD] at h'
        | ref _ => simp [plainD] at h'
        | exc _ => simp [plainD] at h'
        | vl ys =>
          cases m with
          | zero => simp [plainD] at h'
          | succ m =>
            have z := toDs_eqv n m xs ys (by simpa [plainD] using h) (by simpa [plainD] using h')
            simpa [toD, PyData.eqv, peq] using z
        | _ => simp [toD, PyData.eqv, peq]
    | str s =>
      cases w with
      | vd _ _ => simp [plainD] at h'
      | frz _ => simp [plainD] at h'
      | fn _ => simp [plainD] at h'
      | ref _ => simp [plainD] at h'
      | exc _ => simp [plainD] at h'
      | str t => simp only [toD, PyData.eqv, peq]; exact str_beq _ _
      | _ => simp [toD, PyData.eqv, peq]
    | _ =>
      cases w with
      | vd _ _ => simp [plainD] at h'
      | frz _ => simp [plainD] at h'
      | fn _ => simp [plainD] at h'
      | ref _ => simp [plainD] at h'
      | exc _ => simp [plainD] at h'
      | _ => simp [toD, PyData.eqv, peq]
theorem toDs_eqv : ∀ (n m : Nat) (vs ws : List PV), plainDs n vs = true → plainDs m ws = true → PyData.eqvAll (toDs vs) (toDs ws) = peqs vs ws
  | n, m, [], [], _, _ => rfl
  | n, m, [], w :: ws, _, _ => rfl
  | n, m, v :: vs, [], _, _ => rfl
  | n, m, v :: vs, w :: ws, h, h' => by
    have h : (plainD n v && plainDs n vs) = true := by simpa [plainDs] using h
    have h' : (plainD m w && plainDs m ws) = true := by simpa [plainDs] using h'
    rw [Bool.and_eq_true] at h h'
    show (PyData.eqv (toD v) (toD w) && PyData.eqvAll (toDs vs) (toDs ws)) = (peq v w && peqs vs ws)
    rw [toD_eqv n m v w h.1 h'.1, toDs_eqv n m vs ws h.2 h'.2]
end
theorem toDs_any {n m : Nat} {w : PV} (h' : plainD m w = true) : ∀ {vs : List PV}, plainDs n vs = true → (toDs vs).any (fun z => PyData.eqv z (toD w)) = inSeq w vs
  | [], _ => rfl
  | v :: vs, h => by
    have h : (plainD n v && plainDs n vs) = true := by simpa [plainDs] using h
    rw [Bool.and_eq_true] at h
    show (PyData.eqv (toD v) (toD w) || (toDs vs).any _) = (peq v w || inSeq w vs)
    rw [toD_eqv n m v w h.1 h', toDs_any h' h.2]
end

/-- what an operation of two values asks -/
def rBi (K : PySem.W.Frag) (xa : Option (Addr × Nat)) (ca : Nat → Addr) (f : PV → PV → Store → Res PV) : R2 := fun x y H Q =>
  ∃ v w μ T W, SR K xa H μ T ∧ Rel K xa H μ v x ∧ Rel K xa H μ w y ∧ Post K xa ca (rV K xa) μ H (f v w T) Q W
/-- a comparison -/
def rCp (K : PySem.W.Frag) (xa : Option (Addr × Nat)) (f : PV → PV → Store → Option Bool) : R2 := fun x y H Q =>
  ∃ v w μ T b, SR K xa H μ T ∧ Rel K xa H μ v x ∧ Rel K xa H μ w y ∧ f v w T = some b ∧ Q (.bl b) H
def rCl (K : PySem.W.Frag) (xa : Option (Addr × Nat)) (ca : Nat → Addr) (f : List PV → Store → Res PV) : List V → Hp → VK → Prop := fun xs H Q =>
  ∃ vs μ T W, SR K xa H μ T ∧ Rels K xa H μ vs xs ∧ Post K xa ca (rV K xa) μ H (f vs T) Q W
def rMt (K : PySem.W.Frag) (xa : Option (Addr × Nat)) (ca : Nat → Addr) (f : PV → List PV → Store → Res PV) : V → List V → Hp → VK → Prop := fun x xs H Q =>
  ∃ v vs μ T W, SR K xa H μ T ∧ Rel K xa H μ v x ∧ Rels K xa H μ vs xs ∧ Post K xa ca (rV K xa) μ H (f v vs T) Q W
theorem pow64 : (18446744073709551616 : Nat) = 2 ^ 64 := by decide

/-! ### tuple * int, str * int -/
section
theorem tupMul_one (l : Addr) (items : Array Value) (n : Nat) (dd : Option Addr) (sl : Array (Option Value)) (u : Tok) : Meets (Builtin.«tuple.__mul__» ⟨[.ref l, .int 1 u], []⟩) (fun _ R s => (s.heap.get? l = some { cls := .type "tuple", dict := dd, data := .seq items n, slots := sl }) ∧ R (.ok (.ret (Value.ref l))) s) :=
  .of_wp fun pr w A R s h => by
    obtain ⟨hp, g, d, tk, os⟩ := s
    obtain ⟨hl, h⟩ := h
    have f1 := AutoSeq1.idx_int; wp_walk using wpAny_loadPart' hl
    repeat (first | (refine wpAny_ite_false (by decide) ?_; wp_walk using wpAny_loadPart' hl) | (refine wpAny_ite_true (by simp) ?_; wp_walk using wpAny_loadPart' hl))
    exact ⟨_, rfl, h⟩
theorem tupMul_zero (l : Addr) (items : Array Value) (n : Nat) (dd : Option Addr) (sl : Array (Option Value)) (u : Tok) (hi : items.isEmpty = false) : Meets (Builtin.«tuple.__mul__» ⟨[.ref l, .int 0 u], []⟩) (fun _ R s => (s.heap.get? l = some { cls := .type "tuple", dict := dd, data := .seq items n, slots := sl }) ∧ R (.ok (.ret (Value.ref s.heap.objs.size))) { s with heap := s.heap.push { cls := Value.type "tuple", data := Data.seq #[] } }) :=
  .of_wp fun pr w A R s h => by
    obtain ⟨hp, g, d, tk, os⟩ := s
    obtain ⟨hl, h⟩ := h
    have f1 := AutoSeq1.idx_int; wp_walk using wpAny_loadPart' hl
    repeat (first | (refine wpAny_ite_false (by decide) ?_; wp_walk using wpAny_loadPart' hl) | (refine wpAny_ite_false (by rw [hi]; decide) ?_; wp_walk using wpAny_loadPart' hl) | (refine wpAny_ite_true (by simp) ?_; wp_walk using wpAny_loadPart' hl))
    exact ⟨_, rfl, h⟩
variable {X : Cx}
/-- a tuple times an int from 0 on -/
theorem op_repTA : OpR X (binaryOp .Mult) (fun x y H Q => ∃ l k xs, x = .ref l ∧ y = .int k ∧ SqT X.K H l xs ∧ xs ≠ [] ∧ 0 ≤ k ∧ k ≤ 1000 ∧ xs.length ≤ 1000 ∧ (k = 1 → Q (.ref l) H) ∧ (k ≠ 1 → ∀ p, H p = none → Q (.ref p) (upd H p (.tup (List.replicate k.toNat xs).flatten)))) := by
  intro pins s σ H x y v u Q I rx ry h
  obtain ⟨l, k, xs, rfl, rfl, hT, hne, h1, h2, hz, q1, q2⟩ := h
  by_cases hk : 2 ≤ k
  · exact op_repT pins s σ H _ _ v u Q I rx ry ⟨l, k, xs, rfl, rfl, hT, hne, hk, h2, hz, q2 (by omega)⟩
  cases rx
  obtain ⟨t, rfl⟩ := ry
  obtain ⟨its, r, ⟨⟨cls, dd, data, sl⟩, ho, hc, n, hd⟩, hs⟩ := I.tuple hT
  simp only at hc hd
  subst hc hd
  have hi : its.toArray.isEmpty = false := by
    cases its with
    | nil => exact absurd (by cases xs with | nil => rfl | cons a b => cases r) hne
    | cons a b => rfl
  have rd : k = 0 ∨ k = 1 := by omega
  rcases rd with rfl | rfl
  · refine wpAny_binaryOp_repeat_ref (T := "tuple") (U := "int") (by decide) ⟨_, ho, rfl⟩ (fun s' => typeIs_int s' 0 t) noFill_tuple_mul F.fills_int_mul F.slot_int_rmul repeat_tuple F.slot_int_index.lookup
      (call_meets F.slot_int_rmul (typeIs_int s 0 t) F.entry_int_rmul (F.args_int_rmul_2 _ _) (int_rmul_tuple 0 t l its.toArray n dd sl) ⟨ho, rfl, ⟨_, ho, rfl⟩, call_meets F.slot_tuple_mul ⟨_, ho, rfl⟩ F.entry_tuple_mul (F.args_tuple_mul_2 _ _) (tupMul_zero l its.toArray n dd sl t hi) ⟨ho, ?_⟩⟩)
    refine ⟨.ref s.heap.objs.size, _, I.laid (t' := s.toks) (o := .tup []) (fun b ob q => Heap.get?_push_of_some _ q) (Nat.le_refl _) ?_, rfl, q2 (by decide) _ (I.hok.fresh (Nat.le_refl _))⟩
    exact ⟨Nat.zero_le _, [], .nil, IsTup.new _ _⟩
  · refine wpAny_binaryOp_repeat_ref (T := "tuple") (U := "int") (by decide) ⟨_, ho, rfl⟩ (fun s' => typeIs_int s' 1 t) noFill_tuple_mul F.fills_int_mul F.slot_int_rmul repeat_tuple F.slot_int_index.lookup
      (call_meets F.slot_int_rmul (typeIs_int s 1 t) F.entry_int_rmul (F.args_int_rmul_2 _ _) (int_rmul_tuple 1 t l its.toArray n dd sl) ⟨ho, rfl, ⟨_, ho, rfl⟩, call_meets F.slot_tuple_mul ⟨_, ho, rfl⟩ F.entry_tuple_mul (F.args_tuple_mul_2 _ _) (tupMul_one l its.toArray n dd sl t) ⟨ho, ?_⟩⟩)
    exact ⟨.ref l, H, I, rfl, q1 rfl⟩
theorem op_mulS : OpR X (binaryOp .Mult) (fun x y H Q => ∃ (z : List Nat) (k : Int), x = .str ⟨z.toArray⟩ ∧ y = .int k ∧ 0 ≤ k ∧ k < 1000 ∧ z.length < 1000 ∧ Q (.str ⟨((List.replicate k.toNat z).flatten).toArray⟩) H) := by
  intro pins s σ H x y v u Q I rx ry h
  obtain ⟨z, k, rfl, rfl, h1, h2, hz, q⟩ := h
  obtain ⟨t, rfl⟩ := rx
  obtain ⟨t', rfl⟩ := ry
  have hl : (⟨z.toArray⟩ : Str).length = z.length := SX.S_len z
  have hm : z.length * k.toNat ≤ 1000 * 1000 := Nat.mul_le_mul (by omega) (by omega)
  have fl : ∀ (n : Nat), (List.replicate n z.toArray).foldl (· ++ ·) #[] = (List.replicate n z).flatten.toArray := fun n => by
    have h : ∀ (n : Nat) (acc : List Nat), (List.replicate n z.toArray).foldl (· ++ ·) acc.toArray = (acc ++ (List.replicate n z).flatten).toArray := by
      intro n
      induction n with
      | zero => intro acc; simp
      | succ n ih =>
        intro acc
        rw [List.replicate_succ, List.foldl_cons, List.replicate_succ, List.flatten_cons, ← List.append_assoc, ← ih]
        simp
    simpa using h n []
  have hsz : ((List.replicate k.toNat z).flatten).length ≤ 1000 * 1000 := by
    rw [List.length_flatten, List.map_replicate, List.sum_replicate_nat, Nat.mul_comm]
    exact hm
  refine PySem.P.mul_str (by rw [decide_eq_false (by omega), decide_eq_false (by omega)] <;> rfl) (fun g1 g2 => ?_) (fun g1 g2 => ?_) ?_
  · rw [hl]
    have hk : k ≠ 0 := by omega
    have : (2 ^ 63 - 1 : Int) / k ≥ (2 ^ 63 - 1) / 1000 := by
      have hh : (2 ^ 63 - 1 : Int) / 1000 * k ≤ 2 ^ 63 - 1 := by
        have e : (2 ^ 63 - 1 : Int) / 1000 = 9223372036854775 := by decide
        rw [e]
        omega
      exact (Int.le_ediv_iff_mul_le (by omega)).mpr hh
    have e : (2 ^ 63 - 1 : Int) / 1000 = 9223372036854775 := by decide
    omega
  · rw [hl]
    unfold Builtin.Str.tooLong
    rw [sizeLine_eq]
    exact decide_eq_false (by omega)
  · split
    · have : k = 0 := by omega
      subst this
      exact ⟨by decide, .str _, H, I.tok _, ⟨_, rfl⟩, q⟩
    · split
      · rename_i hk
        have e : (List.replicate k.toNat z).flatten = z := by
          rw [hl] at hk
          rcases Bool.or_eq_true _ _ |>.mp hk with hk | hk
          · have : k = 1 := by simpa using hk
            subst this; simp
          · have : z = [] := by simpa using hk
            subst this; simp
        rw [e] at q
        exact ⟨.str _, H, I, ⟨_, rfl⟩, q⟩
      · have e : (⟨(List.replicate k.toNat (⟨z.toArray⟩ : Str).cps).foldl (· ++ ·) #[]⟩ : Str) = ⟨((List.replicate k.toNat z).flatten).toArray⟩ := congrArg Str.mk (fl k.toNat)
        rw [e]
        refine ⟨?_, .str _, H, I.tok _, ⟨_, rfl⟩, q⟩
        rw [SX.S_len]
        rw [sizeLine_eq]; omega
end
section
variable {X : Cx} {xa : Option (Addr × Nat)} {ca : Nat → Addr}
theorem str_app (a b : List Nat) : (⟨a.toArray⟩ : Str) ++ ⟨b.toArray⟩ = ⟨(a ++ b).toArray⟩ := SX.S_cat a b
theorem str_len (a : List Nat) : (⟨a.toArray⟩ : Str).length = a.length := SX.S_len a
theorem op_bin (m : Bool) (o : BinO) (op : Operator) (e : binO op = some o) : OpR X (binaryOp op) (rBi X.K xa ca (binOp m o)) := by
  rintro pins s σ H x y v u Q I rx ry ⟨a, b, μ, T, W, sr, ra, rb, h⟩
  unfold binOp at h
  split at h
  · cases op <;> first | cases e | skip
    cases ra; cases rb
    exact op_add pins s σ H _ _ v u Q I rx ry ⟨_, _, rfl, rfl, h.here sr rfl⟩
  · cases op <;> first | cases e | skip
    split at h
    · rename_i hz
      cases ra; cases rb
      exact op_add_str pins s σ H _ _ v u Q I rx ry ⟨_, _, rfl, rfl, by rw [str_len, str_len]; exact le_line hz, h.here sr (show V.str _ = V.str _ by rw [str_app])⟩
    · exact h.elim
  · cases op <;> first | cases e | skip
    split at h
    · rename_i xs ys hz
      obtain ⟨a1, vs, rfl, s1, q1⟩ := ra
      obtain ⟨a2, ws, rfl, s2, q2⟩ := rb
      have hr := q1.append q2
      refine op_catA pins s σ H _ _ v u Q I rx ry ⟨a1, a2, vs, ws, rfl, rfl, s1, s2, by rw [← q1.length, ← q2.length]; exact le_line hz, fun z => ?_, fun _ z => ?_, fun _ _ => h.tup sr hr⟩
      · subst z
        exact h.here sr ⟨a2, _, rfl, s2, hr⟩
      · subst z
        exact h.here sr ⟨a1, _, rfl, s1, by simpa using hr⟩
    · exact h.elim
  · cases op <;> first | cases e | skip
    cases ra; cases rb
    exact op_sub pins s σ H _ _ v u Q I rx ry ⟨_, _, rfl, rfl, h.here sr rfl⟩
  · cases op <;> first | cases e | skip
    split at h
    · rename_i hz
      cases ra; cases rb
      exact op_mulW pins s σ H _ _ v u Q I rx ry ⟨_, _, rfl, rfl, hz, h.here sr rfl⟩
    · exact h.elim
  · cases op <;> first | cases e | skip
    split at h
    · rename_i hz
      cases ra; cases rb
      exact op_mulS pins s σ H _ _ v u Q I rx ry ⟨_, _, rfl, rfl, hz.1, hz.2.1, hz.2.2, h.here sr rfl⟩
    · exact h.elim
  · cases op <;> first | cases e | skip
    split at h
    · rename_i xs k hz
      obtain ⟨a1, vs, rfl, s1, q1⟩ := ra
      cases rb
      have hr := q1.rep k.toNat
      have hl := q1.length
      refine op_repTA pins s σ H _ _ v u Q I rx ry ⟨a1, k, vs, rfl, rfl, s1, fun z => hz.2.2.2 (by subst z; cases xs <;> first | rfl | cases hl), hz.1, hz.2.1, by rw [← hl]; exact hz.2.2.1, fun z => ?_, fun _ => h.tup sr hr⟩
      subst z
      refine h.here sr ⟨a1, _, rfl, s1, ?_⟩
      simpa using q1
    · exact h.elim
  · cases op <;> first | cases e | skip
    split at h
    · rename_i hz
      cases ra; cases rb
      exact op_fdivW pins s σ H _ _ v u Q I rx ry ⟨_, _, rfl, rfl, hz, h.here sr rfl⟩
    · exact h.elim
  · cases op <;> first | cases e | skip
    split at h
    · rename_i hz
      cases ra; cases rb
      exact op_mod pins s σ H _ _ v u Q I rx ry ⟨_, _, rfl, rfl, hz, h.here sr rfl⟩
    · exact h.elim
  · cases op <;> first | cases e | skip
    split at h
    · rename_i hz
      cases ra; cases rb
      exact op_pow pins s σ H _ _ v u Q I rx ry ⟨_, _, rfl, rfl, ⟨hz.1, hz.2.1, by rw [← pow64]; exact hz.2.2⟩, h.here sr rfl⟩
    · exact h.elim
  · cases op <;> first | cases e | skip
    split at h
    · rename_i xs ys e1 e2
      split at h
      · rename_i hz
        obtain ⟨a1, vs, rfl, s1, q1⟩ := listOf_inv sr ra e1
        obtain ⟨a2, ws, rfl, s2, q2⟩ := listOf_inv sr rb e2
        exact op_cat pins s σ H _ _ v u Q I rx ry ⟨a1, a2, vs, ws, rfl, rfl, s1, s2, by rw [← q1.length, ← q2.length]; exact le_line hz, h.newL sr (q1.append q2)⟩
      · exact h.elim
    · exact h.elim
  · cases op <;> first | cases e | skip
    split at h
    · rename_i xs e1
      split at h
      · rename_i hz
        obtain ⟨a1, vs, rfl, s1, q1⟩ := listOf_inv sr ra e1
        cases rb
        exact op_rep pins s σ H _ _ v u Q I rx ry ⟨a1, _, vs, rfl, rfl, s1, by omega, by omega, by rw [← q1.length]; exact le_line hz.2.2, h.newL sr (q1.rep _)⟩
      · exact h.elim
    · exact h.elim
  · exact h.elim
theorem shal_dp {a : PV} {μ : Mu} {H : Hp} {T : Store} {x : V} {K : PySem.W.Frag} (sr : SR K xa H μ T) (ra : Rel K xa H μ a x) {n : Nat} (h : plainD n (shal T a) = true) : Dp K H x (toD (shal T a)) := by
  cases a with
  | ref m =>
    unfold shal at h ⊢
    simp only at h ⊢
    split at h
    · rename_i xs e
      obtain ⟨p, vs, rfl, _, s, q⟩ := sr.ref ra e
      cases n with
      | zero => simp [plainD] at h
      | succ n => exact .lst (.of s) (toDs_dp n xs vs q (by simpa [plainD] using h))
    · simp [plainD] at h
  | _ => exact toD_dp n _ x ra h
theorem op_eq_all (hu : X.A.units + 70 < cLine) {a b : PV} {μ : Mu} {H : Hp} {T : Store} {x y : V} {Q : VK} (sr : SR X.K xa H μ T) (ra : Rel X.K xa H μ a x) (rb : Rel X.K xa H μ b y)
    {pins s σ} {v u : Value} (I : Inv X pins σ H s) (rx : RelV x v) (ry : RelV y u) (hp : plainD 60 (shal T a) = true ∧ plainD 60 (shal T b) = true) (q : Q (.bl (peq (shal T a) (shal T b))) H) :
    wpAny (model X.prog X.w) X.A (compareOp .Eq v u) (EP X pins σ Q) X.xe s :=
  op_eqD (by omega) pins s σ H x y v u Q I rx ry ⟨toD (shal T a), toD (shal T b), shal_dp sr ra hp.1, shal_dp sr rb hp.2, toD_shaped hp.1, toD_shaped hp.2, by rw [toD_eqv 60 60 _ _ hp.1 hp.2]; exact q⟩
theorem op_ne_all (hu : X.A.units + 70 < cLine) {a b : PV} {μ : Mu} {H : Hp} {T : Store} {x y : V} {Q : VK} (sr : SR X.K xa H μ T) (ra : Rel X.K xa H μ a x) (rb : Rel X.K xa H μ b y)
    {pins s σ} {v u : Value} (I : Inv X pins σ H s) (rx : RelV x v) (ry : RelV y u) (hp : plainD 60 (shal T a) = true ∧ plainD 60 (shal T b) = true) (q : Q (.bl (!peq (shal T a) (shal T b))) H) :
    wpAny (model X.prog X.w) X.A (compareOp .NotEq v u) (EP X pins σ Q) X.xe s :=
  op_neD (by omega) pins s σ H x y v u Q I rx ry ⟨toD (shal T a), toD (shal T b), shal_dp sr ra hp.1, shal_dp sr rb hp.2, toD_shaped hp.1, toD_shaped hp.2, by rw [toD_eqv 60 60 _ _ hp.1 hp.2]; exact q⟩
theorem str_dec (a b : List Nat) : decide (V.str ⟨a.toArray⟩ = V.str ⟨b.toArray⟩) = (a == b) := by
  rw [dec_str]; exact str_beq a b
theorem shal_flat {T : Store} {a : PV} (h : flat a = true) : shal T a = a := by
  cases a <;> first | rfl | exact absurd (show false = true from h) Bool.false_ne_true
theorem flat_plain {a b : PV} {μ : Mu} {H : Hp} {x y : V} (ra : Rel X.K xa H μ a x) (rb : Rel X.K xa H μ b y) (ha : flat a = true) (hb : flat b = true) :
    (scal x y = true ∧ decide (x = y) = peq a b) ∨ (plainD 60 a = true ∧ plainD 60 b = true) := by
  cases a <;> first | exact absurd (show false = true from ha) Bool.false_ne_true | skip
  all_goals cases ra
  all_goals (cases b <;> first | exact absurd (show false = true from hb) Bool.false_ne_true | skip)
  all_goals cases rb
  all_goals first
    | exact .inl ⟨rfl, rfl⟩
    | exact .inl ⟨rfl, str_dec _ _⟩
    | exact .inl ⟨rfl, dec_int⟩
    | exact .inl ⟨rfl, dec_bl⟩
    | exact .inl ⟨rfl, by simp [peq]⟩
    | exact .inr ⟨rfl, rfl⟩
theorem isNonV_eq {K : PySem.W.Frag} {H : Hp} {μ : Mu} {a : PV} {x : V} (ra : Rel K xa H μ a x) : isNonV a = decide (x = V.non) := by
  cases a with
  | tup xs => obtain ⟨_, _, rfl, _⟩ := ra; rfl
  | frz xs => obtain ⟨_, _, rfl, _⟩ := ra; rfl
  | vl xs => obtain ⟨_, _, rfl, _⟩ := ra; rfl
  | vd ks xs => obtain ⟨_, _, rfl, _⟩ := ra; rfl
  | fn f => obtain ⟨_, rfl, _⟩ := ra; rfl
  | ref n => obtain ⟨_, rfl, _⟩ := ra; rfl
  | exc n => exact ra.2.elim
  | _ => cases ra; rfl
theorem eq_ok (hu : X.A.units + 70 < cLine) (neg : Bool) {a b : PV} {μ : Mu} {H : Hp} {T : Store} {x y : V} {Q : VK} {r : Bool} (sr : SR X.K xa H μ T) (ra : Rel X.K xa H μ a x) (rb : Rel X.K xa H μ b y) {pins s σ} {v u : Value} (I : Inv X pins σ H s) (rx : RelV x v) (ry : RelV y u)
    (h : eqOp T a b = some r) (q : Q (.bl (if neg then !r else r)) H) : wpAny (model X.prog X.w) X.A (compareOp (if neg then .NotEq else .Eq) v u) (EP X pins σ Q) X.xe s := by
  unfold eqOp at h
  split at h
  · rename_i hf
    rw [Bool.and_eq_true] at hf
    cases h
    rcases flat_plain ra rb hf.1 hf.2 with ⟨z1, z2⟩ | z
    · cases neg with
      | false => exact op_eq pins s σ H _ _ v u Q I rx ry ⟨z1, by rw [z2]; exact q⟩
      | true => exact op_ne pins s σ H _ _ v u Q I rx ry ⟨z1, by rw [z2]; exact q⟩
    · have z' : plainD 60 (shal T a) = true ∧ plainD 60 (shal T b) = true := by rw [shal_flat hf.1, shal_flat hf.2]; exact z
      rw [← shal_flat (T := T) hf.1, ← shal_flat (T := T) hf.2] at q
      cases neg with
      | false => exact op_eq_all hu sr ra rb I rx ry z' q
      | true => exact op_ne_all hu sr ra rb I rx ry z' q
  · split at h
    · rename_i hp
      rw [Bool.and_eq_true] at hp
      cases h
      cases neg with
      | false => exact op_eq_all hu sr ra rb I rx ry hp q
      | true => exact op_ne_all hu sr ra rb I rx ry hp q
    · cases h
theorem keyOf_kV {q : PK} {a : PV} {K : PySem.W.Frag} {μ : Mu} {H : Hp} {x : V} (ra : Rel K xa H μ a x) (h : keyOf a = some q) : x = kV (keyV q) := by
  cases a with
  | int i => cases h; cases ra; rfl
  | str s => cases h; cases ra; rfl
  | _ => cases h
theorem keyV_inj {p q : PK} (h : keyV p = keyV q) : p = q := by
  cases p <;> cases q <;> simp [keyV] at h ⊢ <;> exact h
theorem kGet_val {K : PySem.W.Frag} {μ : Mu} {H : Hp} : ∀ {ks : List PK} {vs : List PV} {kvs : List (Key × V)} (q : PK), kvs.map (·.1) = ks.map keyV → Rels K xa H μ vs (kvs.map (·.2)) →
    match kGet ks vs q with
    | some p => ∃ z, valV kvs (keyV q) = some z ∧ Rel K xa H μ p z
    | none => valV kvs (keyV q) = none
  | [], vs, kvs, q, hk, hr => by
    cases kvs with
    | nil =>
      have : vs = [] := by have := hr.length; cases vs <;> simp at this ⊢
      subst this; rfl
    | cons a b => simp at hk
  | k :: ks, vs, kvs, q, hk, hr => by
    cases kvs with
    | nil => simp at hk
    | cons a b =>
      rw [List.map_cons, List.map_cons, List.cons.injEq] at hk
      cases vs with
      | nil => have := hr.length; simp at this
      | cons v vs =>
        obtain ⟨z, zs, e, r1, r2⟩ := hr
        rw [List.map_cons, List.cons.injEq] at e
        have ih := kGet_val q hk.2 (by rw [e.2]; exact r2)
        by_cases h : k = q
        · subst h
          unfold kGet
          rw [if_pos rfl]
          exact ⟨a.2, valV_pos hk.1, by rw [e.1]; exact r1⟩
        · unfold kGet
          rw [if_neg h, valV_neg (fun z => h (keyV_inj (hk.1.symm.trans z)))]
          exact ih
theorem in_ok (hu : X.A.units + 70 < cLine) (neg : Bool) {a b : PV} {μ : Mu} {H : Hp} {T : Store} {x y : V} {Q : VK} {r : Bool} (sr : SR X.K xa H μ T) (ra : Rel X.K xa H μ a x) (rb : Rel X.K xa H μ b y) {pins s σ} {v u : Value} (I : Inv X pins σ H s) (rx : RelV x v) (ry : RelV y u)
    (h : inAny T a b = some r) (q : Q (.bl (if neg then !r else r)) H) : wpAny (model X.prog X.w) X.A (compareOp (if neg then .NotIn else .In) v u) (EP X pins σ Q) X.xe s := by
  have seq : ∀ (xs : List PV) (p : Addr) (vs : List V), y = .ref p → (SqL X.K H p vs ∨ SqT X.K H p vs) → Rels X.K xa H μ xs vs → (flat a && xs.all flat) = true → r = inSeq a xs →
      wpAny (model X.prog X.w) X.A (compareOp (if neg then .NotIn else .In) v u) (EP X pins σ Q) X.xe s := fun xs p vs e1 e2 e3 hf e4 => by
    rw [Bool.and_eq_true] at hf
    subst e1 e4
    cases neg with
    | false => exact op_in_seq pins s σ H _ _ v u Q I rx ry ⟨p, vs, rfl, e2, flat_flatV ra hf.1, flats_flatV e3 hf.2, by rw [inSeq_inV e3 ra hf.2 hf.1]; exact q⟩
    | true => exact op_notIn_seq pins s σ H _ _ v u Q I rx ry ⟨p, vs, rfl, e2, flat_flatV ra hf.1, flats_flatV e3 hf.2, by rw [inSeq_inV e3 ra hf.2 hf.1]; exact q⟩
  have dct : ∀ (ks : List PK) (xs : List PV) (p : Addr) (kvs : List (Key × V)) (j : PK), y = .ref p → H p = some (.dK kvs) → kvs.map (·.1) = ks.map keyV → Rels X.K xa H μ xs (kvs.map (·.2)) → keyOf a = some j → r = (kGet ks xs j).isSome →
      wpAny (model X.prog X.w) X.A (compareOp (if neg then .NotIn else .In) v u) (EP X pins σ Q) X.xe s := fun ks xs p kvs j e1 e2 e3 e4 e5 e6 => by
    subst e1 e6
    have hx := keyOf_kV ra e5
    subst hx
    have g := kGet_val j e3 e4
    have he : (valV kvs (keyV j)).isSome = (kGet ks xs j).isSome := by
      cases z : kGet ks xs j with
      | none => rw [z] at g; rw [g]; rfl
      | some w => rw [z] at g; obtain ⟨_, g, _⟩ := g; rw [g]; rfl
    have gd : DGet H p (kV (keyV j)) (valV kvs (keyV j)) := DGet.k e2
    cases neg with
    | false => cases ry; exact d_in (by omega) I gd rx fun s3 I3 => ⟨.bl _, H, I3, rfl, by rw [he]; exact q⟩
    | true => cases ry; exact d_notIn (by omega) I gd rx fun s3 I3 => ⟨.bl _, H, I3, rfl, by rw [he]; exact q⟩
  unfold inAny at h
  split at h
  · split at h
    · cases ra; cases rb; cases h
      cases neg with
      | false => exact op_in_sign pins s σ H _ _ v u Q I rx ry ⟨_, _, rfl, rfl, by simpa using q⟩
      | true => exact op_notIn_sign pins s σ H _ _ v u Q I rx ry ⟨_, _, rfl, rfl, by simpa using q⟩
    · cases h
  · rename_i ks vs
    obtain ⟨j, hj, rfl⟩ := Option.map_eq_some_iff.mp h
    obtain ⟨p, kvs, rfl, e, hk, rs⟩ := dictOf_inv (ks := ks) (xs := vs) sr rb rfl
    exact dct _ _ p kvs j rfl e hk rs hj rfl
  · rename_i n
    split at h
    · rename_i xs e
      split at h
      · rename_i hf
        cases h
        obtain ⟨p, vs, rfl, _, s1, q1⟩ := sr.ref rb (xs := xs) (by unfold lstOf; rw [e])
        exact seq _ p vs rfl (.inl (.of s1)) q1 hf rfl
      · cases h
    · rename_i ks vs e
      obtain ⟨j, hj, rfl⟩ := Option.map_eq_some_iff.mp h
      obtain ⟨p, kvs, rfl, _, e, hk, rs⟩ := sr.refD rb (ks := ks) (xs := vs) (by unfold dctOf; rw [e])
      exact dct _ _ p kvs j rfl e hk rs hj rfl
    · cases h
  · rename_i xs
    obtain ⟨p, vs, rfl, ⟨s1, _⟩, q1⟩ := rb
    unfold inOp at h
    split at h
    · rename_i hf
      cases h
      exact seq _ p vs rfl (.inl (.of s1)) q1 hf rfl
    · split at h
      · rename_i hp
        rw [Bool.and_eq_true] at hp
        cases h
        have d1 := toD_dp 60 a x ra hp.1
        have d2 : Dp X.K H (.ref p) (.list (toDs xs)) := .lst (.of s1) (toDs_dp 59 xs vs q1 hp.2)
        have sh : SeqAt.shaped (.list (toDs xs)) = true := toD_shaped (v := .vl xs) (by simpa [plainD] using hp.2)
        cases neg with
        | false => exact op_inD (by omega) pins s σ H _ _ v u Q I rx ry ⟨_, _, d1, d2, toD_shaped hp.1, sh, by rw [toDs_any hp.1 hp.2]; exact q⟩
        | true => exact op_notInD (by omega) pins s σ H _ _ v u Q I rx ry ⟨_, _, d1, d2, toD_shaped hp.1, sh, by rw [toDs_any hp.1 hp.2]; exact q⟩
      · cases h
  · rename_i xs
    obtain ⟨p, vs, rfl, s1, q1⟩ := rb
    unfold inOp at h
    split at h
    · rename_i hf
      cases h
      exact seq _ p vs rfl (.inr s1) q1 hf rfl
    · split at h
      · rename_i hp
        rw [Bool.and_eq_true] at hp
        cases h
        have d1 := toD_dp 60 a x ra hp.1
        have d2 : Dp X.K H (.ref p) (.tuple (toDs xs)) := .tup s1 (toDs_dp 59 xs vs q1 hp.2)
        have sh : SeqAt.shaped (.tuple (toDs xs)) = true := toD_shaped (v := .tup xs) (by simpa [plainD] using hp.2)
        obtain ⟨as, r1⟩ := Dp.reads I _ x v d1 rx
        obtain ⟨bs, r2⟩ := Dp.reads I _ _ u d2 ry
        have q' : Q (.bl (if neg then !(toDs xs).any fun z => PyData.eqv z (toD a) else (toDs xs).any fun z => PyData.eqv z (toD a))) H := by rw [toDs_any hp.1 hp.2]; exact q
        cases neg with
        | false => exact SeqAt.in_tuple_reads r2 r1 (SeqAt.canLay_of_shaped sh) (SeqAt.canLay_of_shaped (toD_shaped hp.1)) (room_in_shaped (toD_shaped hp.1) (by omega)) ⟨.bl _, H, I, rfl, q'⟩
        | true => exact SeqAt.notIn_tuple_reads r2 r1 (SeqAt.canLay_of_shaped sh) (SeqAt.canLay_of_shaped (toD_shaped hp.1)) (room_in_shaped (toD_shaped hp.1) (by omega)) ⟨.bl _, H, I, rfl, q'⟩
      · cases h
  · cases h
theorem op_cmpA (hu : X.A.units + 70 < cLine) (op : PySem.CmpOp) : OpR X (compareOp op) (rCp X.K xa (cmpOp (cmpO op))) := by
  rintro pins s σ H x y v u Q I rx ry ⟨a, b, μ, T, r, sr, ra, rb, h, q⟩
  cases op with
  | Eq => exact eq_ok hu false sr ra rb I rx ry h q
  | NotEq =>
    obtain ⟨r', hr, rfl⟩ := Option.map_eq_some_iff.mp (show (eqOp T a b).map (fun b => !b) = some r from h)
    exact eq_ok hu true sr ra rb I rx ry hr q
  | In => exact in_ok hu false sr ra rb I rx ry h q
  | NotIn =>
    obtain ⟨r', hr, rfl⟩ := Option.map_eq_some_iff.mp (show (inAny T a b).map (fun b => !b) = some r from h)
    exact in_ok hu true sr ra rb I rx ry hr q
  | Is =>
    simp only [cmpOp, cmpO] at h
    split at h
    · cases ra; cases rb; cases h
      exact op_isBl pins s σ H _ _ v u Q I rx ry ⟨_, _, rfl, rfl, by rw [← dec_bl] at q; simpa using q⟩
    · cases rb; cases h
      exact op_isN pins s σ H _ _ v u Q I rx ry ⟨rfl, by rw [← isNonV_eq ra]; exact q⟩
    · cases h
  | IsNot =>
    simp only [cmpOp, cmpO] at h
    split at h
    · cases ra; cases rb; cases h
      exact op_notBl pins s σ H _ _ v u Q I rx ry ⟨_, _, rfl, rfl, by simpa [bne, Bool.beq_eq_decide_eq] using q⟩
    · cases rb; cases h
      exact op_notN pins s σ H _ _ v u Q I rx ry ⟨rfl, by rw [← isNonV_eq ra]; exact q⟩
    · cases h
  | Lt =>
    simp only [cmpOp, cmpO] at h
    split at h
    · cases ra; cases rb; cases h
      exact op_lt pins s σ H _ _ v u Q I rx ry ⟨_, _, rfl, rfl, q⟩
    · cases ra; cases rb; cases h
      exact op_lt_str pins s σ H _ _ v u Q I rx ry ⟨_, _, rfl, rfl, by simpa using q⟩
    · cases h
  | LtE =>
    simp only [cmpOp, cmpO] at h
    split at h
    · cases ra; cases rb; cases h
      exact op_le pins s σ H _ _ v u Q I rx ry ⟨_, _, rfl, rfl, q⟩
    · cases ra; cases rb; cases h
      exact op_le_str pins s σ H _ _ v u Q I rx ry ⟨_, _, rfl, rfl, by simpa using q⟩
    · cases h
  | Gt =>
    simp only [cmpOp, cmpO] at h
    split at h
    · cases ra; cases rb; cases h
      exact op_gt pins s σ H _ _ v u Q I rx ry ⟨_, _, rfl, rfl, q⟩
    · cases ra; cases rb; cases h
      exact op_gt_str pins s σ H _ _ v u Q I rx ry ⟨_, _, rfl, rfl, by simpa using q⟩
    · cases h
  | GtE =>
    simp only [cmpOp, cmpO] at h
    split at h
    · cases ra; cases rb; cases h
      exact op_ge pins s σ H _ _ v u Q I rx ry ⟨_, _, rfl, rfl, q⟩
    · cases ra; cases rb; cases h
      exact op_ge_str pins s σ H _ _ v u Q I rx ry ⟨_, _, rfl, rfl, by simpa using q⟩
    · cases h
end
end MP

set_option Elab.async false
set_option linter.all false
set_option maxRecDepth 100000
set_option maxHeartbeats 2000000
/-! M3r: a tuple turned round, t[::-1]. -/
namespace MP.RT
open PySem PySem.Spec PyProof.Rows
section
variable {prog : Program} {w : World} {A : Around} {E : Value → Shared → Prop} {s : Shared}
/-- the places of a slice from the end -/
theorem applied {b : Addr} {n : Nat} {u : Tok} {Q : Int × Int × Nat → Shared → Prop} (hb : s.heap.IsSliceOf b .none .none (.int (-1) u)) (h : Q ((n : Int) - 1, -1, n) s) : wpAny (model prog w) A (Builtin.Slice.sliceApplied (.ref b) (pure (n : Int))) Q E s := by
  obtain ⟨ob, h1, h2, h3⟩ := id hb
  unfold Builtin.Slice.sliceApplied Builtin.Slice.sliceFields
  refine wpAny_bind (wpAny_bind (wpAny_field h1 h3 (x := .none) rfl (wpAny_bind (wpAny_field h1 h3 (x := .none) rfl (wpAny_bind (wpAny_field h1 h3 (x := .int (-1) u) rfl (wpAny_pure ?_)))))))
  refine wpAny_bind (slicePart_int ?_)
  show wpAny _ _ (if ((-1 : Int) == 0) = true then _ else _) _ _ s; rw [if_neg (show ¬ ((-1 : Int) == 0) = true by decide)]
  refine wpAny_bind (HT.slicePart_ .none (wpAny_bind (HT.slicePart_ .none (wpAny_bind (wpAny_pure ?_)))))
  have e : Builtin.Slice.slicePlaces ((n : Int) - 1) (-1) (-1) = n := by
    unfold Builtin.Slice.slicePlaces
    rw [if_neg (show ¬ ((-1 : Int) > 0) by decide)]
    split
    · have : ((n : Int) - 1 - -1 - 1) / (- -1) + 1 = (n : Int) := by rw [show (- -1 : Int) = 1 from rfl, Int.ediv_one]; omega
      rw [this]; omega
    · omega
  show wpAny _ _ (pure ((n : Int) - 1, (-1 : Int), Builtin.Slice.slicePlaces ((n : Int) - 1) (-1) (-1))) _ _ s; rw [e]
  exact wpAny_pure h
theorem fm_congr {α β : Type} {f g : α → Option β} : ∀ {l : List α}, (∀ x ∈ l, f x = g x) → l.filterMap f = l.filterMap g
  | [], _ => rfl
  | x :: r, h => by rw [List.filterMap_cons, List.filterMap_cons, h x List.mem_cons_self, fm_congr fun y hy => h y (List.mem_cons_of_mem _ hy)]
theorem picked (xs : Array Value) : ((List.range xs.size).filterMap fun (k : Nat) => xs[((xs.size : Int) - 1 + (k : Int) * (-1)).toNat]?).toArray = xs.toList.reverse.toArray := by
  congr 1
  have e : (List.range xs.size).filterMap (fun (k : Nat) => xs[((xs.size : Int) - 1 + (k : Int) * (-1)).toNat]?) = (List.range xs.reverse.size).filterMap (fun (k : Nat) => xs.reverse[k]?) := by
    rw [Array.size_reverse]
    refine fm_congr fun k hk => ?_
    have hk := List.mem_range.mp hk
    have : ((xs.size : Int) - 1 + (k : Int) * (-1)).toNat = xs.size - 1 - k := by omega
    rw [this, Array.getElem?_reverse hk]
  rw [e, PySem.W.krv_all]
  simp
theorem getItem {t b : Addr} {its : Array Value} {u : Tok} {Q : Value → Shared → Prop} (ht : IsTup s.heap t its) (hb : s.heap.IsSliceOf b .none .none (.int (-1) u)) (hz : its.size ≤ sizeLine)
    (h : Q (.ref s.heap.objs.size) { s with heap := s.heap.push { cls := .type "tuple", data := .seq its.toList.reverse.toArray } }) : wpAny (model prog w) A (PySem.getItem (.ref t) (.ref b)) Q E s := by
  have ok : sizeOk (.seq its.toList.reverse.toArray) := by
    show its.toList.reverse.toArray.size ≤ sizeLine
    simpa using hz
  obtain ⟨ob, h1, h2, h3⟩ := id hb
  have isS : s.TypeIs (.ref b) "slice" := ⟨ob, h1, h2⟩
  unfold PySem.getItem
  try with_reducible refine wpAny_holding ?_
  first | refine wpAny_bind (wpAny_pure ?_) | skip
  refine wpAny_bind (wpAny_sequenceKey ht.typeIs (by decide) (wpAny_bind (wpAny_callSpecial?_slot (name := Str.ofString "__getitem__") ht.typeIs PyProof.Rows.slot_tuple_getitem (wpAny_call_entry PyProof.Rows.slot_tuple_getitem ht.typeIs entry_tuple_getitem ?_ (args_tuple_getitem _ _)))))
  show wpAny _ _ (Builtin.Tuple.tupleItemsOf (.ref t) >>= _) _ _ s; refine wpAny_bind (tupleItemsOf_ ht (wpAny_bind (wpAny_typeOf isS ?_)))
  rw [if_pos (show (Value.type "slice" == Value.type "slice") = true by decide)]; refine wpAny_bind (applied hb ?_)
  show wpAny _ _ (if (((its.size : Int) - 1) == 0 && (-1 : Int) == 1 && its.size == its.size) = true then _ else _) _ _ s
  rw [if_neg (show ¬ ((((its.size : Int) - 1) == 0 && (-1 : Int) == 1 && its.size == its.size) = true) by simp), picked]
  first
    | exact wpAny_bind (m := Builtin.Tuple.tupleExact _) (wpAny_newObj_type (wpAny_pure ⟨_, rfl, wpAny_pure h⟩) ok)
    | exact wpAny_bind (m := Builtin.Tuple.tupleExact _) (wpAny_newObj_type (wpAny_bind (wpAny_pure (wpAny_pure ⟨_, rfl, wpAny_pure h⟩))) ok)
    | exact wpAny_bind (wpAny_bind (m := Builtin.Tuple.tupleExact _) (wpAny_newObj_type (wpAny_pure (wpAny_pure ⟨_, rfl, wpAny_pure h⟩)) ok))
    | exact wpAny_bind (wpAny_bind (m := Builtin.Tuple.tupleExact _) (wpAny_newObj_type (wpAny_pure ⟨_, rfl, wpAny_pure h⟩) ok))
end
end MP.RT
namespace MP
open PySem PySem.Spec PyProof.Rows L2
section
variable {X : Cx}
/-- a list or a tuple turned round -/
theorem pe_revA {e : PySem.Expr} {te : TE} {k : Nat} {p1 p2 p3 pos : Pos} (he : PE X e te) : PE X (.Subscript e (.Slice none none (some (.UnaryOp .USub (.Constant (.int 1) k p1) p2)) p3) pos)
    (fun σ H Q => te σ H fun x H1 => ∃ a xs, x = .ref a ∧ ((SqL X.K H1 a xs ∧ ∀ p, H1 p = none → Q (.ref p) (upd H1 p (.lst xs.reverse))) ∨ (SqT X.K H1 a xs ∧ ∀ p, H1 p = none → Q (.ref p) (upd H1 p (.tup xs.reverse))))) := by
  refine ⟨fun pins s σ H Q I h => ?_⟩
  refine Subscript_ (thn (he.run pins s σ H _ I h) fun v s1 ⟨x, H1, I1, r1, a, xs, hx, q⟩ => ?_)
  subst hx; cases r1
  have st : PO X (some (.UnaryOp .USub (.Constant (.int 1) k p1) p2)) (tPart (tUn (rU fun i => .int (-i)) (tC (.int 1)))) := po_some (pe_un un_neg pe_int)
  refine wpAny_Slice (thn (po_none.run pins s1 σ H1 (fun o H2 => o = none ∧ H2 = H1) I1 ⟨rfl, rfl⟩) fun vl s2 ⟨o1, H2, I2, pl, e1, e2⟩ => ?_)
  subst e1 e2
  refine thn (po_none.run pins s2 σ H2 (fun o H3 => o = none ∧ H3 = H2) I2 ⟨rfl, rfl⟩) fun vu s3 ⟨o2, H3, I3, pu, e3, e4⟩ => ?_
  subst e3 e4
  refine thn (st.run pins s3 σ H3 (fun o H4 => o = some (-1) ∧ H4 = H3) I3 ⟨1, rfl, -1, rfl, rfl, rfl⟩) fun vs s4 ⟨o3, H4, I4, ps, e5, e6⟩ => ?_
  subst e5 e6
  have I5 : Inv X pins σ H4 { s4 with heap := s4.heap.push { cls := .type "slice", data := .fields #[vl, vu, vs] } } := I4.kept (t' := s4.toks) fun b ob q => Heap.get?_push_of_some _ q
  show wpAny (model X.prog X.w) X.A (subscriptTail e (.Slice none none (some (.UnaryOp .USub (.Constant (.int 1) k p1) p2)) p3) (.ref a) (.ref s4.heap.objs.size)) (EP X pins σ Q) X.xe _
  rcases q with ⟨hq, q⟩ | ⟨hq, q⟩
  · obtain ⟨its, r, ht, hz⟩ := I5.list hq
    have hl := r.length
    refine tail_any (ops := [.ref a, .ref s4.heap.objs.size]) ht.isList.typeIs (PySem.slot_list_getitem.lookup) (wpAny_getItem_list_slice ht.isList (Heap.IsSliceOf.new _ vl vu vs) pl pu ps (by decide) ?_ (by rw [List.size_toArray]; omega)) (by with_unfolding_all rfl)
    rw [PySem.W.krv_pick]
    refine ⟨.ref _, _, I5.laid (t' := s4.toks) (o := .lst xs.reverse) (fun b ob q => Heap.get?_push_of_some _ q) (Nat.le_refl _) ⟨by rw [List.length_reverse]; exact hz, _, 0, r.reverse, Heap.get?_push_size _ rfl⟩, rfl, q _ (I5.hok.fresh (Nat.le_refl _))⟩
  · obtain ⟨its, r, ht, hz⟩ := I5.tuple hq
    have hl := r.length
    cases pl; cases pu; cases ps
    refine tail_any (ops := [.ref a, .ref s4.heap.objs.size]) ht.typeIs (PyProof.Rows.slot_tuple_getitem.lookup) (RT.getItem ht (Heap.IsSliceOf.new _ _ _ _) (by rw [List.size_toArray]; omega) ?_) (by with_unfolding_all rfl)
    refine ⟨.ref _, _, I5.laid (t' := s4.toks) (o := .tup xs.reverse) (fun b ob q => Heap.get?_push_of_some _ q) (Nat.le_refl _) ⟨by rw [List.length_reverse]; exact hz, _, r.reverse, IsTup.new _ _⟩, rfl, q _ (I5.hok.fresh (Nat.le_refl _))⟩
end
end MP

set_option Elab.async false
set_option linter.all false
set_option maxRecDepth 100000
set_option maxHeartbeats 2000000
/-! M3b: truth, subscripts, slices, isinstance. -/
namespace MP
open PySem PySem.Spec PyProof.Rows L2
section
variable {X : Cx} {xa : Option (Addr × Nat)} {ca : Nat → Addr}
/-- truth -/
theorem truV_of {K : PySem.W.Frag} {H : Hp} {μ : Mu} {T : Store} {v : PV} {x : V} {k : Bool} (sr : SR K xa H μ T) (r : Rel K xa H μ v x) (h : truthM T v = some k) : TruV K x H k := by
  cases v with
  | non => cases r; cases h; rfl
  | bl b => cases r; cases h; rfl
  | int i => cases r; cases h; rfl
  | str s =>
    cases r
    have h : (if s.length ≤ SZ then some (!s.isEmpty) else none) = some k := h
    split at h
    · rename_i hz
      cases h
      refine ⟨by rw [str_len]; exact le_line hz, ?_⟩
      rw [str_len]
      cases s <;> simp
      omega
    · cases h
  | tup xs =>
    obtain ⟨a, vs, rfl, s, q⟩ := r
    cases h
    refine .inr (.inl ⟨vs, s, ?_⟩)
    have := q.length
    cases xs <;> cases vs <;> simp at this ⊢
  | vl xs =>
    obtain ⟨a, vs, rfl, ⟨s, _⟩, q⟩ := r
    cases h
    refine .inl ⟨vs, .of s, ?_⟩
    have := q.length
    cases xs <;> cases vs <;> simp at this ⊢
  | ref n =>
    have h : (lstOf T n).map (fun xs => !xs.isEmpty) = some k := h
    obtain ⟨xs, e, rfl⟩ := Option.map_eq_some_iff.mp h
    obtain ⟨p, vs, rfl, m1, s1, q1⟩ := sr.ref r e
    refine .inl ⟨vs, .of s1, ?_⟩
    have := q1.length
    cases xs <;> cases vs <;> simp at this ⊢
  | _ => cases h

theorem sqT_or {K : PySem.W.Frag} {H : Hp} {μ : Mu} {T : Store} {v : PV} {x : V} {xs : List PV} (sr : SR K xa H μ T) (r : Rel K xa H μ v x) (h : items T v = some xs) :
    ∃ a vs, x = .ref a ∧ (SqL K H a vs ∨ SqT K H a vs) ∧ Rels K xa H μ xs vs := by
  cases v with
  | tup ys =>
    obtain ⟨a, vs, rfl, s, q⟩ := r
    cases h
    exact ⟨a, vs, rfl, .inr s, q⟩
  | frz ys =>
    obtain ⟨a, vs, rfl, s, q⟩ := r
    cases h
    exact ⟨a, vs, rfl, .inl s.sql, q⟩
  | vl ys =>
    obtain ⟨a, vs, rfl, ⟨s, _⟩, q⟩ := r
    cases h
    exact ⟨a, vs, rfl, .inl (.of s), q⟩
  | ref n =>
    obtain ⟨p, vs, rfl, m1, s1, q1⟩ := sr.ref r h
    exact ⟨p, vs, rfl, .inl (.of s1), q1⟩
  | _ => cases h
theorem normI_eq (n : Nat) (i : Int) : normI n i = ixN n i := rfl
theorem ix_dict (hu : X.A.units + 70 < cLine) : IxR X (fun x y H Q => ∃ (a : Addr) (z : V), x = .ref a ∧ DGet H a y (some z) ∧ Q z H) := by
  intro value slice pins s σ H x y v u Q I rx ry h hs
  obtain ⟨a, z, rfl, g, q⟩ := h
  cases rx
  exact tail_any (dict_typeIs I g) PySem.F.slot_dict_getitem.lookup (d_getItem (by omega) I g ry fun w' s3 I3 rw' => ⟨z, H, I3, rw', q⟩) hs
theorem ix_all (hu : X.A.units + 70 < cLine) : IxR X (fun x y H Q => ∃ v w μ T u, SR X.K xa H μ T ∧ Rel X.K xa H μ v x ∧ Rel X.K xa H μ w y ∧ idxOp v w T = some u ∧ ∀ z, Rel X.K xa H μ u z → Q z H) := by
  rintro value slice pins s σ H x y v u Q I rx ry ⟨a, b, μ, T, r, sr, ra, rb, h, q⟩ hs
  have dct : ∀ (ks : List PK) (xs : List PV), dictOf T a = some (ks, xs) → ((keyOf b).bind fun q => kGet ks xs q) = some r → wpAny (model X.prog X.w) X.A (subscriptTail value slice v u) (EP X pins σ Q) X.xe s := fun ks xs hd hk => by
    obtain ⟨p, kvs, rfl, e, hkk, rs⟩ := dictOf_inv sr ra hd
    cases hb : keyOf b with
    | none => rw [hb] at hk; cases hk
    | some j =>
      rw [hb] at hk
      have hk : kGet ks xs j = some r := hk
      have g := kGet_val j hkk rs
      rw [hk] at g
      obtain ⟨z, g1, g2⟩ := g
      have hy := keyOf_kV rb hb
      refine ix_dict hu value slice pins s σ H _ _ v u Q I rx ry ⟨p, z, rfl, ?_, q z g2⟩ hs
      rw [hy, ← g1]
      exact DGet.k e
  have sq : ∀ k : Int, b = .int k → ((items T a).bind fun xs => (normI xs.length k).bind fun j => xs[j]?) = some r → wpAny (model X.prog X.w) X.A (subscriptTail value slice v u) (EP X pins σ Q) X.xe s := fun k hb h' => by
    clear h
    have h := h'
    subst hb
    cases rb
    cases e : items T a with
    | none => rw [e] at h; cases h
    | some xs =>
      rw [e] at h
      have h : ((normI xs.length k).bind fun j => xs[j]?) = some r := h
      obtain ⟨p, vs, rfl, hp, rs⟩ := sqT_or sr ra e
      rw [normI_eq] at h
      cases e2 : ixN xs.length k with
      | none => rw [e2] at h; cases h
      | some j =>
        rw [e2] at h
        obtain ⟨z, hz, rz⟩ := rs.get (show xs[j]? = some r from h)
        have hat : atI vs k = some z := by
          show (ixN vs.length k).bind _ = _
          rw [← rs.length, e2]
          exact hz
        rcases hp with hp | hp
        · exact ix_list value slice pins s σ H _ _ v u Q I rx ry ⟨p, vs, _, z, rfl, rfl, hp, hat, q z rz⟩ hs
        · exact ix_tup value slice pins s σ H _ _ v u Q I rx ry ⟨p, vs, _, z, rfl, rfl, hp, hat, q z rz⟩ hs
  unfold idxOp at h
  split at h
  · split at h
    · rename_i t _ k
      split at h
      · rename_i hz
        cases ra; cases rb
        rw [normI_eq] at h
        cases e : ixN t.length k with
        | none => rw [e] at h; cases h
        | some j =>
          rw [e] at h
          have h : (t[j]?).map (fun c => PV.str [c]) = some r := h
          cases e2 : t[j]? with
          | none => rw [e2] at h; cases h
          | some c =>
            rw [e2] at h; cases h
            refine ix_str value slice pins s σ H _ _ v u Q I rx ry ⟨_, _, c, rfl, rfl, by rw [str_len]; exact le_line hz, ?_, q _ rfl⟩ hs
            show (ixN t.length k).bind _ = _
            rw [e]
            exact e2
      · cases h
    · cases h
  · exact dct _ _ rfl h
  · split at h
    · rename_i ks vs e
      exact dct _ _ e h
    · split at h
      · rename_i k
        exact sq _ rfl h
      · cases h

/-- a slice's end by what the part gave -/
def PtR (b : Bool) (w : PV) (o : Option Int) : Prop := (b = false ∧ o = none) ∨ (b = true ∧ ∃ i, w = .int i ∧ o = some i)
theorem clip_sIx {n d : Nat} {b : Bool} {w : PV} {o : Option Int} {k : Nat} (p : PtR b w o) (h : clipI n d b w = some k) : HT.sIx n d o = k := by
  unfold clipI at h
  rcases p with ⟨rfl, rfl⟩ | ⟨rfl, i, rfl, rfl⟩
  · rw [if_neg (by decide)] at h; cases h; rfl
  · rw [if_pos rfl] at h; cases h; rfl
theorem sl_all (m : Bool) : SlR X (fun x lo hi H Q => ∃ v w1 w2 pl ph μ T W, SR X.K xa H μ T ∧ Rel X.K xa H μ v x ∧ PtR pl w1 lo ∧ PtR ph w2 hi ∧ Post X.K xa ca (rV X.K xa) μ H (sliceOp m pl ph v w1 w2 T) Q W) := by
  rintro pins s σ H x v vl vu lo hi sl Q I rx hs p1 p2 ⟨a, w1, w2, pl, ph, μ, T, W, sr, ra, q1, q2, h⟩
  unfold sliceOp at h
  split at h
  · rename_i t
    split at h
    · rename_i i j e1 e2
      split at h
      · rename_i hz
        cases ra
        refine sl_str pins s σ H _ v vl vu lo hi sl Q I rx hs p1 p2 ⟨_, rfl, by rw [str_len]; exact le_line hz, h.here sr ?_⟩
        show V.str (cutS _ lo hi) = _
        unfold cutS
        rw [str_len, clip_sIx q1 e1, clip_sIx q2 e2] <;> rfl
      · exact h.elim
    · exact h.elim
  · rename_i xs
    split at h
    · rename_i i j e1 e2
      obtain ⟨p, vs, rfl, s1, r1⟩ := ra
      have hl := r1.length
      rw [hl] at e1 e2
      have hc : cutV vs lo hi = cut vs i j := by
        unfold cutV cut
        rw [clip_sIx q1 e1, clip_sIx q2 e2]
      have hr : Rels X.K xa H μ (cut xs i j) (cut vs i j) := (r1.drop i).take _
      refine sl_tupA pins s σ H _ v vl vu lo hi sl Q I rx hs p1 p2 ⟨p, vs, rfl, s1, fun z => ?_, fun z => ?_⟩
      · rw [clip_sIx q1 e1, clip_sIx q2 e2] at z
        obtain ⟨z1, z2⟩ := z
        refine h.here sr ⟨p, vs, rfl, s1, ?_⟩
        have : cut vs i j = vs := by unfold cut; rw [z1, z2]; simp
        rw [this] at hr
        exact hr
      · rw [hc]
        exact h.tup sr hr
    · exact h.elim
  · split at h
    · rename_i xs hl
      split at h
      · rename_i i j e1 e2
        obtain ⟨p, vs, rfl, s1, r1⟩ := listOf_inv sr ra hl
        have hl := r1.length
        rw [hl] at e1 e2
        have hc : cutV vs lo hi = cut vs i j := by
          unfold cutV cut
          rw [clip_sIx q1 e1, clip_sIx q2 e2]
        refine sl_list pins s σ H _ v vl vu lo hi sl Q I rx hs p1 p2 ⟨p, vs, rfl, .of s1, ?_⟩
        rw [hc]
        exact h.newL sr ((r1.drop i).take _)
      · exact h.elim
    · exact h.elim
/-- -x -/
theorem un_negA : UnR X (unaryOp .USub) (fun x H Q => ∃ v μ, Rel X.K xa H μ v x ∧ ∃ i, v = .int i ∧ Q (.int (-i)) H) := by
  rintro pins s σ H x v Q I rx ⟨a, μ, ra, i, rfl, q⟩
  cases ra
  exact un_neg pins s σ H _ v Q I rx ⟨i, rfl, q⟩

def tyName : Tyq → String
  | .int => "int"
  | .bool => "bool"
  | .str => "str"
  | .tuple => "tuple"
  | .list => "list"
  | .cls _ => ""
theorem isInst_ok {K : PySem.W.Frag} {H : Hp} {μ : Mu} {T : Store} {v : PV} {x : V} {t : Tyq} {b : Bool} (sr : SR K xa H μ T) (r : Rel K xa H μ v x) (h : isInst v t = some b) :
    ∃ u, TyX K H x u ∧ PySem.W.kitOne K u (.type (tyName t)) = some b := by
  cases v with
  | non =>
    cases r
    refine ⟨_, .base .non, ?_⟩
    cases t <;> cases h <;> exact kit_ty (by decide +kernel)
  | bl b =>
    cases r
    refine ⟨_, .base (.bl _), ?_⟩
    cases t <;> cases h <;> exact kit_ty (by decide +kernel)
  | int b =>
    cases r
    refine ⟨_, .base (.int _), ?_⟩
    cases t <;> cases h <;> exact kit_ty (by decide +kernel)
  | str b =>
    cases r
    refine ⟨_, .base (.str _), ?_⟩
    cases t <;> cases h <;> exact kit_ty (by decide +kernel)
  | tup xs =>
    obtain ⟨a, vs, rfl, s, q⟩ := r
    have : TyX K H (.ref a) (.type "tuple") := by
      rcases s with (s | ⟨o, s⟩) | ⟨o, its, n, e, c, _⟩
      · exact .base (.tup s)
      · exact .fTuple s
      · exact .kTuple e c
    refine ⟨_, this, ?_⟩
    cases t <;> cases h <;> exact kit_ty (by decide +kernel)
  | _ => cases t <;> cases h
end
end MP

set_option Elab.async false
set_option linter.all false
set_option maxRecDepth 100000
set_option maxHeartbeats 2000000
/-! M3c: built-in functions, methods. -/
namespace MP
open PySem PySem.Spec PyProof.Rows L2
section
variable {K : PySem.W.Frag} {xa : Option (Addr × Nat)} {H : Hp} {μ : Mu}
theorem Rels.nil_inv {vs : List V} (r : Rels K xa H μ [] vs) : vs = [] := r
theorem Rels.one_inv {p : PV} {vs : List V} (r : Rels K xa H μ [p] vs) : ∃ x, vs = [x] ∧ Rel K xa H μ p x := by
  obtain ⟨x, ws, rfl, r1, r2⟩ := r
  cases (show ws = [] from r2)
  exact ⟨x, rfl, r1⟩
theorem Rels.two_inv {p q : PV} {vs : List V} (r : Rels K xa H μ [p, q] vs) : ∃ x y, vs = [x, y] ∧ Rel K xa H μ p x ∧ Rel K xa H μ q y := by
  obtain ⟨x, ws, rfl, r1, r2⟩ := r
  obtain ⟨y, rfl, r3⟩ := Rels.one_inv r2
  exact ⟨x, y, rfl, r1, r3⟩
theorem rels_bools : ∀ {xs : List PV} {vs : List V} {bs : List Bool}, Rels K xa H μ xs vs → boolsOf xs = some bs → vs = bs.map V.bl
  | [], _, _, r, h => by cases h; exact r
  | v :: xs, _, bs, r, h => by
    cases v <;> first
      | (obtain ⟨x, ws, rfl, r1, r2⟩ := r
         cases r1
         obtain ⟨cs, e, rfl⟩ := Option.map_eq_some_iff.mp (show (boolsOf xs).map (_ :: ·) = some bs from h)
         rw [rels_bools r2 e] <;> rfl)
      | (cases h)
theorem rels_ints : ∀ {xs : List PV} {vs : List V} {bs : List Int}, Rels K xa H μ xs vs → intsOf xs = some bs → vs = bs.map V.int
  | [], _, _, r, h => by cases h; exact r
  | v :: xs, _, bs, r, h => by
    cases v <;> first
      | (obtain ⟨x, ws, rfl, r1, r2⟩ := r
         cases r1
         obtain ⟨cs, e, rfl⟩ := Option.map_eq_some_iff.mp (show (intsOf xs).map (_ :: ·) = some bs from h)
         rw [rels_ints r2 e] <;> rfl)
      | (cases h)
theorem rels_strs : ∀ {xs : List PV} {vs : List V} {bs : List (List Nat)}, Rels K xa H μ xs vs → strsOf xs = some bs → vs = (bs.map fun s => (⟨s.toArray⟩ : Str)).map V.str
  | [], _, _, r, h => by cases h; exact r
  | v :: xs, _, bs, r, h => by
    cases v <;> first
      | (obtain ⟨x, ws, rfl, r1, r2⟩ := r
         cases r1
         obtain ⟨cs, e, rfl⟩ := Option.map_eq_some_iff.mp (show (strsOf xs).map (_ :: ·) = some bs from h)
         rw [rels_strs r2 e] <;> rfl)
      | (cases h)
theorem joinT_eq (sep : List Nat) : ∀ ss : List (List Nat), joinT sep ss = TL.joinL sep ss
  | [] => rfl
  | [x] => rfl
  | x :: y :: r => by
    show x ++ sep ++ joinT sep (y :: r) = x ++ (sep ++ TL.joinL sep (y :: r))
    rw [joinT_eq sep (y :: r), List.append_assoc]
theorem decText_eq (i : Int) : Str.ofString (toString i) = ⟨(decText i).toArray⟩ := by
  refine TL.ext_tl ?_
  show (Str.ofString (toString i)).cps.toList = decText i
  rw [PyProof.Rows.signs_ofString] <;> rfl
end
section
/-! ### order -/
theorem insT_perm (x : List Nat) : ∀ l, (insT x l).Perm (x :: l)
  | [] => .refl _
  | y :: r => by
    unfold insT
    split
    · exact ((insT_perm x r).cons y).trans (.swap _ _ _)
    · exact .refl _
theorem sortT_perm : ∀ l, (sortT l).Perm l
  | [] => .refl _
  | x :: r => (insT_perm x _).trans ((sortT_perm r).cons x)
theorem insI_perm (x : Int) : ∀ l, (insI x l).Perm (x :: l)
  | [] => .refl _
  | y :: r => by
    unfold insI
    split
    · exact ((insI_perm x r).cons y).trans (.swap _ _ _)
    · exact .refl _
theorem sortI_perm : ∀ l, (sortI l).Perm l
  | [] => .refl _
  | x :: r => (insI_perm x _).trans ((sortI_perm r).cons x)
abbrev leT (a b : List Nat) : Prop := ¬ b < a
theorem leT_trans {a b c : List Nat} (h : leT a b) (h' : leT b c) : leT a c := List.not_lt.mpr (List.le_trans (List.not_lt.mp h) (List.not_lt.mp h'))
theorem insT_srt (x : List Nat) : ∀ l : List (List Nat), l.Pairwise leT → (insT x l).Pairwise leT
  | [], _ => List.pairwise_singleton _ _
  | y :: r, h => by
    rw [List.pairwise_cons] at h
    unfold insT
    split
    · rename_i hy
      rw [List.pairwise_cons]
      refine ⟨fun z hz => ?_, insT_srt x r h.2⟩
      rcases List.mem_cons.mp ((insT_perm x r).mem_iff.mp hz) with rfl | hz
      · exact List.lt_asymm hy
      · exact h.1 z hz
    · rename_i hy
      rw [List.pairwise_cons]
      refine ⟨fun z hz => ?_, by rw [List.pairwise_cons]; exact h⟩
      rcases List.mem_cons.mp hz with rfl | hz
      · exact hy
      · exact leT_trans hy (h.1 z hz)
theorem sortT_srt : ∀ l, (sortT l).Pairwise leT
  | [] => .nil
  | x :: r => insT_srt x _ (sortT_srt r)
theorem insI_srt (x : Int) : ∀ l : List Int, l.Pairwise (· ≤ ·) → (insI x l).Pairwise (· ≤ ·)
  | [], _ => List.pairwise_singleton _ _
  | y :: r, h => by
    rw [List.pairwise_cons] at h
    unfold insI
    split
    · rename_i hy
      rw [List.pairwise_cons]
      refine ⟨fun z hz => ?_, insI_srt x r h.2⟩
      rcases List.mem_cons.mp ((insI_perm x r).mem_iff.mp hz) with rfl | hz
      · omega
      · exact h.1 z hz
    · rename_i hy
      rw [List.pairwise_cons]
      refine ⟨fun z hz => ?_, by rw [List.pairwise_cons]; exact h⟩
      rcases List.mem_cons.mp hz with rfl | hz
      · omega
      · have := h.1 z hz; omega
theorem sortI_srt : ∀ l, (sortI l).Pairwise (· ≤ ·)
  | [] => .nil
  | x :: r => insI_srt x _ (sortI_srt r)
theorem sortI_uniq {l ys : List Int} (p : ys.Perm l) (h : ys.Pairwise (· ≤ ·)) : ys = sortI l :=
  List.Perm.eq_of_pairwise (le := (· ≤ ·)) (fun a b _ _ h1 h2 => by omega) h (sortI_srt l) (p.trans (sortI_perm l).symm)
theorem leT_anti {a b : List Nat} (h : leT a b) (h' : leT b a) : a = b := List.le_antisymm (List.not_lt.mp h) (List.not_lt.mp h')
theorem sortT_uniq {l ys : List (List Nat)} (p : ys.Perm l) (h : ys.Pairwise leT) : ys = sortT l :=
  List.Perm.eq_of_pairwise (le := leT) (fun a b _ _ h1 h2 => leT_anti h1 h2) h (sortT_srt l) (p.trans (sortT_perm l).symm)
theorem rising_pw : ∀ (r : List Str) (p : Str), risingS p r = true → (p :: r).Pairwise (fun a b : Str => leT a.cps.toList b.cps.toList)
  | [], _, _ => List.pairwise_singleton _ _
  | x :: r, p, h => by
    have h : (!ltCps x.cps.toList p.cps.toList && risingS x r) = true := h
    rw [Bool.and_eq_true] at h
    have ih := rising_pw r x h.2
    have hp : leT p.cps.toList x.cps.toList := fun z => by
      have := h.1
      rw [PyProof.Rows.ltCps_eq, decide_eq_true z] at this
      cases this
    rw [List.pairwise_cons]
    refine ⟨fun z hz => ?_, ih⟩
    rcases List.mem_cons.mp hz with rfl | hz
    · exact hp
    · exact leT_trans hp ((List.pairwise_cons.mp ih).1 z hz)
variable {X : Cx} {xa : Option (Addr × Nat)} {ca : Nat → Addr}
theorem sortedS_pw : ∀ {l : List Str}, sortedS l = true → l.Pairwise (fun a b : Str => leT a.cps.toList b.cps.toList)
  | [], _ => .nil
  | x :: r, h => rising_pw r x h
theorem sortS_uniq {l : List (List Nat)} {ys : List Str} (p : ys.Perm (l.map fun s => (⟨s.toArray⟩ : Str))) (h : sortedS ys = true) : ys.map V.str = ((sortT l).map fun s => (⟨s.toArray⟩ : Str)).map V.str := by
  have e : ys = (ys.map fun y => y.cps.toList).map fun s => (⟨s.toArray⟩ : Str) := by
    rw [List.map_map]
    refine (List.map_id ys).symm.trans ?_
    congr 1
  have p2 : (ys.map fun y => y.cps.toList).Perm l := by
    have := p.map fun y : Str => y.cps.toList
    rw [List.map_map] at this
    refine this.trans ?_
    have e2 : ((fun y : Str => y.cps.toList) ∘ fun s : List Nat => (⟨s.toArray⟩ : Str)) = id := by funext z; simp
    rw [e2, List.map_id]
  have h2 : (ys.map fun y => y.cps.toList).Pairwise leT := List.pairwise_map.mpr (sortedS_pw h)
  rw [e, sortT_uniq p2 h2]
theorem rels_chars {K : PySem.W.Frag} {H : Hp} {μ : Mu} : ∀ l : List Nat, Rels K xa H μ (l.map fun c => PV.str [c]) (l.map fun c => V.str ⟨#[c]⟩)
  | [] => rfl
  | x :: r => ⟨_, _, rfl, rfl, rels_chars r⟩
theorem rels_ofStrs {K : PySem.W.Frag} {H : Hp} {μ : Mu} : ∀ l : List (List Nat), Rels K xa H μ (l.map PV.str) ((l.map fun s => (⟨s.toArray⟩ : Str)).map V.str)
  | [] => rfl
  | x :: r => ⟨_, _, rfl, rfl, rels_ofStrs r⟩
theorem rels_ofInts {K : PySem.W.Frag} {H : Hp} {μ : Mu} : ∀ ns : List Int, Rels K xa H μ (ns.map PV.int) (ns.map V.int)
  | [] => rfl
  | n :: ns => ⟨.int n, ns.map V.int, rfl, rfl, rels_ofInts ns⟩
theorem keysS_inr : ∀ {ks : List PK} {xs : List (List Nat)}, keysS ks = some xs → ks.map keyV = (xs.map fun s => (⟨s.toArray⟩ : Str)).map Sum.inr
  | [], _, h => by cases h; rfl
  | k :: ks, xs, h => by
    cases k with
    | i _ => cases h
    | s x =>
      obtain ⟨ys, e, rfl⟩ := Option.map_eq_some_iff.mp (show (keysS ks).map (x :: ·) = some xs from h)
      rw [List.map_cons, keysS_inr e] <;> rfl
theorem maxL_spec : ∀ {l : List Int} {z : Int}, maxL l = some z → z ∈ l ∧ ∀ y ∈ l, y ≤ z
  | [], _, h => by cases h
  | [x], z, h => by cases h; simp
  | x :: y :: r, z, h => by
    obtain ⟨u, e, rfl⟩ := Option.map_eq_some_iff.mp (show (maxL (y :: r)).map (fun u => if u < x then x else u) = some z from h)
    obtain ⟨h1, h2⟩ := maxL_spec e
    split
    · refine ⟨List.mem_cons_self, fun w hw => ?_⟩
      rcases List.mem_cons.mp hw with rfl | hw
      · omega
      · have := h2 w hw; omega
    · refine ⟨List.mem_cons_of_mem _ h1, fun w hw => ?_⟩
      rcases List.mem_cons.mp hw with rfl | hw
      · omega
      · exact h2 w hw
theorem minL_spec : ∀ {l : List Int} {z : Int}, minL l = some z → z ∈ l ∧ ∀ y ∈ l, z ≤ y
  | [], _, h => by cases h
  | [x], z, h => by cases h; simp
  | x :: y :: r, z, h => by
    obtain ⟨u, e, rfl⟩ := Option.map_eq_some_iff.mp (show (minL (y :: r)).map (fun u => if x < u then x else u) = some z from h)
    obtain ⟨h1, h2⟩ := minL_spec e
    split
    · refine ⟨List.mem_cons_self, fun w hw => ?_⟩
      rcases List.mem_cons.mp hw with rfl | hw
      · omega
      · have := h2 w hw; omega
    · refine ⟨List.mem_cons_of_mem _ h1, fun w hw => ?_⟩
      rcases List.mem_cons.mp hw with rfl | hw
      · omega
      · exact h2 w hw
/-- a built-in function's object -/
def primV : Prim → Value
  | .len => .builtin "len"
  | .abs => .builtin "abs"
  | .int => .type "int"
  | .str => .type "str"
  | .ord => .builtin "ord"
  | .tuple => .type "tuple"
  | .list => .type "list"
  | .all => .builtin "all"
  | .any => .builtin "any"
  | .sum => .builtin "sum"
  | .divmod => .builtin "divmod"
  | .max => .builtin "max"
  | .min => .builtin "min"
  | .sorted => .builtin "sorted"
  | .dict => .type "dict"
theorem divmod_ok {a b : Int} (hb : 0 < b) (ha : a.natAbs.log2 < 4000) : CDivP a b := by
  refine divp_ok hb ?_
  unfold Builtin.Int.intBits
  split <;> split <;> omega
theorem sorted_ok (hc : X.calm = true) {m : Bool} {v : PV} {x : V} {us : List Value} {pins : List (Addr × Obj)} {s : Shared} {σ : L2.St} {H : Hp} {Q : VK} {μ : Mu} {T : Store} {W : Value → Option Addr → Hp → Prop} (I : Inv X pins σ H s) (rs : Vals [x] us) (sr : SR X.K xa H μ T) (r1 : Rel X.K xa H μ v x)
    (h : Post X.K xa ca (rV X.K xa) μ H (sortedOp m v T) Q W) : wpAny (model X.prog X.w) X.A (call (.builtin "sorted") us) (EP X pins σ Q) X.xe s := by
  unfold sortedOp at h
  split at h
  · rename_i ks ys e
    split at h
    · rename_i xs e2
      split at h
      · rename_i hz
        obtain ⟨a, kvs, rfl, e3, hk, _⟩ := dictOf_inv sr r1 e
        refine call_sortedD hc pins s σ H _ us Q I rs ⟨a, kvs, _, rfl, .inl e3, hk.trans (keysS_inr e2), by rw [List.length_map]; exact hz, fun zs p h1 h2 hp => ?_⟩
        rw [sortS_uniq h1 h2]
        exact h.newL sr (rels_ofStrs _) p hp
      · exact h.elim
    · exact h.elim
  · split at h
    · rename_i ys e
      obtain ⟨a, vs, rfl, e3, r2⟩ := listOf_inv sr r1 e
      split at h
      · rename_i xs e2
        split at h
        · rename_i hz
          rw [rels_strs r2 e2] at e3
          refine cr_sortedS pins s σ H _ us Q I rs ⟨a, _, rfl, .of e3, by rw [List.length_map]; exact hz, fun zs p h1 h2 hp => ?_⟩
          rw [sortS_uniq h1 h2]
          exact h.newL sr (rels_ofStrs _) p hp
        · exact h.elim
      · split at h
        · rename_i xs e2
          rw [rels_ints r2 e2] at e3
          refine cr_sortedI pins s σ H _ us Q I rs ⟨a, xs, rfl, .of e3, fun zs p h1 h2 hp => ?_⟩
          rw [sortI_uniq h1 h2]
          exact h.newL sr (rels_ofInts _) p hp
        · exact h.elim
    · exact h.elim
theorem call_prim (hc : X.calm = true) (m : Bool) (p : Prim) : CallR X (primV p) (rCl X.K xa ca (primOp m p)) := by
  rintro pins s σ H xs us Q I rs ⟨ws, μ, T, W, sr, rw_, h⟩
  cases p with
  | len =>
    simp only [primOp] at h
    split at h
    · obtain ⟨x, rfl, r1⟩ := rw_.one_inv
      cases r1
      split at h
      · rename_i hz
        refine call_len pins s σ H _ us Q I rs ⟨_, _, rfl, ⟨by rw [str_len]; exact le_line hz, rfl⟩, ?_⟩
        rw [str_len]
        exact h.here sr rfl
      · exact h.elim
    · obtain ⟨x, rfl, r1⟩ := rw_.one_inv
      split at h
      · rename_i ys e
        obtain ⟨a, vs, rfl, hp, r2⟩ := sqT_or sr r1 e
        refine call_len_seq pins s σ H _ us Q I rs ⟨a, vs, rfl, hp, ?_⟩
        rw [← r2.length]
        exact h.here sr rfl
      · split at h
        · rename_i ks ys e
          obtain ⟨a, kvs, rfl, e3, hk, r2⟩ := dictOf_inv sr r1 e
          refine call_lenD pins s σ H _ us Q I rs ⟨a, kvs, rfl, e3, ?_⟩
          have := r2.length
          rw [List.length_map] at this
          rw [← this]
          exact h.here sr rfl
        · exact h.elim
    · exact h.elim
  | abs =>
    simp only [primOp] at h
    split at h
    · obtain ⟨x, rfl, r1⟩ := rw_.one_inv
      cases r1
      exact call_abs pins s σ H _ us Q I rs ⟨_, rfl, h.here sr rfl⟩
    · exact h.elim
  | int =>
    simp only [primOp] at h
    split at h
    · obtain ⟨x, rfl, r1⟩ := rw_.one_inv
      cases r1
      exact call_int1 pins s σ H _ us Q I rs (.inl ⟨_, rfl, h.here sr rfl⟩)
    · obtain ⟨x, rfl, r1⟩ := rw_.one_inv
      cases r1
      exact call_int1 pins s σ H _ us Q I rs (.inr ⟨_, rfl, h.here sr rfl⟩)
    · obtain ⟨x, rfl, r1⟩ := rw_.one_inv
      cases r1
      split at h
      · rename_i hz
        refine call_int_str pins s σ H _ us Q I rs ⟨_, _, rfl, SX.int_S (by simpa [isDig] using hz.2.2) hz.1 (by omega), by rw [str_len]; exact hz.2.1, h.here sr rfl⟩
      · exact h.elim
    · exact h.elim
  | str =>
    simp only [primOp] at h
    split at h
    · obtain ⟨x, rfl, r1⟩ := rw_.one_inv
      cases r1
      split at h
      · rename_i hz
        refine call_str_int pins s σ H _ us Q I rs ⟨_, rfl, hz, ?_⟩
        have := h.here (x := V.str ⟨(decText _).toArray⟩) sr rfl
        rw [← decText_eq] at this
        exact this
      · exact h.elim
    · obtain ⟨x, rfl, r1⟩ := rw_.one_inv
      cases r1
      exact SkE.call_str_str pins s σ H _ us Q I rs ⟨_, rfl, h.here sr rfl⟩
    · exact h.elim
  | ord =>
    simp only [primOp] at h
    split at h
    · obtain ⟨x, rfl, r1⟩ := rw_.one_inv
      cases r1
      exact call_ord pins s σ H _ us Q I rs ⟨_, rfl, rfl, h.here sr rfl⟩
    · exact h.elim
  | tuple =>
    simp only [primOp] at h
    split at h
    · obtain ⟨x, rfl, r1⟩ := rw_.one_inv
      split at h
      · rename_i ys e
        obtain ⟨a, vs, rfl, hp, r2⟩ := sqT_or sr r1 e
        rcases hp with hp | hp
        · exact call_tuple_of pins s σ H _ us Q I rs ⟨a, vs, rfl, .inl ⟨hp, h.tup sr r2⟩⟩
        · exact call_tuple_of pins s σ H _ us Q I rs ⟨a, vs, rfl, .inr ⟨hp, h.here sr ⟨a, vs, rfl, hp, r2⟩⟩⟩
      · exact h.elim
    · exact h.elim
  | list =>
    simp only [primOp] at h
    split at h
    · obtain ⟨x, rfl, r1⟩ := rw_.one_inv
      split at h
      · rename_i ys e
        obtain ⟨a, vs, rfl, hp, r2⟩ := sqT_or sr r1 e
        exact call_list_of pins s σ H _ us Q I rs ⟨a, vs, rfl, hp, h.newL sr r2⟩
      · split at h
        · split at h
          · rename_i z _ hz
            cases r1
            exact call_list_txt hc pins s σ H _ us Q I rs ⟨z, rfl, le_line hz, h.newL sr (rels_chars z)⟩
          · exact h.elim
        · exact h.elim
    · exact h.elim
  | all =>
    simp only [primOp] at h
    split at h
    · obtain ⟨x, rfl, r1⟩ := rw_.one_inv
      split at h
      · rename_i bs e
        obtain ⟨ys, e1, e2⟩ := Option.bind_eq_some_iff.mp e
        obtain ⟨a, vs, rfl, s1, r2⟩ := listOf_inv sr r1 e1
        rw [rels_bools r2 e2] at s1
        exact cr_all hc pins s σ H _ us Q I rs ⟨a, bs, rfl, .of s1, h.here sr rfl⟩
      · exact h.elim
    · exact h.elim
  | any =>
    simp only [primOp] at h
    split at h
    · obtain ⟨x, rfl, r1⟩ := rw_.one_inv
      split at h
      · rename_i bs e
        obtain ⟨ys, e1, e2⟩ := Option.bind_eq_some_iff.mp e
        obtain ⟨a, vs, rfl, s1, r2⟩ := listOf_inv sr r1 e1
        rw [rels_bools r2 e2] at s1
        exact cr_any hc pins s σ H _ us Q I rs ⟨a, bs, rfl, .of s1, h.here sr rfl⟩
      · exact h.elim
    · exact h.elim
  | sum =>
    simp only [primOp] at h
    split at h
    · obtain ⟨x, rfl, r1⟩ := rw_.one_inv
      split at h
      · rename_i bs e
        obtain ⟨ys, e1, e2⟩ := Option.bind_eq_some_iff.mp e
        obtain ⟨a, vs, rfl, s1, r2⟩ := listOf_inv sr r1 e1
        rw [rels_ints r2 e2] at s1
        exact cr_sum hc pins s σ H _ us Q I rs ⟨a, bs, rfl, .of s1, h.here sr rfl⟩
      · exact h.elim
    · exact h.elim
  | divmod =>
    simp only [primOp] at h
    split at h
    · obtain ⟨x, y, rfl, r1, r2⟩ := rw_.two_inv
      cases r1; cases r2
      split at h
      · rename_i hz
        refine call_divmodW pins s σ H _ us Q I rs ⟨_, _, rfl, divmod_ok hz.1 hz.2, fun p hp => ?_⟩
        exact h.tup sr ⟨_, _, rfl, rfl, _, _, rfl, rfl, rfl⟩ p hp
      · exact h.elim
    · exact h.elim
  | max =>
    simp only [primOp] at h
    split at h
    · obtain ⟨x, y, rfl, r1, r2⟩ := rw_.two_inv
      cases r1; cases r2
      exact call_max2 hc pins s σ H _ us Q I rs ⟨_, _, rfl, h.here sr rfl⟩
    · obtain ⟨x, rfl, r1⟩ := rw_.one_inv
      split at h
      · rename_i z e
        obtain ⟨ns, e0, e3⟩ := Option.bind_eq_some_iff.mp e
        obtain ⟨ys, e1, e2⟩ := Option.bind_eq_some_iff.mp e0
        obtain ⟨a, vs, rfl, s1, r2⟩ := listOf_inv sr r1 e1
        rw [rels_ints r2 e2] at s1
        obtain ⟨h1, h2⟩ := maxL_spec e3
        refine cr_max hc pins s σ H _ us Q I rs ⟨a, ns, rfl, .of s1, List.length_pos_of_mem h1, fun w hw1 hw2 => ?_⟩
        have : w = z := by have := hw2 z h1; have := h2 w hw1; omega
        subst this
        exact h.here sr rfl
      · exact h.elim
    · exact h.elim
  | min =>
    simp only [primOp] at h
    split at h
    · obtain ⟨x, y, rfl, r1, r2⟩ := rw_.two_inv
      cases r1; cases r2
      exact call_min2 hc pins s σ H _ us Q I rs ⟨_, _, rfl, h.here sr rfl⟩
    · obtain ⟨x, rfl, r1⟩ := rw_.one_inv
      split at h
      · rename_i z e
        obtain ⟨ns, e0, e3⟩ := Option.bind_eq_some_iff.mp e
        obtain ⟨ys, e1, e2⟩ := Option.bind_eq_some_iff.mp e0
        obtain ⟨a, vs, rfl, s1, r2⟩ := listOf_inv sr r1 e1
        rw [rels_ints r2 e2] at s1
        obtain ⟨h1, h2⟩ := minL_spec e3
        refine cr_min hc pins s σ H _ us Q I rs ⟨a, ns, rfl, .of s1, List.length_pos_of_mem h1, fun w hw1 hw2 => ?_⟩
        have : w = z := by have := hw2 z h1; have := h2 w hw1; omega
        subst this
        exact h.here sr rfl
      · exact h.elim
    · exact h.elim
  | sorted =>
    simp only [primOp] at h
    split at h
    · obtain ⟨x, rfl, r1⟩ := rw_.one_inv
      exact sorted_ok hc I rs sr r1 h
    · exact h.elim
  | dict =>
    simp only [primOp] at h
    split at h
    · obtain ⟨x, rfl, r1⟩ := rw_.one_inv
      split at h
      · rename_i ks ys e
        obtain ⟨a, kvs, rfl, e3, hk, r2⟩ := dictOf_inv sr r1 e
        exact call_dictD pins s σ H _ us Q I rs ⟨a, kvs, rfl, .inl e3, h.newD sr hk r2⟩
      · exact h.elim
    · exact h.elim
end
end MP

set_option Elab.async false
set_option linter.all false
set_option maxRecDepth 100000
set_option maxHeartbeats 2000000
/-! M3d: methods. -/
namespace MP
open PySem PySem.Spec PyProof.Rows L2
section
variable {X : Cx} {xa : Option (Addr × Nat)} {ca : Nat → Addr}
def methT : Mth → String
  | .append => "list" | .extend => "list" | .insert => "list" | .pop => "list" | .popAt => "list" | .index => "list"
  | .join => "str" | .zfill => "str" | .find => "str" | .split => "str"
  | .get => "dict" | .dget => "dict" | .values => "dict" | .count => "tuple"
def methId : Mth → String
  | .append => "list.append" | .extend => "list.extend" | .insert => "list.insert" | .pop => "list.pop" | .popAt => "list.pop" | .index => "list.index"
  | .join => "str.join" | .zfill => "str.zfill" | .find => "str.find" | .split => "str.split"
  | .get => "dict.get" | .dget => "dict.get" | .values => "dict.values" | .count => "tuple.count"
theorem meth_ty {K : PySem.W.Frag} {H : Hp} {μ : Mu} {T : Store} {m : Mth} {v : PV} {x : V} (sr : SR K xa H μ T) (r : Rel K xa H μ v x) (h : recvOk T m v = true) : tyV K (methT m) x H := by
  have li : ∀ n, v = .ref n → (lstOf T n).isSome = true → methT m = "list" → tyV K (methT m) x H := fun n e hs hm => by
    subst e
    obtain ⟨xs, e⟩ := Option.isSome_iff_exists.mp hs
    obtain ⟨a, vs, rfl, _, s1, _⟩ := sr.ref r e
    exact .inl ⟨hm, vs, .of s1⟩
  have di : (dictOf T v).isSome = true → methT m = "dict" → tyV K (methT m) x H := fun hs hm => by
    obtain ⟨⟨ks, xs⟩, e⟩ := Option.isSome_iff_exists.mp hs
    obtain ⟨a, kvs, rfl, s1, _⟩ := dictOf_inv sr r e
    exact .inr (.inr (.inl ⟨hm, .inl ⟨kvs, s1⟩⟩))
  cases m with
  | get => exact di h rfl
  | dget => exact di h rfl
  | count => cases v <;> exact absurd (show false = true from h) Bool.false_ne_true
  | values => cases v <;> exact absurd (show false = true from h) Bool.false_ne_true
  | join => cases v <;> first | (cases r; rfl) | exact absurd (show false = true from h) Bool.false_ne_true
  | zfill => cases v <;> first | (cases r; rfl) | exact absurd (show false = true from h) Bool.false_ne_true
  | find => cases v <;> first | (cases r; rfl) | exact absurd (show false = true from h) Bool.false_ne_true
  | split => cases v <;> first | (cases r; rfl) | exact absurd (show false = true from h) Bool.false_ne_true
  | index =>
    cases v <;> first | exact li _ rfl h rfl | skip
    all_goals first | exact absurd (show false = true from h) Bool.false_ne_true | skip
    obtain ⟨a, vs, rfl, ⟨s1, _⟩, _⟩ := r
    exact .inl ⟨rfl, vs, .of s1⟩
  | _ => cases v <;> first | exact li _ rfl h rfl | exact absurd (show false = true from h) Bool.false_ne_true
theorem findSign_spec (c : Nat) : ∀ (l : List Nat) (k : Nat), (findSign c l k = none ∧ ∀ i : Nat, l[i]? ≠ some c) ∨ ∃ j : Nat, findSign c l k = some (k + j) ∧ l[j]? = some c ∧ ∀ i : Nat, i < j → l[i]? ≠ some c
  | [], k => .inl ⟨rfl, fun i => by simp⟩
  | x :: r, k => by
    unfold findSign
    by_cases e : x = c
    · rw [if_pos e]
      exact .inr ⟨0, rfl, by simp [e], fun i hi => absurd hi (Nat.not_lt_zero i)⟩
    · rw [if_neg e]
      rcases findSign_spec c r (k + 1) with ⟨h1, h2⟩ | ⟨j, h1, h2, h3⟩
      · refine .inl ⟨h1, fun i => ?_⟩
        cases i with
        | zero => simpa using e
        | succ i => simpa using h2 i
      · refine .inr ⟨j + 1, by rw [h1]; congr 1; omega, by simpa using h2, fun i hi => ?_⟩
        cases i with
        | zero => simpa using e
        | succ i => simpa using h3 i (by omega)
theorem findI_eq {c : Nat} {s : List Nat} {k : Int} {j : Nat} (hk : 0 ≤ k) (hkj : k.toNat ≤ j) (h : s[j]? = some c) (hn : ∀ i : Nat, k.toNat ≤ i → i < j → s[i]? ≠ some c) : findI c s k = j := by
  unfold findI
  rcases findSign_spec c (s.drop k.toNat) k.toNat with ⟨h1, h2⟩ | ⟨m, h1, h2, h3⟩
  · exact absurd (by rw [List.getElem?_drop, show k.toNat + (j - k.toNat) = j by omega]; exact h) (h2 (j - k.toNat))
  · rw [h1]
    rw [List.getElem?_drop] at h2
    show ((k.toNat + m : Nat) : Int) = j
    have e1 : ¬ (k.toNat + m < j) := fun z => hn _ (by omega) z h2
    have e2 : ¬ (j < k.toNat + m) := fun z => by
      have := h3 (j - k.toNat) (by omega)
      rw [List.getElem?_drop, show k.toNat + (j - k.toNat) = j by omega] at this
      exact this h
    have : k.toNat + m = j := by omega
    rw [this]
theorem findI_none {c : Nat} {s : List Nat} {k : Int} (h : ∀ i : Nat, k.toNat ≤ i → s[i]? ≠ some c) : findI c s k = -1 := by
  unfold findI
  rcases findSign_spec c (s.drop k.toNat) k.toNat with ⟨h1, h2⟩ | ⟨m, h1, h2, h3⟩
  · rw [h1]
  · rw [List.getElem?_drop] at h2
    exact absurd h2 (h _ (by omega))
theorem range_pre {lo n a : Nat} {pre post : List Nat} (h : List.range' lo n = pre ++ a :: post) : ∀ k, lo ≤ k → k < a → k ∈ pre := by
  intro k hl hk
  have hL : n = pre.length + (post.length + 1) := by
    have := congrArg List.length h
    simpa using this
  have h1 : (List.range' lo n)[pre.length]? = some a := by rw [h]; simp
  rw [List.getElem?_range' (by omega)] at h1
  have h1 : lo + 1 * pre.length = a := Option.some.inj h1
  have h2 : (List.range' lo n)[k - lo]? = pre[k - lo]? := by rw [h, List.getElem?_append_left (by omega)]
  rw [List.getElem?_range' (by omega)] at h2
  have h3 : pre[k - lo]? = some k := by rw [← h2]; congr 1; omega
  exact List.mem_of_getElem? h3
theorem find_ok (t : List Nat) (c : Nat) (k : Int) (hk : 0 ≤ k) : Txt.find3 ⟨t.toArray⟩ ⟨[c].toArray⟩ k = findI c t k := by
  unfold Txt.find3
  have hf : fromIndex (⟨t.toArray⟩ : Str).length k = k.toNat := by
    unfold fromIndex
    rw [if_neg (by omega)]
    congr 1
    omega
  rw [hf, StrLaws.occ_eq]
  have one : ∀ i, StrLaws.At ⟨t.toArray⟩ ⟨#[c]⟩ (⟨t.toArray⟩ : Str).length i ↔ t[i]? = some c := fun i => StrLaws.subAt_one ⟨t.toArray⟩ c i
  rcases StrLaws.occ_first ⟨t.toArray⟩ ⟨#[c]⟩ (⟨t.toArray⟩ : Str).length 1 (Nat.le_refl _) (List.range' k.toNat ((⟨t.toArray⟩ : Str).length + 1 - k.toNat)) k.toNat (fun i hi => (List.mem_range'_1.mp hi).1) with ⟨h0, hn⟩ | ⟨pre, a, post, e, h0, ha, hn⟩
  · rw [h0]
    show (-1 : Int) = _
    refine (findI_none fun i hi z => ?_).symm
    have hi2 : i < t.length := (List.getElem?_eq_some_iff.mp z).1
    refine hn i (List.mem_range'_1.mpr ⟨hi, by rw [str_len]; omega⟩) ((one i).mpr z)
  · have hm : a ∈ List.range' k.toNat ((⟨t.toArray⟩ : Str).length + 1 - k.toNat) := by rw [e]; simp
    have hk2 := (List.mem_range'_1.mp hm).1
    have z : findI c t k = a := findI_eq hk hk2 ((one a).mp ha) fun i h1 h2 h3 => hn i (range_pre e i h1 h2) ((one i).mpr h3)
    rw [z]
    generalize (forIn (List.range' k.toNat ((⟨t.toArray⟩ : Str).length + 1 - k.toNat)) ((#[] : Array Nat), k.toNat) (StrLaws.occBody ⟨t.toArray⟩ ⟨#[c]⟩ (⟨t.toArray⟩ : Str).length 1)).run.fst = arr at h0
    have h1 : arr.toList[0]? = some a := by simpa using h0
    cases hL : arr.toList with
    | nil => rw [hL] at h1; cases h1
    | cons b r => rw [hL] at h1; simp at h1; rw [h1]
theorem zfill_ok (c : Nat) (t : List Nat) (hc : isDig c = true) : Txt.zfill ⟨(c :: t).toArray⟩ 64 = ⟨(List.replicate (64 - (c :: t).length) 48 ++ (c :: t)).toArray⟩ := by
  unfold isDig at hc
  rw [Bool.and_eq_true, decide_eq_true_eq, decide_eq_true_eq] at hc
  unfold Txt.zfill
  rw [str_len]
  split
  · rename_i h
    have : 64 - (c :: t).length = 0 := by omega
    rw [this] <;> rfl
  · rename_i h
    have e : ∀ m, zfilled ⟨(c :: t).toArray⟩ m = Builtin.Str.padded ⟨(c :: t).toArray⟩ m 0 48 := fun m => by
      unfold zfilled
      have h0 : (⟨(c :: t).toArray⟩ : Str).cps[0]? = some c := by simp
      rw [h0]
      split
      · rename_i z; cases z; omega
      · rename_i z; cases z; omega
      · rfl
    rw [e]
    unfold Builtin.Str.padded
    refine TL.ext_tl ?_
    show (Array.replicate _ 48 ++ (c :: t).toArray ++ Array.replicate 0 48).toList = (List.replicate (64 - (c :: t).length) 48 ++ (c :: t))
    simp
theorem splitC_ne (c : Nat) : ∀ s, splitC c s ≠ []
  | [] => by simp [splitC]
  | x :: r => by
    unfold splitC
    split
    · simp
    · split <;> simp
theorem splitC_join (c : Nat) : ∀ s : List Nat, joinT [c] (splitC c s) = s
  | [] => rfl
  | x :: r => by
    have ih := splitC_join c r
    unfold splitC
    split
    · rename_i h
      subst h
      cases e : splitC x r with
      | nil => exact absurd e (splitC_ne x r)
      | cons y ys =>
        rw [e] at ih
        show [] ++ [x] ++ joinT [x] (y :: ys) = x :: r
        rw [ih] <;> rfl
    · cases e : splitC c r with
      | nil => exact absurd e (splitC_ne c r)
      | cons y ys =>
        rw [e] at ih
        show joinT [c] ((x :: y) :: ys) = x :: r
        cases ys with
        | nil => exact congrArg (x :: ·) ih
        | cons z zs => exact congrArg (x :: ·) ih
theorem splitC_free (c : Nat) : ∀ (s : List Nat), ∀ p ∈ splitC c s, c ∉ p
  | [], p, h => by simp [splitC] at h; subst h; simp
  | x :: r, p, h => by
    have ih := splitC_free c r
    unfold splitC at h
    split at h
    · rcases List.mem_cons.mp h with rfl | h
      · simp
      · exact ih p h
    · rename_i hx
      cases e : splitC c r with
      | nil => exact absurd e (splitC_ne c r)
      | cons y ys =>
        rw [e] at h ih
        rcases List.mem_cons.mp h with rfl | h
        · have := ih y List.mem_cons_self
          simp only [List.mem_cons, not_or]
          exact ⟨fun z => hx z.symm, this⟩
        · exact ih p (List.mem_cons_of_mem _ h)
theorem split_ok (s : List Nat) (c : Nat) (hc : c < 256) : Txt.split ⟨s.toArray⟩ ⟨[c].toArray⟩ = (splitC c s).map fun s => (⟨s.toArray⟩ : Str) := by
  have h := TL.split_join (y := (⟨[c].toArray⟩ : Str)) (s := c) (S := []) rfl (by simpa using hc) (parts := (splitC c s).map fun s => (⟨s.toArray⟩ : Str)) (by simp [splitC_ne]) (fun p hp => by
    obtain ⟨q, hq, rfl⟩ := List.mem_map.mp hp
    have := splitC_free c s q hq
    show c ∉ (⟨q.toArray⟩ : Str).cps.toList
    simpa using this)
  have e : Txt.join (⟨[c].toArray⟩ : Str) ((splitC c s).map fun s => (⟨s.toArray⟩ : Str)) = ⟨s.toArray⟩ := by
    have := SX.join_S [c] (splitC c s)
    rw [show ((splitC c s).map fun s => (⟨s.toArray⟩ : Str)) = (splitC c s).map SX.S from rfl]
    refine this.trans ?_
    rw [← joinT_eq, splitC_join]
  rw [e] at h
  exact h
theorem placeOf_spec {K : PySem.W.Frag} {H : Hp} {μ : Mu} {w : PV} {y : V} (rw_ : Rel K xa H μ w y) (fw : flat w = true) : ∀ {xs : List PV} {vs : List V} {k j : Nat}, Rels K xa H μ xs vs → xs.all flat = true → placeOf w xs k = some j →
    ∃ i z, j = k + i ∧ vs[i]? = some z ∧ eqV z y = true ∧ ∀ (m : Nat) (z' : V), m < i → vs[m]? = some z' → eqV z' y = false
  | [], _, k, j, _, _, h => by cases h
  | x :: xs, _, k, j, r, f, h => by
    obtain ⟨v, ws, rfl, r1, r2⟩ := r
    rw [List.all_cons, Bool.and_eq_true] at f
    have e := peq_eqV r1 rw_ f.1 fw
    unfold placeOf at h
    split at h
    · rename_i hp
      cases h
      exact ⟨0, v, rfl, rfl, by rw [e]; exact hp, fun m z' hm => absurd hm (Nat.not_lt_zero m)⟩
    · rename_i hp
      obtain ⟨i, z, e1, e2, e3, e4⟩ := placeOf_spec rw_ fw r2 f.2 h
      refine ⟨i + 1, z, by omega, by simpa using e2, e3, fun m z' hm hz => ?_⟩
      cases m with
      | zero =>
        have : v = z' := by simpa using hz
        subst this
        rw [e]
        exact Bool.eq_false_iff.mpr hp
      | succ m => exact e4 m z' (by omega) (by simpa using hz)
theorem seqIx {n : Nat} {i : Int} {j : Nat} (h : normI n i = some j) : seqIndex? i n = some j := by
  unfold normI at h
  simp only [seqIndex?]
  split at h
  · rename_i h0
    split at h
    · rename_i h1
      cases h
      have e : (if i < 0 then i + (n : Int) else i) = i := if_neg (by omega)
      rw [e, decide_eq_true h0, decide_eq_true h1] <;> rfl
    · cases h
  · rename_i h0
    split at h
    · rename_i h1
      cases h
      have e : (if i < 0 then i + (n : Int) else i) = i + n := if_pos (by omega)
      rw [e, decide_eq_true (show 0 ≤ i + (n : Int) by omega), decide_eq_true (show i + (n : Int) < n by omega)] <;> rfl
    · cases h
theorem meth_ok (hu : X.A.units + 70 < cLine) (mm : Bool) (m : Mth) : MtR X (methId m) (rMt X.K xa ca (methOp mm m)) := by
  rintro pins s σ H x xs v us Q I rx rs ⟨a, ws, μ, T, W, sr, ra, rw_, h⟩
  cases m with
  | append =>
    simp only [methOp] at h
    split at h
    · obtain ⟨y, rfl, r1⟩ := rw_.one_inv
      split at h
      · rename_i ys e
        split at h
        · rename_i hz
          obtain ⟨p, vs, rfl, m, s1, r2⟩ := sr.ref ra e
          refine mt_append pins s σ H _ _ v us Q I rx rs ⟨p, vs, y, rfl, rfl, s1, ?_, h.wr sr m (r2.append (Rels.one r1)) rfl⟩
          rw [← r2.length, ← SZ_eq]; exact hz
        · exact h.elim
      · exact h.elim
    · exact h.elim
  | extend =>
    simp only [methOp] at h
    split at h
    · obtain ⟨y, rfl, r1⟩ := rw_.one_inv
      split at h
      · rename_i xs e
        split at h
        · rename_i hz
          obtain ⟨p, vs, rfl, m, s1, r2⟩ := sr.ref ra e
          obtain ⟨p2, vs2, rfl, s2, r3⟩ := r1
          refine mt_extT pins s σ H _ _ v us Q I rx rs ⟨p, p2, vs, vs2, rfl, rfl, s1, s2, ?_, h.wr sr m (r2.append r3) rfl⟩
          rw [← r2.length, ← r3.length]; exact le_line hz
        · exact h.elim
      · exact h.elim
    · obtain ⟨y, rfl, r1⟩ := rw_.one_inv
      split at h
      · rename_i xs ys e e2
        split at h
        · rename_i hz
          obtain ⟨p, vs, rfl, m, s1, r2⟩ := sr.ref ra e
          obtain ⟨p2, vs2, rfl, s2, r3⟩ := listOf_inv sr r1 e2
          refine mt_extend pins s σ H _ _ v us Q I rx rs ⟨p, p2, vs, vs2, rfl, rfl, s1, s2, ?_, h.wr sr m (r2.append r3) rfl⟩
          rw [← r2.length, ← r3.length]; exact le_line hz
        · exact h.elim
      · exact h.elim
    · exact h.elim
  | insert =>
    simp only [methOp] at h
    split at h
    · obtain ⟨y, z, rfl, r1, r2⟩ := rw_.two_inv
      cases r1
      split at h
      · rename_i ys e
        split at h
        · rename_i hz
          obtain ⟨p, vs, rfl, m, s1, r3⟩ := sr.ref ra e
          refine mt_insert pins s σ H _ _ v us Q I rx rs ⟨p, vs, _, z, rfl, rfl, s1, ?_, hz.2.1, by omega, h.wr sr m (((r3.take _).append (Rels.one r2)).append (r3.drop _)) rfl⟩
          rw [← r3.length, ← SZ_eq]; exact hz.1
        · exact h.elim
      · exact h.elim
    · exact h.elim
  | pop =>
    simp only [methOp] at h
    split at h
    · cases rw_.nil_inv
      split at h
      · rename_i ys e
        split at h
        · rename_i w e2
          obtain ⟨p, vs, rfl, m, s1, r2⟩ := sr.ref ra e
          rw [List.getLast?_eq_getElem?] at e2
          obtain ⟨z, hz, rz⟩ := r2.get e2
          refine mt_pop pins s σ H _ _ v us Q I rx rs ⟨p, vs, z, rfl, rfl, s1, by rw [← r2.length]; exact hz, h.wr sr m r2.dropLast rz⟩
        · exact h.elim
      · exact h.elim
    · exact h.elim
  | popAt =>
    simp only [methOp] at h
    split at h
    · obtain ⟨y, rfl, r1⟩ := rw_.one_inv
      cases r1
      split at h
      · rename_i ys e
        split at h
        · rename_i hz
          split at h
          · rename_i j w e2
            obtain ⟨j', h1, h2⟩ := Option.bind_eq_some_iff.mp e2
            obtain ⟨w', h3, h4⟩ := Option.map_eq_some_iff.mp h2
            cases h4
            obtain ⟨p, vs, rfl, m, s1, r2⟩ := sr.ref ra e
            obtain ⟨z, hzz, rz⟩ := r2.get h3
            unfold methOp.small62' at hz
            rw [Bool.and_eq_true, decide_eq_true_eq, decide_eq_true_eq] at hz
            refine mt_popAt pins s σ H _ _ v us Q I rx rs ⟨p, vs, _, j, z, rfl, rfl, s1, by omega, by omega, seqIx (by rw [← r2.length]; exact h1), hzz, h.wr sr m (r2.eraseIdx j) rz⟩
          · exact h.elim
        · exact h.elim
      · exact h.elim
    · exact h.elim
  | join =>
    simp only [methOp] at h
    split at h
    · obtain ⟨y, rfl, r1⟩ := rw_.one_inv
      cases ra
      split at h
      · rename_i ss e0
        obtain ⟨ys, e, e2⟩ := Option.bind_eq_some_iff.mp e0
        split at h
        · rename_i hz
          obtain ⟨p, vs, rfl, hp, r2⟩ := sqT_or sr r1 e
          rw [rels_strs r2 e2] at hp
          refine mt_join pins s σ H _ _ v us Q I rx rs ⟨_, p, _, rfl, rfl, hp, ?_, ?_⟩
          · rw [List.map_map, List.length_map, str_len]
            have : ((fun x : Str => x.length) ∘ fun s : List Nat => (⟨s.toArray⟩ : Str)) = List.length := by funext z; exact str_len z
            rw [this]
            exact hz
          · rw [show (ss.map fun s => (⟨s.toArray⟩ : Str)) = ss.map SX.S from rfl, SX.join_S, ← joinT_eq]
            exact h.here sr rfl
        · exact h.elim
      · exact h.elim
    · exact h.elim
  | zfill =>
    simp only [methOp] at h
    split at h
    · obtain ⟨y, rfl, r1⟩ := rw_.one_inv
      cases ra; cases r1
      split at h
      · rename_i c t
        split at h
        · rename_i hz
          refine mt_zfill pins s σ H _ _ v us Q I rx rs ⟨_, _, rfl, rfl, by decide +kernel, ?_⟩
          rw [zfill_ok _ _ hz.1]
          exact h.here sr rfl
        · exact h.elim
      · exact h.elim
    · exact h.elim
  | find =>
    simp only [methOp] at h
    split at h
    · obtain ⟨y, z, rfl, r1, r2⟩ := rw_.two_inv
      cases ra; cases r1; cases r2
      split at h
      · rename_i hz
        refine mt_find3 pins s σ H _ _ v us Q I rx rs ⟨_, _, _, rfl, rfl, ?_⟩
        rw [find_ok _ _ _ hz.1]
        exact h.here sr rfl
      · exact h.elim
    · exact h.elim
  | split =>
    simp only [methOp] at h
    split at h
    · obtain ⟨y, rfl, r1⟩ := rw_.one_inv
      cases ra; cases r1
      split at h
      · rename_i hz
        refine mt_split pins s σ H _ _ v us Q I rx rs ⟨_, _, rfl, rfl, rfl, by rw [str_len]; exact le_line hz.1, ?_⟩
        rw [split_ok _ _ hz.2]
        exact h.newL sr (rels_ofStrs _)
      · exact h.elim
    · exact h.elim
  | count => exact (show False from h).elim
  | index =>
    simp only [methOp] at h
    split at h
    · rename_i xs w e
      obtain ⟨y, rfl, r1⟩ := rw_.one_inv
      split at h
      · rename_i hf
        rw [Bool.and_eq_true] at hf
        split at h
        · rename_i j hj
          obtain ⟨p, vs, rfl, s1, r2⟩ := listOf_inv sr ra e
          obtain ⟨i, z, e1, e2, e3, e4⟩ := placeOf_spec r1 hf.1 r2 hf.2 hj
          have e1 : j = i := by omega
          subst e1
          exact mt_index pins s σ H _ _ v us Q I rx rs ⟨p, vs, y, j, z, rfl, rfl, .of s1, flat_flatV r1 hf.1, flats_flatV r2 hf.2, e2, e3, e4, h.here sr rfl⟩
        · exact h.elim
      · exact h.elim
    · exact h.elim
  | get =>
    simp only [methOp] at h
    split at h
    · rename_i ks xs w e
      obtain ⟨y, rfl, r1⟩ := rw_.one_inv
      split at h
      · rename_i j hj
        obtain ⟨p, kvs, rfl, s1, hk, r2⟩ := dictOf_inv sr ra e
        cases rx
        have hy := keyOf_kV r1 hj
        subst hy
        obtain ⟨u, rfl, ru⟩ := vals1 rs
        refine d_get1 (by omega) I (DGet.k (k := keyV j) s1) ru fun w' s' I' rw' => ⟨_, H, I', rw', ?_⟩
        have g := kGet_val j hk r2
        cases z : kGet ks xs j with
        | none => rw [z] at g h; rw [g]; exact h.here sr rfl
        | some w => rw [z] at g h; obtain ⟨q, g1, g2⟩ := g; rw [g1]; exact h.here sr g2
      · exact h.elim
    · exact h.elim
  | dget =>
    simp only [methOp] at h
    split at h
    · rename_i ks xs w d e
      obtain ⟨y, y2, rfl, r1, r3⟩ := rw_.two_inv
      split at h
      · rename_i j hj
        obtain ⟨p, kvs, rfl, s1, hk, r2⟩ := dictOf_inv sr ra e
        cases rx
        have hy := keyOf_kV r1 hj
        subst hy
        cases rs with
        | cons ru rt =>
          obtain ⟨u2, rfl, ru2⟩ := vals1 rt
          refine d_get2 (by omega) I (DGet.k (k := keyV j) s1) ru ru2 fun w' s' I' rw' => ⟨_, H, I', rw', ?_⟩
          have g := kGet_val j hk r2
          cases z : kGet ks xs j with
          | none => rw [z] at g h; rw [g]; exact h.here sr r3
          | some w => rw [z] at g h; obtain ⟨q, g1, g2⟩ := g; rw [g1]; exact h.here sr g2
      · exact h.elim
    · exact h.elim
  | values => exact (show False from h).elim
end
end MP

set_option Elab.async false
set_option linter.all false
set_option maxRecDepth 100000
set_option maxHeartbeats 2000000
/-! M4: the model's run of an expression is the small tree's. -/
namespace MP
open PySem PySem.Spec PyProof.Rows L2
/-- an own exception class over ValueError: its base's row -/
def veRow : List Value := [.type "ValueError", .type "Exception", .type "BaseException", .type "object"]
/-- what a def of the module promises: it does what the tree does -/
def spM (K : PySem.W.Frag) (ca : Nat → Addr) (D : Nat → Option FD) (G : Nat → Option PV) (k f : Nat) (np : Nat) : Sp := fun vs H Q E =>
  vs.length = np ∧ ∃ ws μ T, Rels K none H μ ws vs ∧ SR K none H μ T ∧ Post K none ca (rV K none) μ H (callF D G k f ws T) Q E
structure ClsFact (X : Cx) (T : Tab) (ca : Nat → Addr) (x : Str) (c : Nat) : Prop where
  mg : X.mg x = some (.ref (ca c))
  keep : PySem.W.keepIn X.K (.ref (ca c)) = true
  exc : PySem.W.excIn X.K (ca c) veRow "ValueError.__new__" = true
  rais : Raises X (.ref (ca c))
  ex : ∀ d ∈ T.caught c, ExcC X.K (ca d)
  kyes : ∀ d ∈ T.caught c, PySem.W.kitOne X.K (.ref (ca d)) (.ref (ca c)) = some true
  kno : ∀ d ∈ T.passed c, PySem.W.kitOne X.K (.ref (ca d)) (.ref (ca c)) = some false
  yes : ∀ d ∈ T.caught c, PySem.W.exmOne X.K (.ref (ca d)) (.ref (ca c)) = some true
  no : ∀ d ∈ T.passed c, PySem.W.exmOne X.K (.ref (ca d)) (.ref (ca c)) = some false
structure Facts (X : Cx) (T : Tab) (ca : Nat → Addr) (D : Nat → Option FD) (G : Nat → Option PV) (k : Nat) : Prop where
  fns : ∀ x f, T.fns.lookup x = some f → ∃ (a : Addr) (fd : FuncData) (ps : List Str), X.mg x = some (.ref a) ∧ PySem.W.keepIn X.K (.ref a) = true ∧ Binds X.K fd ps [] ∧ (∃ d, D f = some d ∧ d.np = ps.length) ∧
    FnOk X.prog X.w X.K X.mg X.base (L2.CX X.prog X.w) k a fd ps (spM X.K ca D G k f ps.length)
  consts : ∀ x g, T.consts.lookup x = some g → ∃ v u pv, G g = some pv ∧ X.mg x = some u ∧ RelV v u ∧ ∀ xa H μ, Rel X.K xa H μ pv v
  dicts : ∀ x g, T.dicts.lookup x = some g → ∃ d es n ks vs, G g = some (.vd ks vs) ∧ X.mg x = some (.ref d) ∧ KDict X.K X.w d es n ∧
    ∀ z : List Nat, ∃ r, PySem.W.nsIn X.K d ⟨z.toArray⟩ = some r ∧ match kGet ks vs (.s z) with
      | some p => ∃ u v, r = some u ∧ RelV v u ∧ ∀ xa H μ, Rel X.K xa H μ p v
      | none => r = none
  clss : ∀ x c, T.clss.lookup x = some c → ClsFact X T ca x c
  blts : ∀ x, x ∈ T.blts → X.mg x = none
/-- where an expression stands -/
structure GE (X : Cx) (ca : Nat → Addr) (N : List Str) (sc : Scope) (hot : Bool) (xa : Option (Addr × Nat)) (k : Nat) : Prop where
  nN : X.N = N
  nd : N.Nodup
  sc : X.env.scope = sc
  calm : hot = false → X.calm = true
  room : hot = false → Room k X.A
  top : isBlk X.env.scope = false → hot = false → X.stack = X.env :: X.outer ∧ X.env.frame = some X.env.locals
  un : X.A.units + 70 < cLine
  cold : hot = false → xa = none
  hotIs : hot = true → ∀ a c, xa = some (a, c) → CallR X (.builtin "isinstance") (rIsE X.K (ca c) a)

section
variable {X : Cx} {T : Tab} {N : List Str} {hot : Bool} {ca : Nat → Addr} {D : Nat → Option FD} {G : Nat → Option PV} {k : Nat} {xa : Option (Addr × Nat)} {W : WX} {sc : Scope}
theorem slot_of {N : List Str} {x : Str} {i : Nat} (h : slotOf N x = some i) : N[i]? = some x := by
  unfold slotOf at h
  obtain ⟨hi, h1, _⟩ := List.findIdx?_eq_some_iff_getElem.mp h
  rw [List.getElem?_eq_getElem hi]
  rw [of_decide_eq_true h1]
theorem vis_of {sc : Scope} {x : Str} (h : isVis (sc.names.lookup x) = true) : Vis sc x := by
  unfold isVis at h
  unfold Vis
  split at h
  · rename_i e; exact .inl e
  · rename_i e; exact .inr (.inl e)
  · rename_i e; exact .inr (.inr e)
  · cases h
theorem loc_of {sc : Scope} {x : Str} (h : isLoc (sc.names.lookup x) = true) : L2.Loc sc x := by
  unfold isLoc at h
  unfold L2.Loc
  split at h
  · rename_i e; exact .inl e
  · rename_i e; exact .inr e
  · cases h
theorem gl_of {x : Str} (h : isGl (X.env.scope.names.lookup x) = true) : Gl X x := by
  unfold isGl at h
  unfold Gl
  split at h
  · rename_i e; exact e
  · cases h
theorem str_ne {x y : Str} (h : x ≠ y) : (x == y) = false := by simpa using h

/-- what an expression's tree m promises -/
def PEm (X : Cx) (xa : Option (Addr × Nat)) (ca : Nat → Addr) (D : Nat → Option FD) (G : Nat → Option PV) (k : Nat) (W : WX) (e : PySem.Expr) (m : E) : Prop :=
  PE X e (tR X.K xa ca (rV X.K xa) W (ev (callF D G k) G m)) ∧ PT X e (tR X.K xa ca rB W (evT (callF D G k) G m))
theorem pe_of {e : PySem.Expr} {t t' : TE} (h : PE X e t) (hi : ∀ σ H Q, t' σ H Q → t σ H Q) : PE X e t' := ⟨fun pins s σ H Q I q => h.run pins s σ H Q I (hi σ H Q q)⟩
theorem pt_of {e : PySem.Expr} {t t' : TT} (h : PT X e t) (hi : ∀ σ H Q, t' σ H Q → t σ H Q) : PT X e t' := ⟨fun pins s σ H Q I q => h.run pins s σ H Q I (hi σ H Q q)⟩
theorem pa_of {e : List PySem.Expr} {t t' : TA} (h : PA X e t) (hi : ∀ σ H Q, t' σ H Q → t σ H Q) : PA X e t' := ⟨fun pos pins s σ H Q I q => h.run pos pins s σ H Q I (hi σ H Q q)⟩
/-- an expression whose test is its value's truth -/
theorem pem_plain {e : PySem.Expr} {m : E} (h : PE X e (tR X.K xa ca (rV X.K xa) W (ev (callF D G k) G m))) (he : ∀ whole, isTrue e X.env whole = (do let v ← whole; standAt e.pos; holding [v] (truthy v))) : PEm X xa ca D G k W e m := by
  refine ⟨h, pt_of (pt_truth h he) ?_⟩
  rintro σ H Q ⟨ρ, μ, S, er, sr, q⟩
  refine ⟨ρ, μ, S, er, sr, q.bind _ fun v S1 x μ1 H1 x1 sr1 r1 h1 => ?_⟩
  cases e : truthM S1 v with
  | none => rw [e] at h1; exact h1.elim
  | some b =>
    rw [e] at h1
    exact ⟨b, truV_of sr1 r1 e, h1 b μ1 H1 (Ex.refl _ _) sr1 rfl⟩

/-! ### argument lists -/
/-- what f's trees promise, at every place -/
def Snd (X : Cx) (xa : Option (Addr × Nat)) (ca : Nat → Addr) (D : Nat → Option FD) (G : Nat → Option PV) (k : Nat) (W : WX) (f : PySem.Expr → Option E) : Prop := ∀ e m, f e = some m → PEm X xa ca D G k W e m
theorem star_cons {e : PySem.Expr} {es : List PySem.Expr} {env : Env} (h : isStar e = false) : starEach (e :: es) env = (false, eval e env) :: starEach es env := by
  cases e <;> first | rfl | cases h
theorem args_cons {f : PySem.Expr → Option E} {e : PySem.Expr} {es : List PySem.Expr} {m : E} (h : args f (e :: es) = some m) : ∃ a b, isStar e = false ∧ f e = some a ∧ args f es = some b ∧ m = .cons a b := by
  unfold args at h
  split at h
  · cases h
  · rename_i hs
    cases h1 : f e with
    | none => rw [h1] at h; cases h
    | some a =>
      rw [h1] at h
      cases h2 : args f es with
      | none => rw [h2] at h; cases h
      | some b => rw [h2] at h; cases h; exact ⟨a, b, by simpa using hs, rfl, rfl, rfl⟩
theorem args_plain {f : PySem.Expr → Option E} {env : Env} {pos : Pos} : ∀ {es : List PySem.Expr} {m : E}, args f es = some m → (backTo pos (starEach es env)).any (·.1) = false
  | [], _, _ => rfl
  | e :: es, m, h => by
    obtain ⟨a, b, h1, h2, h3, _⟩ := args_cons h
    rw [star_cons h1]
    have := args_plain (env := env) (pos := pos) h3
    unfold backTo at this ⊢
    rw [List.map_cons, List.any_cons, this] <;> rfl
theorem asTup_ok : ∀ {f : PySem.Expr → Option E} {es : List PySem.Expr} {m : E}, args f es = some m → True := fun _ => trivial
theorem args_sound {f : PySem.Expr → Option E} (hf : Snd X xa ca D G k W f) : ∀ {es : List PySem.Expr} {m : E}, args f es = some m → PA X es (tR X.K xa ca (rA X.K xa) W (ev (callF D G k) G m))
  | [], m, h => by
    cases h
    refine pa_of pa_nil ?_
    rintro σ H Q ⟨ρ, μ, S, er, sr, q⟩
    exact q [] μ H (Ex.refl _ _) sr rfl
  | e :: es, m, h => by
    obtain ⟨a, b, h1, h2, h3, rfl⟩ := args_cons h
    refine pa_of (pa_cons (hf e a h2).1 (args_sound hf h3) (star_cons h1)) ?_
    rintro σ H Q ⟨ρ, μ, S, er, sr, q⟩
    refine ⟨ρ, μ, S, er, sr, q.bind _ fun v S1 x μ1 H1 x1 sr1 r1 h1 => ?_⟩
    refine ⟨ρ, μ1, S1, er.mono sr x1, sr1, h1.bind _ fun w S2 y μ2 H2 x2 sr2 r2 h2 => ?_⟩
    exact h2 (x :: y) μ2 H2 (Ex.refl _ _) sr2 ⟨x, y, rfl, Rel.mono sr1 x2 _ _ r1, r2⟩

/-! ### the forms -/
theorem s_const {c : Const} {j : Nat} {pos : Pos} {m : E} (h : cConst c = some m) : PEm X xa ca D G k W (.Constant c j pos) m := by
  cases c with
  | int i =>
    cases h
    refine pem_plain (pe_of pe_int ?_) (fun _ => rfl)
    rintro σ H Q ⟨ρ, μ, S, er, sr, q⟩
    exact q.here sr rfl
  | str i =>
    cases h
    refine pem_plain (pe_of pe_str ?_) (fun _ => rfl)
    rintro σ H Q ⟨ρ, μ, S, er, sr, q⟩
    exact q.here sr (congrArg V.str (SX.S_tl i)).symm
  | bool i =>
    cases h
    refine pem_plain (pe_of pe_bl ?_) (fun _ => rfl)
    rintro σ H Q ⟨ρ, μ, S, er, sr, q⟩
    exact q.here sr rfl
  | none =>
    cases h
    refine pem_plain (pe_of pe_non ?_) (fun _ => rfl)
    rintro σ H Q ⟨ρ, μ, S, er, sr, q⟩
    exact q.here sr rfl
  | _ => cases h
theorem slotV_some {o : Option (Option PV)} {v : PV} (h : slotV o = some v) : o = some (some v) ∧ ∀ c, v ≠ .exc c := by
  unfold slotV at h
  split at h
  · cases h
  · rename_i u n
    cases h
    exact ⟨rfl, fun c z => n c (by rw [z])⟩
  · cases h
theorem s_name {x : Str} {pos : Pos} {m : E} (g : GE X ca N sc hot xa k) (F : Facts X T ca D G k) (h : cName T N sc x = some m) : PEm X xa ca D G k W (.Name x pos) m := by
  unfold cName at h
  split at h
  · cases h
  · rename_i hn
    have hd : (x == ("__debug__" : Str)) = false := str_ne fun z => hn (.inl z)
    have hcd : (x == ("__classdict__" : Str)) = false := str_ne fun z => hn (.inr z)
    have hs := g.sc
    subst hs
    split at h
    · rename_i hv
      cases e : slotOf N x with
      | none => rw [e] at h; cases h
      | some i =>
        rw [e] at h; cases h
        refine pem_plain (pe_of (pe_var (by rw [g.nN]; exact slot_of e) (vis_of hv) hd hcd) ?_) (fun _ => rfl)
        rintro σ H Q ⟨ρ, μ, S, er, sr, q⟩
        have q : Post X.K xa ca (rV X.K xa) μ H (ofOpt (slotV ρ[i]?) S) Q _ := q
        cases e : slotV ρ[i]? with
        | none => rw [e] at q; exact q.elim
        | some v =>
          rw [e] at q
          obtain ⟨hv2, hn⟩ := slotV_some e
          obtain ⟨y, h1, h2⟩ := er.at_ i v hv2
          exact ⟨y, h1, Post.here q sr (h2.val hn)⟩
    · split at h
      · rename_i hgl
        cases e : T.consts.lookup x with
        | none => rw [e] at h; cases h
        | some c =>
          rw [e] at h; cases h
          obtain ⟨v, u, pv, h1, h2, h3, h4⟩ := F.consts x c e
          refine pem_plain (pe_of (pe_glob (gl_of hgl) h2 h3 hd) ?_) (fun _ => rfl)
          rintro σ H Q ⟨ρ, μ, S, er, sr, q⟩
          have q : Post X.K xa ca (rV X.K xa) μ H (ofOpt (G c) S) Q _ := q
          rw [h1] at q
          exact q.here sr (h4 _ _ _)
      · cases h
theorem s_tup {f : PySem.Expr → Option E} (hf : Snd X xa ca D G k W f) {es : List PySem.Expr} {j : Nat} {pos : Pos} {m : E} (h : args f es = some m) : PEm X xa ca D G k W (.Tuple es j pos) (.tup m) := by
  refine pem_plain (pe_of (pe_tup (args_sound hf h)) ?_) (fun _ => rfl)
  rintro σ H Q ⟨ρ, μ, S, er, sr, q⟩
  refine ⟨ρ, μ, S, er, sr, q.bind _ fun v S1 x μ1 H1 x1 sr1 r1 h1 => ?_⟩
  have h1 : Post X.K xa ca (rV X.K xa) μ1 H1 (if (asTup v).length ≤ SZ then .ok (.tup (asTup v)) S1 else .bad) Q _ := h1
  split at h1
  · rename_i hz
    exact ⟨by rw [← Rels.length r1]; exact le_line hz, h1.tup sr1 r1⟩
  · exact h1.elim
theorem s_lst {f : PySem.Expr → Option E} (hf : Snd X xa ca D G k W f) {mm : Bool} {es : List PySem.Expr} {pos : Pos} {m : E} (h : args f es = some m) : PEm X xa ca D G k W (.List es pos) (.list mm m) := by
  refine pem_plain (pe_of (pe_lst (args_sound hf h)) ?_) (fun _ => rfl)
  rintro σ H Q ⟨ρ, μ, S, er, sr, q⟩
  refine ⟨ρ, μ, S, er, sr, q.bind _ fun v S1 x μ1 H1 x1 sr1 r1 h1 => ?_⟩
  have h1 : Post X.K xa ca (rV X.K xa) μ1 H1 (if (asTup v).length ≤ SZ then newL mm (asTup v) S1 else .bad) Q _ := h1
  split at h1
  · rename_i hz
    exact ⟨by rw [← Rels.length r1]; exact le_line hz, h1.newL sr1 r1⟩
  · exact h1.elim
theorem s_dict {mm : Bool} {pos : Pos} : PEm X xa ca D G k W (.Dict [] [] pos) (.dict mm) := by
  refine pem_plain (pe_of pe_dnewK ?_) (fun _ => rfl)
  rintro σ H Q ⟨ρ, μ, S, er, sr, q⟩
  have q : Post X.K xa ca (rV X.K xa) μ H (newD mm [] [] S) Q _ := q
  exact q.newD (kvs := []) sr rfl rfl
theorem s_bin {a b : PySem.Expr} {ma mb : E} {mm : Bool} {o : BinO} {op : Operator} {pos : Pos} (ho : binO op = some o) (ha : PEm X xa ca D G k W a ma) (hb : PEm X xa ca D G k W b mb) : PEm X xa ca D G k W (.BinOp a op b pos) (.bin mm o ma mb) := by
  refine pem_plain (pe_of (pe_op (op_bin (xa := xa) (ca := ca) mm o op ho) ha.1 hb.1) ?_) (fun _ => rfl)
  rintro σ H Q ⟨ρ, μ, S, er, sr, q⟩
  refine ⟨ρ, μ, S, er, sr, q.bind _ fun v S1 x μ1 H1 x1 sr1 r1 h1 => ?_⟩
  refine ⟨ρ, μ1, S1, er.mono sr x1, sr1, h1.bind _ fun w S2 y μ2 H2 x2 sr2 r2 h2 => ?_⟩
  exact ⟨v, w, μ2, S2, _, sr2, Rel.mono sr1 x2 _ _ r1, r2, h2⟩
/-! a dict of the module -/
theorem dictG_inv {e : PySem.Expr} {g : Nat} (h : dictG T hot X.env.scope e = some g) : ∃ x pos, e = .Name x pos ∧ Gl X x ∧ (x == ("__debug__" : Str)) = false ∧ T.dicts.lookup x = some g := by
  unfold dictG at h
  split at h
  · rename_i x pos
    split at h
    · rename_i hc
      exact ⟨x, pos, rfl, gl_of hc.1, str_ne hc.2.1, h⟩
    · cases h
  · cases h
theorem s_kidx {a i : PySem.Expr} {mi : E} {g : Nat} {pos : Pos} (F : Facts X T ca D G k) (hg : dictG T hot X.env.scope a = some g) (hs : isSlice i = false) (hi : PEm X xa ca D G k W i mi) : PEm X xa ca D G k W (.Subscript a i pos) (.kidx g mi) := by
  obtain ⟨x, xp, rfl, h1, h2, h3⟩ := dictG_inv hg
  obtain ⟨d, es, n, ks, vs, e1, e2, e3, e4⟩ := F.dicts x g h3
  have pn : PE X (.Name x xp) (tC (.ref d)) := pe_glob h1 e2 rfl h2
  refine pem_plain (pe_of (pe_ix ix_kdict pn hi.1 (fun o j => by cases i <;> first | rfl | cases hs)) ?_) (fun _ => rfl)
  rintro σ H Q ⟨ρ, μ, S, er, sr, q⟩
  refine ⟨ρ, μ, S, er, sr, q.bind _ fun v S1 x μ1 H1 x1 sr1 r1 h1 => ?_⟩
  rw [e1] at h1
  cases v with
  | str s =>
    cases r1
    have h1 : Post X.K xa ca (rV X.K xa) μ1 H1 (ofOpt (kGet ks vs (.s s)) S1) Q _ := h1
    obtain ⟨r, hr, hm⟩ := e4 s
    cases z : kGet ks vs (.s s) with
    | none => rw [z] at h1; exact h1.elim
    | some p =>
      rw [z] at h1 hm
      obtain ⟨u, w, rfl, ru, rw_⟩ := hm
      exact ⟨d, _, w, rfl, rfl, ⟨es, n, u, e3.at_, e3.lit, hr, ru⟩, h1.here sr1 (rw_ _ _ _)⟩
  | _ => exact h1.elim
def kinR (ks : List PK) (vs : List PV) (b : Bool) (x : PV) (T1 : Store) : Res Bool := match x with
  | .str s => .ok (if b then (kGet ks vs (.s s)).isSome else !(kGet ks vs (.s s)).isSome) T1
  | _ => .bad
theorem evT_kin {C : Nat → List PV → Store → Res PV} {g : Nat} {b : Bool} {ma : E} {ρ : Nv} {S : Store} {ks : List PK} {vs : List PV} (e1 : G g = some (.vd ks vs)) : evT C G (.kin g b ma) ρ S = (ev C G ma ρ S).bind fun x T1 => kinR ks vs b x T1 := by
  unfold evT
  show ((ev C G ma ρ S).bind fun x T1 => match G g, x with
    | some (.vd ks vs), .str s => Res.ok (PV.bl (if b then (kGet ks vs (.s s)).isSome else !(kGet ks vs (.s s)).isSome)) T1
    | _, _ => .bad).bind _ = _
  rw [e1]
  cases ev C G ma ρ S with
  | ok v S1 => cases v <;> rfl
  | _ => rfl
theorem s_kin {a i : PySem.Expr} {ma : E} {g : Nat} {b : Bool} {op : PySem.CmpOp} {pos : Pos} (F : Facts X T ca D G k) (hop : op = if b then .In else .NotIn) (hm : behindInMarks op i = false) (hg : dictG T hot X.env.scope i = some g) (ha : PEm X xa ca D G k W a ma) : PEm X xa ca D G k W (.Compare a [op] [i] pos) (.kin g b ma) := by
  obtain ⟨x, xp, rfl, h1, h2, h3⟩ := dictG_inv hg
  obtain ⟨d, es, n, ks, vs, e1, e2, e3, e4⟩ := F.dicts x g h3
  have pn : PE X (.Name x xp) (tC (.ref d)) := pe_glob h1 e2 rfl h2
  have rule : OpR X (compareOp op) (fun x y H Q => ∃ (z : Str) (r : Option Value), x = .str z ∧ y = .ref d ∧ PySem.W.nsIn X.K d z = some r ∧ Q (.bl (if b then r.isSome else !r.isSome)) H) := by
    subst hop
    cases b with
    | true => exact op_in_kd e3
    | false => exact op_notIn_kd e3
  have key : ∀ (s : List Nat), ∃ r, PySem.W.nsIn X.K d ⟨s.toArray⟩ = some r ∧ r.isSome = (kGet ks vs (.s s)).isSome := fun s => by
    obtain ⟨r, hr, hm⟩ := e4 s
    refine ⟨r, hr, ?_⟩
    cases z : kGet ks vs (.s s) with
    | none => rw [z] at hm; rw [hm]; rfl
    | some p => rw [z] at hm; obtain ⟨u, w, rfl, _⟩ := hm; rfl
  refine ⟨pe_of (pe_cmpR rule ha.1 pn hm) ?_, pt_of (pt_cmpR rule ha.1 pn hm) ?_⟩
  · rintro σ H Q ⟨ρ, μ, S, er, sr, q⟩
    refine ⟨ρ, μ, S, er, sr, q.bind _ fun v S1 x μ1 H1 x1 sr1 r1 h1 => ?_⟩
    rw [e1] at h1
    cases v with
    | str s =>
      cases r1
      obtain ⟨r, hr, he⟩ := key s
      refine ⟨_, r, rfl, rfl, hr, ?_⟩
      rw [he]
      exact h1.here sr1 rfl
    | _ => exact h1.elim
  · rintro σ H Q ⟨ρ, μ, S, er, sr, q⟩
    rw [evT_kin e1] at q
    refine ⟨ρ, μ, S, er, sr, Post.bind (R := rV X.K xa) q _ fun v S1 x μ1 H1 x1 sr1 r1 h1 => ?_⟩
    cases v with
    | str s =>
      cases r1
      obtain ⟨r, hr, he⟩ := key s
      refine ⟨_, r, rfl, rfl, hr, _, rfl, ?_⟩
      rw [he]
      exact h1 _ μ1 H1 (Ex.refl _ _) sr1 rfl
    | _ => exact h1.elim
theorem s_neg {a : PySem.Expr} {ma : E} {pos : Pos} (ha : PEm X xa ca D G k W a ma) : PEm X xa ca D G k W (.UnaryOp .USub a pos) (.neg ma) := by
  refine pem_plain (pe_of (pe_un (un_negA (xa := xa)) ha.1) ?_) (fun _ => rfl)
  rintro σ H Q ⟨ρ, μ, S, er, sr, q⟩
  refine ⟨ρ, μ, S, er, sr, q.bind _ fun v S1 x μ1 H1 x1 sr1 r1 h1 => ?_⟩
  cases v with
  | int i => exact ⟨_, μ1, r1, i, rfl, h1.here sr1 rfl⟩
  | _ => exact h1.elim

/-! ### tests -/
theorem evT_not (C : Nat → List PV → Store → Res PV) (a : E) (ρ : Nv) (S : Store) : evT C G (.not a) ρ S = (evT C G a ρ S).bind fun t S1 => .ok (!t) S1 := by
  unfold evT
  show ((ev C G a ρ S).bind fun x T1 => (ofOpt (truthM T1 x) T1).bind fun b T2 => Res.ok (PV.bl (!b)) T2).bind _ = _
  cases ev C G a ρ S with
  | ok v S1 =>
    show ((ofOpt (truthM S1 v) S1).bind fun b T2 => Res.ok (PV.bl (!b)) T2).bind _ = (ofOpt (truthM S1 v) S1).bind _
    cases truthM S1 v <;> rfl
  | _ => rfl
theorem evT_and (C : Nat → List PV → Store → Res PV) (a b : E) (ρ : Nv) (S : Store) : evT C G (.and a b) ρ S = (evT C G a ρ S).bind fun t S1 => if t then evT C G b ρ S1 else .ok false S1 := by
  unfold evT
  show ((ev C G a ρ S).bind fun x T1 => (ofOpt (truthM T1 x) T1).bind fun t T2 => if t then ev C G b ρ T2 else .ok x T2).bind _ = _
  cases ev C G a ρ S with
  | ok v S1 =>
    show ((ofOpt (truthM S1 v) S1).bind fun t T2 => if t then ev C G b ρ T2 else .ok v T2).bind _ = (ofOpt (truthM S1 v) S1).bind _
    cases e : truthM S1 v with
    | none => rfl
    | some t =>
      cases t with
      | true => rfl
      | false =>
        show ofOpt (truthM S1 v) S1 = _
        rw [e] <;> rfl
  | _ => rfl
theorem evT_or (C : Nat → List PV → Store → Res PV) (a b : E) (ρ : Nv) (S : Store) : evT C G (.or a b) ρ S = (evT C G a ρ S).bind fun t S1 => if t then .ok true S1 else evT C G b ρ S1 := by
  unfold evT
  show ((ev C G a ρ S).bind fun x T1 => (ofOpt (truthM T1 x) T1).bind fun t T2 => if t then .ok x T2 else ev C G b ρ T2).bind _ = _
  cases ev C G a ρ S with
  | ok v S1 =>
    show ((ofOpt (truthM S1 v) S1).bind fun t T2 => if t then .ok v T2 else ev C G b ρ T2).bind _ = (ofOpt (truthM S1 v) S1).bind _
    cases e : truthM S1 v with
    | none => rfl
    | some t =>
      cases t with
      | false => rfl
      | true =>
        show ofOpt (truthM S1 v) S1 = _
        rw [e] <;> rfl
  | _ => rfl
theorem evT_ite (C : Nat → List PV → Store → Res PV) (c a b : E) (ρ : Nv) (S : Store) : evT C G (.ite c a b) ρ S = (evT C G c ρ S).bind fun t S1 => if t then evT C G a ρ S1 else evT C G b ρ S1 := by
  unfold evT
  show ((ev C G c ρ S).bind fun x T1 => (ofOpt (truthM T1 x) T1).bind fun t T2 => if t then ev C G a ρ T2 else ev C G b ρ T2).bind _ = _
  cases ev C G c ρ S with
  | ok v S1 =>
    show ((ofOpt (truthM S1 v) S1).bind fun t T2 => if t then ev C G a ρ T2 else ev C G b ρ T2).bind _ = (ofOpt (truthM S1 v) S1).bind _
    cases e : truthM S1 v with
    | none => rfl
    | some t => cases t <;> rfl
  | _ => rfl
theorem s_not {a : PySem.Expr} {ma : E} {pos : Pos} (ha : PEm X xa ca D G k W a ma) : PEm X xa ca D G k W (.UnaryOp .Not a pos) (.not ma) := by
  refine ⟨pe_of (pe_notT ha.1) ?_, pt_of (pt_not ha.2) ?_⟩
  · rintro σ H Q ⟨ρ, μ, S, er, sr, q⟩
    refine ⟨ρ, μ, S, er, sr, q.bind _ fun v S1 x μ1 H1 x1 sr1 r1 h1 => ?_⟩
    cases e : truthM S1 v with
    | none => rw [e] at h1; exact h1.elim
    | some b =>
      rw [e] at h1
      exact ⟨b, truV_of sr1 r1 e, h1.here sr1 rfl⟩
  · rintro σ H Q ⟨ρ, μ, S, er, sr, q⟩
    rw [evT_not] at q
    refine ⟨ρ, μ, S, er, sr, q.bind _ fun v S1 x μ1 H1 x1 sr1 r1 h1 => ?_⟩
    subst r1
    exact h1 _ μ1 H1 (Ex.refl _ _) sr1 rfl
theorem s_and {a b : PySem.Expr} {r : List PySem.Expr} {ma mb : E} {pos : Pos} (ha : PEm X xa ca D G k W a ma) (hb : PEm X xa ca D G k W (.BoolOp .And (b :: r) pos) mb) : PEm X xa ca D G k W (.BoolOp .And (a :: b :: r) pos) (.and ma mb) := by
  have hw : PW X (.BoolOp .And (b :: r) pos) (tR X.K xa ca rB W (evT (callF D G k) G mb)) := ⟨fun whole pins s σ H Q I h => hb.2.run pins s σ H Q I h⟩
  refine ⟨pe_of (pe_andT ha.1 hb.1) ?_, pt_of (pw_and ha.2 hw).pt ?_⟩
  · rintro σ H Q ⟨ρ, μ, S, er, sr, q⟩
    refine ⟨ρ, μ, S, er, sr, q.bind _ fun v S1 x μ1 H1 x1 sr1 r1 h1 => ?_⟩
    cases e : truthM S1 v with
    | none => rw [e] at h1; exact h1.elim
    | some t =>
      rw [e] at h1
      refine ⟨t, truV_of sr1 r1 e, ?_⟩
      cases t with
      | true => exact ⟨ρ, μ1, S1, er.mono sr x1, sr1, h1⟩
      | false => exact h1.here sr1 r1
  · rintro σ H Q ⟨ρ, μ, S, er, sr, q⟩
    rw [evT_and] at q
    refine ⟨ρ, μ, S, er, sr, q.bind _ fun v S1 x μ1 H1 x1 sr1 r1 h1 => ?_⟩
    subst r1
    cases v with
    | true => exact ⟨ρ, μ1, S1, er.mono sr x1, sr1, h1⟩
    | false => exact h1 _ μ1 H1 (Ex.refl _ _) sr1 rfl
theorem s_or {a b : PySem.Expr} {r : List PySem.Expr} {ma mb : E} {pos : Pos} (ha : PEm X xa ca D G k W a ma) (hb : PEm X xa ca D G k W (.BoolOp .Or (b :: r) pos) mb) : PEm X xa ca D G k W (.BoolOp .Or (a :: b :: r) pos) (.or ma mb) := by
  have hw : PW X (.BoolOp .Or (b :: r) pos) (tR X.K xa ca rB W (evT (callF D G k) G mb)) := ⟨fun whole pins s σ H Q I h => hb.2.run pins s σ H Q I h⟩
  refine ⟨pe_of (pe_orT ha.1 hb.1) ?_, pt_of (pw_or ha.2 hw).pt ?_⟩
  · rintro σ H Q ⟨ρ, μ, S, er, sr, q⟩
    refine ⟨ρ, μ, S, er, sr, q.bind _ fun v S1 x μ1 H1 x1 sr1 r1 h1 => ?_⟩
    cases e : truthM S1 v with
    | none => rw [e] at h1; exact h1.elim
    | some t =>
      rw [e] at h1
      refine ⟨t, truV_of sr1 r1 e, ?_⟩
      cases t with
      | false => exact ⟨ρ, μ1, S1, er.mono sr x1, sr1, h1⟩
      | true => exact h1.here sr1 r1
  · rintro σ H Q ⟨ρ, μ, S, er, sr, q⟩
    rw [evT_or] at q
    refine ⟨ρ, μ, S, er, sr, q.bind _ fun v S1 x μ1 H1 x1 sr1 r1 h1 => ?_⟩
    subst r1
    cases v with
    | false => exact ⟨ρ, μ1, S1, er.mono sr x1, sr1, h1⟩
    | true => exact h1 _ μ1 H1 (Ex.refl _ _) sr1 rfl
theorem s_one {a : PySem.Expr} {ma : E} {op : PySem.BoolOp} {pos : Pos} (ha : PEm X xa ca D G k W a ma) : PEm X xa ca D G k W (.BoolOp op [a] pos) ma := by
  cases op with
  | And => exact ⟨pe_one ha.1, (pw_and1 ha.2).pt⟩
  | Or => exact ⟨pe_one ha.1, (pw_or1 ha.2).pt⟩
theorem s_bool {f : Rc} (hf : Snd X xa ca D G k W (f false sc)) {op : PySem.BoolOp} {pos : Pos} {es : List PySem.Expr} {m : E} (h : cBool f sc op pos es = some m) : PEm X xa ca D G k W (.BoolOp op es pos) m := by
  unfold cBool at h
  split at h
  · cases h
  · exact s_one (hf _ _ h)
  · rename_i a b r
    cases e1 : f false sc a with
    | none => rw [e1] at h; cases h
    | some x =>
      rw [e1] at h
      cases op with
      | And =>
        have h : (f false sc (.BoolOp .And (b :: r) pos)).map (fun y => E.and x y) = some m := h
        cases e2 : f false sc (.BoolOp .And (b :: r) pos) with
        | none => rw [e2] at h; cases h
        | some y => rw [e2] at h; cases h; exact s_and (hf _ _ e1) (hf _ _ e2)
      | Or =>
        have h : (f false sc (.BoolOp .Or (b :: r) pos)).map (fun y => E.or x y) = some m := h
        cases e2 : f false sc (.BoolOp .Or (b :: r) pos) with
        | none => rw [e2] at h; cases h
        | some y => rw [e2] at h; cases h; exact s_or (hf _ _ e1) (hf _ _ e2)
theorem pt_ifExp {c a b : PySem.Expr} {pos : Pos} {tc ta tb : TT} (hc : PT X c tc) (ha : PT X a ta) (hb : PT X b tb) : PT X (.IfExp c a b pos) (fun σ H Q => tc σ H fun t H1 => if t = true then ta σ H1 Q else tb σ H1 Q) := by
  refine ⟨fun pins s σ H Q I h => ?_⟩
  show wpAny _ _ (do if ← isTrue c X.env (eval c X.env) then isTrue a X.env (eval a X.env) else isTrue b X.env (eval b X.env)) _ _ _
  refine wpAny_bind (thn (hc.run pins s σ H _ I h) fun d s1 ⟨H1, I1, q1⟩ => ?_)
  cases d with
  | true => exact ha.run pins s1 σ H1 Q I1 q1
  | false => exact hb.run pins s1 σ H1 Q I1 q1
theorem s_ifExp {c a b : PySem.Expr} {mc ma mb : E} {pos : Pos} (hc : PEm X xa ca D G k W c mc) (ha : PEm X xa ca D G k W a ma) (hb : PEm X xa ca D G k W b mb) : PEm X xa ca D G k W (.IfExp c a b pos) (.ite mc ma mb) := by
  refine ⟨pe_of (pe_ifExp hc.2 ha.1 hb.1) ?_, pt_of (pt_ifExp hc.2 ha.2 hb.2) ?_⟩
  · rintro σ H Q ⟨ρ, μ, S, er, sr, q⟩
    have e : ev (callF D G k) G (.ite mc ma mb) ρ S = (evT (callF D G k) G mc ρ S).bind fun t S1 => if t then ev (callF D G k) G ma ρ S1 else ev (callF D G k) G mb ρ S1 := by
      unfold evT
      show ((ev (callF D G k) G mc ρ S).bind fun x T1 => (ofOpt (truthM T1 x) T1).bind fun t T2 => if t then ev (callF D G k) G ma ρ T2 else ev (callF D G k) G mb ρ T2) = _
      cases ev (callF D G k) G mc ρ S <;> rfl
    rw [e] at q
    refine ⟨ρ, μ, S, er, sr, q.bind _ fun v S1 x μ1 H1 x1 sr1 r1 h1 => ?_⟩
    subst r1
    cases v with
    | true => exact ⟨ρ, μ1, S1, er.mono sr x1, sr1, h1⟩
    | false => exact ⟨ρ, μ1, S1, er.mono sr x1, sr1, h1⟩
  · rintro σ H Q ⟨ρ, μ, S, er, sr, q⟩
    rw [evT_ite] at q
    refine ⟨ρ, μ, S, er, sr, q.bind _ fun v S1 x μ1 H1 x1 sr1 r1 h1 => ?_⟩
    subst r1
    cases v with
    | true => exact ⟨ρ, μ1, S1, er.mono sr x1, sr1, h1⟩
    | false => exact ⟨ρ, μ1, S1, er.mono sr x1, sr1, h1⟩
theorem evT_cmp (C : Nat → List PV → Store → Res PV) (o : MP.CmpO) (a b : E) (ρ : Nv) (S : Store) : evT C G (.cmp o a b) ρ S = (ev C G a ρ S).bind fun x T1 => (ev C G b ρ T1).bind fun y T2 => ofOpt (cmpOp o x y T2) T2 := by
  unfold evT
  show ((ev C G a ρ S).bind fun x T1 => (ev C G b ρ T1).bind fun y T2 => (ofOpt (cmpOp o x y T2) T2).bind fun t T3 => Res.ok (PV.bl t) T3).bind _ = _
  rw [Res.bind_assoc]
  refine Res.bind_congr _ fun x T1 => ?_
  rw [Res.bind_assoc]
  exact Res.bind_congr _ fun y T2 => ofBl _ _
theorem evT_chain (C : Nat → List PV → Store → Res PV) (o p : MP.CmpO) (a b c : E) (ρ : Nv) (S : Store) : evT C G (.chain o p a b c) ρ S = (ev C G a ρ S).bind fun x T1 => (ev C G b ρ T1).bind fun y T2 => (ofOpt (cmpOp o x y T2) T2).bind fun t T3 =>
    if t then (ev C G c ρ T3).bind fun z T4 => ofOpt (cmpOp p y z T4) T4 else .ok false T3 := by
  unfold evT
  show ((ev C G a ρ S).bind fun x T1 => (ev C G b ρ T1).bind fun y T2 => (ofOpt (cmpOp o x y T2) T2).bind fun t T3 =>
    if t then (ev C G c ρ T3).bind fun z T4 => (ofOpt (cmpOp p y z T4) T4).bind fun t T5 => Res.ok (PV.bl t) T5 else Res.ok (PV.bl false) T3).bind _ = _
  rw [Res.bind_assoc]
  refine Res.bind_congr _ fun x T1 => ?_
  rw [Res.bind_assoc]
  refine Res.bind_congr _ fun y T2 => ?_
  rw [Res.bind_assoc]
  refine Res.bind_congr _ fun t T3 => ?_
  cases t with
  | false => rfl
  | true =>
    show ((ev C G c ρ T3).bind fun z T4 => (ofOpt (cmpOp p y z T4) T4).bind fun t T5 => Res.ok (PV.bl t) T5).bind _ = _
    rw [Res.bind_assoc]
    exact Res.bind_congr _ fun z T4 => ofBl _ _
theorem s_cmp {a b : PySem.Expr} {ma mb : E} {op : PySem.CmpOp} {pos : Pos} (hu : X.A.units + 70 < cLine) (hm : behindInMarks op b = false) (ha : PEm X xa ca D G k W a ma) (hb : PEm X xa ca D G k W b mb) : PEm X xa ca D G k W (.Compare a [op] [b] pos) (.cmp (cmpO op) ma mb) := by
  refine ⟨pe_of (pe_cmpR (op_cmpA (xa := xa) hu op) ha.1 hb.1 hm) ?_, pt_of (pt_cmpR (op_cmpA (xa := xa) hu op) ha.1 hb.1 hm) ?_⟩
  · rintro σ H Q ⟨ρ, μ, S, er, sr, q⟩
    refine ⟨ρ, μ, S, er, sr, q.bind _ fun v S1 x μ1 H1 x1 sr1 r1 h1 => ?_⟩
    refine ⟨ρ, μ1, S1, er.mono sr x1, sr1, h1.bind _ fun w S2 y μ2 H2 x2 sr2 r2 h2 => ?_⟩
    cases e : cmpOp (cmpO op) v w S2 with
    | none => rw [e] at h2; exact h2.elim
    | some t =>
      rw [e] at h2
      exact ⟨v, w, μ2, S2, t, sr2, Rel.mono sr1 x2 _ _ r1, r2, e, h2.here sr2 rfl⟩
  · rintro σ H Q ⟨ρ, μ, S, er, sr, q⟩
    rw [evT_cmp] at q
    refine ⟨ρ, μ, S, er, sr, q.bind _ fun v S1 x μ1 H1 x1 sr1 r1 h1 => ?_⟩
    refine ⟨ρ, μ1, S1, er.mono sr x1, sr1, h1.bind _ fun w S2 y μ2 H2 x2 sr2 r2 h2 => ?_⟩
    cases e : cmpOp (cmpO op) v w S2 with
    | none => rw [e] at h2; exact h2.elim
    | some t =>
      rw [e] at h2
      exact ⟨v, w, μ2, S2, t, sr2, Rel.mono sr1 x2 _ _ r1, r2, e, t, rfl, h2 t μ2 H2 (Ex.refl _ _) sr2 rfl⟩
theorem s_chain {a b c : PySem.Expr} {ma mb mc : E} {op op' : PySem.CmpOp} {pos : Pos} (hu : X.A.units + 70 < cLine) (hm : behindInMarks op' c = false) (ha : PEm X xa ca D G k W a ma) (hb : PEm X xa ca D G k W b mb) (hc : PEm X xa ca D G k W c mc) : PEm X xa ca D G k W (.Compare a [op, op'] [b, c] pos) (.chain (cmpO op) (cmpO op') ma mb mc) := by
  have hm' : lastMarks [op, op'] [b, c] = false := hm
  refine ⟨pe_of (pe_chain (op_cmpA (xa := xa) hu op) (op_cmpA (xa := xa) hu op') ha.1 hb.1 hc.1 hm') ?_, pt_of (pt_chain (op_cmpA (xa := xa) hu op) (op_cmpA (xa := xa) hu op') ha.1 hb.1 hc.1 hm') ?_⟩
  · rintro σ H Q ⟨ρ, μ, S, er, sr, q⟩
    refine ⟨ρ, μ, S, er, sr, q.bind _ fun v S1 x μ1 H1 x1 sr1 r1 h1 => ?_⟩
    refine ⟨ρ, μ1, S1, er.mono sr x1, sr1, h1.bind _ fun w S2 y μ2 H2 x2 sr2 r2 h2 => ?_⟩
    cases e : cmpOp (cmpO op) v w S2 with
    | none => rw [e] at h2; exact h2.elim
    | some t =>
      rw [e] at h2
      refine ⟨v, w, μ2, S2, t, sr2, Rel.mono sr1 x2 _ _ r1, r2, e, t, rfl, ?_⟩
      cases t with
      | false => exact h2.here sr2 rfl
      | true =>
        refine ⟨ρ, μ2, S2, (er.mono sr x1).mono sr1 x2, sr2, Post.bind (R := rV X.K xa) h2 _ fun z S3 u μ3 H3 x3 sr3 r3 h3 => ?_⟩
        cases e' : cmpOp (cmpO op') w z S3 with
        | none => rw [e'] at h3; exact h3.elim
        | some t' =>
          rw [e'] at h3
          exact ⟨w, z, μ3, S3, t', sr3, Rel.mono sr2 x3 _ _ r2, r3, e', h3.here sr3 rfl⟩
  · rintro σ H Q ⟨ρ, μ, S, er, sr, q⟩
    rw [evT_chain] at q
    refine ⟨ρ, μ, S, er, sr, q.bind _ fun v S1 x μ1 H1 x1 sr1 r1 h1 => ?_⟩
    refine ⟨ρ, μ1, S1, er.mono sr x1, sr1, h1.bind _ fun w S2 y μ2 H2 x2 sr2 r2 h2 => ?_⟩
    cases e : cmpOp (cmpO op) v w S2 with
    | none => rw [e] at h2; exact h2.elim
    | some t =>
      rw [e] at h2
      refine ⟨v, w, μ2, S2, t, sr2, Rel.mono sr1 x2 _ _ r1, r2, e, t, rfl, ?_⟩
      cases t with
      | false => exact ⟨false, rfl, h2 false μ2 H2 (Ex.refl _ _) sr2 rfl⟩
      | true =>
        refine ⟨ρ, μ2, S2, (er.mono sr x1).mono sr1 x2, sr2, Post.bind (R := rV X.K xa) h2 _ fun z S3 u μ3 H3 x3 sr3 r3 h3 => ?_⟩
        cases e' : cmpOp (cmpO op') w z S3 with
        | none => rw [e'] at h3; exact h3.elim
        | some t' =>
          rw [e'] at h3
          exact ⟨w, z, μ3, S3, t', sr3, Rel.mono sr2 x3 _ _ r2, r3, e', t', rfl, h3 t' μ3 H3 (Ex.refl _ _) sr3 rfl⟩
theorem s_cmps {f : Rc} (hu : X.A.units + 70 < cLine) (F : Facts X T ca D G k) (hs : X.env.scope = sc) (hf : Snd X xa ca D G k W (f false sc)) {a : PySem.Expr} {ops : List PySem.CmpOp} {pos : Pos} {es : List PySem.Expr} {m : E} (h : cCmp T hot f sc a ops es = some m) : PEm X xa ca D G k W (.Compare a ops es pos) m := by
  subst hs
  unfold cCmp at h
  split at h
  · rename_i op b
    split at h
    · cases h
    · rename_i hm
      have hm : behindInMarks op b = false := by simpa using hm
      split at h
      · rename_i g hg
        cases e1 : f false X.env.scope a with
        | none => rw [e1] at h; cases h
        | some x =>
          rw [e1] at h
          cases op <;> first | (cases h; done) | skip
          · cases h; exact s_kin (b := true) F rfl hm hg (hf _ _ e1)
          · cases h; exact s_kin (b := false) F rfl hm hg (hf _ _ e1)
      · cases e1 : f false X.env.scope a with
        | none => rw [e1] at h; cases h
        | some x =>
          rw [e1] at h
          cases e2 : f false X.env.scope b with
          | none => rw [e2] at h; cases h
          | some y => rw [e2] at h; cases h; exact s_cmp hu hm (hf _ _ e1) (hf _ _ e2)
  · rename_i op op' b c
    split at h
    · cases h
    · rename_i hm
      cases e1 : f false X.env.scope a with
      | none => rw [e1] at h; cases h
      | some x =>
        rw [e1] at h
        cases e2 : f false X.env.scope b with
        | none => rw [e2] at h; cases h
        | some y =>
          rw [e2] at h
          cases e3 : f false X.env.scope c with
          | none => rw [e3] at h; cases h
          | some z => rw [e3] at h; cases h; exact s_chain hu (by simpa using hm) (hf _ _ e1) (hf _ _ e2) (hf _ _ e3)
  · cases h
end
end MP

set_option Elab.async false
set_option linter.all false
set_option maxRecDepth 100000
set_option maxHeartbeats 2000000
/-! M4b: subscripts, calls, methods. -/
namespace MP
open PySem PySem.Spec PyProof.Rows L2
section
variable {X : Cx} {T : Tab} {N : List Str} {hot : Bool} {ca : Nat → Addr} {D : Nat → Option FD} {G : Nat → Option PV} {k : Nat} {xa : Option (Addr × Nat)} {W : WX} {sc : Scope}
theorem isRev_inv {i : PySem.Expr} (h : isRev i = true) : ∃ j p1 p2 p3, i = .Slice none none (some (.UnaryOp .USub (.Constant (.int 1) j p1) p2)) p3 := by
  unfold isRev at h
  split at h
  · have := of_decide_eq_true h
    subst this
    exact ⟨_, _, _, _, rfl⟩
  · cases h
theorem s_rev {a : PySem.Expr} {mm : Bool} {ma : E} {j : Nat} {p1 p2 p3 pos : Pos} (ha : PEm X xa ca D G k W a ma) : PEm X xa ca D G k W (.Subscript a (.Slice none none (some (.UnaryOp .USub (.Constant (.int 1) j p1) p2)) p3) pos) (.rev mm ma) := by
  refine pem_plain (pe_of (pe_revA ha.1) ?_) (fun _ => rfl)
  rintro σ H Q ⟨ρ, μ, S, er, sr, q⟩
  refine ⟨ρ, μ, S, er, sr, q.bind _ fun v S1 x μ1 H1 x1 sr1 r1 h1 => ?_⟩
  unfold revOp at h1
  split at h1
  · obtain ⟨p, vs, rfl, s1, r2⟩ := r1
    exact ⟨p, vs, rfl, .inr ⟨s1, h1.tup sr1 r2.reverse⟩⟩
  · split at h1
    · rename_i xs e
      obtain ⟨p, vs, rfl, s1, r2⟩ := listOf_inv sr1 r1 e
      exact ⟨p, vs, rfl, .inl ⟨.of s1, h1.newL sr1 r2.reverse⟩⟩
    · exact h1.elim
theorem po_part {f : PySem.Expr → Option E} (hf : Snd X xa ca D G k W f) {o : Option PySem.Expr} {m : E} (h : part f o = some m) :
    PO X o (fun σ H Q => tR X.K xa ca (rV X.K xa) W (ev (callF D G k) G m) σ H fun x H1 => if o.isSome then ∃ i, x = V.int i ∧ Q (some i) H1 else Q none H1) := by
  cases o with
  | none =>
    cases h
    refine ⟨fun pins s σ H Q I q => po_none.run pins s σ H Q I ?_⟩
    obtain ⟨ρ, μ, S, er, sr, q⟩ := q
    exact q .non μ H (Ex.refl _ _) sr rfl
  | some e =>
    exact ⟨fun pins s σ H Q I q => (po_some (hf e m h).1).run pins s σ H Q I q⟩
theorem s_slice {f : PySem.Expr → Option E} (hf : Snd X xa ca D G k W f) {a : PySem.Expr} {lo hi : Option PySem.Expr} {ma ml mh : E} {mm : Bool} {p2 pos : Pos} (ha : PEm X xa ca D G k W a ma) (hl : part f lo = some ml) (hh : part f hi = some mh) :
    PEm X xa ca D G k W (.Subscript a (.Slice lo hi none p2) pos) (.slice mm ma ml mh lo.isSome hi.isSome) := by
  refine pem_plain (pe_of (pe_slice (sl_all (xa := xa) (ca := ca) mm) ha.1 (po_part hf hl) (po_part hf hh)) ?_) (fun _ => rfl)
  rintro σ H Q ⟨ρ, μ, S, er, sr, q⟩
  refine ⟨ρ, μ, S, er, sr, q.bind _ fun v S1 x μ1 H1 x1 sr1 r1 h1 => ?_⟩
  have er1 := er.mono sr x1
  refine ⟨ρ, μ1, S1, er1, sr1, h1.bind _ fun w S2 y μ2 H2 x2 sr2 r2 h2 => ?_⟩
  have er2 := er1.mono sr1 x2
  have h2 : Post X.K xa ca (rV X.K xa) μ2 H2 (if partOk lo.isSome w then (ev (callF D G k) G mh ρ S2).bind fun h T3 => if partOk hi.isSome h then sliceOp mm lo.isSome hi.isSome v w h T3 else .bad else .bad) Q _ := h2
  split at h2
  · rename_i hw
    -- the second part
    have key : ∀ (o1 : Option Int), PtR lo.isSome w o1 → tR X.K xa ca (rV X.K xa) W (ev (callF D G k) G mh) σ H2 (fun x3 H3 => if hi.isSome = true then ∃ i, x3 = V.int i ∧
        (fun o2 H4 => (∃ v w1 w2 pl ph μ T W, SR X.K xa H4 μ T ∧ Rel X.K xa H4 μ v x ∧ PtR pl w1 o1 ∧ PtR ph w2 o2 ∧ Post X.K xa ca (rV X.K xa) μ H4 (sliceOp mm pl ph v w1 w2 T) Q W)) (some i) H3
        else (fun o2 H4 => (∃ v w1 w2 pl ph μ T W, SR X.K xa H4 μ T ∧ Rel X.K xa H4 μ v x ∧ PtR pl w1 o1 ∧ PtR ph w2 o2 ∧ Post X.K xa ca (rV X.K xa) μ H4 (sliceOp mm pl ph v w1 w2 T) Q W)) none H3) := fun o1 p1 => by
      refine ⟨ρ, μ2, S2, er2, sr2, h2.bind _ fun w3 S3 z μ3 H3 x3 sr3 r3 h3 => ?_⟩
      split at h3
      · rename_i hw3
        have fin : ∀ o2, PtR hi.isSome w3 o2 → ∃ v w1 w2 pl ph μ T W, SR X.K xa H3 μ T ∧ Rel X.K xa H3 μ v x ∧ PtR pl w1 o1 ∧ PtR ph w2 o2 ∧ Post X.K xa ca (rV X.K xa) μ H3 (sliceOp mm pl ph v w1 w2 T) Q W := fun o2 p2 =>
          ⟨v, w, w3, lo.isSome, hi.isSome, μ3, S3, _, sr3, Rel.mono sr1 (x2.trans x3) _ _ r1, p1, p2, h3⟩
        cases hb : hi.isSome with
        | false =>
          rw [if_neg Bool.false_ne_true]
          exact fin none (.inl ⟨hb, rfl⟩)
        | true =>
          rw [if_pos rfl]
          rw [hb] at hw3
          cases w3 with
          | int i => exact ⟨i, r3, fin (some i) (.inr ⟨hb, i, rfl, rfl⟩)⟩
          | _ => exact absurd (show false = true from hw3) Bool.false_ne_true
      · exact h3.elim
    cases hb : lo.isSome with
    | false =>
      rw [if_neg Bool.false_ne_true]
      exact key none (.inl ⟨hb, rfl⟩)
    | true =>
      rw [if_pos rfl]
      rw [hb] at hw
      cases w with
      | int i => exact ⟨i, r2, key (some i) (.inr ⟨hb, i, rfl, rfl⟩)⟩
      | _ => exact absurd (show false = true from hw) Bool.false_ne_true
  · exact h2.elim
theorem plain_ix {b : PySem.Expr} (h : isSlice b = false) : PlainIx b := fun o i => by
  cases b <;> first | rfl | cases h
theorem s_idx {a b : PySem.Expr} {ma mb : E} {pos : Pos} (hu : X.A.units + 70 < cLine) (hs : isSlice b = false) (ha : PEm X xa ca D G k W a ma) (hb : PEm X xa ca D G k W b mb) : PEm X xa ca D G k W (.Subscript a b pos) (.idx ma mb) := by
  refine pem_plain (pe_of (pe_ix (ix_all (xa := xa) hu) ha.1 hb.1 (plain_ix hs)) ?_) (fun _ => rfl)
  rintro σ H Q ⟨ρ, μ, S, er, sr, q⟩
  refine ⟨ρ, μ, S, er, sr, q.bind _ fun v S1 x μ1 H1 x1 sr1 r1 h1 => ?_⟩
  refine ⟨ρ, μ1, S1, er.mono sr x1, sr1, h1.bind _ fun w S2 y μ2 H2 x2 sr2 r2 h2 => ?_⟩
  cases e : idxOp v w S2 with
  | none => rw [e] at h2; exact h2.elim
  | some u =>
    rw [e] at h2
    exact ⟨v, w, μ2, S2, u, sr2, Rel.mono sr1 x2 _ _ r1, r2, e, fun z rz => h2.here sr2 rz⟩
theorem s_sub {f : Rc} {mm : Bool} (F : Facts X T ca D G k) (hu : X.A.units + 70 < cLine) (hsc : X.env.scope = sc) (hf : Snd X xa ca D G k W (f false sc)) {a i : PySem.Expr} {pos : Pos} {m : E} (h : cSub T hot f mm sc a i = some m) : PEm X xa ca D G k W (.Subscript a i pos) m := by
  subst hsc
  unfold cSub at h
  split at h
  · rename_i hr
    obtain ⟨j, p1, p2, p3, rfl⟩ := isRev_inv hr
    cases e : f false X.env.scope a with
    | none => rw [e] at h; cases h
    | some x => rw [e] at h; cases h; exact s_rev (hf _ _ e)
  · split at h
    · rename_i lo hi p _
      cases e1 : f false X.env.scope a with
      | none => rw [e1] at h; cases h
      | some x =>
        rw [e1] at h
        cases e2 : part (f false X.env.scope) lo with
        | none => rw [e2] at h; cases h
        | some y =>
          rw [e2] at h
          cases e3 : part (f false X.env.scope) hi with
          | none => rw [e3] at h; cases h
          | some z => rw [e3] at h; cases h; exact s_slice hf (hf _ _ e1) e2 e3
    · split at h
      · cases h
      · rename_i hs
        have hs : isSlice i = false := by simpa using hs
        split at h
        · rename_i g hg
          cases e2 : f false X.env.scope i with
          | none => rw [e2] at h; cases h
          | some y => rw [e2] at h; cases h; exact s_kidx F hg hs (hf _ _ e2)
        · cases e1 : f false X.env.scope a with
          | none => rw [e1] at h; cases h
          | some x =>
            rw [e1] at h
            cases e2 : f false X.env.scope i with
            | none => rw [e2] at h; cases h
            | some y => rw [e2] at h; cases h; exact s_idx hu hs (hf _ _ e1) (hf _ _ e2)

/-! ### calls -/
theorem boot_prims : (primTab.all fun q => decide (bootBuiltins q.1 = some (primV q.2))) = true := by decide +kernel
theorem boot_prim {x : Str} {p : Prim} (h : primO x = some p) : bootBuiltins x = some (primV p) :=
  of_decide_eq_true (List.all_eq_true.mp boot_prims (x, p) (PySem.mem_of_lookup h))
theorem prim_shape (p : Prim) : (∃ id, primV p = .builtin id) ∨ ∃ t, primV p = .type t := by
  cases p <;> first | exact .inl ⟨_, rfl⟩ | exact .inr ⟨_, rfl⟩
theorem s_prim {f : PySem.Expr → Option E} (hf : Snd X xa ca D G k W f) {x : Str} {e : PySem.Expr} {es : List PySem.Expr} {m : E} {p : Prim} {mm : Bool} {np pos : Pos} (hc : X.calm = true) (hg : Gl X x) (hm : X.mg x = none) (hp : primO x = some p) (ha : args f (e :: es) = some m)
    (hn : x ≠ "__name__") (hdb : (x == ("__debug__" : Str)) = false) : PEm X xa ca D G k W (.Call (.Name x np) (e :: es) [] pos) (.prim mm p m) := by
  obtain ⟨a, b, h1, h2, h3, h4⟩ := args_cons ha
  have cr := call_prim (X := X) (xa := xa) (ca := ca) hc mm p
  have bt := boot_prim hp
  have hA := args_sound hf ha
  have pe : PE X (.Call (.Name x np) (e :: es) [] pos) (tCB (rCl X.K xa ca (primOp mm p)) (tR X.K xa ca (rA X.K xa) W (ev (callF D G k) G m))) := by
    rcases prim_shape p with ⟨id, z⟩ | ⟨t, z⟩
    · rw [z] at cr bt
      exact pe_callB cr hg hm bt hA hn hdb (star_cons h1) (args_plain h3)
    · rw [z] at cr bt
      exact pe_callTy cr hg hm bt hA hn hdb (star_cons h1) (args_plain h3)
  refine pem_plain (pe_of pe ?_) (fun _ => rfl)
  rintro σ H Q ⟨ρ, μ, S, er, sr, q⟩
  exact ⟨ρ, μ, S, er, sr, q.bind _ fun v S1 x μ1 H1 x1 sr1 r1 h1 => ⟨asTup v, μ1, S1, _, sr1, r1, h1⟩⟩
theorem callF_len {D : Nat → Option FD} {G : Nat → Option PV} {k f : Nat} {vs : List PV} {S : Store} {d : FD} {β : Type} {R : RRel PV β} {K : PySem.W.Frag} {μ : Mu} {H : Hp} {Q : β → Hp → Prop} {W : Value → Option Addr → Hp → Prop}
    (h : Post K xa ca R μ H (callF D G k f vs S) Q W) (hd : D f = some d) : vs.length = d.np := by
  cases k with
  | zero => exact h.elim
  | succ k =>
    have e : callF D G (k + 1) f vs S = match D f with | some d => if vs.length = d.np then (if d.keep then ofBody (exS (callF D G k) G d.body (startE d.ns vs) S) else letGo S (ofBody (exS (callF D G k) G d.body (startE d.ns vs) S))) else .bad | none => .bad := rfl
    rw [e, hd] at h
    by_cases z : vs.length = d.np
    · exact z
    · have h : Post K xa ca R μ H (if vs.length = d.np then (if d.keep then ofBody (exS (callF D G k) G d.body (startE d.ns vs) S) else letGo S (ofBody (exS (callF D G k) G d.body (startE d.ns vs) S))) else .bad) Q W := h
      rw [if_neg z] at h
      exact h.elim
theorem s_fn {f : PySem.Expr → Option E} (hf : Snd X none ca D G k W f) {x : Str} {fi : Nat} {e : PySem.Expr} {es : List PySem.Expr} {m : E} {np pos : Pos} (F : Facts X T ca D G k) (hr : Room k X.A) (tk : Takes X W) (hg : Gl X x) (hp : T.fns.lookup x = some fi) (ha : args f (e :: es) = some m)
    (hdb : (x == ("__debug__" : Str)) = false) : PEm X none ca D G k W (.Call (.Name x np) (e :: es) [] pos) (.call fi m) := by
  obtain ⟨a, b, h1, h2, h3, h4⟩ := args_cons ha
  obtain ⟨fa, fd, ps, hm, hk, hb, ⟨d, hd, hnp⟩, Fn⟩ := F.fns x fi hp
  refine pem_plain (pe_of (pe_callS Fn hr hg hm hk hb (fun σ => passAt tk σ) (args_sound hf ha) hdb (star_cons h1) (args_plain h3)) ?_) (fun _ => rfl)
  rintro σ H Q ⟨ρ, μ, S, er, sr, q⟩
  refine ⟨ρ, μ, S, er, sr, q.bind _ fun v S1 x μ1 H1 x1 sr1 r1 h1 => ?_⟩
  have h1 : Post X.K none ca (rV X.K none) μ1 H1 (callF D G k fi (asTup v) S1) Q _ := h1
  refine ⟨?_, asTup v, μ1, S1, r1, sr1, h1⟩
  have hl := callF_len h1 hd
  rw [← Rels.length r1, hl, hnp]
theorem s_isinst {a : PySem.Expr} {ma : E} {y : Str} {t : Tyq} {np yp pos : Pos} (hs : isStar a = false) (hgi : Gl X "isinstance") (hmi : X.mg "isinstance" = none) (hg : Gl X y) (hm : X.mg y = none) (ht : tyO y = some t) (ha : PEm X xa ca D G k W a ma) :
    PEm X xa ca D G k W (.Call (.Name "isinstance" np) [a, .Name y yp] [] pos) (.isinst ma t) := by
  have hb : bootBuiltins y = some (.type (tyName t)) ∧ y ≠ "__name__" ∧ (y == ("__debug__" : Str)) = false := by
    unfold tyO at ht
    repeat' split at ht
    all_goals first
      | (rename_i e; subst e; cases ht; exact ⟨by decide +kernel, by decide, by decide⟩)
      | cases ht
  have hy : PE X (.Name y yp) (tC (.ty (tyName t))) := pe_bltn hg hm hb.1 rfl hb.2.1 hb.2.2
  refine pem_plain (pe_of (pe_callB call_isi hgi hmi PyProof.Rows.boot_isinstance (pa_cons ha.1 (pa_cons hy pa_nil) (star_cons hs)) (by decide) (by decide) (star_cons hs)) ?_) (fun _ => rfl)
  rintro σ H Q ⟨ρ, μ, S, er, sr, q⟩
  refine ⟨ρ, μ, S, er, sr, q.bind _ fun v S1 x μ1 H1 x1 sr1 r1 h1 => ?_⟩
  cases e : isInst v t with
  | none => rw [e] at h1; exact h1.elim
  | some b =>
    rw [e] at h1
    obtain ⟨u, h2, h3⟩ := isInst_ok sr1 r1 e
    exact ⟨x, _, u, _, b, rfl, .ty _, h2, h3, h1.here sr1 rfl⟩
theorem s_isexc {x y : Str} {i c : Nat} {xp np yp pos : Pos} (g : GE X ca N sc hot xa k) (F : Facts X T ca D G k) (hh : hot = true) (hgi : Gl X "isinstance") (hmi : X.mg "isinstance" = none) (hg : Gl X y) (hy : T.clss.lookup y = some c) (hx : slotOf N x = some i) (hv : isVis (sc.names.lookup x) = true)
    (hd : (x == ("__debug__" : Str)) = false) (hcd : (x == ("__classdict__" : Str)) = false) (hyd : (y == ("__debug__" : Str)) = false) : PEm X xa ca D G k W (.Call (.Name "isinstance" np) [.Name x xp, .Name y yp] [] pos) (.isexc i (T.caught c) (T.passed c)) := by
  have hs := g.sc
  subst hs
  have C := F.clss y c hy
  have pex : PE X (.Name x xp) (tVar i) := pe_var (by rw [g.nN]; exact slot_of hx) (vis_of hv) hd hcd
  have pey : PE X (.Name y yp) (tC (.ref (ca c))) := pe_glob hg C.mg rfl hyd
  -- what the slot holds decides which rule
  refine pem_plain ⟨fun pins s σ H Q I q => ?_⟩ (fun _ => rfl)
  obtain ⟨ρ, μ, S, er, sr, q⟩ := q
  have q : Post X.K xa ca (rV X.K xa) μ H (match ρ[i]? with | some (some (.exc d)) => if d ∈ T.caught c then .ok (.bl true) S else if d ∈ T.passed c then .ok (.bl false) S else .bad | _ => .bad) Q _ := q
  split at q
  · rename_i d hv2
    obtain ⟨z, h1, h2⟩ := er.at_ i _ hv2
    obtain ⟨d', a, e1, rfl, h2⟩ : ∃ c a, PV.exc d = .exc c ∧ z = .ref a ∧ xa = some (a, c) := by
      rcases h2 with h2 | h2
      · exact h2.2.elim
      · exact h2
    cases e1
    have cr := g.hotIs hh a d h2
    refine (pe_callB cr hgi hmi PyProof.Rows.boot_isinstance (pa_cons pex (pa_cons pey pa_nil))).run pins s σ H Q I ⟨_, h1, .ref (ca c), .ref (ca c), ?_⟩
    split at q
    · rename_i hm
      exact ⟨true, rfl, fun u r => r, C.kyes d hm, q.here sr rfl⟩
    · split at q
      · rename_i hm
        exact ⟨false, rfl, fun u r => r, C.kno d hm, q.here sr rfl⟩
      · exact q.elim
  · exact q.elim

/-! ### methods -/
theorem lookup_mem {α β : Type} [BEq α] [LawfulBEq α] : ∀ {l : List (α × β)} {k : α} {v : β}, l.lookup k = some v → (k, v) ∈ l
  | (a, b) :: r, k, v, h => by
    rw [List.lookup_cons] at h
    cases e : k == a with
    | true => rw [e] at h; cases h; rw [eq_of_beq e]; exact List.mem_cons_self
    | false => rw [e] at h; exact List.mem_cons_of_mem _ (lookup_mem h)
theorem meth_tab : (methTab.all fun q => decide (q.1.2 < 20)) = true := by decide +kernel
theorem meth_slot {x : Str} {n : Nat} {m : Mth} (h : methO x n = some m) : Slot (methT m) x (methId m) ∧ typeOf (.builtin (methId m)) = pure (.type "method_descriptor") ∧ PlainAttrs (methT m) ∧ n < 20 := by
  have hn : n < 20 := of_decide_eq_true (List.all_eq_true.mp meth_tab ((x, n), m) (lookup_mem h))
  have hm := lookup_mem h
  simp only [methTab, List.mem_cons, Prod.mk.injEq, List.not_mem_nil, or_false] at hm
  rcases hm with ⟨⟨rfl, _⟩, rfl⟩ | ⟨⟨rfl, _⟩, rfl⟩ | ⟨⟨rfl, _⟩, rfl⟩ | ⟨⟨rfl, _⟩, rfl⟩ | ⟨⟨rfl, _⟩, rfl⟩ | ⟨⟨rfl, _⟩, rfl⟩ | ⟨⟨rfl, _⟩, rfl⟩ | ⟨⟨rfl, _⟩, rfl⟩ | ⟨⟨rfl, _⟩, rfl⟩ | ⟨⟨rfl, _⟩, rfl⟩ | ⟨⟨rfl, _⟩, rfl⟩ | ⟨⟨rfl, _⟩, rfl⟩
  · exact ⟨PySem.F.slot_list_append, PySem.F.type_list_append, PySem.F.plainAttrs_list, hn⟩
  · exact ⟨PySem.F.slot_list_pop, PySem.F.type_list_pop, PySem.F.plainAttrs_list, hn⟩
  · exact ⟨PySem.F.slot_list_pop, PySem.F.type_list_pop, PySem.F.plainAttrs_list, hn⟩
  · exact ⟨PySem.F.slot_str_join, PySem.F.type_str_join, PySem.F.plainAttrs_str, hn⟩
  · exact ⟨PySem.F.slot_str_zfill, PySem.F.type_str_zfill, PySem.F.plainAttrs_str, hn⟩
  · exact ⟨PySem.F.slot_str_find, PySem.F.type_str_find, PySem.F.plainAttrs_str, hn⟩
  · exact ⟨PySem.F.slot_list_extend, PySem.F.type_list_extend, PySem.F.plainAttrs_list, hn⟩
  · exact ⟨PySem.F.slot_list_insert, PySem.F.type_list_insert, PySem.F.plainAttrs_list, hn⟩
  · exact ⟨PySem.F.slot_str_split, PySem.F.type_str_split, PySem.F.plainAttrs_str, hn⟩
  · exact ⟨PySem.F.slot_list_index, PySem.F.type_list_index, PySem.F.plainAttrs_list, hn⟩
  · exact ⟨PySem.F.slot_dict_get, PySem.F.type_dict_get, PySem.F.plainAttrs_dict, hn⟩
  · exact ⟨PySem.F.slot_dict_get, PySem.F.type_dict_get, PySem.F.plainAttrs_dict, hn⟩
theorem attr_base {o : PySem.Expr} {x : Str} {env : Env} (h : isSuper o = false) : attributeBase o x env (eval o env) = eval o env := by
  cases o with
  | Call f as kws pos =>
    cases f <;> try rfl
    cases as <;> try rfl
    cases kws <;> first | rfl | cases h
  | _ => rfl
theorem few_args {f : PySem.Expr → Option E} {env : Env} {pos : Pos} : ∀ {es : List PySem.Expr} {m : E}, args f es = some m → (backTo pos (starEach es env)).all (fun x => !x.1) = true
  | [], _, _ => rfl
  | e :: es, m, h => by
    obtain ⟨a, b, h1, h2, h3, _⟩ := args_cons h
    rw [star_cons h1]
    have := few_args (env := env) (pos := pos) h3
    unfold backTo at this ⊢
    rw [List.map_cons, List.all_cons, this] <;> rfl
theorem s_meth {f : PySem.Expr → Option E} (hf : Snd X xa ca D G k W f) {o : PySem.Expr} {x : Str} {es : List PySem.Expr} {mo m : E} {mt : Mth} {apos pos : Pos} (hu : X.A.units + 70 < cLine) {mm : Bool} (hl : apos.endLine = pos.line) (hs : isSuper o = false) (hm : methO x es.length = some mt) (ho : PEm X xa ca D G k W o mo) (ha : args f es = some m) :
    PEm X xa ca D G k W (.Call (.Attribute o x apos) es [] pos) (.meth mm mt mo m) := by
  obtain ⟨sl, ty, pa, hlen⟩ := meth_slot hm
  have line : (apos.endLine == pos.line) = true := by rw [hl]; exact beq_self_eq_true _
  cases es with
  | nil =>
    cases ha
    refine pem_plain (pe_of (pe_bm0 pa sl ty (meth_ok (xa := xa) (ca := ca) hu mm mt) ho.1 (attr_base hs) line) ?_) (fun _ => rfl)
    rintro σ H Q ⟨ρ, μ, S, er, sr, q⟩
    refine ⟨ρ, μ, S, er, sr, q.bind _ fun v S1 x μ1 H1 x1 sr1 r1 h1 => ?_⟩
    have h1 : Post X.K xa ca (rV X.K xa) μ1 H1 (if recvOk S1 mt v then methOp mm mt v [] S1 else .bad) Q _ := h1
    split at h1
    · rename_i hrc
      exact ⟨meth_ty sr1 r1 hrc, v, [], μ1, S1, _, sr1, r1, rfl, h1⟩
    · exact h1.elim
  | cons e es =>
    obtain ⟨a, b, h1, h2, h3, h4⟩ := args_cons ha
    have hn : es.length < 20 := by rw [List.length_cons] at hlen; omega
    refine pem_plain (pe_of (pe_bm pa sl ty (meth_ok (xa := xa) (ca := ca) hu mm mt) ho.1 (args_sound hf ha) (attr_base hs) ?_ line (star_cons h1) (args_plain h3)) ?_) (fun _ => rfl)
    · rw [few_args ha]
      show (true && true && decide ((e :: es).length + 0 + 0 < 30)) = true
      rw [List.length_cons]
      simp
      omega
    rintro σ H Q ⟨ρ, μ, S, er, sr, q⟩
    refine ⟨ρ, μ, S, er, sr, q.bind _ fun v S1 x μ1 H1 x1 sr1 r1 h1 => ?_⟩
    have h1 : Post X.K xa ca (rV X.K xa) μ1 H1 (if recvOk S1 mt v then (ev (callF D G k) G m ρ S1).bind fun vs T2 => methOp mm mt v (asTup vs) T2 else .bad) Q _ := h1
    split at h1
    · rename_i hrc
      refine ⟨meth_ty sr1 r1 hrc, ρ, μ1, S1, er.mono sr x1, sr1, h1.bind _ fun w S2 y μ2 H2 x2 sr2 r2 h2 => ?_⟩
      exact ⟨v, asTup w, μ2, S2, _, sr2, Rel.mono sr1 x2 _ _ r1, r2, h2⟩
    · exact h1.elim
end
end MP

set_option Elab.async false
set_option linter.all false
set_option maxRecDepth 100000
set_option maxHeartbeats 2000000
/-! M4c: what is walked; comprehensions; the whole of expressions. -/
namespace MP
open PySem PySem.Spec PyProof.Rows L2
section
variable {X : Cx} {T : Tab} {N : List Str} {hot : Bool} {ca : Nat → Addr} {D : Nat → Option FD} {G : Nat → Option PV} {k : Nat} {xa : Option (Addr × Nat)} {W : WX} {sc : Scope}
/-- the walk J of the model is the walk w of the tree -/
def IR (K : PySem.W.Frag) (xa : Option (Addr × Nat)) (μ0 : Mu) (H0 : Hp) (J : It) (w : Wk) : Prop := ∀ μ H T i, Lift K H0 H μ0 μ → SR K xa H μ T → match w.at i T with
  | none => True
  | some none => J.stop i H
  | some (some v) => J.go i H ∧ ∀ x H', J.yld i H x H' → Ex μ μ H H' ∧ SR K xa H' μ T ∧ Rel K xa H' μ v x
theorem ir_tup {K : PySem.W.Frag} {μ0 : Mu} {H0 : Hp} {T0 : Store} {a : Addr} {xs : List PV} {vs : List V} (s0 : SR K xa H0 μ0 T0) (h : SqT K H0 a vs) (r : Rels K xa H0 μ0 xs vs) : IR K xa μ0 H0 (Itt K a) (.items xs) := by
  intro μ H T i x sr
  obtain ⟨b, vs, eb, h', r'⟩ := Rel.lift x (.tup xs) (.ref a) ⟨a, vs, rfl, h, r⟩
  cases eb
  show match (some xs[i]? : Option (Option PV)) with | none => True | some none => _ | some (some v) => _
  cases e : xs[i]? with
  | none => exact ⟨vs, h', by rw [← r'.length]; exact List.getElem?_eq_none_iff.mp e⟩
  | some v =>
    obtain ⟨z, hz, rz⟩ := r'.get e
    refine ⟨⟨vs, z, h', hz⟩, fun y H' hy => ?_⟩
    obtain ⟨rfl, f⟩ := hy
    have : some y = some z := (f vs h').symm.trans hz
    cases this
    exact ⟨Ex.refl _ _, sr, rz⟩
theorem ir_vl {K : PySem.W.Frag} {μ0 : Mu} {H0 : Hp} {T0 : Store} {a : Addr} {xs : List PV} {vs : List V} (s0 : SR K xa H0 μ0 T0) (h : Rel K xa H0 μ0 (.vl xs) (.ref a)) : IR K xa μ0 H0 (Itl K a) (.items xs) := by
  intro μ H T i x sr
  obtain ⟨b, vs, e, ⟨h', _⟩, r'⟩ := Rel.lift x _ _ h
  cases e
  show match (some xs[i]? : Option (Option PV)) with | none => True | some none => _ | some (some v) => _
  cases e : xs[i]? with
  | none => exact ⟨vs, .of h', by rw [← r'.length]; exact List.getElem?_eq_none_iff.mp e⟩
  | some v =>
    obtain ⟨z, hz, rz⟩ := r'.get e
    refine ⟨⟨vs, z, .of h', hz⟩, fun y H' hy => ?_⟩
    obtain ⟨rfl, f⟩ := hy
    have : some y = some z := (f vs (.of h')).symm.trans hz
    cases this
    exact ⟨Ex.refl _ _, sr, rz⟩
theorem ir_enum {K : PySem.W.Frag} {μ0 : Mu} {H0 : Hp} {T0 : Store} {a : Addr} {xs : List PV} {vs : List V} (s0 : SR K xa H0 μ0 T0) (h : Rel K xa H0 μ0 (.vl xs) (.ref a)) : IR K xa μ0 H0 (Ite K a) (.enum xs) := by
  intro μ H T i x sr
  obtain ⟨b, vs, e, ⟨h', _⟩, r'⟩ := Rel.lift x _ _ h
  cases e
  show match (some ((xs[i]?).map fun v => PV.tup [.int i, v]) : Option (Option PV)) with | none => True | some none => _ | some (some v) => _
  cases e : xs[i]? with
  | none => exact ⟨vs, .of h', by rw [← r'.length]; exact List.getElem?_eq_none_iff.mp e⟩
  | some v =>
    obtain ⟨z, hz, rz⟩ := r'.get e
    refine ⟨⟨vs, z, .of h', hz⟩, fun y H' hy => ?_⟩
    obtain ⟨p, y', rfl, hp, rfl, f⟩ := hy
    have : some y' = some z := (f vs (.of h')).symm.trans hz
    cases this
    exact ⟨(sr.other hp).1, (sr.other hp).2, sr.tup hp (Rels.two (p := .int i) rfl rz)⟩
theorem ir_zip {K : PySem.W.Frag} {μ0 : Mu} {H0 : Hp} {T0 : Store} {a b : Addr} {xs ys : List PV} (s0 : SR K xa H0 μ0 T0) (h : Rel K xa H0 μ0 (.vl xs) (.ref a)) (g : Rel K xa H0 μ0 (.vl ys) (.ref b)) : IR K xa μ0 H0 (Itz K a b) (.zip xs ys) := by
  intro μ H T i x sr
  obtain ⟨a1, vs, e, ⟨h', _⟩, r'⟩ := Rel.lift x _ _ h
  cases e
  obtain ⟨b1, ws, e, ⟨g', _⟩, q'⟩ := Rel.lift x _ _ g
  cases e
  show match (match xs[i]?, ys[i]? with | some x, some y => some (some (PV.tup [x, y])) | _, _ => some none : Option (Option PV)) with | none => True | some none => _ | some (some v) => _
  cases e : xs[i]? with
  | none => exact ⟨vs, ws, .of h', .of g', .inl (by rw [← r'.length]; exact List.getElem?_eq_none_iff.mp e)⟩
  | some v =>
    cases e2 : ys[i]? with
    | none => exact ⟨vs, ws, .of h', .of g', .inr (by rw [← q'.length]; exact List.getElem?_eq_none_iff.mp e2)⟩
    | some w =>
      obtain ⟨z, hz, rz⟩ := r'.get e
      obtain ⟨z2, hz2, rz2⟩ := q'.get e2
      refine ⟨⟨vs, ws, z, z2, .of h', .of g', hz, hz2⟩, fun y H' hy => ?_⟩
      obtain ⟨p, x', y', rfl, hp, rfl, f1, f2⟩ := hy
      have : some x' = some z := (f1 vs (.of h')).symm.trans hz
      cases this
      have : some y' = some z2 := (f2 ws (.of g')).symm.trans hz2
      cases this
      exact ⟨(sr.other hp).1, (sr.other hp).2, sr.tup hp (Rels.two rz rz2)⟩
theorem ir_zipT {K : PySem.W.Frag} {μ0 : Mu} {H0 : Hp} {T0 : Store} {a b : Addr} {xs ys : List PV} (s0 : SR K xa H0 μ0 T0) (h : Rel K xa H0 μ0 (.tup xs) (.ref a)) (g : Rel K xa H0 μ0 (.tup ys) (.ref b)) : IR K xa μ0 H0 (RZ.ItzT K a b) (.zip xs ys) := by
  intro μ H T i x sr
  obtain ⟨a1, vs, e, h', r'⟩ := Rel.lift x _ _ h
  cases e
  obtain ⟨b1, ws, e, g', q'⟩ := Rel.lift x _ _ g
  cases e
  show match (match xs[i]?, ys[i]? with | some x, some y => some (some (PV.tup [x, y])) | _, _ => some none : Option (Option PV)) with | none => True | some none => _ | some (some v) => _
  cases e : xs[i]? with
  | none => exact ⟨vs, ws, h', g', .inl (by rw [← r'.length]; exact List.getElem?_eq_none_iff.mp e)⟩
  | some v =>
    cases e2 : ys[i]? with
    | none => exact ⟨vs, ws, h', g', .inr (by rw [← q'.length]; exact List.getElem?_eq_none_iff.mp e2)⟩
    | some w =>
      obtain ⟨z, hz, rz⟩ := r'.get e
      obtain ⟨z2, hz2, rz2⟩ := q'.get e2
      refine ⟨⟨vs, ws, z, z2, h', g', hz, hz2⟩, fun y H' hy => ?_⟩
      obtain ⟨p, x', y', rfl, hp, rfl, f1, f2⟩ := hy
      have : some x' = some z := (f1 vs h').symm.trans hz
      cases this
      have : some y' = some z2 := (f2 ws g').symm.trans hz2
      cases this
      exact ⟨(sr.other hp).1, (sr.other hp).2, sr.tup hp (Rels.two rz rz2)⟩
theorem ir_ref {K : PySem.W.Frag} {μ0 : Mu} {H0 : Hp} {a : Addr} {n : Nat} (ha : μ0.st[n]? = some a) : IR K xa μ0 H0 (Itl K a) (.ref n) := by
  intro μ H T i x sr
  have h' := x.st _ _ ha
  show match ((lstOf T n).map fun xs => xs[i]? : Option (Option PV)) with | none => True | some none => _ | some (some v) => _
  cases e : lstOf T n with
  | none => trivial
  | some xs =>
    obtain ⟨b, vs, eb, _, e1, r1⟩ := sr.ref ⟨a, rfl, h'⟩ e
    cases eb
    show match (some xs[i]? : Option (Option PV)) with | none => True | some none => _ | some (some v) => _
    cases e2 : xs[i]? with
    | none => exact ⟨vs, .of e1, by rw [← r1.length]; exact List.getElem?_eq_none_iff.mp e2⟩
    | some v =>
      obtain ⟨z, hz, rz⟩ := r1.get e2
      refine ⟨⟨vs, z, .of e1, hz⟩, fun y H' hy => ?_⟩
      obtain ⟨rfl, f⟩ := hy
      have : some y = some z := (f vs (.of e1)).symm.trans hz
      cases this
      exact ⟨Ex.refl _ _, sr, rz⟩
theorem ir_str {K : PySem.W.Frag} {μ0 : Mu} {H0 : Hp} (t : List Nat) : IR K xa μ0 H0 (Its ⟨t.toArray⟩) (.items (t.map fun c => .str [c])) := by
  intro μ H T i x sr
  show match (some (t.map fun c => PV.str [c])[i]? : Option (Option PV)) with | none => True | some none => _ | some (some v) => _
  rw [List.getElem?_map]
  cases e : t[i]? with
  | none => exact (show t.toArray.size ≤ i by rw [List.size_toArray]; exact List.getElem?_eq_none_iff.mp e)
  | some c =>
    have hi : i < t.length := (List.getElem?_eq_some_iff.mp e).1
    refine ⟨(show i < t.toArray.size by rw [List.size_toArray]; exact hi), fun y H' hy => ?_⟩
    obtain ⟨rfl, c', hc, rfl⟩ := hy
    have : some c' = some c := by rw [← hc, ← e]; simp
    cases this
    exact ⟨Ex.refl _ _, sr, rfl⟩
theorem ir_range {K : PySem.W.Frag} {μ0 : Mu} {H0 : Hp} (lo : Int) (n : Nat) : IR K xa μ0 H0 (Itr lo n) (.range lo 1 n) := by
  intro μ H T i x sr
  show match (some (if i < n then some (PV.int (lo + i * 1)) else none) : Option (Option PV)) with | none => True | some none => _ | some (some v) => _
  by_cases h : i < n
  · rw [if_pos h]
    refine ⟨h, fun y H' hy => ?_⟩
    obtain ⟨rfl, rfl⟩ := hy
    exact ⟨Ex.refl _ _, sr, by rw [Int.mul_one]; rfl⟩
  · rw [if_neg h]
    exact Nat.le_of_not_lt h
theorem ir_rangeC {K : PySem.W.Frag} {μ0 : Mu} {H0 : Hp} (lo c : Int) (n : Nat) : IR K xa μ0 H0 (Itc lo c n) (.range lo c n) := by
  intro μ H T i x sr
  show match (some (if i < n then some (PV.int (lo + i * c)) else none) : Option (Option PV)) with | none => True | some none => _ | some (some v) => _
  by_cases h : i < n
  · rw [if_pos h]
    refine ⟨h, fun y H' hy => ?_⟩
    obtain ⟨rfl, rfl⟩ := hy
    exact ⟨Ex.refl _ _, sr, rfl⟩
  · rw [if_neg h]
    exact Nat.le_of_not_lt h
/-- a list, a tuple or a text is walked -/
theorem pi_any {tg e : PySem.Expr} {te : TE} (he : PE X e te) : PI X tg e (fun σ H R => te σ H fun x H1 => (∃ a, x = .ref a ∧ (∃ xs, SqL X.K H1 a xs) ∧ R (Itl X.K a) H1) ∨
    (∃ a xs, x = .ref a ∧ SqT X.K H1 a xs ∧ R (Itt X.K a) H1) ∨ (∃ z, x = .str z ∧ R (Its z) H1)) := by
  refine ⟨fun pins s σ H R I h => ?_⟩
  refine thn (he.run pins s σ H _ I h) fun v s1 ⟨x, H1, I1, r1, q1⟩ => ?_
  rcases q1 with ⟨a, rfl, ⟨xs, hq⟩, q⟩ | ⟨a, xs, rfl, hq, q⟩ | ⟨z, rfl, q⟩
  · cases r1
    obtain ⟨its, rv, p, hz⟩ := I1.list hq
    refine wpAny_pyIter_list p.isList ?_
    refine ⟨s1.heap.objs.size, [s1.heap.objs.size], _, _, H1, rfl, I1.kept (t' := s1.toks) fun b o e => Heap.get?_push_of_some _ e, turn_list a _, ⟨_, Heap.get?_push_size _ rfl, rfl, rfl⟩, fun b hb => ?_, q⟩
    have e : b = s1.heap.objs.size := by simpa using hb
    subst e
    exact I1.fpOk (Nat.le_refl _) (I1.hok.fresh (Nat.le_refl _))
  · cases r1
    obtain ⟨its, rv, p, hz⟩ := I1.tuple hq
    refine wpAny_pyIter_tuple (show s1.heap.IsTuple a its.toArray from p) ?_
    refine ⟨s1.heap.objs.size, [s1.heap.objs.size], _, _, H1, rfl, I1.kept (t' := s1.toks) fun b o e => Heap.get?_push_of_some _ e, turn_tuple a _, ⟨_, Heap.get?_push_size _ rfl, rfl, rfl⟩, fun b hb => ?_, q⟩
    have e : b = s1.heap.objs.size := by simpa using hb
    subst e
    exact I1.fpOk (Nat.le_refl _) (I1.hok.fresh (Nat.le_refl _))
  · obtain ⟨t, rfl⟩ := r1
    cases ha : z.cps.all (· < 128)
    · exact wpAny_pyIter_wide ha (pi_one (tk := s1.toks) I1 _ (turn_str _ z t "str_iterator" (.inr rfl)) ⟨_, Heap.get?_push_size _ rfl, rfl, rfl⟩ q)
    · exact wpAny_pyIter_ascii ha (pi_one (tk := s1.toks) I1 _ (turn_str _ z t "str_ascii_iterator" (.inl rfl)) ⟨_, Heap.get?_push_size _ rfl, rfl, rfl⟩ q)
def tWk (K : PySem.W.Frag) (xa : Option (Addr × Nat)) (ca : Nat → Addr) (W : WX) (C : Nat → List PV → Store → Res PV) (G : Nat → Option PV) (kk : ItK) (m : E) : TI := fun σ H R => tR K xa ca (rA K xa) W (ev C G m) σ H fun xs H1 =>
  ∃ vs μ1 T1 w, SR K xa H1 μ1 T1 ∧ Rels K xa H1 μ1 vs xs ∧ walkOf T1 kk vs = some w ∧ ∀ J, IR K xa μ1 H1 J w → R J H1
theorem pi_of {tg e : PySem.Expr} {t t' : TI} (h : PI X tg e t) (hi : ∀ σ H Q, t' σ H Q → t σ H Q) : PI X tg e t' := ⟨fun pins s σ H Q I q => h.run pins s σ H Q I (hi σ H Q q)⟩
theorem w_plain {tg e : PySem.Expr} {m : E} (h : PEm X xa ca D G k W e m) : PI X tg e (tWk X.K xa ca W (callF D G k) G .plain (.cons m .nil)) := by
  refine pi_of (pi_any h.1) ?_
  rintro σ H Q ⟨ρ, μ, S, er, sr, q⟩
  refine ⟨ρ, μ, S, er, sr, q.bind _ fun v S1 x μ1 H1 x1 sr1 r1 h1 => ?_⟩
  have h1 : Post X.K xa ca (rA X.K xa) μ1 H1 (.ok (.tup [v]) S1) _ _ := h1
  obtain ⟨vs, μ2, T2, w, s2, r2, hw, hJ⟩ := h1 [x] μ1 H1 (Ex.refl _ _) sr1 (Rels.one r1)
  obtain ⟨v2, ws2, e2, r3, r4⟩ : ∃ v2 ws2, vs = v2 :: ws2 ∧ Rel X.K xa H1 μ2 v2 x ∧ ws2 = [] := by
    cases vs with
    | nil => cases (show [x] = [] from r2)
    | cons a b =>
      obtain ⟨y, ys, e, ra, rb⟩ := r2
      cases e
      have := rb.length
      exact ⟨a, b, rfl, ra, by cases b <;> simp at this ⊢⟩
  subst e2 r4
  cases v2 with
  | tup ys =>
    cases hw
    obtain ⟨a, us, rfl, s, q⟩ := r3
    exact .inr (.inl ⟨a, us, rfl, s, hJ _ (ir_tup s2 s q)⟩)
  | vl ys =>
    cases hw
    obtain ⟨a, us, rfl, s, q⟩ := id r3
    exact .inl ⟨a, rfl, ⟨us, .of s.1⟩, hJ _ (ir_vl (vs := us) s2 r3)⟩
  | ref n =>
    obtain ⟨xs, e, rfl⟩ := Option.map_eq_some_iff.mp (show (lstOf T2 n).map (fun _ => Wk.ref n) = some w from hw)
    obtain ⟨a, us, rfl, ha, e3, _⟩ := s2.ref r3 e
    exact .inl ⟨a, rfl, ⟨us, .of e3⟩, hJ _ (ir_ref ha)⟩
  | str t =>
    cases hw
    cases r3
    exact .inr (.inr ⟨_, rfl, hJ _ (ir_str t)⟩)
  | _ => cases hw
theorem small62_of {i : Int} (h : small62 i = true) : -(2 ^ 62) ≤ i ∧ i < 2 ^ 62 := by
  unfold small62 at h
  rw [Bool.and_eq_true, decide_eq_true_eq, decide_eq_true_eq] at h
  omega
theorem rgC_of {a b c : Int} (h : 0 ≤ a ∧ a ≤ SZ ∧ 0 ≤ b ∧ b ≤ SZ ∧ 0 < c ∧ c < 1000) : RgC a b c (if a < b then (b - a - 1) / c + 1 else 0).toNat := by
  obtain ⟨h1, h2, h3, h4, h5, h6⟩ := h
  have hz : (SZ : Int) = 16777216 := rfl
  have hs : Builtin.Range.rangeSize a b c = if a < b then (b - a - 1) / c + 1 else 0 := by
    unfold Builtin.Range.rangeSize
    rw [if_pos h5]
  have hq : a < b → 0 ≤ (b - a - 1) / c ∧ (b - a - 1) / c ≤ b - a - 1 := fun z => ⟨Int.ediv_nonneg (by omega) (by omega), Int.ediv_le_self _ (by omega)⟩
  refine ⟨by omega, by omega, ?_, ?_⟩
  · unfold Builtin.Range.small
    rw [hs]
    simp only [Builtin.Range.rangeFitsLong, Bool.and_eq_true, Bool.or_eq_true, decide_eq_true_eq, beq_iff_eq, show c > 0 from h5, if_true]
    split
    · rename_i z; have := hq z; omega
    · omega
  · rw [hs]
    split
    · rename_i z; have := hq z; omega
    · rfl
theorem range_inv {S0 : Store} {vs : List PV} {w : Wk} (h : walkOf S0 .range vs = some w) : (∃ n, vs = [.int n] ∧ small62 n = true ∧ w = .range 0 1 n.toNat) ∨ (∃ a b, vs = [.int a, .int b] ∧ (small62 a && small62 b) = true ∧ w = .range a 1 (b - a).toNat) ∨
      ∃ a b c, vs = [.int a, .int b, .int c] ∧ (0 ≤ a ∧ a ≤ SZ ∧ 0 ≤ b ∧ b ≤ SZ ∧ 0 < c ∧ c < 1000) ∧ w = .range a c (if a < b then (b - a - 1) / c + 1 else 0).toNat := by
  have h : walkRange vs = some w := h
  unfold walkRange at h
  split at h
  · split at h
    · rename_i z; cases h; exact .inl ⟨_, rfl, z, rfl⟩
    · cases h
  · split at h
    · rename_i z; cases h; exact .inr (.inl ⟨_, _, rfl, z, rfl⟩)
    · cases h
  · split at h
    · rename_i z; cases h; exact .inr (.inr ⟨_, _, _, rfl, z, rfl⟩)
    · cases h
  · cases h
theorem Post.mono' {α β : Type} {R : RRel α β} {K : PySem.W.Frag} {μ : Mu} {H : Hp} {r : Res α} {Q Q' : β → Hp → Prop} {W : Value → Option Addr → Hp → Prop} (h : Post K xa ca R μ H r Q W)
    (hq : ∀ v T x μ' H', r = .ok v T → R v x H' μ' → Q x H' → Q' x H') : Post K xa ca R μ H r Q' W := by
  cases r with
  | ok v T => exact fun y μ' H' x' s q => hq v T y μ' H' rfl q (h y μ' H' x' s q)
  | exc c T => exact h
  | bad => exact h
theorem evArgs_len {f : PySem.Expr → Option E} {C : Nat → List PV → Store → Res PV} : ∀ {es : List PySem.Expr} {m : E} {ρ : Nv} {S S' : Store} {v : PV}, args f es = some m → ev C G m ρ S = .ok v S' → (asTup v).length = es.length
  | [], m, ρ, S, S', v, h, e => by cases h; cases e; rfl
  | a :: es, m, ρ, S, S', v, h, e => by
    obtain ⟨m1, m2, g1, g2, g3, rfl⟩ := args_cons h
    have e : ((ev C G m1 ρ S).bind fun v T1 => (ev C G m2 ρ T1).bind fun vs T2 => Res.ok (PV.tup (v :: asTup vs)) T2) = .ok v S' := e
    cases e1 : ev C G m1 ρ S with
    | ok x S1 =>
      rw [e1] at e
      have e : ((ev C G m2 ρ S1).bind fun vs T2 => Res.ok (PV.tup (x :: asTup vs)) T2) = .ok v S' := e
      cases e2 : ev C G m2 ρ S1 with
      | ok y S2 =>
        rw [e2] at e
        cases e
        show (asTup y).length + 1 = es.length + 1
        rw [evArgs_len g3 e2]
      | _ => rw [e2] at e; cases e
    | _ => rw [e1] at e; cases e
theorem w_range {f : PySem.Expr → Option E} (hf : Snd X xa ca D G k W f) {tg : PySem.Expr} {es : List PySem.Expr} {m : E} {np pos : Pos} (hg : Gl X "range") (hm : X.mg "range" = none) (hl : es.length = 1 ∨ es.length = 2 ∨ es.length = 3) (ha : args f es = some m) :
    PI X tg (.Call (.Name "range" np) es [] pos) (tWk X.K xa ca W (callF D G k) G .range m) := by
  have hA := args_sound hf ha
  match es, hl, ha, hA with
  | [a], _, ha, hA =>
    obtain ⟨m1, m2, g1, g2, g3, g4⟩ := args_cons ha
    refine pi_of (pi_range1 hg hm hA (star_cons g1)) ?_
    rintro σ H Q ⟨ρ, μ, S, er, sr, q⟩
    refine ⟨ρ, μ, S, er, sr, q.mono' fun v T xs μ' H1 e r ⟨vs, μ1, T1, w, s1, r1, hw, hJ⟩ => ?_⟩
    have hx : xs.length = 1 := by rw [← Rels.length r]; exact evArgs_len ha e
    rcases range_inv hw with ⟨n, rfl, z, rfl⟩ | ⟨n, n2, rfl, z, rfl⟩ | ⟨n, n2, n3, rfl, z, rfl⟩
    · obtain ⟨x, rfl, rx⟩ := r1.one_inv
      cases rx
      exact ⟨n, rfl, (small62_of z).1, (small62_of z).2, hJ _ (ir_range 0 n.toNat)⟩
    · rw [← r1.length] at hx; cases hx
    · rw [← r1.length] at hx; cases hx
  | [a, b], _, ha, hA =>
    obtain ⟨m1, m2, g1, g2, g3, g4⟩ := args_cons ha
    obtain ⟨m3, m4, g5, g6, g7, g8⟩ := args_cons g3
    refine pi_of (pi_range2 hg hm hA (by rw [star_cons g1, star_cons g5] <;> rfl) (star_cons g5)) ?_
    rintro σ H Q ⟨ρ, μ, S, er, sr, q⟩
    refine ⟨ρ, μ, S, er, sr, q.mono' fun v T xs μ' H1 e r ⟨vs, μ1, T1, w, s1, r1, hw, hJ⟩ => ?_⟩
    have hx : xs.length = 2 := by rw [← Rels.length r]; exact evArgs_len ha e
    rcases range_inv hw with ⟨n, rfl, z, rfl⟩ | ⟨n, n2, rfl, z, rfl⟩ | ⟨n, n2, n3, rfl, z, rfl⟩
    · rw [← r1.length] at hx; cases hx
    · obtain ⟨x, y, rfl, rx, ry⟩ := r1.two_inv
      cases rx; cases ry
      rw [Bool.and_eq_true] at z
      exact ⟨n, n2, rfl, ⟨(small62_of z.1).1, (small62_of z.1).2, (small62_of z.2).1, (small62_of z.2).2⟩, hJ _ (ir_range n _)⟩
    · rw [← r1.length] at hx; cases hx
  | [a, b, c], _, ha, hA =>
    obtain ⟨m1, m2, g1, g2, g3, g4⟩ := args_cons ha
    refine pi_of (pi_range3 hg hm hA (star_cons g1) (args_plain g3)) ?_
    rintro σ H Q ⟨ρ, μ, S, er, sr, q⟩
    refine ⟨ρ, μ, S, er, sr, q.mono' fun v T xs μ' H1 e r ⟨vs, μ1, T1, w, s1, r1, hw, hJ⟩ => ?_⟩
    have hx : xs.length = 3 := by rw [← Rels.length r]; exact evArgs_len ha e
    rcases range_inv hw with ⟨n, rfl, z, rfl⟩ | ⟨n, n2, rfl, z, rfl⟩ | ⟨n, n2, n3, rfl, z, rfl⟩
    · rw [← r1.length] at hx; cases hx
    · rw [← r1.length] at hx; cases hx
    · obtain ⟨x, ws, rfl, rx, r2⟩ := r1
      obtain ⟨y, y2, rfl, ry, rz⟩ := Rels.two_inv r2
      cases rx; cases ry; cases rz
      exact ⟨n, n2, n3, _, rfl, rgC_of z, hJ _ (ir_rangeC n n3 _)⟩

theorem w_enum {f : PySem.Expr → Option E} (hf : Snd X xa ca D G k W f) {tg : PySem.Expr} {es : List PySem.Expr} {m : E} {np pos : Pos} (hg : Gl X "enumerate") (hm : X.mg "enumerate" = none) (hl : es.length = 1) (ht : ∃ elts kk tpos, tg = .Tuple elts kk tpos) (ha : args f es = some m) :
    PI X tg (.Call (.Name "enumerate" np) es [] pos) (tWk X.K xa ca W (callF D G k) G .enum m) := by
  obtain ⟨elts, kk, tpos, rfl⟩ := ht
  have hA := args_sound hf ha
  match es, hl, ha, hA with
  | [a], _, ha, hA =>
    obtain ⟨m1, m2, g1, g2, g3, g4⟩ := args_cons ha
    refine pi_of (pi_enum hg hm hA (star_cons g1)) ?_
    rintro σ H Q ⟨ρ, μ, S, er, sr, q⟩
    refine ⟨ρ, μ, S, er, sr, q.mono' fun v T xs μ' H1 e r ⟨vs, μ1, T1, w, s1, r1, hw, hJ⟩ => ?_⟩
    simp only [walkOf] at hw
    split at hw
    · cases hw
      obtain ⟨x, rfl, rx⟩ := r1.one_inv
      obtain ⟨p, us, rfl, s, _⟩ := id rx
      exact ⟨p, us, rfl, .of s.1, hJ _ (ir_enum (vs := us) s1 rx)⟩
    · cases hw
theorem w_zip {f : PySem.Expr → Option E} (hf : Snd X xa ca D G k W f) {tg : PySem.Expr} {es : List PySem.Expr} {m : E} {np pos : Pos} (hg : Gl X "zip") (hm : X.mg "zip" = none) (hl : es.length = 2) (ht : ∃ elts kk tpos, tg = .Tuple elts kk tpos) (ha : args f es = some m) :
    PI X tg (.Call (.Name "zip" np) es [] pos) (tWk X.K xa ca W (callF D G k) G .zip m) := by
  obtain ⟨elts, kk, tpos, rfl⟩ := ht
  have hA := args_sound hf ha
  match es, hl, ha, hA with
  | [a, b], _, ha, hA =>
    obtain ⟨m1, m2, g1, g2, g3, g4⟩ := args_cons ha
    refine pi_of (RZ.pi_zipA hg hm hA (star_cons g1) (args_plain g3)) ?_
    rintro σ H Q ⟨ρ, μ, S, er, sr, q⟩
    refine ⟨ρ, μ, S, er, sr, q.mono' fun v T xs μ' H1 e r ⟨vs, μ1, T1, w, s1, r1, hw, hJ⟩ => ?_⟩
    simp only [walkOf] at hw
    split at hw
    · cases hw
      obtain ⟨x, y, rfl, rx, ry⟩ := r1.two_inv
      obtain ⟨p, us, rfl, s, _⟩ := id rx
      obtain ⟨p2, us2, rfl, s2, _⟩ := id ry
      exact ⟨p, p2, us, us2, rfl, .inl ⟨.of s.1, .of s2.1, hJ _ (ir_zip s1 rx ry)⟩⟩
    · cases hw
      obtain ⟨x, y, rfl, rx, ry⟩ := r1.two_inv
      obtain ⟨p, us, rfl, s, _⟩ := id rx
      obtain ⟨p2, us2, rfl, s2, _⟩ := id ry
      exact ⟨p, p2, us, us2, rfl, .inr ⟨s, s2, hJ _ (ir_zipT s1 rx ry)⟩⟩
    · cases hw
theorem tup_of {ts : List PySem.Expr} {tg : PySem.Expr} {N : List Str} {sc : Scope} (h : isTup tg = true) (h2 : ∃ t, targ N sc tg = some t) : ∃ elts kk tpos, tg = .Tuple elts kk tpos := by
  obtain ⟨t, h2⟩ := h2
  cases tg <;> first | exact ⟨_, _, _, rfl⟩ | (cases h; done) | (cases h2; done)
/-- an iterable -/
theorem walk_sound {f : Rc} (hf : Snd X xa ca D G k W (f false sc)) (g : GE X ca N sc hot xa k) (F : Facts X T ca D G k) {N' : List Str} {sc' : Scope} {tg iter : PySem.Expr} {w : ItK × E} (htg : ∃ t, targ N' sc' tg = some t) (h : cWalk T f sc tg iter = some w) : PI X tg iter (tWk X.K xa ca W (callF D G k) G w.1 w.2) := by
  unfold cWalk at h
  have hs := g.sc
  subst hs
  split at h
  · rename_i x np es pos
    split at h
    · rename_i hx
      subst hx
      split at h
      · rename_i hc
        cases e : args (f false X.env.scope) es with
        | none => rw [e] at h; cases h
        | some m => rw [e] at h; cases h; exact w_range hf (gl_of hc.1) (F.blts _ hc.2.1) hc.2.2 e
      · cases h
    · split at h
      · rename_i hx
        subst hx
        split at h
        · rename_i hc
          cases e : args (f false X.env.scope) es with
          | none => rw [e] at h; cases h
          | some m => rw [e] at h; cases h; exact w_enum hf (gl_of hc.1) (F.blts _ hc.2.1) hc.2.2.1 (tup_of (ts := []) hc.2.2.2 htg) e
        · cases h
      · split at h
        · rename_i hx
          subst hx
          split at h
          · rename_i hc
            cases e : args (f false X.env.scope) es with
            | none => rw [e] at h; cases h
            | some m => rw [e] at h; cases h; exact w_zip hf (gl_of hc.1) (F.blts _ hc.2.1) hc.2.2.1 (tup_of (ts := []) hc.2.2.2 htg) e
          · cases h
        · cases e : f false X.env.scope (.Call (.Name x np) es [] pos) with
          | none => rw [e] at h; cases h
          | some m => rw [e] at h; cases h; exact w_plain (hf _ _ e)
  · cases h
  · cases e : f false X.env.scope iter with
    | none => rw [e] at h; cases h
    | some m => rw [e] at h; cases h; exact w_plain (hf _ _ e)
theorem walk_fold {f : Rc} {tg iter : PySem.Expr} {w : ItK × E} {env : Env} (h : cWalk T f sc tg iter = some w) : ∀ x, foldedSetIterable iter env x = pure x := fun x => by
  unfold cWalk at h
  cases iter <;> first | rfl | cases h

/-! ### targets -/
def TgP (K : PySem.W.Frag) (xa : Option (Addr × Nat)) (t : Tgt) : TG := fun v σ H Q => ∃ p ρ μ T ρ1, ER K xa H μ ρ σ ∧ SR K xa H μ T ∧ Rel K xa H μ p v ∧ bindT t p ρ = some ρ1 ∧
  ∀ σ1, ER K xa H μ ρ1 σ1 → σ1.length = σ.length → (∀ j, j ∉ slotsT t → σ1[j]? = σ[j]?) → Q σ1 H
theorem pg_of {tg : PySem.Expr} {t t' : TG} (h : PG X tg t) (hi : ∀ v σ H Q, t' v σ H Q → t v σ H Q) : PG X tg t' := ⟨fun pins s σ H v u Q I r q => h.run pins s σ H v u Q I r (hi v σ H Q q)⟩
theorem pgs_of {tg : List PySem.Expr} {t t' : TGs} (h : PGs X tg t) (hi : ∀ v σ H Q, t' v σ H Q → t v σ H Q) : PGs X tg t' := ⟨fun pins s σ H v u Q I r q => h.run pins s σ H v u Q I r (hi v σ H Q q)⟩
/-- the names that may be stored -/
def TgOk (X : Cx) (sc0 : Scope) : Prop := ∀ x, isLoc (sc0.names.lookup x) = true → L2.Loc X.env.scope x ∧ (X.fn x = true ∨ X.env.scope.names.lookup x = some .local)
theorem pg_nm {sc0 : Scope} (g : GE X ca N sc hot xa k) (ht : TgOk X sc0) {x : Str} {i : Nat} {pos : Pos} (hl : isLoc (sc0.names.lookup x) = true) (hi : slotOf N x = some i) : PG X (.Name x pos) (gName i) :=
  pg_name (by rw [g.nN]; exact g.nd) (by rw [g.nN]; exact slot_of hi) (ht x hl).1 (ht x hl).2
theorem names_sound {sc0 : Scope} (g : GE X ca N sc hot xa k) (ht : TgOk X sc0) : ∀ {es : List PySem.Expr} {is : List Nat}, namesOf N sc0 es = some is → is.length = es.length ∧ (assignEach es X.env).length = es.length ∧ (assignEach es X.env).findIdx? (·.1) = none ∧
    PGs X es (fun vs σ H Q => ∃ ps ρ μ T ρ1, ER X.K xa H μ ρ σ ∧ SR X.K xa H μ T ∧ Rels X.K xa H μ ps vs ∧ bindNames is ps ρ = some ρ1 ∧ ∀ σ1, ER X.K xa H μ ρ1 σ1 → σ1.length = σ.length → (∀ j, j ∉ is → σ1[j]? = σ[j]?) → Q σ1 H)
  | [], is, h => by
    cases h
    refine ⟨rfl, rfl, rfl, pgs_of pgs_nil ?_⟩
    rintro vs σ H Q ⟨ps, ρ, μ, T, ρ1, er, sr, r, hb, q⟩
    cases ps with
    | nil => cases hb; exact ⟨r, q σ er rfl fun _ _ => rfl⟩
    | cons _ _ => cases hb
  | e :: es, is, h => by
    cases e with
    | Name x pos =>
      unfold namesOf at h
      split at h
      · rename_i hl
        cases e1 : slotOf N x with
        | none => rw [e1] at h; cases h
        | some i =>
          rw [e1] at h
          cases e2 : namesOf N sc0 es with
          | none => rw [e2] at h; cases h
          | some js =>
            rw [e2] at h; cases h
            obtain ⟨h1, h2, h3, h4⟩ := names_sound g ht e2
            refine ⟨by simp [h1], by show ((assignEach es X.env).length + 1) = _; rw [h2] <;> rfl, ?_, pgs_of (pgs_cons (pg_nm g ht hl e1) h4) ?_⟩
            · show ((false, assign (.Name x pos) X.env) :: assignEach es X.env).findIdx? (·.1) = none
              rw [List.findIdx?_cons, h3] <;> rfl
            rintro vs σ H Q ⟨ps, ρ, μ, T, ρ1, er, sr, r, hb, q⟩
            cases ps with
            | nil => cases hb
            | cons p ps =>
              obtain ⟨v, ws, rfl, r1, r2⟩ := r
              refine ⟨v, ws, rfl, ps, ρ.set i (some p), μ, T, ρ1, er.set i r1, sr, r2, hb, fun σ1 e1 hl1 hj => ?_⟩
              refine q σ1 e1 (by rw [hl1, List.length_set]) fun j hn => ?_
              rw [hj j (fun z => hn (List.mem_cons_of_mem _ z)), List.getElem?_set_ne (fun z => hn (by rw [z]; exact List.mem_cons_self))]
      · cases h
    | _ => cases h
theorem targ_sound {sc0 : Scope} (g : GE X ca N sc hot xa k) (ht : TgOk X sc0) (hc : X.calm = true) {tg : PySem.Expr} {t : Tgt} (h : targ N sc0 tg = some t) : PG X tg (TgP X.K xa t) := by
  unfold targ at h
  split at h
  · rename_i x pos
    split at h
    · rename_i hl
      cases e : slotOf N x with
      | none => rw [e] at h; cases h
      | some i =>
        rw [e] at h; cases h
        refine pg_of (pg_nm g ht hl e) ?_
        rintro v σ H Q ⟨p, ρ, μ, T, ρ1, er, sr, r, hb, q⟩
        cases hb
        exact q _ (er.set i r) (List.length_set ..) fun j hn => List.getElem?_set_ne (fun z => hn (by rw [z]; exact List.mem_singleton.mpr rfl))
    · cases h
  · rename_i es kk pos
    cases e : namesOf N sc0 es with
    | none => rw [e] at h; cases h
    | some is =>
      rw [e] at h; cases h
      obtain ⟨h1, h2, h3, h4⟩ := names_sound g ht e
      refine pg_of (pg_tup hc h4 h2 h3) ?_
      rintro v σ H Q ⟨p, ρ, μ, T, ρ1, er, sr, r, hb, q⟩
      cases p with
      | tup ps =>
        obtain ⟨a, vs, rfl, s, r⟩ := r
        have hb : bindNames is ps ρ = some ρ1 := hb
        have hl : ∀ {is : List Nat} {ps : List PV} {ρ : Nv} {ρ1 : Nv}, bindNames is ps ρ = some ρ1 → ps.length = is.length := by
          intro is
          induction is with
          | nil => intro ps ρ ρ1 h; cases ps with
            | nil => rfl
            | cons _ _ => cases h
          | cons i is ih => intro ps ρ ρ1 h; cases ps with
            | nil => cases h
            | cons p ps => rw [List.length_cons, List.length_cons, ih h]
        exact ⟨a, vs, rfl, s, by rw [← r.length, hl hb, h1], ps, ρ, μ, T, ρ1, er, sr, r, hb, q⟩
      | _ => cases hb
  · cases h
end
end MP

set_option Elab.async false
set_option linter.all false
set_option maxRecDepth 100000
set_option maxHeartbeats 2000000
/-! M4d: comprehensions. -/
namespace MP
open PySem PySem.Spec PyProof.Rows L2
section
variable {K : PySem.W.Frag} {xa : Option (Addr × Nat)} {H H' : Hp} {μ μ' : Mu} {T : Store}
/-- things that are filled stand aside -/
def Fil (o : HO) : Prop := Chg o
/-- a new thing is laid aside -/
theorem SR.aside (r : SR K xa H μ T) {p : Addr} {o : HO} (hp : H p = none) : Lift K H (upd H p o) μ ⟨μ.st, p :: μ.rs⟩ ∧ Ex μ ⟨μ.st, p :: μ.rs⟩ H (upd H p o) ∧ SR K xa (upd H p o) ⟨μ.st, p :: μ.rs⟩ T := by
  have same : ∀ a u, H a = some u → upd H p o a = some u := fun a u h => by rw [upd_ne (ne_of_none h hp)]; exact h
  have nm := r.fresh hp
  have x : Lift K H (upd H p o) μ ⟨μ.st, p :: μ.rs⟩ := ⟨fun _ _ h => h, fun a u h _ => same a u h, fun a u h n1 n2 => ⟨same a u h, n1, fun z => by
    rcases List.mem_cons.mp z with rfl | z
    · rw [hp] at h; cases h
    · exact n2 z⟩⟩
  refine ⟨x, ⟨⟨[], by simp⟩, fun b h => List.mem_cons_of_mem _ h, fun b u e _ => same b u e, fun _ h => .inl h, fun b h => ?_⟩, r.len, fun n a c h1 h2 => ?_, r.inj, fun b hb => ?_⟩
  · rcases List.mem_cons.mp h with rfl | h
    · exact .inr (.inr hp)
    · exact .inl h
  · obtain ⟨u, ps, vs, e, s, q⟩ := r.cell n a c h1 h2
    exact ⟨u, ps, vs, same _ _ e, s, Rels.lift x _ _ q⟩
  · rcases List.mem_cons.mp hb with rfl | hb
    · exact ⟨o, upd_same, nm⟩
    · obtain ⟨u, e, n⟩ := r.res b hb
      exact ⟨u, same _ _ e, n⟩
/-- what stands aside is written -/
theorem SR.fill (r : SR K xa H μ T) {p : Addr} {u o : HO} (hp : H p = some u) (hc : Chg u) (hr : p ∈ μ.rs) : Lift K H (upd H p o) μ μ ∧ SR K xa (upd H p o) μ T := by
  have nm : p ∉ μ.st := (r.res p hr).choose_spec.2
  have ne : ∀ a v, H a = some v → ¬ Chg v → a ≠ p := fun a v h n z => by subst z; rw [hp] at h; cases h; exact n hc
  have x : Lift K H (upd H p o) μ μ := ⟨fun _ _ h => h, fun a v h n => by rw [upd_ne (ne a v h n)]; exact h, fun a v h n1 n2 => ⟨by rw [upd_ne (fun z => n2 (by rw [z]; exact hr))]; exact h, n1, n2⟩⟩
  refine ⟨x, r.len, fun n a c h1 h2 => ?_, r.inj, fun b hb => ?_⟩
  · obtain ⟨v, ps, vs, e, s, q⟩ := r.cell n a c h1 h2
    exact ⟨v, ps, vs, by rw [upd_ne (fun z => nm (by rw [← z]; exact List.mem_of_getElem? h1))]; exact e, s, Rels.lift x _ _ q⟩
  · obtain ⟨v, e, n⟩ := r.res b hb
    by_cases hbp : b = p
    · subst hbp; exact ⟨o, upd_same, n⟩
    · exact ⟨v, by rw [upd_ne hbp]; exact e, n⟩
/-- what stood aside does so no more -/
theorem SR.free (r : SR K xa H μ T) {ρ : List Addr} (h : ∀ b, b ∈ ρ → b ∈ μ.rs) : Lift K H H μ ⟨μ.st, ρ⟩ ∧ SR K xa H ⟨μ.st, ρ⟩ T := by
  have x : Lift K H H μ ⟨μ.st, ρ⟩ := ⟨fun _ _ h => h, fun a u h _ => h, fun a u e n1 n2 => ⟨e, n1, fun z => n2 (h a z)⟩⟩
  refine ⟨x, r.len, fun n a c h1 h2 => ?_, r.inj, fun b hb => r.res b (h b hb)⟩
  obtain ⟨u, ps, vs, e, s, q⟩ := r.cell n a c h1 h2
  exact ⟨u, ps, vs, e, s, Rels.lift x _ _ q⟩
/-- what stood aside joins the store -/
theorem SR.adopt (r : SR K xa H μ T) {p : Addr} {o : MO} {u : HO} {ps : List PV} {vs : List V} {ρ : List Addr} (h : ∀ b, b ∈ ρ → b ∈ μ.rs) (hn : p ∉ ρ) (hr : p ∈ μ.rs) (hp : H p = some u) (sh : Shape K o u ps vs) (q : Rels K xa H μ ps vs) :
    Lift K H H μ ⟨μ.st ++ [p], ρ⟩ ∧ SR K xa H ⟨μ.st ++ [p], ρ⟩ (T ++ [o]) := by
  have nm : p ∉ μ.st := (r.res p hr).choose_spec.2
  have x : Lift K H H μ ⟨μ.st ++ [p], ρ⟩ := ⟨fun n a h => by rw [List.getElem?_append_left (List.getElem?_eq_some_iff.mp h).1]; exact h, fun a u h _ => h, fun a u e n1 n2 => ⟨e, fun z => by
    rcases List.mem_append.mp z with z | z
    · exact n1 z
    · have : a = p := by simpa using z
      subst this; exact n2 hr, fun z => n2 (h a z)⟩⟩
  have key : ∀ k a, (μ.st ++ [p])[k]? = some a → (k < μ.st.length ∧ μ.st[k]? = some a) ∨ (k = μ.st.length ∧ a = p) := fun k a h => by
    by_cases hk : k < μ.st.length
    · rw [List.getElem?_append_left hk] at h; exact .inl ⟨hk, h⟩
    · have h3 : k < (μ.st ++ [p]).length := (List.getElem?_eq_some_iff.mp h).1
      rw [List.length_append, List.length_singleton] at h3
      have e : k = μ.st.length := by omega
      subst e
      rw [List.getElem?_append_right (Nat.le_refl _), Nat.sub_self] at h
      exact .inr ⟨rfl, by simpa using h.symm⟩
  refine ⟨x, by simp [r.len], fun n a c h1 h2 => ?_, fun n m a h1 h2 => ?_, fun b hb => ?_⟩
  · rcases key n a h1 with ⟨hk, h1⟩ | ⟨hk, rfl⟩
    · rw [List.getElem?_append_left (by rw [← r.len]; exact hk)] at h2
      obtain ⟨u, ps, vs, e, s, q⟩ := r.cell n a c h1 h2
      exact ⟨u, ps, vs, e, s, Rels.lift x _ _ q⟩
    · subst hk
      rw [List.getElem?_append_right (by rw [r.len]; exact Nat.le_refl _), r.len, Nat.sub_self] at h2
      have e2 : o = c := by simpa using h2
      subst e2
      exact ⟨u, ps, vs, hp, sh, Rels.lift x _ _ q⟩
  · rcases key n a h1 with ⟨z1, z2⟩ | ⟨z1, z2⟩ <;> rcases key m a h2 with ⟨y1, y2⟩ | ⟨y1, y2⟩
    · exact r.inj n m a z2 y2
    · subst y2; exact absurd (List.mem_of_getElem? z2) nm
    · subst z2; exact absurd (List.mem_of_getElem? y2) nm
    · omega
  · obtain ⟨u', e, n⟩ := r.res b (h b hb)
    refine ⟨u', e, fun z => ?_⟩
    rcases List.mem_append.mp z with z | z
    · exact n z
    · have : b = p := by simpa using z
      subst this; exact hn hb
/-- the place behind is filled and told -/
theorem Post.done {ca : Nat → Addr} {m : Bool} {μ0 μ : Mu} {H0 H : Hp} {T : Store} {D : Addr} {xs : List PV} {vs : List V} {Q : V → Hp → Prop} {W : Value → Option Addr → Hp → Prop} (h : Post K xa ca (rV K xa) μ0 H0 (MP.newL m xs T) Q W) (x : Ex μ0 μ H0 H) (s : SR K xa H μ T) (hD0 : H0 D = none) (h0 : D ∉ μ0.rs) (hr : D ∈ μ.rs) (hD : H D = some (.lst vs)) (r : Rels K xa H μ xs vs) : Q (.ref D) H := by
  have nm : D ∉ μ.st := (s.res D hr).choose_spec.2
  cases m with
  | false =>
    obtain ⟨l, s'⟩ := s.free (ρ := μ0.rs) x.rs
    refine h (.ref D) ⟨μ.st, μ0.rs⟩ H ⟨x.pre, fun _ h => h, x.fr, x.new, fun b h => .inl h⟩ s' ⟨D, vs, rfl, ⟨hD, nm, h0⟩, Rels.lift l _ _ r⟩
  | true =>
    obtain ⟨l, s'⟩ := s.adopt (o := .lst xs) (u := .lst vs) (ρ := μ0.rs) x.rs h0 hr hD ⟨rfl, rfl⟩ r
    refine h (.ref D) ⟨μ.st ++ [D], μ0.rs⟩ H ⟨?_, fun _ h => h, x.fr, fun b hb => ?_, fun b h => .inl h⟩ s' ⟨D, rfl, ?_⟩
    · obtain ⟨ν, e⟩ := x.pre
      exact ⟨ν ++ [D], by rw [e, List.append_assoc]⟩
    · rcases List.mem_append.mp hb with z | z
      · exact x.new b z
      · have : b = D := by simpa using z
        subst this; exact .inr hD0
    · rw [← s.len, List.getElem?_append_right (Nat.le_refl _), Nat.sub_self] <;> rfl
theorem Post.doneD {ca : Nat → Addr} {m : Bool} {μ0 μ : Mu} {H0 H : Hp} {T : Store} {D : Addr} {ks : List PK} {xs : List PV} {kvs : List (Key × V)} {Q : V → Hp → Prop} {W : Value → Option Addr → Hp → Prop} (h : Post K xa ca (rV K xa) μ0 H0 (MP.newD m ks xs T) Q W) (x : Ex μ0 μ H0 H) (s : SR K xa H μ T) (hD0 : H0 D = none) (h0 : D ∉ μ0.rs) (hr : D ∈ μ.rs) (hD : H D = some (.dK kvs)) (hk : kvs.map (·.1) = ks.map keyV) (r : Rels K xa H μ xs (kvs.map (·.2))) : Q (.ref D) H := by
  have nm : D ∉ μ.st := (s.res D hr).choose_spec.2
  cases m with
  | false =>
    obtain ⟨l, s'⟩ := s.free (ρ := μ0.rs) x.rs
    refine h (.ref D) ⟨μ.st, μ0.rs⟩ H ⟨x.pre, fun _ h => h, x.fr, x.new, fun b h => .inl h⟩ s' ⟨D, kvs, rfl, ⟨hD, nm, h0⟩, hk, Rels.lift l _ _ r⟩
  | true =>
    obtain ⟨l, s'⟩ := s.adopt (o := .dct ks xs) (u := .dK kvs) (ρ := μ0.rs) x.rs h0 hr hD ⟨rfl, kvs, rfl, hk, rfl⟩ r
    refine h (.ref D) ⟨μ.st ++ [D], μ0.rs⟩ H ⟨?_, fun _ h => h, x.fr, fun b hb => ?_, fun b h => .inl h⟩ s' ⟨D, rfl, ?_⟩
    · obtain ⟨ν, e⟩ := x.pre
      exact ⟨ν ++ [D], by rw [e, List.append_assoc]⟩
    · rcases List.mem_append.mp hb with z | z
      · exact x.new b z
      · have : b = D := by simpa using z
        subst this; exact .inr hD0
    · rw [← s.len, List.getElem?_append_right (Nat.le_refl _), Nat.sub_self] <;> rfl
/-- what is filled stays while a part is run -/
theorem SR.kept (r : SR K xa H μ T) (x : Ex μ μ' H H') {D : Addr} {o : HO} (hr : D ∈ μ.rs) (hD : H D = some o) : H' D = some o ∧ D ∈ μ'.rs := ⟨x.fr D o hD (r.res D hr).choose_spec.2, x.rs D hr⟩
end
end MP

set_option Elab.async false
set_option linter.all false
set_option maxRecDepth 100000
set_option maxHeartbeats 2000000
/-! MX: list comprehensions of one clause that let an exception out, in a def's own block. -/
namespace MPX
open PySem PySem.Spec PyProof.Rows L2
/-- a frame is known by its address alone -/
theorem note_env {x : Value} {e1 e2 : Env} (h : e1.frame = e2.frame) : noteFrame x e1 = noteFrame x e2 := by
  unfold noteFrame PySem.frameOf
  rw [h]
section
variable {M : Model} {A : Around} {E : Value → Shared → Prop} {s : Shared} {Z : Obj → Prop} {B : Heap} {env : Env} {outer l : List Env} {L a C : Addr}
/-- in flight, on the ground or noted elsewhere: this frame notes it -/
theorem look_any {Q : Unit → Shared → Prop} (hZ : HandSPX.Steady Z) (hfr : A.frames = some (env :: outer)) (hf : env.frame = some L) (x : Sky B (env :: outer) a Z C s.heap)
    (hQ : ∀ h', HandSPX.HeldZ B (env :: outer) a Z L h' → s.heap.UpToSlots h' → Q () { s with heap := h' }) : wpAny M A (noteFrame (.ref a) env) Q E s := by
  rcases x with ⟨hB, hn, hl, oe, vs, he, hz, hd, h1⟩ | fl | hh
  · exact HandSPX.look_newZ hZ hfr hl hf he hB hn hd h1 hz hQ
  · exact HandSPX.looks_onZ hZ hfr hf fl hQ
  · by_cases hC : C = L
    · subst hC
      exact HandSPX.againZ hf hh.2.2.2 (hQ s.heap hh (Heap.UpToSlots.refl _))
    · obtain ⟨kB, nB, lf, oe, vs, T, oT, ts, ge, ze, de, v1, bT, Ta, gT, dT, t3⟩ := hh
      have keep : ∀ b, b ≠ T → (s.heap.update T (Obj.mapFields (·.setIfInBounds 3 Value.none))).get? b = s.heap.get? b := fun b hb => Heap.get?_update_other _ _ (fun z => hb z.symm)
      have noT : ∀ {b o}, s.heap.get? b = some o → (∀ us, o.data ≠ .fields us) → b ≠ T := fun {b o} hb hn z => by
        subst z
        rw [gT] at hb
        cases hb
        exact hn ts dT
      unfold noteFrame
      simp only [hf]
      refine wpAny_bind (wpAny_field ge de v1 ?_)
      rw [if_pos (show (Value.ref T != Value.none) = true from by simp)]
      refine wpAny_bind (wpAny_field gT dT t3 ?_)
      rw [if_neg (show ¬ ((rawInt C == rawInt L) = true) from by simpa [rawInt] using (fun z => hC (Int.ofNat.inj z)))]
      refine wpAny_bind (wpAny_setField gT dT (Array.getElem?_eq_some_iff.mp t3).1 ?_)
      refine HandSPX.wpAny_entryZ hZ hfr (lf.of_keeps fun b o hb hn => ⟨o, (keep b (noT hb hn)).trans hb, rfl⟩) hf ((keep a fun z => Ta z.symm).trans ge)
        (fun b o hb => (keep b fun z => by rw [z, bT] at hb; cases hb).trans (kB b o hb)) nB de (Array.getElem?_eq_some_iff.mp v1).1 ze fun h' ⟨n1, n2, n3, n4⟩ => ?_
      exact hQ h' ⟨n1, nB, n2, n3⟩ fun b o hb hn => n4 b o ((keep b (noT hb hn)).trans hb) hn
/-- the frames stand in another heap, over another ground -/
theorem frames_move {h h' B B' : Heap} : ∀ {l : List Env}, h.FunFrames B l → (∀ b ∈ frs l, B.get? b = none → B'.get? b = none) → (∀ b ∈ frs l, h'.get? b = h.get? b) → h'.FunFrames B' l
  | [], _, _, _ => trivial
  | e :: r, ⟨k, ⟨L, o, hf, hn, ho, hd⟩, hr⟩, h1, h2 => by
    have mem : L ∈ frs (e :: r) := by
      unfold frs
      rw [List.filterMap_cons, hf]
      exact List.mem_cons_self
    have sub : ∀ b ∈ frs r, b ∈ frs (e :: r) := fun b hb => by
      unfold frs
      rw [List.filterMap_cons, hf]
      exact List.mem_cons_of_mem _ hb
    exact ⟨k, ⟨L, o, hf, h1 L mem hn, (h2 L mem).trans ho, hd⟩, frames_move hr (fun b hb => h1 b (sub b hb)) fun b hb => h2 b (sub b hb)⟩
/-- a block's names are let go, and out of the ground -/
theorem held_hide {h h' : Heap} (x : HandSPX.HeldZ B l a Z L h) (hC : ∀ b ∈ frs l, b ≠ C) (hk : ∀ b, b ≠ C → h'.get? b = h.get? b) (hd : ∀ o vs, h.get? C = some o → o.data ≠ .fields vs) : HandSPX.HeldZ (B.hide C) l a Z L h' := by
  obtain ⟨kB, nB, lf, oe, vs, T, oT, ts, ge, ze, de, v1, bT, Ta, gT, dT, t3⟩ := x
  have no : ∀ b, B.get? b = none → (B.hide C).get? b = none := fun b e => by
    cases e2 : (B.hide C).get? b with
    | none => rfl
    | some o => rw [Heap.of_hide e2] at e; cases e
  have aC : a ≠ C := fun z => by subst z; exact hd oe vs ge de
  have tC : T ≠ C := fun z => by subst z; exact hd oT ts gT dT
  refine ⟨fun b o e => ?_, no _ nB, frames_move lf (fun b _ => no b) fun b hb => hk b (hC b hb), oe, vs, T, oT, ts, (hk a aC).trans ge, ze, de, v1, no _ bT, Ta, (hk T tC).trans gT, dT, t3⟩
  have bC : b ≠ C := fun z => by
    subst z
    rw [Heap.hide_self] at e
    cases e
  exact (hk b bC).trans (kB b o (Heap.of_hide e))
end
section
variable {X : Cx} {σ : L2.St} {H H0 : Hp} {s s0 : Shared} {pins : List (Addr × Obj)} {W : WX}
/-- the block of a comprehension, what it lets out -/
abbrev BlkX (X : Cx) (s : Shared) (H : Hp) (scope : Scope) (cenv : Env) (fp : List Addr) (xe : Value → Shared → Prop) : Cx := (X.blk s H scope cenv fp).tr [] xe
abbrev WB (W : WX) (σ : L2.St) : WX := fun c d _ H => W c d σ H
theorem toX {scope : Scope} {cenv : Env} {fp : List Addr} {xe : Value → Shared → Prop} (I : Inv (X.blk s0 H0 scope cenv fp) pins σ H s) : Inv (BlkX X s0 H0 scope cenv fp xe) pins σ H s :=
  ⟨I.ok.toTry _ _, I.os, I.bare, I.base, I.loc, I.cell, I.free, I.freeC, I.pin, I.hok, I.len⟩
theorem ofX {scope : Scope} {cenv : Env} {fp : List Addr} {xe : Value → Shared → Prop} (I : Inv (BlkX X s0 H0 scope cenv fp xe) pins σ H s) : Inv (X.blk s0 H0 scope cenv fp) pins σ H s :=
  ⟨Cx.Ok.ofTry (X := X.blk s0 H0 scope cenv fp) I.ok, I.os, I.bare, I.base, I.loc, I.cell, I.free, I.freeC, I.pin, I.hok, I.len⟩
theorem takesX {scope : Scope} {cenv : Env} {fp : List Addr} : Takes (BlkX X s0 H0 scope cenv fp (XE (X.blk s0 H0 scope cenv fp) W)) W := fun u s' ⟨a, B, sI, pins, σ, H, cls, d, e, I, r⟩ =>
  ⟨a, B, sI, pins, σ, H, cls, d, e, ofX I, r⟩
/-- an exception of the block goes on in the def -/
theorem block_fails {scope : Scope} {ce : Env} {fp : List Addr} (I0 : Inv X pins σ H0 s0) (hstk : X.stack = X.env :: X.outer) (hfr : X.env.frame = some X.env.locals) (tk : Takes X W) (cf : ce.frame = X.env.frame)
    (cL : ∀ H, H ce.locals = none → FpOk X pins H ce.locals) (f3 : ∀ b ∈ fp, FpOk X pins H0 b) {u : Value} (x : XE (X.blk s0 H0 scope ce fp) (WB W σ) u s) :
    notedBy (model X.prog X.w) X.A ce (fun e s' => CompFails (model X.prog X.w) X.A X.xe ce e s') u s := by
  obtain ⟨a, B, sI, pb, σb, Hb, cls, d, rfl, IB, nb, up, sky, na, os, ag, w⟩ := x
  unfold notedBy
  rw [note_env cf]
  have fr : X.A.frames = some (X.env :: X.outer) := by rw [← hstk]; exact I0.ok.frames
  have sky' : Sky B (X.env :: X.outer) a (Zc cls d) ce.locals s.heap := by rw [← hstk]; exact sky
  refine look_any Zc.steady fr hfr sky' fun h1 held up1 => ?_
  have nC : Hb ce.locals = none := IB.free
  have fC := cL Hb nC
  obtain ⟨m, hn, _⟩ := IB.loc
  have hn1 : h1.Ns ce.locals m := Heap.UpToSlots.ns (up.trans up1) hn
  refine ⟨m, hn1, fun h' m' hn' sb => ?_⟩
  have frC : ∀ b ∈ frs (X.env :: X.outer), b ≠ ce.locals := fun b hb => by
    unfold frs at hb
    rw [List.filterMap_cons, hfr] at hb
    rcases List.mem_cons.mp hb with z | z
    · rw [z]; exact fun q => fC.2.1 q.symm
    · exact fun q => fC.2.2.1 (q ▸ z)
  have dC : ∀ o vs, h1.get? ce.locals = some o → o.data ≠ .fields vs := fun o vs e z => by
    obtain ⟨o', es, ep, ho, r⟩ := hn1
    rw [ho] at e
    cases e
    rw [r.1] at z
    cases z
  have held' := held_hide held frC sb.2 dC
  have h2 := held'
  obtain ⟨kB, nB, lf, oe, vs, T, oT, ts, ge, ze, de, v1, bT, Ta, gT, dT, t3⟩ := h2
  unfold PySem.passOn
  refine wpAny_bind (wpAny_field ge de v1 ?_)
  rw [if_neg (show ¬ ((Value.ref T == Value.none) = true) from by simp)]
  rw [cf, hfr]
  refine wpAny_bind (HandSPX.setFlight_onZ held' fun h3 held3 up3 => wpAny_throw ?_)
  refine tk _ _ ⟨a, B.hide ce.locals, { sI with heap := sI.heap.hide ce.locals, toks := sI.toks }, pins, σ, Hb, cls, d, rfl, ?_, ?_, ?_, .inr (.inr (by rw [hstk]; exact held3)), na, os, ag, w⟩
  · have I7 : Inv X pins σ Hb sI := I0.call' (ch := fp) IB.os IB.base IB.hok IB.bare fun b hb => ⟨(f3 b hb).2.2.2.1, (f3 b hb).2.1, (f3 b hb).2.2.2.2.1, (f3 b hb).2.2.2.2.2⟩
    exact I7.turned (t' := sI.toks) (fun b o hb e => (Heap.hide_ne _ hb).trans e) nC fC.2.1 fC.2.2.2.1 fC.2.2.2.2.1 fC.2.2.2.2.2
  · intro b o e hb
    have bC : b ≠ ce.locals := fun z => by
      rw [z] at e
      have e : (sI.heap.hide ce.locals).get? ce.locals = some o := e
      rw [Heap.hide_self] at e
      cases e
    exact (Heap.hide_ne _ bC).trans (nb b o (Heap.of_hide e) hb)
  · intro b o e hf
    have bC : b ≠ ce.locals := fun z => by
      rw [z] at e
      have e : (sI.heap.hide ce.locals).get? ce.locals = some o := e
      rw [Heap.hide_self] at e
      cases e
    obtain ⟨sl, e1⟩ := (up.trans up1) b o (Heap.of_hide e) hf
    obtain ⟨sl2, e2⟩ := up3 b _ ((sb.2 b bC).trans e1) hf
    exact ⟨sl2, e2⟩
end
theorem ends_err {M : Model} {A : Around} {E : Value → Shared → Prop} {use : Option (Value → Sem Unit)} {Q : Value → Shared → Prop} {acc : Value} {ce : Env} {x : Value} {s' : Shared} (h : CompFails M A E ce x s') : compEnds M A E use Q acc ce (.error x) s' := by
  cases use <;> exact h
section
variable {X : Cx} {σ : L2.St} {H : Hp} {s : Shared} {pins : List (Addr × Obj)} {W : WX}
theorem lcx_core {Q : VK} {elt tg iter : PySem.Expr} {ifs : List PySem.Expr} {scope : Scope} {own : List (Str × Nat)} {pos pos' : Pos} {wi : TI} {g : TG} {tt : TT} {te : TE} {use : Option (Value → Sem Unit)} {Qf : Value → Shared → Prop}
    (hc : X.calm = true) (hN : X.N.Nodup) (hstk : X.stack = X.env :: X.outer) (hfr : X.env.frame = some X.env.locals) (tk : Takes X W) (I : Inv X pins σ H s) (hi : PI X tg iter wi) (ok : BlkOk X.N X.env.scope scope own)
    (hg : ∀ (s : Shared) (H : Hp) (C : Addr) (cl : List (Str × Addr)) (fp : List Addr) (xe : Value → Shared → Prop), Takes (BlkX X s H scope (compEnvC scope cl C X.env) fp xe) (WB W σ) → PG (BlkX X s H scope (compEnvC scope cl C X.env) fp xe) tg g)
    (ht : ∀ (s : Shared) (H : Hp) (C : Addr) (cl : List (Str × Addr)) (fp : List Addr) (xe : Value → Shared → Prop), Takes (BlkX X s H scope (compEnvC scope cl C X.env) fp xe) (WB W σ) → PTs (BlkX X s H scope (compEnvC scope cl C X.env) fp xe) ifs tt)
    (he : ∀ (s : Shared) (H : Hp) (C : Addr) (cl : List (Str × Addr)) (fp : List Addr) (xe : Value → Shared → Prop), Takes (BlkX X s H scope (compEnvC scope cl C X.env) fp xe) (WB W σ) → PE (BlkX X s H scope (compEnvC scope cl C X.env) fp xe) elt te)
    (hs : ∀ x, foldedSetIterable iter X.env x = pure x) (h : tLc wi g tt te (own.map (·.2)) σ H Q)
    (fin : ∀ D (ce : Env) s' m H', Inv X pins σ H' s' → Q (.ref D) H' → s'.heap.Ns ce.locals m → FpOk X pins H' ce.locals → compEnds (model X.prog X.w) X.A X.xe use Qf (.ref D) ce (.ok .next) s') :
    wpAny (model X.prog X.w) X.A (PySem.comprehension (.ListComp elt [⟨tg, iter, ifs, 0⟩] scope pos) scope X.env pos' (newList []) false (eval iter X.env) use) Qf X.xe s := by
  have captured : ∀ y ∈ scope.names, y.2 = .free → ∃ c, X.env.cells.lookup y.1 = some c := fun y hy e =>
    (ok.free y hy e).elim (fun k => I.ok.has _ (.inl k)) fun k => I.ok.has _ (.inr k)
  refine comprehension_at (use := use) rfl hs (closure_ok captured) ok.kind (fun y hy e => by rw [ok.uniq y hy, e]) (thn (hi.run pins s σ H _ I h) fun xv sa ha => thn ha fun itv sb hb => ?_)
  obtain ⟨it, fp, tn, J, Hb, rfl, Ib, T, stb, fb, q⟩ := hb
  refine wpAny_newObj_type (newEnv_comp ?_) (by show 0 ≤ sizeLine; decide)
  have fresh : Hb sb.heap.objs.size = none := Ib.hok.fresh (Nat.le_refl _)
  obtain ⟨V, ⟨m0, v0⟩, turn⟩ := q _ fresh
  generalize hD : sb.heap.objs.size = D at *
  generalize hs3 : ({ sb with heap := sb.heap.push { cls := .type "list", data := .seq ([] : List Value).toArray } } : Shared) = s3
  have hp3 : s3.heap = sb.heap.push { cls := .type "list", data := .seq ([] : List Value).toArray } := by rw [← hs3]
  have I3 : Inv X pins σ (upd Hb D (.lst [])) s3 := by
    rw [← hs3]
    exact Ib.laid (t' := sb.toks) (fun b o e => Heap.get?_push_of_some _ e) (Nat.le_of_eq hD) ⟨Nat.zero_le _, [], 0, .nil, by rw [← hD]; exact Heap.get?_push_size _ rfl⟩
  have below : ∀ b ∈ fp, b < sb.heap.objs.size := fun b hb => let ⟨_, e, _⟩ := T.obj _ _ stb b hb; Heap.lt_size e
  have f3 : ∀ b ∈ fp, FpOk X pins (upd Hb D (.lst [])) b ∧ b < s3.heap.objs.size := fun b hb => by
    have lt := below b hb
    have ne : b ≠ D := by rw [← hD]; exact Nat.ne_of_lt lt
    exact ⟨⟨(upd_ne ne).trans (fb b hb).1, (fb b hb).2⟩, by rw [hp3, Heap.size_push]; exact Nat.lt_succ_of_lt lt⟩
  have st3 : tn 0 s3.heap := T.keep _ _ _ stb fun b _ o e => by rw [hp3]; exact Heap.get?_push_of_some _ e
  have I4 := block_start I3 ok hN f3
  show codeAny _ _ (.compStart (.ListComp elt [⟨tg, iter, ifs, 0⟩] scope pos) 0 (.ref it) (.ref D) (compEnvC scope (cellsFrom (s3.heap.objs.size + 1) scope.names (cloFrom X.env.cells scope.names [])) s3.heap.objs.size X.env))
    (compEnds (model X.prog X.w) X.A X.xe use Qf (.ref D) (compEnvC scope (cellsFrom (s3.heap.objs.size + 1) scope.names (cloFrom X.env.cells scope.names [])) s3.heap.objs.size X.env)) { s3 with heap := pushCells (s3.heap.push { cls := .type "dict", data := .dict #[] }) scope.names }
  have none3 : ∀ b ∈ fp, (upd Hb D (.lst [])) b = none := fun b hb => (f3 b hb).1.1
  have pg := hg s3 (upd Hb D (.lst [])) s3.heap.objs.size (cellsFrom (s3.heap.objs.size + 1) scope.names (cloFrom X.env.cells scope.names [])) fp _ takesX
  have pt := ht s3 (upd Hb D (.lst [])) s3.heap.objs.size (cellsFrom (s3.heap.objs.size + 1) scope.names (cloFrom X.env.cells scope.names [])) fp _ takesX
  have pe := he s3 (upd Hb D (.lst [])) s3.heap.objs.size (cellsFrom (s3.heap.objs.size + 1) scope.names (cloFrom X.env.cells scope.names [])) fp _ takesX
  have cf : (compEnvC scope (cellsFrom (s3.heap.objs.size + 1) scope.names (cloFrom X.env.cells scope.names [])) s3.heap.objs.size X.env).frame = X.env.frame := rfl
  have cL : (compEnvC scope (cellsFrom (s3.heap.objs.size + 1) scope.names (cloFrom X.env.cells scope.names [])) s3.heap.objs.size X.env).locals = s3.heap.objs.size := rfl
  generalize compEnvC scope (cellsFrom (s3.heap.objs.size + 1) scope.names (cloFrom X.env.cells scope.names [])) s3.heap.objs.size X.env = ce at I4 pg pt pe cf cL ⊢
  generalize upd Hb D (.lst []) = H3 at I3 I4 pg pt pe v0 none3 f3
  generalize hs4 : ({ s3 with heap := pushCells (s3.heap.push { cls := .type "dict", data := .dict #[] }) scope.names } : Shared) = s4 at I4 ⊢
  have st4 : tn 0 s4.heap := T.keep _ _ _ st3 fun b _ o e => by rw [← hs4]; exact pushCells_keeps _ _ _ _ (Heap.get?_push_of_some _ e)
  have blkC : ∀ H', H' ce.locals = none → FpOk X pins H' ce.locals := fun H' n => by rw [cL] at n ⊢; exact I3.fpOk (Nat.le_refl _) n
  have fails : ∀ u s', XE (X.blk s3 H3 scope ce fp) (WB W σ) u s' → notedBy (model X.prog X.w) X.A ce (fun e s' => compEnds (model X.prog X.w) X.A X.xe use Qf (.ref D) ce (.error e) s') u s' := fun u s' x =>
    wpAny_mono (block_fails I3 hstk hfr tk cf blkC (fun b hb => (f3 b hb).1) x) (fun _ _ y => ends_err y) fun _ _ y => ends_err y
  have stat : ∀ {σ' : L2.St} {H' : Hp} {s' : Shared}, Inv (X.blk s3 H3 scope ce fp) [] σ' H' s' → (∀ b ∈ fp, H' b = none) → ∀ b ∈ fp, FpOk (X.blk s3 H3 scope ce fp) [] H' b := fun {σ' H' s'} J' hn b hb =>
    ⟨hn b hb, (J'.ok.exf b hb).1, J'.ok.exfs b hb, .inl hb, fun x c e => (J'.ok.exf b hb).2 x c e, fun p hp => absurd (show p ∈ ([] : List (Addr × Obj)) ++ [] from hp) (by simp)⟩
  have loop : codeAny (model X.prog X.w) X.A (.compLoop (.ListComp elt [⟨tg, iter, ifs, 0⟩] scope pos) 0 (.ref it) (.ref D) ce) (compEnds (model X.prog X.w) X.A X.xe use Qf (.ref D) ce) s4 := by
    refine compLoop_any (fun n s' => ∃ i H', Inv (X.blk s3 H3 scope ce fp) [] (wipe σ (own.map (·.2))) H' s' ∧ tn i s'.heap ∧ (∀ b ∈ fp, H' b = none) ∧ V i n H') ?_ m0 ⟨0, H3, I4, st4, none3, v0⟩
    rintro n s5 ⟨i, H5, I5, st5, n5, v5⟩
    rcases turn i n H5 v5 with ⟨stop, over⟩ | ⟨go, Nx, hNx, step⟩
    · refine thnF (T.done (X.blk s3 H3 scope ce fp) rfl rfl rfl hc i [] s5 _ H5 (fun _ _ => False) I5 (stat I5 n5) st5 stop) fun r s6 ⟨hr, I6⟩ => ?_
      subst hr
      obtain ⟨m, hn, _⟩ := I6.loc
      exact fin D ce s6 m H5 (I3.call' (ch := fp) I6.os I6.base I6.hok I6.bare fun b hb => ⟨(f3 b hb).1.2.2.2.1, (f3 b hb).1.2.1, (f3 b hb).1.2.2.2.2.1, (f3 b hb).1.2.2.2.2.2⟩) over hn (blkC _ I6.free)
    · refine thnF (T.item (X.blk s3 H3 scope ce fp) rfl rfl rfl hc i [] s5 _ H5 (fun _ _ => False) I5 (stat I5 n5) st5 go) fun r s6 ⟨u, hr, h6⟩ => ?_
      subst hr
      refine thnF h6 fun _ s7 ⟨x, H7, I7, r7, y7, st7, n7⟩ => ?_
      have I7' := I7.pinned (stat I7 n7) (T.obj _ _ st7)
      refine wpAny_mono (pg.run _ s7 _ H7 x u _ (toX I7') r7 (step x H7 y7)) (fun _ s8 ⟨σ8, H8, I8, hw8, q8⟩ => ?_) fails
      refine wpAny_mono (pt.run _ s8 σ8 H8 _ I8 q8) (fun b s9 ⟨H9, I9, q9⟩ => ?_) fails
      have next : ∀ {s' : Shared} {H' : Hp}, Inv (BlkX X s3 H3 scope ce fp (XE (X.blk s3 H3 scope ce fp) (WB W σ))) ([] ++ pinsAt fp s7.heap) σ8 H' s' → Nx H' → ∃ m, m < n ∧ ∃ i H', Inv (X.blk s3 H3 scope ce fp) [] (wipe σ (own.map (·.2))) H' s' ∧ tn i s'.heap ∧ (∀ b ∈ fp, H' b = none) ∧ V i m H' := fun {s' H'} Jx nx => by
        have J' := ofX Jx
        obtain ⟨m', hm, v'⟩ := hNx H' nx
        have held : ∀ b ∈ fp, ∀ o, s7.heap.get? b = some o → s'.heap.get? b = some o ∧ H' b = none := fun b hb o e => let z := J'.pin (b, o) (List.mem_append_right _ (List.mem_append_right _ (mem_pinsAt hb e))); ⟨z.1, z.2.1⟩
        refine ⟨m', hm, i + 1, H', (J'.unpinned (pins := [])).weak (by rw [← hw8, wipe_length]) (fun j v e => ?_), T.keep _ _ _ st7 fun b hb o e => (held b hb o e).1, fun b hb => ?_, v'⟩
        · rw [← hw8] at e
          exact (wipe_some e).1
        · obtain ⟨o, e, _⟩ := T.obj _ _ st7 b hb
          exact (held b hb o e).2
      cases b with
      | false =>
        rw [if_neg Bool.false_ne_true] at q9 ⊢
        exact next I9 q9
      | true =>
        rw [if_pos rfl] at q9 ⊢
        refine wpAny_mono (pe.run _ s9 σ8 H9 _ I9 q9) (fun z s10 ⟨yv, H10, I10, r10, acc, hD10, hz10, nx⟩ => ?_) fails
        exact app_ok (X := BlkX X s3 H3 scope ce fp (XE (X.blk s3 H3 scope ce fp) (WB W σ))) I10 hD10 hz10 r10 fun s11 I11 => next I11 nx
  exact codeAny_compStart_list loop (T.self X.A 0 _ _ _ st4 loop)
end
section
variable {X : Cx} {W : WX}
/-- the comprehension, its parts told by the def's names -/
def tLcx (wi : TI) (g : TG) (tt : L2.St → TT) (te : L2.St → TE) (vs : List Nat) : TE := fun σ H Q => tLc wi g (tt σ) (te σ) vs σ H Q
/-- as a value -/
theorem pe_lcx {elt tg iter : PySem.Expr} {ifs : List PySem.Expr} {scope : Scope} {own : List (Str × Nat)} {pos : Pos} {wi : TI} {g : TG} {tt : L2.St → TT} {te : L2.St → TE} (hc : X.calm = true) (hN : X.N.Nodup) (hstk : X.stack = X.env :: X.outer) (hfr : X.env.frame = some X.env.locals) (tk : Takes X W) (hi : PI X tg iter wi) (ok : BlkOk X.N X.env.scope scope own)
    (hg : ∀ (s : Shared) (H : Hp) (C : Addr) (cl : List (Str × Addr)) (fp : List Addr) (xe : Value → Shared → Prop), PG (BlkX X s H scope (compEnvC scope cl C X.env) fp xe) tg g)
    (ht : ∀ σ (s : Shared) (H : Hp) (C : Addr) (cl : List (Str × Addr)) (fp : List Addr) (xe : Value → Shared → Prop), Takes (BlkX X s H scope (compEnvC scope cl C X.env) fp xe) (WB W σ) → PTs (BlkX X s H scope (compEnvC scope cl C X.env) fp xe) ifs (tt σ))
    (he : ∀ σ (s : Shared) (H : Hp) (C : Addr) (cl : List (Str × Addr)) (fp : List Addr) (xe : Value → Shared → Prop), Takes (BlkX X s H scope (compEnvC scope cl C X.env) fp xe) (WB W σ) → PE (BlkX X s H scope (compEnvC scope cl C X.env) fp xe) elt (te σ))
    (hs : ∀ x, foldedSetIterable iter X.env x = pure x) : PE X (.ListComp elt [⟨tg, iter, ifs, 0⟩] scope pos) (tLcx wi g tt te (own.map (·.2))) := by
  constructor
  intro pins s σ H Q I h
  rw [eval_ListComp]
  refine lcx_core hc hN hstk hfr tk I hi ok (fun s H C cl fp xe _ => hg s H C cl fp xe) (ht σ) (he σ) hs h fun D ce s' m H' J q hn ⟨f0, f1, f2, f3, f4, f5⟩ => ⟨m, hn, fun h'' sb => ?_⟩
  exact ⟨.ref D, H', J.turned (t' := s'.toks) (fun b o hb e => (sb.2 b hb).trans e) f0 f1 f3 f4 f5, rfl, q⟩
/-- as a name's new value -/
theorem ps_setLcx {i : Nat} {y : Str} {py : Pos} {elt tg iter : PySem.Expr} {ifs : List PySem.Expr} {scope : Scope} {own : List (Str × Nat)} {pos spos : Pos} {wi : TI} {g : TG} {tt : L2.St → TT} {te : L2.St → TE} (hc : X.calm = true) (hN : X.N.Nodup) (hstk : X.stack = X.env :: X.outer) (hfr : X.env.frame = some X.env.locals) (tk : Takes X W) (hy : X.N[i]? = some y) (hyl : X.env.scope.names.lookup y = some .local)
    (hsw : swapsWith (.ListComp elt [⟨tg, iter, ifs, 0⟩] scope pos) (some (.Name y py)) spos.line X.env = pure true) (hi : PI X tg iter wi) (ok : BlkOk X.N X.env.scope scope own)
    (hg : ∀ (s : Shared) (H : Hp) (C : Addr) (cl : List (Str × Addr)) (fp : List Addr) (xe : Value → Shared → Prop), PG (BlkX X s H scope (compEnvC scope cl C X.env) fp xe) tg g)
    (ht : ∀ σ (s : Shared) (H : Hp) (C : Addr) (cl : List (Str × Addr)) (fp : List Addr) (xe : Value → Shared → Prop), Takes (BlkX X s H scope (compEnvC scope cl C X.env) fp xe) (WB W σ) → PTs (BlkX X s H scope (compEnvC scope cl C X.env) fp xe) ifs (tt σ))
    (he : ∀ σ (s : Shared) (H : Hp) (C : Addr) (cl : List (Str × Addr)) (fp : List Addr) (xe : Value → Shared → Prop), Takes (BlkX X s H scope (compEnvC scope cl C X.env) fp xe) (WB W σ) → PE (BlkX X s H scope (compEnvC scope cl C X.env) fp xe) elt (te σ))
    (hs : ∀ x, foldedSetIterable iter X.env x = pure x) : PS X (.Assign [.Name y py] (.ListComp elt [⟨tg, iter, ifs, 0⟩] scope pos) spos) (tAsg (tLcx wi g tt te (own.map (·.2))) (gName i)) := by
  constructor
  intro pins s σ H D I h
  rw [exec_Assign_Name_used _ _ _ _ hsw]
  refine wpAny_bind (wpAny_standAt (wpAny_bind ?_))
  show wpAny _ X.A (do let _ ← PySem.comprehension (.ListComp elt [⟨tg, iter, ifs, 0⟩] scope pos) scope X.env (firstIterPos [⟨tg, iter, ifs, 0⟩] pos) (newList []) false (eval iter X.env) (some (assign (.Name y py) X.env))) _ _ s
  have h : tLc wi g (tt σ) (te σ) (own.map (·.2)) σ H (fun x H1 => gName i x σ H1 D.nx) := h
  refine wpAny_bind (thn (lcx_core (Qf := fun _ s' => SP X pins D .next s') hc hN hstk hfr tk I hi ok (fun s H C cl fp xe _ => hg s H C cl fp xe) (ht σ) (he σ) hs h fun L ce s' m H' J q hn ⟨f0, f1, f2, f3, f4, f5⟩ => ?_) fun _ s' hq => wpAny_pure (wpAny_pure hq))
  show wpAny _ _ (assign (.Name y py) X.env (.ref L)) _ _ _
  refine wpAny_assign_Name (store_ok2 (v := V.ref L) J hN hy (.inl hyl) rfl (fun s2 J2 ⟨b, sb, hb⟩ => ?_) (.inr hyl))
  have ne : ce.locals ≠ b := hb.elim (fun z => by rw [z]; exact f1) fun z e => f4 y b z e.symm
  exact ⟨m, hn.sameBut sb ne, fun h3 sb3 => ⟨_, H', J2.turned (t' := s2.toks) (fun b o hb e => (sb3.2 b hb).trans e) f0 f1 f3 f4 f5, q⟩⟩
end
end MPX

set_option Elab.async false
set_option linter.all false
set_option maxRecDepth 100000
set_option maxHeartbeats 2000000
/-! M4e: comprehensions are the small tree's. -/
namespace MP
open MPX
open PySem PySem.Spec PyProof.Rows L2
section
variable {X : Cx} {T : Tab} {N : List Str} {hot : Bool} {ca : Nat → Addr} {D : Nat → Option FD} {G : Nat → Option PV} {k : Nat} {xa : Option (Addr × Nat)} {W : WX} {sc : Scope}
/-- what a compiler of expressions promises, everywhere -/
def SndA (T : Tab) (N : List Str) (hot : Bool) (ca : Nat → Addr) (D : Nat → Option FD) (G : Nat → Option PV) (k : Nat) (f : Rc) : Prop := ∀ (X : Cx) (xa : Option (Addr × Nat)) (W : WX) (mm : Bool) (sc : Scope) (e : PySem.Expr) (m : E), f mm sc e = some m → GE X ca N sc hot xa k → Facts X T ca D G k → Takes X W → PEm X xa ca D G k W e m
abbrev WF : WX := fun _ _ _ _ => False
theorem Facts.blk (F : Facts X T ca D G k) (s : Shared) (H : Hp) (scope : Scope) (cenv : Env) (fp : List Addr) : Facts (X.blk s H scope cenv fp) T ca D G k := ⟨F.fns, F.consts, F.dicts, fun x c h => let C := F.clss x c h; ⟨C.mg, C.keep, C.exc, C.rais, C.ex, C.kyes, C.kno, C.yes, C.no⟩, F.blts⟩
theorem isBlk_rel {scope sc : Scope} (h : isBlk scope = true) : isBlk (relS scope sc) = true := by
  have e : scope.names.lookup (".0" : Str) = some .local := by
    unfold isBlk at h
    split at h
    · assumption
    · cases h
  unfold isBlk
  have e2 : (relS scope sc).names.lookup (".0" : Str) = some .local := lookup_relS_keep (by decide) e
  rw [e2]
theorem GE.blk (g : GE X ca N sc hot xa k) (hh : hot = false) (s : Shared) (H : Hp) (scope : Scope) (hb : isBlk scope = true) (C : Addr) (cl : List (Str × Addr)) (fp : List Addr) : GE (X.blk s H scope (compEnvC scope cl C X.env) fp) ca N (relS scope X.env.scope) hot xa k :=
  ⟨g.nN, g.nd, rfl, g.calm, g.room, (fun z => by
    have z : isBlk (relS scope X.env.scope) = false := z
    rw [isBlk_rel hb] at z
    cases z), g.un, g.cold, fun z => by rw [hh] at z; cases z⟩
theorem Facts.tr (F : Facts X T ca D G k) (pn : List (Addr × Obj)) (xe : Value → Shared → Prop) : Facts (X.tr pn xe) T ca D G k := ⟨F.fns, F.consts, F.dicts, fun x c h => let C := F.clss x c h; ⟨C.mg, C.keep, C.exc, C.rais, C.ex, C.kyes, C.kno, C.yes, C.no⟩, F.blts⟩
theorem GE.trE (g : GE X ca N sc hot xa k) (hh : hot = false) (pn : List (Addr × Obj)) (xe : Value → Shared → Prop) : GE (X.tr pn xe) ca N sc hot xa k :=
  ⟨g.nN, g.nd, g.sc, g.calm, g.room, g.top, g.un, g.cold, fun z => by rw [hh] at z; cases z⟩
theorem tg_blk (s : Shared) (H : Hp) (scope : Scope) (C : Addr) (cl : List (Str × Addr)) (fp : List Addr) : TgOk (X.blk s H scope (compEnvC scope cl C X.env) fp) scope := fun x h => by
  rcases loc_of h with h | h
  · exact ⟨.inl (lookup_relS_keep (by decide) h), .inr (lookup_relS_keep (by decide) h)⟩
  · refine ⟨.inr (lookup_relS_keep (by decide) h), .inl ?_⟩
    show (scope.names.lookup x == some .cell) = true
    rw [h] <;> rfl
theorem pts_of {ifs : List PySem.Expr} {t t' : TT} (h : PTs X ifs t) (hi : ∀ σ H Q, t' σ H Q → t σ H Q) : PTs X ifs t' := ⟨fun pins s σ H Q I q => h.run pins s σ H Q I (hi σ H Q q)⟩
theorem wipe_at {σ : L2.St} : ∀ {vs : List Nat} {j : Nat}, j ∈ vs → j < σ.length → (wipe σ vs)[j]? = some none
  | v :: vs, j, h, hl => by
    show ((wipe σ vs).set v none)[j]? = some none
    by_cases e : v = j
    · subst e
      rw [List.getElem?_set_self (by rw [wipe_length]; exact hl)]
    · rw [List.getElem?_set_ne e]
      refine wipe_at ?_ hl
      rcases List.mem_cons.mp h with z | z
      · exact absurd z.symm e
      · exact z
theorem wipe_same {σ σ2 : L2.St} {vs is : List Nat} (hl : σ2.length = (wipe σ vs).length) (hj : ∀ j, j ∉ is → σ2[j]? = (wipe σ vs)[j]?) (hs : ∀ j ∈ is, j ∈ vs) : wipe σ2 vs = wipe σ vs := by
  have hl2 : σ2.length = σ.length := by rw [hl, wipe_length]
  refine List.ext_getElem? fun j => ?_
  by_cases hv : j ∈ vs
  · by_cases hb : j < σ.length
    · rw [wipe_at hv hb, wipe_at hv (by rw [hl2]; exact hb)]
    · rw [List.getElem?_eq_none_iff.mpr (by rw [wipe_length]; omega), List.getElem?_eq_none_iff.mpr (by rw [wipe_length]; omega)]
  · rw [wipe_out hv]
    exact hj j fun z => hv (hs j z)
theorem er_wipe {K : PySem.W.Frag} {H : Hp} {μ : Mu} {ρ : Nv} {σ : L2.St} (e : ER K xa H μ ρ σ) : ∀ vs : List Nat, ER K xa H μ (wipeE ρ vs) (wipe σ vs)
  | [] => e
  | v :: vs => (er_wipe e vs).unset v
/-- one turn of a comprehension -/
theorem compL_step {α : Type} {P : Res α → Prop} (h0 : ¬ P .bad) (h1 : ∀ c S, ¬ P (.exc c S)) {w : Wk} {tg : Tgt} {c : Nv → Store → Res Bool} {f : Nv → α → Store → Res α} {σ : Nv} {n i : Nat} {acc : α} {S : Store} (h : P (compL w tg c f σ (n + 1) i acc S)) :
    (w.at i S = some none ∧ P (.ok acc S)) ∨ ∃ v σ1 b S1, w.at i S = some (some v) ∧ bindT tg v σ = some σ1 ∧ c σ1 S = .ok b S1 ∧ (if b then P ((f σ1 acc S1).bind fun acc1 T2 => compL w tg c f σ n (i + 1) acc1 T2) else P (compL w tg c f σ n (i + 1) acc S1)) := by
  have e : compL w tg c f σ (n + 1) i acc S = match w.at i S with
    | none => .bad
    | some none => .ok acc S
    | some (some v) => match bindT tg v σ with
      | none => .bad
      | some σ1 => (c σ1 S).bind fun t T1 => if t then (f σ1 acc T1).bind fun acc1 T2 => compL w tg c f σ n (i + 1) acc1 T2 else compL w tg c f σ n (i + 1) acc T1 := rfl
  rw [e] at h
  cases ew : w.at i S with
  | none => rw [ew] at h; exact (h0 h).elim
  | some o =>
    rw [ew] at h
    cases o with
    | none => exact .inl ⟨rfl, h⟩
    | some v =>
      have h : P (match bindT tg v σ with
        | none => .bad
        | some σ1 => (c σ1 S).bind fun t T1 => if t then (f σ1 acc T1).bind fun acc1 T2 => compL w tg c f σ n (i + 1) acc1 T2 else compL w tg c f σ n (i + 1) acc T1) := h
      cases eb : bindT tg v σ with
      | none => rw [eb] at h; exact (h0 h).elim
      | some σ1 =>
        rw [eb] at h
        have h : P ((c σ1 S).bind fun t T1 => if t then (f σ1 acc T1).bind fun acc1 T2 => compL w tg c f σ n (i + 1) acc1 T2 else compL w tg c f σ n (i + 1) acc T1) := h
        cases ec : c σ1 S with
        | bad => rw [ec] at h; exact (h0 h).elim
        | exc d S1 => rw [ec] at h; exact (h1 _ _ h).elim
        | ok b S1 =>
          rw [ec] at h
          refine .inr ⟨v, σ1, b, S1, rfl, eb, ec, ?_⟩
          cases b with
          | true => exact h
          | false => exact h
/-- what is wanted of a comprehension's list, behind -/
def PC (K : PySem.W.Frag) (xa : Option (Addr × Nat)) (ca : Nat → Addr) (μ : Mu) (H : Hp) (m : Bool) (Q : VK) (W : Value → Option Addr → Hp → Prop) (r : Res (List PV)) : Prop := Post K xa ca (rV K xa) μ H (r.noX.bind fun xs T2 => newL m xs T2) Q W
def PD (K : PySem.W.Frag) (xa : Option (Addr × Nat)) (ca : Nat → Addr) (μ : Mu) (H : Hp) (m : Bool) (Q : VK) (W : Value → Option Addr → Hp → Prop) (r : Res (List PK × List PV)) : Prop := Post K xa ca (rV K xa) μ H (r.noX.bind fun xs T2 => newD m xs.1 xs.2 T2) Q W
section
variable {K : PySem.W.Frag} {μ : Mu} {H : Hp} {m : Bool} {Q : VK} {V' : Value → Option Addr → Hp → Prop}
theorem PC.bad : ¬ PC K xa ca μ H m Q V' .bad := fun h => h
theorem PC.exc (c : Nat) (S : Store) : ¬ PC K xa ca μ H m Q V' (.exc c S) := fun h => h
theorem PD.bad : ¬ PD K xa ca μ H m Q V' .bad := fun h => h
theorem PD.exc (c : Nat) (S : Store) : ¬ PD K xa ca μ H m Q V' (.exc c S) := fun h => h
end
/-- the parts of a clause -/
theorem clause_parts {f : Rc} (hf : SndA T N hot ca D G k f) (g : GE X ca N sc hot xa k) (F : Facts X T ca D G k) (hh : hot = false) {scope : Scope} {ifs : List PySem.Expr} {mc : E} (hb : isBlk scope = true) (e1 : cIfs f (relS scope X.env.scope) ifs = some mc) (s : Shared) (H : Hp) (C : Addr) (cl' : List (Str × Addr)) (fp : List Addr) :
    PTs (X.blk s H scope (compEnvC scope cl' C X.env) fp) ifs (tR X.K xa ca rB WF (evT (callF D G k) G mc)) := by
  unfold cIfs at e1
  split at e1
  · cases e1
    refine pts_of pts_nil ?_
    rintro σ H Q ⟨ρ, μ, S, er, sr, q⟩
    exact q true μ H (Ex.refl _ _) sr rfl
  · exact pts_one (hf _ xa WF _ _ _ _ e1 (g.blk hh s H scope hb C cl' fp) (F.blk s H scope _ fp) takes0).2
  · cases e1
theorem all_slots {is own : List Nat} (hsl : ¬ is.all (fun i => decide (i ∈ own)) = false) : ∀ j ∈ is, j ∈ own := fun j hj => by
  have hsl : is.all (fun i => decide (i ∈ own)) = true := by
    cases z : is.all (fun i => decide (i ∈ own)) with
    | true => rfl
    | false => exact absurd z hsl
  exact of_decide_eq_true (List.all_eq_true.mp hsl j hj)
def PCO (x : Bool) (K : PySem.W.Frag) (xa : Option (Addr × Nat)) (ca : Nat → Addr) (μ : Mu) (H : Hp) (m : Bool) (Q : VK) (W : Value → Option Addr → Hp → Prop) (r : Res (List PV)) : Prop := Post K xa ca (rV K xa) μ H ((Res.outX x r).bind fun xs T2 => newL m xs T2) Q W
theorem PCO.bad {x : Bool} {K : PySem.W.Frag} {μ : Mu} {H : Hp} {m : Bool} {Q : VK} {V' : Value → Option Addr → Hp → Prop} : ¬ PCO x K xa ca μ H m Q V' .bad := fun h => by cases x <;> exact h
theorem PCO.exc {K : PySem.W.Frag} {μ : Mu} {H : Hp} {m : Bool} {Q : VK} {V' : Value → Option Addr → Hp → Prop} (c : Nat) (S : Store) : ¬ PCO false K xa ca μ H m Q V' (.exc c S) := fun h => h
/-- a comprehension's parts -/
theorem comp_core {f : Rc} (hf : SndA T N hot ca D G k f) (g : GE X ca N sc hot xa k) (F : Facts X T ca D G k) (tk : Takes X W) (hbk : isBlk X.env.scope = true) {mm : Bool} {elt : PySem.Expr} {tg iter : PySem.Expr} {ifs : List PySem.Expr} {kk : Int} {scope : Scope} {m : E} (h0 : cComp T N hot f mm sc elt [⟨tg, iter, ifs, kk⟩] scope = some m) :
    hot = false ∧ kk = 0 ∧ ∃ (wi : TI) (gg : TG) (tt : TT) (te : TE) (own : List (Str × Nat)), PI X tg iter wi ∧ BlkOk X.N X.env.scope scope own ∧
      (∀ (s : Shared) (H : Hp) (C : Addr) (cl : List (Str × Addr)) (fp : List Addr), PG (X.blk s H scope (compEnvC scope cl C X.env) fp) tg gg) ∧
      (∀ (s : Shared) (H : Hp) (C : Addr) (cl : List (Str × Addr)) (fp : List Addr), PTs (X.blk s H scope (compEnvC scope cl C X.env) fp) ifs tt) ∧
      (∀ (s : Shared) (H : Hp) (C : Addr) (cl : List (Str × Addr)) (fp : List Addr), PE (X.blk s H scope (compEnvC scope cl C X.env) fp) elt te) ∧
      (∀ x, foldedSetIterable iter X.env x = pure x) ∧ ∀ σ H Q, tR X.K xa ca (rV X.K xa) W (ev (callF D G k) G m) σ H Q → tLc wi gg tt te (own.map (·.2)) σ H Q := by
  have hs := g.sc
  subst hs
  have h : (if hot = false ∧ kk = 0 ∧ blkC N X.env.scope scope (ownOf N scope.names) = true ∧ isBlk scope = true then
      (cIfs f (relS scope X.env.scope) ifs).bind fun c => (targ N scope tg).bind fun g => if (slotsT g).all (fun i => decide (i ∈ (ownOf N scope.names).map (·.2))) = false then none else (f false (relS scope X.env.scope) elt).bind fun y => (cWalk T f X.env.scope tg iter).map fun w =>
        E.comp mm (!isBlk X.env.scope) g ((ownOf N scope.names).map (·.2)) w.1 w.2 c y
    else none) = some m := h0
  clear h0
  rw [hbk, Bool.not_true] at h
  split at h
  · rename_i hc
    obtain ⟨hh, rfl, hb0, hb⟩ := hc
    have ok := blkOk_by hb0
    obtain ⟨mc, e1, h⟩ := Option.bind_eq_some_iff.mp h
    obtain ⟨t, e2, h⟩ := Option.bind_eq_some_iff.mp h
    split at h
    · cases h
    · rename_i hsl
      obtain ⟨me, e3, h⟩ := Option.bind_eq_some_iff.mp h
      obtain ⟨w, e4, rfl⟩ := Option.map_eq_some_iff.mp h
      have hsl2 := all_slots hsl
      have cl := g.calm hh
      have pw := walk_sound (tg := tg) (fun e m he => hf X xa W false _ e m he g F tk) g F ⟨t, e2⟩ e4
      have pgt : ∀ (s : Shared) (H : Hp) (C : Addr) (cl' : List (Str × Addr)) (fp : List Addr), PG (X.blk s H scope (compEnvC scope cl' C X.env) fp) tg (TgP X.K xa t) := fun s H C cl' fp => targ_sound (g.blk hh s H scope hb C cl' fp) (tg_blk s H scope C cl' fp) cl e2
      have pel : ∀ (s : Shared) (H : Hp) (C : Addr) (cl' : List (Str × Addr)) (fp : List Addr), PE (X.blk s H scope (compEnvC scope cl' C X.env) fp) elt (tR X.K xa ca (rV X.K xa) WF (ev (callF D G k) G me)) := fun s H C cl' fp =>
        (hf _ xa WF _ _ _ _ e3 (g.blk hh s H scope hb C cl' fp) (F.blk s H scope _ fp) takes0).1
      refine ⟨hh, rfl, _, _, _, _, ownOf N scope.names, pw, by rw [g.nN]; exact ok, pgt, clause_parts hf g F hh hb e1, pel, walk_fold e4, ?_⟩
      rintro σ H Q ⟨ρ, μ, S, er, sr, q⟩
      refine ⟨ρ, μ, S, er, sr, q.bind _ fun vs S1 xs μ1 H1 x1 sr1 r1 h1 => ?_⟩
      have h1 : Post X.K xa ca (rV X.K xa) μ1 H1 (match walkOf S1 w.1 (asTup vs) with
        | some w' => (Res.outX false (compL w' t (evT (callF D G k) G mc) (fun σ acc T => (ev (callF D G k) G me σ T).bind fun v T2 => addL acc v T2) (wipeE ρ ((ownOf N scope.names).map (·.2))) FU 0 [] S1)).bind fun xs T2 => newL mm xs T2
        | none => .bad) Q _ := h1
      split at h1
      · rename_i w' hw
        generalize hO : List.map (fun x : Str × Nat => x.2) (ownOf N scope.names) = O at h1 hsl2 ⊢
        generalize hcc : (evT (callF D G k) G mc) = cc at h1
        generalize hff : (fun σ acc T => (ev (callF D G k) G me σ T).bind fun v T2 => addL acc v T2) = ff at h1
        refine ⟨asTup vs, μ1, S1, w', sr1, r1, hw, fun J hJ DD hD => ?_⟩
        have er1 := er.mono sr x1
        have hD0 : DD ∉ μ1.rs := sr1.freshR hD
        obtain ⟨l0, y0, s0⟩ := sr1.aside (o := .lst []) hD
        refine ⟨fun i n H' => ∃ acc ws μ' S', Ex μ1 μ' H1 H' ∧ SR X.K xa H' μ' S' ∧ DD ∈ μ'.rs ∧ H' DD = some (.lst ws) ∧ Rels X.K xa H' μ' acc ws ∧ PCO false X.K xa ca μ1 H1 mm Q (fun c d H' => W c d σ H') (compL w' t cc ff (wipeE ρ O) n i acc S'),
          ⟨FU, [], [], _, S1, y0, s0, List.mem_cons_self, upd_same, rfl, h1⟩, ?_⟩
        rintro i n H' ⟨acc, ws, μ', S', x', s', hr, hDD, ra, hp⟩
        cases n with
        | zero => exact hp.elim
        | succ n =>
          have ir := hJ μ' H' S' i (x'.lift sr1) s'
          rcases compL_step PCO.bad PCO.exc hp with ⟨ew, hp⟩ | ⟨v, ρ1, b, S3, ew, eb, ec, hp⟩
          · rw [ew] at ir
            exact .inl ⟨ir, Post.done hp x' s' hD hD0 hr hDD ra⟩
          · rw [ew] at ir
            obtain ⟨go, yld⟩ := ir
            refine .inr ⟨go, fun H2 => ∃ acc ws μ' S', Ex μ1 μ' H1 H2 ∧ SR X.K xa H2 μ' S' ∧ DD ∈ μ'.rs ∧ H2 DD = some (.lst ws) ∧ Rels X.K xa H2 μ' acc ws ∧ PCO false X.K xa ca μ1 H1 mm Q (fun c d H' => W c d σ H') (compL w' t cc ff (wipeE ρ O) n (i + 1) acc S'),
              fun H2 hN => ⟨n, Nat.lt_succ_self n, hN⟩, fun x H2 hy => ?_⟩
            obtain ⟨x2, s2, r2⟩ := yld x H2 hy
            obtain ⟨hDD2, hr2⟩ := s'.kept x2 hr hDD
            have xx2 := x'.trans x2
            have erw : ER X.K xa H2 μ' (wipeE ρ O) (wipe σ O) := er_wipe (er1.mono sr1 xx2) _
            refine ⟨v, _, μ', S', ρ1, erw, s2, r2, eb, fun σ1 er2 hl hj => ⟨wipe_same hl hj hsl2, ?_⟩⟩
            have ra2 := Rels.mono s' x2 _ _ ra
            refine ⟨ρ1, μ', S', er2, s2, ?_⟩
            show Post X.K xa ca rB μ' H2 (cc ρ1 S') _ _
            rw [ec]
            intro b' μ3 H3 x3 s3 eb'
            have eb' : b = b' := eb'
            subst eb'
            have ra3 := Rels.mono s2 x3 _ _ ra2
            obtain ⟨hDD3, hr3⟩ := s2.kept x3 hr2 hDD2
            cases b with
            | false => exact ⟨acc, ws, μ3, S3, xx2.trans x3, s3, hr3, hDD3, ra3, hp⟩
            | true =>
              rw [if_pos rfl]
              rw [if_pos rfl, ← hff] at hp
              refine ⟨ρ1, μ3, S3, er2.mono s2 x3, s3, ?_⟩
              cases ee : ev (callF D G k) G me ρ1 S3 with
              | exc c S4 => simp only [ee] at hp; exact hp.elim
              | bad => simp only [ee] at hp; exact hp.elim
              | ok y S4 =>
                simp only [ee] at hp
                intro z μ4 H4 x4 s4 rz
                have hp : PCO false X.K xa ca μ1 H1 mm Q (fun c d H' => W c d σ H') ((addL acc y S4).bind fun acc1 T2 => compL w' t cc (fun σ acc T => (ev (callF D G k) G me σ T).bind fun v T2 => addL acc v T2) (wipeE ρ O) n (i + 1) acc1 T2) := hp
                unfold addL at hp
                split at hp
                · rename_i hz
                  have ra4 := Rels.mono s3 x4 _ _ ra3
                  obtain ⟨hDD4, hr4⟩ := s3.kept x4 hr3 hDD3
                  obtain ⟨l5, s5⟩ := s4.fill (o := .lst (ws ++ [z])) hDD4 trivial hr4
                  have x5 := (xx2.trans x3).trans x4
                  refine ⟨ws, hDD4, by rw [← ra4.length, ← SZ_eq]; exact hz, acc ++ [y], ws ++ [z], μ4, S4, ⟨x5.pre, x5.rs, fun b o e nb => ?_, x5.new, x5.newR⟩, s5, hr4, upd_same, (Rels.lift l5 _ _ ra4).append (Rels.one (Rel.lift l5 _ _ rz)), by rw [← hff]; exact hp⟩
                  rw [upd_ne (ne_of_none e hD)]
                  exact x5.fr b o e nb
                · exact hp.elim
      · exact h1.elim
  · cases h
/-- one turn of a comprehension that may let an exception out -/
theorem compL_stepX {α : Type} {P : Res α → Prop} (h0 : ¬ P .bad) {w : Wk} {tg : Tgt} {c : Nv → Store → Res Bool} {f : Nv → α → Store → Res α} {σ : Nv} {n i : Nat} {acc : α} {S : Store} (h : P (compL w tg c f σ (n + 1) i acc S)) :
    (w.at i S = some none ∧ P (.ok acc S)) ∨ (∃ v σ1 b S1, w.at i S = some (some v) ∧ bindT tg v σ = some σ1 ∧ c σ1 S = .ok b S1 ∧ (if b then P ((f σ1 acc S1).bind fun acc1 T2 => compL w tg c f σ n (i + 1) acc1 T2) else P (compL w tg c f σ n (i + 1) acc S1))) ∨
      ∃ v σ1 d S1, w.at i S = some (some v) ∧ bindT tg v σ = some σ1 ∧ c σ1 S = .exc d S1 ∧ P (.exc d S1) := by
  have e : compL w tg c f σ (n + 1) i acc S = match w.at i S with
    | none => .bad
    | some none => .ok acc S
    | some (some v) => match bindT tg v σ with
      | none => .bad
      | some σ1 => (c σ1 S).bind fun t T1 => if t then (f σ1 acc T1).bind fun acc1 T2 => compL w tg c f σ n (i + 1) acc1 T2 else compL w tg c f σ n (i + 1) acc T1 := rfl
  rw [e] at h
  cases ew : w.at i S with
  | none => rw [ew] at h; exact (h0 h).elim
  | some o =>
    rw [ew] at h
    cases o with
    | none => exact .inl ⟨rfl, h⟩
    | some v =>
      have h : P (match bindT tg v σ with
        | none => .bad
        | some σ1 => (c σ1 S).bind fun t T1 => if t then (f σ1 acc T1).bind fun acc1 T2 => compL w tg c f σ n (i + 1) acc1 T2 else compL w tg c f σ n (i + 1) acc T1) := h
      cases eb : bindT tg v σ with
      | none => rw [eb] at h; exact (h0 h).elim
      | some σ1 =>
        rw [eb] at h
        have h : P ((c σ1 S).bind fun t T1 => if t then (f σ1 acc T1).bind fun acc1 T2 => compL w tg c f σ n (i + 1) acc1 T2 else compL w tg c f σ n (i + 1) acc T1) := h
        cases ec : c σ1 S with
        | bad => rw [ec] at h; exact (h0 h).elim
        | exc d S1 => rw [ec] at h; exact .inr (.inr ⟨v, σ1, d, S1, rfl, eb, ec, h⟩)
        | ok b S1 =>
          rw [ec] at h
          refine .inr (.inl ⟨v, σ1, b, S1, rfl, eb, ec, ?_⟩)
          cases b with
          | true => exact h
          | false => exact h
theorem clause_partsX {f : Rc} (hf : SndA T N hot ca D G k f) (g : GE X ca N sc hot xa k) (F : Facts X T ca D G k) (hh : hot = false) {scope : Scope} {ifs : List PySem.Expr} {mc : E} (hb : isBlk scope = true) (e1 : cIfs f (relS scope X.env.scope) ifs = some mc) (σ : L2.St) (s : Shared) (H : Hp) (C : Addr) (cl' : List (Str × Addr)) (fp : List Addr) (xe : Value → Shared → Prop) (tk : Takes (BlkX X s H scope (compEnvC scope cl' C X.env) fp xe) (WB W σ)) :
    PTs (BlkX X s H scope (compEnvC scope cl' C X.env) fp xe) ifs (tR X.K xa ca rB (WB W σ) (evT (callF D G k) G mc)) := by
  unfold cIfs at e1
  split at e1
  · cases e1
    refine pts_of pts_nil ?_
    rintro σ H Q ⟨ρ, μ, S, er, sr, q⟩
    exact q true μ H (Ex.refl _ _) sr rfl
  · exact pts_one (hf _ xa (WB W σ) _ _ _ _ e1 ((g.blk hh s H scope hb C cl' fp).trE hh [] xe) ((F.blk s H scope _ fp).tr [] xe) tk).2
  · cases e1
/-- a comprehension's parts, in a def's own block -/
theorem comp_coreX {f : Rc} (hf : SndA T N hot ca D G k f) (g : GE X ca N sc hot xa k) (F : Facts X T ca D G k) (tk : Takes X W) (hbk : isBlk X.env.scope = false) {mm : Bool} {elt : PySem.Expr} {tg iter : PySem.Expr} {ifs : List PySem.Expr} {kk : Int} {scope : Scope} {m : E} (h0 : cComp T N hot f mm sc elt [⟨tg, iter, ifs, kk⟩] scope = some m) :
    hot = false ∧ kk = 0 ∧ ∃ (wi : TI) (gg : TG) (tt : L2.St → TT) (te : L2.St → TE) (own : List (Str × Nat)), PI X tg iter wi ∧ BlkOk X.N X.env.scope scope own ∧
      (∀ (s : Shared) (H : Hp) (C : Addr) (cl : List (Str × Addr)) (fp : List Addr) (xe : Value → Shared → Prop), PG (BlkX X s H scope (compEnvC scope cl C X.env) fp xe) tg gg) ∧
      (∀ σ (s : Shared) (H : Hp) (C : Addr) (cl : List (Str × Addr)) (fp : List Addr) (xe : Value → Shared → Prop), Takes (BlkX X s H scope (compEnvC scope cl C X.env) fp xe) (WB W σ) → PTs (BlkX X s H scope (compEnvC scope cl C X.env) fp xe) ifs (tt σ)) ∧
      (∀ σ (s : Shared) (H : Hp) (C : Addr) (cl : List (Str × Addr)) (fp : List Addr) (xe : Value → Shared → Prop), Takes (BlkX X s H scope (compEnvC scope cl C X.env) fp xe) (WB W σ) → PE (BlkX X s H scope (compEnvC scope cl C X.env) fp xe) elt (te σ)) ∧
      (∀ x, foldedSetIterable iter X.env x = pure x) ∧ ∀ σ H Q, tR X.K xa ca (rV X.K xa) W (ev (callF D G k) G m) σ H Q → tLcx wi gg tt te (own.map (·.2)) σ H Q := by
  have hs := g.sc
  subst hs
  have h : (if hot = false ∧ kk = 0 ∧ blkC N X.env.scope scope (ownOf N scope.names) = true ∧ isBlk scope = true then
      (cIfs f (relS scope X.env.scope) ifs).bind fun c => (targ N scope tg).bind fun g => if (slotsT g).all (fun i => decide (i ∈ (ownOf N scope.names).map (·.2))) = false then none else (f false (relS scope X.env.scope) elt).bind fun y => (cWalk T f X.env.scope tg iter).map fun w =>
        E.comp mm (!isBlk X.env.scope) g ((ownOf N scope.names).map (·.2)) w.1 w.2 c y
    else none) = some m := h0
  clear h0
  rw [hbk, Bool.not_false] at h
  split at h
  · rename_i hc
    obtain ⟨hh, rfl, hb0, hb⟩ := hc
    have ok := blkOk_by hb0
    obtain ⟨mc, e1, h⟩ := Option.bind_eq_some_iff.mp h
    obtain ⟨t, e2, h⟩ := Option.bind_eq_some_iff.mp h
    split at h
    · cases h
    · rename_i hsl
      obtain ⟨me, e3, h⟩ := Option.bind_eq_some_iff.mp h
      obtain ⟨w, e4, rfl⟩ := Option.map_eq_some_iff.mp h
      have hsl2 := all_slots hsl
      have cl := g.calm hh
      have pw := walk_sound (tg := tg) (fun e m he => hf X xa W false _ e m he g F tk) g F ⟨t, e2⟩ e4
      have pgt : ∀ (s : Shared) (H : Hp) (C : Addr) (cl' : List (Str × Addr)) (fp : List Addr) (xe : Value → Shared → Prop), PG (BlkX X s H scope (compEnvC scope cl' C X.env) fp xe) tg (TgP X.K xa t) := fun s H C cl' fp xe => targ_sound ((g.blk hh s H scope hb C cl' fp).trE hh [] xe) (tg_blk s H scope C cl' fp) cl e2
      have pel : ∀ σ (s : Shared) (H : Hp) (C : Addr) (cl' : List (Str × Addr)) (fp : List Addr) (xe : Value → Shared → Prop), Takes (BlkX X s H scope (compEnvC scope cl' C X.env) fp xe) (WB W σ) → PE (BlkX X s H scope (compEnvC scope cl' C X.env) fp xe) elt (tR X.K xa ca (rV X.K xa) (WB W σ) (ev (callF D G k) G me)) := fun σ s H C cl' fp xe tk' =>
        (hf _ xa (WB W σ) _ _ _ _ e3 ((g.blk hh s H scope hb C cl' fp).trE hh [] xe) ((F.blk s H scope _ fp).tr [] xe) tk').1
      refine ⟨hh, rfl, _, _, _, _, ownOf N scope.names, pw, by rw [g.nN]; exact ok, pgt, clause_partsX hf g F hh hb e1, pel, walk_fold e4, ?_⟩
      rintro σ H Q ⟨ρ, μ, S, er, sr, q⟩
      refine ⟨ρ, μ, S, er, sr, q.bind _ fun vs S1 xs μ1 H1 x1 sr1 r1 h1 => ?_⟩
      have h1 : Post X.K xa ca (rV X.K xa) μ1 H1 (match walkOf S1 w.1 (asTup vs) with
        | some w' => (Res.outX true (compL w' t (evT (callF D G k) G mc) (fun σ acc T => (ev (callF D G k) G me σ T).bind fun v T2 => addL acc v T2) (wipeE ρ ((ownOf N scope.names).map (·.2))) FU 0 [] S1)).bind fun xs T2 => newL mm xs T2
        | none => .bad) Q _ := h1
      split at h1
      · rename_i w' hw
        generalize hO : List.map (fun x : Str × Nat => x.2) (ownOf N scope.names) = O at h1 hsl2 ⊢
        generalize hcc : (evT (callF D G k) G mc) = cc at h1
        generalize hff : (fun σ acc T => (ev (callF D G k) G me σ T).bind fun v T2 => addL acc v T2) = ff at h1
        refine ⟨asTup vs, μ1, S1, w', sr1, r1, hw, fun J hJ DD hD => ?_⟩
        have er1 := er.mono sr x1
        have hD0 : DD ∉ μ1.rs := sr1.freshR hD
        obtain ⟨l0, y0, s0⟩ := sr1.aside (o := .lst []) hD
        refine ⟨fun i n H' => ∃ acc ws μ' S', Ex μ1 μ' H1 H' ∧ SR X.K xa H' μ' S' ∧ DD ∈ μ'.rs ∧ H' DD = some (.lst ws) ∧ Rels X.K xa H' μ' acc ws ∧ PCO true X.K xa ca μ1 H1 mm Q (fun c d H' => W c d σ H') (compL w' t cc ff (wipeE ρ O) n i acc S'),
          ⟨FU, [], [], _, S1, y0, s0, List.mem_cons_self, upd_same, rfl, h1⟩, ?_⟩
        rintro i n H' ⟨acc, ws, μ', S', x', s', hr, hDD, ra, hp⟩
        cases n with
        | zero => exact hp.elim
        | succ n =>
          have ir := hJ μ' H' S' i (x'.lift sr1) s'
          rcases compL_stepX PCO.bad hp with ⟨ew, hp⟩ | ⟨v, ρ1, b, S3, ew, eb, ec, hp⟩ | ⟨v, ρ1, d, S3, ew, eb, ec, hp⟩
          · rw [ew] at ir
            exact .inl ⟨ir, Post.done hp x' s' hD hD0 hr hDD ra⟩
          · rw [ew] at ir
            obtain ⟨go, yld⟩ := ir
            refine .inr ⟨go, fun H2 => ∃ acc ws μ' S', Ex μ1 μ' H1 H2 ∧ SR X.K xa H2 μ' S' ∧ DD ∈ μ'.rs ∧ H2 DD = some (.lst ws) ∧ Rels X.K xa H2 μ' acc ws ∧ PCO true X.K xa ca μ1 H1 mm Q (fun c d H' => W c d σ H') (compL w' t cc ff (wipeE ρ O) n (i + 1) acc S'),
              fun H2 hN => ⟨n, Nat.lt_succ_self n, hN⟩, fun x H2 hy => ?_⟩
            obtain ⟨x2, s2, r2⟩ := yld x H2 hy
            obtain ⟨hDD2, hr2⟩ := s'.kept x2 hr hDD
            have xx2 := x'.trans x2
            have erw : ER X.K xa H2 μ' (wipeE ρ O) (wipe σ O) := er_wipe (er1.mono sr1 xx2) _
            refine ⟨v, _, μ', S', ρ1, erw, s2, r2, eb, fun σ1 er2 hl hj => ⟨wipe_same hl hj hsl2, ?_⟩⟩
            have ra2 := Rels.mono s' x2 _ _ ra
            refine ⟨ρ1, μ', S', er2, s2, ?_⟩
            show Post X.K xa ca rB μ' H2 (cc ρ1 S') _ _
            rw [ec]
            intro b' μ3 H3 x3 s3 eb'
            have eb' : b = b' := eb'
            subst eb'
            have ra3 := Rels.mono s2 x3 _ _ ra2
            obtain ⟨hDD3, hr3⟩ := s2.kept x3 hr2 hDD2
            cases b with
            | false => exact ⟨acc, ws, μ3, S3, xx2.trans x3, s3, hr3, hDD3, ra3, hp⟩
            | true =>
              rw [if_pos rfl]
              rw [if_pos rfl, ← hff] at hp
              refine ⟨ρ1, μ3, S3, er2.mono s2 x3, s3, ?_⟩
              cases ee : ev (callF D G k) G me ρ1 S3 with
              | exc c S4 =>
                simp only [ee] at hp
                exact fun μ4 H4 x4 s4 => hp μ4 H4 ((xx2.trans x3).trans x4) s4
              | bad => simp only [ee] at hp; exact hp.elim
              | ok y S4 =>
                simp only [ee] at hp
                intro z μ4 H4 x4 s4 rz
                have hp : PCO true X.K xa ca μ1 H1 mm Q (fun c d H' => W c d σ H') ((addL acc y S4).bind fun acc1 T2 => compL w' t cc (fun σ acc T => (ev (callF D G k) G me σ T).bind fun v T2 => addL acc v T2) (wipeE ρ O) n (i + 1) acc1 T2) := hp
                unfold addL at hp
                split at hp
                · rename_i hz
                  have ra4 := Rels.mono s3 x4 _ _ ra3
                  obtain ⟨hDD4, hr4⟩ := s3.kept x4 hr3 hDD3
                  obtain ⟨l5, s5⟩ := s4.fill (o := .lst (ws ++ [z])) hDD4 trivial hr4
                  have x5 := (xx2.trans x3).trans x4
                  refine ⟨ws, hDD4, by rw [← ra4.length, ← SZ_eq]; exact hz, acc ++ [y], ws ++ [z], μ4, S4, ⟨x5.pre, x5.rs, fun b o e nb => ?_, x5.new, x5.newR⟩, s5, hr4, upd_same, (Rels.lift l5 _ _ ra4).append (Rels.one (Rel.lift l5 _ _ rz)), by rw [← hff]; exact hp⟩
                  rw [upd_ne (ne_of_none e hD)]
                  exact x5.fr b o e nb
                · exact hp.elim
          · rw [ew] at ir
            obtain ⟨go, yld⟩ := ir
            refine .inr ⟨go, fun H2 => ∃ acc ws μ' S', Ex μ1 μ' H1 H2 ∧ SR X.K xa H2 μ' S' ∧ DD ∈ μ'.rs ∧ H2 DD = some (.lst ws) ∧ Rels X.K xa H2 μ' acc ws ∧ PCO true X.K xa ca μ1 H1 mm Q (fun c d H' => W c d σ H') (compL w' t cc ff (wipeE ρ O) n (i + 1) acc S'),
              fun H2 hN => ⟨n, Nat.lt_succ_self n, hN⟩, fun x H2 hy => ?_⟩
            obtain ⟨x2, s2, r2⟩ := yld x H2 hy
            obtain ⟨hDD2, hr2⟩ := s'.kept x2 hr hDD
            have xx2 := x'.trans x2
            have erw : ER X.K xa H2 μ' (wipeE ρ O) (wipe σ O) := er_wipe (er1.mono sr1 xx2) _
            refine ⟨v, _, μ', S', ρ1, erw, s2, r2, eb, fun σ1 er2 hl hj => ⟨wipe_same hl hj hsl2, ?_⟩⟩
            have ra2 := Rels.mono s' x2 _ _ ra
            refine ⟨ρ1, μ', S', er2, s2, ?_⟩
            show Post X.K xa ca rB μ' H2 (cc ρ1 S') _ _
            rw [ec]
            exact fun μ3 H3 x3 s3 => hp μ3 H3 (xx2.trans x3) s3
      · exact h1.elim
  · cases h
/-! ### a dict's item is put -/
theorem kPut_put {K : PySem.W.Frag} {μ : Mu} {H : Hp} {ks : List PK} {vs : List PV} {kvs : List (Key × V)} (j : PK) {v : PV} {z : V} (hk : kvs.map (·.1) = ks.map keyV) (hr : Rels K xa H μ vs (kvs.map (·.2))) (rz : Rel K xa H μ v z) :
    (putK kvs (keyV j) z).map (·.1) = (kPut ks vs j v).1.map keyV ∧ Rels K xa H μ (kPut ks vs j v).2 ((putK kvs (keyV j) z).map (·.2)) := by
  have ha : (kvs.any fun kv => decide (kv.1 = keyV j)) = ks.any (fun k => decide (k = j)) := by
    have h1 : (kvs.any fun kv => decide (kv.1 = keyV j)) = (kvs.map (·.1)).any (fun q => decide (q = keyV j)) := by rw [List.any_map]; rfl
    rw [h1, hk, List.any_map]
    congr 1
    funext k
    show decide (keyV k = keyV j) = decide (k = j)
    exact decide_eq_decide.mpr ⟨keyV_inj, fun e => by rw [e]⟩
  unfold putK kPut
  rw [ha]
  cases hb : ks.any (fun k => decide (k = j)) with
  | false =>
    rw [if_neg Bool.false_ne_true, if_neg Bool.false_ne_true]
    refine ⟨by rw [List.map_append, List.map_append, hk] <;> rfl, ?_⟩
    rw [List.map_append]
    exact hr.append (Rels.one rz)
  | true =>
    rw [if_pos rfl, if_pos rfl]
    refine ⟨?_, ?_⟩
    · rw [List.map_map, ← hk]
      refine List.map_congr_left fun kv _ => ?_
      show (if kv.1 = keyV j then (kv.1, z) else kv).1 = kv.1
      split <;> rfl
    · clear ha hb
      induction kvs generalizing ks vs with
      | nil =>
        cases ks with
        | nil => exact rfl
        | cons a b => simp at hk
      | cons kv kvs ih =>
        cases ks with
        | nil => simp at hk
        | cons k ks =>
          rw [List.map_cons, List.map_cons, List.cons.injEq] at hk
          cases vs with
          | nil => have := hr.length; simp at this
          | cons w vs =>
            obtain ⟨u, us, e, r1, r2⟩ := hr
            rw [List.map_cons, List.cons.injEq] at e
            have ih' := ih hk.2 (by rw [e.2]; exact r2)
            by_cases h : k = j
            · subst h
              refine ⟨z, _, ?_, by simpa using rz, ih'⟩
              rw [List.map_cons, List.map_cons, if_pos hk.1]
            · refine ⟨u, _, ?_, by rw [if_neg h]; exact r1, ih'⟩
              rw [List.map_cons, List.map_cons, if_neg (fun z => h (keyV_inj (hk.1.symm.trans z))), e.1]
theorem dcomp_core {f : Rc} (hf : SndA T N hot ca D G k f) (g : GE X ca N sc hot xa k) (F : Facts X T ca D G k) (tk : Takes X W) {mm : Bool} {ek elt : PySem.Expr} {tg iter : PySem.Expr} {ifs : List PySem.Expr} {kk : Int} {scope : Scope} {m : E} (h0 : cDcomp T N hot f mm sc ek elt [⟨tg, iter, ifs, kk⟩] scope = some m) :
    hot = false ∧ kk = 0 ∧ ∃ (wi : TI) (gg : TG) (tt : TT) (te tv : TE) (own : List (Str × Nat)), PI X tg iter wi ∧ BlkOk X.N X.env.scope scope own ∧
      (∀ (s : Shared) (H : Hp) (C : Addr) (cl : List (Str × Addr)) (fp : List Addr), PG (X.blk s H scope (compEnvC scope cl C X.env) fp) tg gg) ∧
      (∀ (s : Shared) (H : Hp) (C : Addr) (cl : List (Str × Addr)) (fp : List Addr), PTs (X.blk s H scope (compEnvC scope cl C X.env) fp) ifs tt) ∧
      (∀ (s : Shared) (H : Hp) (C : Addr) (cl : List (Str × Addr)) (fp : List Addr), PE (X.blk s H scope (compEnvC scope cl C X.env) fp) ek te) ∧
      (∀ (s : Shared) (H : Hp) (C : Addr) (cl : List (Str × Addr)) (fp : List Addr), PE (X.blk s H scope (compEnvC scope cl C X.env) fp) elt tv) ∧
      (∀ x, foldedSetIterable iter X.env x = pure x) ∧ ∀ σ H Q, tR X.K xa ca (rV X.K xa) W (ev (callF D G k) G m) σ H Q → tDc wi gg tt te tv (own.map (·.2)) σ H Q := by
  have hs := g.sc
  subst hs
  have h : (if hot = false ∧ kk = 0 ∧ blkC N X.env.scope scope (ownOf N scope.names) = true ∧ isBlk scope = true then
      (cIfs f (relS scope X.env.scope) ifs).bind fun c => (targ N scope tg).bind fun g => if (slotsT g).all (fun i => decide (i ∈ (ownOf N scope.names).map (·.2))) = false then none else (f false (relS scope X.env.scope) ek).bind fun x => (f false (relS scope X.env.scope) elt).bind fun y => (cWalk T f X.env.scope tg iter).map fun w =>
        E.dcomp mm g ((ownOf N scope.names).map (·.2)) w.1 w.2 c x y
    else none) = some m := h0
  clear h0
  split at h
  · rename_i hc
    obtain ⟨hh, rfl, hb0, hb⟩ := hc
    have ok := blkOk_by hb0
    obtain ⟨mc, e1, h⟩ := Option.bind_eq_some_iff.mp h
    obtain ⟨t, e2, h⟩ := Option.bind_eq_some_iff.mp h
    split at h
    · cases h
    · rename_i hsl
      obtain ⟨mk, e5, h⟩ := Option.bind_eq_some_iff.mp h
      obtain ⟨me, e3, h⟩ := Option.bind_eq_some_iff.mp h
      obtain ⟨w, e4, rfl⟩ := Option.map_eq_some_iff.mp h
      have hsl2 := all_slots hsl
      have cl := g.calm hh
      have pw := walk_sound (tg := tg) (fun e m he => hf X xa W false _ e m he g F tk) g F ⟨t, e2⟩ e4
      have pgt : ∀ (s : Shared) (H : Hp) (C : Addr) (cl' : List (Str × Addr)) (fp : List Addr), PG (X.blk s H scope (compEnvC scope cl' C X.env) fp) tg (TgP X.K xa t) := fun s H C cl' fp => targ_sound (g.blk hh s H scope hb C cl' fp) (tg_blk s H scope C cl' fp) cl e2
      have pek : ∀ (s : Shared) (H : Hp) (C : Addr) (cl' : List (Str × Addr)) (fp : List Addr), PE (X.blk s H scope (compEnvC scope cl' C X.env) fp) ek (tR X.K xa ca (rV X.K xa) WF (ev (callF D G k) G mk)) := fun s H C cl' fp =>
        (hf _ xa WF _ _ _ _ e5 (g.blk hh s H scope hb C cl' fp) (F.blk s H scope _ fp) takes0).1
      have pel : ∀ (s : Shared) (H : Hp) (C : Addr) (cl' : List (Str × Addr)) (fp : List Addr), PE (X.blk s H scope (compEnvC scope cl' C X.env) fp) elt (tR X.K xa ca (rV X.K xa) WF (ev (callF D G k) G me)) := fun s H C cl' fp =>
        (hf _ xa WF _ _ _ _ e3 (g.blk hh s H scope hb C cl' fp) (F.blk s H scope _ fp) takes0).1
      refine ⟨hh, rfl, _, _, _, _, _, ownOf N scope.names, pw, by rw [g.nN]; exact ok, pgt, clause_parts hf g F hh hb e1, pek, pel, walk_fold e4, ?_⟩
      rintro σ H Q ⟨ρ, μ, S, er, sr, q⟩
      refine ⟨ρ, μ, S, er, sr, q.bind _ fun vs S1 xs μ1 H1 x1 sr1 r1 h1 => ?_⟩
      have h1 : Post X.K xa ca (rV X.K xa) μ1 H1 (match walkOf S1 w.1 (asTup vs) with
        | some w' => (compL w' t (evT (callF D G k) G mc) (fun σ (acc : List PK × List PV) T => (ev (callF D G k) G mk σ T).bind fun q T2 => (ev (callF D G k) G me σ T2).bind fun v T3 =>
            match keyOf q with
            | some j => if acc.2.length < SZ then .ok (kPut acc.1 acc.2 j v) T3 else .bad
            | none => .bad) (wipeE ρ ((ownOf N scope.names).map (·.2))) FU 0 ([], []) S1).noX.bind fun xs T2 => newD mm xs.1 xs.2 T2
        | none => .bad) Q _ := h1
      split at h1
      · rename_i w' hw
        generalize hO : List.map (fun x : Str × Nat => x.2) (ownOf N scope.names) = O at h1 hsl2 ⊢
        generalize hcc : (evT (callF D G k) G mc) = cc at h1
        generalize hff : (fun σ (acc : List PK × List PV) T => (ev (callF D G k) G mk σ T).bind fun q T2 => (ev (callF D G k) G me σ T2).bind fun v T3 =>
            match keyOf q with
            | some j => if acc.2.length < SZ then Res.ok (kPut acc.1 acc.2 j v) T3 else .bad
            | none => .bad) = ff at h1
        refine ⟨asTup vs, μ1, S1, w', sr1, r1, hw, fun J hJ DD hD => ?_⟩
        have er1 := er.mono sr x1
        have hD0 : DD ∉ μ1.rs := sr1.freshR hD
        obtain ⟨l0, y0, s0⟩ := sr1.aside (o := .dK []) hD
        refine ⟨fun i n H' => ∃ acc kvs μ' S', Ex μ1 μ' H1 H' ∧ SR X.K xa H' μ' S' ∧ DD ∈ μ'.rs ∧ H' DD = some (.dK kvs) ∧ kvs.map (·.1) = acc.1.map keyV ∧ Rels X.K xa H' μ' acc.2 (kvs.map (·.2)) ∧ PD X.K xa ca μ1 H1 mm Q (fun c d H' => W c d σ H') (compL w' t cc ff (wipeE ρ O) n i acc S'),
          ⟨FU, ([], []), [], _, S1, y0, s0, List.mem_cons_self, upd_same, by rfl, by exact (show Rels X.K xa _ _ [] [] from rfl), h1⟩, ?_⟩
        rintro i n H' ⟨acc, kvs, μ', S', x', s', hr, hDD, hkk, ra, hp⟩
        cases n with
        | zero => exact hp.elim
        | succ n =>
          have ir := hJ μ' H' S' i (x'.lift sr1) s'
          rcases compL_step PD.bad PD.exc hp with ⟨ew, hp⟩ | ⟨v, ρ1, b, S3, ew, eb, ec, hp⟩
          · rw [ew] at ir
            exact .inl ⟨ir, Post.doneD hp x' s' hD hD0 hr hDD hkk ra⟩
          · rw [ew] at ir
            obtain ⟨go, yld⟩ := ir
            refine .inr ⟨go, fun H2 => ∃ acc kvs μ' S', Ex μ1 μ' H1 H2 ∧ SR X.K xa H2 μ' S' ∧ DD ∈ μ'.rs ∧ H2 DD = some (.dK kvs) ∧ kvs.map (·.1) = acc.1.map keyV ∧ Rels X.K xa H2 μ' acc.2 (kvs.map (·.2)) ∧ PD X.K xa ca μ1 H1 mm Q (fun c d H' => W c d σ H') (compL w' t cc ff (wipeE ρ O) n (i + 1) acc S'),
              fun H2 hN => ⟨n, Nat.lt_succ_self n, hN⟩, fun x H2 hy => ?_⟩
            obtain ⟨x2, s2, r2⟩ := yld x H2 hy
            obtain ⟨hDD2, hr2⟩ := s'.kept x2 hr hDD
            have xx2 := x'.trans x2
            have erw : ER X.K xa H2 μ' (wipeE ρ O) (wipe σ O) := er_wipe (er1.mono sr1 xx2) _
            refine ⟨v, _, μ', S', ρ1, erw, s2, r2, eb, fun σ1 er2 hl hj => ⟨wipe_same hl hj hsl2, ?_⟩⟩
            have ra2 := Rels.mono s' x2 _ _ ra
            refine ⟨ρ1, μ', S', er2, s2, ?_⟩
            show Post X.K xa ca rB μ' H2 (cc ρ1 S') _ _
            rw [ec]
            intro b' μ3 H3 x3 s3 eb'
            have eb' : b = b' := eb'
            subst eb'
            have ra3 := Rels.mono s2 x3 _ _ ra2
            obtain ⟨hDD3, hr3⟩ := s2.kept x3 hr2 hDD2
            cases b with
            | false => exact ⟨acc, kvs, μ3, S3, xx2.trans x3, s3, hr3, hDD3, hkk, ra3, hp⟩
            | true =>
              rw [if_pos rfl]
              rw [if_pos rfl, ← hff] at hp
              refine ⟨ρ1, μ3, S3, er2.mono s2 x3, s3, ?_⟩
              cases ek' : ev (callF D G k) G mk ρ1 S3 with
              | exc c S4 => simp only [ek'] at hp; exact hp.elim
              | bad => simp only [ek'] at hp; exact hp.elim
              | ok yk S4 =>
                simp only [ek'] at hp
                intro z0 μ4 H4 x4 s4 rz0
                refine ⟨ρ1, μ4, S4, (er2.mono s2 x3).mono s3 x4, s4, ?_⟩
                have ra4 := Rels.mono s3 x4 _ _ ra3
                obtain ⟨hDD4, hr4⟩ := s3.kept x4 hr3 hDD3
                simp only [Res.bind] at hp
                cases ee : ev (callF D G k) G me ρ1 S4 with
                | exc c S5 => simp only [ee] at hp; exact hp.elim
                | bad => simp only [ee] at hp; exact hp.elim
                | ok y S5 =>
                  simp only [ee] at hp
                  intro z μ5 H5 x5 s5 rz
                  have ra5 := Rels.mono s4 x5 _ _ ra4
                  obtain ⟨hDD5, hr5⟩ := s4.kept x5 hr4 hDD4
                  cases hj' : keyOf yk with
                  | none => simp only [hj'] at hp; exact hp.elim
                  | some j =>
                    simp only [hj'] at hp
                    by_cases hz : acc.2.length < SZ
                    · rw [if_pos hz] at hp
                      obtain ⟨l6, s6⟩ := s5.fill (o := .dK (putK kvs (keyV j) z)) hDD5 trivial hr5
                      obtain ⟨p1, p2⟩ := kPut_put j hkk ra5 rz
                      have x6 := ((xx2.trans x3).trans x4).trans x5
                      refine ⟨kvs, keyV j, keyOf_kV rz0 hj', hDD5, ?_, kPut acc.1 acc.2 j y, _, μ5, S5, ⟨x6.pre, x6.rs, fun b o e nb => ?_, x6.new, x6.newR⟩, s6, hr5, upd_same, p1, Rels.lift l6 _ _ p2, ?_⟩
                      · have := ra5.length
                        rw [List.length_map] at this
                        rw [← this, ← SZ_eq]; exact hz
                      · rw [upd_ne (ne_of_none e hD)]
                        exact x6.fr b o e nb
                      · rw [← hff]; exact hp
                    · rw [if_neg hz] at hp; exact hp.elim
      · exact h1.elim
  · cases h
theorem comp2_core {f : Rc} (hf : SndA T N hot ca D G k f) (g : GE X ca N sc hot xa k) (F : Facts X T ca D G k) (tk : Takes X W) {mm : Bool} {elt : PySem.Expr} {tg iter tg2 iter2 : PySem.Expr} {ifs ifs2 : List PySem.Expr} {kk kk2 : Int} {scope : Scope} {m : E} (h0 : cComp T N hot f mm sc elt [⟨tg, iter, ifs, kk⟩, ⟨tg2, iter2, ifs2, kk2⟩] scope = some m) :
    hot = false ∧ kk = 0 ∧ kk2 = 0 ∧ ∃ (wi wi2 : TI) (gg gg2 : TG) (tt tt2 : TT) (te : TE) (own : List (Str × Nat)) (vs1 : List Nat), PI X tg iter wi ∧ BlkOk X.N X.env.scope scope own ∧ (∀ i ∈ vs1, i ∈ own.map (·.2)) ∧
      (∀ (s : Shared) (H : Hp) (C : Addr) (cl : List (Str × Addr)) (fp : List Addr), PG (X.blk s H scope (compEnvC scope cl C X.env) fp) tg gg) ∧
      (∀ (s : Shared) (H : Hp) (C : Addr) (cl : List (Str × Addr)) (fp : List Addr), PTs (X.blk s H scope (compEnvC scope cl C X.env) fp) ifs tt) ∧
      (∀ (s : Shared) (H : Hp) (C : Addr) (cl : List (Str × Addr)) (fp : List Addr), PI (X.blk s H scope (compEnvC scope cl C X.env) fp) tg2 iter2 wi2) ∧
      (∀ (s : Shared) (H : Hp) (C : Addr) (cl : List (Str × Addr)) (fp : List Addr), PG (X.blk s H scope (compEnvC scope cl C X.env) fp) tg2 gg2) ∧
      (∀ (s : Shared) (H : Hp) (C : Addr) (cl : List (Str × Addr)) (fp : List Addr), PTs (X.blk s H scope (compEnvC scope cl C X.env) fp) ifs2 tt2) ∧
      (∀ (s : Shared) (H : Hp) (C : Addr) (cl : List (Str × Addr)) (fp : List Addr), PE (X.blk s H scope (compEnvC scope cl C X.env) fp) elt te) ∧
      (∀ x, foldedSetIterable iter X.env x = pure x) ∧ (∀ env x, foldedSetIterable iter2 env x = pure x) ∧ ∀ σ H Q, tR X.K xa ca (rV X.K xa) W (ev (callF D G k) G m) σ H Q → tLc2 wi gg tt wi2 gg2 tt2 te (own.map (·.2)) vs1 σ H Q := by
  have hs := g.sc
  subst hs
  have h : (if hot = false ∧ kk = 0 ∧ kk2 = 0 ∧ blkC N X.env.scope scope (ownOf N scope.names) = true ∧ isBlk scope = true then
      (cIfs f (relS scope X.env.scope) ifs).bind fun c => (targ N scope tg).bind fun g => (targ N scope tg2).bind fun g2 => if (slotsT g ++ slotsT g2).all (fun i => decide (i ∈ (ownOf N scope.names).map (·.2))) = false then none else (f false (relS scope X.env.scope) elt).bind fun y => (cWalk T f X.env.scope tg iter).bind fun w =>
        (cIfs f (relS scope X.env.scope) ifs2).bind fun c2 => (cWalk T f (relS scope X.env.scope) tg2 iter2).map fun w2 =>
        E.comp2 mm g ((ownOf N scope.names).map (·.2)) w.1 w.2 c g2 w2.1 w2.2 c2 y
    else none) = some m := h0
  clear h0
  split at h
  · rename_i hc
    obtain ⟨hh, rfl, rfl, hb0, hb⟩ := hc
    have ok := blkOk_by hb0
    obtain ⟨mc, e1, h⟩ := Option.bind_eq_some_iff.mp h
    obtain ⟨t, e2, h⟩ := Option.bind_eq_some_iff.mp h
    obtain ⟨t2, e6, h⟩ := Option.bind_eq_some_iff.mp h
    split at h
    · cases h
    · rename_i hsl
      obtain ⟨me, e3, h⟩ := Option.bind_eq_some_iff.mp h
      obtain ⟨w, e4, h⟩ := Option.bind_eq_some_iff.mp h
      obtain ⟨mc2, e7, h⟩ := Option.bind_eq_some_iff.mp h
      obtain ⟨w2, e8, rfl⟩ := Option.map_eq_some_iff.mp h
      have hslA := all_slots hsl
      have hsl2 : ∀ j ∈ slotsT t, j ∈ (ownOf N scope.names).map (·.2) := fun j hj => hslA j (List.mem_append_left _ hj)
      have hsl3 : ∀ j ∈ slotsT t2, j ∈ (ownOf N scope.names).map (·.2) := fun j hj => hslA j (List.mem_append_right _ hj)
      have cl := g.calm hh
      have pw := walk_sound (tg := tg) (fun e m he => hf X xa W false _ e m he g F tk) g F ⟨t, e2⟩ e4
      have pw2 : ∀ (s : Shared) (H : Hp) (C : Addr) (cl' : List (Str × Addr)) (fp : List Addr), PI (X.blk s H scope (compEnvC scope cl' C X.env) fp) tg2 iter2 (tWk X.K xa ca WF (callF D G k) G w2.1 w2.2) := fun s H C cl' fp =>
        walk_sound (tg := tg2) (sc := relS scope X.env.scope) (fun e m he => hf _ xa WF false _ e m he (g.blk hh s H scope hb C cl' fp) (F.blk s H scope _ fp) takes0) (g.blk hh s H scope hb C cl' fp) (F.blk s H scope _ fp) ⟨t2, e6⟩ e8
      have pgt : ∀ (s : Shared) (H : Hp) (C : Addr) (cl' : List (Str × Addr)) (fp : List Addr), PG (X.blk s H scope (compEnvC scope cl' C X.env) fp) tg (TgP X.K xa t) := fun s H C cl' fp => targ_sound (g.blk hh s H scope hb C cl' fp) (tg_blk s H scope C cl' fp) cl e2
      have pgt2 : ∀ (s : Shared) (H : Hp) (C : Addr) (cl' : List (Str × Addr)) (fp : List Addr), PG (X.blk s H scope (compEnvC scope cl' C X.env) fp) tg2 (TgP X.K xa t2) := fun s H C cl' fp => targ_sound (g.blk hh s H scope hb C cl' fp) (tg_blk s H scope C cl' fp) cl e6
      have pel : ∀ (s : Shared) (H : Hp) (C : Addr) (cl' : List (Str × Addr)) (fp : List Addr), PE (X.blk s H scope (compEnvC scope cl' C X.env) fp) elt (tR X.K xa ca (rV X.K xa) WF (ev (callF D G k) G me)) := fun s H C cl' fp =>
        (hf _ xa WF _ _ _ _ e3 (g.blk hh s H scope hb C cl' fp) (F.blk s H scope _ fp) takes0).1
      refine ⟨hh, rfl, rfl, _, _, _, _, _, _, _, ownOf N scope.names, slotsT t2, pw, by rw [g.nN]; exact ok, hsl3, pgt, clause_parts hf g F hh hb e1, pw2, pgt2, clause_parts hf g F hh hb e7, pel, walk_fold e4, fun env => walk_fold e8, ?_⟩
      rintro σ H Q ⟨ρ, μ, S, er, sr, q⟩
      refine ⟨ρ, μ, S, er, sr, q.bind _ fun vs S1 xs μ1 H1 x1 sr1 r1 h1 => ?_⟩
      have h1 : Post X.K xa ca (rV X.K xa) μ1 H1 (match walkOf S1 w.1 (asTup vs) with
        | some w' => (compL w' t (evT (callF D G k) G mc) (fun σ acc T => (ev (callF D G k) G w2.2 σ T).bind fun vs T1 => match walkOf T1 w2.1 (asTup vs) with
          | some w2' => compL w2' t2 (evT (callF D G k) G mc2) (fun σ acc T => (ev (callF D G k) G me σ T).bind fun v T2 => addL acc v T2) (wipeE σ (slotsT t2)) FU 0 acc T1
          | none => .bad) (wipeE ρ ((ownOf N scope.names).map (·.2))) FU 0 [] S1).noX.bind fun xs T2 => newL mm xs T2
        | none => .bad) Q _ := h1
      split at h1
      · rename_i w' hw
        generalize hO : List.map (fun x : Str × Nat => x.2) (ownOf N scope.names) = O at h1 hsl2 ⊢
        generalize hcc : (evT (callF D G k) G mc) = cc at h1
        generalize hcc2 : (evT (callF D G k) G mc2) = cc2 at h1
        generalize hff2 : (fun σ acc T => (ev (callF D G k) G me σ T).bind fun v T2 => addL acc v T2) = ff2 at h1
        generalize hff : (fun σ acc T => (ev (callF D G k) G w2.2 σ T).bind fun vs T1 => match walkOf T1 w2.1 (asTup vs) with
          | some w2' => compL w2' t2 cc2 ff2 (wipeE σ (slotsT t2)) FU 0 acc T1
          | none => .bad) = ff at h1
        refine ⟨asTup vs, μ1, S1, w', sr1, r1, hw, fun J hJ DD hD => ?_⟩
        have er1 := er.mono sr x1
        have hD0 : DD ∉ μ1.rs := sr1.freshR hD
        obtain ⟨l0, y0, s0⟩ := sr1.aside (o := .lst []) hD
        refine ⟨fun i n H' => ∃ acc ws μ' S', Ex μ1 μ' H1 H' ∧ SR X.K xa H' μ' S' ∧ DD ∈ μ'.rs ∧ H' DD = some (.lst ws) ∧ Rels X.K xa H' μ' acc ws ∧ PC X.K xa ca μ1 H1 mm Q (fun c d H' => W c d σ H') (compL w' t cc ff (wipeE ρ O) n i acc S'),
          ⟨FU, [], [], _, S1, y0, s0, List.mem_cons_self, upd_same, rfl, h1⟩, ?_⟩
        rintro i n H' ⟨acc, ws, μ', S', x', s', hr, hDD, ra, hp⟩
        cases n with
        | zero => exact hp.elim
        | succ n =>
          have ir := hJ μ' H' S' i (x'.lift sr1) s'
          rcases compL_step PC.bad PC.exc hp with ⟨ew, hp⟩ | ⟨v, ρ1, b, S3, ew, eb, ec, hp⟩
          · rw [ew] at ir
            exact .inl ⟨ir, Post.done hp x' s' hD hD0 hr hDD ra⟩
          · rw [ew] at ir
            obtain ⟨go, yld⟩ := ir
            refine .inr ⟨go, fun H2 => ∃ acc ws μ' S', Ex μ1 μ' H1 H2 ∧ SR X.K xa H2 μ' S' ∧ DD ∈ μ'.rs ∧ H2 DD = some (.lst ws) ∧ Rels X.K xa H2 μ' acc ws ∧ PC X.K xa ca μ1 H1 mm Q (fun c d H' => W c d σ H') (compL w' t cc ff (wipeE ρ O) n (i + 1) acc S'),
              fun H2 hN => ⟨n, Nat.lt_succ_self n, hN⟩, fun x H2 hy => ?_⟩
            obtain ⟨x2, s2, r2⟩ := yld x H2 hy
            obtain ⟨hDD2, hr2⟩ := s'.kept x2 hr hDD
            have xx2 := x'.trans x2
            have erw : ER X.K xa H2 μ' (wipeE ρ O) (wipe σ O) := er_wipe (er1.mono sr1 xx2) _
            refine ⟨v, _, μ', S', ρ1, erw, s2, r2, eb, fun σ1 er2 hl hj => ⟨wipe_same hl hj hsl2, ?_⟩⟩
            have ra2 := Rels.mono s' x2 _ _ ra
            refine ⟨ρ1, μ', S', er2, s2, ?_⟩
            show Post X.K xa ca rB μ' H2 (cc ρ1 S') _ _
            rw [ec]
            intro b' μ3 H3 x3 s3 eb'
            have eb' : b = b' := eb'
            subst eb'
            have ra3 := Rels.mono s2 x3 _ _ ra2
            obtain ⟨hDD3, hr3⟩ := s2.kept x3 hr2 hDD2
            cases b with
            | false => exact ⟨acc, ws, μ3, S3, xx2.trans x3, s3, hr3, hDD3, ra3, hp⟩
            | true =>
              rw [if_pos rfl]
              rw [if_pos rfl, ← hff] at hp
              have er3 := er2.mono s2 x3
              refine ⟨ρ1, μ3, S3, er3, s3, ?_⟩
              cases ei : ev (callF D G k) G w2.2 ρ1 S3 with
              | exc c S4 => simp only [ei] at hp; exact hp.elim
              | bad => simp only [ei] at hp; exact hp.elim
              | ok vs2 S4 =>
                simp only [ei, Res.bind] at hp
                intro xs2 μ4 H4 x4 s4 rs2
                have ra4 := Rels.mono s3 x4 _ _ ra3
                obtain ⟨hDD4, hr4⟩ := s3.kept x4 hr3 hDD3
                have xx4 := (xx2.trans x3).trans x4
                have er4 := er3.mono s3 x4
                cases hw2 : walkOf S4 w2.1 (asTup vs2) with
                | none => simp only [hw2] at hp; exact hp.elim
                | some w2' =>
                  simp only [hw2] at hp
                  refine ⟨asTup vs2, μ4, S4, w2', s4, rs2, hw2, fun J1 hJ1 => ?_⟩
                  have hp : PC X.K xa ca μ1 H1 mm Q (fun c d H' => W c d σ H') ((compL w2' t2 cc2 ff2 (wipeE ρ1 (slotsT t2)) FU 0 acc S4).bind fun acc1 T2 => compL w' t cc ff (wipeE ρ O) n (i + 1) acc1 T2) := by rw [← hff]; exact hp
                  generalize hP : (fun r : Res (List PV) => PC X.K xa ca μ1 H1 mm Q (fun c d H' => W c d σ H') (r.bind fun acc1 T2 => compL w' t cc ff (wipeE ρ O) n (i + 1) acc1 T2)) = P
                  have hPb : ¬ P .bad := by rw [← hP]; exact PC.bad
                  have hPe : ∀ c S, ¬ P (.exc c S) := by rw [← hP]; exact PC.exc
                  have hp : P (compL w2' t2 cc2 ff2 (wipeE ρ1 (slotsT t2)) FU 0 acc S4) := by rw [← hP]; exact hp
                  refine ⟨fun j kk H' => ∃ acc ws μ' S', Ex μ1 μ' H1 H' ∧ Lift X.K H4 H' μ4 μ' ∧ SR X.K xa H' μ' S' ∧ DD ∈ μ'.rs ∧ H' DD = some (.lst ws) ∧ Rels X.K xa H' μ' acc ws ∧ P (compL w2' t2 cc2 ff2 (wipeE ρ1 (slotsT t2)) kk j acc S'), ⟨FU, acc, ws, μ4, S4, xx4, Lift.refl, s4, hr4, hDD4, ra4, hp⟩, ?_⟩
                  rintro j kk H5 ⟨acc5, ws5, μ5, S5, x5, y5, s5, hr5, hDD5, ra5, hp5⟩
                  cases kk with
                  | zero => exact (hPb hp5).elim
                  | succ kk =>
                    have ir1 := hJ1 μ5 H5 S5 j y5 s5
                    rcases compL_step hPb hPe hp5 with ⟨ew1, hp6⟩ | ⟨v1, ρ2, b1, S6, ew1, eb1, ec1, hp6⟩
                    · rw [ew1] at ir1
                      refine .inl ⟨ir1, acc5, ws5, μ5, S5, x5, s5, hr5, hDD5, ra5, ?_⟩
                      rw [← hP] at hp6
                      exact hp6
                    · rw [ew1] at ir1
                      obtain ⟨go1, yld1⟩ := ir1
                      refine .inr ⟨go1, fun H' => ∃ acc ws μ' S', Ex μ1 μ' H1 H' ∧ Lift X.K H4 H' μ4 μ' ∧ SR X.K xa H' μ' S' ∧ DD ∈ μ'.rs ∧ H' DD = some (.lst ws) ∧ Rels X.K xa H' μ' acc ws ∧ P (compL w2' t2 cc2 ff2 (wipeE ρ1 (slotsT t2)) kk (j + 1) acc S'),
                        fun H' hN => ⟨kk, Nat.lt_succ_self kk, hN⟩, fun xx H6 hy1 => ?_⟩
                      obtain ⟨x6, s6, r6⟩ := yld1 xx H6 hy1
                      obtain ⟨hDD6, hr6⟩ := s5.kept x6 hr5 hDD5
                      have ra6 := Rels.mono s5 x6 _ _ ra5
                      have er6 : ER X.K xa H6 μ5 (wipeE ρ1 (slotsT t2)) (wipe σ1 (slotsT t2)) := er_wipe (er4.lift (y5.trans (x6.lift s5))) _
                      refine ⟨v1, _, μ5, S5, ρ2, er6, s6, r6, eb1, fun σ2 er7 hl1 hj1 => ⟨wipe_same hl1 hj1 (fun j hj => hj), ?_⟩⟩
                      refine ⟨ρ2, μ5, S5, er7, s6, ?_⟩
                      show Post X.K xa ca rB μ5 H6 (cc2 ρ2 S5) _ _
                      rw [ec1]
                      intro b'' μ7 H7 x7 s7 eb''
                      have eb'' : b1 = b'' := eb''
                      subst eb''
                      have ra7 := Rels.mono s6 x7 _ _ ra6
                      obtain ⟨hDD7, hr7⟩ := s6.kept x7 hr6 hDD6
                      have xx7 := (x5.trans x6).trans x7
                      have yy7 := (y5.trans (x6.lift s5)).trans (x7.lift s6)
                      cases b1 with
                      | false => exact ⟨acc5, ws5, μ7, S6, xx7, yy7, s7, hr7, hDD7, ra7, hp6⟩
                      | true =>
                        rw [if_pos rfl]
                        rw [if_pos rfl, ← hff2] at hp6
                        refine ⟨ρ2, μ7, S6, er7.mono s6 x7, s7, ?_⟩
                        cases ee : ev (callF D G k) G me ρ2 S6 with
                        | exc c S8 => simp only [ee] at hp6; exact (hPe _ _ hp6).elim
                        | bad => simp only [ee] at hp6; exact (hPb hp6).elim
                        | ok y S8 =>
                          simp only [ee, Res.bind] at hp6
                          intro z μ8 H8 x8 s8 rz
                          unfold addL at hp6
                          by_cases hz : acc5.length < SZ
                          · rw [if_pos hz] at hp6
                            have ra8 := Rels.mono s7 x8 _ _ ra7
                            obtain ⟨hDD8, hr8⟩ := s7.kept x8 hr7 hDD7
                            obtain ⟨l9, s9⟩ := s8.fill (o := .lst (ws5 ++ [z])) hDD8 trivial hr8
                            have x9 := xx7.trans x8
                            refine ⟨ws5, hDD8, by rw [← ra8.length, ← SZ_eq]; exact hz, acc5 ++ [y], ws5 ++ [z], μ8, S8, ⟨x9.pre, x9.rs, fun b o e nb => ?_, x9.new, x9.newR⟩, (yy7.trans (x8.lift s7)).trans l9, s9, hr8, upd_same, (Rels.lift l9 _ _ ra8).append (Rels.one (Rel.lift l9 _ _ rz)), by rw [← hff2]; exact hp6⟩
                            rw [upd_ne (ne_of_none e hD)]
                            exact x9.fr b o e nb
                          · rw [if_neg hz] at hp6; exact (hPb hp6).elim
      · exact h1.elim
  · cases h
theorem s_comp {f : Rc} (hf : SndA T N hot ca D G k f) (g : GE X ca N sc hot xa k) (F : Facts X T ca D G k) (tk : Takes X W) {mm : Bool} {elt : PySem.Expr} {gs : List Comprehension} {scope : Scope} {pos : Pos} {m : E} (h : cComp T N hot f mm sc elt gs scope = some m) : PEm X xa ca D G k W (.ListComp elt gs scope pos) m := by
  match gs, h with
  | [], h => cases h
  | [⟨tg, iter, ifs, kk⟩], h =>
    have hsc := g.sc
    subst hsc
    cases hbk : isBlk X.env.scope with
    | true =>
      obtain ⟨hh, rfl, wi, gg, tt, te, own, pw, ok, pgt, pif, pel, fo, imp⟩ := comp_core hf g F tk hbk h
      exact pem_plain (pe_of (pe_lc (g.calm hh) (by rw [g.nN]; exact g.nd) pw ok pgt pif pel fo) imp) (fun _ => rfl)
    | false =>
      obtain ⟨hh, rfl, wi, gg, tt, te, own, pw, ok, pgt, pif, pel, fo, imp⟩ := comp_coreX hf g F tk hbk h
      obtain ⟨stk, frm⟩ := g.top hbk hh
      exact pem_plain (pe_of (pe_lcx (g.calm hh) (by rw [g.nN]; exact g.nd) stk frm tk pw ok pgt pif pel fo) imp) (fun _ => rfl)
  | [⟨tg, iter, ifs, kk⟩, ⟨tg2, iter2, ifs2, kk2⟩], h =>
    obtain ⟨hh, rfl, rfl, wi, wi2, gg, gg2, tt, tt2, te, own, vs1, pw, ok, hv, pgt, pif, pw2, pgt2, pif2, pel, fo, fo2, imp⟩ := comp2_core hf g F tk h
    exact pem_plain (pe_of (pe_lc2 (g.calm hh) (by rw [g.nN]; exact g.nd) pw ok hv pgt pif pw2 pgt2 pif2 pel fo fo2) imp) (fun _ => rfl)
  | _ :: _ :: _ :: _, h => simp [cComp] at h
theorem s_dcomp {f : Rc} (hf : SndA T N hot ca D G k f) (g : GE X ca N sc hot xa k) (F : Facts X T ca D G k) (tk : Takes X W) {mm : Bool} {ek elt : PySem.Expr} {gs : List Comprehension} {scope : Scope} {pos : Pos} {m : E} (h : cDcomp T N hot f mm sc ek elt gs scope = some m) : PEm X xa ca D G k W (.DictComp ek elt gs scope pos) m := by
  match gs, h with
  | [], h => cases h
  | [⟨tg, iter, ifs, kk⟩], h =>
    obtain ⟨hh, rfl, wi, gg, tt, te, tv, own, pw, ok, pgt, pif, pek, pel, fo, imp⟩ := dcomp_core hf g F tk h
    exact pem_plain (pe_of (pe_dc (g.calm hh) (by rw [g.nN]; exact g.nd) pw ok pgt pif pek pel fo) imp) (fun _ => rfl)
  | _ :: _ :: _, h => simp [cDcomp] at h
end
end MP

set_option Elab.async false
set_option linter.all false
set_option maxRecDepth 100000
set_option maxHeartbeats 2000000
/-! M4f: len(set(..)); .get of the module's dicts. -/
namespace MP
open PySem PySem.Spec PyProof.Rows L2
theorem dedupI_mem : ∀ (l : List Int) (k : Int), k ∈ dedupI l ↔ k ∈ l
  | [], _ => Iff.rfl
  | x :: r, k => by
    unfold dedupI
    have ih := dedupI_mem r k
    split
    · rename_i hx
      rw [ih, List.mem_cons]
      exact ⟨.inr, fun h => h.elim (fun e => e ▸ hx) id⟩
    · rw [List.mem_cons, List.mem_cons, ih]
theorem dedupI_nodup : ∀ l : List Int, (dedupI l).Nodup
  | [] => List.nodup_nil
  | x :: r => by
    unfold dedupI
    split
    · exact dedupI_nodup r
    · rename_i hx
      exact List.nodup_cons.mpr ⟨fun h => hx ((dedupI_mem r x).mp h), dedupI_nodup r⟩
section
variable {X : Cx} {T : Tab} {N : List Str} {hot : Bool} {ca : Nat → Addr} {D : Nat → Option FD} {G : Nat → Option PV} {k : Nat} {xa : Option (Addr × Nat)} {W : WX} {sc : Scope}
def tLenT (K : PySem.W.Frag) (ta : TE) : TE := fun σ H Q => ta σ H fun x H1 => ∃ (l : Addr) (ns : List Int), x = V.ref l ∧ SqT K H1 l (ns.map V.int) ∧ ns.length < 64 ∧ Q (.int (dedupI ns).length) H1
theorem pe_lenT {a : PySem.Expr} {ta : TE} {p p2 q pos : Pos} (hc : X.calm = true) (hg : Gl X "len") (hm : X.mg "len" = none) (hg2 : Gl X "set") (hm2 : X.mg "set" = none) (ha : PE X a ta) (na : starEach [a] X.env = (false, eval a X.env) :: starEach [] X.env) :
    PE X (.Call (.Name "len" p) [.Call (.Name "set" p2) [a] [] q] [] pos) (tLenT X.K ta) := by
  constructor
  intro pins s σ H Q I h
  refine Call_ (ld_blt I hg hm PySem.boot_len (PyProof.Rows.callWith_builtin1 (PyProof.Rows.args_cons ?_ rfl) rfl rfl))
  refine Call_ (ld_blt I hg2 hm2 PyProof.Rows.boot_set (PyProof.Rows.callWith_type1 (PyProof.Rows.args_cons (thn (ha.run pins s σ H _ I h) fun v s1 ⟨x, H1, I1, r1, l, ns, ex, hq, hl, q1⟩ => PyProof.Rows.args_nil ?_) na) na rfl))
  subst ex
  cases r1
  obtain ⟨its, rv, pt, hz⟩ := I1.tuple hq
  refine call_set_tupI ns (I1.ok.hd hc) (show s1.heap.IsTuple l its.toArray from pt) (by simpa using rv.ints) (by unfold scanBound; omega) fun h' tk c R hcn kp => PyProof.Rows.args_nil ?_
  obtain ⟨o, es, ep, t, ho, hex, hd, _, nd, mem, _, hf, hn, _⟩ := R
  have I2 : Inv X pins σ H1 { s1 with heap := h', toks := tk } := I1.kept kp
  have len : es.size = (dedupI ns).length := by
    have pm : List.Perm (es.toList.map L2.keyOf) (dedupI ns) := (List.perm_ext_iff_of_nodup nd (dedupI_nodup ns)).mpr fun j => by
      rw [dedupI_mem, ← mem j]
      exact decide_eq_true_iff
    have := pm.length_eq
    rw [List.length_map, Array.length_toList] at this
    exact this
  refine call_len_set ho hex hd hf (by omega) ⟨.int (dedupI ns).length, H1, I2.tok _, ⟨_, by rw [len]⟩, q1⟩
theorem s_lenset {a : PySem.Expr} {ma : E} {p p2 q pos : Pos} (hc : X.calm = true) (hg : Gl X "len") (hm : X.mg "len" = none) (hg2 : Gl X "set") (hm2 : X.mg "set" = none) (hst : isStar a = false) (ha : PEm X xa ca D G k W a ma) :
    PEm X xa ca D G k W (.Call (.Name "len" p) [.Call (.Name "set" p2) [a] [] q] [] pos) (.lenset ma) := by
  refine pem_plain (pe_of (pe_lenT hc hg hm hg2 hm2 ha.1 (star_cons hst)) ?_) (fun _ => rfl)
  rintro σ H Q ⟨ρ, μ, S, er, sr, q⟩
  refine ⟨ρ, μ, S, er, sr, q.bind _ fun v S1 x μ1 H1 x1 sr1 r1 h1 => ?_⟩
  cases v with
  | tup xs =>
    obtain ⟨l, vs, rfl, hq, rr⟩ := r1
    have h1 : Post X.K xa ca (rV X.K xa) μ1 H1 (match intsOf xs with
      | some ns => if ns.length < 64 then .ok (.int (dedupI ns).length) S1 else .bad
      | none => .bad) Q _ := h1
    cases e : intsOf xs with
    | none => rw [e] at h1; exact h1.elim
    | some ns =>
      rw [e] at h1
      have h1 : Post X.K xa ca (rV X.K xa) μ1 H1 (if ns.length < 64 then .ok (.int (dedupI ns).length) S1 else .bad) Q _ := h1
      split at h1
      · rename_i hl
        have ev := rels_ints rr e
        subst ev
        exact ⟨l, ns, rfl, hq, hl, h1.here sr1 rfl⟩
      · exact h1.elim
  | _ => exact h1.elim
/-! ### list(range(..)) -/
theorem rels_map {K : PySem.W.Frag} {H : Hp} {μ : Mu} {ι : Type} {f : ι → PV} {g : ι → V} (h : ∀ i, Rel K xa H μ (f i) (g i)) : ∀ l : List ι, Rels K xa H μ (l.map f) (l.map g)
  | [] => rfl
  | i :: l => ⟨g i, l.map g, rfl, h i, rels_map h l⟩
theorem rgB_ok {a b : Int} (h : rgB a b = true) : RgOk a b := by
  unfold rgB at h
  simp only [Bool.and_eq_true, decide_eq_true_eq] at h
  obtain ⟨⟨⟨⟨h1, h2⟩, h3⟩, h4⟩, h5⟩ := h
  exact ⟨by omega, by omega, by omega, by omega, by omega⟩
theorem rg_post {mm tu : Bool} {x y : PV} {μ : Mu} {H : Hp} {S : Store} {Q : V → Hp → Prop} {W : Value → Option Addr → Hp → Prop} (sr : SR X.K xa H μ S) (h : Post X.K xa ca (rV X.K xa) μ H (rgOp mm tu x y S) Q W) :
    ∃ a b, x = .int a ∧ y = .int b ∧ RgOk a b ∧ ∀ q, H q = none → Q (.ref q) (upd H q (if tu then .tup (rgV a b) else .lst (rgV a b))) := by
  cases x with
  | int a =>
    cases y with
    | int b =>
      have h : Post X.K xa ca (rV X.K xa) μ H (if rgB a b then (if tu then .ok (.tup (rgL a b)) S else newL mm (rgL a b) S) else .bad) Q W := h
      split at h
      · rename_i hb
        have rr : Rels X.K xa H μ (rgL a b) (rgV a b) := rels_map (f := fun i : Nat => PV.int (a + (i : Nat))) (g := fun i : Nat => V.int (a + (i : Nat))) (fun _ => rfl) _
        refine ⟨a, b, rfl, rfl, rgB_ok hb, ?_⟩
        cases tu with
        | true => exact Post.tup h sr rr
        | false => exact Post.newL h sr rr
      · exact h.elim
    | _ => exact h.elim
  | _ => exact h.elim
theorem s_rng {f : PySem.Expr → Option E} (hf : Snd X xa ca D G k W f) {x : Str} {as : List PySem.Expr} {m0 a b : E} {mm : Bool} {p p2 q pos : Pos} (hc : X.calm = true) (hx : x = "list" ∨ x = "tuple") (hg : Gl X x) (hm : X.mg x = none) (hg2 : Gl X "range") (hm2 : X.mg "range" = none) (ha : args f as = some m0)
    (hs : m0 = .cons b .nil ∧ a = .lit (.int 0) ∨ m0 = .cons a (.cons b .nil)) : PEm X xa ca D G k W (.Call (.Name x p) [.Call (.Name "range" p2) as [] q] [] pos) (.lrng mm (decide (x = "tuple")) a b) := by
  have key : ∃ t, PRg X (.Call (.Name "range" p2) as [] q) t ∧ ∀ σ H (Q : V → Hp → Prop), tR X.K xa ca (rV X.K xa) W (ev (callF D G k) G (.lrng mm (decide (x = "tuple")) a b)) σ H Q →
      t σ H fun a b H1 => RgOk a b ∧ ∀ q, H1 q = none → Q (.ref q) (upd H1 q (if decide (x = "tuple") then .tup (rgV a b) else .lst (rgV a b))) := by
    generalize decide (x = "tuple") = tu
    cases as with
    | nil => cases ha; rcases hs with ⟨h, _⟩ | h <;> cases h
    | cons e es =>
      obtain ⟨a1, b1, h1, h2, h3, rfl⟩ := args_cons ha
      cases es with
      | nil =>
        cases h3
        rcases hs with ⟨h, rfl⟩ | h
        · cases h
          refine ⟨_, prg_1 hg2 hm2 (hf _ _ h2).1 (star_cons h1), ?_⟩
          rintro σ H Q ⟨ρ, μ, S, er, sr, q⟩
          have q : Post X.K xa ca (rV X.K xa) μ H ((ev (callF D G k) G b ρ S).bind fun y T2 => rgOp mm tu (.int 0) y T2) Q _ := q
          refine ⟨ρ, μ, S, er, sr, q.bind _ fun v S1 x μ1 H1 x1 sr1 r1 h1 => ?_⟩
          obtain ⟨i, j, e1, rfl, ok, z⟩ := rg_post sr1 h1
          cases e1
          cases r1
          exact ⟨j, rfl, ok, z⟩
        · cases h
      | cons e2 es =>
        obtain ⟨a2, b2, h5, h6, h7, rfl⟩ := args_cons h3
        rcases hs with ⟨h, _⟩ | h
        · cases h
        · cases h
          cases es with
          | cons e3 es => obtain ⟨_, _, _, _, _, z⟩ := args_cons h7; cases z
          | nil =>
            refine ⟨_, prg_2 hg2 hm2 (hf _ _ h2).1 (hf _ _ h6).1 (star_cons h1) (star_cons h5) (args_plain h3), ?_⟩
            rintro σ H Q ⟨ρ, μ, S, er, sr, q⟩
            refine ⟨ρ, μ, S, er, sr, q.bind _ fun v S1 x μ1 H1 x1 sr1 r1 h1 => ?_⟩
            refine ⟨ρ, μ1, S1, er.mono sr x1, sr1, h1.bind _ fun w S2 y μ2 H2 x2 sr2 r2 h2 => ?_⟩
            obtain ⟨i, j, rfl, rfl, ok, z⟩ := rg_post sr2 h2
            cases r1
            cases r2
            exact ⟨i, j, rfl, rfl, ok, z⟩
  obtain ⟨t, pr, imp⟩ := key
  rcases hx with rfl | rfl
  · refine pem_plain (pe_of (pe_listRg hc hg hm pr rfl) ?_) (fun _ => rfl)
    intro σ H Q h
    exact imp σ H Q h
  · refine pem_plain (pe_of (pe_tupRg hc hg hm pr rfl) ?_) (fun _ => rfl)
    intro σ H Q h
    exact imp σ H Q h
/-! ### .get -/
def tKget (X : Cx) (d : Addr) (t : TA) : TE := fun σ H Q => t σ H fun xs H1 => ∃ (z : Str) (w : V) (r : Option Value), xs = [.str z, w] ∧ PySem.W.nsIn X.K d z = some r ∧ (∀ u, r = some u → ∃ v, RelV v u ∧ Q v H1) ∧ (r = none → Q w H1)
theorem pe_kget {d : Addr} {es : Array DictEntry} {n : Nat} (D : KDict X.K X.w d es n) {o e f : PySem.Expr} {t : TA} {apos cpos : Pos} (ho : PE X o (tC (.ref d))) (ha : PA X [e, f] t)
    (hbase : attributeBase o "get" X.env (eval o X.env) = eval o X.env)
    (hfew : ((backTo cpos (starEach [e, f] X.env)).all (fun x => !x.1) && (backToKw cpos (keywordEach [] X.env)).all (fun x => x.1.isSome)
      && decide ([e, f].length + ([] : List Keyword).length + (if ([] : List Keyword).isEmpty then 0 else 1) < 30)) = true)
    (hline : (apos.endLine == cpos.line) = true) (hs : starEach [e, f] X.env = (false, eval e X.env) :: starEach [f] X.env) (hplain : (backTo cpos (starEach [f] X.env)).any (·.1) = false) :
    PE X (.Call (.Attribute o "get" apos) [e, f] [] cpos) (tKget X d t) := by
  constructor
  intro pins s σ H Q I h
  refine wpAny_Call_method_late hbase hfew hline rfl (thn (ho.run pins s σ H (fun x H1 => x = .ref d ∧ tKget X d t σ H1 Q) I ⟨rfl, h⟩) fun v s1 ⟨x, H1, I1, r1, ex, q1⟩ => ?_)
  subst ex
  cases r1
  refine ⟨"dict", "dict.get", PySem.F.plainAttrs_dict, PySem.F.slot_dict_get, PySem.F.type_dict_get, kd_type D I1, fun b eb => ?_, ?_⟩
  · cases eb
    exact ⟨_, I1.kIn d _ D.at_, rfl⟩
  have hA := ha.run cpos pins s1 σ H1 _ I1 q1
  rw [hs] at hA ⊢
  refine Calls.callWith_builtin (by show (false || (backTo cpos (starEach [f] X.env)).any (·.1)) = false; rw [hplain] <;> rfl) (Calls.evalArgs_plain ?_)
  refine thn hA fun us s2 ⟨xs, H2, I2, rs, z, w, r, ex, hn, q2, q3⟩ => ?_
  subst ex
  cases rs with
  | cons ry rr =>
    cases rr with
    | cons rz r0 =>
      cases r0
      obtain ⟨tk, rfl⟩ := ry
      have mo := PySem.W.mapOf_K (prog := X.prog) (w := X.w) I2.kIn D.at_ D.lit
      refine call_meetsIn PySem.F.slot_dict_get mo.typeIs PySem.F.entry_dict_get (PySem.F.args_dict_get_3 _ _ _) (meets_dict_get_default (PySem.strKind X.prog X.w) d (PySem.strKind_is X.prog X.w z tk) D.low _) ⟨_, mo, ?_⟩
      rw [PySem.W.find_K D.at_ hn]
      cases r with
      | none => exact ⟨w, H2, I2.tok _, rz, q3 rfl⟩
      | some u =>
        obtain ⟨v, rv, qv⟩ := q2 u rfl
        exact ⟨v, H2, I2.tok _, rv, qv⟩
def kgetR (G : Nat → Option PV) (g : Nat) (vs : List PV) (T : Store) : Res PV := match vs with
  | [x, y] => match G g, x with
    | some (.vd ks vs), .str s => .ok ((kGet ks vs (.s s)).getD y) T
    | _, _ => .bad
  | _ => .bad
theorem ev_kgetF {C : Nat → List PV → Store → Res PV} {g : Nat} {a b : E} {ρ : Nv} {S : Store} : ev C G (.kget g a b) ρ S = (ev C G (.cons a (.cons b .nil)) ρ S).bind fun vs T2 => kgetR G g (asTup vs) T2 := by
  show ((ev C G a ρ S).bind fun x T1 => (ev C G b ρ T1).bind fun y T2 => match G g, x with
    | some (.vd ks vs), .str s => Res.ok ((kGet ks vs (.s s)).getD y) T2
    | _, _ => .bad) = ((ev C G a ρ S).bind fun v T1 => ((ev C G b ρ T1).bind fun w T2 => (Res.ok (.tup []) T2).bind fun vs T3 => .ok (.tup (w :: asTup vs)) T3).bind fun vs T2 => .ok (.tup (v :: asTup vs)) T2).bind fun vs T2 => kgetR G g (asTup vs) T2
  cases ev C G a ρ S with
  | ok v S1 =>
    show ((ev C G b ρ S1).bind fun y T2 => _) = (((ev C G b ρ S1).bind fun w T2 => (Res.ok (.tup []) T2).bind fun vs T3 => .ok (.tup (w :: asTup vs)) T3).bind fun vs T2 => .ok (.tup (v :: asTup vs)) T2).bind fun vs T2 => kgetR G g (asTup vs) T2
    cases ev C G b ρ S1 <;> rfl
  | exc c S1 => rfl
  | bad => rfl
theorem s_kget {f : PySem.Expr → Option E} (hf : Snd X xa ca D G k W f) {o : PySem.Expr} {es : List PySem.Expr} {m m0 : E} {g : Nat} {apos pos : Pos} (F : Facts X T ca D G k) (hl : apos.endLine = pos.line) (hs : isSuper o = false) (hg : dictG T hot X.env.scope o = some g) (ha : args f es = some m0) (hm : kgetO g m0 = some m) :
    PEm X xa ca D G k W (.Call (.Attribute o "get" apos) es [] pos) m := by
  unfold kgetO at hm
  split at hm
  · rename_i a b
    cases hm
    cases es with
    | nil => cases ha
    | cons e es =>
      obtain ⟨a1, b1, h1, h2, h3, h4⟩ := args_cons ha
      cases h4
      cases es with
      | nil => cases h3
      | cons e2 es =>
        obtain ⟨a2, b2, h5, h6, h7, h8⟩ := args_cons h3
        cases h8
        cases es with
        | cons e3 es =>
          obtain ⟨_, _, _, _, _, z⟩ := args_cons h7
          cases z
        | nil =>
          obtain ⟨x, xp, rfl, g1, g2, g3⟩ := dictG_inv hg
          obtain ⟨d, ds, n, ks, vs, e1, e2', K, e4⟩ := F.dicts x g g3
          have pn : PE X (.Name x xp) (tC (.ref d)) := pe_glob g1 e2' rfl g2
          have few : ((backTo pos (starEach [e, e2] X.env)).all (fun x => !x.1) && (backToKw pos (keywordEach [] X.env)).all (fun x => x.1.isSome)
              && decide ([e, e2].length + ([] : List Keyword).length + (if ([] : List Keyword).isEmpty then 0 else 1) < 30)) = true := by rw [few_args ha]; rfl
          refine pem_plain (pe_of (pe_kget K pn (args_sound hf ha) (attr_base hs) few (by rw [hl]; exact beq_self_eq_true _) (star_cons h1) (args_plain h3)) ?_) (fun _ => rfl)
          rintro σ H Q ⟨ρ, μ, S, er, sr, q⟩
          rw [ev_kgetF] at q
          refine ⟨ρ, μ, S, er, sr, q.bind _ fun v S1 xs μ1 H1 x1 sr1 r1 q1 => ?_⟩
          have r1 : Rels X.K xa H1 μ1 (asTup v) xs := r1
          unfold kgetR at q1
          split at q1
          · rename_i p y ez
            rw [ez] at r1
            rw [e1] at q1
            cases p with
            | str s =>
              obtain ⟨u, us, rfl, ru, w, ws, rfl, rw_, rnil⟩ := r1
              cases rnil
              cases ru
              obtain ⟨r, hr, hm⟩ := e4 s
              refine ⟨⟨s.toArray⟩, w, r, rfl, hr, fun u hu => ?_, fun hn => ?_⟩
              · subst hu
                cases z : kGet ks vs (.s s) with
                | none => rw [z] at hm; cases hm
                | some pv =>
                  rw [z] at hm
                  obtain ⟨u', v', e5, rv, rp⟩ := hm
                  cases e5
                  have q1 : Post X.K xa ca (rV X.K xa) μ1 H1 (.ok ((kGet ks vs (.s s)).getD y) S1) Q _ := q1
                  rw [z] at q1
                  exact ⟨v', rv, q1.here sr1 (rp _ _ _)⟩
              · subst hn
                cases z : kGet ks vs (.s s) with
                | some pv =>
                  rw [z] at hm
                  obtain ⟨u', v', e5, _⟩ := hm
                  cases e5
                | none =>
                  have q1 : Post X.K xa ca (rV X.K xa) μ1 H1 (.ok ((kGet ks vs (.s s)).getD y) S1) Q _ := q1
                  rw [z] at q1
                  exact q1.here sr1 rw_
            | _ => exact q1.elim
          · exact q1.elim
  · cases hm
end
end MP

set_option Elab.async false
set_option linter.all false
set_option maxRecDepth 100000
set_option maxHeartbeats 2000000
/-! M5: expressions as a whole; statements; defs. -/
namespace MP
open PySem PySem.Spec PyProof.Rows L2
section
variable {X : Cx} {T : Tab} {N : List Str} {hot : Bool} {ca : Nat → Addr} {D : Nat → Option FD} {G : Nat → Option PV} {k : Nat} {xa : Option (Addr × Nat)} {W : WX} {sc : Scope}
theorem opt_bind {α β : Type} {o : Option α} {f : α → Option β} {b : β} (h : o.bind f = some b) : ∃ a, o = some a ∧ f a = some b := by
  cases o with
  | none => cases h
  | some a => exact ⟨a, rfl, h⟩
theorem opt_map {α β : Type} {o : Option α} {f : α → β} {b : β} (h : o.map f = some b) : ∃ a, o = some a ∧ f a = b := by
  cases o with
  | none => cases h
  | some a => exact ⟨a, rfl, Option.some.inj h⟩
theorem s_call {f : Rc} {mm : Bool} (hf : Snd X xa ca D G k W (f false sc)) (g : GE X ca N sc hot xa k) (F : Facts X T ca D G k) (tk : Takes X W) {x : Str} {es : List PySem.Expr} {np pos : Pos} {m : E} (h : cCall T hot f mm sc x es = some m) : PEm X xa ca D G k W (.Call (.Name x np) es [] pos) m := by
  unfold cCall at h
  have hs := g.sc
  subst hs
  split at h
  · cases h
  · rename_i hn
    have hd : (x == ("__debug__" : Str)) = false := str_ne fun z => hn (.inl z)
    have hn2 : x ≠ "__name__" := fun z => hn (.inr (.inl z))
    have hgl : isGl (X.env.scope.names.lookup x) = true := by
      cases e : isGl (X.env.scope.names.lookup x) with
      | true => rfl
      | false => exact absurd (.inr (.inr (.inl (by rw [e]; exact Bool.false_ne_true)))) hn
    cases es with
    | nil => exact absurd (.inr (.inr (.inr rfl))) hn
    | cons e es =>
      split at h
      · rename_i fi hfi
        split at h
        · cases h
        · rename_i hh
          have hh : hot = false := by simpa using hh
          obtain ⟨y, h1, rfl⟩ := opt_map h
          have hx := g.cold hh
          subst hx
          exact s_fn hf F (g.room hh) tk (gl_of hgl) hfi h1 hd
      · split at h
        · rename_i hb
          obtain ⟨p, hp, h⟩ := opt_bind h
          split at h
          · cases h
          · rename_i hh
            have hh : hot = false := by simpa using hh
            obtain ⟨y, h1, rfl⟩ := opt_map h
            exact s_prim hf (g.calm hh) (gl_of hgl) (F.blts x hb) hp h1 hn2 hd
        · cases h
theorem s_is {f : Rc} (hf : Snd X xa ca D G k W (f false sc)) (g : GE X ca N sc hot xa k) (F : Facts X T ca D G k) {a : PySem.Expr} {y : Str} {np yp pos : Pos} {m : E} (h : cIs T N hot f sc a y = some m) : PEm X xa ca D G k W (.Call (.Name "isinstance" np) [a, .Name y yp] [] pos) m := by
  unfold cIs at h
  have hs := g.sc
  subst hs
  split at h
  · rename_i hc
    obtain ⟨h1, h2, h3⟩ := hc
    split at h
    · rename_i hy
      obtain ⟨t, ht, h⟩ := opt_bind h
      split at h
      · cases h
      · rename_i hst
        obtain ⟨z, hz, rfl⟩ := opt_map h
        exact s_isinst (by simpa using fun z => hst (.inr z)) (gl_of h1) (F.blts _ h3) (gl_of h2) (F.blts _ hy) ht (hf _ _ hz)
    · split at h
      · rename_i x xp
        split at h
        · rename_i hc
          obtain ⟨hh, hyd, hx1, hx2, hv⟩ := hc
          obtain ⟨c, hcl, h⟩ := opt_bind h
          obtain ⟨i, hi, rfl⟩ := opt_map h
          exact s_isexc g F hh (gl_of h1) (F.blts _ h3) (gl_of h2) hcl hi hv (str_ne hx1) (str_ne hx2) (str_ne hyd)
        · cases h
      · cases h
  · cases h
theorem step_sound {f : Rc} (hf : SndA T N hot ca D G k f) : SndA T N hot ca D G k (step T N hot f) := by
  intro X xa W mm sc e m h g F tk
  have hfm : ∀ b, Snd X xa ca D G k W (f b sc) := fun b e m he => hf X xa W b sc e m he g F tk
  have hf' := hfm false
  unfold step at h
  split at h
  · exact s_const h
  · exact s_name g F h
  · obtain ⟨y, h1, rfl⟩ := opt_map h; exact s_tup hf' h1
  · obtain ⟨y, h1, rfl⟩ := opt_map h; exact s_lst (fun e m he => hf X xa W _ sc e m he g F tk) h1
  · cases h; exact s_dict
  · obtain ⟨o, h1, h⟩ := opt_bind h
    obtain ⟨x, h2, h⟩ := opt_bind h
    obtain ⟨y, h3, rfl⟩ := opt_map h
    exact s_bin h1 (hf' _ _ h2) (hf' _ _ h3)
  · obtain ⟨y, h1, rfl⟩ := opt_map h; exact s_neg (hf' _ _ h1)
  · obtain ⟨y, h1, rfl⟩ := opt_map h; exact s_not (hf' _ _ h1)
  · exact s_bool hf' h
  · obtain ⟨x, h1, h⟩ := opt_bind h
    obtain ⟨y, h2, h⟩ := opt_bind h
    obtain ⟨z, h3, rfl⟩ := opt_map h
    exact s_ifExp (hf' _ _ h1) (hfm _ _ _ h2) (hfm _ _ _ h3)
  · exact s_cmps g.un F g.sc hf' h
  · exact s_sub F g.un g.sc hf' h
  · split at h
    · rename_i x np es pos hx
      subst hx
      obtain ⟨p, hp, h⟩ := opt_bind h
      unfold isCls at hp
      split at hp
      · cases hp; exact s_is hf' g F h
      · cases hp
    · split at h
      · rename_i y as hls
        unfold inCall at hls
        split at hls
        · cases hls
          split at h
          · rename_i hy
            subst hy
            cases h0 : one1 as with
            | none => rw [h0] at h; cases h
            | some a =>
            rw [h0] at h
            rw [Option.bind_some] at h
            unfold one1 at h0
            split at h0
            · cases h0
              unfold cLenSet at h
              have hsc := g.sc
              subst hsc
              split at h
              · rename_i hc
                obtain ⟨rfl, h1, h2, h3, h4, hh, hst⟩ := hc
                obtain ⟨y, hy, rfl⟩ := opt_map h
                exact s_lenset (g.calm hh) (gl_of h1) (F.blts _ h3) (gl_of h2) (F.blts _ h4) hst (hf' _ _ hy)
              · cases h
            · cases h0
          · split at h
            · rename_i hy
              subst hy
              unfold cRng at h
              have hsc := g.sc
              subst hsc
              split at h
              · rename_i hc
                obtain ⟨hx, h1, h2, h3, h4, hh⟩ := hc
                split at h
                · rename_i ha
                  cases h
                  exact s_rng hf' (g.calm hh) hx (gl_of h1) (F.blts _ h3) (gl_of h2) (F.blts _ h4) ha (.inl ⟨rfl, rfl⟩)
                · rename_i ha
                  cases h
                  exact s_rng hf' (g.calm hh) hx (gl_of h1) (F.blts _ h3) (gl_of h2) (F.blts _ h4) ha (.inr rfl)
                · cases h
              · cases h
            · exact s_call hf' g F tk h
        · cases hls
      · exact s_call hf' g F tk h
  · split at h
    · rename_i hc
      obtain ⟨h1, h2, h3⟩ := hc
      split at h
      · rename_i gd hgd
        split at h
        · rename_i hx
          subst hx
          have hsc := g.sc
          subst hsc
          obtain ⟨y, hy, h⟩ := opt_bind h
          exact s_kget hf' F h1 h2 hgd hy h
        · cases h
      · obtain ⟨mt, hm, h⟩ := opt_bind h
        obtain ⟨x, hx, h⟩ := opt_bind h
        obtain ⟨y, hy, rfl⟩ := opt_map h
        exact s_meth hf' g.un h1 h2 hm (hf' _ _ hx) hy
    · cases h
  · exact s_comp hf g F tk h
  · exact s_dcomp hf g F tk h
  · cases h
theorem compE_sound : ∀ n, SndA T N hot ca D G k (compE T N hot n)
  | 0 => fun X xa W mm sc e m h => by cases h
  | n + 1 => step_sound (compE_sound n)
end
end MP

set_option Elab.async false
set_option linter.all false
set_option maxRecDepth 100000
set_option maxHeartbeats 2000000
/-! M6: statements. -/
namespace MP
open MPX
open PySem PySem.Spec PyProof.Rows L2
section
variable {X : Cx} {T : Tab} {N : List Str} {hot : Bool} {ca : Nat → Addr} {D : Nat → Option FD} {G : Nat → Option PV} {k : Nat} {xa : Option (Addr × Nat)} {W : WX} {sc : Scope}
/-- where a statement stands -/
structure GS (X : Cx) (ca : Nat → Addr) (N : List Str) (sc : Scope) (hot : Bool) (xa : Option (Addr × Nat)) (k : Nat) : Prop where
  ge : GE X ca N sc hot xa k
  tg : TgOk X sc
  kind : sc.kind = .function
  stk : hot = false → X.stack = X.env :: X.outer ∧ X.env.frame = some X.env.locals
  po : hot = false → PassesOwn (model X.prog X.w) X.A X.env X.xe
def PSm (X : Cx) (xa : Option (Addr × Nat)) (ca : Nat → Addr) (D : Nat → Option FD) (G : Nat → Option PV) (k : Nat) (W : WX) (st : Stmt) (m : MP.S) : Prop := PS X st (tRS X.K xa ca W (exS (callF D G k) G m))
def PSsm (X : Cx) (xa : Option (Addr × Nat)) (ca : Nat → Addr) (D : Nat → Option FD) (G : Nat → Option PV) (k : Nat) (W : WX) (st : List Stmt) (m : MP.S) : Prop := PSs X st (tRS X.K xa ca W (exS (callF D G k) G m))
/-- what a compiler of blocks promises, everywhere -/
def SndS (T : Tab) (N : List Str) (sc : Scope) (hot : Bool) (ca : Nat → Addr) (D : Nat → Option FD) (G : Nat → Option PV) (k : Nat) (g : List Stmt → Option MP.S) : Prop := ∀ (X : Cx) (xa : Option (Addr × Nat)) (W : WX) (st : List Stmt) (m : MP.S), g st = some m → GS X ca N sc hot xa k → Facts X T ca D G k → Takes X W → PSsm X xa ca D G k W st m
theorem ps_of {st : Stmt} {t t' : TS} (h : PS X st t) (hi : ∀ D σ H, t' D σ H → t D σ H) : PS X st t' := ⟨fun pins s σ H D I q => h.run pins s σ H D I (hi D σ H q)⟩
theorem pss_of {st : List Stmt} {t t' : TS} (h : PSs X st t) (hi : ∀ D σ H, t' D σ H → t D σ H) : PSs X st t' := ⟨fun pins s σ H D I q => h.run pins s σ H D I (hi D σ H q)⟩
theorem no_swap {e : PySem.Expr} {o : Option PySem.Expr} {l : Nat} {env : Env} (h : isComp e = false) : swapsWith e o l env = pure false := by
  cases e <;> first | rfl | cases h
theorem no_swapSole {e tg : PySem.Expr} {l : Nat} {env : Env} (h : isComp e = false) : swapsWithSole [tg] e l env = pure false := by
  unfold swapsWithSole
  cases tg <;> first | rfl | exact no_swap h
theorem no_par {e : PySem.Expr} {env : Env} {tg : PySem.Expr} (h : isTup e = false) : swappedStores [tg] e env = pure none := by
  cases e <;> first | (cases tg <;> rfl) | cases h
section
variable {e c : PySem.Expr} {me mc : E} {pos : Pos}
theorem t_ret (he : PEm X xa ca D G k W e me) : PSm X xa ca D G k W (.Return (some e) pos) (.ret me) := by
  refine ps_of (ps_ret he.1) ?_
  rintro DD σ H ⟨ρ, μ, S, er, sr, q⟩
  exact ⟨ρ, μ, S, er, sr, Post.bindS q er sr _ fun v S1 x μ1 H1 x1 sr1 r1 h1 => h1 x μ1 H1 (Ex.refl _ _) sr1 r1⟩
theorem t_retN : PSm X xa ca D G k W (.Return none pos) (.ret (.lit .non)) := by
  refine ps_of ps_retN ?_
  rintro DD σ H ⟨ρ, μ, S, er, sr, q⟩
  exact q .non μ H (Ex.refl _ _) sr rfl
theorem t_exp (hc : isComp e = false) (he : PEm X xa ca D G k W e me) : PSm X xa ca D G k W (.Expr e pos) (.exp me) := by
  refine ps_of (ps_expr he.1 (no_swap hc)) ?_
  rintro DD σ H ⟨ρ, μ, S, er, sr, q⟩
  exact ⟨ρ, μ, S, er, sr, Post.bindS q er sr _ fun v S1 x μ1 H1 x1 sr1 r1 h1 => h1 σ μ1 H1 (Ex.refl _ _) sr1 (er.mono sr x1)⟩
theorem t_pass : PSm X xa ca D G k W (.Pass pos) .skip := by
  refine ps_of ps_pass ?_
  rintro DD σ H ⟨ρ, μ, S, er, sr, q⟩
  exact q σ μ H (Ex.refl _ _) sr er
theorem t_brk : PSm X xa ca D G k W (.Break pos) .brk := by
  refine ps_of ps_break ?_
  rintro DD σ H ⟨ρ, μ, S, er, sr, q⟩
  exact q σ μ H (Ex.refl _ _) sr er
theorem t_cont : PSm X xa ca D G k W (.Continue pos) .cont := by
  refine ps_of ps_continue ?_
  rintro DD σ H ⟨ρ, μ, S, er, sr, q⟩
  exact q σ μ H (Ex.refl _ _) sr er
theorem t_nil : PSsm X xa ca D G k W [] .skip := by
  refine pss_of pss_nil ?_
  rintro DD σ H ⟨ρ, μ, S, er, sr, q⟩
  exact q σ μ H (Ex.refl _ _) sr er
theorem t_cons {st : Stmt} {r : List Stmt} {ms mr : MP.S} (hs : PSm X xa ca D G k W st ms) (hr : PSsm X xa ca D G k W r mr) : PSsm X xa ca D G k W (st :: r) (.seq ms mr) := by
  refine pss_of (pss_cons hs hr) ?_
  rintro DD σ H ⟨ρ, μ, S, er, sr, q⟩
  refine ⟨ρ, μ, S, er, sr, ?_⟩
  have q : PostS X.K xa ca μ H (seqS (exS (callF D G k) G ms ρ S) fun σ1 T1 => exS (callF D G k) G mr σ1 T1) DD W := q
  cases e : exS (callF D G k) G ms ρ S with
  | bad => rw [e] at q; exact q
  | ok o S1 =>
    rw [e] at q
    cases o with
    | next ρ1 => exact fun σ1 μ1 H1 x1 s1 e1 => ⟨ρ1, μ1, S1, e1, s1, PostS.shift q x1⟩
    | _ => exact q
theorem t_if {a b : List Stmt} {ma mb : MP.S} (hc : PEm X xa ca D G k W c mc) (ha : PSsm X xa ca D G k W a ma) (hb : PSsm X xa ca D G k W b mb) : PSm X xa ca D G k W (.If c a b pos) (.ite mc ma mb) := by
  refine ps_of (ps_if hc.2 ha hb) ?_
  rintro DD σ H ⟨ρ, μ, S, er, sr, q⟩
  refine ⟨ρ, μ, S, er, sr, Post.bindS (R := rB) q er sr _ fun v S1 x μ1 H1 x1 sr1 r1 h1 => ?_⟩
  subst r1
  cases v with
  | true => exact ⟨ρ, μ1, S1, er.mono sr x1, sr1, h1⟩
  | false => exact ⟨ρ, μ1, S1, er.mono sr x1, sr1, h1⟩
theorem t_set (g : GS X ca N sc hot xa k) {x : Str} {i : Nat} {px : Pos} (hl : isLoc (sc.names.lookup x) = true) (hi : slotOf N x = some i) (hc : isComp e = false) (he : PEm X xa ca D G k W e me) : PSm X xa ca D G k W (.Assign [.Name x px] e pos) (.asg (.nm i) me) := by
  refine ps_of (ps_set (by rw [g.ge.nN]; exact g.ge.nd) (by rw [g.ge.nN]; exact slot_of hi) (g.tg x hl).1 he.1 (no_swap hc) (g.tg x hl).2) ?_
  rintro DD σ H ⟨ρ, μ, S, er, sr, q⟩
  exact ⟨ρ, μ, S, er, sr, Post.bindS q er sr _ fun v S1 x μ1 H1 x1 sr1 r1 h1 => h1 _ μ1 H1 (Ex.refl _ _) sr1 ((er.mono sr x1).set i r1)⟩
theorem swap_parts {x : Str} {px : Pos} {scope : Scope} {pos : Pos} (h : ((match sc.names.lookup x with | some .local => true | _ => false) && decide (px.line = pos.line) && !(scope.names.any fun (n, k) => n == x && (k == .local || k == .cell))) = true) :
    sc.names.lookup x = some .local ∧ px.line = pos.line ∧ (scope.names.any fun (n, k) => n == x && (k == .local || k == .cell)) = false := by
  simp only [Bool.and_eq_true] at h
  obtain ⟨⟨h1, h2⟩, h3⟩ := h
  refine ⟨?_, of_decide_eq_true h2, by simpa using h3⟩
  split at h1
  · assumption
  · cases h1
theorem t_setLc {f : Rc} (hf : SndA T N hot ca D G k f) (g : GS X ca N sc hot xa k) (F : Facts X T ca D G k) (tk : Takes X W) {mm : Bool} {elt : PySem.Expr} {gs : List Comprehension} {scope : Scope} {cpos : Pos} {x : Str} {i : Nat} {px : Pos}
    (hi : slotOf N x = some i) (hs : swapT sc x px (.ListComp elt gs scope cpos) = true) (hm : cComp T N hot f mm sc elt gs scope = some me) : PSm X xa ca D G k W (.Assign [.Name x px] (.ListComp elt gs scope cpos) pos) (.asg (.nm i) me) := by
  obtain ⟨hl, h2, h3⟩ := swap_parts hs
  have hsc := g.ge.sc
  subst hsc
  have fin : ∀ {t : TE}, (∀ σ H Q, tR X.K xa ca (rV X.K xa) W (ev (callF D G k) G me) σ H Q → t σ H Q) → ∀ DD σ H, tRS X.K xa ca W (exS (callF D G k) G (.asg (.nm i) me)) DD σ H → tAsg t (gName i) DD σ H := by
    intro t imp
    rintro DD σ H ⟨ρ, μ, S, er, sr, q⟩
    refine imp σ H _ ⟨ρ, μ, S, er, sr, Post.bindS q er sr _ fun v S1 x μ1 H1 x1 sr1 r1 h1 => ?_⟩
    exact h1 _ μ1 H1 (Ex.refl _ _) sr1 ((er.mono sr x1).set i r1)
  match gs, hm with
  | [], hm => cases hm
  | [⟨tg, iter, ifs, kk⟩], hm =>
    cases hbk : isBlk X.env.scope with
    | true =>
    obtain ⟨hh, rfl, wi, gg, tt, te, own, pw, ok, pgt, pif, pel, fo, imp⟩ := comp_core hf g.ge F tk hbk hm
    exact ps_of (ps_setLc (g.ge.calm hh) (by rw [g.ge.nN]; exact g.ge.nd) (by rw [g.ge.nN]; exact slot_of hi) hl (sw_true g.kind hl (by rw [h2]; exact beq_self_eq_true _) h3) pw ok pgt pif pel fo) (fin imp)
    | false =>
    obtain ⟨hh, rfl, wi, gg, tt, te, own, pw, ok, pgt, pif, pel, fo, imp⟩ := comp_coreX hf g.ge F tk hbk hm
    obtain ⟨stk, frm⟩ := g.ge.top hbk hh
    exact ps_of (ps_setLcx (g.ge.calm hh) (by rw [g.ge.nN]; exact g.ge.nd) stk frm tk (by rw [g.ge.nN]; exact slot_of hi) hl (sw_true g.kind hl (by rw [h2]; exact beq_self_eq_true _) h3) pw ok pgt pif pel fo) (fin imp)
  | [⟨tg, iter, ifs, kk⟩, ⟨tg2, iter2, ifs2, kk2⟩], hm =>
    obtain ⟨hh, rfl, rfl, wi, wi2, gg, gg2, tt, tt2, te, own, vs1, pw, ok, hv, pgt, pif, pw2, pgt2, pif2, pel, fo, fo2, imp⟩ := comp2_core hf g.ge F tk hm
    exact ps_of (ps_setLc2 (g.ge.calm hh) (by rw [g.ge.nN]; exact g.ge.nd) (by rw [g.ge.nN]; exact slot_of hi) hl (sw_true g.kind hl (by rw [h2]; exact beq_self_eq_true _) h3) pw ok hv pgt pif pw2 pgt2 pif2 pel fo fo2) (fin imp)
  | _ :: _ :: _ :: _, hm => simp [cComp] at hm
theorem sw_trueD {ek elt : PySem.Expr} {gs : List Comprehension} {scope : Scope} {pos py : Pos} {y : Str} {l : Nat} {env : Env} (hk : env.scope.kind = .function) (hy : env.scope.names.lookup y = some .local) (hl : (py.line == pos.line) = true)
    (ha : (scope.names.any fun (n, k) => n == y && (k == .local || k == .cell)) = false) : swapsWith (.DictComp ek elt gs scope pos) (some (.Name y py)) l env = pure true := by
  have ky : env.kindOf y = some .local := hy
  have hb : env.blockKind = .function := by unfold Env.blockKind; rw [hk]; rfl
  unfold swapsWith
  simp only [hb, ky, ha, PySem.Expr.pos, hl]
  rfl
/-- x = {..}: the comprehension's dict straight into the slot -/
theorem ps_setDc {i : Nat} {y : Str} {py : Pos} {ek elt tg iter : PySem.Expr} {ifs : List PySem.Expr} {scope : Scope} {own : List (Str × Nat)} {pos spos : Pos} {wi : TI} {g : TG} {tt : TT} {tk te : TE} (hc : X.calm = true) (hN : X.N.Nodup) (hy : X.N[i]? = some y) (hyl : X.env.scope.names.lookup y = some .local)
    (hsw : swapsWith (.DictComp ek elt [⟨tg, iter, ifs, 0⟩] scope pos) (some (.Name y py)) spos.line X.env = pure true) (hi : PI X tg iter wi) (ok : BlkOk X.N X.env.scope scope own)
    (hg : ∀ (s : Shared) (H : Hp) (C : Addr) (cl : List (Str × Addr)) (fp : List Addr), PG (X.blk s H scope (compEnvC scope cl C X.env) fp) tg g) (ht : ∀ (s : Shared) (H : Hp) (C : Addr) (cl : List (Str × Addr)) (fp : List Addr), PTs (X.blk s H scope (compEnvC scope cl C X.env) fp) ifs tt)
    (hk : ∀ (s : Shared) (H : Hp) (C : Addr) (cl : List (Str × Addr)) (fp : List Addr), PE (X.blk s H scope (compEnvC scope cl C X.env) fp) ek tk)
    (he : ∀ (s : Shared) (H : Hp) (C : Addr) (cl : List (Str × Addr)) (fp : List Addr), PE (X.blk s H scope (compEnvC scope cl C X.env) fp) elt te) (hs : ∀ x, foldedSetIterable iter X.env x = pure x) :
    PS X (.Assign [.Name y py] (.DictComp ek elt [⟨tg, iter, ifs, 0⟩] scope pos) spos) (tAsg (tDc wi g tt tk te (own.map (·.2))) (gName i)) := by
  refine ⟨fun pins s σ H D I h => ?_⟩
  rw [exec_Assign_Name_used _ _ _ _ hsw]
  refine wpAny_bind (wpAny_standAt (wpAny_bind ?_))
  show wpAny _ X.A (do let _ ← comprehension (.DictComp ek elt [⟨tg, iter, ifs, 0⟩] scope pos) scope X.env (firstIterPos [⟨tg, iter, ifs, 0⟩] pos) newDict false (eval iter X.env) (some (assign (.Name y py) X.env))) _ _ s
  have h : tDc wi g tt tk te (own.map (·.2)) σ H (fun x H1 => gName i x σ H1 D.nx) := h
  refine wpAny_bind (thn (dc_core (Qf := fun _ s' => SP X pins D .next s') hc hN I hi ok hg ht hk he hs h fun L C s' m H' I' q hn f => ?_) fun _ s' hq => wpAny_pure (wpAny_pure hq))
  show wpAny _ _ (assign (.Name y py) X.env (.ref L)) _ _ _
  refine wpAny_assign_Name (store_ok2 (v := V.ref L) I' hN hy (.inl hyl) rfl (fun s2 I2 ⟨a, sb, ha⟩ => ?_) (.inr hyl))
  obtain ⟨f0, f1, f2, f3, f4, f5⟩ := f
  have haC : C ≠ a := by
    rcases ha with z | z
    · rw [z]; exact f1
    · exact fun e => f4 y a z e.symm
  refine ⟨m, hn.sameBut sb haC, fun h3 sb3 => ?_⟩
  exact ⟨_, H', I2.turned (t' := s2.toks) (fun b o hb e => (sb3.2 b hb).trans e) f0 f1 f3 f4 f5, q⟩
theorem t_setDc {f : Rc} (hf : SndA T N hot ca D G k f) (g : GS X ca N sc hot xa k) (F : Facts X T ca D G k) (tk : Takes X W) {mm : Bool} {ek elt : PySem.Expr} {gs : List Comprehension} {scope : Scope} {cpos : Pos} {x : Str} {i : Nat} {px : Pos}
    (hi : slotOf N x = some i) (hs : swapT sc x px (.DictComp ek elt gs scope cpos) = true) (hm : cDcomp T N hot f mm sc ek elt gs scope = some me) : PSm X xa ca D G k W (.Assign [.Name x px] (.DictComp ek elt gs scope cpos) pos) (.asg (.nm i) me) := by
  obtain ⟨hl, h2, h3⟩ := swap_parts hs
  have hsc := g.ge.sc
  subst hsc
  match gs, hm with
  | [], hm => cases hm
  | [⟨tg, iter, ifs, kk⟩], hm =>
    obtain ⟨hh, rfl, wi, gg, tt, te, tv, own, pw, ok, pgt, pif, pek, pel, fo, imp⟩ := dcomp_core hf g.ge F tk hm
    refine ps_of (ps_setDc (g.ge.calm hh) (by rw [g.ge.nN]; exact g.ge.nd) (by rw [g.ge.nN]; exact slot_of hi) hl (sw_trueD g.kind hl (by rw [h2]; exact beq_self_eq_true _) h3) pw ok pgt pif pek pel fo) ?_
    rintro DD σ H ⟨ρ, μ, S, er, sr, q⟩
    refine imp σ H _ ⟨ρ, μ, S, er, sr, Post.bindS q er sr _ fun v S1 x μ1 H1 x1 sr1 r1 h1 => ?_⟩
    exact h1 _ μ1 H1 (Ex.refl _ _) sr1 ((er.mono sr x1).set i r1)
  | _ :: _ :: _, hm => simp [cDcomp] at hm
theorem t_setT (g : GS X ca N sc hot xa k) (hh : hot = false) {ts : List PySem.Expr} {j : Nat} {tp : Pos} {t : Tgt} (ht : targ N sc (.Tuple ts j tp) = some t) (hc : isComp e = false) (hp : isTup e = false) (he : PEm X xa ca D G k W e me) : PSm X xa ca D G k W (.Assign [.Tuple ts j tp] e pos) (.asg t me) := by
  refine ps_of (ps_asg he.1 (targ_sound g.ge g.tg (g.ge.calm hh) ht) (no_swapSole hc) (no_par hp) rfl) ?_
  rintro DD σ H ⟨ρ, μ, S, er, sr, q⟩
  refine ⟨ρ, μ, S, er, sr, Post.bindS q er sr _ fun v S1 x μ1 H1 x1 sr1 r1 h1 => ?_⟩
  have h1 : PostS X.K xa ca μ1 H1 (match bindT t v ρ with | some σ1 => .ok (.next σ1) S1 | none => .bad) DD W := h1
  split at h1
  · rename_i ρ1 hb
    exact ⟨v, ρ, μ1, S1, ρ1, er.mono sr x1, sr1, r1, hb, fun σ1 e1 _ _ => h1 σ1 μ1 H1 (Ex.refl _ _) sr1 e1⟩
  · exact h1.elim
theorem set_all (hu : X.A.units + 70 < cLine) : PSet X (fun o i v H Q => ∃ p w u μ S S', SR X.K xa H μ S ∧ Rel X.K xa H μ p o ∧ Rel X.K xa H μ w i ∧ Rel X.K xa H μ u v ∧ setOp p w u S = some S' ∧ ∀ μ' H', Ex μ μ' H H' → SR X.K xa H' μ' S' → Q H') := by
  rintro pins s σ H o i v ov iv u Q I r1 r2 r3 ⟨p, w, u', μ, S, S', sr, rp, rw_, ru, hs, q⟩
  unfold setOp at hs
  split at hs
  · rename_i n
    split at hs
    · rename_i xs ii hl
      obtain ⟨j, hj, rfl⟩ := opt_map hs
      obtain ⟨a, vs, rfl, m, s1, ra⟩ := sr.ref (xs := xs) rp (by unfold lstOf; rw [hl])
      cases rw_
      obtain ⟨x, s2⟩ := sr.write (o := .lst (xs.set j u')) (u := .lst (vs.set j v)) m ⟨rfl, rfl⟩ (ra.set ru j)
      refine set_list pins s σ H _ _ v ov iv u Q I r1 r2 r3 ⟨a, vs, _, j, rfl, rfl, s1, ?_, q _ _ x s2⟩
      rw [← ra.length]
      exact hj
    · rename_i ks xs hl
      obtain ⟨j, hj, hs⟩ := opt_bind hs
      split at hs
      · rename_i hz
        cases hs
        obtain ⟨a, kvs, rfl, m, s1, hk, ra⟩ := sr.refD (ks := ks) (xs := xs) rp (by unfold dctOf; rw [hl])
        obtain ⟨p1, p2⟩ := kPut_put j hk ra ru
        obtain ⟨x, s2⟩ := sr.write (o := .dct (kPut ks xs j u').1 (kPut ks xs j u').2) (u := .dK (putK kvs (keyV j) v)) m ⟨rfl, _, rfl, p1, rfl⟩ p2
        have hy := keyOf_kV rw_ hj
        subst hy
        have hlen : kvs.length < sizeLine := by
          have := ra.length
          rw [List.length_map] at this
          rw [← this, ← SZ_eq]; exact hz
        exact L2.set_dict (by omega) pins s σ H _ _ v ov iv u Q I r1 r2 r3 ⟨a, _, rfl, DPut.k s1 hlen, q _ _ x s2⟩
      · cases hs
    · cases hs
  · cases hs
theorem t_setix (hu : X.A.units + 70 < cLine) {a i : PySem.Expr} {ma mi : E} {tp : Pos} (hsl : isSlice i = false) (hc : isComp e = false) (ha : PEm X xa ca D G k W a ma) (hi : PEm X xa ca D G k W i mi) (he : PEm X xa ca D G k W e me) : PSm X xa ca D G k W (.Assign [.Subscript a i tp] e pos) (.setix ma mi me) := by
  have hpg := pg_sub (pos := tp) ha.1 hi.1 (set_all (X := X) (xa := xa) hu) (fun v => by cases i <;> first | rfl | cases hsl)
  refine ps_of (ps_asg he.1 hpg (no_swapSole hc) (by cases e <;> rfl) rfl) ?_
  rintro DD σ H ⟨ρ, μ, S, er, sr, q⟩
  refine ⟨ρ, μ, S, er, sr, Post.bindS q er sr _ fun v S1 x μ1 H1 x1 sr1 r1 h1 => ?_⟩
  have er1 := er.mono sr x1
  refine ⟨ρ, μ1, S1, er1, sr1, Post.bindS h1 er1 sr1 _ fun p S2 y μ2 H2 x2 sr2 r2 h2 => ?_⟩
  have er2 := er1.mono sr1 x2
  refine ⟨ρ, μ2, S2, er2, sr2, Post.bindS h2 er2 sr2 _ fun w S3 z μ3 H3 x3 sr3 r3 h3 => ?_⟩
  have er3 := er2.mono sr2 x3
  cases hs : setOp p w v S3 with
  | none => rw [hs] at h3; exact h3.elim
  | some S4 =>
    rw [hs] at h3
    exact ⟨p, w, v, μ3, S3, S4, sr3, Rel.mono sr2 x3 _ _ r2, r3, Rel.mono sr1 (x2.trans x3) _ _ r1, hs, fun μ' H' x' s' => h3 σ μ' H' x' s' (er3.mono sr3 x')⟩
theorem ip_all (o : BinO) (op : Operator) (ho : binO op = some o) : PIp X op (fun x y H Q => ∃ v w μ S r, SR X.K xa H μ S ∧ Rel X.K xa H μ v x ∧ Rel X.K xa H μ w y ∧ augOp o v w = some r ∧ ∀ z, Rel X.K xa H μ r z → Q z H) := by
  rintro pins s σ H x y v u Q I rx ry ⟨a, b, μ, S, r, sr, ra, rb, h, q⟩
  unfold augOp at h
  split at h
  · cases op <;> first | cases ho | skip
    cases ra; cases rb; cases h
    exact iop_add pins s σ H _ _ v u Q I rx ry ⟨_, _, rfl, rfl, q _ rfl⟩
  · cases op <;> first | cases ho | skip
    cases ra; cases rb; cases h
    exact iop_sub pins s σ H _ _ v u Q I rx ry ⟨_, _, rfl, rfl, q _ rfl⟩
  · cases op <;> first | cases ho | skip
    split at h
    · rename_i hz
      cases ra; cases rb; cases h
      refine iop_add_str pins s σ H _ _ v u Q I rx ry ⟨_, _, rfl, rfl, by rw [str_len, str_len]; exact le_line hz, ?_⟩
      rw [str_app]
      exact q _ rfl
    · cases h
  · cases h
theorem t_aug (g : GS X ca N sc hot xa k) {x : Str} {i : Nat} {px : Pos} {o : BinO} {op : Operator} (ho : binO op = some o) (hl : isLoc (sc.names.lookup x) = true) (hi : slotOf N x = some i) (he : PEm X xa ca D G k W e me) : PSm X xa ca D G k W (.AugAssign (.Name x px) op e pos) (.aug i o me) := by
  refine ps_of (ps_aug (by rw [g.ge.nN]; exact g.ge.nd) (by rw [g.ge.nN]; exact slot_of hi) (g.tg x hl).1 he.1 (ip_all (xa := xa) o op ho) (g.tg x hl).2) ?_
  rintro DD σ H ⟨ρ, μ, S, er, sr, q⟩
  have q : PostS X.K xa ca μ H (match ρ[i]? with
    | some (some x) => (ev (callF D G k) G me ρ S).bindS ρ fun y T1 => nextO ((augOp o x y).map fun z => ρ.set i (some z)) T1
    | _ => .bad) DD W := q
  split at q
  · rename_i v hv
    obtain ⟨y, h1, h2⟩ := er.at_ i v hv
    refine ⟨y, h1, ρ, μ, S, er, sr, Post.bindS q er sr _ fun w S1 z μ1 H1 x1 sr1 r1 h3 => ?_⟩
    cases e1 : augOp o v w with
    | none => rw [e1] at h3; exact h3.elim
    | some r =>
      rw [e1] at h3
      exact ⟨v, w, μ1, S1, r, sr1, Rel.mono sr x1 _ _ (h2.val fun c z => by rw [z] at e1; cases o <;> cases e1), r1, e1, fun z' rz => h3 _ μ1 H1 (Ex.refl _ _) sr1 ((er.mono sr x1).set i rz)⟩
  · exact q.elim
theorem t_while (g : GS X ca N sc hot xa k) (hh : hot = false) {b : List Stmt} {mb : MP.S} (hc : PEm X xa ca D G k W c mc) (hb : PSsm X xa ca D G k W b mb) : PSm X xa ca D G k W (.While c b [] pos) (.whl mc mb) := by
  refine ps_of (ps_while (g.po hh) hc.2 hb) ?_
  rintro DD σ H ⟨ρ, μ, S, er, sr, q⟩
  have q : PostS X.K xa ca μ H (whileL (evT (callF D G k) G mc) (exS (callF D G k) G mb) FU ρ S) DD W := q
  refine ⟨fun n σ' H' => ∃ ρ' μ' S', ER X.K xa H' μ' ρ' σ' ∧ SR X.K xa H' μ' S' ∧ PostS X.K xa ca μ' H' (whileL (evT (callF D G k) G mc) (exS (callF D G k) G mb) n ρ' S') DD W, ⟨FU, ρ, μ, S, er, sr, q⟩, ?_⟩
  rintro n σ' H' ⟨ρ', μ', S', er', sr', q'⟩
  cases n with
  | zero => exact q'.elim
  | succ n =>
    have q' : PostS X.K xa ca μ' H' ((evT (callF D G k) G mc ρ' S').bindS ρ' fun t T1 =>
      if t then match exS (callF D G k) G mb ρ' T1 with
        | .ok (.next σ2) T2 => whileL (evT (callF D G k) G mc) (exS (callF D G k) G mb) n σ2 T2
        | .ok (.cont σ2) T2 => whileL (evT (callF D G k) G mc) (exS (callF D G k) G mb) n σ2 T2
        | .ok (.brk σ2) T2 => .ok (.next σ2) T2
        | .ok (.ret v) T2 => .ok (.ret v) T2
        | .ok (.exc c σ2) T2 => .ok (.exc c σ2) T2
        | .bad => .bad
      else .ok (.next ρ') T1) DD W := q'
    refine ⟨ρ', μ', S', er', sr', Post.bindS (R := rB) q' er' sr' _ fun t S1 t' μ1 H1 x1 sr1 r1 h1 => ?_⟩
    subst r1
    cases t with
    | false =>
      rw [if_neg Bool.false_ne_true]
      exact h1 σ' μ1 H1 (Ex.refl _ _) sr1 (er'.mono sr' x1)
    | true =>
      rw [if_pos rfl]
      refine ⟨fun σ2 H2 => ∃ ρ2 μ2 S2, ER X.K xa H2 μ2 ρ2 σ2 ∧ SR X.K xa H2 μ2 S2 ∧ PostS X.K xa ca μ2 H2 (whileL (evT (callF D G k) G mc) (exS (callF D G k) G mb) n ρ2 S2) DD W, fun σ2 H2 h => ⟨n, Nat.lt_succ_self n, h⟩, ρ', μ1, S1, er'.mono sr' x1, sr1, ?_⟩
      have h1 : PostS X.K xa ca μ1 H1 (match exS (callF D G k) G mb ρ' S1 with
        | .ok (.next σ2) T2 => whileL (evT (callF D G k) G mc) (exS (callF D G k) G mb) n σ2 T2
        | .ok (.cont σ2) T2 => whileL (evT (callF D G k) G mc) (exS (callF D G k) G mb) n σ2 T2
        | .ok (.brk σ2) T2 => .ok (.next σ2) T2
        | .ok (.ret v) T2 => .ok (.ret v) T2
        | .ok (.exc c σ2) T2 => .ok (.exc c σ2) T2
        | .bad => .bad) DD W := h1
      cases e : exS (callF D G k) G mb ρ' S1 with
      | bad => rw [e] at h1; exact h1.elim
      | ok o S2 =>
        rw [e] at h1
        cases o with
        | next ρ2 => exact fun σ2 μ2 H2 x2 s2 e2 => ⟨ρ2, μ2, S2, e2, s2, PostS.shift h1 x2⟩
        | cont ρ2 => exact fun σ2 μ2 H2 x2 s2 e2 => ⟨ρ2, μ2, S2, e2, s2, PostS.shift h1 x2⟩
        | brk ρ2 => exact h1
        | ret v => exact h1
        | exc c ρ2 => exact h1
theorem t_for (g : GS X ca N sc hot xa k) (hh : hot = false) {tg iter : PySem.Expr} {t : Tgt} {w : ItK × E} {b : List Stmt} {mb : MP.S} (ht : targ N sc tg = some t) (hi : PI X tg iter (tWk X.K xa ca W (callF D G k) G w.1 w.2)) (hf : ∀ x, foldedSetIterable iter X.env x = pure x)
    (hb : PSsm X xa ca D G k W b mb) : PSm X xa ca D G k W (.For tg iter b [] pos) (.loop t w.1 w.2 mb) := by
  refine ps_of (ps_for (g.po hh) (g.ge.calm hh) hi (targ_sound g.ge g.tg (g.ge.calm hh) ht) hb hf) ?_
  rintro DD σ H ⟨ρ, μ, S, er, sr, q⟩
  refine ⟨ρ, μ, S, er, sr, Post.bindS q er sr _ fun vs S1 xs μ1 H1 x1 sr1 r1 h1 => ?_⟩
  have h1 : PostS X.K xa ca μ1 H1 (match walkOf S1 w.1 (asTup vs) with
    | some w' => iterL w' t (exS (callF D G k) G mb) FU 0 ρ S1
    | none => .bad) DD W := h1
  split at h1
  · rename_i w' hw
    refine ⟨asTup vs, μ1, S1, w', sr1, r1, hw, fun J hJ => ?_⟩
    refine ⟨fun i n σ' H' => ∃ ρ' μ' S', Ex μ1 μ' H1 H' ∧ ER X.K xa H' μ' ρ' σ' ∧ SR X.K xa H' μ' S' ∧ PostS X.K xa ca μ' H' (iterL w' t (exS (callF D G k) G mb) n i ρ' S') DD W, ⟨FU, ρ, μ1, S1, Ex.refl _ _, er.mono sr x1, sr1, h1⟩, ?_⟩
    rintro i n σ' H' ⟨ρ', μ', S', x', er', sr', q'⟩
    cases n with
    | zero => exact q'.elim
    | succ n =>
      have ir := hJ μ' H' S' i (x'.lift sr1) sr'
      have q' : PostS X.K xa ca μ' H' (match w'.at i S' with
        | none => .bad
        | some none => .ok (.next ρ') S'
        | some (some v) => match bindT t v ρ' with
          | none => .bad
          | some σ1 => match exS (callF D G k) G mb σ1 S' with
            | .ok (.next σ2) T2 => iterL w' t (exS (callF D G k) G mb) n (i + 1) σ2 T2
            | .ok (.cont σ2) T2 => iterL w' t (exS (callF D G k) G mb) n (i + 1) σ2 T2
            | .ok (.brk σ2) T2 => .ok (.next σ2) T2
            | .ok (.ret v) T2 => .ok (.ret v) T2
            | .ok (.exc c σ2) T2 => .ok (.exc c σ2) T2
            | .bad => .bad) DD W := q'
      cases ew : w'.at i S' with
      | none => rw [ew] at q'; exact q'.elim
      | some o =>
        rw [ew] at q' ir
        cases o with
        | none => exact .inl ⟨ir, q' σ' μ' H' (Ex.refl _ _) sr' er'⟩
        | some v =>
          obtain ⟨go, yld⟩ := ir
          refine .inr ⟨go, fun σ2 H2 => ∃ ρ' μ' S', Ex μ1 μ' H1 H2 ∧ ER X.K xa H2 μ' ρ' σ2 ∧ SR X.K xa H2 μ' S' ∧ PostS X.K xa ca μ' H2 (iterL w' t (exS (callF D G k) G mb) n (i + 1) ρ' S') DD W, fun σ2 H2 h => ⟨n, Nat.lt_succ_self n, h⟩, fun x H2 hy => ?_⟩
          obtain ⟨x2, s2, r2⟩ := yld x H2 hy
          have q' : PostS X.K xa ca μ' H' (match bindT t v ρ' with
            | none => .bad
            | some σ1 => match exS (callF D G k) G mb σ1 S' with
              | .ok (.next σ2) T2 => iterL w' t (exS (callF D G k) G mb) n (i + 1) σ2 T2
              | .ok (.cont σ2) T2 => iterL w' t (exS (callF D G k) G mb) n (i + 1) σ2 T2
              | .ok (.brk σ2) T2 => .ok (.next σ2) T2
              | .ok (.ret v) T2 => .ok (.ret v) T2
              | .ok (.exc c σ2) T2 => .ok (.exc c σ2) T2
              | .bad => .bad) DD W := q'
          cases eb : bindT t v ρ' with
          | none => rw [eb] at q'; exact q'.elim
          | some ρ1 =>
            rw [eb] at q'
            have q' : PostS X.K xa ca μ' H' (match exS (callF D G k) G mb ρ1 S' with
              | .ok (.next σ2) T2 => iterL w' t (exS (callF D G k) G mb) n (i + 1) σ2 T2
              | .ok (.cont σ2) T2 => iterL w' t (exS (callF D G k) G mb) n (i + 1) σ2 T2
              | .ok (.brk σ2) T2 => .ok (.next σ2) T2
              | .ok (.ret v) T2 => .ok (.ret v) T2
              | .ok (.exc c σ2) T2 => .ok (.exc c σ2) T2
              | .bad => .bad) DD W := q'
            refine ⟨v, ρ', μ', S', ρ1, er'.mono sr' x2, s2, r2, eb, fun σ1 e1 _ _ => ⟨ρ1, μ', S', e1, s2, ?_⟩⟩
            have q2 := PostS.shift q' x2
            cases e : exS (callF D G k) G mb ρ1 S' with
            | bad => rw [e] at q2; exact q2.elim
            | ok o S2 =>
              rw [e] at q2
              cases o with
              | next ρ2 => exact fun σ2 μ2 H3 x3 s3 e3 => ⟨ρ2, μ2, S2, (x'.trans x2).trans x3, e3, s3, PostS.shift q2 x3⟩
              | cont ρ2 => exact fun σ2 μ2 H3 x3 s3 e3 => ⟨ρ2, μ2, S2, (x'.trans x2).trans x3, e3, s3, PostS.shift q2 x3⟩
              | brk ρ2 => exact q2
              | ret v => exact q2
              | exc c ρ2 => exact q2
  · exact h1.elim
theorem t_raise (g : GS X ca N sc hot xa k) (hh : hot = false) (F : Facts X T ca D G k) (tk : Takes X W) {x m : Str} {j : Nat} {cc : Nat} {p p2 p3 : Pos} (hgl : isGl (sc.names.lookup x) = true) (hx : x ≠ "__debug__") (hc : T.clss.lookup x = some cc) :
    PSm X xa ca D G k W (.Raise (some (.Call (.Name x p) [.Constant (.str m) j p2] [] p3)) none pos) (.raise cc) := by
  have C := F.clss x cc hc
  have hsc := g.ge.sc
  subst hsc
  refine ps_of (ps_raise (g.ge.calm hh) tk (pmk_own PySem.F.excBase_ValueError C.exc C.mg C.keep C.rais (gl_of hgl) (str_ne hx))) ?_
  rintro DD σ H ⟨ρ, μ, S, er, sr, q⟩
  exact q σ μ H (Ex.refl _ _) sr er
end
end
end MP

set_option Elab.async false
set_option linter.all false
set_option maxRecDepth 100000
set_option maxHeartbeats 2000000
/-! M7: try, pairs; statements as a whole; defs. -/
namespace MP
open PySem PySem.Spec PyProof.Rows L2
section
variable {X : Cx} {T : Tab} {N : List Str} {hot : Bool} {ca : Nat → Addr} {D : Nat → Option FD} {G : Nat → Option PV} {k : Nat} {xa : Option (Addr × Nat)} {W : WX} {sc : Scope}
theorem star_m : ∀ a : PySem.Expr, isStar a = false → (match a with | .Starred _ _ => true | _ => false) = false := fun a h => by cases a <;> first | rfl | cases h
theorem sw_pair {x y : Str} {px py pt pt2 : Pos} {kt k2 : Nat} {a b : PySem.Expr} {env : Env} (hk : env.scope.kind = .function) (hx : env.scope.names.lookup x = some .local) (hy : env.scope.names.lookup y = some .local) (hxy : x ≠ y) (hl : px.line = py.line) (sa : isStar a = false) (sb : isStar b = false)
    (h1 : [a, b].all (foldedForSure 8) = false) (h2 : [a, b].all (constantsAlone 8) = false) : swappedStores [.Tuple [.Name x px, .Name y py] kt pt] (.Tuple [a, b] k2 pt2) env = pure (some [x, y]) := by
  have kx : env.kindOf x = some .local := hx
  have ky : env.kindOf y = some .local := hy
  have hb : env.blockKind = .function := by unfold Env.blockKind; rw [hk]; rfl
  have ha := star_m a sa
  have hb' := star_m b sb
  have ed : ([x, y] : List Str).eraseDups = [x, y] := by
    have : (y == x) = false := by simpa using Ne.symm hxy
    simp [List.eraseDups_cons, this]
  unfold swappedStores
  simp only [List.all_cons, List.all_nil, Bool.and_true] at h1 h2
  simp [hb, ha, hb', kx, ky, PySem.Expr.pos, hl, ed, h1, h2]
  rintro (h | h)
  · exact absurd (ha.symm.trans h) (by decide)
  · exact absurd (hb'.symm.trans h) (by decide)
theorem t_par (g : GS X ca N sc hot xa k) {tg e : PySem.Expr} {m : MP.S} {f : Rc} {pos : Pos} (hf : Snd X xa ca D G k W (f false sc)) (h : cPar N hot f sc tg e = some m) : PSm X xa ca D G k W (.Assign [tg] e pos) m := by
  unfold cPar at h
  split at h
  · rename_i x px y py kt pt a b k2 pt2
    split at h
    · rename_i hc
      obtain ⟨hh, hx, hy, hxy, hl, sa, sb, h1, h2⟩ := hc
      obtain ⟨i, hi, h⟩ := opt_bind h
      obtain ⟨j, hj, h⟩ := opt_bind h
      obtain ⟨es, he, rfl⟩ := opt_map h
      have hs := g.ge.sc
      subst hs
      have ni := slot_of hi
      have nj := slot_of hj
      have hij : i ≠ j := fun z => hxy (by subst z; rw [ni] at nj; exact Option.some.inj nj)
      refine ps_of (ps_par (g.ge.calm hh) (by rw [g.ge.nN]; exact g.ge.nd) (by rw [g.ge.nN]; exact ni) (by rw [g.ge.nN]; exact nj) hij hx hy (args_sound hf he) (sw_pair g.kind hx hy hxy hl sa sb h1 h2)) ?_
      rintro DD σ H ⟨ρ, μ, S, er, sr, q⟩
      refine ⟨ρ, μ, S, er, sr, Post.bindS q er sr _ fun v S1 vs μ1 H1 x1 sr1 r1 h1 => ?_⟩
      have h1 : PostS X.K xa ca μ1 H1 (match asTup v with
        | [v, w] => .ok (.next ((ρ.set i (some v)).set j (some w))) S1
        | _ => .bad) DD W := h1
      have r1 : Rels X.K xa H1 μ1 (asTup v) vs := r1
      split at h1
      · rename_i p q e
        rw [e] at r1
        obtain ⟨u, us, rfl, ru, u2, us2, rfl, rw2, e3⟩ := r1
        subst e3
        exact ⟨u, u2, rfl, h1 _ μ1 H1 (Ex.refl _ _) sr1 (((er.mono sr x1).set i ru).set j rw2)⟩
      · exact h1.elim
    · cases h
  · cases h
/-! ### try -/
theorem Facts.suite (F : Facts X T ca D G k) (a : Addr) (pn : List (Addr × Obj)) : Facts (X.suite a pn) T ca D G k := ⟨F.fns, F.consts, F.dicts, fun x c h => let C := F.clss x c h; ⟨C.mg, C.keep, C.exc, C.rais, C.ex, C.kyes, C.kno, C.yes, C.no⟩, F.blts⟩
theorem GS.tr (g : GS X ca N sc hot xa k) (hh : hot = false) (pn : List (Addr × Obj)) (xe : Value → Shared → Prop) (hp : PassesOwn (model X.prog X.w) X.A X.env xe) : GS (X.tr pn xe) ca N sc hot xa k :=
  ⟨g.ge.trE hh pn xe, g.tg, g.kind, g.stk, fun _ => hp⟩
theorem GS.suite (g : GS X ca N sc hot xa k) {a : Addr} {c : Nat} {oe : Obj} {pn : List (Addr × Obj)} (C : ExcC X.K (ca c)) (hz : Zc (.ref (ca c)) none oe) (hf : ∃ vs, oe.data = .fields vs) : GS (X.suite a ((a, oe) :: pn)) ca N sc true (some (a, c)) k :=
  ⟨⟨g.ge.nN, g.ge.nd, g.ge.sc, (fun z => by cases z), (fun z => by cases z), (fun _ z => by cases z), g.ge.un, (fun z => by cases z), fun _ a' c' e => by cases e; exact call_isE C hz hf⟩, g.tg, g.kind, (fun z => by cases z), fun z => by cases z⟩
theorem takes_none {Y : Cx} : Takes Y WF := fun u s' ⟨a, B, sI, pins, σ, H, cls, d, e, I, nb, up, sky, na, os, ag, w⟩ => w.elim
/-- what the handler's block promises of the exception a of the class c -/
def tsH (X : Cx) (T : Tab) (ca : Nat → Addr) (D : Nat → Option FD) (G : Nat → Option PV) (k : Nat) (cs : List Nat) (m : MP.S) (a : Addr) (cls : Value) (d : Option Addr) : TS := fun DD σ H => ∃ c, cls = .ref (ca c) ∧ d = none ∧ c ∈ cs ∧ tRS X.K (some (a, c)) ca WF (exS (callF D G k) G m) DD σ H
theorem suite_ok {g : List Stmt → Option MP.S} (hg : SndS T N sc true ca D G k g) (gs : GS X ca N sc hot xa k) (F : Facts X T ca D G k) {cs : List Nat} (hcs : ∀ c ∈ cs, ExcC X.K (ca c)) {su : List Stmt} {m : MP.S} (h : g su = some m) (a : Addr) (oe : Obj) (cls : Value) (d : Option Addr) (pn : List (Addr × Obj)) (hz : Zc cls d oe) (hf : ∃ vs, oe.data = .fields vs) :
    PSs (X.suite a ((a, oe) :: pn)) su (tsH X T ca D G k cs m a cls d) := by
  refine ⟨fun pins s σ H DD I q => ?_⟩
  obtain ⟨c, e1, e2, hc, q⟩ := q
  subst e1 e2
  exact (hg (X.suite a ((a, oe) :: pn)) (some (a, c)) WF su m h (gs.suite (hcs c hc) hz hf) (F.suite _ _) takes_none).run pins s σ H DD I q
def clrS (x : Option Nat) (σ : L2.St) : L2.St := match x with
  | none => σ
  | some i => σ.set i none
theorem end_of {x : Option Nat} {a : Addr} {c : Nat} {r : ResS} {DD DD' : Ends} {μ : Mu} {H : Hp} {K : PySem.W.Frag} (h : PostS K none ca μ H (endX x r) DD W)
    (hn : ∀ ρ σ μ H, ER K (some (a, c)) H μ ρ σ → ∀ Q : L2.St → Hp → Prop, True → ∃ σ', ER K none H μ (clrX x ρ) σ' ∧ (σ' = clrS x σ))
    (h1 : ∀ σ H, DD.nx (clrS x σ) H → DD'.nx σ H) (h2 : ∀ σ H, DD.bk (clrS x σ) H → DD'.bk σ H) (h3 : ∀ σ H, DD.ct (clrS x σ) H → DD'.ct σ H) (h4 : ∀ v H, DD.rt v H → DD'.rt v H) :
    PostS K (some (a, c)) ca μ H r DD' WF := by
  cases r with
  | bad => exact h
  | ok o S1 =>
    cases o with
    | next ρ => exact fun σ1 μ1 H1 x1 s1 e1 => h1 σ1 H1 (by obtain ⟨σ', e2, rfl⟩ := hn _ _ _ _ e1 (fun _ _ => True) trivial; exact h _ μ1 H1 x1 s1.xx e2)
    | brk ρ => exact fun σ1 μ1 H1 x1 s1 e1 => h2 σ1 H1 (by obtain ⟨σ', e2, rfl⟩ := hn _ _ _ _ e1 (fun _ _ => True) trivial; exact h _ μ1 H1 x1 s1.xx e2)
    | cont ρ => exact fun σ1 μ1 H1 x1 s1 e1 => h3 σ1 H1 (by obtain ⟨σ', e2, rfl⟩ := hn _ _ _ _ e1 (fun _ _ => True) trivial; exact h _ μ1 H1 x1 s1.xx e2)
    | ret v => exact fun y μ1 H1 x1 s1 r1 => h4 y H1 (h y μ1 H1 x1 s1.xx (Rel.xx _ _ r1))
    | exc d ρ => exact h.elim
theorem clr_ok (x : Option Nat) {a : Addr} {c : Nat} {K : PySem.W.Frag} (ρ : Nv) (σ : L2.St) (μ : Mu) (H : Hp) (e : ER K (some (a, c)) H μ ρ σ) : ∀ Q : L2.St → Hp → Prop, True → ∃ σ', ER K none H μ (clrX x ρ) σ' ∧ (σ' = clrS x σ) := fun _ _ => by
  cases x with
  | none => exact ⟨σ, e.cool, rfl⟩
  | some i => exact ⟨_, (e.unset i).cool, rfl⟩
theorem t_try {g gh : List Stmt → Option MP.S} (hg : SndS T N sc hot ca D G k g) (hgh : SndS T N sc true ca D G k gh) (gs : GS X ca N sc hot xa k) (F : Facts X T ca D G k) (tk : Takes X W) {body : List Stmt} {hs : List ExceptHandler} {m : MP.S} {pos : Pos} (h : cTry T N hot g gh sc body hs = some m) : PSm X xa ca D G k W (.Try body hs [] [] pos) m := by
  unfold cTry at h
  split at h
  · rename_i x np b su hp
    split at h
    · rename_i hc
      obtain ⟨hh, hgl, hd⟩ := hc
      obtain ⟨c, hcl, h⟩ := opt_bind h
      obtain ⟨p, hb, h⟩ := opt_bind h
      obtain ⟨q, hq, rfl⟩ := opt_map h
      have C := F.clss x c hcl
      have hsc := gs.ge.sc
      subst hsc
      have hx := gs.ge.cold hh
      subst hx
      obtain ⟨stk, frm⟩ := gs.stk hh
      refine ps_of (ps_try_only (tb := fun W' => tRS X.K none ca W' (exS (callF D G k) G p)) stk frm ⟨gl_of hgl, str_ne hd, .inl C.mg⟩ tk (fun W' pn xe tk' po => hg (X.tr pn xe) none W' body p hb (gs.tr hh pn xe po) (F.tr pn xe) tk') (fun a oe cls d pn hz hf => suite_ok hgh gs F C.ex hq a oe cls d pn hz hf)) ?_
      rintro DD σ H ⟨ρ, μ, S, er, sr, r⟩
      refine ⟨ρ, μ, S, er, sr, ?_⟩
      have r : PostS X.K none ca μ H (match exS (callF D G k) G p ρ S with
        | .ok (.exc d ρ1) T1 => if d ∈ T.caught c then endX none (exS (callF D G k) G q (holdX none d ρ1) T1)
          else if d ∈ T.passed c then .ok (.exc d ρ1) T1 else .bad
        | r => r) DD W := r
      cases e : exS (callF D G k) G p ρ S with
      | bad => rw [e] at r; exact r
      | ok o S1 =>
        rw [e] at r
        cases o with
        | exc d ρ1 =>
          have r : PostS X.K none ca μ H (if d ∈ T.caught c then endX none (exS (callF D G k) G q (holdX none d ρ1) S1)
            else if d ∈ T.passed c then .ok (.exc d ρ1) S1 else .bad) DD W := r
          split at r
          · rename_i hm
            refine fun σ1 μ1 H1 x1 s1 e1 => ⟨true, C.yes d hm, fun _ a ha => ⟨d, rfl, rfl, hm, ρ1, μ1, S1, e1.hot0, s1.xx, end_of (PostS.shift r x1) (clr_ok none) (fun _ _ h => h) (fun _ _ h => h) (fun _ _ h => h) (fun _ _ h => h)⟩, fun z => by cases z⟩
          · split at r
            · rename_i hm
              exact fun σ1 μ1 H1 x1 s1 e1 => ⟨false, C.no d hm, (fun z => by cases z), fun _ => r σ1 μ1 H1 x1 s1 e1⟩
            · exact r.elim
        | _ => exact r
    · cases h
  · rename_i x np n b su hp
    split at h
    · rename_i hc
      obtain ⟨hh, hgl, hd, hl⟩ := hc
      obtain ⟨c, hcl, h⟩ := opt_bind h
      obtain ⟨i, hi, h⟩ := opt_bind h
      obtain ⟨p, hb, h⟩ := opt_bind h
      obtain ⟨q, hq, rfl⟩ := opt_map h
      have C := F.clss x c hcl
      have hsc := gs.ge.sc
      subst hsc
      have hx := gs.ge.cold hh
      subst hx
      obtain ⟨stk, frm⟩ := gs.stk hh
      refine ps_of (ps_try_as (tb := fun W' => tRS X.K none ca W' (exS (callF D G k) G p)) stk frm (by rw [gs.ge.nN]; exact gs.ge.nd) (by rw [gs.ge.nN]; exact slot_of hi) hl ⟨gl_of hgl, str_ne hd, .inl C.mg⟩ tk (fun W' pn xe tk' po => hg (X.tr pn xe) none W' body p hb (gs.tr hh pn xe po) (F.tr pn xe) tk') (fun a oe cls d pn hz hf => suite_ok hgh gs F C.ex hq a oe cls d pn hz hf)) ?_
      rintro DD σ H ⟨ρ, μ, S, er, sr, r⟩
      refine ⟨ρ, μ, S, er, sr, ?_⟩
      have r : PostS X.K none ca μ H (match exS (callF D G k) G p ρ S with
        | .ok (.exc d ρ1) T1 => if d ∈ T.caught c then endX (some i) (exS (callF D G k) G q (holdX (some i) d ρ1) T1)
          else if d ∈ T.passed c then .ok (.exc d ρ1) T1 else .bad
        | r => r) DD W := r
      cases e : exS (callF D G k) G p ρ S with
      | bad => rw [e] at r; exact r
      | ok o S1 =>
        rw [e] at r
        cases o with
        | exc d ρ1 =>
          have r : PostS X.K none ca μ H (if d ∈ T.caught c then endX (some i) (exS (callF D G k) G q (holdX (some i) d ρ1) S1)
            else if d ∈ T.passed c then .ok (.exc d ρ1) S1 else .bad) DD W := r
          split at r
          · rename_i hm
            refine fun σ1 μ1 H1 x1 s1 e1 => ⟨true, C.yes d hm, fun _ a ha => ⟨d, rfl, rfl, hm, holdX (some i) d ρ1, μ1, S1, e1.hot i, s1.xx, end_of (PostS.shift r x1) (clr_ok (some i)) (fun _ _ h => h) (fun _ _ h => h) (fun _ _ h => h) (fun _ _ h => h)⟩, fun z => by cases z⟩
          · split at r
            · rename_i hm
              exact fun σ1 μ1 H1 x1 s1 e1 => ⟨false, C.no d hm, (fun z => by cases z), fun _ => r σ1 μ1 H1 x1 s1 e1⟩
            · exact r.elim
        | _ => exact r
    · cases h
  · cases h
/-! ### statements as a whole -/
theorem folded_ok {tg iter : PySem.Expr} {f : Rc} {w : ItK × E} (h : cWalk T f sc tg iter = some w) (env : Env) : ∀ x, foldedSetIterable iter env x = pure x := fun x => by
  cases iter <;> first | rfl | (simp [cWalk] at h; done)
theorem stepS_sound {n : Nat} {g gh : List Stmt → Option MP.S} (hg : SndS T N sc hot ca D G k g) (hgh : SndS T N sc true ca D G k gh) (gs : GS X ca N sc hot xa k) (F : Facts X T ca D G k) (tk : Takes X W) {st : Stmt} {m : MP.S} (h : stepS T N hot (compE T N hot n) g gh sc st = some m) : PSm X xa ca D G k W st m := by
  have hf : ∀ b, Snd X xa ca D G k W (compE T N hot n b sc) := fun b e m he => compE_sound n X xa W b sc e m he gs.ge F tk
  unfold stepS at h
  split at h
  · obtain ⟨y, h1, rfl⟩ := opt_map h; exact t_ret (hf _ _ _ h1)
  · cases h; exact t_retN
  · unfold cAsg at h
    split at h
    · rename_i e pos tg0 x px
      split at h
      · cases h
      · rename_i hc
        obtain ⟨t, ht, h⟩ := opt_bind h
        obtain ⟨y, h1, rfl⟩ := opt_map h
        have ht : (if isLoc (sc.names.lookup x) then (slotOf N x).map Tgt.nm else none) = some t := ht
        split at ht
        · rename_i hl
          obtain ⟨i, hi, rfl⟩ := opt_map ht
          cases hcc : isComp e with
          | false => exact t_set gs hl hi hcc (hf _ _ _ h1)
          | true =>
            rw [hcc] at hc
            have hs : swapT sc x px e = true := by simpa using hc
            cases e <;> first | (cases hs; done) | skip
            · cases n with
              | zero => cases h1
              | succ n => exact t_setLc (compE_sound n) gs F tk hi hs h1
            · cases n with
              | zero => cases h1
              | succ n => exact t_setDc (compE_sound n) gs F tk hi hs h1
        · cases ht
    · split at h
      · exact t_par gs (hf _) h
      · rename_i hp
        split at h
        · cases h
        · rename_i hc
          obtain ⟨t, ht, h⟩ := opt_bind h
          obtain ⟨y, h1, rfl⟩ := opt_map h
          exact t_setT gs (by simpa using fun z => hc (.inl z)) ht (by simpa using fun z => hc (.inr z)) (by simpa using hp) (hf _ _ _ h1)
    · split at h
      · cases h
      · rename_i hc
        obtain ⟨x, h1, h⟩ := opt_bind h
        obtain ⟨y, h2, h⟩ := opt_bind h
        obtain ⟨z, h3, rfl⟩ := opt_map h
        exact t_setix gs.ge.un (by simpa using fun z => hc (.inr (.inl z))) (by simpa using fun z => hc (.inr (.inr z))) (hf _ _ _ h1) (hf _ _ _ h2) (hf _ _ _ h3)
    · cases h
  · split at h
    · rename_i hl
      obtain ⟨o, ho, h⟩ := opt_bind h
      obtain ⟨i, hi, h⟩ := opt_bind h
      obtain ⟨y, h1, rfl⟩ := opt_map h
      exact t_aug gs ho hl hi (hf _ _ _ h1)
    · cases h
  · split at h
    · cases h
    · rename_i hh
      have hh : hot = false := by simpa using hh
      obtain ⟨t, ht, h⟩ := opt_bind h
      obtain ⟨w, hw, h⟩ := opt_bind h
      obtain ⟨b, hb, rfl⟩ := opt_map h
      exact t_for gs hh ht (walk_sound (hf _) gs.ge F ⟨t, ht⟩ hw) (folded_ok hw _) (hg _ _ _ _ _ hb gs F tk)
  · split at h
    · cases h
    · rename_i hh
      have hh : hot = false := by simpa using hh
      obtain ⟨x, h1, h⟩ := opt_bind h
      obtain ⟨b, hb, rfl⟩ := opt_map h
      exact t_while gs hh (hf _ _ _ h1) (hg _ _ _ _ _ hb gs F tk)
  · obtain ⟨x, h1, h⟩ := opt_bind h
    obtain ⟨y, h2, h⟩ := opt_bind h
    obtain ⟨z, h3, rfl⟩ := opt_map h
    exact t_if (hf _ _ _ h1) (hg _ _ _ _ _ h2 gs F tk) (hg _ _ _ _ _ h3 gs F tk)
  · unfold cRaise at h
    split at h
    · split at h
      · rename_i hc
        obtain ⟨hgl, hx, hh⟩ := hc
        obtain ⟨c, hc, rfl⟩ := opt_map h
        exact t_raise gs hh F tk hgl hx hc
      · cases h
    · cases h
  · exact t_try hg hgh gs F tk h
  · split at h
    · cases h
    · rename_i hc
      obtain ⟨y, h1, rfl⟩ := opt_map h
      exact t_exp (by simpa using hc) (hf _ _ _ h1)
  · cases h; exact t_pass
  · cases h; exact t_brk
  · cases h; exact t_cont
  · cases h
/-- a statement that is not served is not come to -/
theorem t_bad {st : Stmt} : PSm X xa ca D G k W st .bad := ⟨fun pins s σ H DD I q => by
  obtain ⟨ρ, μ, S, er, sr, q⟩ := q
  exact q.elim⟩
theorem stepSs_sound {p : Stmt → Option MP.S} (hp : ∀ st m, p st = some m → PSm X xa ca D G k W st m) : ∀ {st : List Stmt} {m : MP.S}, stepSs p st = some m → PSsm X xa ca D G k W st m
  | [], m, h => by cases h; exact t_nil
  | s :: r, m, h => by
    obtain ⟨b, h2, rfl⟩ := opt_map h
    refine t_cons ?_ (stepSs_sound hp h2)
    cases e : p s with
    | none => exact t_bad
    | some a => exact hp s a e
theorem compS_sound : ∀ (n : Nat) (hot : Bool), SndS T N sc hot ca D G k (compS T N sc n hot)
  | 0, _ => fun X xa W st m h => by cases h
  | n + 1, hot => fun X xa W st m h gs F tk => stepSs_sound (fun s m hs => stepS_sound (compS_sound n hot) (compS_sound n true) gs F tk hs) h
end
end MP

set_option Elab.async false
set_option linter.all false
set_option maxRecDepth 100000
set_option maxHeartbeats 2000000
/-! M8: the defs of a module do what their trees do, at every level of calls. -/
namespace MP
open PySem PySem.Spec PyProof.Rows L2
def psOf (s : Stmt) : List Str := (defArgs s).args.map (·.arg)
/-! ### what a def lets go -/
section
variable {K : PySem.W.Frag} {xa : Option (Addr × Nat)} {H : Hp} {μ : Mu}
mutual
theorem same_eq : ∀ a b : PV, same a b = true → a = b
  | .non, b, h => by cases b <;> first | rfl | cases h
  | .bl x, b, h => by cases b <;> first | (cases h; done) | skip
                      rw [show x = _ from eq_of_beq h]
  | .int x, b, h => by cases b <;> first | (cases h; done) | skip
                       rw [show x = _ from eq_of_beq h]
  | .str x, b, h => by cases b <;> first | (cases h; done) | skip
                       rw [show x = _ from eq_of_beq h]
  | .tup xs, b, h => by cases b <;> first | (cases h; done) | skip
                        rw [sames_eq xs _ h]
  | .frz xs, b, h => by cases b <;> first | (cases h; done) | skip
                        rw [sames_eq xs _ h]
  | .vl xs, b, h => by cases b <;> first | (cases h; done) | skip
                       rw [sames_eq xs _ h]
  | .vd ks xs, b, h => by cases b <;> first | (cases h; done) | skip
                          unfold same at h
                          rw [Bool.and_eq_true] at h
                          rw [of_decide_eq_true h.1, sames_eq xs _ h.2]
  | .ref x, b, h => by cases b <;> first | (cases h; done) | skip
                       rw [show x = _ from eq_of_beq h]
  | .fn x, b, h => by cases b <;> first | (cases h; done) | skip
                      rw [show x = _ from eq_of_beq h]
  | .exc x, b, h => by cases b <;> first | (cases h; done) | skip
                       rw [show x = _ from eq_of_beq h]
theorem sames_eq : ∀ xs ys : List PV, sames xs ys = true → xs = ys
  | [], ys, h => by cases ys <;> first | rfl | cases h
  | x :: xs, [], h => by cases h
  | x :: xs, y :: ys, h => by
    unfold sames at h
    rw [Bool.and_eq_true] at h
    rw [same_eq x y h.1, sames_eq xs ys h.2]
end
theorem sameO_eq {a b : MO} (h : sameO a b = true) : a = b := by
  cases a <;> cases b <;> first | (cases h; done) | skip
  · rw [sames_eq _ _ h]
  · unfold sameO at h
    rw [Bool.and_eq_true] at h
    rw [of_decide_eq_true h.1, sames_eq _ _ h.2]
  · unfold sameO at h
    rw [Bool.and_eq_true, Bool.and_eq_true] at h
    rw [eq_of_beq h.1.1, of_decide_eq_true h.1.2, sames_eq _ _ h.2]
mutual
theorem low_rel : ∀ (p : PV) (v : V), Rel K xa H μ p v → low μ.st.length p = true
  | .non, _, _ => rfl
  | .bl _, _, _ => rfl
  | .int _, _, _ => rfl
  | .str _, _, _ => rfl
  | .tup xs, _, h => by obtain ⟨a, vs, _, _, q⟩ := h; exact lows_rel xs vs q
  | .frz xs, _, h => by obtain ⟨a, vs, _, _, q⟩ := h; exact lows_rel xs vs q
  | .vl xs, _, h => by obtain ⟨a, vs, _, _, q⟩ := h; exact lows_rel xs vs q
  | .vd ks xs, _, h => by obtain ⟨a, vs, _, _, _, q⟩ := h; exact lows_rel xs _ q
  | .ref n, _, h => by
    obtain ⟨a, _, e⟩ := h
    exact decide_eq_true (List.getElem?_eq_some_iff.mp e).1
  | .fn _, _, _ => rfl
  | .exc _, _, h => h.2.elim
theorem lows_rel : ∀ (ps : List PV) (vs : List V), Rels K xa H μ ps vs → lows μ.st.length ps = true
  | [], _, _ => rfl
  | p :: ps, _, h => by
    obtain ⟨v, ws, _, h1, h2⟩ := h
    unfold lows
    rw [low_rel p v h1, lows_rel ps ws h2]
    rfl
end
mutual
theorem cut_rel {ν : List Addr} {R : List Addr} : ∀ (p : PV) (v : V), low μ.st.length p = true → Rel K xa H ⟨μ.st ++ ν, R⟩ p v → Rel K xa H ⟨μ.st, R⟩ p v
  | .non, _, _, h => h
  | .bl _, _, _, h => h
  | .int _, _, _, h => h
  | .str _, _, _, h => h
  | .tup xs, _, l, h => by obtain ⟨a, vs, e, s, q⟩ := h; exact ⟨a, vs, e, s, cut_rels xs vs l q⟩
  | .frz xs, _, l, h => by obtain ⟨a, vs, e, s, q⟩ := h; exact ⟨a, vs, e, s, cut_rels xs vs l q⟩
  | .vl xs, _, l, h => by obtain ⟨a, vs, e, ⟨s, n1, n2⟩, q⟩ := h; exact ⟨a, vs, e, ⟨s, fun z => n1 (List.mem_append_left _ z), n2⟩, cut_rels xs vs l q⟩
  | .vd ks xs, _, l, h => by obtain ⟨a, kvs, e, ⟨s, n1, n2⟩, k, q⟩ := h; exact ⟨a, kvs, e, ⟨s, fun z => n1 (List.mem_append_left _ z), n2⟩, k, cut_rels xs _ l q⟩
  | .ref n, _, l, h => by
    obtain ⟨a, e, s⟩ := h
    have l : n < μ.st.length := of_decide_eq_true l
    exact ⟨a, e, by rw [← s]; exact (List.getElem?_append_left l).symm⟩
  | .fn _, _, _, h => h
  | .exc _, _, _, h => h
theorem cut_rels {ν : List Addr} {R : List Addr} : ∀ (ps : List PV) (vs : List V), lows μ.st.length ps = true → Rels K xa H ⟨μ.st ++ ν, R⟩ ps vs → Rels K xa H ⟨μ.st, R⟩ ps vs
  | [], _, _, h => h
  | p :: ps, _, l, h => by
    obtain ⟨v, ws, e, h1, h2⟩ := h
    unfold lows at l
    rw [Bool.and_eq_true] at l
    exact ⟨v, ws, e, cut_rel p v l.1 h1, cut_rels ps ws l.2 h2⟩
end
theorem lowS_at {n : Nat} : ∀ (T T' : Store) (i : Nat) (b : MO), lowS n T T' = true → i < T.length → T'[i]? = some b → (∃ a, T[i]? = some a ∧ a = b) ∨ lowO n b = true
  | [], _, i, _, _, h, _ => absurd h (Nat.not_lt_zero i)
  | _ :: _, [], _, _, h, _, _ => by cases h
  | a :: T, c :: T', 0, b, h, _, e => by
    have e : c = b := by simpa using e
    subst e
    unfold lowS at h
    rw [Bool.and_eq_true, Bool.or_eq_true] at h
    rcases h.1 with z | z
    · exact .inl ⟨a, rfl, sameO_eq z⟩
    · exact .inr z
  | a :: T, c :: T', i + 1, b, h, l, e => by
    unfold lowS at h
    rw [Bool.and_eq_true] at h
    have := lowS_at T T' i b h.2 (by simpa using l) (by simpa using e)
    simpa using this
/-- the store's new part is let go -/
theorem cut_sr {H1 : Hp} {μ1 : Mu} {S T : Store} (s0 : SR K xa H μ S) (x : Ex μ μ1 H H1) (s1 : SR K xa H1 μ1 T) (hl : S.length < T.length) (h : lowS S.length S T = true) :
    Ex μ ⟨μ.st, μ1.rs⟩ H H1 ∧ SR K xa H1 ⟨μ.st, μ1.rs⟩ (T.take S.length) := by
  obtain ⟨ν, hν⟩ := x.pre
  obtain ⟨st1, R⟩ := μ1
  have hν : st1 = μ.st ++ ν := hν
  subst hν
  refine ⟨⟨⟨[], by simp⟩, x.rs, x.fr, fun b h => .inl h, x.newR⟩, ?_, fun n a o h1 h2 => ?_, fun n m a h1 h2 => ?_, fun b hb => ?_⟩
  · show μ.st.length = _
    rw [List.length_take, s0.len]
    omega
  · have h1 : μ.st[n]? = some a := h1
    have hn : n < μ.st.length := (List.getElem?_eq_some_iff.mp h1).1
    have hn' : n < S.length := by rw [← s0.len]; exact hn
    rw [List.getElem?_take_of_lt hn'] at h2
    obtain ⟨u, ps, vs, e, sh, q⟩ := s1.cell n a o (by rw [List.getElem?_append_left hn]; exact h1) h2
    refine ⟨u, ps, vs, e, sh, cut_rels ps vs ?_ q⟩
    have lo : lowO μ.st.length o = true := by
      rcases lowS_at S T n o h hn' h2 with ⟨a', h3, rfl⟩ | z
      · obtain ⟨u', ps', vs', _, sh', q'⟩ := s0.cell n a a' h1 h3
        cases a' with
        | lst xs => have := sh'.1; subst this; exact lows_rel _ _ q'
        | dct ks xs => have := sh'.1; subst this; exact lows_rel _ _ q'
        | obj c fs xs => have := sh'.1; subst this; exact lows_rel _ _ q'
      · rw [s0.len]; exact z
    cases o with
    | lst xs => have := sh.1; subst this; exact lo
    | dct ks xs => have := sh.1; subst this; exact lo
    | obj c fs xs => have := sh.1; subst this; exact lo
  · exact s0.inj n m a h1 h2
  · obtain ⟨o, e, n⟩ := s1.res b hb
    exact ⟨o, e, fun z => n (List.mem_append_left _ z)⟩
theorem told1_ok {ν : List Addr} {R : List Addr} {T : Store} (s1 : SR K xa H ⟨μ.st ++ ν, R⟩ T) {p : PV} {v : V} (l : low μ.st.length (told1 μ.st.length T p) = true) (h : Rel K xa H ⟨μ.st ++ ν, R⟩ p v) : Rel K xa H ⟨μ.st, R⟩ (told1 μ.st.length T p) v := by
  cases p with
  | ref m =>
    obtain ⟨a, rfl, e⟩ := h
    by_cases hm : μ.st.length ≤ m
    · have mem : a ∈ μ.st ++ ν := List.mem_of_getElem? e
      have na : a ∉ μ.st := fun z => by
        obtain ⟨j, hj, ej⟩ := List.mem_iff_getElem.mp z
        have := s1.inj j m a (by show (μ.st ++ ν)[j]? = some a; rw [List.getElem?_append_left hj, List.getElem?_eq_getElem hj, ej]) e
        omega
      have nr : a ∉ R := fun z => by
        obtain ⟨_, _, n⟩ := s1.res a z
        exact n mem
      cases eT : T[m]? with
      | none =>
        have z : told1 μ.st.length T (.ref m) = .ref m := by unfold told1; simp only [hm, if_true, eT]
        rw [z] at l ⊢
        exact cut_rel _ _ l ⟨a, rfl, e⟩
      | some o =>
        cases o with
        | lst xs =>
          have z : told1 μ.st.length T (.ref m) = .vl xs := by unfold told1; simp only [hm, if_true, eT]
          rw [z] at l ⊢
          obtain ⟨u, ps, vs, e1, ⟨rfl, rfl⟩, q⟩ := s1.cell m a _ e eT
          exact ⟨a, vs, rfl, ⟨e1, na, nr⟩, cut_rels _ _ l q⟩
        | dct ks xs =>
          have z : told1 μ.st.length T (.ref m) = .vd ks xs := by unfold told1; simp only [hm, if_true, eT]
          rw [z] at l ⊢
          obtain ⟨u, ps, vs, e1, ⟨rfl, kvs, rfl, hk, rfl⟩, q⟩ := s1.cell m a _ e eT
          exact ⟨a, kvs, rfl, ⟨e1, na, nr⟩, hk, cut_rels _ _ l q⟩
        | obj c fs xs =>
          have z : told1 μ.st.length T (.ref m) = .ref m := by unfold told1; simp only [hm, if_true, eT]
          rw [z] at l ⊢
          exact cut_rel _ _ l ⟨a, rfl, e⟩
    · have z : told1 μ.st.length T (.ref m) = .ref m := by unfold told1; simp only [hm, if_false]
      rw [z] at l ⊢
      exact cut_rel _ _ l ⟨a, rfl, e⟩
  | _ => exact cut_rel _ _ l h
theorem told1s_ok {ν : List Addr} {R : List Addr} {T : Store} (s1 : SR K xa H ⟨μ.st ++ ν, R⟩ T) : ∀ {ps : List PV} {vs : List V}, lows μ.st.length (ps.map (told1 μ.st.length T)) = true → Rels K xa H ⟨μ.st ++ ν, R⟩ ps vs → Rels K xa H ⟨μ.st, R⟩ (ps.map (told1 μ.st.length T)) vs
  | [], _, _, h => h
  | p :: ps, _, l, h => by
    obtain ⟨v, ws, rfl, h1, h2⟩ := h
    rw [List.map_cons] at l ⊢
    unfold lows at l
    rw [Bool.and_eq_true] at l
    exact ⟨v, ws, rfl, told1_ok s1 l.1 h1, told1s_ok s1 l.2 h2⟩
theorem toldV_ok {ν : List Addr} {R : List Addr} {T : Store} (s1 : SR K xa H ⟨μ.st ++ ν, R⟩ T) {p : PV} {v : V} (l : low μ.st.length (toldV μ.st.length T p) = true) (h : Rel K xa H ⟨μ.st ++ ν, R⟩ p v) : Rel K xa H ⟨μ.st, R⟩ (toldV μ.st.length T p) v := by
  cases p with
  | tup xs =>
    obtain ⟨a, vs, e, s, q⟩ := h
    exact ⟨a, vs, e, s, told1s_ok s1 l q⟩
  | non => exact told1_ok (p := .non) s1 l h
  | bl b => exact told1_ok (p := .bl b) s1 l h
  | int i => exact told1_ok (p := .int i) s1 l h
  | str s => exact told1_ok (p := .str s) s1 l h
  | frz xs => exact told1_ok (p := .frz xs) s1 l h
  | vl xs => exact told1_ok (p := .vl xs) s1 l h
  | vd ks xs => exact told1_ok (p := .vd ks xs) s1 l h
  | ref n => exact told1_ok (p := .ref n) s1 l h
  | fn f => exact told1_ok (p := .fn f) s1 l h
  | exc c => exact told1_ok (p := .exc c) s1 l h
theorem letGo_post {ca : Nat → Addr} {S : Store} {r : Res PV} {Q : V → Hp → Prop} {E : Value → Option Addr → Hp → Prop} (s0 : SR K xa H μ S) (q : Post K xa ca (rV K xa) μ H (letGo S r) Q E) : Post K xa ca (rV K xa) μ H r Q E := by
  cases r with
  | bad => exact q
  | ok v T =>
    have q : Post K xa ca (rV K xa) μ H (if T.length ≤ S.length then .ok v T else
      if low S.length (toldV S.length T v) && lowS S.length S T then .ok (toldV S.length T v) (T.take S.length) else .ok v T) Q E := q
    split at q
    · exact q
    · rename_i hl
      split at q
      · rename_i hc
        rw [Bool.and_eq_true] at hc
        intro x μ1 H1 x1 s1 r1
        obtain ⟨x2, s2⟩ := cut_sr s0 x1 s1 (by omega) hc.2
        obtain ⟨ν, hν⟩ := x1.pre
        obtain ⟨st1, R⟩ := μ1
        have hν : st1 = μ.st ++ ν := hν
        subst hν
        rw [← s0.len] at hc q
        exact q x _ H1 x2 (by rw [s0.len]; exact s2) (toldV_ok s1 hc.1 r1)
      · exact q
  | exc c T =>
    have q : Post K xa ca (rV K xa) μ H (if T.length ≤ S.length then .exc c T else if lowS S.length S T then .exc c (T.take S.length) else .exc c T) Q E := q
    split at q
    · exact q
    · rename_i hl
      split at q
      · rename_i hc
        intro μ1 H1 x1 s1
        obtain ⟨x2, s2⟩ := cut_sr s0 x1 s1 (by omega) hc
        exact q _ H1 x2 s2
      · exact q
end
/-- a class of exceptions in the frozen heap -/
structure ClsF (K : PySem.W.Frag) (mg : Str → Option Value) (T : Tab) (ca : Nat → Addr) (x : Str) (c : Nat) : Prop where
  mg : mg x = some (.ref (ca c))
  keep : PySem.W.keepIn K (.ref (ca c)) = true
  exc : PySem.W.excIn K (ca c) veRow "ValueError.__new__" = true
  sub : PySem.W.subIn K (.ref (ca c)) (.type "BaseException") = some true
  ty : PySem.W.typeIn K (.ref (ca c)) = some (.type "type")
  ex : ∀ d ∈ T.caught c, ExcC K (ca d)
  kyes : ∀ d ∈ T.caught c, PySem.W.kitOne K (.ref (ca d)) (.ref (ca c)) = some true
  kno : ∀ d ∈ T.passed c, PySem.W.kitOne K (.ref (ca d)) (.ref (ca c)) = some false
  yes : ∀ d ∈ T.caught c, PySem.W.exmOne K (.ref (ca d)) (.ref (ca c)) = some true
  no : ∀ d ∈ T.passed c, PySem.W.exmOne K (.ref (ca d)) (.ref (ca c)) = some false
/-- a def in the frozen heap, and its tree -/
structure FnF (K : PySem.W.Frag) (mg : Str → Option Value) (T : Tab) (D : Nat → Option FD) (x : Str) (f : Nat) : Prop where
  ex : ∃ (a : Addr) (fd : FuncData) (st : Stmt) (N : List Str) (n : Nat) (m : MP.S) (mu : List Str) (keep nest kp : Bool), mg x = some (.ref a) ∧ Fun K x x st a fd ∧ Binds K fd (psOf st) [] ∧ FnScope N (psOf st) (defScope st) ∧ compS { T with mu := mu, keep := keep, nest := nest } N (defScope st) n false (defBody st) = some m ∧ D f = some ⟨(psOf st).length, N.length, kp, m⟩
/-- the module -/
structure Wd (w : World) (K : PySem.W.Frag) (mg : Str → Option Value) (T : Tab) (ca : Nat → Addr) (D : Nat → Option FD) (G : Nat → Option PV) : Prop where
  fns : ∀ x f, T.fns.lookup x = some f → FnF K mg T D x f
  consts : ∀ x g, T.consts.lookup x = some g → ∃ v u pv, G g = some pv ∧ mg x = some u ∧ RelV v u ∧ ∀ xa H μ, Rel K xa H μ pv v
  dicts : ∀ x g, T.dicts.lookup x = some g → ∃ d es n ks vs, G g = some (.vd ks vs) ∧ mg x = some (.ref d) ∧ KDict K w d es n ∧
    ∀ z : List Nat, ∃ r, PySem.W.nsIn K d ⟨z.toArray⟩ = some r ∧ match kGet ks vs (.s z) with
      | some p => ∃ u v, r = some u ∧ RelV v u ∧ ∀ xa H μ, Rel K xa H μ p v
      | none => r = none
  clss : ∀ x c, T.clss.lookup x = some c → ClsF K mg T ca x c
  blts : ∀ x, x ∈ T.blts → mg x = none
section
variable {P : Program} {w : World} {K : PySem.W.Frag} {mg : Str → Option Value} {base : Heap} {T : Tab} {ca : Nat → Addr} {D : Nat → Option FD} {G : Nat → Option PV}
/-- every def does what its tree does, down to the level k -/
def FnsAt (P : Program) (w : World) (K : PySem.W.Frag) (mg : Str → Option Value) (base : Heap) (T : Tab) (ca : Nat → Addr) (D : Nat → Option FD) (G : Nat → Option PV) (k : Nat) : Prop := ∀ x f, T.fns.lookup x = some f → ∃ (a : Addr) (fd : FuncData) (ps : List Str), mg x = some (.ref a) ∧ PySem.W.keepIn K (.ref a) = true ∧ Binds K fd ps [] ∧ (∃ d, D f = some d ∧ d.np = ps.length) ∧
    FnOk P w K mg base (L2.CX P w) k a fd ps (spM K ca D G k f ps.length)
theorem facts_of (W : Wd w K mg T ca D G) {k : Nat} (F : FnsAt P w K mg base T ca D G k) (X : Cx) (h1 : X.prog = P) (h2 : X.w = w) (h3 : X.K = K) (h4 : X.mg = mg) (h5 : X.base = base) : Facts X T ca D G k := by
  subst h1 h2 h3 h4 h5
  exact ⟨F, W.consts, W.dicts, fun x c h => let C := W.clss x c h; ⟨C.mg, C.keep, C.exc, raises_own C.sub C.ty, C.ex, C.kyes, C.kno, C.yes, C.no⟩, W.blts⟩
theorem lt_of_un {k : Nat} {A : Around} (h : Room k A) : A.units + 70 < cLine := by have := h.un; omega
/-- the hints of a def touch no fact -/
theorem Facts.hint {X : Cx} {k : Nat} (F : Facts X T ca D G k) (mu : List Str) (keep nest : Bool) : Facts X { T with mu := mu, keep := keep, nest := nest } ca D G k := ⟨F.fns, F.consts, F.dicts, fun x c h => let C := F.clss x c h; ⟨C.mg, C.keep, C.exc, C.rais, C.ex, C.kyes, C.kno, C.yes, C.no⟩, F.blts⟩
theorem fn_one (W : Wd w K mg T ca D G) {k : Nat} (ih : FnsAt P w K mg base T ca D G k) {x : Str} {f : Nat} {a : Addr} {fd : FuncData} {st : Stmt} {N : List Str} {n : Nat} {m : MP.S} {mu : List Str} {keep nest kp : Bool} (hF : Fun K x x st a fd) (hS : FnScope N (psOf st) (defScope st)) (hc : compS { T with mu := mu, keep := keep, nest := nest } N (defScope st) n false (defBody st) = some m) (hD : D f = some ⟨(psOf st).length, N.length, kp, m⟩) :
    FnOk P w K mg base (L2.CX P w) (k + 1) a fd (psOf st) (spM K ca D G (k + 1) f (psOf st).length) := by
  refine Fun.okX hF hS (fun vs H Q E q => q.1) fun cdv A outer s H vs Q E hr q => ?_
  obtain ⟨hl, ws, μ, S, rs, sr, q⟩ := q
  have hw : ws.length = (psOf st).length := by rw [rs.length]; exact hl
  have q : Post K none ca (rV K none) μ H (match D f with
    | some d => if ws.length = d.np then (if d.keep then ofBody (exS (callF D G k) G d.body (startE d.ns ws) S) else letGo S (ofBody (exS (callF D G k) G d.body (startE d.ns ws) S))) else .bad
    | none => .bad) Q E := q
  rw [hD] at q
  have q : Post K none ca (rV K none) μ H (if ws.length = (psOf st).length then (if kp then ofBody (exS (callF D G k) G m (startE N.length ws) S) else letGo S (ofBody (exS (callF D G k) G m (startE N.length ws) S))) else .bad) Q E := q
  rw [if_pos hw] at q
  have q : Post K none ca (rV K none) μ H (ofBody (exS (callF D G k) G m (startE N.length ws) S)) Q E := by
    cases kp with
    | true => exact q
    | false => exact letGo_post sr q
  have F := facts_of W ih (cxOf (L2.CX P w) P w K mg base N x (defScope st) a cdv A outer s H E) rfl rfl rfl rfl rfl |>.hint mu keep nest
  have gs : GS (cxOf (L2.CX P w) P w K mg base N x (defScope st) a cdv A outer s H E) ca N (defScope st) false none k :=
    ⟨⟨rfl, hS.nd, rfl, fun _ => rfl, fun _ => hr, (fun _ _ => ⟨rfl, rfl⟩), (lt_of_un hr), fun _ => rfl, fun z => by cases z⟩, fun x hx => ⟨loc_of hx, .inl rfl⟩, hS.kind, fun _ => ⟨rfl, rfl⟩, fun _ => passes_of rfl⟩
  refine ⟨_, compS_sound n false _ none (fun cls d _ H => E cls d H) _ m hc gs F (takes_of rfl rfl rfl rfl), startE N.length ws, μ, S, ER.start N rs, sr, ?_⟩
  show PostS K none ca μ H (exS (callF D G k) G m (startE N.length ws) S) _ _
  cases e : exS (callF D G k) G m (startE N.length ws) S with
  | bad => rw [e] at q; exact q.elim
  | ok o S1 =>
    rw [e] at q
    cases o with
    | next ρ1 => exact fun σ1 μ1 H1 x1 s1 e1 => q .non μ1 H1 x1 s1 rfl
    | ret v => exact fun y μ1 H1 x1 s1 r1 => q y μ1 H1 x1 s1 r1
    | exc c ρ1 => exact fun σ1 μ1 H1 x1 s1 e1 => q μ1 H1 x1 s1
    | brk ρ1 => exact q.elim
    | cont ρ1 => exact q.elim
theorem fns_at (W : Wd w K mg T ca D G) : ∀ k, FnsAt P w K mg base T ca D G k
  | 0 => fun x f h => by
    obtain ⟨a, fd, st, N, n, m, mu, keep, nest, kp, hm, hF, hB, hS, hc, hD⟩ := (W.fns x f h).ex
    refine ⟨a, fd, psOf st, hm, hF.kp, hB, ⟨_, hD, rfl⟩, ⟨fun vs H Q E q => q.1, fun A outer s H args us vs Q E hr he hb hv hs => ?_⟩⟩
    obtain ⟨_, ws, μ, S, _, _, q⟩ := hs
    exact q.elim
  | k + 1 => fun x f h => by
    obtain ⟨a, fd, st, N, n, m, mu, keep, nest, kp, hm, hF, hB, hS, hc, hD⟩ := (W.fns x f h).ex
    exact ⟨a, fd, psOf st, hm, hF.kp, hB, ⟨_, hD, rfl⟩, fn_one W (fns_at W k) hF hS hc hD⟩
end
end MP

set_option Elab.async false
set_option linter.all false
set_option maxRecDepth 100000
set_option maxHeartbeats 2000000
/-! M9: from a law's row to its tree. -/
namespace MP
open PySem PySem.Spec PySem.W PyProof.Rows L2
theorem sqF_of {K : PySem.W.Frag} {H : Hp} {a : Addr} {xs : List V} (h : SqL K H a xs) (o : Only H) : SqF K H a xs := by
  rcases h with h | h
  · refine .inl ?_
    rcases o a with e | ⟨u, ys, e⟩
    · rcases h with h | ⟨_, h⟩ <;> (rw [e] at h; cases h)
    · rcases h with h | ⟨v, h⟩
      · rw [e] at h; cases h
      · exact ⟨v, h⟩
  · exact .inr h
/-- what a law's tree must do -/
def LawTrue (D : Nat → Option FD) (G : Nat → Option PV) (k i n : Nat) : Prop := ∀ ns : List Int, ns.length ≤ n → (∀ z ∈ ns, Builtin.Int.intBits z ≤ 1048576) → ∃ S, callF D G k i [.frz (ns.map PV.int)] [] = .ok (.bl true) S
theorem walk_mp {l : PySem.W.OpenLaw} {n k i : Nat} {q : Program} {loose : List Str} {XP : (Str → Option Value) → Heap → Prop} {YP : World → Heap → Prop} {d : DefRec} {K : Params → PySem.W.Frag} {T : Tab} {D : Nat → Option FD} {G : Nat → Option PV} {st : Stmt} {N : List Str} {cn : Nat} {m : MP.S} {x : Str} {mu : List Str} {keep nest kp : Bool}
    (hn : l.most = some n) (hn2 : n ≤ sizeLine) (hdf : d.params.defaults = []) (hr : Room (k + 1) callerA)
    (hY : ∀ (w : World) (h : Heap), YP w h → (K w.params).In h)
    (hS : FnScope N (psOf st) (defScope st)) (hps : psOf st = [x]) (hc : compS { T with mu := mu, keep := keep, nest := nest } N (defScope st) cn false (defBody st) = some m) (hD : D i = some ⟨1, N.length, kp, m⟩)
    (F : ∀ (w : World) (mg : Str → Option Value) (fa : Addr) (h : Heap), XP mg h → (K w.params).In h → h.Ns mainGlobals mg → mg d.name = some (.ref fa) →
      ∃ (ca : Nat → Addr) (y : Str) (fd : FuncData), Fun (K w.params) y y st fa fd ∧ (∀ (s : Shared) (u : Value), BindsTo s fd ⟨[u], []⟩ [(x, u)]) ∧ Wd w (K w.params) mg T ca D G)
    (law : LawTrue D G (k + 1) i n) : PySem.W.WalkO q loose XP YP l.row.toRowW d [] (fun f vs => PySem.call f vs) := by
  refine Att.attach_callB hn hdf fun w s₀ s₁ mg mb fa o pm cd doc a vs ns G' Y ho hd hcd hmg hobj hints hlen hbits hg => ?_
  have KX := hY w _ Y
  obtain ⟨ca, y, fd, hF, hb, W⟩ := F w mg fa _ G'.X KX G'.T.g hmg
  refine law_call (CX := L2.CX l.prog w) (k := k + 1) (sp := spM (K w.params) ca D G (k + 1) i 1) KX G'.T.g G'.T.b G'.T.builtins G'.T.nolimit hg hobj hints (Nat.le_trans hlen hn2) hr (fun base hk hbn => ?_) hb (fun H hO hS' => ?_) (fun H e s' z => by obtain ⟨_, _, _, _, _, _, _, _, _, _, _, _, z⟩ := z; exact z)
  · have h := fn_one (P := l.prog) (w := w) (base := base) (f := i) W (fns_at W k) hF hS hc (by rw [hD, hps] <;> rfl)
    rw [hps] at h
    exact h
  · obtain ⟨S, e⟩ := law ns hlen hbits
    refine ⟨rfl, [.frz (ns.map PV.int)], ⟨[], []⟩, [], ⟨.ref a, [], rfl, ⟨a, _, rfl, sqF_of hS' hO, rels_ofInts ns⟩, rfl⟩, ⟨rfl, fun n a xs h => by simp at h, fun n m a h => by simp at h, fun b h => by cases h⟩, ?_⟩
    rw [e]
    exact fun v μ' H' _ _ r => r
/-! ### the parts of Wd -/
section
variable {K : PySem.W.Frag} {mg : Str → Option Value} {T : Tab} {ca : Nat → Addr} {D : Nat → Option FD} {G : Nat → Option PV} {h : Heap}
theorem fnF_of {x : Str} {f : Nat} {a : Addr} {st : Stmt} {N : List Str} {n : Nat} {m : MP.S} (X : K.In h) (Gm : h.Ns mainGlobals mg) {oc : Value} {od an : Option Addr} {osl : Array (Option Value)} {kV doc pm cdv ct : Value}
    (hs : FnScope N (psOf st) (defScope st)) {mu : List Str} {keep nest kp : Bool} (hc : compS { T with mu := mu, keep := keep, nest := nest } N (defScope st) n false (defBody st) = some m) (hD : D f = some ⟨(psOf st).length, N.length, kp, m⟩)
    (hb : ∀ (kV doc pm : Value) (an : Option Addr) (cdv ct : Value) (us : List Value), us.length = (psOf st).length → bindArgs (PySem.W.fnOf x x (defArgs st) (defBody st) (defScope st) .none kV doc pm an cdv ct) ⟨us, []⟩ = pure ((psOf st).zip us))
    (h1 : PySem.W.nsIn K mainGlobals x = some (some (.ref a))) (h2 : K.lookup a = some ⟨oc, od, .func (PySem.W.fnOf x x (defArgs st) (defBody st) (defScope st) .none kV doc pm an cdv ct), osl⟩) (h3 : PySem.W.codeIn K cdv x = true) (h4 : PySem.W.keepIn K (.ref a) = true) : FnF K mg T D x f := by
  have F := fun_mk (st := st) h2 h3 h4
  exact ⟨a, _, st, N, n, m, mu, keep, nest, kp, PySem.W.mg_of X Gm h1, F, F.binds hb, hs, hc, hD⟩
/-- a class of the module, over ValueError at last -/
structure ClsK (K : PySem.W.Frag) (mg : Str → Option Value) (x : Str) (a : Addr) : Prop where
  g : mg x = some (.ref a)
  exc : PySem.W.excIn K a veRow "ValueError.__new__" = true
  keep : PySem.W.keepIn K (.ref a) = true
  sub : PySem.W.subIn K (.ref a) (.type "BaseException") = some true
  ty : PySem.W.typeIn K (.ref a) = some (.type "type")
  cls : PySem.W.isClsIn K a = true
  self : PySem.W.subIn K (.ref a) (.ref a) = some true
  ex : ExcC K a
theorem clsK_of {x : Str} {a : Addr} (X : K.In h) (Gm : h.Ns mainGlobals mg) (h1 : PySem.W.nsIn K mainGlobals x = some (some (.ref a))) (h2 : PySem.W.excIn K a veRow "ValueError.__new__" = true) (h3 : PySem.W.keepIn K (.ref a) = true) (h4 : PySem.W.subIn K (.ref a) (.type "BaseException") = some true)
    (h5 : PySem.W.typeIn K (.ref a) = some (.type "type")) (h6 : PySem.W.isClsIn K a = true) (h7 : PySem.W.subIn K (.ref a) (.ref a) = some true) (h8 : PySem.W.findIn K (.ref a) "__getattribute__" = some (some (.builtin "BaseException.__getattribute__")))
    (h9 : PySem.W.findIn K (.ref a) "__getattr__" = some none) (h10 : PySem.W.hasDictIn K a = true) (h11 : PySem.W.findIn K (.ref a) "__class__" = some (some (.builtin "object.__class__")))
    (h12 : PySem.W.specialIn K (.builtin "object.__class__") "__get__" = some (some (.builtin "getset_descriptor.__get__"))) (h13 : PySem.W.takesIn K (.builtin "object.__class__") = some true) (h14 : PySem.W.mroIn K a (.type "object") = some true) : ClsK K mg x a :=
  ⟨PySem.W.mg_of X Gm h1, h2, h3, h4, h5, h6, h7, ⟨h8, h9, h4, h10, h11, h12, h13, h14⟩⟩
theorem exm_gen {x : Str} {a d : Addr} {b : Bool} (C : ClsK K mg x a) (h1 : PySem.W.subIn K (.ref d) (.ref a) = some b) : PySem.W.exmOne K (.ref d) (.ref a) = some b ∧ PySem.W.kitOne K (.ref d) (.ref a) = some b := by
  have e1 : (PySem.W.subIn K (.ref a) (.type "BaseException") == some true) = true := by rw [C.sub] <;> rfl
  have e2 : ((PySem.W.clsIn K a).isSome && PySem.W.typeIn K (.ref a) == some (.type "type")) = true := by
    have h2' : (PySem.W.clsIn K a).isSome = true := C.cls
    rw [h2', C.ty] <;> rfl
  have e3 : PySem.W.kitCls K (.ref d) (.ref a) = some b := by
    show (if ((PySem.W.clsIn K a).isSome && PySem.W.typeIn K (.ref a) == some (.type "type")) = true then PySem.W.subIn K (.ref d) (.ref a) else none) = some b
    rw [if_pos e2]
    exact h1
  refine ⟨?_, ?_⟩
  · show (if (PySem.W.subIn K (.ref a) (.type "BaseException") == some true) = true then PySem.W.kitCls K (.ref d) (.ref a) else none) = some b
    rw [if_pos e1]
    exact e3
  · show (if ((Value.ref d) == (Value.ref a)) = true then some true else PySem.W.kitCls K (.ref d) (.ref a)) = some b
    split
    · rename_i e
      have e := beq_iff_eq.mp e
      rw [e, C.self] at h1
      exact h1
    · exact e3
theorem clsF_of {x : Str} {c : Nat} {y : Nat → Str} (C : ClsK K mg x (ca c)) (hy : ∀ d ∈ T.caught c, ClsK K mg (y d) (ca d)) (h1 : ∀ d ∈ T.caught c, PySem.W.subIn K (.ref (ca d)) (.ref (ca c)) = some true) (h2 : ∀ d ∈ T.passed c, PySem.W.subIn K (.ref (ca d)) (.ref (ca c)) = some false) : ClsF K mg T ca x c :=
  ⟨C.g, C.keep, C.exc, C.sub, C.ty, fun d hd => (hy d hd).ex, fun d hd => (exm_gen C (h1 d hd)).2, fun d hd => (exm_gen C (h2 d hd)).2, fun d hd => (exm_gen C (h1 d hd)).1, fun d hd => (exm_gen C (h2 d hd)).1⟩
end
end MP

set_option Elab.async false
set_option linter.all false
set_option maxRecDepth 100000
set_option maxHeartbeats 2000000
/-! MK: dicts of the module in the frozen heap; the tactic words of a law's end. -/
namespace MP
open PySem PySem.Spec PySem.W PyProof.Rows L2
/-- entries of a dict with text keys, in order -/
def DR (P : Params) (K : PySem.W.Frag) : List DictEntry → List PK → List PV → Prop
  | [], [], [] => True
  | e :: r, .s z :: ks, p :: ps => (∃ t, e.key = .str ⟨z.toArray⟩ t ∧ e.hash = PyData.keyHash P ⟨z.toArray⟩) ∧ (∃ v, RelV v e.val ∧ ∀ xa H μ, Rel K xa H μ p v) ∧ DR P K r ks ps
  | _, _, _ => False
section
variable {P : Params} {K : PySem.W.Frag}
theorem DR.lit : ∀ {l : List DictEntry} {ks : List PK} {ps : List PV}, DR P K l ks ps → KeysLit P l
  | [], _, _, _ => trivial
  | e :: r, .s z :: ks, p :: ps, h => ⟨⟨_, h.1.elim fun t q => ⟨t, q.1, q.2⟩⟩, h.2.2.lit⟩
  | e :: r, .s z :: ks, [], h => h.elim
  | e :: r, .i z :: ks, _, h => h.elim
  | e :: r, [], _, h => h.elim
theorem DR.noref : ∀ {l : List DictEntry} {ks : List PK} {ps : List PV}, DR P K l ks ps → l.any (fun e => e.refKey) = false
  | [], _, _, _ => rfl
  | e :: r, .s z :: ks, p :: ps, h => by
    obtain ⟨⟨t, h1, _⟩, _, h3⟩ := h
    rw [List.any_cons, h3.noref, Bool.or_false]
    unfold DictEntry.refKey
    rw [h1]
  | e :: r, .s z :: ks, [], h => h.elim
  | e :: r, .i z :: ks, _, h => h.elim
  | e :: r, [], _, h => h.elim
theorem DR.find (z : List Nat) : ∀ {l : List DictEntry} {ks : List PK} {ps : List PV}, DR P K l ks ps →
    match kGet ks ps (.s z) with
    | some p => ∃ e v, l.find? (fun e => e.key.isStr ⟨z.toArray⟩) = some e ∧ RelV v e.val ∧ ∀ xa H μ, Rel K xa H μ p v
    | none => l.find? (fun e => e.key.isStr ⟨z.toArray⟩) = none
  | [], [], [], _ => rfl
  | e :: r, .s y :: ks, p :: ps, h => by
    obtain ⟨⟨t, h1, _⟩, ⟨v, h2, h4⟩, h3⟩ := h
    have ih := h3.find z
    have e1 : kGet (.s y :: ks) (p :: ps) (.s z) = if PK.s y = .s z then some p else kGet ks ps (.s z) := rfl
    by_cases q : y = z
    · subst q
      rw [e1, if_pos rfl]
      refine ⟨e, v, ?_, h2, h4⟩
      rw [List.find?_cons]
      have : e.key.isStr ⟨y.toArray⟩ = true := by rw [isStr_of, h1]; exact decide_eq_true rfl
      rw [this]
    · have q1 : ¬ PK.s y = .s z := fun w => q (PK.s.inj w)
      rw [e1, if_neg q1, List.find?_cons]
      have : e.key.isStr ⟨z.toArray⟩ = false := by
        rw [isStr_of, h1]
        exact decide_eq_false fun w => q (by have := congrArg (fun s : Str => s.cps.toList) w; simpa using this)
      rw [this]
      exact ih
  | e :: r, .s z :: ks, [], h => h.elim
  | e :: r, .i z :: ks, _, h => h.elim
  | e :: r, [], _, h => h.elim
  | [], [], p :: ps, h => h.elim
  | [], k :: ks, _, h => h.elim
/-- a dict of the module -/
theorem dict_of {w : World} {mg : Str → Option Value} {h : Heap} {x : Str} {d : Addr} {es : Array DictEntry} {n : Nat} {ks : List PK} {ps : List PV} {G : Nat → Option PV} {g : Nat} (X : K.In h) (Gm : h.Ns mainGlobals mg) (hG : G g = some (.vd ks ps))
    (h1 : PySem.W.nsIn K mainGlobals x = some (some (.ref d))) (h2 : K.lookup d = some ⟨.type "dict", none, .dict es n, #[]⟩) (h3 : (d == sysModules) = false) (h4 : DR w.params K es.toList ks ps) :
    ∃ d es n ks vs, G g = some (.vd ks vs) ∧ mg x = some (.ref d) ∧ KDict K w d es n ∧
    ∀ z : List Nat, ∃ r, PySem.W.nsIn K d ⟨z.toArray⟩ = some r ∧ match kGet ks vs (.s z) with
      | some p => ∃ u v, r = some u ∧ RelV v u ∧ ∀ xa H μ, Rel K xa H μ p v
      | none => r = none := by
  refine ⟨d, es, n, ks, ps, hG, PySem.W.mg_of X Gm h1, ⟨h2, h4.lit, h3⟩, fun z => ?_⟩
  have hf := h4.find z
  have e : PySem.W.nsIn K d ⟨z.toArray⟩ = match es.toList.find? (fun e => e.key.isStr ⟨z.toArray⟩) with
      | some e => some (some e.val)
      | none => if es.toList.any (fun e => e.refKey) then none else some none := by
    unfold PySem.W.nsIn
    rw [h2]
    rfl
  rw [e, h4.noref]
  cases q : kGet ks ps (.s z) with
  | none =>
    rw [q] at hf
    rw [hf]
    exact ⟨none, rfl, rfl⟩
  | some p =>
    rw [q] at hf
    obtain ⟨e', v, f1, f2, f3⟩ := hf
    rw [f1]
    exact ⟨some e'.val, rfl, e'.val, v, rfl, f2, f3⟩
end
end MP

set_option Elab.async false
set_option linter.all false
/-! MD: decimal texts. -/
namespace MP
/-- a natural number's decimal text -/
def dg (n : Nat) : List Nat := (Nat.toDigits 10 n).map Char.toNat
theorem dc (n : Nat) (h : n < 10) : n.digitChar.toNat = 48 + n := by
  match n, h with
  | 0, _ => rfl | 1, _ => rfl | 2, _ => rfl | 3, _ => rfl | 4, _ => rfl | 5, _ => rfl | 6, _ => rfl | 7, _ => rfl | 8, _ => rfl | 9, _ => rfl
  | n + 10, h => omega
theorem dg_lt {n : Nat} (h : n < 10) : dg n = [48 + n] := by
  unfold dg
  rw [Nat.toDigits_of_lt_base h, List.map_cons, List.map_nil, dc n h]
theorem dg_step {n d : Nat} (hn : 0 < n) (hd : d < 10) : dg (10 * n + d) = dg n ++ [48 + d] := by
  have := Nat.toDigits_append_toDigits (b := 10) (by decide) hn hd
  unfold dg
  rw [← this, List.map_append, Nat.toDigits_of_lt_base hd, List.map_cons, List.map_nil, dc d hd]
theorem dg_div {n : Nat} (h : 10 ≤ n) : dg n = dg (n / 10) ++ [48 + n % 10] := by
  have e := dg_step (n := n / 10) (d := n % 10) (by omega) (by omega)
  rw [Nat.div_add_mod] at e
  exact e
theorem decText_nat (n : Nat) : decText (n : Int) = dg n := by
  show ((Nat.repr n).toList.map Char.toNat) = _
  unfold Nat.repr
  rw [String.toList_ofList]
  rfl
theorem decText_neg (n : Nat) : decText (-((n + 1 : Nat) : Int)) = 45 :: dg (n + 1) := by
  show (("-" ++ Nat.repr (n + 1)).toList.map Char.toNat) = _
  unfold Nat.repr
  rw [String.toList_append, List.map_append]
  show [45] ++ List.map Char.toNat (String.ofList _).toList = _
  rw [String.toList_ofList]
  rfl
/-- the last k digits -/
def pad : Nat → Nat → List Nat
  | 0, _ => []
  | k + 1, n => pad k (n / 10) ++ [48 + n % 10]
theorem pad_len : ∀ k n, (pad k n).length = k
  | 0, _ => rfl
  | k + 1, n => by
    show (pad k (n / 10) ++ [48 + n % 10]).length = _
    rw [List.length_append, pad_len k]
    rfl
theorem dg_split : ∀ (k q r : Nat), 0 < q → r < 10 ^ k → dg (q * 10 ^ k + r) = dg q ++ pad k r
  | 0, q, r, hq, hr => by
    have : r = 0 := by simpa using hr
    subst this
    simp [pad]
  | k + 1, q, r, hq, hr => by
    have hp : 0 < 10 ^ k := Nat.pos_of_ne_zero (by simp)
    have e : q * 10 ^ (k + 1) + r = 10 * (q * 10 ^ k + r / 10) + r % 10 := by
      rw [Nat.pow_succ]
      have := Nat.div_add_mod r 10
      have e2 : q * (10 ^ k * 10) = 10 * (q * 10 ^ k) := by rw [← Nat.mul_assoc, Nat.mul_comm]
      omega
    rw [e, dg_step (by have := Nat.mul_pos hq hp; omega) (Nat.mod_lt _ (by decide)), dg_split k q (r / 10) hq (by rw [Nat.pow_succ] at hr; omega), List.append_assoc]
    rfl
theorem pad_zero : ∀ k, pad k 0 = List.replicate k 48
  | 0 => rfl
  | k + 1 => by
    show pad k 0 ++ [48] = _
    rw [pad_zero k, ← List.replicate_succ']
theorem dg_pos (n : Nat) : 0 < (dg n).length := by
  by_cases h : n < 10
  · rw [dg_lt h]; simp
  · rw [dg_div (by omega), List.length_append]; simp
theorem dg_len_le : ∀ (k n : Nat), 0 < k → n < 10 ^ k → (dg n).length ≤ k
  | 0, _, h, _ => by omega
  | k + 1, n, _, h => by
    by_cases h2 : n < 10
    · rw [dg_lt h2]; simp
    · have hk : 0 < k := by
        rcases Nat.eq_zero_or_pos k with e | e
        · subst e; simp at h; omega
        · exact e
      rw [dg_div (by omega), List.length_append, List.length_singleton]
      have := dg_len_le k (n / 10) hk (by rw [Nat.pow_succ] at h; omega)
      omega
theorem pad_zfill : ∀ (k n : Nat), 0 < k → n < 10 ^ k → pad k n = List.replicate (k - (dg n).length) 48 ++ dg n
  | 0, _, h, _ => by omega
  | k + 1, n, _, h => by
    show pad k (n / 10) ++ [48 + n % 10] = _
    by_cases h2 : n < 10
    · have e1 : n / 10 = 0 := by omega
      have e2 : n % 10 = n := by omega
      rw [dg_lt h2, e1, e2, pad_zero]
      rfl
    · have hk : 0 < k := by
        rcases Nat.eq_zero_or_pos k with e | e
        · subst e; simp at h; omega
        · exact e
      rw [dg_div (by omega), List.length_append, List.length_singleton, pad_zfill k (n / 10) hk (by rw [Nat.pow_succ] at h; omega), List.append_assoc, Nat.add_sub_add_right]
theorem dg_digit : ∀ (n : Nat), ∀ c ∈ dg n, 48 ≤ c ∧ c ≤ 57 := by
  intro n
  induction n using Nat.strongRecOn with
  | _ n ih =>
    intro c hc
    by_cases h : n < 10
    · rw [dg_lt h] at hc
      have : c = 48 + n := by simpa using hc
      omega
    · rw [dg_div (by omega)] at hc
      rcases List.mem_append.mp hc with z | z
      · exact ih _ (by omega) c z
      · have : c = 48 + n % 10 := by simpa using z
        omega
theorem dv_append (xs ys : List Nat) : digitsVal (xs ++ ys) = digitsVal xs * 10 ^ ys.length + digitsVal ys := by
  have key : ∀ (ys : List Nat) (a : Nat), ys.foldl (fun n c => n * 10 + (c - 48)) a = a * 10 ^ ys.length + ys.foldl (fun n c => n * 10 + (c - 48)) 0 := by
    intro ys
    induction ys with
    | nil => intro a; simp
    | cons y ys ih =>
      intro a
      rw [List.foldl_cons, ih, List.foldl_cons, ih (0 * 10 + (y - 48)), List.length_cons, Nat.pow_succ]
      have : (a * 10 + (y - 48)) * 10 ^ ys.length = a * (10 ^ ys.length * 10) + (y - 48) * 10 ^ ys.length := by
        rw [Nat.add_mul, Nat.mul_assoc, Nat.mul_comm 10]
      rw [this]
      simp
      omega
  unfold digitsVal
  rw [List.foldl_append, key ys]
theorem dv_dg : ∀ n, digitsVal (dg n) = n := by
  intro n
  induction n using Nat.strongRecOn with
  | _ n ih =>
    by_cases h : n < 10
    · rw [dg_lt h]
      show 0 * 10 + (48 + n - 48) = n
      omega
    · rw [dg_div (by omega), dv_append, ih _ (by omega)]
      show n / 10 * 10 ^ 1 + (0 * 10 + (48 + n % 10 - 48)) = n
      omega
/-- the first digit -/
theorem dg_head : ∀ n, 0 < n → (dg n).head? ≠ some 48 := by
  intro n
  induction n using Nat.strongRecOn with
  | _ n ih =>
    intro hn
    by_cases h : n < 10
    · rw [dg_lt h]
      intro e
      have : 48 + n = 48 := by simpa using e
      omega
    · rw [dg_div (by omega)]
      have := ih (n / 10) (by omega) (by omega)
      cases e : dg (n / 10) with
      | nil => have := dg_pos (n / 10); rw [e] at this; simp at this
      | cons x r => rw [e] at this; simpa using this
theorem dg_zero : dg 0 = [48] := rfl
theorem dv_lt : ∀ (s : List Nat), (∀ c ∈ s, 48 ≤ c ∧ c ≤ 57) → digitsVal s < 10 ^ s.length := by
  intro s
  induction s with
  | nil => intro _; decide
  | cons x xs ih =>
    intro h
    have h1 := ih fun c hc => h c (List.mem_cons_of_mem _ hc)
    have h2 := h x (by simp)
    have e := dv_append [x] xs
    rw [show [x] ++ xs = x :: xs from rfl] at e
    rw [e, List.length_cons, Nat.pow_succ]
    have e2 : digitsVal [x] = x - 48 := by
      show 0 * 10 + (x - 48) = _
      omega
    rw [e2]
    have hx : x - 48 ≤ 9 := by omega
    have := Nat.mul_le_mul_right (10 ^ xs.length) hx
    omega
end MP

set_option Elab.async false
set_option linter.all false
/-! MS: the rules by which simp runs the trees. -/
namespace MP
section
variable {α β : Type} {C : Nat → List PV → Store → Res PV} {G : Nat → Option PV} {σ : Nv} {T : Store}
/-! simp works at the head alone -/
@[simp] theorem bind_ok (a : α) (S : Store) (f : α → Store → Res β) : (Res.ok a S).bind f = f a S := (rfl)
@[simp] theorem bind_exc (c : Nat) (S : Store) (f : α → Store → Res β) : (Res.exc c S).bind f = .exc c S := (rfl)
@[simp] theorem bindS_ok (a : α) (S : Store) (f : α → Store → ResS) : (Res.ok a S).bindS σ f = f a S := (rfl)
@[simp] theorem bindS_exc (c : Nat) (S : Store) (f : α → Store → ResS) : (Res.exc c S : Res α).bindS σ f = .ok (.exc c σ) S := (rfl)
@[simp] theorem ofOpt_some (a : α) (S : Store) : ofOpt (some a) S = .ok a S := (rfl)
@[simp] theorem sV_int (i : Int) : slotV (some (some (.int i))) = some (.int i) := (rfl)
@[simp] theorem sV_str (i : List Nat) : slotV (some (some (.str i))) = some (.str i) := (rfl)
@[simp] theorem sV_bl (i : Bool) : slotV (some (some (.bl i))) = some (.bl i) := (rfl)
@[simp] theorem sV_tup (i : List PV) : slotV (some (some (.tup i))) = some (.tup i) := (rfl)
@[simp] theorem sV_frz (i : List PV) : slotV (some (some (.frz i))) = some (.frz i) := (rfl)
@[simp] theorem sV_ref (i : Nat) : slotV (some (some (.ref i))) = some (.ref i) := (rfl)
@[simp] theorem sV_vl (i : List PV) : slotV (some (some (.vl i))) = some (.vl i) := (rfl)
@[simp] theorem sV_vd (ks : List PK) (i : List PV) : slotV (some (some (.vd ks i))) = some (.vd ks i) := (rfl)
@[simp] theorem sV_fn (i : Nat) : slotV (some (some (.fn i))) = some (.fn i) := (rfl)
@[simp] theorem sV_non : slotV (some (some .non)) = some .non := (rfl)
@[simp] theorem ev_lit (v : PV) : ev C G (.lit v) σ T = .ok v T := (rfl)
@[simp] theorem ev_var (i : Nat) : ev C G (.var i) σ T = ofOpt (slotV σ[i]?) T := (rfl)
@[simp] theorem ev_glob (g : Nat) : ev C G (.glob g) σ T = ofOpt (G g) T := (rfl)
@[simp] theorem ev_nil : ev C G .nil σ T = .ok (.tup []) T := (rfl)
@[simp] theorem ev_cons (e es : E) : ev C G (.cons e es) σ T = (ev C G e σ T).bind fun v T1 => (ev C G es σ T1).bind fun vs T2 => .ok (.tup (v :: asTup vs)) T2 := (rfl)
@[simp] theorem ev_tup (es : E) : ev C G (.tup es) σ T = (ev C G es σ T).bind fun vs T1 => if (asTup vs).length ≤ SZ then .ok (.tup (asTup vs)) T1 else .bad := (rfl)
@[simp] theorem ev_list (m : Bool) (es : E) : ev C G (.list m es) σ T = (ev C G es σ T).bind fun vs T1 => if (asTup vs).length ≤ SZ then newL m (asTup vs) T1 else .bad := (rfl)
@[simp] theorem ev_bin (m : Bool) (o : BinO) (a b : E) : ev C G (.bin m o a b) σ T = (ev C G a σ T).bind fun x T1 => (ev C G b σ T1).bind fun y T2 => binOp m o x y T2 := (rfl)
@[simp] theorem ev_neg (a : E) : ev C G (.neg a) σ T = (ev C G a σ T).bind fun x T1 => negOp x T1 := (rfl)
@[simp] theorem neg_int (i : Int) : negOp (.int i) T = .ok (.int (-i)) T := (rfl)
@[simp] theorem newL_f (xs : List PV) : newL false xs T = .ok (.vl xs) T := (rfl)
@[simp] theorem newL_t (xs : List PV) : newL true xs T = .ok (.ref T.length) (T ++ [.lst xs]) := (rfl)
@[simp] theorem newD_f (ks : List PK) (xs : List PV) : newD false ks xs T = .ok (.vd ks xs) T := (rfl)
@[simp] theorem newD_t (ks : List PK) (xs : List PV) : newD true ks xs T = .ok (.ref T.length) (T ++ [.dct ks xs]) := (rfl)
@[simp] theorem ev_dict (m : Bool) : ev C G (.dict m) σ T = newD m [] [] T := (rfl)
@[simp] theorem ev_chain (o p : CmpO) (a b c : E) : ev C G (.chain o p a b c) σ T = (ev C G a σ T).bind fun x T1 => (ev C G b σ T1).bind fun y T2 => (ofOpt (cmpOp o x y T2) T2).bind fun t T3 =>
    if t then (ev C G c σ T3).bind fun z T4 => (ofOpt (cmpOp p y z T4) T4).bind fun t T5 => .ok (.bl t) T5 else .ok (.bl false) T3 := (rfl)
@[simp] theorem ev_lenset (a : E) : ev C G (.lenset a) σ T = (ev C G a σ T).bind fun x T1 => lensetOp x T1 := (rfl)
@[simp] theorem ev_lrng (m tu : Bool) (a b : E) : ev C G (.lrng m tu a b) σ T = (ev C G a σ T).bind fun x T1 => (ev C G b σ T1).bind fun y T2 => rgOp m tu x y T2 := (rfl)
def kidxR (o : Option PV) (x : PV) (T : Store) : Res PV := match o, x with
  | some (.vd ks vs), .str s => ofOpt (kGet ks vs (.s s)) T
  | _, _ => .bad
def kinR2 (o : Option PV) (b : Bool) (x : PV) (T : Store) : Res PV := match o, x with
  | some (.vd ks vs), .str s => .ok (.bl (if b then (kGet ks vs (.s s)).isSome else !(kGet ks vs (.s s)).isSome)) T
  | _, _ => .bad
def kgetR2 (o : Option PV) (x y : PV) (T : Store) : Res PV := match o, x with
  | some (.vd ks vs), .str s => .ok ((kGet ks vs (.s s)).getD y) T
  | _, _ => .bad
@[simp] theorem ev_kidx (g : Nat) (e : E) : ev C G (.kidx g e) σ T = (ev C G e σ T).bind fun x T1 => kidxR (G g) x T1 := (rfl)
@[simp] theorem ev_kin (g : Nat) (b : Bool) (e : E) : ev C G (.kin g b e) σ T = (ev C G e σ T).bind fun x T1 => kinR2 (G g) b x T1 := (rfl)
@[simp] theorem ev_kget (g : Nat) (e d : E) : ev C G (.kget g e d) σ T = (ev C G e σ T).bind fun x T1 => (ev C G d σ T1).bind fun y T2 => kgetR2 (G g) x y T2 := (rfl)
@[simp] theorem kidxR_s (ks : List PK) (vs : List PV) (s : List Nat) : kidxR (some (.vd ks vs)) (.str s) T = ofOpt (kGet ks vs (.s s)) T := (rfl)
@[simp] theorem kinR2_s (ks : List PK) (vs : List PV) (b : Bool) (s : List Nat) : kinR2 (some (.vd ks vs)) b (.str s) T = .ok (.bl (if b then (kGet ks vs (.s s)).isSome else !(kGet ks vs (.s s)).isSome)) T := (rfl)
@[simp] theorem kgetR2_s (ks : List PK) (vs : List PV) (s : List Nat) (y : PV) : kgetR2 (some (.vd ks vs)) (.str s) y T = .ok ((kGet ks vs (.s s)).getD y) T := (rfl)
@[simp] theorem ev_not (a : E) : ev C G (.not a) σ T = (ev C G a σ T).bind fun x T1 => (ofOpt (truthM T1 x) T1).bind fun b T2 => .ok (.bl (!b)) T2 := (rfl)
@[simp] theorem ev_and (a b : E) : ev C G (.and a b) σ T = (ev C G a σ T).bind fun x T1 => (ofOpt (truthM T1 x) T1).bind fun t T2 => if t then ev C G b σ T2 else .ok x T2 := (rfl)
@[simp] theorem ev_or (a b : E) : ev C G (.or a b) σ T = (ev C G a σ T).bind fun x T1 => (ofOpt (truthM T1 x) T1).bind fun t T2 => if t then .ok x T2 else ev C G b σ T2 := (rfl)
@[simp] theorem ev_ite (c a b : E) : ev C G (.ite c a b) σ T = (ev C G c σ T).bind fun x T1 => (ofOpt (truthM T1 x) T1).bind fun t T2 => if t then ev C G a σ T2 else ev C G b σ T2 := (rfl)
@[simp] theorem ev_cmp (o : CmpO) (a b : E) : ev C G (.cmp o a b) σ T = (ev C G a σ T).bind fun x T1 => (ev C G b σ T1).bind fun y T2 => (ofOpt (cmpOp o x y T2) T2).bind fun t T3 => .ok (.bl t) T3 := (rfl)
@[simp] theorem ev_idx (a i : E) : ev C G (.idx a i) σ T = (ev C G a σ T).bind fun x T1 => (ev C G i σ T1).bind fun y T2 => ofOpt (idxOp x y T2) T2 := (rfl)
@[simp] theorem ev_slice (m : Bool) (a lo hi : E) (pl ph : Bool) : ev C G (.slice m a lo hi pl ph) σ T = (ev C G a σ T).bind fun x T1 => (ev C G lo σ T1).bind fun l T2 => if partOk pl l then (ev C G hi σ T2).bind fun h T3 => if partOk ph h then sliceOp m pl ph x l h T3 else .bad else .bad := (rfl)
@[simp] theorem ev_rev (m : Bool) (a : E) : ev C G (.rev m a) σ T = (ev C G a σ T).bind fun x T1 => revOp m x T1 := (rfl)
@[simp] theorem ev_isinst (a : E) (t : Tyq) : ev C G (.isinst a t) σ T = (ev C G a σ T).bind fun x T1 => (ofOpt (isInst x t) T1).bind fun b T2 => .ok (.bl b) T2 := (rfl)
@[simp] theorem ev_prim (m : Bool) (p : Prim) (es : E) : ev C G (.prim m p es) σ T = (ev C G es σ T).bind fun vs T1 => primOp m p (asTup vs) T1 := (rfl)
@[simp] theorem ev_meth (w : Bool) (m : Mth) (a es : E) : ev C G (.meth w m a es) σ T = (ev C G a σ T).bind fun x T1 => if recvOk T1 m x then (ev C G es σ T1).bind fun vs T2 => methOp w m x (asTup vs) T2 else .bad := (rfl)
@[simp] theorem ev_call (f : Nat) (es : E) : ev C G (.call f es) σ T = (ev C G es σ T).bind fun vs T1 => C f (asTup vs) T1 := (rfl)
@[simp] theorem asTup_tup (xs : List PV) : asTup (.tup xs) = xs := (rfl)
@[simp] theorem evT_eq (e : E) : evT C G e σ T = (ev C G e σ T).bind fun x T1 => ofOpt (truthM T1 x) T1 := (rfl)
@[simp] theorem tr_non : truthM T .non = some false := (rfl)
@[simp] theorem tr_bl (b : Bool) : truthM T (.bl b) = some b := (rfl)
@[simp] theorem tr_int (i : Int) : truthM T (.int i) = some (i != 0) := (rfl)
@[simp] theorem tr_tup (xs : List PV) : truthM T (.tup xs) = some (!xs.isEmpty) := (rfl)
/-! statements -/
@[simp] theorem ex_skip : exS C G .skip σ T = .ok (.next σ) T := (rfl)
@[simp] theorem ex_seq (a b : S) : exS C G (.seq a b) σ T = seqS (exS C G a σ T) fun σ1 T1 => exS C G b σ1 T1 := (rfl)
@[simp] theorem seqS_next (σ : Nv) (T : Store) (f : Nv → Store → ResS) : seqS (.ok (.next σ) T) f = f σ T := (rfl)
@[simp] theorem seqS_ret (v : PV) (T : Store) (f : Nv → Store → ResS) : seqS (.ok (.ret v) T) f = .ok (.ret v) T := (rfl)
@[simp] theorem seqS_exc (c : Nat) (σ : Nv) (T : Store) (f : Nv → Store → ResS) : seqS (.ok (.exc c σ) T) f = .ok (.exc c σ) T := (rfl)
@[simp] theorem seqS_brk (σ : Nv) (T : Store) (f : Nv → Store → ResS) : seqS (.ok (.brk σ) T) f = .ok (.brk σ) T := (rfl)
@[simp] theorem ex_exp (e : E) : exS C G (.exp e) σ T = (ev C G e σ T).bindS σ fun _ T1 => .ok (.next σ) T1 := (rfl)
@[simp] theorem nextO_some (σ : Nv) : nextO (some σ) T = .ok (.next σ) T := (rfl)
@[simp] theorem ex_asg (tg : Tgt) (e : E) : exS C G (.asg tg e) σ T = (ev C G e σ T).bindS σ fun v T1 => nextO (bindT tg v σ) T1 := (rfl)
@[simp] theorem bT_nm (i : Nat) (v : PV) : bindT (.nm i) v σ = some (σ.set i (some v)) := (rfl)
@[simp] theorem bT_tp (is : List Nat) (xs : List PV) : bindT (.tp is) (.tup xs) σ = bindNames is xs σ := (rfl)
@[simp] theorem bN_nil : bindNames [] [] σ = some σ := (rfl)
@[simp] theorem bN_cons (i : Nat) (is : List Nat) (v : PV) (vs : List PV) : bindNames (i :: is) (v :: vs) σ = bindNames is vs (σ.set i (some v)) := (rfl)
@[simp] theorem ex_ret (e : E) : exS C G (.ret e) σ T = (ev C G e σ T).bindS σ fun v T1 => .ok (.ret v) T1 := (rfl)
@[simp] theorem ex_brk : exS C G .brk σ T = .ok (.brk σ) T := (rfl)
@[simp] theorem ex_cont : exS C G .cont σ T = .ok (.cont σ) T := (rfl)
@[simp] theorem ex_raise (c : Nat) : exS C G (.raise c) σ T = .ok (.exc c σ) T := (rfl)
@[simp] theorem ex_ite (c : E) (a b : S) : exS C G (.ite c a b) σ T = (evT C G c σ T).bindS σ fun t T1 => if t then exS C G a σ T1 else exS C G b σ T1 := (rfl)
@[simp] theorem nextT_some (S : Store) : nextT σ (some S) = .ok (.next σ) S := (rfl)
@[simp] theorem ex_setix (a i e : E) : exS C G (.setix a i e) σ T = (ev C G e σ T).bindS σ fun v T1 => (ev C G a σ T1).bindS σ fun x T2 => (ev C G i σ T2).bindS σ fun k T3 => nextT σ (setOp x k v T3) := (rfl)
def parR (σ : Nv) (i j : Nat) (vs : List PV) (T : Store) : ResS := match vs with
  | [v, w] => .ok (.next ((σ.set i (some v)).set j (some w))) T
  | _ => .bad
@[simp] theorem parR_two (i j : Nat) (v w : PV) : parR σ i j [v, w] T = .ok (.next ((σ.set i (some v)).set j (some w))) T := (rfl)
@[simp] theorem ex_par (i j : Nat) (es : E) : exS C G (.par i j es) σ T = (ev C G es σ T).bindS σ fun vs T1 => parR σ i j (asTup vs) T1 := (rfl)
def augR (σ : Nv) (i : Nat) (o : BinO) (x : Option PV) (r : Res PV) : ResS := match x with
  | some x => r.bindS σ fun y T1 => nextO ((augOp o x y).map fun z => σ.set i (some z)) T1
  | none => .bad
def slotA : Option (Option PV) → Option PV
  | some (some v) => some v
  | _ => none
@[simp] theorem slotA_some (v : PV) : slotA (some (some v)) = some v := (rfl)
@[simp] theorem augR_some (i : Nat) (o : BinO) (x : PV) (r : Res PV) : augR σ i o (some x) r = r.bindS σ fun y T1 => nextO ((augOp o x y).map fun z => σ.set i (some z)) T1 := (rfl)
@[simp] theorem ex_aug (i : Nat) (o : BinO) (e : E) : exS C G (.aug i o e) σ T = augR σ i o (slotA σ[i]?) (ev C G e σ T) := by
  have h : exS C G (.aug i o e) σ T = match σ[i]? with
    | some (some x) => (ev C G e σ T).bindS σ fun y T1 => nextO ((augOp o x y).map fun z => σ.set i (some z)) T1
    | _ => .bad := (rfl)
  rw [h]
  cases e1 : σ[i]? with
  | none => rfl
  | some v => cases v <;> rfl
@[simp] theorem ofB_ret (v : PV) : ofBody (.ok (.ret v) T) = .ok v T := (rfl)
@[simp] theorem ofB_next : ofBody (.ok (.next σ) T) = .ok .non T := (rfl)
@[simp] theorem ofB_exc (c : Nat) : ofBody (.ok (.exc c σ) T) = .exc c T := (rfl)
/-! operations -/
@[simp] theorem add_int (w : Bool) (a b : Int) : binOp w .add (.int a) (.int b) T = .ok (.int (a + b)) T := (rfl)
@[simp] theorem sub_int (w : Bool) (a b : Int) : binOp w .sub (.int a) (.int b) T = .ok (.int (a - b)) T := (rfl)
theorem mul_int (w : Bool) (a b : Int) : binOp w .mul (.int a) (.int b) T = if a.natAbs.log2 + b.natAbs.log2 < 1000000 then .ok (.int (a * b)) T else .bad := (rfl)
@[simp] theorem fdiv_int (w : Bool) (a b : Int) : binOp w .fdiv (.int a) (.int b) T = if 0 < b ∧ b.natAbs.log2 < 9000 then .ok (.int (a / b)) T else .bad := (rfl)
@[simp] theorem mod_int (w : Bool) (a b : Int) : binOp w .mod (.int a) (.int b) T = if 0 < b then .ok (.int (a % b)) T else .bad := (rfl)
@[simp] theorem pow_18 (w : Bool) : binOp w .pow (.int 10) (.int 18) T = .ok (.int 1000000000000000000) T := (rfl)
@[simp] theorem pow_12 (w : Bool) : binOp w .pow (.int 10) (.int 12) T = .ok (.int 1000000000000) T := (rfl)
@[simp] theorem pow_13 (w : Bool) : binOp w .pow (.int 10) (.int 13) T = .ok (.int 10000000000000) T := (rfl)
@[simp] theorem add_str (w : Bool) (a b : List Nat) : binOp w .add (.str a) (.str b) T = if a.length + b.length ≤ SZ then .ok (.str (a ++ b)) T else .bad := (rfl)
@[simp] theorem add_tup (w : Bool) (a b : List PV) : binOp w .add (.tup a) (.tup b) T = if a.length + b.length ≤ SZ then .ok (.tup (a ++ b)) T else .bad := (rfl)
@[simp] theorem add_vl (w : Bool) (a b : List PV) : binOp w .add (.vl a) (.vl b) T = if a.length + b.length ≤ SZ then newL w (a ++ b) T else .bad := (rfl)
@[simp] theorem aug_add (a b : Int) : augOp .add (.int a) (.int b) = some (.int (a + b)) := (rfl)
@[simp] theorem eq_int (a b : Int) : cmpOp .eq (.int a) (.int b) T = some (a == b) := (rfl)
@[simp] theorem ne_int (a b : Int) : cmpOp .ne (.int a) (.int b) T = some (!(a == b)) := (rfl)
@[simp] theorem eq_str (a b : List Nat) : cmpOp .eq (.str a) (.str b) T = some (a == b) := (rfl)
@[simp] theorem ne_str (a b : List Nat) : cmpOp .ne (.str a) (.str b) T = some (!(a == b)) := (rfl)
@[simp] theorem lt_int (a b : Int) : cmpOp .lt (.int a) (.int b) T = some (decide (a < b)) := (rfl)
@[simp] theorem le_int (a b : Int) : cmpOp .le (.int a) (.int b) T = some (decide (a ≤ b)) := (rfl)
@[simp] theorem gt_int (a b : Int) : cmpOp .gt (.int a) (.int b) T = some (decide (b < a)) := (rfl)
@[simp] theorem ge_int (a b : Int) : cmpOp .ge (.int a) (.int b) T = some (decide (b ≤ a)) := (rfl)
@[simp] theorem lt_str (a b : List Nat) : cmpOp .lt (.str a) (.str b) T = some (decide (a < b)) := (rfl)
@[simp] theorem gt_str (a b : List Nat) : cmpOp .gt (.str a) (.str b) T = some (decide (b < a)) := (rfl)
@[simp] theorem is_bl (a b : Bool) : cmpOp .is (.bl a) (.bl b) T = some (a == b) := (rfl)
@[simp] theorem in_str (c : Nat) (z : List Nat) : cmpOp .isin (.str [c]) (.str z) T = some (decide (c ∈ z)) := (rfl)
@[simp] theorem nin_str (c : Nat) (z : List Nat) : cmpOp .notin (.str [c]) (.str z) T = some (!decide (c ∈ z)) := (rfl)
@[simp] theorem in_tup (v : PV) (xs : List PV) : cmpOp .isin v (.tup xs) T = inOp v xs := (rfl)
@[simp] theorem nin_tup (v : PV) (xs : List PV) : cmpOp .notin v (.tup xs) T = (inOp v xs).map fun b => !b := (rfl)
@[simp] theorem in_vl (v : PV) (xs : List PV) : cmpOp .isin v (.vl xs) T = inOp v xs := (rfl)
@[simp] theorem nin_vl (v : PV) (xs : List PV) : cmpOp .notin v (.vl xs) T = (inOp v xs).map fun b => !b := (rfl)
@[simp] theorem inOp_str (s : List Nat) (xs : List PV) (h : xs.all flat = true) : inOp (.str s) xs = some (inSeq (.str s) xs) := by
  unfold inOp
  rw [h]
  rfl
@[simp] theorem inOp_int (s : Int) (xs : List PV) (h : xs.all flat = true) : inOp (.int s) xs = some (inSeq (.int s) xs) := by
  unfold inOp
  rw [h]
  rfl
@[simp] theorem inSeq_nil (v : PV) : inSeq v [] = false := (rfl)
@[simp] theorem inSeq_cons (v x : PV) (xs : List PV) : inSeq v (x :: xs) = (peq x v || inSeq v xs) := (rfl)
@[simp] theorem peq_int (a b : Int) : peq (.int a) (.int b) = (a == b) := (rfl)
@[simp] theorem peq_str (a b : List Nat) : peq (.str a) (.str b) = (a == b) := (rfl)
@[simp] theorem peq_si (a : List Nat) (b : Int) : peq (.str a) (.int b) = false := (rfl)
@[simp] theorem peq_is (a : List Nat) (b : Int) : peq (.int b) (.str a) = false := (rfl)
@[simp] theorem peq_st (a : List Nat) (b : List PV) : peq (.str a) (.tup b) = false := (rfl)
@[simp] theorem peq_ts (a : List Nat) (b : List PV) : peq (.tup b) (.str a) = false := (rfl)
@[simp] theorem flat_int (a : Int) : flat (.int a) = true := (rfl)
@[simp] theorem flat_str (a : List Nat) : flat (.str a) = true := (rfl)
@[simp] theorem it_tup (xs : List PV) : items T (.tup xs) = some xs := (rfl)
@[simp] theorem it_frz (xs : List PV) : items T (.frz xs) = some xs := (rfl)
@[simp] theorem it_vl (xs : List PV) : items T (.vl xs) = some xs := (rfl)
@[simp] theorem it_ref (n : Nat) : items T (.ref n) = lstOf T n := (rfl)
@[simp] theorem lstOf_last (xs : List PV) : lstOf (T ++ [.lst xs]) T.length = some xs := by
  unfold lstOf
  simp
@[simp] theorem lstOf_zero (xs : List PV) : lstOf (.lst xs :: T) 0 = some xs := (rfl)
theorem lstOf_of {n : Nat} {xs : List PV} (h : T[n]? = some (.lst xs)) : lstOf T n = some xs := by
  unfold lstOf
  rw [h]
@[simp] theorem ix_str (s : List Nat) (k : Int) : idxOp (.str s) (.int k) T = if s.length ≤ SZ then (normI s.length k).bind fun j => (s[j]?).map fun c => .str [c] else none := (rfl)
@[simp] theorem ix_tup (s : List PV) (k : Int) : idxOp (.tup s) (.int k) T = (normI s.length k).bind fun j => s[j]? := (rfl)
@[simp] theorem ix_vl (s : List PV) (k : Int) : idxOp (.vl s) (.int k) T = (normI s.length k).bind fun j => s[j]? := (rfl)
@[simp] theorem ix_frz (s : List PV) (k : Int) : idxOp (.frz s) (.int k) T = (normI s.length k).bind fun j => s[j]? := (rfl)
theorem ix_ref {n : Nat} {xs : List PV} (k : Int) (h : T[n]? = some (.lst xs)) : idxOp (.ref n) (.int k) T = (normI xs.length k).bind fun j => xs[j]? := by
  show (match dctOf T n with | some (ks, vs) => (keyOf (.int k)).bind fun q => kGet ks vs q | none => (lstOf T n).bind fun xs => (normI xs.length k).bind fun j => xs[j]?) = _
  have : dctOf T n = none := by
    unfold dctOf
    rw [h]
  rw [this, lstOf_of h]
  rfl
@[simp] theorem len_str (w : Bool) (s : List Nat) : primOp w .len [.str s] T = if s.length ≤ SZ then .ok (.int s.length) T else .bad := (rfl)
@[simp] theorem len_tup (w : Bool) (s : List PV) : primOp w .len [.tup s] T = .ok (.int s.length) T := (rfl)
@[simp] theorem len_vl (w : Bool) (s : List PV) : primOp w .len [.vl s] T = .ok (.int s.length) T := (rfl)
@[simp] theorem len_frz (w : Bool) (s : List PV) : primOp w .len [.frz s] T = .ok (.int s.length) T := (rfl)
theorem len_ref (w : Bool) {n : Nat} {xs : List PV} (h : T[n]? = some (.lst xs)) : primOp w .len [.ref n] T = .ok (.int xs.length) T := by
  show (match lstOf T n with | some xs => Res.ok (PV.int xs.length) T | none => _) = _
  rw [lstOf_of h]
@[simp] theorem p_abs (w : Bool) (i : Int) : primOp w .abs [.int i] T = .ok (.int (if i < 0 then -i else i)) T := (rfl)
@[simp] theorem p_int (w : Bool) (i : Int) : primOp w .int [.int i] T = .ok (.int i) T := (rfl)
@[simp] theorem p_intb (w : Bool) (b : Bool) : primOp w .int [.bl b] T = .ok (.int (if b then 1 else 0)) T := (rfl)
@[simp] theorem p_ints (w : Bool) (s : List Nat) : primOp w .int [.str s] T = if s ≠ [] ∧ s.length ≤ 640 ∧ s.all isDig = true then .ok (.int (digitsVal s)) T else .bad := (rfl)
@[simp] theorem p_str (w : Bool) (i : Int) : primOp w .str [.int i] T = if i.natAbs.log2 < 1920 then .ok (.str (decText i)) T else .bad := (rfl)
@[simp] theorem p_ord (w : Bool) (c : Nat) : primOp w .ord [.str [c]] T = .ok (.int c) T := (rfl)
@[simp] theorem p_max (w : Bool) (a b : Int) : primOp w .max [.int a, .int b] T = .ok (.int (if b > a then b else a)) T := (rfl)
@[simp] theorem p_min (w : Bool) (a b : Int) : primOp w .min [.int a, .int b] T = .ok (.int (if b < a then b else a)) T := (rfl)
@[simp] theorem p_divmod (w : Bool) (a b : Int) : primOp w .divmod [.int a, .int b] T = if 0 < b ∧ a.natAbs.log2 < 4000 then .ok (.tup [.int (a / b), .int (a % b)]) T else .bad := (rfl)
@[simp] theorem p_tuple_vl (w : Bool) (xs : List PV) : primOp w .tuple [.vl xs] T = .ok (.tup xs) T := (rfl)
@[simp] theorem p_tuple_tup (w : Bool) (xs : List PV) : primOp w .tuple [.tup xs] T = .ok (.tup xs) T := (rfl)
@[simp] theorem p_list_frz (w : Bool) (xs : List PV) : primOp w .list [.frz xs] T = newL w xs T := (rfl)
@[simp] theorem p_list_tup (w : Bool) (xs : List PV) : primOp w .list [.tup xs] T = newL w xs T := (rfl)
@[simp] theorem p_list_vl (w : Bool) (xs : List PV) : primOp w .list [.vl xs] T = newL w xs T := (rfl)
def allR (o : Option (List Bool)) (S : Store) : Res PV := match o with
  | some bs => .ok (.bl (bs.all id)) S
  | none => .bad
@[simp] theorem allR_some (bs : List Bool) : allR (some bs) T = .ok (.bl (bs.all id)) T := (rfl)
@[simp] theorem p_all_vl (w : Bool) (xs : List PV) : primOp w .all [.vl xs] T = allR (boolsOf xs) T := (rfl)
@[simp] theorem bools_map {ι : Type} (f : ι → Bool) : ∀ l : List ι, boolsOf (l.map fun x => PV.bl (f x)) = some (l.map f)
  | [] => rfl
  | x :: l => by
    show (boolsOf (l.map fun x => PV.bl (f x))).map (f x :: ·) = _
    rw [bools_map f l]
    rfl
theorem ints_map : ∀ l : List Int, intsOf (l.map PV.int) = some l
  | [] => rfl
  | x :: l => by
    show (intsOf (l.map PV.int)).map (x :: ·) = _
    rw [ints_map l]
    rfl
theorem strs_map : ∀ l : List (List Nat), strsOf (l.map PV.str) = some l
  | [] => rfl
  | x :: l => by
    show (strsOf (l.map PV.str)).map (x :: ·) = _
    rw [strs_map l]
    rfl
@[simp] theorem alloc_eq (o : MO) : allocM o T = .ok (.ref T.length) (T ++ [o]) := (rfl)
theorem set_ref {n : Nat} {xs : List PV} (k : Int) (v : PV) (h : T[n]? = some (.lst xs)) : setOp (.ref n) (.int k) v T = (normI xs.length k).map fun j => T.set n (.lst (xs.set j v)) := by
  unfold setOp
  simp only [h]
def appR (o : Option (List PV)) (n : Nat) (v : PV) (T : Store) : Res PV := match o with
  | some xs => if xs.length < SZ then .ok .non (T.set n (.lst (xs ++ [v]))) else .bad
  | none => .bad
@[simp] theorem appR_some (xs : List PV) (n : Nat) (v : PV) : appR (some xs) n v T = if xs.length < SZ then .ok .non (T.set n (.lst (xs ++ [v]))) else .bad := (rfl)
@[simp] theorem m_append (w : Bool) (n : Nat) (v : PV) : methOp w .append (.ref n) [v] T = appR (lstOf T n) n v T := (rfl)
def insR (o : Option (List PV)) (n : Nat) (i : Int) (v : PV) (T : Store) : Res PV := match o with
  | some xs => if xs.length < SZ ∧ 0 ≤ i ∧ i < 4611686018427387904 then .ok .non (T.set n (.lst (xs.take i.toNat ++ [v] ++ xs.drop i.toNat))) else .bad
  | none => .bad
@[simp] theorem insR_some (xs : List PV) (n : Nat) (i : Int) (v : PV) : insR (some xs) n i v T = if xs.length < SZ ∧ 0 ≤ i ∧ i < 4611686018427387904 then .ok .non (T.set n (.lst (xs.take i.toNat ++ [v] ++ xs.drop i.toNat))) else .bad := (rfl)
@[simp] theorem m_insert (w : Bool) (n : Nat) (i : Int) (v : PV) : methOp w .insert (.ref n) [.int i, v] T = insR (lstOf T n) n i v T := (rfl)
def joinR (sep : List Nat) (o : Option (List (List Nat))) (S : Store) : Res PV := match o with
  | some ss => if ((ss.map (·.length)).sum + ss.length * sep.length) ≤ SZ then .ok (.str (joinT sep ss)) S else .bad
  | none => .bad
@[simp] theorem joinR_some (sep : List Nat) (ss : List (List Nat)) : joinR sep (some ss) T = if ((ss.map (·.length)).sum + ss.length * sep.length) ≤ SZ then .ok (.str (joinT sep ss)) T else .bad := (rfl)
@[simp] theorem m_join_vl (w : Bool) (sep : List Nat) (xs : List PV) : methOp w .join (.str sep) [.vl xs] T = joinR sep (strsOf xs) T := (rfl)
@[simp] theorem m_split (w : Bool) (s : List Nat) (c : Nat) : methOp w .split (.str s) [.str [c]] T = if s.length + 2 ≤ SZ ∧ c < 256 then newL w ((splitC c s).map PV.str) T else .bad := (rfl)
@[simp] theorem ro_append (n : Nat) : recvOk T .append (.ref n) = (lstOf T n).isSome := (rfl)
@[simp] theorem ro_insert (n : Nat) : recvOk T .insert (.ref n) = (lstOf T n).isSome := (rfl)
@[simp] theorem ro_join (s : List Nat) : recvOk T .join (.str s) = true := (rfl)
@[simp] theorem ro_split (s : List Nat) : recvOk T .split (.str s) = true := (rfl)
@[simp] theorem ro_zfill (s : List Nat) : recvOk T .zfill (.str s) = true := (rfl)
@[simp] theorem rev_vl (w : Bool) (xs : List PV) : revOp w (.vl xs) T = newL w xs.reverse T := (rfl)
@[simp] theorem rev_tup (w : Bool) (xs : List PV) : revOp w (.tup xs) T = .ok (.tup xs.reverse) T := (rfl)
theorem rev_ref (w : Bool) {n : Nat} {xs : List PV} (h : T[n]? = some (.lst xs)) : revOp w (.ref n) T = newL w xs.reverse T := by
  show (match lstOf T n with | some xs => newL w xs.reverse T | none => .bad) = _
  rw [lstOf_of h]
@[simp] theorem rev_last (w : Bool) (xs : List PV) : revOp w (.ref T.length) (T ++ [.lst xs]) = newL w xs.reverse (T ++ [.lst xs]) := rev_ref w (by simp)
@[simp] theorem po_f (x : PV) : partOk false x = true := (rfl)
@[simp] theorem po_t (x : Int) : partOk true (.int x) = true := (rfl)
@[simp] theorem ii_i_int (i : Int) : isInst (.int i) .int = some true := (rfl)
@[simp] theorem ii_i_bool (i : Int) : isInst (.int i) .bool = some false := (rfl)
@[simp] theorem ii_i_str (i : Int) : isInst (.int i) .str = some false := (rfl)
@[simp] theorem ii_i_tup (i : Int) : isInst (.int i) .tuple = some false := (rfl)
@[simp] theorem ii_s_int (i : List Nat) : isInst (.str i) .int = some false := (rfl)
@[simp] theorem ii_s_bool (i : List Nat) : isInst (.str i) .bool = some false := (rfl)
@[simp] theorem ii_s_str (i : List Nat) : isInst (.str i) .str = some true := (rfl)
@[simp] theorem ii_s_tup (i : List Nat) : isInst (.str i) .tuple = some false := (rfl)
@[simp] theorem ii_t_int (i : List PV) : isInst (.tup i) .int = some false := (rfl)
@[simp] theorem ii_t_bool (i : List PV) : isInst (.tup i) .bool = some false := (rfl)
@[simp] theorem ii_t_str (i : List PV) : isInst (.tup i) .str = some false := (rfl)
@[simp] theorem ii_t_tup (i : List PV) : isInst (.tup i) .tuple = some true := (rfl)
@[simp] theorem and_bl (b c : Bool) : (if b = true then (Res.ok (PV.bl c) T : Res PV) else Res.ok (PV.bl b) T) = Res.ok (PV.bl (b && c)) T := by cases b <;> rfl
@[simp] theorem or_bl (b c : Bool) : (if b = true then (Res.ok (PV.bl b) T : Res PV) else Res.ok (PV.bl c) T) = Res.ok (PV.bl (b || c)) T := by cases b <;> rfl
@[simp] theorem and_blP (p : Prop) [Decidable p] (b : Bool) : (if p then (Res.ok (PV.bl b) T : Res PV) else Res.ok (PV.bl (decide p)) T) = Res.ok (PV.bl (decide p && b)) T := by by_cases h : p <;> simp [h]
@[simp] theorem or_blP (p : Prop) [Decidable p] (b : Bool) : (if p then (Res.ok (PV.bl (decide p)) T : Res PV) else Res.ok (PV.bl b) T) = Res.ok (PV.bl (decide p || b)) T := by by_cases h : p <;> simp [h]
/-! comprehensions -/
/-- what is walked as a list: the items that do not hang on the store -/
def wkItems : Wk → Option (List PV)
  | .items xs => some xs
  | .range lo c n => some ((List.range n).map fun i => .int (lo + (i : Nat) * c))
  | _ => none
def compO (x : Bool) (o : Option Wk) (tg : Tgt) (c : Nv → Store → Res Bool) (e : Nv → Store → Res PV) (σ : Nv) (T : Store) : Res (List PV) := match o with
  | some w => Res.outX x (compL w tg c (fun σ acc T => (e σ T).bind fun v T2 => addL acc v T2) σ FU 0 [] T)
  | none => .bad
@[simp] theorem ev_comp (m x : Bool) (tg : Tgt) (own : List Nat) (k : ItK) (it c e : E) : ev C G (.comp m x tg own k it c e) σ T = (ev C G it σ T).bind fun vs T1 => (compO x (walkOf T1 k (asTup vs)) tg (evT C G c) (ev C G e) (wipeE σ own) T1).bind fun xs T2 => newL m xs T2 := by
  refine Res.bind_congr _ fun vs T1 => ?_
  cases walkOf T1 k (asTup vs) <;> rfl
/-- the item at place i, the rest of the list from it on -/
theorem compL_pure {w : Wk} {tg : Tgt} {c : Nv → Store → Res Bool} {e : Nv → Store → Res PV} {σ : Nv} {xs : List PV} {b : PV → Bool} {f : PV → PV} (hat : ∀ i, w.at i T = some xs[i]?) (h : ∀ v ∈ xs, ∃ σ1, bindT tg v σ = some σ1 ∧ c σ1 T = .ok (b v) T ∧ (b v = true → e σ1 T = .ok (f v) T)) :
    ∀ (m i : Nat) (acc : List PV), xs.length - i ≤ m → acc.length + (xs.length - i) ≤ SZ → ∀ n, m + 1 ≤ n → compL w tg c (fun σ acc T => (e σ T).bind fun v T2 => addL acc v T2) σ n i acc T = .ok (acc ++ ((xs.drop i).filter b).map f) T
  | m, i, acc, hm, hz, 0, hn => absurd hn (by omega)
  | m, i, acc, hm, hz, n + 1, hn => by
    have eq : compL w tg c (fun σ acc T => (e σ T).bind fun v T2 => addL acc v T2) σ (n + 1) i acc T = match w.at i T with
      | none => .bad
      | some none => .ok acc T
      | some (some v) => match bindT tg v σ with
        | none => .bad
        | some σ1 => (c σ1 T).bind fun t T1 => if t then ((e σ1 T1).bind fun v T2 => addL acc v T2).bind fun acc1 T2 => compL w tg c (fun σ acc T => (e σ T).bind fun v T2 => addL acc v T2) σ n (i + 1) acc1 T2 else compL w tg c (fun σ acc T => (e σ T).bind fun v T2 => addL acc v T2) σ n (i + 1) acc T1 := (rfl)
    rw [eq, hat i]
    by_cases hi : i < xs.length
    · have hx : xs[i]? = some xs[i] := List.getElem?_eq_getElem hi
      obtain ⟨σ1, h1, h2, h3⟩ := h xs[i] (List.getElem_mem hi)
      rw [hx]
      simp only [h1, h2]
      rw [List.drop_eq_getElem_cons hi]
      cases m with
      | zero => omega
      | succ m =>
      cases hb : b xs[i] with
      | false =>
        have := compL_pure hat h m (i + 1) acc (by omega) (by omega) n (by omega)
        rw [List.filter_cons_of_neg (by rw [hb]; exact Bool.false_ne_true)]
        exact this
      | true =>
        have := compL_pure hat h m (i + 1) (acc ++ [f xs[i]]) (by omega) (by rw [List.length_append, List.length_singleton]; omega) n (by omega)
        rw [List.filter_cons_of_pos hb, List.map_cons]
        show ((e σ1 T).bind fun v T2 => addL acc v T2).bind (fun acc1 T2 => compL w tg c (fun σ acc T => (e σ T).bind fun v T2 => addL acc v T2) σ n (i + 1) acc1 T2) = _
        rw [h3 hb]
        show (addL acc (f xs[i]) T).bind _ = _
        unfold addL
        rw [if_pos (by omega)]
        show compL w tg c (fun σ acc T => (e σ T).bind fun v T2 => addL acc v T2) σ n (i + 1) (acc ++ [f xs[i]]) T = _
        rw [this, List.append_assoc]
        rfl
    · have hx : xs[i]? = none := List.getElem?_eq_none_iff.mpr (by omega)
      rw [hx, List.drop_eq_nil_of_le (by omega)]
      simp
theorem compO_at {x : Bool} {w : Wk} {tg : Tgt} {c : Nv → Store → Res Bool} {e : Nv → Store → Res PV} {σ : Nv} {xs : List PV} (b : PV → Bool) (f : PV → PV) (hat : ∀ i, w.at i T = some xs[i]?) (hz : xs.length ≤ SZ) (h : ∀ v ∈ xs, ∃ σ1, bindT tg v σ = some σ1 ∧ c σ1 T = .ok (b v) T ∧ (b v = true → e σ1 T = .ok (f v) T)) :
    compO x (some w) tg c e σ T = .ok ((xs.filter b).map f) T := by
  have := compL_pure hat h xs.length 0 [] (by omega) (by simpa using hz) FU (by show _ ≤ 1099511627776; have : SZ = 16777216 := rfl; omega)
  show Res.outX x _ = _
  rw [this]
  cases x <;> simp [Res.outX, Res.noX]
theorem compO_items {x : Bool} {tg : Tgt} {c : Nv → Store → Res Bool} {e : Nv → Store → Res PV} {σ : Nv} {xs : List PV} (b : PV → Bool) (f : PV → PV) (hz : xs.length ≤ SZ) (h : ∀ v ∈ xs, ∃ σ1, bindT tg v σ = some σ1 ∧ c σ1 T = .ok (b v) T ∧ (b v = true → e σ1 T = .ok (f v) T)) :
    compO x (some (.items xs)) tg c e σ T = .ok ((xs.filter b).map f) T := compO_at b f (fun _ => rfl) hz h
/-- every turn adds -/
theorem compL_all {w : Wk} {tg : Tgt} {c : Nv → Store → Res Bool} {e : Nv → Store → Res PV} {σ : Nv} {xs ys : List PV} (hlen : ys.length = xs.length) (hat : ∀ i, w.at i T = some xs[i]?) (h : ∀ (j : Nat) (v y : PV), xs[j]? = some v → ys[j]? = some y → ∃ σ1, bindT tg v σ = some σ1 ∧ c σ1 T = .ok true T ∧ e σ1 T = .ok y T) :
    ∀ (m i : Nat) (acc : List PV), xs.length - i ≤ m → acc.length + (xs.length - i) ≤ SZ → ∀ n, m + 1 ≤ n → compL w tg c (fun σ acc T => (e σ T).bind fun v T2 => addL acc v T2) σ n i acc T = .ok (acc ++ ys.drop i) T
  | m, i, acc, hm, hz, 0, hn => absurd hn (by omega)
  | m, i, acc, hm, hz, n + 1, hn => by
    have eq : compL w tg c (fun σ acc T => (e σ T).bind fun v T2 => addL acc v T2) σ (n + 1) i acc T = match w.at i T with
      | none => .bad
      | some none => .ok acc T
      | some (some v) => match bindT tg v σ with
        | none => .bad
        | some σ1 => (c σ1 T).bind fun t T1 => if t then ((e σ1 T1).bind fun v T2 => addL acc v T2).bind fun acc1 T2 => compL w tg c (fun σ acc T => (e σ T).bind fun v T2 => addL acc v T2) σ n (i + 1) acc1 T2 else compL w tg c (fun σ acc T => (e σ T).bind fun v T2 => addL acc v T2) σ n (i + 1) acc T1 := rfl
    rw [eq, hat i]
    by_cases hi : i < xs.length
    · have hx : xs[i]? = some xs[i] := List.getElem?_eq_getElem hi
      have hy : ys[i]? = some (ys[i]'(by omega)) := List.getElem?_eq_getElem (by omega)
      obtain ⟨σ1, h1, h2, h3⟩ := h i _ _ hx hy
      rw [hx]
      simp only [h1, h2]
      rw [List.drop_eq_getElem_cons (by omega : i < ys.length)]
      cases m with
      | zero => omega
      | succ m =>
        have := compL_all hlen hat h m (i + 1) (acc ++ [ys[i]'(by omega)]) (by omega) (by rw [List.length_append, List.length_singleton]; omega) n (by omega)
        show ((e σ1 T).bind fun v T2 => addL acc v T2).bind (fun acc1 T2 => compL w tg c (fun σ acc T => (e σ T).bind fun v T2 => addL acc v T2) σ n (i + 1) acc1 T2) = _
        rw [h3]
        show (addL acc _ T).bind _ = _
        unfold addL
        rw [if_pos (by omega)]
        show compL w tg c (fun σ acc T => (e σ T).bind fun v T2 => addL acc v T2) σ n (i + 1) _ T = _
        rw [this, List.append_assoc]
        rfl
    · have hx : xs[i]? = none := List.getElem?_eq_none_iff.mpr (by omega)
      rw [hx, List.drop_eq_nil_of_le (by omega)]
      simp
theorem compO_map {ι : Type} {x : Bool} {tg : Tgt} {c : Nv → Store → Res Bool} {e : Nv → Store → Res PV} {σ : Nv} {l : List ι} {g f : ι → PV} (hz : l.length ≤ SZ) (h : ∀ i ∈ l, ∃ σ1, bindT tg (g i) σ = some σ1 ∧ c σ1 T = .ok true T ∧ e σ1 T = .ok (f i) T) :
    compO x (some (.items (l.map g))) tg c e σ T = .ok (l.map f) T := by
  have key := compL_all (w := .items (l.map g)) (T := T) (tg := tg) (c := c) (e := e) (σ := σ) (xs := l.map g) (ys := l.map f) (by rw [List.length_map, List.length_map]) (fun _ => rfl) (fun j v y hv hy => by
    rw [List.getElem?_map] at hv hy
    cases e1 : l[j]? with
    | none => rw [e1] at hv; cases hv
    | some i =>
      rw [e1] at hv hy
      cases hv
      cases hy
      exact h i (List.mem_of_getElem? e1)) (l.map g).length 0 [] (by omega) (by rw [List.length_map]; simpa using hz) FU (by rw [List.length_map]; show _ ≤ 1099511627776; have : SZ = 16777216 := rfl; omega)
  show Res.outX x _ = _
  rw [key]
  cases x <;> simp [Res.outX, Res.noX]
/-- over range(n), every turn adds -/
theorem compO_range {x : Bool} {i n : Nat} {e : Nv → Store → Res PV} {c : Nv → Store → Res Bool} {σ : Nv} (f : Nat → PV) (hn : n ≤ SZ) (hc : ∀ σ1, c σ1 T = .ok true T) (h : ∀ j, j < n → e (σ.set i (some (.int j))) T = .ok (f j) T) :
    compO x (some (.range 0 1 n)) (.nm i) c e σ T = .ok ((List.range n).map f) T := by
  have hat : ∀ j, (Wk.range 0 1 n).at j T = some ((List.range n).map fun j => PV.int (j : Nat))[j]? := fun j => by
    show some (if j < n then some (PV.int (0 + j * 1)) else none) = _
    by_cases hj : j < n
    · rw [if_pos hj, List.getElem?_map, List.getElem?_range hj]
      simp
    · rw [if_neg hj, List.getElem?_eq_none_iff.mpr (by rw [List.length_map, List.length_range]; omega)]
  have key := compO_at (x := x) (tg := .nm i) (c := c) (e := e) (σ := σ) (fun _ => true) (fun v => match v with | .int j => f j.toNat | _ => .non) hat (by rw [List.length_map, List.length_range]; exact hn) (fun v hv => by
    obtain ⟨j, hj, rfl⟩ := List.mem_map.mp hv
    exact ⟨_, rfl, hc _, fun _ => by rw [h j (List.mem_range.mp hj)]; rfl⟩)
  rw [key, List.filter_eq_self.mpr (fun _ _ => rfl), List.map_map]
  rfl
theorem wk_range {n : Int} (h : n < 4611686018427387904) (h0 : 0 ≤ n) : walkOf T .range [.int n] = some (.range 0 1 n.toNat) := by
  show (if small62 n then _ else none) = _
  rw [if_pos (by unfold small62; simp; omega)]
@[simp] theorem wk_tup (xs : List PV) : walkOf T .plain [.tup xs] = some (.items xs) := (rfl)
@[simp] theorem wk_vl (xs : List PV) : walkOf T .plain [.vl xs] = some (.items xs) := (rfl)
@[simp] theorem wk_str (xs : List Nat) : walkOf T .plain [.str xs] = some (.items (xs.map fun c => .str [c])) := (rfl)
/-! what a def lets go -/
theorem letGo_same {v : PV} {T' : Store} (h : T'.length = T.length) : letGo T (.ok v T') = .ok v T' := by
  show (if T'.length ≤ T.length then Res.ok v T' else _) = _
  rw [if_pos (by omega)]
@[simp] theorem letGo_id (v : PV) : letGo T (.ok v T) = .ok v T := letGo_same rfl
@[simp] theorem letGo_exc (c : Nat) : letGo T (.exc c T) = .exc c T := by
  show (if T.length ≤ T.length then Res.exc c T else _) = _
  rw [if_pos (Nat.le_refl _)]
/-! the store's end -/
@[simp] theorem get_last (x : MO) : (T ++ [x])[T.length]? = some x := by simp
@[simp] theorem set_last (x y : MO) : (T ++ [x]).set T.length y = T ++ [y] := by simp
@[simp] theorem n40 : normI 4 0 = some 0 := (rfl)
@[simp] theorem n41 : normI 4 1 = some 1 := (rfl)
@[simp] theorem n42 : normI 4 2 = some 2 := (rfl)
@[simp] theorem n43 : normI 4 3 = some 3 := (rfl)
theorem norm_in {n : Nat} {i : Int} (h0 : 0 ≤ i) (h1 : i < n) : normI n i = some i.toNat := by
  unfold normI
  rw [if_pos h0, if_pos h1]
theorem slice_from1 (w : Bool) (s : List Nat) : sliceOp w true false (.str s) (.int 1) .non T = if s.length ≤ SZ then .ok (.str (s.drop 1)) T else .bad := by
  show (if s.length ≤ SZ then Res.ok (PV.str (cut s (min 1 s.length) s.length)) T else .bad) = _
  have : cut s (min 1 s.length) s.length = s.drop 1 := by
    unfold cut
    cases s with
    | nil => rfl
    | cons a r =>
      have e : min 1 (a :: r).length = 1 := by rw [List.length_cons]; omega
      rw [e, List.take_of_length_le]
      simp
  rw [this]
theorem seq_next {a b : S} {σ1 : Nv} {T1 : Store} (h : exS C G a σ T = .ok (.next σ1) T1) : exS C G (.seq a b) σ T = exS C G b σ1 T1 := by
  rw [ex_seq, h, seqS_next]
theorem seq_ret {a b : S} {v : PV} {T1 : Store} (h : exS C G a σ T = .ok (.ret v) T1) : exS C G (.seq a b) σ T = .ok (.ret v) T1 := by
  rw [ex_seq, h, seqS_ret]
theorem seq_exc {a b : S} {c : Nat} {σ1 : Nv} {T1 : Store} (h : exS C G a σ T = .ok (.exc c σ1) T1) : exS C G (.seq a b) σ T = .ok (.exc c σ1) T1 := by
  rw [ex_seq, h, seqS_exc]
/-! loops -/
def loopO (o : Option Wk) (tg : Tgt) (b : Nv → Store → ResS) (σ : Nv) (T : Store) : ResS := match o with
  | some w => iterL w tg b FU 0 σ T
  | none => .bad
theorem loopO_some (w : Wk) (tg : Tgt) (b : Nv → Store → ResS) : loopO (some w) tg b σ T = iterL w tg b FU 0 σ T := (rfl)
@[simp] theorem ex_loop (tg : Tgt) (k : ItK) (it : E) (b : S) : exS C G (.loop tg k it b) σ T = (ev C G it σ T).bindS σ fun vs T1 => loopO (walkOf T1 k (asTup vs)) tg (exS C G b) σ T1 := (rfl)
theorem loop_is {tg : Tgt} {k : ItK} {it : E} {b : S} {vs : List PV} {w : Wk} {r : ResS} {T1 : Store} (h1 : ev C G it σ T = .ok (.tup vs) T1) (h2 : walkOf T1 k vs = some w) (h3 : loopO (some w) tg (exS C G b) σ T1 = r) : exS C G (.loop tg k it b) σ T = r := by
  rw [ex_loop, h1, bindS_ok, asTup_tup, h2, h3]
/-- a loop by its turns, from a fuel that suffices -/
theorem loop_by {w : Wk} {tg : Tgt} {b : Nv → Store → ResS} {r : ResS} (m : Nat) (hm : m ≤ 1099511627776) (h : ∀ n, m ≤ n → iterL w tg b n 0 σ T = r) : loopO (some w) tg b σ T = r := (loopO_some w tg b).trans (h FU hm)
def whileO (c : Nv → Store → Res Bool) (b : Nv → Store → ResS) (σ : Nv) (T : Store) : ResS := whileL c b FU σ T
theorem while_by {c : Nv → Store → Res Bool} {b : Nv → Store → ResS} {r : ResS} (m : Nat) (hm : m ≤ 1099511627776) (h : ∀ n, m ≤ n → whileL c b n σ T = r) : whileO c b σ T = r := h FU hm
@[simp] theorem ex_whl (c : E) (b : S) : exS C G (.whl c b) σ T = whileO (evT C G c) (exS C G b) σ T := (rfl)
theorem iterL_eq (w : Wk) (tg : Tgt) (b : Nv → Store → ResS) (n i : Nat) : iterL w tg b (n + 1) i σ T = match w.at i T with
    | none => .bad
    | some none => .ok (.next σ) T
    | some (some v) => match bindT tg v σ with
      | none => .bad
      | some σ1 => match b σ1 T with
        | .ok (.next σ2) T2 => iterL w tg b n (i + 1) σ2 T2
        | .ok (.cont σ2) T2 => iterL w tg b n (i + 1) σ2 T2
        | .ok (.brk σ2) T2 => .ok (.next σ2) T2
        | .ok (.ret v) T2 => .ok (.ret v) T2
        | .ok (.exc c σ2) T2 => .ok (.exc c σ2) T2
        | .bad => .bad := (rfl)
/-- a turn that goes on -/
theorem iterL_next {w : Wk} {x : Nat} {v : PV} {b : Nv → Store → ResS} {n i : Nat} {σ2 : Nv} {T2 : Store} (h1 : w.at i T = some (some v)) (h2 : b (σ.set x (some v)) T = .ok (.next σ2) T2) : iterL w (.nm x) b (n + 1) i σ T = iterL w (.nm x) b n (i + 1) σ2 T2 := by
  rw [iterL_eq, h1]
  show (match b (σ.set x (some v)) T with
        | .ok (.next σ2) T2 => iterL w (.nm x) b n (i + 1) σ2 T2
        | .ok (.cont σ2) T2 => iterL w (.nm x) b n (i + 1) σ2 T2
        | .ok (.brk σ2) T2 => .ok (.next σ2) T2
        | .ok (.ret v) T2 => .ok (.ret v) T2
        | .ok (.exc c σ2) T2 => .ok (.exc c σ2) T2
        | .bad => .bad) = _
  rw [h2]
theorem iterL_brk {w : Wk} {x : Nat} {v : PV} {b : Nv → Store → ResS} {n i : Nat} {σ2 : Nv} {T2 : Store} (h1 : w.at i T = some (some v)) (h2 : b (σ.set x (some v)) T = .ok (.brk σ2) T2) : iterL w (.nm x) b (n + 1) i σ T = .ok (.next σ2) T2 := by
  rw [iterL_eq, h1]
  show (match b (σ.set x (some v)) T with
        | .ok (.next σ2) T2 => iterL w (.nm x) b n (i + 1) σ2 T2
        | .ok (.cont σ2) T2 => iterL w (.nm x) b n (i + 1) σ2 T2
        | .ok (.brk σ2) T2 => .ok (.next σ2) T2
        | .ok (.ret v) T2 => .ok (.ret v) T2
        | .ok (.exc c σ2) T2 => .ok (.exc c σ2) T2
        | .bad => .bad) = _
  rw [h2]
theorem iterL_ret {w : Wk} {x : Nat} {v u : PV} {b : Nv → Store → ResS} {n i : Nat} {T2 : Store} (h1 : w.at i T = some (some v)) (h2 : b (σ.set x (some v)) T = .ok (.ret u) T2) : iterL w (.nm x) b (n + 1) i σ T = .ok (.ret u) T2 := by
  rw [iterL_eq, h1]
  show (match b (σ.set x (some v)) T with
        | .ok (.next σ2) T2 => iterL w (.nm x) b n (i + 1) σ2 T2
        | .ok (.cont σ2) T2 => iterL w (.nm x) b n (i + 1) σ2 T2
        | .ok (.brk σ2) T2 => .ok (.next σ2) T2
        | .ok (.ret v) T2 => .ok (.ret v) T2
        | .ok (.exc c σ2) T2 => .ok (.exc c σ2) T2
        | .bad => .bad) = _
  rw [h2]
theorem iterL_exc {w : Wk} {x c : Nat} {v : PV} {b : Nv → Store → ResS} {n i : Nat} {σ2 : Nv} {T2 : Store} (h1 : w.at i T = some (some v)) (h2 : b (σ.set x (some v)) T = .ok (.exc c σ2) T2) : iterL w (.nm x) b (n + 1) i σ T = .ok (.exc c σ2) T2 := by
  rw [iterL_eq, h1]
  show (match b (σ.set x (some v)) T with
        | .ok (.next σ2) T2 => iterL w (.nm x) b n (i + 1) σ2 T2
        | .ok (.cont σ2) T2 => iterL w (.nm x) b n (i + 1) σ2 T2
        | .ok (.brk σ2) T2 => .ok (.next σ2) T2
        | .ok (.ret v) T2 => .ok (.ret v) T2
        | .ok (.exc c σ2) T2 => .ok (.exc c σ2) T2
        | .bad => .bad) = _
  rw [h2]
theorem iterL_end {w : Wk} {tg : Tgt} {b : Nv → Store → ResS} {n i : Nat} (h1 : w.at i T = some none) : iterL w tg b (n + 1) i σ T = .ok (.next σ) T := by
  rw [iterL_eq, h1]
theorem whileL_eq (c : Nv → Store → Res Bool) (b : Nv → Store → ResS) (n : Nat) : whileL c b (n + 1) σ T = (c σ T).bindS σ fun t T1 =>
    if t then match b σ T1 with
      | .ok (.next σ2) T2 => whileL c b n σ2 T2
      | .ok (.cont σ2) T2 => whileL c b n σ2 T2
      | .ok (.brk σ2) T2 => .ok (.next σ2) T2
      | .ok (.ret v) T2 => .ok (.ret v) T2
      | .ok (.exc c σ2) T2 => .ok (.exc c σ2) T2
      | .bad => .bad
    else .ok (.next σ) T1 := (rfl)
theorem whileL_end {c : Nv → Store → Res Bool} {b : Nv → Store → ResS} {n : Nat} {T1 : Store} (h : c σ T = .ok false T1) : whileL c b (n + 1) σ T = .ok (.next σ) T1 := by
  rw [whileL_eq, h]
  rfl
theorem whileL_next {c : Nv → Store → Res Bool} {b : Nv → Store → ResS} {n : Nat} {T1 T2 : Store} {σ2 : Nv} (h : c σ T = .ok true T1) (h2 : b σ T1 = .ok (.next σ2) T2) : whileL c b (n + 1) σ T = whileL c b n σ2 T2 := by
  rw [whileL_eq, h]
  show (match b σ T1 with
      | .ok (.next σ2) T2 => whileL c b n σ2 T2
      | .ok (.cont σ2) T2 => whileL c b n σ2 T2
      | .ok (.brk σ2) T2 => .ok (.next σ2) T2
      | .ok (.ret v) T2 => .ok (.ret v) T2
      | .ok (.exc c σ2) T2 => .ok (.exc c σ2) T2
      | .bad => .bad) = _
  rw [h2]
theorem whileL_exc {c : Nv → Store → Res Bool} {b : Nv → Store → ResS} {n x : Nat} {T1 T2 : Store} {σ2 : Nv} (h : c σ T = .ok true T1) (h2 : b σ T1 = .ok (.exc x σ2) T2) : whileL c b (n + 1) σ T = .ok (.exc x σ2) T2 := by
  rw [whileL_eq, h]
  show (match b σ T1 with
      | .ok (.next σ2) T2 => whileL c b n σ2 T2
      | .ok (.cont σ2) T2 => whileL c b n σ2 T2
      | .ok (.brk σ2) T2 => .ok (.next σ2) T2
      | .ok (.ret v) T2 => .ok (.ret v) T2
      | .ok (.exc c σ2) T2 => .ok (.exc c σ2) T2
      | .bad => .bad) = _
  rw [h2]
/-! small numbers -/
theorem log2_lt_of {a n : Nat} (h : a < 2 ^ n) (hn : 0 < n) : a.log2 < n := by
  by_cases e : a = 0
  · subst e; simpa using hn
  · exact (Nat.log2_lt e).mpr h
/-! a loop that changes its own name alone -/
theorem iter_quiet {x : Nat} {b : Nv → Store → ResS} {σ : Nv} {xs : List PV} (h : ∀ v ∈ xs, b (σ.set x (some v)) T = .ok (.next (σ.set x (some v))) T) : ∀ (m i : Nat), xs.length - i ≤ m → ∀ n, m + 1 ≤ n → ∀ y0, ∃ y, iterL (.items xs) (.nm x) b n i (σ.set x y0) T = .ok (.next (σ.set x y)) T
  | m, i, hm, 0, hn, _ => absurd hn (by omega)
  | m, i, hm, n + 1, hn, y0 => by
    by_cases hi : i < xs.length
    · cases m with
      | zero => omega
      | succ m =>
        have hx : (Wk.items xs).at i T = some (some xs[i]) := by
          show some xs[i]? = _
          rw [List.getElem?_eq_getElem hi]
        obtain ⟨y, e⟩ := iter_quiet h m (i + 1) (by omega) n (by omega) (some xs[i])
        refine ⟨y, ?_⟩
        rw [iterL_next hx (by rw [List.set_set]; exact h _ (List.getElem_mem hi))]
        exact e
    · exact ⟨y0, iterL_end (by show some xs[i]? = _; rw [List.getElem?_eq_none_iff.mpr (by omega)])⟩
theorem loop_quiet {x : Nat} {b : Nv → Store → ResS} {σ : Nv} {xs : List PV} (hz : xs.length ≤ SZ) (h : ∀ v ∈ xs, b (σ.set x (some v)) T = .ok (.next (σ.set x (some v))) T) (y0 : Option PV) : ∃ y, loopO (some (.items xs)) (.nm x) b (σ.set x y0) T = .ok (.next (σ.set x y)) T := by
  obtain ⟨y, e⟩ := iter_quiet h xs.length 0 (by omega) FU (by show _ ≤ 1099511627776; have : SZ = 16777216 := rfl; omega) y0
  exact ⟨y, (loopO_some _ _ _).trans e⟩
/-! what is let go -/
mutual
theorem same_refl : ∀ v : PV, same v v = true
  | .non => rfl
  | .bl b => by unfold same; exact beq_self_eq_true b
  | .int i => by unfold same; exact beq_self_eq_true i
  | .str s => by unfold same; exact beq_self_eq_true s
  | .tup xs => by unfold same; exact sames_refl xs
  | .frz xs => by unfold same; exact sames_refl xs
  | .vl xs => by unfold same; exact sames_refl xs
  | .vd ks xs => by unfold same; rw [sames_refl xs, decide_eq_true rfl]; rfl
  | .ref n => by unfold same; exact beq_self_eq_true n
  | .fn n => by unfold same; exact beq_self_eq_true n
  | .exc n => by unfold same; exact beq_self_eq_true n
theorem sames_refl : ∀ xs : List PV, sames xs xs = true
  | [] => rfl
  | x :: xs => by unfold sames; rw [same_refl x, sames_refl xs]; rfl
end
theorem sameO_refl (o : MO) : sameO o o = true := by
  cases o with
  | lst xs => exact sames_refl xs
  | dct ks xs =>
    show (decide (ks = ks) && sames xs xs) = true
    rw [sames_refl xs, decide_eq_true rfl]; rfl
  | obj c fs xs =>
    show (c == c && decide (fs = fs) && sames xs xs) = true
    rw [sames_refl xs, decide_eq_true rfl, beq_self_eq_true]; rfl
theorem lowS_app (n : Nat) (X : Store) : ∀ T : Store, lowS n T (T ++ X) = true
  | [] => by cases X <;> rfl
  | a :: T => by
    show ((sameO a a || lowO n a) && lowS n T (T ++ X)) = true
    rw [sameO_refl, lowS_app n X T]
    rfl
/-- a value without the store's things is told as it is -/
theorem letGo_app {v : PV} {X : Store} (h : toldV T.length (T ++ X) v = v) (hl : low T.length v = true) : letGo T (.ok v (T ++ X)) = .ok v T := by
  show (if (T ++ X).length ≤ T.length then Res.ok v (T ++ X) else if low T.length (toldV T.length (T ++ X) v) && lowS T.length T (T ++ X) then Res.ok (toldV T.length (T ++ X) v) ((T ++ X).take T.length) else .ok v (T ++ X)) = _
  rw [h, hl, lowS_app, List.take_left]
  split
  · rename_i hx
    have : X = [] := by
      rw [List.length_append] at hx
      exact List.eq_nil_of_length_eq_zero (by omega)
    rw [this, List.append_nil]
  · rfl
@[simp] theorem letGo_str {s : List Nat} {X : Store} : letGo T (.ok (.str s) (T ++ X)) = .ok (.str s) T := letGo_app rfl rfl
@[simp] theorem letGo_excA {c : Nat} {X : Store} : letGo T (.exc c (T ++ X)) = .exc c T := by
  show (if (T ++ X).length ≤ T.length then Res.exc c (T ++ X) else if lowS T.length T (T ++ X) then Res.exc c ((T ++ X).take T.length) else .exc c (T ++ X)) = _
  rw [lowS_app, List.take_left]
  split
  · rename_i hx
    have : X = [] := by
      rw [List.length_append] at hx
      exact List.eq_nil_of_length_eq_zero (by omega)
    rw [this, List.append_nil]
  · rfl
end
end MP

set_option Elab.async false
set_option linter.all false
set_option maxRecDepth 100000
set_option maxHeartbeats 4000000
/-! MR: loops and comprehensions over a list, without fuel. -/
namespace MP
section
variable {T : Store}
/-- what a turn's end does with the rest -/
def loopK (r : ResS) (k : Nv → Store → ResS) (u : Mark k := ⟨⟩) : ResS := match r with
  | .ok (.next σ) T => k σ T
  | .ok (.cont σ) T => k σ T
  | .ok (.brk σ) T => .ok (.next σ) T
  | .ok (.ret v) T => .ok (.ret v) T
  | .ok (.exc c σ) T => .ok (.exc c σ) T
  | .bad => .bad
@[simp] theorem loopK_next (σ : Nv) (k : Nv → Store → ResS) : loopK (.ok (.next σ) T) k = k σ T := (rfl)
@[simp] theorem loopK_cont (σ : Nv) (k : Nv → Store → ResS) : loopK (.ok (.cont σ) T) k = k σ T := (rfl)
@[simp] theorem loopK_brk (σ : Nv) (k : Nv → Store → ResS) : loopK (.ok (.brk σ) T) k = .ok (.next σ) T := (rfl)
@[simp] theorem loopK_ret (v : PV) (k : Nv → Store → ResS) : loopK (.ok (.ret v) T) k = .ok (.ret v) T := (rfl)
@[simp] theorem loopK_exc (c : Nat) (σ : Nv) (k : Nv → Store → ResS) : loopK (.ok (.exc c σ) T) k = .ok (.exc c σ) T := (rfl)
/-- a loop over a list's items -/
def loopR (tg : Tgt) (b : Nv → Store → ResS) : List PV → Nv → Store → ResS
  | [], σ, T => .ok (.next σ) T
  | v :: xs, σ, T => match bindT tg v σ with
    | none => .bad
    | some σ1 => loopK (b σ1 T) fun σ2 T2 => loopR tg b xs σ2 T2
theorem iterL_R {tg : Tgt} {b : Nv → Store → ResS} {xs : List PV} : ∀ (m i n : Nat) (σ : Nv) (T : Store), xs.length - i ≤ m → m + 1 ≤ n → iterL (.items xs) tg b n i σ T = loopR tg b (xs.drop i) σ T
  | m, i, 0, σ, T, _, hn => absurd hn (by omega)
  | m, i, n + 1, σ, T, hm, hn => by
    rw [iterL_eq]
    by_cases hi : i < xs.length
    · have hx : (Wk.items xs).at i T = some (some xs[i]) := by
        show some xs[i]? = _
        rw [List.getElem?_eq_getElem hi]
      rw [hx, List.drop_eq_getElem_cons hi]
      show (match bindT tg xs[i] σ with | none => ResS.bad | some σ1 => _) = (match bindT tg xs[i] σ with | none => ResS.bad | some σ1 => loopK (b σ1 T) fun σ2 T2 => loopR tg b (xs.drop (i + 1)) σ2 T2)
      cases bindT tg xs[i] σ with
      | none => rfl
      | some σ1 =>
        cases m with
        | zero => omega
        | succ m =>
          show (match b σ1 T with
            | .ok (.next σ2) T2 => iterL (.items xs) tg b n (i + 1) σ2 T2
            | .ok (.cont σ2) T2 => iterL (.items xs) tg b n (i + 1) σ2 T2
            | .ok (.brk σ2) T2 => .ok (.next σ2) T2
            | .ok (.ret v) T2 => .ok (.ret v) T2
            | .ok (.exc c σ2) T2 => .ok (.exc c σ2) T2
            | .bad => ResS.bad) = loopK (b σ1 T) _
          cases b σ1 T with
          | bad => rfl
          | ok o T2 =>
            cases o with
            | next σ2 => exact iterL_R m (i + 1) n σ2 T2 (by omega) (by omega)
            | cont σ2 => exact iterL_R m (i + 1) n σ2 T2 (by omega) (by omega)
            | _ => rfl
    · have hx : (Wk.items xs).at i T = some none := by
        show some xs[i]? = _
        rw [List.getElem?_eq_none_iff.mpr (by omega)]
      rw [hx, List.drop_eq_nil_of_le (by omega)]
      rfl
theorem loopO_R {tg : Tgt} {b : Nv → Store → ResS} {xs : List PV} {σ : Nv} (h : xs.length ≤ SZ) : loopO (some (.items xs)) tg b σ T = loopR tg b xs σ T := by
  rw [loopO_some]
  exact iterL_R xs.length 0 FU σ T (by omega) (by show _ ≤ 1099511627776; have : SZ = 16777216 := rfl; omega)
@[simp] theorem loopR_nil {tg : Tgt} {b : Nv → Store → ResS} {σ : Nv} : loopR tg b [] σ T = .ok (.next σ) T := (rfl)
@[simp] theorem loopR_cons {x : Nat} {b : Nv → Store → ResS} {σ : Nv} (v : PV) (xs : List PV) : loopR (.nm x) b (v :: xs) σ T = loopK (b (σ.set x (some v)) T) fun σ2 T2 => loopR (.nm x) b xs σ2 T2 := (rfl)
/-- a comprehension over a list's items -/
def compR (tg : Tgt) (c : Nv → Store → Res Bool) (e : Nv → Store → Res PV) (σ : Nv) : List PV → List PV → Store → Res (List PV)
  | [], acc, T => .ok acc T
  | v :: xs, acc, T => match bindT tg v σ with
    | none => .bad
    | some σ1 => (c σ1 T).bind fun t T1 => if t then (e σ1 T1).bind fun v T2 => compR tg c e σ xs (acc ++ [v]) T2 else compR tg c e σ xs acc T1
theorem compL_R {tg : Tgt} {c : Nv → Store → Res Bool} {e : Nv → Store → Res PV} {σ : Nv} {xs : List PV} : ∀ (m i n : Nat) (acc : List PV) (T : Store), xs.length - i ≤ m → m + 1 ≤ n → acc.length + (xs.length - i) ≤ SZ → compL (.items xs) tg c (fun σ acc T => (e σ T).bind fun v T2 => addL acc v T2) σ n i acc T = compR tg c e σ (xs.drop i) acc T
  | m, i, 0, acc, T, _, hn, _ => absurd hn (by omega)
  | m, i, n + 1, acc, T, hm, hn, hz => by
    have eq : compL (.items xs) tg c (fun σ acc T => (e σ T).bind fun v T2 => addL acc v T2) σ (n + 1) i acc T = match (Wk.items xs).at i T with
      | none => .bad
      | some none => .ok acc T
      | some (some v) => match bindT tg v σ with
        | none => .bad
        | some σ1 => (c σ1 T).bind fun t T1 => if t then ((e σ1 T1).bind fun v T2 => addL acc v T2).bind fun acc1 T2 => compL (.items xs) tg c (fun σ acc T => (e σ T).bind fun v T2 => addL acc v T2) σ n (i + 1) acc1 T2 else compL (.items xs) tg c (fun σ acc T => (e σ T).bind fun v T2 => addL acc v T2) σ n (i + 1) acc T1 := rfl
    rw [eq]
    by_cases hi : i < xs.length
    · have hx : (Wk.items xs).at i T = some (some xs[i]) := by
        show some xs[i]? = _
        rw [List.getElem?_eq_getElem hi]
      rw [hx, List.drop_eq_getElem_cons hi]
      show (match bindT tg xs[i] σ with | none => Res.bad | some σ1 => _) = (match bindT tg xs[i] σ with | none => Res.bad | some σ1 => (c σ1 T).bind fun t T1 => if t then (e σ1 T1).bind fun v T2 => compR tg c e σ (xs.drop (i + 1)) (acc ++ [v]) T2 else compR tg c e σ (xs.drop (i + 1)) acc T1)
      cases bindT tg xs[i] σ with
      | none => rfl
      | some σ1 =>
        cases m with
        | zero => omega
        | succ m =>
          refine Res.bind_congr _ fun t T1 => ?_
          cases t with
          | false => exact compL_R m (i + 1) n acc T1 (by omega) (by omega) (by omega)
          | true =>
            show ((e σ1 T1).bind fun v T2 => addL acc v T2).bind _ = (e σ1 T1).bind _
            rw [Res.bind_assoc]
            refine Res.bind_congr _ fun v T2 => ?_
            show (addL acc v T2).bind _ = _
            unfold addL
            rw [if_pos (by omega)]
            exact compL_R m (i + 1) n (acc ++ [v]) T2 (by omega) (by omega) (by rw [List.length_append, List.length_singleton]; omega)
    · have hx : (Wk.items xs).at i T = some none := by
        show some xs[i]? = _
        rw [List.getElem?_eq_none_iff.mpr (by omega)]
      rw [hx, List.drop_eq_nil_of_le (by omega)]
      rfl
theorem compO_R {tg : Tgt} {c : Nv → Store → Res Bool} {e : Nv → Store → Res PV} {σ : Nv} {xs : List PV} (h : xs.length ≤ SZ) : compO true (some (.items xs)) tg c e σ T = compR tg c e σ xs [] T := by
  show Res.outX true _ = _
  have := compL_R (tg := tg) (c := c) (e := e) (σ := σ) (xs := xs) xs.length 0 FU [] T (by omega) (by show _ ≤ 1099511627776; have : SZ = 16777216 := rfl; omega) (by simpa using h)
  rw [this]
  rfl
@[simp] theorem compR_nil {tg : Tgt} {c : Nv → Store → Res Bool} {e : Nv → Store → Res PV} {σ : Nv} (acc : List PV) : compR tg c e σ [] acc T = .ok acc T := (rfl)
@[simp] theorem compR_cons {x : Nat} {c : Nv → Store → Res Bool} {e : Nv → Store → Res PV} {σ : Nv} (v : PV) (xs acc : List PV) : compR (.nm x) c e σ (v :: xs) acc T = (c (σ.set x (some v)) T).bind fun t T1 => if t then (e (σ.set x (some v)) T1).bind fun v T2 => compR (.nm x) c e σ xs (acc ++ [v]) T2 else compR (.nm x) c e σ xs acc T1 := (rfl)
theorem loopO_L {tg : Tgt} {b : Nv → Store → ResS} {xs : List PV} {σ : Nv} (h : xs.length ≤ 16777216) : loopO (some (.items xs)) tg b σ T = loopR tg b xs σ T := loopO_R h
theorem compO_L {tg : Tgt} {c : Nv → Store → Res Bool} {e : Nv → Store → Res PV} {σ : Nv} {xs : List PV} (h : xs.length ≤ 16777216) : compO true (some (.items xs)) tg c e σ T = compR tg c e σ xs [] T := compO_R h
/-! try -/
def tryK (r : ResS) (cs ps : List Nat) (x : Option Nat) (h : Nv → Store → ResS) (u : Mark h := ⟨⟩) : ResS := match r with
  | .ok (.exc c σ1) T1 => if c ∈ cs then endX x (h (holdX x c σ1) T1) else if c ∈ ps then .ok (.exc c σ1) T1 else .bad
  | r => r
@[simp] theorem ex_tryx {C : Nat → List PV → Store → Res PV} {G : Nat → Option PV} {σ : Nv} (b : S) (cs ps : List Nat) (x : Option Nat) (h : S) : exS C G (.tryx b cs ps x h) σ T = tryK (exS C G b σ T) cs ps x (exS C G h) := by
  show (match exS C G b σ T with
    | .ok (.exc c σ1) T1 => if c ∈ cs then endX x (exS C G h (holdX x c σ1) T1) else if c ∈ ps then .ok (.exc c σ1) T1 else .bad
    | r => r) = _
  cases exS C G b σ T with
  | bad => rfl
  | ok o T1 => cases o <;> rfl
@[simp] theorem tryK_exc (c : Nat) (σ : Nv) (cs ps : List Nat) (x : Option Nat) (h : Nv → Store → ResS) : tryK (.ok (.exc c σ) T) cs ps x h = if c ∈ cs then endX x (h (holdX x c σ) T) else if c ∈ ps then .ok (.exc c σ) T else .bad := (rfl)
@[simp] theorem tryK_next (σ : Nv) (cs ps : List Nat) (x : Option Nat) (h : Nv → Store → ResS) : tryK (.ok (.next σ) T) cs ps x h = .ok (.next σ) T := (rfl)
@[simp] theorem tryK_ret (v : PV) (cs ps : List Nat) (x : Option Nat) (h : Nv → Store → ResS) : tryK (.ok (.ret v) T) cs ps x h = .ok (.ret v) T := (rfl)
@[simp] theorem endX_ret (v : PV) (x : Option Nat) : endX x (.ok (.ret v) T) = .ok (.ret v) T := (rfl)
end
end MP

set_option Elab.async false
set_option linter.all false
set_option maxRecDepth 100000
set_option maxHeartbeats 4000000
/-! MC: comprehensions over a range whose turns change the store's first thing. -/
namespace MP
theorem compL_state {n i : Nat} {c : Nv → Store → Res Bool} {e : Nv → Store → Res PV} {σ : Nv} {R : Store} (Inv : Nat → MO → Prop) (P : PV → Prop) (hc : ∀ σ1 T, c σ1 T = .ok true T)
    (h : ∀ j a, j < n → Inv j a → ∃ v a', e (σ.set i (some (.int j))) (a :: R) = .ok v (a' :: R) ∧ P v ∧ Inv (j + 1) a') : ∀ (m j f : Nat) (acc : List PV) (a : MO), n - j ≤ m → j ≤ n → m + 1 ≤ f → acc.length + (n - j) ≤ SZ → Inv j a →
    ∃ (vs : List PV) (a' : MO), compL (.range 0 1 n) (.nm i) c (fun σ acc T => (e σ T).bind fun v T2 => addL acc v T2) σ f j acc (a :: R) = .ok (acc ++ vs) (a' :: R) ∧ vs.length = n - j ∧ (∀ v ∈ vs, P v) ∧ Inv n a' := by
  intro m
  induction m with
  | zero =>
    intro j f acc a hm hj hf hz hI
    obtain ⟨f, rfl⟩ : ∃ q, f = q + 1 := ⟨f - 1, by omega⟩
    have e1 : j = n := by omega
    subst e1
    refine ⟨[], a, ?_, by simp, (fun v hv => by cases hv), hI⟩
    show (match (Wk.range 0 1 j).at j (a :: R) with | none => Res.bad | some none => .ok acc (a :: R) | some (some v) => _) = _
    have : (Wk.range 0 1 j).at j (a :: R) = some none := by
      show some (if j < j then _ else none) = _
      rw [if_neg (by omega)]
    rw [this, List.append_nil]
  | succ m ih =>
    intro j f acc a hm hj hf hz hI
    obtain ⟨f, rfl⟩ : ∃ q, f = q + 1 := ⟨f - 1, by omega⟩
    have eq : compL (.range 0 1 n) (.nm i) c (fun σ acc T => (e σ T).bind fun v T2 => addL acc v T2) σ (f + 1) j acc (a :: R) = match (Wk.range 0 1 n).at j (a :: R) with
      | none => .bad
      | some none => .ok acc (a :: R)
      | some (some v) => match bindT (.nm i) v σ with
        | none => .bad
        | some σ1 => (c σ1 (a :: R)).bind fun t T1 => if t then ((e σ1 T1).bind fun v T2 => addL acc v T2).bind fun acc1 T2 => compL (.range 0 1 n) (.nm i) c (fun σ acc T => (e σ T).bind fun v T2 => addL acc v T2) σ f (j + 1) acc1 T2 else compL (.range 0 1 n) (.nm i) c (fun σ acc T => (e σ T).bind fun v T2 => addL acc v T2) σ f (j + 1) acc T1 := rfl
    by_cases hlt : j < n
    · obtain ⟨v, a1, e1, hp, hI1⟩ := h j a hlt hI
      obtain ⟨vs, a2, e2, l2, p2, hI2⟩ := ih (j + 1) f (acc ++ [v]) a1 (by omega) (by omega) (by omega) (by rw [List.length_append, List.length_singleton]; omega) hI1
      refine ⟨v :: vs, a2, ?_, by rw [List.length_cons]; omega, fun z hz => ?_, hI2⟩
      · have hat : (Wk.range 0 1 n).at j (a :: R) = some (some (.int (0 + j * 1))) := by
          show some (if j < n then _ else none) = _
          rw [if_pos hlt]
        have ej : ((0 : Int) + j * 1) = j := by omega
        rw [eq, hat, ej]
        show (c (σ.set i (some (.int j))) (a :: R)).bind _ = _
        rw [hc]
        show ((e (σ.set i (some (.int j))) (a :: R)).bind fun v T2 => addL acc v T2).bind _ = _
        rw [e1]
        show (addL acc v (a1 :: R)).bind _ = _
        unfold addL
        rw [if_pos (by omega)]
        show compL (.range 0 1 n) (.nm i) c _ σ f (j + 1) (acc ++ [v]) (a1 :: R) = _
        rw [show acc ++ v :: vs = acc ++ [v] ++ vs by simp]
        exact e2
      · rcases List.mem_cons.mp hz with q | q
        · rw [q]; exact hp
        · exact p2 z q
    · have e1 : j = n := by omega
      subst e1
      refine ⟨[], a, ?_, by simp, (fun v hv => by cases hv), hI⟩
      have : (Wk.range 0 1 j).at j (a :: R) = some none := by
        show some (if j < j then _ else none) = _
        rw [if_neg (by omega)]
      rw [eq, this, List.append_nil]
/-- the comprehension as a whole -/
theorem compO_state {x : Bool} {n i : Nat} {c : Nv → Store → Res Bool} {e : Nv → Store → Res PV} {σ : Nv} {R : Store} {a : MO} (Inv : Nat → MO → Prop) (P : PV → Prop) (hn : n ≤ SZ) (hc : ∀ σ1 T, c σ1 T = .ok true T)
    (h : ∀ j a, j < n → Inv j a → ∃ v a', e (σ.set i (some (.int j))) (a :: R) = .ok v (a' :: R) ∧ P v ∧ Inv (j + 1) a') (h0 : Inv 0 a) :
    ∃ (vs : List PV) (a' : MO), compO x (some (.range 0 1 n)) (.nm i) c e σ (a :: R) = .ok vs (a' :: R) ∧ vs.length = n ∧ (∀ v ∈ vs, P v) ∧ Inv n a' := by
  obtain ⟨vs, a', e1, l, p, hI⟩ := compL_state (i := i) (c := c) (e := e) (σ := σ) (R := R) Inv P hc h n 0 FU [] a (by omega) (by omega) (by show _ ≤ 1099511627776; have : SZ = 16777216 := rfl; omega) (by simpa using hn) h0
  refine ⟨vs, a', ?_, by simpa using l, p, hI⟩
  show Res.outX x _ = _
  rw [e1]
  cases x <;> simp [Res.outX, Res.noX]
end MP

set_option Elab.async false
set_option linter.all false
set_option maxRecDepth 100000
/-! HT: the trees of the defs that the laws share (printed by tree.py): _law_start 6, _law_draw 7, _law_one_of 8, _law_is_int 9, _law_same 10, _law_shuffled 57, _law_says 61, write_integer 0, read_integer 1. -/
namespace MP
def h6 : MP.S := S.seq (S.ret (E.list true (E.cons (E.prim false (Prim.list) (E.cons (E.var 0) (E.nil))) (E.cons (E.lit (PV.int 0)) (E.cons (E.lit (PV.int 0)) (E.cons (E.lit (PV.int 0)) (E.nil))))))) (S.skip)
def h7 : MP.S := S.seq (S.setix (E.var 0) (E.lit (PV.int 3)) (E.bin false (BinO.add) (E.idx (E.var 0) (E.lit (PV.int 3))) (E.lit (PV.int 1)))) (S.seq (S.ite (E.cmp (CmpO.gt) (E.idx (E.var 0) (E.lit (PV.int 2))) (E.lit (PV.int 0))) (S.seq (S.asg (Tgt.nm 2) (E.bin false (BinO.mod) (E.prim false (Prim.int) (E.cons (E.idx (E.var 0) (E.lit (PV.int 2))) (E.nil))) (E.var 1))) (S.seq (S.setix (E.var 0) (E.lit (PV.int 2)) (E.bin false (BinO.fdiv) (E.idx (E.var 0) (E.lit (PV.int 2))) (E.var 1))) (S.seq (S.ret (E.var 2)) (S.skip)))) (S.skip)) (S.seq (S.asg (Tgt.nm 3) (E.lit (PV.int 0))) (S.seq (S.ite (E.cmp (CmpO.gt) (E.prim false (Prim.len) (E.cons (E.idx (E.var 0) (E.lit (PV.int 0))) (E.nil))) (E.lit (PV.int 0))) (S.seq (S.asg (Tgt.nm 3) (E.prim false (Prim.abs) (E.cons (E.idx (E.idx (E.var 0) (E.lit (PV.int 0))) (E.bin false (BinO.mod) (E.prim false (Prim.int) (E.cons (E.idx (E.var 0) (E.lit (PV.int 1))) (E.nil))) (E.prim false (Prim.len) (E.cons (E.idx (E.var 0) (E.lit (PV.int 0))) (E.nil))))) (E.nil)))) (S.skip)) (S.skip)) (S.seq (S.setix (E.var 0) (E.lit (PV.int 1)) (E.bin false (BinO.add) (E.idx (E.var 0) (E.lit (PV.int 1))) (E.lit (PV.int 1)))) (S.seq (S.ite (E.cmp (CmpO.ge) (E.var 3) (E.bin false (BinO.pow) (E.lit (PV.int 10)) (E.lit (PV.int 18)))) (S.seq (S.setix (E.var 0) (E.lit (PV.int 2)) (E.bin false (BinO.fdiv) (E.var 3) (E.var 1))) (S.seq (S.ret (E.bin false (BinO.mod) (E.prim false (Prim.int) (E.cons (E.var 3) (E.nil))) (E.var 1))) (S.skip))) (S.skip)) (S.seq (S.asg (Tgt.nm 4) (E.bin false (BinO.mod) (E.prim false (Prim.int) (E.cons (E.bin false (BinO.add) (E.bin false (BinO.mul) (E.bin false (BinO.add) (E.var 3) (E.lit (PV.int 1))) (E.lit (PV.int 48271))) (E.bin false (BinO.mul) (E.idx (E.var 0) (E.lit (PV.int 3))) (E.lit (PV.int 69621)))) (E.nil))) (E.lit (PV.int 2147483647)))) (S.seq (S.asg (Tgt.nm 4) (E.bin false (BinO.mod) (E.prim false (Prim.int) (E.cons (E.bin false (BinO.add) (E.bin false (BinO.add) (E.bin false (BinO.mul) (E.var 4) (E.lit (PV.int 16807))) (E.bin false (BinO.fdiv) (E.var 3) (E.lit (PV.int 97)))) (E.idx (E.var 0) (E.lit (PV.int 3)))) (E.nil))) (E.lit (PV.int 2147483629)))) (S.seq (S.ret (E.bin false (BinO.mod) (E.bin false (BinO.fdiv) (E.var 4) (E.lit (PV.int 11))) (E.var 1))) (S.skip)))))))))
def h8 : MP.S := S.seq (S.ret (E.idx (E.var 1) (E.call 7 (E.cons (E.var 0) (E.cons (E.prim false (Prim.len) (E.cons (E.var 1) (E.nil))) (E.nil)))))) (S.skip)
def h9 : MP.S := S.seq (S.ret (E.and (E.isinst (E.var 0) (Tyq.int)) (E.not (E.isinst (E.var 0) (Tyq.bool))))) (S.skip)
def h10 : MP.S := S.seq (S.ite (E.isinst (E.var 1) (Tyq.tuple)) (S.seq (S.ite (E.or (E.not (E.isinst (E.var 0) (Tyq.tuple))) (E.cmp (CmpO.ne) (E.prim false (Prim.len) (E.cons (E.var 0) (E.nil))) (E.prim false (Prim.len) (E.cons (E.var 1) (E.nil))))) (S.seq (S.ret (E.lit (PV.bl false))) (S.skip)) (S.skip)) (S.seq (S.ret (E.prim false (Prim.all) (E.cons (E.comp false true (Tgt.nm 3) [2, 3] (ItK.range) (E.cons (E.prim false (Prim.len) (E.cons (E.var 1) (E.nil))) (E.nil)) (E.lit (PV.bl true)) (E.call 10 (E.cons (E.idx (E.var 0) (E.var 3)) (E.cons (E.idx (E.var 1) (E.var 3)) (E.nil))))) (E.nil)))) (S.skip))) (S.skip)) (S.seq (S.ite (E.isinst (E.var 1) (Tyq.str)) (S.seq (S.ret (E.and (E.isinst (E.var 0) (Tyq.str)) (E.cmp (CmpO.eq) (E.var 0) (E.var 1)))) (S.skip)) (S.skip)) (S.seq (S.ret (E.and (E.call 9 (E.cons (E.var 0) (E.nil))) (E.cmp (CmpO.eq) (E.var 0) (E.var 1)))) (S.skip)))
def h57 : MP.S := S.seq (S.asg (Tgt.nm 2) (E.list true (E.nil))) (S.seq (S.loop (Tgt.nm 3) (ItK.plain) (E.cons (E.var 1) (E.nil)) (S.seq (S.exp (E.meth false (Mth.insert) (E.var 2) (E.cons (E.call 7 (E.cons (E.var 0) (E.cons (E.bin false (BinO.add) (E.prim false (Prim.len) (E.cons (E.var 2) (E.nil))) (E.lit (PV.int 1))) (E.nil)))) (E.cons (E.var 3) (E.nil))))) (S.skip))) (S.seq (S.ret (E.var 2)) (S.skip)))
def h61 : MP.S := S.seq (S.ite (E.var 1) (S.seq (S.ret (E.cmp (CmpO.is) (E.var 0) (E.lit (PV.bl true)))) (S.skip)) (S.skip)) (S.seq (S.ret (E.cmp (CmpO.is) (E.var 0) (E.lit (PV.bl false)))) (S.skip))
def h0 : MP.S := S.seq (S.ite (E.cmp (CmpO.lt) (E.var 0) (E.lit (PV.int 0))) (S.seq (S.ret (E.bin false (BinO.add) (E.lit (PV.str [45])) (E.call 0 (E.cons (E.neg (E.var 0)) (E.nil))))) (S.skip)) (S.skip)) (S.seq (S.asg (Tgt.nm 1) (E.list true (E.nil))) (S.seq (S.whl (E.cmp (CmpO.ge) (E.var 0) (E.glob 3)) (S.seq (S.asg (Tgt.tp [0, 2]) (E.prim false (Prim.divmod) (E.cons (E.var 0) (E.cons (E.glob 3) (E.nil))))) (S.seq (S.exp (E.meth false (Mth.append) (E.var 1) (E.cons (E.meth false (Mth.zfill) (E.prim false (Prim.str) (E.cons (E.var 2) (E.nil))) (E.cons (E.lit (PV.int 64)) (E.nil))) (E.nil)))) (S.skip)))) (S.seq (S.exp (E.meth false (Mth.append) (E.var 1) (E.cons (E.prim false (Prim.str) (E.cons (E.var 0) (E.nil))) (E.nil)))) (S.seq (S.ret (E.meth false (Mth.join) (E.lit (PV.str [])) (E.cons (E.rev false (E.var 1)) (E.nil)))) (S.skip)))))
def h1 : MP.S := S.seq (S.asg (Tgt.nm 1) (E.var 0)) (S.seq (S.ite (E.cmp (CmpO.eq) (E.slice false (E.var 0) (E.lit (PV.non)) (E.lit (PV.int 1)) false true) (E.lit (PV.str [45]))) (S.seq (S.asg (Tgt.nm 1) (E.slice false (E.var 0) (E.lit (PV.int 1)) (E.lit (PV.non)) true false)) (S.skip)) (S.skip)) (S.seq (S.ite (E.or (E.cmp (CmpO.eq) (E.var 1) (E.lit (PV.str []))) (E.and (E.cmp (CmpO.eq) (E.idx (E.var 1) (E.lit (PV.int 0))) (E.lit (PV.str [48]))) (E.cmp (CmpO.ne) (E.var 0) (E.lit (PV.str [48]))))) (S.seq (S.raise 1) (S.skip)) (S.skip)) (S.seq (S.loop (Tgt.nm 2) (ItK.plain) (E.cons (E.var 1) (E.nil)) (S.seq (S.ite (E.cmp (CmpO.notin) (E.var 2) (E.glob 4)) (S.seq (S.raise 1) (S.skip)) (S.skip)) (S.skip))) (S.seq (S.asg (Tgt.nm 3) (E.bin false (BinO.mod) (E.prim false (Prim.len) (E.cons (E.var 1) (E.nil))) (E.lit (PV.int 64)))) (S.seq (S.asg (Tgt.nm 4) (E.lit (PV.int 0))) (S.seq (S.ite (E.cmp (CmpO.gt) (E.var 3) (E.lit (PV.int 0))) (S.seq (S.asg (Tgt.nm 4) (E.prim false (Prim.int) (E.cons (E.slice false (E.var 1) (E.lit (PV.non)) (E.var 3) false true) (E.nil)))) (S.skip)) (S.skip)) (S.seq (S.loop (Tgt.nm 5) (ItK.range) (E.cons (E.var 3) (E.cons (E.prim false (Prim.len) (E.cons (E.var 1) (E.nil))) (E.cons (E.lit (PV.int 64)) (E.nil)))) (S.seq (S.asg (Tgt.nm 4) (E.bin false (BinO.add) (E.bin false (BinO.mul) (E.var 4) (E.glob 3)) (E.prim false (Prim.int) (E.cons (E.slice false (E.var 1) (E.var 5) (E.bin false (BinO.add) (E.var 5) (E.lit (PV.int 64))) true true) (E.nil))))) (S.skip))) (S.seq (S.ite (E.cmp (CmpO.eq) (E.idx (E.var 0) (E.lit (PV.int 0))) (E.lit (PV.str [45]))) (S.seq (S.ret (E.neg (E.var 4))) (S.skip)) (S.skip)) (S.seq (S.ret (E.var 4)) (S.skip))))))))))
def h22 : MP.S := S.seq (S.ret (E.and (E.isinst (E.var 0) (Tyq.int)) (E.not (E.isinst (E.var 0) (Tyq.bool))))) (S.skip)
def h23 : MP.S := S.seq (S.ret (E.and (E.isinst (E.var 0) (Tyq.tuple)) (E.cmp (CmpO.eq) (E.prim false (Prim.len) (E.cons (E.var 0) (E.nil))) (E.var 1)))) (S.skip)
end MP

set_option Elab.async false
set_option linter.all false
set_option maxRecDepth 100000
set_option maxHeartbeats 4000000
/-! HL: what the laws' shared defs do. -/
namespace MP
variable {D : Nat → Option FD} {G : Nat → Option PV} {k : Nat}
theorem call_of {f np ns : Nat} {t : MP.S} {vs : List PV} {T : Store} (hD : D f = some ⟨np, ns, false, t⟩) (h : vs.length = np) : callF D G (k + 1) f vs T = letGo T (ofBody (exS (callF D G k) G t (startE ns vs) T)) := by
  show (match D f with
    | some d => if vs.length = d.np then (if d.keep then ofBody (exS (callF D G k) G d.body (startE d.ns vs) T) else letGo T (ofBody (exS (callF D G k) G d.body (startE d.ns vs) T))) else .bad
    | none => .bad) = _
  rw [hD]
  show (if vs.length = np then _ else _) = _
  rw [if_pos h]
  rfl
theorem call_keep {f np ns : Nat} {t : MP.S} {vs : List PV} {T : Store} (hD : D f = some ⟨np, ns, true, t⟩) (h : vs.length = np) : callF D G (k + 1) f vs T = ofBody (exS (callF D G k) G t (startE ns vs) T) := by
  show (match D f with
    | some d => if vs.length = d.np then (if d.keep then ofBody (exS (callF D G k) G d.body (startE d.ns vs) T) else letGo T (ofBody (exS (callF D G k) G d.body (startE d.ns vs) T))) else .bad
    | none => .bad) = _
  rw [hD]
  show (if vs.length = np then _ else _) = _
  rw [if_pos h]
  rfl
/-! ### draw -/
/-- the state: cells, place, rest, count -/
def stO (ns : List Int) (p q c : Int) : MO := .lst [.vl (ns.map .int), .int p, .int q, .int c]
theorem mul_ok {w : Bool} {x y : Int} (h0 : 0 ≤ x) (h1 : x < 2000000000000000000) (hy : y.natAbs.log2 < 900000) (S : Store) : binOp w .mul (.int x) (.int y) S = .ok (.int (x * y)) S := by
  rw [mul_int, if_pos]
  have := log2_lt_of (a := x.natAbs) (n := 64) (by omega) (by omega)
  omega
theorem at0 {a : MO} {R : Store} : (a :: R)[0]? = some a := rfl
theorem ix0 {xs : List PV} {R : Store} (j : Int) : idxOp (.ref 0) (.int j) (.lst xs :: R) = (normI xs.length j).bind fun j => xs[j]? := ix_ref j at0
theorem set0 {xs : List PV} {R : Store} (j : Int) (v : PV) : setOp (.ref 0) (.int j) v (.lst xs :: R) = (normI xs.length j).map fun j => (.lst (xs.set j v) :: R) := set_ref j v at0
theorem r7 (hD : D 7 = some ⟨2, 5, false, h7⟩) (ns : List Int) (R : Store) (p q c most : Int) (hm : 0 < most) (hm2 : most.natAbs.log2 < 9000) (hp : 0 ≤ p) (hq : 0 ≤ q) (hc : 0 ≤ c) (hc2 : c < 1000000000) :
    ∃ r p' q', callF D G (k + 1) 7 [.ref 0, .int most] (stO ns p q c :: R) = .ok (.int r) (stO ns p' q' (c + 1) :: R) ∧ 0 ≤ r ∧ r < most ∧ 0 ≤ p' ∧ 0 ≤ q' := by
  rw [call_of hD rfl]
  unfold h7 stO
  have e1 : ∀ x : Int, 0 ≤ x → x < 1000000000000000000 → ∀ S, binOp false .mul (.int (x + 1)) (.int 48271) S = .ok (.int ((x + 1) * 48271)) S := fun x h0 h1 S => mul_ok (by omega) (by omega) (by decide +kernel) S
  have e2 : ∀ S, binOp false .mul (.int (c + 1)) (.int 69621) S = .ok (.int ((c + 1) * 69621)) S := fun S => mul_ok (by omega) (by omega) (by decide +kernel) S
  have e3 : ∀ (x : Int) S, binOp false .mul (.int (x % 2147483647)) (.int 16807) S = .ok (.int (x % 2147483647 * 16807)) S := fun x S => mul_ok (Int.emod_nonneg _ (by decide)) (by have := Int.emod_lt_of_pos x (b := 2147483647) (by decide); omega) (by decide +kernel) S
  have l97 : Nat.log2 97 < 9000 := by decide +kernel
  have l11 : Nat.log2 11 < 9000 := by decide +kernel
  by_cases h1 : 0 < q
  · simp [startE, ix0, set0, hm, hm2, h1, letGo]
    exact ⟨_, p, _, ⟨rfl, rfl, rfl⟩, Int.emod_nonneg _ (by omega), Int.emod_lt_of_pos _ hm, hp, Int.ediv_nonneg hq (by omega)⟩
  · cases ns with
    | nil =>
      have e1' := e1 0 (by decide) (by decide)
      have e4 : ∀ S, binOp false .mul (.int 1) (.int 48271) S = .ok (.int 48271) S := fun S => mul_ok (by decide) (by decide) (by decide +kernel) S
      simp [startE, ix0, set0, hm, hm2, h1, e4, e2, e3, l97, l11, letGo]
      exact ⟨_, _, _, ⟨rfl, rfl, rfl⟩, Int.emod_nonneg _ (by omega), Int.emod_lt_of_pos _ hm, by omega, hq⟩
    | cons n ns =>
      have hl : (0 : Int) < (ns.length : Int) + 1 := by omega
      have h3 := Int.emod_nonneg p (b := (ns.length : Int) + 1) (by omega)
      have h4 := Int.emod_lt_of_pos p hl
      have e5 : normI (ns.length + 1) (p % ((ns.length : Int) + 1)) = some (p % ((ns.length : Int) + 1)).toNat := norm_in h3 (by omega)
      obtain ⟨z, e6⟩ : ∃ z, (PV.int n :: List.map PV.int ns)[(p % ((ns.length : Int) + 1)).toNat]? = some (.int z) := by
        have : (p % ((ns.length : Int) + 1)).toNat < (n :: ns).length := by
          rw [List.length_cons]
          omega
        refine ⟨(n :: ns)[(p % ((ns.length : Int) + 1)).toNat], ?_⟩
        rw [show PV.int n :: List.map PV.int ns = (n :: ns).map PV.int from rfl, List.getElem?_map, List.getElem?_eq_getElem this]
        rfl
      have h5 : 0 ≤ (if z < 0 then -z else z) := by split <;> omega
      generalize hx : (if z < 0 then -z else z) = x at h5
      by_cases h6 : 1000000000000000000 ≤ x
      · simp [startE, ix0, set0, hm, hm2, h1, e5, e6, hx, h6, hl, letGo]
        exact ⟨_, _, _, ⟨rfl, rfl, rfl⟩, Int.emod_nonneg _ (by omega), Int.emod_lt_of_pos _ hm, by omega, Int.ediv_nonneg h5 (by omega)⟩
      · have e1' := e1 x h5 (by omega)
        simp [startE, ix0, set0, hm, hm2, h1, e5, e6, hx, h6, hl, e1', e2, e3, l97, l11, letGo]
        exact ⟨_, _, _, ⟨rfl, rfl, rfl⟩, Int.emod_nonneg _ (by omega), Int.emod_lt_of_pos _ hm, by omega, hq⟩
/-- the state after at most m draws -/
def St (ns : List Int) (m : Nat) (a : MO) : Prop := ∃ p q c : Int, a = stO ns p q c ∧ 0 ≤ p ∧ 0 ≤ q ∧ 0 ≤ c ∧ c ≤ m
theorem St.mono {ns : List Int} {m n : Nat} {a : MO} (h : St ns m a) (l : m ≤ n) : St ns n a := by
  obtain ⟨p, q, c, e, h1, h2, h3, h4⟩ := h
  exact ⟨p, q, c, e, h1, h2, h3, by omega⟩
theorem draw (hD : D 7 = some ⟨2, 5, false, h7⟩) {m : Nat} {ns : List Int} {R : Store} {a : MO} (h : St ns m a) (hm : m < 100000000) (most : Nat) (h1 : 0 < most) (h2 : most ≤ 1000000000000000000) :
    ∃ (r : Nat) (a' : MO), callF D G (k + 1) 7 [.ref 0, .int most] (a :: R) = .ok (.int r) (a' :: R) ∧ r < most ∧ St ns (m + 1) a' := by
  obtain ⟨p, q, c, rfl, hp, hq, hc, hc2⟩ := h
  obtain ⟨r, p', q', e, r0, r1, hp', hq'⟩ := r7 (k := k) (G := G) hD ns R p q c most (by omega) (by
    have := log2_lt_of (a := (most : Int).natAbs) (n := 64) (by omega) (by omega)
    omega) hp hq hc (by omega)
  refine ⟨r.toNat, _, ?_, by omega, p', q', c + 1, rfl, hp', hq', by omega, by omega⟩
  rw [e, show ((r.toNat : Nat) : Int) = r by omega]
theorem one_of (hD : D 7 = some ⟨2, 5, false, h7⟩) (hD8 : D 8 = some ⟨2, 2, false, h8⟩) {m : Nat} {ns : List Int} {R : Store} {a : MO} {xs : List PV} (h : St ns m a) (hm : m < 100000000) (h0 : xs ≠ []) (h1 : xs.length ≤ 1000) :
    ∃ (v : PV) (a' : MO), callF D G (k + 2) 8 [.ref 0, .vl xs] (a :: R) = .ok v (a' :: R) ∧ v ∈ xs ∧ St ns (m + 1) a' := by
  have hl : 0 < xs.length := List.length_pos_iff.mpr h0
  obtain ⟨r, a', e, hr, s⟩ := draw (k := k) (G := G) hD (R := R) h hm xs.length hl (by omega)
  refine ⟨xs[r], a', ?_, List.getElem_mem _, s⟩
  rw [call_of hD8 rfl]
  unfold h8
  simp [startE, e, norm_in (n := xs.length) (i := r) (by omega) (by omega), hr, letGo_same]
/-! ### small ones -/
theorem says (hD : D 61 = some ⟨2, 2, false, h61⟩) (a b : Bool) (T : Store) : callF D G (k + 1) 61 [.bl a, .bl b] T = .ok (.bl (a == b)) T := by
  rw [call_of hD rfl]
  unfold h61
  cases b <;> simp [startE]
def isI : PV → Bool
  | .int _ => true
  | _ => false
/-- ints, texts, tuples of them: what the laws' data are -/
def dat : PV → Bool
  | .int _ => true
  | .str _ => true
  | .tup _ => true
  | _ => false
theorem is_int (hD : D 9 = some ⟨1, 1, false, h9⟩) {v : PV} (h : dat v = true) (T : Store) : callF D G (k + 1) 9 [v] T = .ok (.bl (isI v)) T := by
  rw [call_of hD rfl]
  unfold h9
  cases v <;> first | (cases h; done) | simp [startE, isI]
theorem is_integer (hD : D 22 = some ⟨1, 1, false, h22⟩) {v : PV} (h : dat v = true) (T : Store) : callF D G (k + 1) 22 [v] T = .ok (.bl (isI v)) T := by
  rw [call_of hD rfl]
  unfold h22
  cases v <;> first | (cases h; done) | simp [startE, isI]
def isT (n : Int) : PV → Bool
  | .tup xs => (xs.length : Int) == n
  | _ => false
theorem is_tuple (hD : D 23 = some ⟨2, 2, false, h23⟩) {v : PV} (h : dat v = true) (n : Int) (T : Store) : callF D G (k + 1) 23 [v, .int n] T = .ok (.bl (isT n v)) T := by
  rw [call_of hD rfl]
  unfold h23
  cases v <;> first | (cases h; done) | simp [startE, isT]
/-! ### data -/
mutual
/-- data of depth at most n, no part of it larger than L -/
def dd (L : Nat) : Nat → PV → Bool
  | _, .int i => decide (i.natAbs.log2 ≤ L)
  | _, .str s => decide (s.length ≤ L) && s.all fun c => decide (c < 1114112)
  | n, .tup xs => match n with
    | 0 => false
    | m + 1 => decide (xs.length ≤ L) && dds L m xs
  | _, _ => false
def dds (L : Nat) : Nat → List PV → Bool
  | _, [] => true
  | n, x :: xs => dd L n x && dds L n xs
end
theorem dds_mem {L n : Nat} : ∀ {xs : List PV}, dds L n xs = true → ∀ x ∈ xs, dd L n x = true
  | [], _, x, h => by cases h
  | y :: xs, h, x, hx => by
    unfold dds at h
    rw [Bool.and_eq_true] at h
    rcases List.mem_cons.mp hx with e | e
    · rw [e]; exact h.1
    · exact dds_mem h.2 x e
theorem dds_of {L n : Nat} : ∀ {xs : List PV}, (∀ x ∈ xs, dd L n x = true) → dds L n xs = true
  | [], _ => rfl
  | y :: xs, h => by
    unfold dds
    rw [h y List.mem_cons_self, dds_of fun x hx => h x (List.mem_cons_of_mem _ hx)]
    rfl
theorem dd_dat {L n : Nat} {v : PV} (h : dd L n v = true) : dat v = true := by
  cases v <;> first | rfl | (unfold dd at h; cases h)
theorem dd_tup {L n : Nat} {xs : List PV} (h : dd L n (.tup xs) = true) : ∃ m, n = m + 1 ∧ xs.length ≤ L ∧ dds L m xs = true := by
  cases n with
  | zero => unfold dd at h; cases h
  | succ m =>
    unfold dd at h
    rw [Bool.and_eq_true, decide_eq_true_eq] at h
    exact ⟨m, rfl, h.1, h.2⟩
/-! ### same -/
mutual
def sameV : PV → PV → Bool
  | x, .tup ys => match x with
    | .tup xs => sameVs xs ys
    | _ => false
  | x, .str s => match x with
    | .str r => r == s
    | _ => false
  | x, .int i => match x with
    | .int j => j == i
    | _ => false
  | _, _ => false
def sameVs : List PV → List PV → Bool
  | [], [] => true
  | x :: xs, y :: ys => sameV x y && sameVs xs ys
  | _, _ => false
end
theorem sameVs_len : ∀ {xs ys : List PV}, xs.length ≠ ys.length → sameVs xs ys = false
  | [], [], h => absurd rfl h
  | [], _ :: _, _ => rfl
  | _ :: _, [], _ => rfl
  | x :: xs, y :: ys, h => by
    unfold sameVs
    rw [sameVs_len (xs := xs) (ys := ys) (by simpa using h), Bool.and_false]
theorem sameVs_range : ∀ {xs ys : List PV}, xs.length = ys.length → (List.range ys.length).all (fun i => sameV (xs.getD i .non) (ys.getD i .non)) = sameVs xs ys
  | [], [], _ => rfl
  | [], _ :: _, h => by cases h
  | _ :: _, [], h => by cases h
  | x :: xs, y :: ys, h => by
    rw [List.length_cons, List.range_succ_eq_map, List.all_cons, List.all_map]
    unfold sameVs
    rw [← sameVs_range (xs := xs) (ys := ys) (by simpa using h)]
    rfl
theorem same10 (hD : D 10 = some ⟨2, 4, false, h10⟩) (hD9 : D 9 = some ⟨1, 1, false, h9⟩) {L : Nat} (hL : L ≤ 16777216) (T : Store) : ∀ (n m : Nat) (x y : PV), dd L n x = true → dd L m y = true → callF D G (k + m + 2) 10 [x, y] T = .ok (.bl (sameV x y)) T
  | n, m, x, .int i, hx, hy => by
    rw [call_of hD rfl]
    unfold h10
    have hi := is_int (k := k + m) (G := G) hD9 (dd_dat hx) T
    cases x <;> first | (unfold dd at hx; cases hx; done) | simp [startE, hi, isI, sameV]
  | n, m, x, .str s, hx, hy => by
    rw [call_of hD rfl]
    unfold h10
    cases x <;> first | (unfold dd at hx; cases hx; done) | simp [startE, sameV]
  | n, m, x, .tup ys, hx, hy => by
    obtain ⟨m, rfl, hl, hys⟩ := dd_tup hy
    rw [call_of hD rfl]
    unfold h10
    cases x with
    | tup xs =>
      obtain ⟨n, rfl, hl2, hxs⟩ := dd_tup hx
      by_cases he : xs.length = ys.length
      · have hw : walkOf T .range [.int (ys.length : Nat)] = some (.range 0 1 ys.length) := wk_range (by omega) (by omega)
        have hcomp := fun (e : Nv → Store → Res PV) (c : Nv → Store → Res Bool) (σ : Nv) => compO_range (x := true) (T := T) (i := 3) (e := e) (c := c) (σ := σ) (n := ys.length) (fun i => .bl (sameV (xs.getD i .non) (ys.getD i .non))) (Nat.le_trans hl hL)
        have hih : ∀ j, j < ys.length → callF D G (k + (m + 1) + 1) 10 [xs.getD j .non, ys.getD j .non] T = .ok (.bl (sameV (xs.getD j .non) (ys.getD j .non))) T := fun j hj => by
          have e1 : xs.getD j .non = xs[j] := by simp [List.getD_eq_getElem?_getD, he, hj]
          have e2 : ys.getD j .non = ys[j] := by simp [List.getD_eq_getElem?_getD, hj]
          rw [e1, e2]
          exact same10 hD hD9 hL T n m _ _ (dds_mem hxs _ (List.getElem_mem _)) (dds_mem hys _ (List.getElem_mem _))
        have key : compO true (some (.range 0 1 ys.length)) (.nm 3) (evT (callF D G (k + (m + 1) + 1)) G (.lit (.bl true))) (ev (callF D G (k + (m + 1) + 1)) G (.call 10 (.cons (.idx (.var 0) (.var 3)) (.cons (.idx (.var 1) (.var 3)) .nil)))) (wipeE [some (.tup xs), some (.tup ys), none, none] [2, 3]) T
            = .ok ((List.range ys.length).map fun i => .bl (sameV (xs.getD i .non) (ys.getD i .non))) T := by
          refine hcomp _ _ _ (fun σ1 => by simp) fun j hj => ?_
          have g1 : xs[j]? = some (xs.getD j .non) := by simp [List.getD_eq_getElem?_getD, he, hj]
          have g2 : ys[j]? = some (ys.getD j .non) := by simp [List.getD_eq_getElem?_getD, hj]
          have hj' := hih j hj
          generalize xs.getD j .non = p at g1 hj' ⊢
          generalize ys.getD j .non = q at g2 hj' ⊢
          simp [wipeE, norm_in (n := xs.length) (i := j) (by omega) (by omega), norm_in (n := ys.length) (i := j) (by omega) (by omega), g1, g2, hj']
        simp [startE, he, hw, key, sameV, sameVs_range he]
        simpa using sameVs_range he
      · have : ¬ ((xs.length : Int) = ys.length) := by omega
        simp [startE, this, sameV, sameVs_len he]
    | int i => simp [startE, sameV]
    | str s => simp [startE, sameV]
    | _ => unfold dd at hx; cases hx
mutual
theorem dd_plain {L : Nat} : ∀ (n m : Nat) (v : PV), n ≤ m → dd L n v = true → plainD m v = true
  | n, m, .int i, _, _ => by unfold plainD; rfl
  | n, m, .str s, _, h => by
    unfold dd at h
    rw [Bool.and_eq_true] at h
    unfold plainD
    exact h.2
  | n, m, .tup xs, hn, h => by
    obtain ⟨n, rfl, _, hx⟩ := dd_tup h
    obtain ⟨m, rfl⟩ : ∃ j, m = j + 1 := ⟨m - 1, by omega⟩
    unfold plainD
    exact dds_plain n m xs (by omega) hx
  | n, m, .non, _, h => by unfold dd at h; cases h
  | n, m, .bl _, _, h => by unfold dd at h; cases h
  | n, m, .frz _, _, h => by unfold dd at h; cases h
  | n, m, .vl _, _, h => by unfold dd at h; cases h
  | n, m, .vd _ _, _, h => by unfold dd at h; cases h
  | n, m, .ref _, _, h => by unfold dd at h; cases h
  | n, m, .fn _, _, h => by unfold dd at h; cases h
  | n, m, .exc _, _, h => by unfold dd at h; cases h
theorem dds_plain {L : Nat} : ∀ (n m : Nat) (xs : List PV), n ≤ m → dds L n xs = true → plainDs m xs = true
  | n, m, [], _, _ => by unfold plainDs; rfl
  | n, m, x :: xs, hn, h => by
    unfold dds at h
    rw [Bool.and_eq_true] at h
    unfold plainDs
    rw [dd_plain n m x hn h.1, dds_plain n m xs hn h.2]
    rfl
end
theorem eq_nil {xs : List PV} (h : plainD 60 (.tup xs) = true) (T : Store) : cmpOp .eq (.tup xs) (.tup []) T = some xs.isEmpty := by
  show (if flat (.tup xs) && flat (.tup []) then some (peq (.tup xs) (.tup [])) else if plainD 60 (.tup xs) && plainD 60 (.tup []) then some (peq (.tup xs) (.tup [])) else none) = _
  have e1 : (flat (.tup xs) && flat (.tup [])) = false := rfl
  have e2 : (plainD 60 (.tup xs) && plainD 60 (.tup [])) = true := by rw [h]; rfl
  rw [e1, e2, if_neg Bool.false_ne_true, if_pos rfl]
  cases xs <;> rfl
/-! ### the state beside new things -/
theorem lows_ints (n : Nat) : ∀ ns : List Int, lows n (ns.map .int) = true
  | [] => rfl
  | i :: ns => by
    show (true && lows n (ns.map .int)) = true
    rw [lows_ints n ns]
    rfl
theorem low_St {ns : List Int} {m : Nat} {a : MO} (h : St ns m a) (n : Nat) : lowO n a = true := by
  obtain ⟨p, q, c, rfl, _⟩ := h
  show (lows n (ns.map .int) && (true && (true && (true && true)))) = true
  rw [lows_ints]
  rfl
theorem letGo_st {a a' : MO} {R X : Store} {v u : PV} (hX : X ≠ []) (ha : lowO (R.length + 1) a' = true) (hv : toldV (R.length + 1) (a' :: R ++ X) v = u) (hu : low (R.length + 1) u = true) : letGo (a :: R) (.ok v (a' :: R ++ X)) = .ok u (a' :: R) := by
  have hx : 0 < X.length := List.length_pos_iff.mpr hX
  have h1 : ¬ (a' :: R ++ X).length ≤ (a :: R).length := by
    simp only [List.length_append, List.length_cons]
    omega
  show (if (a' :: R ++ X).length ≤ (a :: R).length then Res.ok v (a' :: R ++ X) else if low (R.length + 1) (toldV (R.length + 1) (a' :: R ++ X) v) && lowS (R.length + 1) (a :: R) (a' :: R ++ X) then Res.ok (toldV (R.length + 1) (a' :: R ++ X) v) ((a' :: R ++ X).take (R.length + 1)) else .ok v (a' :: R ++ X)) = _
  have h2 : lowS (R.length + 1) (a :: R) (a' :: R ++ X) = true := by
    show ((sameO a a' || lowO (R.length + 1) a') && lowS (R.length + 1) R (R ++ X)) = true
    rw [ha, lowS_app, Bool.or_true]
    rfl
  rw [if_neg h1, hv, hu, h2]
  have h3 : (a' :: R ++ X).take (R.length + 1) = a' :: R := by
    show a' :: (R ++ X).take R.length = _
    rw [List.take_left]
  rw [h3]
  rfl
/-- the new list at the store's end is told as a value -/
theorem told_end {a : MO} {R : Store} {xs : List PV} : toldV (R.length + 1) (a :: R ++ [.lst xs]) (.ref (R.length + 1)) = .vl xs := by
  show (if R.length + 1 ≤ R.length + 1 then match (a :: R ++ [MO.lst xs])[R.length + 1]? with | some (.lst xs) => PV.vl xs | some (.dct ks xs) => .vd ks xs | _ => .ref (R.length + 1) else .ref (R.length + 1)) = _
  rw [if_pos (Nat.le_refl _)]
  have : (a :: R ++ [MO.lst xs])[R.length + 1]? = some (.lst xs) := by simp
  rw [this]
/-! ### shuffled -/
theorem shuffle_turn (hD : D 7 = some ⟨2, 5, false, h7⟩) {ns : List Int} {R : Store} {a : MO} {m : Nat} {found : List Int} {it : Int} {x0 x1 : Option PV} (h : St ns m a) (hm : m < 100000000) (hl : found.length < 1000) :
    ∃ (f' : List Int) (a' : MO), exS (callF D G (k + 1)) G (.seq (.exp (.meth false .insert (.var 2) (.cons (.call 7 (.cons (.var 0) (.cons (.bin false .add (.prim false .len (.cons (.var 2) .nil)) (.lit (.int 1))) .nil))) (.cons (.var 3) .nil)))) .skip)
      [some (.ref 0), x1, some (.ref (R.length + 1)), some (.int it)] (a :: R ++ [.lst (found.map .int)]) = .ok (.next [some (.ref 0), x1, some (.ref (R.length + 1)), some (.int it)]) (a' :: R ++ [.lst (f'.map .int)]) ∧ f'.length = found.length + 1 ∧ (∀ z ∈ f', z ∈ found ∨ z = it) ∧ St ns (m + 1) a' := by
  obtain ⟨r, a', e, hr, s⟩ := draw (k := k) (G := G) hD (R := R ++ [.lst (found.map .int)]) h hm (found.length + 1) (by omega) (by omega)
  refine ⟨found.take r ++ [it] ++ found.drop r, a', ?_, ?_, fun z hz => ?_, s⟩
  · have e1 : (a :: R ++ [MO.lst (found.map .int)])[R.length + 1]? = some (.lst (found.map .int)) := by simp
    have e2 := len_ref false e1
    have e3 := lstOf_of e1
    have e4 : (a' :: R ++ [MO.lst (found.map .int)])[R.length + 1]? = some (.lst (found.map .int)) := by simp
    have e5 := lstOf_of e4
    have e6 : ((found.length + 1 : Nat) : Int) = (found.length : Int) + 1 := by omega
    rw [e6] at e
    have e7 : found.length < 16777216 ∧ (0 : Int) ≤ r ∧ (r : Int) < 4611686018427387904 := by omega
    simp only [List.cons_append] at *
    simp [e2, e3, e5, e, SZ, e7]
  · simp only [List.length_append, List.length_take, List.length_drop, List.length_singleton]
    omega
  · simp only [List.mem_append, List.mem_singleton] at hz
    rcases hz with (hz | hz) | hz
    · exact .inl (List.mem_of_mem_take hz)
    · exact .inr hz
    · exact .inl (List.mem_of_mem_drop hz)
theorem shuffle_loop (hD : D 7 = some ⟨2, 5, false, h7⟩) {ns : List Int} {R : Store} {its : List Int} {x1 : Option PV} (hz : its.length ≤ 500) : ∀ (j i n m : Nat) (a : MO) (found : List Int) (x3 : Option PV), its.length - i ≤ j → j + 1 ≤ n → St ns m a → m + j < 100000000 → found.length + j < 1000 →
    ∃ (f' : List Int) (a' : MO) (y3 : Option PV), iterL (.items (its.map .int)) (.nm 3) (exS (callF D G (k + 1)) G (.seq (.exp (.meth false .insert (.var 2) (.cons (.call 7 (.cons (.var 0) (.cons (.bin false .add (.prim false .len (.cons (.var 2) .nil)) (.lit (.int 1))) .nil))) (.cons (.var 3) .nil)))) .skip)) n i
      [some (.ref 0), x1, some (.ref (R.length + 1)), x3] (a :: R ++ [.lst (found.map .int)]) = .ok (.next [some (.ref 0), x1, some (.ref (R.length + 1)), y3]) (a' :: R ++ [.lst (f'.map .int)]) ∧ f'.length = found.length + (its.length - i) ∧ (∀ z ∈ f', z ∈ found ∨ z ∈ its) ∧ St ns (m + j) a' := by
  intro j
  induction j with
  | zero =>
    intro i n m a found x3 hj hn hs hm hf
    obtain ⟨n, rfl⟩ : ∃ q, n = q + 1 := ⟨n - 1, by omega⟩
    refine ⟨found, a, x3, iterL_end ?_, by omega, fun z hz => .inl hz, hs⟩
    show some (its.map PV.int)[i]? = _
    rw [List.getElem?_eq_none_iff.mpr (by rw [List.length_map]; omega)]
  | succ j ih =>
    intro i n m a found x3 hj hn hs hm hf
    obtain ⟨n, rfl⟩ : ∃ q, n = q + 1 := ⟨n - 1, by omega⟩
    by_cases hi : i < its.length
    · obtain ⟨f1, a1, e1, l1, m1, s1⟩ := shuffle_turn (k := k) (G := G) hD (R := R) (found := found) (it := its[i]) (x0 := none) (x1 := x1) hs (by omega) (by omega)
      obtain ⟨f2, a2, y3, e2, l2, m2, s2⟩ := ih (i + 1) n (m + 1) a1 f1 (some (.int its[i])) (by omega) (by omega) s1 (by omega) (by omega)
      refine ⟨f2, a2, y3, ?_, by omega, fun z hz => ?_, by rw [show m + (j + 1) = m + 1 + j by omega]; exact s2⟩
      · rw [iterL_next (σ := [some (.ref 0), x1, some (.ref (R.length + 1)), x3]) (v := .int its[i]) (by
          show some (its.map PV.int)[i]? = _
          rw [List.getElem?_map, List.getElem?_eq_getElem hi]
          rfl) e1]
        exact e2
      · rcases m2 z hz with h | h
        · rcases m1 z h with h | h
          · exact .inl h
          · exact .inr (by rw [h]; exact List.getElem_mem hi)
        · exact .inr h
    · refine ⟨found, a, x3, iterL_end ?_, by omega, fun z hz => .inl hz, hs.mono (by omega)⟩
      show some (its.map PV.int)[i]? = _
      rw [List.getElem?_eq_none_iff.mpr (by rw [List.length_map]; omega)]
theorem shuffled (hD : D 7 = some ⟨2, 5, false, h7⟩) (hD57 : D 57 = some ⟨2, 4, false, h57⟩) {ns : List Int} {R : Store} {a : MO} {m : Nat} {its : List Int} (h : St ns m a) (hz : its.length ≤ 400) (hm : m < 10000000) :
    ∃ (f : List Int) (a' : MO), callF D G (k + 2) 57 [.ref 0, .vl (its.map .int)] (a :: R) = .ok (.vl (f.map .int)) (a' :: R) ∧ f.length = its.length ∧ (∀ z ∈ f, z ∈ its) ∧ St ns (m + its.length) a' := by
  obtain ⟨f, a', y3, e, l, mm, s⟩ := shuffle_loop (k := k) (G := G) hD (R := R) (its := its) (x1 := some (.vl (its.map .int))) (by omega) its.length 0 FU m a [] none (by omega) (by show _ ≤ 1099511627776; omega) h (by omega) (by simp; omega)
  have e' : loopO (some (.items (its.map .int))) (.nm 3) (exS (callF D G (k + 1)) G (.seq (.exp (.meth false .insert (.var 2) (.cons (.call 7 (.cons (.var 0) (.cons (.bin false .add (.prim false .len (.cons (.var 2) .nil)) (.lit (.int 1))) .nil))) (.cons (.var 3) .nil)))) .skip))
      [some (.ref 0), some (.vl (its.map .int)), some (.ref (R.length + 1)), none] (a :: (R ++ [.lst []])) = .ok (.next [some (.ref 0), some (.vl (its.map .int)), some (.ref (R.length + 1)), y3]) (a' :: R ++ [.lst (f.map .int)]) := (loopO_some _ _ _).trans e
  refine ⟨f, a', ?_, by simpa using l, fun z hz => (mm z hz).elim (fun q => by cases q) id, s⟩
  rw [call_of hD57 rfl]
  unfold h57
  have lg := letGo_st (a := a) (a' := a') (R := R) (X := [.lst (f.map .int)]) (v := .ref (R.length + 1)) (u := .vl (f.map .int)) (by simp) (low_St s _) told_end (lows_ints _ f)
  simp [startE, SZ, e', -List.map_map]
  exact lg
end MP

set_option Elab.async false
set_option linter.all false
set_option maxRecDepth 100000
/-! the law's trees -/
namespace MP.K10
open MP
def t22 : MP.S := S.seq (S.ret (E.and (E.isinst (E.var 0) (Tyq.int)) (E.not (E.isinst (E.var 0) (Tyq.bool))))) (S.skip)
def t23 : MP.S := S.seq (S.ret (E.and (E.isinst (E.var 0) (Tyq.tuple)) (E.cmp (CmpO.eq) (E.prim false (Prim.len) (E.cons (E.var 0) (E.nil))) (E.var 1)))) (S.skip)
def t447 : MP.S := S.seq (S.ret (E.and (E.call 22 (E.cons (E.var 0) (E.nil))) (E.chain (CmpO.le) (CmpO.le) (E.lit (PV.int 0)) (E.var 0) (E.glob 1)))) (S.skip)
def t448 : MP.S := S.seq (S.ite (E.or (E.not (E.isinst (E.var 0) (Tyq.tuple))) (E.not (E.prim false (Prim.all) (E.cons (E.comp false true (Tgt.nm 3) [2, 3] (ItK.plain) (E.cons (E.var 0) (E.nil)) (E.lit (PV.bl true)) (E.and (E.call 447 (E.cons (E.var 3) (E.nil))) (E.cmp (CmpO.lt) (E.var 3) (E.var 1)))) (E.nil))))) (S.seq (S.ret (E.lit (PV.bl false))) (S.skip)) (S.skip)) (S.seq (S.ret (E.cmp (CmpO.eq) (E.lenset (E.var 0)) (E.prim false (Prim.len) (E.cons (E.var 0) (E.nil))))) (S.skip))
def t449 : MP.S := S.seq (S.ite (E.or (E.not (E.isinst (E.var 0) (Tyq.tuple))) (E.or (E.cmp (CmpO.eq) (E.var 0) (E.tup (E.nil))) (E.or (E.not (E.isinst (E.idx (E.var 0) (E.lit (PV.int 0))) (Tyq.str))) (E.kin 0 false (E.idx (E.var 0) (E.lit (PV.int 0))))))) (S.seq (S.ret (E.lit (PV.bl false))) (S.skip)) (S.skip)) (S.seq (S.ite (E.not (E.call 23 (E.cons (E.var 0) (E.cons (E.bin false (BinO.add) (E.lit (PV.int 1)) (E.kidx 0 (E.idx (E.var 0) (E.lit (PV.int 0))))) (E.nil))))) (S.seq (S.ret (E.lit (PV.bl false))) (S.skip)) (S.skip)) (S.seq (S.asg (Tgt.tp [2, 3, 4, 5]) (E.var 1)) (S.seq (S.ite (E.cmp (CmpO.eq) (E.idx (E.var 0) (E.lit (PV.int 0))) (E.lit (PV.str [99, 97, 108, 108]))) (S.seq (S.ret (E.and (E.call 447 (E.cons (E.idx (E.var 0) (E.lit (PV.int 1))) (E.nil))) (E.and (E.cmp (CmpO.lt) (E.idx (E.var 0) (E.lit (PV.int 1))) (E.var 5)) (E.call 448 (E.cons (E.idx (E.var 0) (E.lit (PV.int 2))) (E.cons (E.var 4) (E.nil))))))) (S.skip)) (S.skip)) (S.seq (S.ite (E.cmp (CmpO.isin) (E.idx (E.var 0) (E.lit (PV.int 0))) (E.tup (E.cons (E.lit (PV.str [112, 117, 115, 104])) (E.cons (E.lit (PV.str [115, 99, 97, 108, 101])) (E.nil))))) (S.seq (S.ret (E.and (E.call 22 (E.cons (E.idx (E.var 0) (E.lit (PV.int 1))) (E.nil))) (E.cmp (CmpO.le) (E.prim false (Prim.abs) (E.cons (E.idx (E.var 0) (E.lit (PV.int 1))) (E.nil))) (E.glob 1)))) (S.skip)) (S.skip)) (S.seq (S.ite (E.cmp (CmpO.isin) (E.idx (E.var 0) (E.lit (PV.int 0))) (E.tup (E.cons (E.lit (PV.str [100, 105, 118])) (E.cons (E.lit (PV.str [109, 111, 100])) (E.nil))))) (S.seq (S.ret (E.and (E.call 447 (E.cons (E.idx (E.var 0) (E.lit (PV.int 1))) (E.nil))) (E.cmp (CmpO.ge) (E.idx (E.var 0) (E.lit (PV.int 1))) (E.lit (PV.int 2))))) (S.skip)) (S.skip)) (S.seq (S.ite (E.cmp (CmpO.isin) (E.idx (E.var 0) (E.lit (PV.int 0))) (E.tup (E.cons (E.lit (PV.str [106, 117, 109, 112])) (E.cons (E.lit (PV.str [108, 101, 115, 115])) (E.cons (E.lit (PV.str [115, 97, 109, 101])) (E.nil)))))) (S.seq (S.ret (E.and (E.call 447 (E.cons (E.idx (E.var 0) (E.lit (PV.int 1))) (E.nil))) (E.cmp (CmpO.lt) (E.idx (E.var 0) (E.lit (PV.int 1))) (E.var 2)))) (S.skip)) (S.skip)) (S.seq (S.ite (E.cmp (CmpO.isin) (E.idx (E.var 0) (E.lit (PV.int 0))) (E.tup (E.cons (E.lit (PV.str [108, 111, 97, 100])) (E.cons (E.lit (PV.str [115, 116, 111, 114, 101])) (E.nil))))) (S.seq (S.ret (E.and (E.call 447 (E.cons (E.idx (E.var 0) (E.lit (PV.int 1))) (E.nil))) (E.cmp (CmpO.lt) (E.idx (E.var 0) (E.lit (PV.int 1))) (E.var 3)))) (S.skip)) (S.skip)) (S.seq (S.ret (E.or (E.cmp (CmpO.eq) (E.prim false (Prim.len) (E.cons (E.var 0) (E.nil))) (E.lit (PV.int 1))) (E.and (E.call 447 (E.cons (E.idx (E.var 0) (E.lit (PV.int 1))) (E.nil))) (E.cmp (CmpO.lt) (E.idx (E.var 0) (E.lit (PV.int 1))) (E.var 4))))) (S.skip)))))))))
def t450 : MP.S := S.seq (S.ite (E.or (E.not (E.isinst (E.var 0) (Tyq.tuple))) (E.not (E.chain (CmpO.le) (CmpO.le) (E.lit (PV.int 1)) (E.prim false (Prim.len) (E.cons (E.var 0) (E.nil))) (E.glob 2)))) (S.seq (S.ret (E.lit (PV.bl false))) (S.skip)) (S.skip)) (S.seq (S.asg (Tgt.nm 4) (E.tup (E.cons (E.prim false (Prim.len) (E.cons (E.var 0) (E.nil))) (E.cons (E.var 1) (E.cons (E.var 2) (E.cons (E.var 3) (E.nil))))))) (S.seq (S.ret (E.prim false (Prim.all) (E.cons (E.comp false true (Tgt.nm 6) [5, 6] (ItK.plain) (E.cons (E.var 0) (E.nil)) (E.lit (PV.bl true)) (E.call 449 (E.cons (E.var 6) (E.cons (E.var 4) (E.nil))))) (E.nil)))) (S.skip)))
def t0 : MP.S := S.seq (S.ite (E.cmp (CmpO.lt) (E.var 0) (E.lit (PV.int 0))) (S.seq (S.ret (E.bin false (BinO.add) (E.lit (PV.str [45])) (E.call 0 (E.cons (E.neg (E.var 0)) (E.nil))))) (S.skip)) (S.skip)) (S.seq (S.asg (Tgt.nm 1) (E.list true (E.nil))) (S.seq (S.whl (E.cmp (CmpO.ge) (E.var 0) (E.glob 3)) (S.seq (S.asg (Tgt.tp [0, 2]) (E.prim false (Prim.divmod) (E.cons (E.var 0) (E.cons (E.glob 3) (E.nil))))) (S.seq (S.exp (E.meth false (Mth.append) (E.var 1) (E.cons (E.meth false (Mth.zfill) (E.prim false (Prim.str) (E.cons (E.var 2) (E.nil))) (E.cons (E.lit (PV.int 64)) (E.nil))) (E.nil)))) (S.skip)))) (S.seq (S.exp (E.meth false (Mth.append) (E.var 1) (E.cons (E.prim false (Prim.str) (E.cons (E.var 0) (E.nil))) (E.nil)))) (S.seq (S.ret (E.meth false (Mth.join) (E.lit (PV.str [])) (E.cons (E.rev false (E.var 1)) (E.nil)))) (S.skip)))))
def t1 : MP.S := S.seq (S.asg (Tgt.nm 1) (E.var 0)) (S.seq (S.ite (E.cmp (CmpO.eq) (E.slice false (E.var 0) (E.lit (PV.non)) (E.lit (PV.int 1)) false true) (E.lit (PV.str [45]))) (S.seq (S.asg (Tgt.nm 1) (E.slice false (E.var 0) (E.lit (PV.int 1)) (E.lit (PV.non)) true false)) (S.skip)) (S.skip)) (S.seq (S.ite (E.or (E.cmp (CmpO.eq) (E.var 1) (E.lit (PV.str []))) (E.and (E.cmp (CmpO.eq) (E.idx (E.var 1) (E.lit (PV.int 0))) (E.lit (PV.str [48]))) (E.cmp (CmpO.ne) (E.var 0) (E.lit (PV.str [48]))))) (S.seq (S.raise 1) (S.skip)) (S.skip)) (S.seq (S.loop (Tgt.nm 2) (ItK.plain) (E.cons (E.var 1) (E.nil)) (S.seq (S.ite (E.cmp (CmpO.notin) (E.var 2) (E.glob 4)) (S.seq (S.raise 1) (S.skip)) (S.skip)) (S.skip))) (S.seq (S.asg (Tgt.nm 3) (E.bin false (BinO.mod) (E.prim false (Prim.len) (E.cons (E.var 1) (E.nil))) (E.lit (PV.int 64)))) (S.seq (S.asg (Tgt.nm 4) (E.lit (PV.int 0))) (S.seq (S.ite (E.cmp (CmpO.gt) (E.var 3) (E.lit (PV.int 0))) (S.seq (S.asg (Tgt.nm 4) (E.prim false (Prim.int) (E.cons (E.slice false (E.var 1) (E.lit (PV.non)) (E.var 3) false true) (E.nil)))) (S.skip)) (S.skip)) (S.seq (S.loop (Tgt.nm 5) (ItK.range) (E.cons (E.var 3) (E.cons (E.prim false (Prim.len) (E.cons (E.var 1) (E.nil))) (E.cons (E.lit (PV.int 64)) (E.nil)))) (S.seq (S.asg (Tgt.nm 4) (E.bin false (BinO.add) (E.bin false (BinO.mul) (E.var 4) (E.glob 3)) (E.prim false (Prim.int) (E.cons (E.slice false (E.var 1) (E.var 5) (E.bin false (BinO.add) (E.var 5) (E.lit (PV.int 64))) true true) (E.nil))))) (S.skip))) (S.seq (S.ite (E.cmp (CmpO.eq) (E.idx (E.var 0) (E.lit (PV.int 0))) (E.lit (PV.str [45]))) (S.seq (S.ret (E.neg (E.var 4))) (S.skip)) (S.skip)) (S.seq (S.ret (E.var 4)) (S.skip))))))))))
def t451 : MP.S := S.seq (S.ite (E.cmp (CmpO.eq) (E.idx (E.var 0) (E.lit (PV.int 0))) (E.glob 20)) (S.seq (S.ret (E.meth false (Mth.join) (E.lit (PV.str [32])) (E.cons (E.bin false (BinO.add) (E.list false (E.cons (E.glob 20) (E.cons (E.call 0 (E.cons (E.idx (E.var 0) (E.lit (PV.int 1))) (E.nil))) (E.nil)))) (E.comp false true (Tgt.nm 2) [1, 2] (ItK.plain) (E.cons (E.idx (E.var 0) (E.lit (PV.int 2))) (E.nil)) (E.lit (PV.bl true)) (E.call 0 (E.cons (E.var 2) (E.nil))))) (E.nil)))) (S.skip)) (S.skip)) (S.seq (S.ret (E.meth false (Mth.join) (E.lit (PV.str [32])) (E.cons (E.bin false (BinO.add) (E.list false (E.cons (E.idx (E.var 0) (E.lit (PV.int 0))) (E.nil))) (E.comp false true (Tgt.nm 3) [1, 3] (ItK.plain) (E.cons (E.slice false (E.var 0) (E.lit (PV.int 1)) (E.lit (PV.non)) true false) (E.nil)) (E.lit (PV.bl true)) (E.call 0 (E.cons (E.var 3) (E.nil))))) (E.nil)))) (S.skip))
def t452 : MP.S := S.seq (S.ret (E.meth false (Mth.join) (E.lit (PV.str [])) (E.cons (E.comp false true (Tgt.nm 2) [1, 2] (ItK.plain) (E.cons (E.var 0) (E.nil)) (E.lit (PV.bl true)) (E.bin false (BinO.add) (E.call 451 (E.cons (E.var 2) (E.nil))) (E.lit (PV.str [10])))) (E.nil)))) (S.skip)
def t313 : MP.S := S.seq (S.asg (Tgt.nm 1) (E.meth false (Mth.split) (E.var 0) (E.cons (E.lit (PV.str [32])) (E.nil)))) (S.seq (S.asg (Tgt.nm 2) (E.kget 23 (E.idx (E.var 1) (E.lit (PV.int 0))) (E.lit (PV.str [110, 111, 110, 101])))) (S.seq (S.asg (Tgt.nm 3) (E.comp false true (Tgt.nm 5) [4, 5] (ItK.plain) (E.cons (E.slice false (E.var 1) (E.lit (PV.int 1)) (E.lit (PV.non)) true false) (E.nil)) (E.lit (PV.bl true)) (E.call 1 (E.cons (E.var 5) (E.nil))))) (S.seq (S.ite (E.cmp (CmpO.eq) (E.var 2) (E.lit (PV.str [99, 97, 108, 108]))) (S.seq (S.ite (E.cmp (CmpO.eq) (E.var 3) (E.list false (E.nil))) (S.seq (S.raise 1) (S.skip)) (S.skip)) (S.seq (S.ret (E.tup (E.cons (E.glob 20) (E.cons (E.idx (E.var 3) (E.lit (PV.int 0))) (E.cons (E.prim false (Prim.tuple) (E.cons (E.slice false (E.var 3) (E.lit (PV.int 1)) (E.lit (PV.non)) true false) (E.nil))) (E.nil)))))) (S.skip))) (S.skip)) (S.seq (S.ite (E.or (E.cmp (CmpO.eq) (E.var 2) (E.lit (PV.str [110, 111, 110, 101]))) (E.cmp (CmpO.ne) (E.prim false (Prim.len) (E.cons (E.var 3) (E.nil))) (E.prim false (Prim.int) (E.cons (E.cmp (CmpO.ne) (E.var 2) (E.lit (PV.str []))) (E.nil))))) (S.seq (S.raise 1) (S.skip)) (S.skip)) (S.seq (S.ret (E.bin false (BinO.add) (E.tup (E.cons (E.idx (E.var 1) (E.lit (PV.int 0))) (E.nil))) (E.prim false (Prim.tuple) (E.cons (E.var 3) (E.nil))))) (S.skip))))))
def t453 : MP.S := S.seq (S.ite (E.or (E.cmp (CmpO.eq) (E.var 0) (E.lit (PV.str []))) (E.cmp (CmpO.ne) (E.idx (E.var 0) (E.neg (E.lit (PV.int 1)))) (E.lit (PV.str [10])))) (S.seq (S.raise 1) (S.skip)) (S.skip)) (S.seq (S.ret (E.prim false (Prim.tuple) (E.cons (E.comp false true (Tgt.nm 2) [1, 2] (ItK.plain) (E.cons (E.slice false (E.meth false (Mth.split) (E.var 0) (E.cons (E.lit (PV.str [10])) (E.nil))) (E.lit (PV.non)) (E.neg (E.lit (PV.int 1))) false true) (E.nil)) (E.lit (PV.bl true)) (E.call 313 (E.cons (E.var 2) (E.nil)))) (E.nil)))) (S.skip))
def t6 : MP.S := S.seq (S.ret (E.list true (E.cons (E.prim false (Prim.list) (E.cons (E.var 0) (E.nil))) (E.cons (E.lit (PV.int 0)) (E.cons (E.lit (PV.int 0)) (E.cons (E.lit (PV.int 0)) (E.nil))))))) (S.skip)
def t7 : MP.S := S.seq (S.setix (E.var 0) (E.lit (PV.int 3)) (E.bin false (BinO.add) (E.idx (E.var 0) (E.lit (PV.int 3))) (E.lit (PV.int 1)))) (S.seq (S.ite (E.cmp (CmpO.gt) (E.idx (E.var 0) (E.lit (PV.int 2))) (E.lit (PV.int 0))) (S.seq (S.asg (Tgt.nm 2) (E.bin false (BinO.mod) (E.prim false (Prim.int) (E.cons (E.idx (E.var 0) (E.lit (PV.int 2))) (E.nil))) (E.var 1))) (S.seq (S.setix (E.var 0) (E.lit (PV.int 2)) (E.bin false (BinO.fdiv) (E.idx (E.var 0) (E.lit (PV.int 2))) (E.var 1))) (S.seq (S.ret (E.var 2)) (S.skip)))) (S.skip)) (S.seq (S.asg (Tgt.nm 3) (E.lit (PV.int 0))) (S.seq (S.ite (E.cmp (CmpO.gt) (E.prim false (Prim.len) (E.cons (E.idx (E.var 0) (E.lit (PV.int 0))) (E.nil))) (E.lit (PV.int 0))) (S.seq (S.asg (Tgt.nm 3) (E.prim false (Prim.abs) (E.cons (E.idx (E.idx (E.var 0) (E.lit (PV.int 0))) (E.bin false (BinO.mod) (E.prim false (Prim.int) (E.cons (E.idx (E.var 0) (E.lit (PV.int 1))) (E.nil))) (E.prim false (Prim.len) (E.cons (E.idx (E.var 0) (E.lit (PV.int 0))) (E.nil))))) (E.nil)))) (S.skip)) (S.skip)) (S.seq (S.setix (E.var 0) (E.lit (PV.int 1)) (E.bin false (BinO.add) (E.idx (E.var 0) (E.lit (PV.int 1))) (E.lit (PV.int 1)))) (S.seq (S.ite (E.cmp (CmpO.ge) (E.var 3) (E.bin false (BinO.pow) (E.lit (PV.int 10)) (E.lit (PV.int 18)))) (S.seq (S.setix (E.var 0) (E.lit (PV.int 2)) (E.bin false (BinO.fdiv) (E.var 3) (E.var 1))) (S.seq (S.ret (E.bin false (BinO.mod) (E.prim false (Prim.int) (E.cons (E.var 3) (E.nil))) (E.var 1))) (S.skip))) (S.skip)) (S.seq (S.asg (Tgt.nm 4) (E.bin false (BinO.mod) (E.prim false (Prim.int) (E.cons (E.bin false (BinO.add) (E.bin false (BinO.mul) (E.bin false (BinO.add) (E.var 3) (E.lit (PV.int 1))) (E.lit (PV.int 48271))) (E.bin false (BinO.mul) (E.idx (E.var 0) (E.lit (PV.int 3))) (E.lit (PV.int 69621)))) (E.nil))) (E.lit (PV.int 2147483647)))) (S.seq (S.asg (Tgt.nm 4) (E.bin false (BinO.mod) (E.prim false (Prim.int) (E.cons (E.bin false (BinO.add) (E.bin false (BinO.add) (E.bin false (BinO.mul) (E.var 4) (E.lit (PV.int 16807))) (E.bin false (BinO.fdiv) (E.var 3) (E.lit (PV.int 97)))) (E.idx (E.var 0) (E.lit (PV.int 3)))) (E.nil))) (E.lit (PV.int 2147483629)))) (S.seq (S.ret (E.bin false (BinO.mod) (E.bin false (BinO.fdiv) (E.var 4) (E.lit (PV.int 11))) (E.var 1))) (S.skip)))))))))
def t8 : MP.S := S.seq (S.ret (E.idx (E.var 1) (E.call 7 (E.cons (E.var 0) (E.cons (E.prim false (Prim.len) (E.cons (E.var 1) (E.nil))) (E.nil)))))) (S.skip)
def t57 : MP.S := S.seq (S.asg (Tgt.nm 2) (E.list true (E.nil))) (S.seq (S.loop (Tgt.nm 3) (ItK.plain) (E.cons (E.var 1) (E.nil)) (S.seq (S.exp (E.meth false (Mth.insert) (E.var 2) (E.cons (E.call 7 (E.cons (E.var 0) (E.cons (E.bin false (BinO.add) (E.prim false (Prim.len) (E.cons (E.var 2) (E.nil))) (E.lit (PV.int 1))) (E.nil)))) (E.cons (E.var 3) (E.nil))))) (S.skip))) (S.seq (S.ret (E.var 2)) (S.skip)))
def t9 : MP.S := S.seq (S.ret (E.and (E.isinst (E.var 0) (Tyq.int)) (E.not (E.isinst (E.var 0) (Tyq.bool))))) (S.skip)
def t10 : MP.S := S.seq (S.ite (E.isinst (E.var 1) (Tyq.tuple)) (S.seq (S.ite (E.or (E.not (E.isinst (E.var 0) (Tyq.tuple))) (E.cmp (CmpO.ne) (E.prim false (Prim.len) (E.cons (E.var 0) (E.nil))) (E.prim false (Prim.len) (E.cons (E.var 1) (E.nil))))) (S.seq (S.ret (E.lit (PV.bl false))) (S.skip)) (S.skip)) (S.seq (S.ret (E.prim false (Prim.all) (E.cons (E.comp false true (Tgt.nm 3) [2, 3] (ItK.range) (E.cons (E.prim false (Prim.len) (E.cons (E.var 1) (E.nil))) (E.nil)) (E.lit (PV.bl true)) (E.call 10 (E.cons (E.idx (E.var 0) (E.var 3)) (E.cons (E.idx (E.var 1) (E.var 3)) (E.nil))))) (E.nil)))) (S.skip))) (S.skip)) (S.seq (S.ite (E.isinst (E.var 1) (Tyq.str)) (S.seq (S.ret (E.and (E.isinst (E.var 0) (Tyq.str)) (E.cmp (CmpO.eq) (E.var 0) (E.var 1)))) (S.skip)) (S.skip)) (S.seq (S.ret (E.and (E.call 9 (E.cons (E.var 0) (E.nil))) (E.cmp (CmpO.eq) (E.var 0) (E.var 1)))) (S.skip)))
def t61 : MP.S := S.seq (S.ite (E.var 1) (S.seq (S.ret (E.cmp (CmpO.is) (E.var 0) (E.lit (PV.bl true)))) (S.skip)) (S.skip)) (S.seq (S.ret (E.cmp (CmpO.is) (E.var 0) (E.lit (PV.bl false)))) (S.skip))
def t60 : MP.S := S.seq (S.ite (E.and (E.isinst (E.var 1) (Tyq.tuple)) (E.and (E.cmp (CmpO.gt) (E.prim false (Prim.len) (E.cons (E.var 1) (E.nil))) (E.lit (PV.int 0))) (E.and (E.cmp (CmpO.lt) (E.var 2) (E.lit (PV.int 12))) (E.cmp (CmpO.gt) (E.call 7 (E.cons (E.var 0) (E.cons (E.lit (PV.int 6)) (E.nil)))) (E.lit (PV.int 0)))))) (S.seq (S.asg (Tgt.nm 3) (E.call 7 (E.cons (E.var 0) (E.cons (E.prim false (Prim.len) (E.cons (E.var 1) (E.nil))) (E.nil))))) (S.seq (S.ret (E.bin false (BinO.add) (E.bin false (BinO.add) (E.slice false (E.var 1) (E.lit (PV.non)) (E.var 3) false true) (E.tup (E.cons (E.call 60 (E.cons (E.var 0) (E.cons (E.idx (E.var 1) (E.var 3)) (E.cons (E.bin false (BinO.add) (E.var 2) (E.lit (PV.int 1))) (E.nil))))) (E.nil)))) (E.slice false (E.var 1) (E.bin false (BinO.add) (E.var 3) (E.lit (PV.int 1))) (E.lit (PV.non)) true false))) (S.skip))) (S.skip)) (S.seq (S.ite (E.isinst (E.var 1) (Tyq.tuple)) (S.seq (S.asg (Tgt.nm 3) (E.call 7 (E.cons (E.var 0) (E.cons (E.bin false (BinO.add) (E.prim false (Prim.len) (E.cons (E.var 1) (E.nil))) (E.lit (PV.int 1))) (E.nil))))) (S.seq (S.asg (Tgt.nm 4) (E.list false (E.cons (E.bin false (BinO.add) (E.slice false (E.var 1) (E.lit (PV.non)) (E.var 3) false true) (E.slice false (E.var 1) (E.bin false (BinO.add) (E.var 3) (E.lit (PV.int 1))) (E.lit (PV.non)) true false)) (E.cons (E.bin false (BinO.add) (E.bin false (BinO.add) (E.slice false (E.var 1) (E.lit (PV.non)) (E.var 3) false true) (E.slice false (E.var 1) (E.var 3) (E.bin false (BinO.add) (E.var 3) (E.lit (PV.int 1))) true true)) (E.slice false (E.var 1) (E.var 3) (E.lit (PV.non)) true false)) (E.cons (E.bin false (BinO.add) (E.var 1) (E.tup (E.cons (E.lit (PV.int 0)) (E.nil)))) (E.cons (E.tup (E.nil)) (E.cons (E.lit (PV.int 0)) (E.nil)))))))) (S.seq (S.ret (E.call 8 (E.cons (E.var 0) (E.cons (E.bin false (BinO.add) (E.var 4) (E.list false (E.cons (E.bin false (BinO.add) (E.slice false (E.var 1) (E.var 3) (E.lit (PV.non)) true false) (E.slice false (E.var 1) (E.lit (PV.non)) (E.var 3) false true)) (E.cons (E.rev false (E.var 1)) (E.cons (E.lit (PV.str [114, 105, 110, 103])) (E.cons (E.tup (E.cons (E.var 1) (E.nil))) (E.nil))))))) (E.nil))))) (S.skip)))) (S.skip)) (S.seq (S.ite (E.isinst (E.var 1) (Tyq.str)) (S.seq (S.ret (E.call 8 (E.cons (E.var 0) (E.cons (E.list false (E.cons (E.lit (PV.str [102, 111, 114, 109, 115])) (E.cons (E.lit (PV.str [114, 105, 110, 103])) (E.cons (E.lit (PV.str [])) (E.cons (E.bin false (BinO.add) (E.var 1) (E.lit (PV.str [120]))) (E.cons (E.slice false (E.var 1) (E.lit (PV.int 1)) (E.lit (PV.non)) true false) (E.cons (E.slice false (E.var 1) (E.lit (PV.non)) (E.neg (E.lit (PV.int 1))) false true) (E.cons (E.lit (PV.int 0)) (E.cons (E.tup (E.nil)) (E.nil)))))))))) (E.nil))))) (S.skip)) (S.skip)) (S.seq (S.ret (E.call 8 (E.cons (E.var 0) (E.cons (E.list false (E.cons (E.bin false (BinO.add) (E.var 1) (E.lit (PV.int 1))) (E.cons (E.bin false (BinO.sub) (E.var 1) (E.lit (PV.int 1))) (E.cons (E.neg (E.var 1)) (E.cons (E.bin false (BinO.mul) (E.lit (PV.int 2)) (E.var 1)) (E.cons (E.lit (PV.int 0)) (E.cons (E.prim false (Prim.str) (E.cons (E.var 1) (E.nil))) (E.cons (E.tup (E.cons (E.var 1) (E.nil))) (E.nil))))))))) (E.nil))))) (S.skip))))
def t454 : MP.S := S.seq (S.asg (Tgt.tp [3, 4, 5]) (E.var 2)) (S.seq (S.asg (Tgt.nm 6) (E.call 7 (E.cons (E.var 0) (E.cons (E.lit (PV.int 12)) (E.nil))))) (S.seq (S.asg (Tgt.nm 7) (E.idx (E.list false (E.cons (E.bin false (BinO.sub) (E.call 7 (E.cons (E.var 0) (E.cons (E.lit (PV.int 21)) (E.nil)))) (E.lit (PV.int 10))) (E.cons (E.bin false (BinO.sub) (E.call 7 (E.cons (E.var 0) (E.cons (E.bin false (BinO.pow) (E.lit (PV.int 10)) (E.lit (PV.int 13))) (E.nil)))) (E.bin false (BinO.mul) (E.lit (PV.int 5)) (E.bin false (BinO.pow) (E.lit (PV.int 10)) (E.lit (PV.int 12))))) (E.nil)))) (E.prim false (Prim.int) (E.cons (E.cmp (CmpO.eq) (E.call 7 (E.cons (E.var 0) (E.cons (E.lit (PV.int 5)) (E.nil)))) (E.lit (PV.int 0))) (E.nil))))) (S.seq (S.ite (E.cmp (CmpO.eq) (E.var 6) (E.lit (PV.int 0))) (S.seq (S.ret (E.tup (E.cons (E.call 8 (E.cons (E.var 0) (E.cons (E.list false (E.cons (E.lit (PV.str [112, 117, 115, 104])) (E.cons (E.lit (PV.str [115, 99, 97, 108, 101])) (E.nil)))) (E.nil)))) (E.cons (E.prim false (Prim.max) (E.cons (E.bin false (BinO.sub) (E.lit (PV.int 0)) (E.bin false (BinO.pow) (E.lit (PV.int 10)) (E.lit (PV.int 12)))) (E.cons (E.prim false (Prim.min) (E.cons (E.bin false (BinO.pow) (E.lit (PV.int 10)) (E.lit (PV.int 12))) (E.cons (E.var 7) (E.nil)))) (E.nil)))) (E.nil))))) (S.skip)) (S.skip)) (S.seq (S.ite (E.cmp (CmpO.eq) (E.var 6) (E.lit (PV.int 1))) (S.seq (S.ret (E.tup (E.cons (E.call 8 (E.cons (E.var 0) (E.cons (E.list false (E.cons (E.lit (PV.str [100, 105, 118])) (E.cons (E.lit (PV.str [109, 111, 100])) (E.nil)))) (E.nil)))) (E.cons (E.bin false (BinO.add) (E.lit (PV.int 2)) (E.call 7 (E.cons (E.var 0) (E.cons (E.lit (PV.int 9)) (E.nil))))) (E.nil))))) (S.skip)) (S.skip)) (S.seq (S.ite (E.and (E.cmp (CmpO.isin) (E.var 6) (E.list false (E.cons (E.lit (PV.int 2)) (E.cons (E.lit (PV.int 3)) (E.nil))))) (E.cmp (CmpO.gt) (E.var 3) (E.lit (PV.int 0)))) (S.seq (S.ret (E.tup (E.cons (E.idx (E.list false (E.cons (E.lit (PV.str [108, 111, 97, 100])) (E.cons (E.lit (PV.str [115, 116, 111, 114, 101])) (E.nil)))) (E.bin false (BinO.sub) (E.var 6) (E.lit (PV.int 2)))) (E.cons (E.call 7 (E.cons (E.var 0) (E.cons (E.var 3) (E.nil)))) (E.nil))))) (S.skip)) (S.skip)) (S.seq (S.ite (E.and (E.cmp (CmpO.isin) (E.var 6) (E.list false (E.cons (E.lit (PV.int 4)) (E.cons (E.lit (PV.int 5)) (E.nil))))) (E.cmp (CmpO.gt) (E.var 4) (E.lit (PV.int 0)))) (S.seq (S.ret (E.tup (E.cons (E.call 8 (E.cons (E.var 0) (E.cons (E.list false (E.cons (E.lit (PV.str [114, 101, 97, 100])) (E.cons (E.lit (PV.str [119, 114, 105, 116, 101])) (E.cons (E.lit (PV.str [108, 101, 110, 103, 116, 104])) (E.cons (E.lit (PV.str [110, 101, 119])) (E.nil)))))) (E.nil)))) (E.cons (E.call 7 (E.cons (E.var 0) (E.cons (E.var 4) (E.nil)))) (E.nil))))) (S.skip)) (S.skip)) (S.seq (S.ite (E.cmp (CmpO.isin) (E.var 6) (E.list false (E.cons (E.lit (PV.int 6)) (E.cons (E.lit (PV.int 7)) (E.nil))))) (S.seq (S.ret (E.tup (E.cons (E.call 8 (E.cons (E.var 0) (E.cons (E.list false (E.cons (E.lit (PV.str [106, 117, 109, 112])) (E.cons (E.lit (PV.str [108, 101, 115, 115])) (E.cons (E.lit (PV.str [115, 97, 109, 101])) (E.nil))))) (E.nil)))) (E.cons (E.call 7 (E.cons (E.var 0) (E.cons (E.var 1) (E.nil)))) (E.nil))))) (S.skip)) (S.skip)) (S.seq (S.ite (E.and (E.cmp (CmpO.eq) (E.var 6) (E.lit (PV.int 8))) (E.cmp (CmpO.gt) (E.var 5) (E.lit (PV.int 0)))) (S.seq (S.asg (Tgt.nm 8) (E.slice false (E.call 57 (E.cons (E.var 0) (E.cons (E.lrng false false (E.lit (PV.int 0)) (E.var 4)) (E.nil)))) (E.lit (PV.non)) (E.call 7 (E.cons (E.var 0) (E.cons (E.bin false (BinO.add) (E.var 4) (E.lit (PV.int 1))) (E.nil)))) false true)) (S.seq (S.ret (E.tup (E.cons (E.lit (PV.str [99, 97, 108, 108])) (E.cons (E.call 7 (E.cons (E.var 0) (E.cons (E.var 5) (E.nil)))) (E.cons (E.prim false (Prim.tuple) (E.cons (E.var 8) (E.nil))) (E.nil)))))) (S.skip))) (S.skip)) (S.seq (S.ret (E.tup (E.cons (E.call 8 (E.cons (E.var 0) (E.cons (E.list false (E.cons (E.lit (PV.str [97, 100, 100])) (E.cons (E.lit (PV.str [115, 117, 98])) (E.cons (E.lit (PV.str [108, 111, 111, 112])) (E.cons (E.lit (PV.str [116, 101, 108, 108])) (E.nil)))))) (E.nil)))) (E.nil)))) (S.skip))))))))))
def t455 : MP.S := S.seq (S.ret (E.and (E.call 9 (E.cons (E.var 0) (E.nil))) (E.and (E.cmp (CmpO.le) (E.lit (PV.int 0)) (E.var 0)) (E.cmp (CmpO.lt) (E.var 0) (E.var 1))))) (S.skip)
def t456 : MP.S := S.seq (S.asg (Tgt.tp [3, 4, 5]) (E.var 2)) (S.seq (S.ite (E.or (E.not (E.isinst (E.var 0) (Tyq.tuple))) (E.or (E.cmp (CmpO.eq) (E.var 0) (E.tup (E.nil))) (E.not (E.isinst (E.idx (E.var 0) (E.lit (PV.int 0))) (Tyq.str))))) (S.seq (S.ret (E.lit (PV.bl false))) (S.skip)) (S.skip)) (S.seq (S.asg (Tgt.nm 6) (E.idx (E.var 0) (E.lit (PV.int 0)))) (S.seq (S.ite (E.cmp (CmpO.isin) (E.var 6) (E.list false (E.cons (E.lit (PV.str [97, 100, 100])) (E.cons (E.lit (PV.str [115, 117, 98])) (E.cons (E.lit (PV.str [108, 111, 111, 112])) (E.cons (E.lit (PV.str [116, 101, 108, 108])) (E.nil))))))) (S.seq (S.ret (E.cmp (CmpO.eq) (E.prim false (Prim.len) (E.cons (E.var 0) (E.nil))) (E.lit (PV.int 1)))) (S.skip)) (S.skip)) (S.seq (S.ite (E.cmp (CmpO.eq) (E.var 6) (E.lit (PV.str [99, 97, 108, 108]))) (S.seq (S.ite (E.or (E.cmp (CmpO.ne) (E.prim false (Prim.len) (E.cons (E.var 0) (E.nil))) (E.lit (PV.int 3))) (E.or (E.not (E.call 455 (E.cons (E.idx (E.var 0) (E.lit (PV.int 1))) (E.cons (E.var 5) (E.nil))))) (E.not (E.isinst (E.idx (E.var 0) (E.lit (PV.int 2))) (Tyq.tuple))))) (S.seq (S.ret (E.lit (PV.bl false))) (S.skip)) (S.skip)) (S.seq (S.asg (Tgt.nm 7) (E.comp false true (Tgt.nm 9) [8, 9] (ItK.range) (E.cons (E.prim false (Prim.len) (E.cons (E.idx (E.var 0) (E.lit (PV.int 2))) (E.nil))) (E.nil)) (E.cmp (CmpO.notin) (E.idx (E.idx (E.var 0) (E.lit (PV.int 2))) (E.var 9)) (E.slice false (E.idx (E.var 0) (E.lit (PV.int 2))) (E.lit (PV.non)) (E.var 9) false true)) (E.var 9))) (S.seq (S.ret (E.and (E.cmp (CmpO.eq) (E.prim false (Prim.len) (E.cons (E.var 7) (E.nil))) (E.prim false (Prim.len) (E.cons (E.idx (E.var 0) (E.lit (PV.int 2))) (E.nil)))) (E.prim false (Prim.all) (E.cons (E.comp false true (Tgt.nm 10) [8, 10] (ItK.plain) (E.cons (E.idx (E.var 0) (E.lit (PV.int 2))) (E.nil)) (E.lit (PV.bl true)) (E.call 455 (E.cons (E.var 10) (E.cons (E.var 4) (E.nil))))) (E.nil))))) (S.skip)))) (S.skip)) (S.seq (S.ite (E.cmp (CmpO.ne) (E.prim false (Prim.len) (E.cons (E.var 0) (E.nil))) (E.lit (PV.int 2))) (S.seq (S.ret (E.lit (PV.bl false))) (S.skip)) (S.skip)) (S.seq (S.ite (E.cmp (CmpO.isin) (E.var 6) (E.list false (E.cons (E.lit (PV.str [112, 117, 115, 104])) (E.cons (E.lit (PV.str [115, 99, 97, 108, 101])) (E.nil))))) (S.seq (S.ret (E.and (E.call 9 (E.cons (E.idx (E.var 0) (E.lit (PV.int 1))) (E.nil))) (E.cmp (CmpO.le) (E.prim false (Prim.abs) (E.cons (E.idx (E.var 0) (E.lit (PV.int 1))) (E.nil))) (E.bin false (BinO.pow) (E.lit (PV.int 10)) (E.lit (PV.int 12)))))) (S.skip)) (S.skip)) (S.seq (S.ite (E.cmp (CmpO.isin) (E.var 6) (E.list false (E.cons (E.lit (PV.str [100, 105, 118])) (E.cons (E.lit (PV.str [109, 111, 100])) (E.nil))))) (S.seq (S.ret (E.and (E.call 9 (E.cons (E.idx (E.var 0) (E.lit (PV.int 1))) (E.nil))) (E.and (E.cmp (CmpO.ge) (E.idx (E.var 0) (E.lit (PV.int 1))) (E.lit (PV.int 2))) (E.cmp (CmpO.le) (E.idx (E.var 0) (E.lit (PV.int 1))) (E.bin false (BinO.pow) (E.lit (PV.int 10)) (E.lit (PV.int 12))))))) (S.skip)) (S.skip)) (S.seq (S.ite (E.cmp (CmpO.isin) (E.var 6) (E.list false (E.cons (E.lit (PV.str [108, 111, 97, 100])) (E.cons (E.lit (PV.str [115, 116, 111, 114, 101])) (E.nil))))) (S.seq (S.ret (E.call 455 (E.cons (E.idx (E.var 0) (E.lit (PV.int 1))) (E.cons (E.var 3) (E.nil))))) (S.skip)) (S.skip)) (S.seq (S.ite (E.cmp (CmpO.isin) (E.var 6) (E.list false (E.cons (E.lit (PV.str [114, 101, 97, 100])) (E.cons (E.lit (PV.str [119, 114, 105, 116, 101])) (E.cons (E.lit (PV.str [108, 101, 110, 103, 116, 104])) (E.cons (E.lit (PV.str [110, 101, 119])) (E.nil))))))) (S.seq (S.ret (E.call 455 (E.cons (E.idx (E.var 0) (E.lit (PV.int 1))) (E.cons (E.var 4) (E.nil))))) (S.skip)) (S.skip)) (S.seq (S.ret (E.and (E.cmp (CmpO.isin) (E.var 6) (E.list false (E.cons (E.lit (PV.str [106, 117, 109, 112])) (E.cons (E.lit (PV.str [108, 101, 115, 115])) (E.cons (E.lit (PV.str [115, 97, 109, 101])) (E.nil)))))) (E.call 455 (E.cons (E.idx (E.var 0) (E.lit (PV.int 1))) (E.cons (E.var 1) (E.nil)))))) (S.skip)))))))))))
def t120 : MP.S := S.seq (S.ite (E.or (E.not (E.isinst (E.var 0) (Tyq.tuple))) (E.or (E.cmp (CmpO.lt) (E.prim false (Prim.len) (E.cons (E.var 0) (E.nil))) (E.lit (PV.int 1))) (E.cmp (CmpO.gt) (E.prim false (Prim.len) (E.cons (E.var 0) (E.nil))) (E.lit (PV.int 400))))) (S.seq (S.ret (E.lit (PV.bl false))) (S.skip)) (S.skip)) (S.seq (S.ret (E.prim false (Prim.all) (E.cons (E.comp false true (Tgt.nm 3) [2, 3] (ItK.plain) (E.cons (E.var 0) (E.nil)) (E.lit (PV.bl true)) (E.call 456 (E.cons (E.var 3) (E.cons (E.prim false (Prim.len) (E.cons (E.var 0) (E.nil))) (E.cons (E.var 1) (E.nil)))))) (E.nil)))) (S.skip))
def t457 : MP.S := S.seq (S.asg (Tgt.nm 1) (E.prim false (Prim.list) (E.cons (E.slice false (E.var 0) (E.lit (PV.int 1)) (E.lit (PV.non)) true false) (E.nil)))) (S.seq (S.ite (E.cmp (CmpO.eq) (E.idx (E.var 0) (E.lit (PV.int 0))) (E.lit (PV.str [99, 97, 108, 108]))) (S.seq (S.asg (Tgt.nm 1) (E.bin false (BinO.add) (E.list false (E.cons (E.idx (E.var 0) (E.lit (PV.int 1))) (E.nil))) (E.prim false (Prim.list) (E.cons (E.idx (E.var 0) (E.lit (PV.int 2))) (E.nil))))) (S.skip)) (S.skip)) (S.seq (S.ret (E.meth false (Mth.join) (E.lit (PV.str [32])) (E.cons (E.bin false (BinO.add) (E.list false (E.cons (E.idx (E.var 0) (E.lit (PV.int 0))) (E.nil))) (E.comp false true (Tgt.nm 3) [2, 3] (ItK.plain) (E.cons (E.var 1) (E.nil)) (E.lit (PV.bl true)) (E.prim false (Prim.str) (E.cons (E.var 3) (E.nil))))) (E.nil)))) (S.skip)))
def t458 : MP.S := S.seq (S.tryx (S.seq (S.exp (E.call 453 (E.cons (E.var 0) (E.nil)))) (S.skip)) [1] [0] none (S.seq (S.ret (E.lit (PV.bl true))) (S.skip))) (S.seq (S.ret (E.lit (PV.bl false))) (S.skip))
def t17 : MP.S := S.seq (S.asg (Tgt.nm 1) (E.call 6 (E.cons (E.var 0) (E.nil)))) (S.seq (S.loop (Tgt.nm 2) (ItK.range) (E.cons (E.lit (PV.int 3)) (E.nil)) (S.seq (S.asg (Tgt.nm 3) (E.tup (E.cons (E.call 7 (E.cons (E.var 1) (E.cons (E.lit (PV.int 4)) (E.nil)))) (E.cons (E.call 7 (E.cons (E.var 1) (E.cons (E.lit (PV.int 4)) (E.nil)))) (E.cons (E.call 7 (E.cons (E.var 1) (E.cons (E.lit (PV.int 3)) (E.nil)))) (E.nil)))))) (S.seq (S.asg (Tgt.nm 4) (E.bin false (BinO.add) (E.lit (PV.int 1)) (E.call 7 (E.cons (E.var 1) (E.cons (E.lit (PV.int 9)) (E.nil)))))) (S.seq (S.asg (Tgt.nm 5) (E.prim false (Prim.tuple) (E.cons (E.comp false true (Tgt.nm 13) [12, 13] (ItK.range) (E.cons (E.var 4) (E.nil)) (E.lit (PV.bl true)) (E.call 454 (E.cons (E.var 1) (E.cons (E.var 4) (E.cons (E.var 3) (E.nil)))))) (E.nil)))) (S.seq (S.asg (Tgt.nm 6) (E.meth false (Mth.join) (E.lit (PV.str [])) (E.cons (E.comp false true (Tgt.nm 14) [12, 14] (ItK.plain) (E.cons (E.var 5) (E.nil)) (E.lit (PV.bl true)) (E.bin false (BinO.add) (E.call 457 (E.cons (E.var 14) (E.nil))) (E.lit (PV.str [10])))) (E.nil)))) (S.seq (S.ite (E.or (E.not (E.call 10 (E.cons (E.call 452 (E.cons (E.var 5) (E.nil))) (E.cons (E.var 6) (E.nil))))) (E.not (E.call 10 (E.cons (E.call 453 (E.cons (E.var 6) (E.nil))) (E.cons (E.var 5) (E.nil)))))) (S.seq (S.ret (E.lit (PV.bl false))) (S.skip)) (S.skip)) (S.seq (S.asg (Tgt.nm 7) (E.list false (E.cons (E.var 5) (E.cons (E.slice false (E.var 5) (E.lit (PV.non)) (E.neg (E.lit (PV.int 1))) false true) (E.cons (E.bin false (BinO.add) (E.var 5) (E.slice false (E.var 5) (E.lit (PV.non)) (E.lit (PV.int 1)) false true)) (E.cons (E.rev false (E.var 5)) (E.cons (E.tup (E.nil)) (E.nil)))))))) (S.seq (S.asg (Tgt.nm 7) (E.bin false (BinO.add) (E.var 7) (E.list false (E.cons (E.lit (PV.int 0)) (E.cons (E.lit (PV.str [112, 117, 115, 104])) (E.cons (E.idx (E.var 5) (E.lit (PV.int 0))) (E.cons (E.tup (E.cons (E.tup (E.cons (E.lit (PV.str [112, 117, 115, 104])) (E.cons (E.bin false (BinO.add) (E.bin false (BinO.pow) (E.lit (PV.int 10)) (E.lit (PV.int 12))) (E.lit (PV.int 1))) (E.nil)))) (E.nil))) (E.cons (E.tup (E.cons (E.tup (E.cons (E.lit (PV.str [109, 111, 100])) (E.cons (E.lit (PV.int 1)) (E.nil)))) (E.nil))) (E.nil))))))))) (S.seq (S.asg (Tgt.nm 7) (E.bin false (BinO.add) (E.var 7) (E.list false (E.cons (E.tup (E.cons (E.tup (E.cons (E.lit (PV.str [99, 97, 108, 108])) (E.cons (E.lit (PV.int 0)) (E.cons (E.tup (E.cons (E.lit (PV.int 0)) (E.cons (E.lit (PV.int 0)) (E.nil)))) (E.nil))))) (E.nil))) (E.cons (E.tup (E.cons (E.tup (E.cons (E.lit (PV.str [99, 97, 108, 108])) (E.cons (E.lit (PV.int 0)) (E.nil)))) (E.nil))) (E.cons (E.tup (E.cons (E.tup (E.cons (E.lit (PV.str [106, 117, 109, 112])) (E.cons (E.lit (PV.int 1)) (E.nil)))) (E.nil))) (E.cons (E.tup (E.cons (E.tup (E.cons (E.lit (PV.str [106, 117, 109, 112])) (E.cons (E.lit (PV.int 0)) (E.nil)))) (E.nil))) (E.nil)))))))) (S.seq (S.asg (Tgt.nm 7) (E.bin false (BinO.add) (E.var 7) (E.list false (E.cons (E.tup (E.cons (E.tup (E.cons (E.lit (PV.str [108, 111, 97, 100])) (E.cons (E.lit (PV.int 3)) (E.nil)))) (E.nil))) (E.cons (E.tup (E.cons (E.tup (E.cons (E.lit (PV.str [112, 111, 112])) (E.nil))) (E.nil))) (E.cons (E.tup (E.cons (E.tup (E.nil)) (E.nil))) (E.nil))))))) (S.seq (S.asg (Tgt.nm 7) (E.bin false (BinO.add) (E.var 7) (E.list false (E.cons (E.bin false (BinO.mul) (E.tup (E.cons (E.tup (E.cons (E.lit (PV.str [97, 100, 100])) (E.nil))) (E.nil))) (E.lit (PV.int 400))) (E.cons (E.bin false (BinO.mul) (E.tup (E.cons (E.tup (E.cons (E.lit (PV.str [97, 100, 100])) (E.nil))) (E.nil))) (E.lit (PV.int 401))) (E.cons (E.bin false (BinO.add) (E.var 5) (E.tup (E.cons (E.tup (E.cons (E.lit (PV.str [116, 101, 108, 108])) (E.cons (E.lit (PV.int 0)) (E.nil)))) (E.nil)))) (E.nil))))))) (S.seq (S.asg (Tgt.nm 7) (E.bin false (BinO.add) (E.var 7) (E.list false (E.cons (E.bin false (BinO.add) (E.var 5) (E.tup (E.cons (E.lit (PV.str [116, 101, 108, 108])) (E.nil)))) (E.cons (E.bin false (BinO.add) (E.var 5) (E.tup (E.cons (E.tup (E.cons (E.lit (PV.str [108, 101, 110, 103, 116, 104])) (E.cons (E.lit (PV.str [48])) (E.nil)))) (E.nil)))) (E.nil)))))) (S.seq (S.asg (Tgt.nm 7) (E.bin false (BinO.add) (E.var 7) (E.comp false true (Tgt.nm 13) [12, 13] (ItK.range) (E.cons (E.lit (PV.int 16)) (E.nil)) (E.lit (PV.bl true)) (E.call 60 (E.cons (E.var 1) (E.cons (E.var 5) (E.cons (E.lit (PV.int 0)) (E.nil)))))))) (S.seq (S.loop (Tgt.nm 8) (ItK.plain) (E.cons (E.var 7) (E.nil)) (S.seq (S.loop (Tgt.nm 9) (ItK.plain) (E.cons (E.list false (E.cons (E.var 3) (E.cons (E.tup (E.cons (E.bin false (BinO.add) (E.idx (E.var 3) (E.lit (PV.int 0))) (E.lit (PV.int 1))) (E.cons (E.idx (E.var 3) (E.lit (PV.int 1))) (E.cons (E.lit (PV.int 2)) (E.nil))))) (E.cons (E.tup (E.cons (E.idx (E.var 3) (E.lit (PV.int 0))) (E.cons (E.prim false (Prim.max) (E.cons (E.lit (PV.int 0)) (E.cons (E.bin false (BinO.sub) (E.idx (E.var 3) (E.lit (PV.int 1))) (E.lit (PV.int 1))) (E.nil)))) (E.cons (E.idx (E.var 3) (E.lit (PV.int 2))) (E.nil))))) (E.nil))))) (E.nil)) (S.seq (S.ite (E.not (E.call 61 (E.cons (E.call 450 (E.cons (E.var 8) (E.cons (E.idx (E.var 9) (E.lit (PV.int 0))) (E.cons (E.idx (E.var 9) (E.lit (PV.int 1))) (E.cons (E.idx (E.var 9) (E.lit (PV.int 2))) (E.nil)))))) (E.cons (E.call 120 (E.cons (E.var 8) (E.cons (E.var 9) (E.nil)))) (E.nil))))) (S.seq (S.ret (E.lit (PV.bl false))) (S.skip)) (S.skip)) (S.skip))) (S.skip))) (S.skip))))))))))))))) (S.seq (S.asg (Tgt.nm 10) (E.bin false (BinO.add) (E.bin false (BinO.add) (E.lit (PV.str [108, 111, 97, 100, 32, 45, 53, 10, 106, 117, 109, 112, 32])) (E.bin false (BinO.mul) (E.lit (PV.str [57])) (E.lit (PV.int 30)))) (E.lit (PV.str [10, 99, 97, 108, 108, 32, 55, 32, 49, 32, 49, 10])))) (S.seq (S.ite (E.not (E.call 10 (E.cons (E.call 453 (E.cons (E.var 10) (E.nil))) (E.cons (E.tup (E.cons (E.tup (E.cons (E.lit (PV.str [108, 111, 97, 100])) (E.cons (E.neg (E.lit (PV.int 5))) (E.nil)))) (E.cons (E.tup (E.cons (E.lit (PV.str [106, 117, 109, 112])) (E.cons (E.prim false (Prim.int) (E.cons (E.bin false (BinO.mul) (E.lit (PV.str [57])) (E.lit (PV.int 30))) (E.nil))) (E.nil)))) (E.cons (E.tup (E.cons (E.lit (PV.str [99, 97, 108, 108])) (E.cons (E.lit (PV.int 7)) (E.cons (E.tup (E.cons (E.lit (PV.int 1)) (E.cons (E.lit (PV.int 1)) (E.nil)))) (E.nil))))) (E.nil))))) (E.nil))))) (S.seq (S.ret (E.lit (PV.bl false))) (S.skip)) (S.skip)) (S.seq (S.asg (Tgt.nm 11) (E.list false (E.cons (E.lit (PV.str [])) (E.cons (E.lit (PV.str [112, 117, 115, 104, 32, 49])) (E.cons (E.lit (PV.str [112, 117, 115, 104, 10])) (E.cons (E.lit (PV.str [112, 117, 115, 104, 32, 49, 32, 50, 10])) (E.cons (E.lit (PV.str [112, 111, 112, 10])) (E.nil)))))))) (S.seq (S.asg (Tgt.nm 11) (E.bin false (BinO.add) (E.var 11) (E.list false (E.cons (E.lit (PV.str [112, 117, 115, 104, 32, 48, 49, 10])) (E.cons (E.lit (PV.str [32, 112, 117, 115, 104, 32, 49, 10])) (E.cons (E.lit (PV.str [112, 117, 115, 104, 32, 32, 49, 10])) (E.cons (E.lit (PV.str [112, 117, 115, 104, 32, 49, 32, 10])) (E.cons (E.lit (PV.str [97, 100, 100, 32, 49, 10])) (E.nil))))))))) (S.seq (S.asg (Tgt.nm 11) (E.bin false (BinO.add) (E.var 11) (E.list false (E.cons (E.lit (PV.str [99, 97, 108, 108, 10])) (E.cons (E.lit (PV.str [99, 97, 108, 108, 32, 120, 10])) (E.cons (E.lit (PV.str [112, 117, 115, 104, 32, 45, 48, 10])) (E.cons (E.lit (PV.str [10])) (E.cons (E.lit (PV.str [97, 100, 100, 10, 10])) (E.nil))))))))) (S.seq (S.asg (Tgt.nm 11) (E.bin false (BinO.add) (E.var 11) (E.list false (E.cons (E.lit (PV.str [65, 100, 100, 10])) (E.cons (E.lit (PV.str [112, 117, 115, 104, 32, 43, 49, 10])) (E.cons (E.lit (PV.str [116, 101, 108, 108, 10, 97, 100, 100])) (E.cons (E.bin false (BinO.add) (E.slice false (E.lit (PV.str [97, 100, 100, 9, 116, 101, 108, 108, 10])) (E.lit (PV.non)) (E.lit (PV.int 3)) false true) (E.lit (PV.str [120, 10]))) (E.nil)))))))) (S.seq (S.ret (E.prim false (Prim.all) (E.cons (E.comp false true (Tgt.nm 15) [12, 15] (ItK.plain) (E.cons (E.var 11) (E.nil)) (E.lit (PV.bl true)) (E.call 458 (E.cons (E.var 15) (E.nil)))) (E.nil)))) (S.skip)))))))))
def D : Nat → Option FD := fun i => match i with
  | 22 => some ⟨1, 1, false, t22⟩
  | 23 => some ⟨2, 2, false, t23⟩
  | 447 => some ⟨1, 1, false, t447⟩
  | 448 => some ⟨2, 4, false, t448⟩
  | 449 => some ⟨2, 6, false, t449⟩
  | 450 => some ⟨4, 7, false, t450⟩
  | 0 => some ⟨1, 3, false, t0⟩
  | 1 => some ⟨1, 6, false, t1⟩
  | 451 => some ⟨1, 4, false, t451⟩
  | 452 => some ⟨1, 3, false, t452⟩
  | 313 => some ⟨1, 6, false, t313⟩
  | 453 => some ⟨1, 3, false, t453⟩
  | 6 => some ⟨1, 1, true, t6⟩
  | 7 => some ⟨2, 5, false, t7⟩
  | 8 => some ⟨2, 2, false, t8⟩
  | 57 => some ⟨2, 4, false, t57⟩
  | 9 => some ⟨1, 1, false, t9⟩
  | 10 => some ⟨2, 4, false, t10⟩
  | 61 => some ⟨2, 2, false, t61⟩
  | 60 => some ⟨3, 5, false, t60⟩
  | 454 => some ⟨3, 9, false, t454⟩
  | 455 => some ⟨2, 2, false, t455⟩
  | 456 => some ⟨3, 11, false, t456⟩
  | 120 => some ⟨2, 4, false, t120⟩
  | 457 => some ⟨1, 4, false, t457⟩
  | 458 => some ⟨1, 1, false, t458⟩
  | 17 => some ⟨1, 16, false, t17⟩
  | _ => none
def G : Nat → Option PV := fun i => match i with
  | 0 => some (.vd [.s [112, 117, 115, 104], .s [108, 111, 97, 100], .s [115, 116, 111, 114, 101], .s [97, 100, 100], .s [115, 117, 98], .s [115, 99, 97, 108, 101], .s [100, 105, 118], .s [109, 111, 100], .s [114, 101, 97, 100], .s [119, 114, 105, 116, 101], .s [108, 101, 110, 103, 116, 104], .s [110, 101, 119], .s [106, 117, 109, 112], .s [108, 101, 115, 115], .s [115, 97, 109, 101], .s [99, 97, 108, 108], .s [108, 111, 111, 112], .s [116, 101, 108, 108]] [.int 1, .int 1, .int 1, .int 0, .int 0, .int 1, .int 1, .int 1, .int 1, .int 1, .int 1, .int 1, .int 1, .int 1, .int 1, .int 2, .int 0, .int 0])
  | 1 => some (.int (1000000000000))
  | 2 => some (.int 400)
  | 3 => some (.int (10000000000000000000000000000000000000000000000000000000000000000))
  | 4 => some (.str [48, 49, 50, 51, 52, 53, 54, 55, 56, 57])
  | 5 => some (.str [112, 117, 115, 104])
  | 6 => some (.str [108, 111, 97, 100])
  | 7 => some (.str [115, 116, 111, 114, 101])
  | 8 => some (.str [97, 100, 100])
  | 9 => some (.str [115, 117, 98])
  | 10 => some (.str [115, 99, 97, 108, 101])
  | 11 => some (.str [100, 105, 118])
  | 12 => some (.str [109, 111, 100])
  | 13 => some (.str [114, 101, 97, 100])
  | 14 => some (.str [119, 114, 105, 116, 101])
  | 15 => some (.str [108, 101, 110, 103, 116, 104])
  | 16 => some (.str [110, 101, 119])
  | 17 => some (.str [106, 117, 109, 112])
  | 18 => some (.str [108, 101, 115, 115])
  | 19 => some (.str [115, 97, 109, 101])
  | 20 => some (.str [99, 97, 108, 108])
  | 21 => some (.str [108, 111, 111, 112])
  | 22 => some (.str [116, 101, 108, 108])
  | 23 => some (.vd [.s [112, 117, 115, 104], .s [108, 111, 97, 100], .s [115, 116, 111, 114, 101], .s [97, 100, 100], .s [115, 117, 98], .s [115, 99, 97, 108, 101], .s [100, 105, 118], .s [109, 111, 100], .s [114, 101, 97, 100], .s [119, 114, 105, 116, 101], .s [108, 101, 110, 103, 116, 104], .s [110, 101, 119], .s [106, 117, 109, 112], .s [108, 101, 115, 115], .s [115, 97, 109, 101], .s [99, 97, 108, 108], .s [108, 111, 111, 112], .s [116, 101, 108, 108]] [.str [105, 110, 116, 101, 103, 101, 114], .str [108, 111, 99, 97, 108], .str [108, 111, 99, 97, 108], .str [], .str [], .str [105, 110, 116, 101, 103, 101, 114], .str [100, 105, 118, 105, 115, 111, 114], .str [100, 105, 118, 105, 115, 111, 114], .str [115, 108, 111, 116], .str [115, 108, 111, 116], .str [115, 108, 111, 116], .str [115, 108, 111, 116], .str [112, 108, 97, 99, 101], .str [112, 108, 97, 99, 101], .str [112, 108, 97, 99, 101], .str [99, 97, 108, 108], .str [], .str []])
  | _ => none
theorem u22 {k : Nat} {vs : List PV} {T : Store} (h : vs.length = 1) : callF D G (k + 1) 22 vs T = letGo T (ofBody (exS (callF D G k) G t22 (startE 1 vs) T)) := by
  show (if vs.length = 1 then _ else _) = _
  rw [if_pos h]
  rfl
theorem u23 {k : Nat} {vs : List PV} {T : Store} (h : vs.length = 2) : callF D G (k + 1) 23 vs T = letGo T (ofBody (exS (callF D G k) G t23 (startE 2 vs) T)) := by
  show (if vs.length = 2 then _ else _) = _
  rw [if_pos h]
  rfl
theorem u447 {k : Nat} {vs : List PV} {T : Store} (h : vs.length = 1) : callF D G (k + 1) 447 vs T = letGo T (ofBody (exS (callF D G k) G t447 (startE 1 vs) T)) := by
  show (if vs.length = 1 then _ else _) = _
  rw [if_pos h]
  rfl
theorem u448 {k : Nat} {vs : List PV} {T : Store} (h : vs.length = 2) : callF D G (k + 1) 448 vs T = letGo T (ofBody (exS (callF D G k) G t448 (startE 4 vs) T)) := by
  show (if vs.length = 2 then _ else _) = _
  rw [if_pos h]
  rfl
theorem u449 {k : Nat} {vs : List PV} {T : Store} (h : vs.length = 2) : callF D G (k + 1) 449 vs T = letGo T (ofBody (exS (callF D G k) G t449 (startE 6 vs) T)) := by
  show (if vs.length = 2 then _ else _) = _
  rw [if_pos h]
  rfl
theorem u450 {k : Nat} {vs : List PV} {T : Store} (h : vs.length = 4) : callF D G (k + 1) 450 vs T = letGo T (ofBody (exS (callF D G k) G t450 (startE 7 vs) T)) := by
  show (if vs.length = 4 then _ else _) = _
  rw [if_pos h]
  rfl
theorem u0 {k : Nat} {vs : List PV} {T : Store} (h : vs.length = 1) : callF D G (k + 1) 0 vs T = letGo T (ofBody (exS (callF D G k) G t0 (startE 3 vs) T)) := by
  show (if vs.length = 1 then _ else _) = _
  rw [if_pos h]
  rfl
theorem u1 {k : Nat} {vs : List PV} {T : Store} (h : vs.length = 1) : callF D G (k + 1) 1 vs T = letGo T (ofBody (exS (callF D G k) G t1 (startE 6 vs) T)) := by
  show (if vs.length = 1 then _ else _) = _
  rw [if_pos h]
  rfl
theorem u451 {k : Nat} {vs : List PV} {T : Store} (h : vs.length = 1) : callF D G (k + 1) 451 vs T = letGo T (ofBody (exS (callF D G k) G t451 (startE 4 vs) T)) := by
  show (if vs.length = 1 then _ else _) = _
  rw [if_pos h]
  rfl
theorem u452 {k : Nat} {vs : List PV} {T : Store} (h : vs.length = 1) : callF D G (k + 1) 452 vs T = letGo T (ofBody (exS (callF D G k) G t452 (startE 3 vs) T)) := by
  show (if vs.length = 1 then _ else _) = _
  rw [if_pos h]
  rfl
theorem u313 {k : Nat} {vs : List PV} {T : Store} (h : vs.length = 1) : callF D G (k + 1) 313 vs T = letGo T (ofBody (exS (callF D G k) G t313 (startE 6 vs) T)) := by
  show (if vs.length = 1 then _ else _) = _
  rw [if_pos h]
  rfl
theorem u453 {k : Nat} {vs : List PV} {T : Store} (h : vs.length = 1) : callF D G (k + 1) 453 vs T = letGo T (ofBody (exS (callF D G k) G t453 (startE 3 vs) T)) := by
  show (if vs.length = 1 then _ else _) = _
  rw [if_pos h]
  rfl
theorem u6 {k : Nat} {vs : List PV} {T : Store} (h : vs.length = 1) : callF D G (k + 1) 6 vs T = ofBody (exS (callF D G k) G t6 (startE 1 vs) T) := by
  show (if vs.length = 1 then _ else _) = _
  rw [if_pos h]
  rfl
theorem u7 {k : Nat} {vs : List PV} {T : Store} (h : vs.length = 2) : callF D G (k + 1) 7 vs T = letGo T (ofBody (exS (callF D G k) G t7 (startE 5 vs) T)) := by
  show (if vs.length = 2 then _ else _) = _
  rw [if_pos h]
  rfl
theorem u8 {k : Nat} {vs : List PV} {T : Store} (h : vs.length = 2) : callF D G (k + 1) 8 vs T = letGo T (ofBody (exS (callF D G k) G t8 (startE 2 vs) T)) := by
  show (if vs.length = 2 then _ else _) = _
  rw [if_pos h]
  rfl
theorem u57 {k : Nat} {vs : List PV} {T : Store} (h : vs.length = 2) : callF D G (k + 1) 57 vs T = letGo T (ofBody (exS (callF D G k) G t57 (startE 4 vs) T)) := by
  show (if vs.length = 2 then _ else _) = _
  rw [if_pos h]
  rfl
theorem u9 {k : Nat} {vs : List PV} {T : Store} (h : vs.length = 1) : callF D G (k + 1) 9 vs T = letGo T (ofBody (exS (callF D G k) G t9 (startE 1 vs) T)) := by
  show (if vs.length = 1 then _ else _) = _
  rw [if_pos h]
  rfl
theorem u10 {k : Nat} {vs : List PV} {T : Store} (h : vs.length = 2) : callF D G (k + 1) 10 vs T = letGo T (ofBody (exS (callF D G k) G t10 (startE 4 vs) T)) := by
  show (if vs.length = 2 then _ else _) = _
  rw [if_pos h]
  rfl
theorem u61 {k : Nat} {vs : List PV} {T : Store} (h : vs.length = 2) : callF D G (k + 1) 61 vs T = letGo T (ofBody (exS (callF D G k) G t61 (startE 2 vs) T)) := by
  show (if vs.length = 2 then _ else _) = _
  rw [if_pos h]
  rfl
theorem u60 {k : Nat} {vs : List PV} {T : Store} (h : vs.length = 3) : callF D G (k + 1) 60 vs T = letGo T (ofBody (exS (callF D G k) G t60 (startE 5 vs) T)) := by
  show (if vs.length = 3 then _ else _) = _
  rw [if_pos h]
  rfl
theorem u454 {k : Nat} {vs : List PV} {T : Store} (h : vs.length = 3) : callF D G (k + 1) 454 vs T = letGo T (ofBody (exS (callF D G k) G t454 (startE 9 vs) T)) := by
  show (if vs.length = 3 then _ else _) = _
  rw [if_pos h]
  rfl
theorem u455 {k : Nat} {vs : List PV} {T : Store} (h : vs.length = 2) : callF D G (k + 1) 455 vs T = letGo T (ofBody (exS (callF D G k) G t455 (startE 2 vs) T)) := by
  show (if vs.length = 2 then _ else _) = _
  rw [if_pos h]
  rfl
theorem u456 {k : Nat} {vs : List PV} {T : Store} (h : vs.length = 3) : callF D G (k + 1) 456 vs T = letGo T (ofBody (exS (callF D G k) G t456 (startE 11 vs) T)) := by
  show (if vs.length = 3 then _ else _) = _
  rw [if_pos h]
  rfl
theorem u120 {k : Nat} {vs : List PV} {T : Store} (h : vs.length = 2) : callF D G (k + 1) 120 vs T = letGo T (ofBody (exS (callF D G k) G t120 (startE 4 vs) T)) := by
  show (if vs.length = 2 then _ else _) = _
  rw [if_pos h]
  rfl
theorem u457 {k : Nat} {vs : List PV} {T : Store} (h : vs.length = 1) : callF D G (k + 1) 457 vs T = letGo T (ofBody (exS (callF D G k) G t457 (startE 4 vs) T)) := by
  show (if vs.length = 1 then _ else _) = _
  rw [if_pos h]
  rfl
theorem u458 {k : Nat} {vs : List PV} {T : Store} (h : vs.length = 1) : callF D G (k + 1) 458 vs T = letGo T (ofBody (exS (callF D G k) G t458 (startE 1 vs) T)) := by
  show (if vs.length = 1 then _ else _) = _
  rw [if_pos h]
  rfl
theorem u17 {k : Nat} {vs : List PV} {T : Store} (h : vs.length = 1) : callF D G (k + 1) 17 vs T = letGo T (ofBody (exS (callF D G k) G t17 (startE 16 vs) T)) := by
  show (if vs.length = 1 then _ else _) = _
  rw [if_pos h]
  rfl
end MP.K10

set_option Elab.async false
set_option linter.all false
set_option maxRecDepth 100000
set_option maxHeartbeats 4000000
/-! k10: rows, codes: is_code and the law's own say the same -/
namespace MP.K10
open MP
variable {k : Nat}
theorem d7 : D 7 = some ⟨2, 5, false, h7⟩ := rfl
theorem d8 : D 8 = some ⟨2, 2, false, h8⟩ := rfl
theorem d9 : D 9 = some ⟨1, 1, false, h9⟩ := rfl
theorem d10 : D 10 = some ⟨2, 4, false, h10⟩ := rfl
theorem d22 : D 22 = some ⟨1, 1, false, h22⟩ := rfl
theorem d23 : D 23 = some ⟨2, 2, false, h23⟩ := rfl
theorem d61 : D 61 = some ⟨2, 2, false, h61⟩ := rfl
theorem d447 : D 447 = some ⟨1, 1, false, t447⟩ := rfl
theorem d448 : D 448 = some ⟨2, 4, false, t448⟩ := rfl
theorem d449 : D 449 = some ⟨2, 6, false, t449⟩ := rfl
theorem d450 : D 450 = some ⟨4, 7, false, t450⟩ := rfl
theorem d455 : D 455 = some ⟨2, 2, false, t455⟩ := rfl
theorem d456 : D 456 = some ⟨3, 11, false, t456⟩ := rfl
theorem d120 : D 120 = some ⟨2, 4, false, t120⟩ := rfl
theorem g1 : G 1 = some (.int 1000000000000) := rfl
theorem g2 : G 2 = some (.int 400) := rfl
/-- 0 <= x <= the greatest -/
def smallB : PV → Bool
  | .int i => decide (0 ≤ i) && decide (i ≤ 1000000000000)
  | _ => false
def belowB (n : Int) : PV → Bool
  | .int i => decide (0 ≤ i) && decide (i < n)
  | _ => false
theorem small_ok {v : PV} (h : dat v = true) (T : Store) : callF D G (k + 2) 447 [v] T = .ok (.bl (smallB v)) T := by
  rw [call_of d447 rfl]
  unfold t447
  have hi := is_integer (k := k) (G := G) d22 h T
  cases v with
  | int i => by_cases h0 : 0 ≤ i <;> simp [startE, hi, isI, smallB, g1, h0]
  | str s => simp [startE, hi, isI, smallB]
  | tup s => simp [startE, hi, isI, smallB]
  | _ => cases h
theorem below_ok {v : PV} (h : dat v = true) (n : Int) (T : Store) : callF D G (k + 2) 455 [v, .int n] T = .ok (.bl (belowB n v)) T := by
  rw [call_of d455 rfl]
  unfold t455
  have hi := is_int (k := k) (G := G) d9 h T
  cases v with
  | int i => by_cases h0 : 0 ≤ i <;> simp [startE, hi, isI, belowB, h0]
  | str s => simp [startE, hi, isI, belowB]
  | tup s => simp [startE, hi, isI, belowB]
  | _ => cases h
theorem small_below {v : PV} {n : Int} (hn : n ≤ 1000000000000) (h : dat v = true) : (match v with | .int i => smallB v && decide (i < n) | _ => false) = belowB n v := by
  cases v with
  | int i =>
    unfold smallB belowB
    by_cases h0 : 0 ≤ i <;> by_cases h1 : i < n <;> simp [h0, h1] <;> omega
  | _ => rfl
/-- small and below, as the program asks -/
def sbB (n : Int) : PV → Bool
  | .int i => smallB (.int i) && decide (i < n)
  | _ => false
theorem sb_eq {n : Int} (hn : n ≤ 1000000000000) (v : PV) : sbB n v = belowB n v := by
  cases v with
  | int i =>
    unfold sbB smallB belowB
    by_cases h0 : 0 ≤ i <;> by_cases h1 : i < n <;> simp [h0, h1] <;> omega
  | _ => rfl
theorem ints_of {n : Int} : ∀ {xs : List PV}, xs.all (belowB n) = true → ∃ ns : List Int, xs = ns.map .int
  | [], _ => ⟨[], rfl⟩
  | x :: xs, h => by
    rw [List.all_cons, Bool.and_eq_true] at h
    obtain ⟨ns, rfl⟩ := ints_of h.2
    cases x with
    | int i => exact ⟨i :: ns, rfl⟩
    | _ => cases h.1
/-- each once -/
def nodupB : List Int → Bool
  | [] => true
  | x :: r => !decide (x ∈ r) && nodupB r
theorem dedup_le : ∀ l : List Int, (dedupI l).length ≤ l.length
  | [] => Nat.le_refl _
  | x :: r => by
    unfold dedupI
    have := dedup_le r
    split
    · rw [List.length_cons]; omega
    · rw [List.length_cons, List.length_cons]; omega
theorem dedup_eq : ∀ l : List Int, decide ((dedupI l).length = l.length) = nodupB l
  | [] => rfl
  | x :: r => by
    have ih := dedup_eq r
    have hl := dedup_le r
    unfold dedupI nodupB
    split
    · rename_i hx
      have : ¬ (dedupI r).length = r.length + 1 := by omega
      simp [hx, this]
    · rename_i hx
      rw [← ih]
      simp [hx]
/-- the slots, as the program asks -/
def slotsB (n : Int) : PV → Bool
  | .tup xs => xs.all (belowB n) && (match intsOf xs with | some ns => nodupB ns | none => false)
  | _ => false
theorem slots_ok {v : PV} {L m : Nat} {n : Int} (hn : n ≤ 1000000000000) (h : dd L m v = true) (hL : L < 64) (T : Store) : callF D G (k + 3) 448 [v, .int n] T = .ok (.bl (slotsB n v)) T := by
  rw [call_of d448 rfl]
  unfold t448
  cases v with
  | tup xs =>
    obtain ⟨m, rfl, hl, hxs⟩ := dd_tup h
    have key : compO true (some (.items xs)) (.nm 3) (evT (callF D G (k + 2)) G (.lit (.bl true))) (ev (callF D G (k + 2)) G (.and (.call 447 (.cons (.var 3) .nil)) (.cmp .lt (.var 3) (.var 1)))) (wipeE [some (.tup xs), some (.int n), none, none] [2, 3]) T
        = .ok (xs.map fun v => .bl (sbB n v)) T := by
      have := compO_items (x := true) (tg := .nm 3) (T := T) (c := evT (callF D G (k + 2)) G (.lit (.bl true))) (e := ev (callF D G (k + 2)) G (.and (.call 447 (.cons (.var 3) .nil)) (.cmp .lt (.var 3) (.var 1)))) (σ := wipeE [some (.tup xs), some (.int n), none, none] [2, 3]) (xs := xs) (fun _ => true) (fun v => .bl (sbB n v)) (by show _ ≤ 16777216; omega) (fun v hv => by
        refine ⟨_, rfl, by simp, fun _ => ?_⟩
        have hd := dds_mem hxs v hv
        have hs := small_ok (k := k) (dd_dat hd) T
        cases v with
        | int i => cases hb : smallB (.int i) <;> simp [wipeE, hs, sbB, hb]
        | str s => simp [wipeE, hs, sbB, smallB]
        | tup s => simp [wipeE, hs, sbB, smallB]
        | _ => cases (dd_dat hd))
      rw [this, List.filter_eq_self.mpr fun _ _ => rfl]
    have hall : (xs.map (sbB n)).all id = xs.all (belowB n) := by
      rw [List.all_map]
      congr 1
      funext v
      exact sb_eq hn v
    cases hb : xs.all (belowB n) with
    | false =>
      rw [hb] at hall
      simp [startE, key, hall, slotsB, hb]
    | true =>
      rw [hb] at hall
      obtain ⟨ns, rfl⟩ := ints_of hb
      have hlen : ns.length < 64 := by rw [List.length_map] at hl; omega
      have hset : lensetOp (.tup (ns.map .int)) T = .ok (.int (dedupI ns).length) T := by
        show (match intsOf (ns.map .int) with | some ns => if ns.length < 64 then Res.ok (PV.int (dedupI ns).length) T else .bad | none => .bad) = _
        rw [ints_map]
        show (if ns.length < 64 then _ else _) = _
        rw [if_pos hlen]
      have hd : (((dedupI ns).length : Int) == (ns.length : Int)) = nodupB ns := by
        rw [← dedup_eq]
        by_cases e : (dedupI ns).length = ns.length
        · simp [e]
        · have : ¬ ((dedupI ns).length : Int) = ns.length := by omega
          simp [e, this]
      simp only [startE] at *
      simp [key, hall, slotsB, hb, hset, ints_map, hd, -List.map_map]
  | int i => simp [startE, slotsB]
  | str s => simp [startE, slotsB]
  | _ => cases (dd_dat h)
/-! ### rows -/
def absB : PV → Bool
  | .int i => decide ((if i < 0 then -i else i) ≤ 1000000000000)
  | _ => false
def divB : PV → Bool
  | .int i => decide (2 ≤ i) && decide (i ≤ 1000000000000)
  | _ => false
def bPush : List Nat := [112, 117, 115, 104]
/-- what a row is: by the word's kind -/
def oneB (f : PV → Bool) : List PV → Bool
  | [a] => f a
  | _ => false
def callB (s c : Int) : List PV → Bool
  | [a, b] => belowB c a && slotsB s b
  | _ => false
def wordB (p i s c : Int) (w : List Nat) (r : List PV) : Bool :=
  if w = [112, 117, 115, 104] ∨ w = [115, 99, 97, 108, 101] then oneB absB r
  else if w = [108, 111, 97, 100] ∨ w = [115, 116, 111, 114, 101] then oneB (belowB i) r
  else if w = [97, 100, 100] ∨ w = [115, 117, 98] ∨ w = [108, 111, 111, 112] ∨ w = [116, 101, 108, 108] then r.isEmpty
  else if w = [100, 105, 118] ∨ w = [109, 111, 100] then oneB divB r
  else if w = [114, 101, 97, 100] ∨ w = [119, 114, 105, 116, 101] ∨ w = [108, 101, 110, 103, 116, 104] ∨ w = [110, 101, 119] then oneB (belowB s) r
  else if w = [106, 117, 109, 112] ∨ w = [108, 101, 115, 115] ∨ w = [115, 97, 109, 101] then oneB (belowB p) r
  else if w = [99, 97, 108, 108] then callB s c r
  else false
def rowB (p i s c : Int) : PV → Bool
  | .tup (.str w :: r) => wordB p i s c w r
  | _ => false
def W18 : List (List Nat) := [[112, 117, 115, 104], [108, 111, 97, 100], [115, 116, 111, 114, 101], [97, 100, 100], [115, 117, 98], [115, 99, 97, 108, 101], [100, 105, 118], [109, 111, 100], [114, 101, 97, 100], [119, 114, 105, 116, 101], [108, 101, 110, 103, 116, 104], [110, 101, 119], [106, 117, 109, 112], [108, 101, 115, 115], [115, 97, 109, 101], [99, 97, 108, 108], [108, 111, 111, 112], [116, 101, 108, 108]]
def sz18 : List Int := [1, 1, 1, 0, 0, 1, 1, 1, 1, 1, 1, 1, 1, 1, 1, 2, 0, 0]
theorem g0 : G 0 = some (.vd (W18.map .s) (sz18.map .int)) := rfl
theorem kget_none {w : List Nat} : ∀ {ks : List (List Nat)} {vs : List PV}, w ∉ ks → kGet (ks.map .s) vs (.s w) = none
  | [], _, _ => rfl
  | a :: ks, [], _ => rfl
  | a :: ks, v :: vs, h => by
    rw [List.map_cons]
    unfold kGet
    rw [if_neg (fun e => h (by rw [PK.s.inj e]; exact List.mem_cons_self)), kget_none fun z => h (List.mem_cons_of_mem _ z)]
theorem norm0 (n : Nat) : normI (n + 1) 0 = some 0 := by
  unfold normI
  rw [if_pos (by omega), if_pos (by omega)]
  rfl
/-- no row: no tuple, empty, no text at its head, no word -/
theorem row_no {v : PV} {L m : Nat} {p i s c : Int} (h : dd L m v = true) (hm : m ≤ 60) (hw : ∀ w r, v = .tup (.str w :: r) → w ∉ W18) (T : Store) : callF D G (k + 1) 449 [v, .tup [.int p, .int i, .int s, .int c]] T = .ok (.bl false) T := by
  rw [call_of d449 rfl]
  unfold t449
  cases v with
  | int _ => simp [startE]
  | str _ => simp [startE]
  | tup xs =>
    have he := eq_nil (dd_plain m 60 _ hm h) T
    obtain ⟨m, rfl, hl, hxs⟩ := dd_tup h
    cases xs with
    | nil => simp [startE, he, SZ]
    | cons x r =>
      have hx := dd_dat (dds_mem hxs x List.mem_cons_self)
      cases x with
      | int _ => simp [startE, he, norm0, SZ]
      | tup _ => simp [startE, he, norm0, SZ]
      | str w =>
        have := kget_none (vs := sz18.map .int) (hw w r rfl)
        simp [startE, he, norm0, SZ, g0, this, -List.map_cons, -List.map_nil]
      | _ => cases hx
  | _ => cases (dd_dat h)
theorem dds_cons {L m : Nat} {x : PV} {xs : List PV} (h : dds L m (x :: xs) = true) : dd L m x = true ∧ dds L m xs = true := by
  unfold dds at h
  rw [Bool.and_eq_true] at h
  exact h
theorem len2 (n : Nat) : ((n : Int) + 1 + 1 + 1 + 1 == 2) = false ∧ ((n : Int) + 1 + 1 + 1 + 1 == 1) = false ∧ ((n : Int) + 1 + 1 + 1 + 1 == 3) = false := by
  refine ⟨?_, ?_, ?_⟩ <;> (rw [beq_eq_false_iff_ne]; omega)
theorem small_int (T : Store) (j : Int) : callF D G (k + 2) 447 [.int j] T = .ok (.bl (smallB (.int j))) T := small_ok rfl T
theorem small_str (T : Store) (j : List Nat) : callF D G (k + 2) 447 [.str j] T = .ok (.bl false) T := small_ok rfl T
theorem small_tup (T : Store) (j : List PV) : callF D G (k + 2) 447 [.tup j] T = .ok (.bl false) T := small_ok rfl T
theorem isi_int (T : Store) (j : Int) : callF D G (k + 1) 22 [.int j] T = .ok (.bl true) T := is_integer d22 rfl T
theorem isi_str (T : Store) (j : List Nat) : callF D G (k + 1) 22 [.str j] T = .ok (.bl false) T := is_integer d22 rfl T
theorem isi_tup (T : Store) (j : List PV) : callF D G (k + 1) 22 [.tup j] T = .ok (.bl false) T := is_integer d22 rfl T
theorem ist (T : Store) (j : List PV) (n : Int) : callF D G (k + 1) 23 [.tup j, .int n] T = .ok (.bl ((j.length : Int) == n)) T := is_tuple d23 rfl n T
theorem norm_2_1 : normI 2 1 = some 1 := rfl
theorem norm_3_1 : normI 3 1 = some 1 := rfl
theorem norm_3_2 : normI 3 2 = some 2 := rfl
theorem sb_int {n j : Int} (hn : n ≤ 1000000000000) : (smallB (.int j) && decide (j < n)) = belowB n (.int j) := sb_eq hn (.int j)
theorem sb_div (j : Int) : (smallB (.int j) && decide (2 ≤ j)) = divB (.int j) := by
  unfold smallB divB
  by_cases h0 : 0 ≤ j <;> by_cases h1 : 2 ≤ j <;> by_cases h2 : j ≤ 1000000000000 <;> simp [h0, h1, h2] <;> omega
@[simp] theorem below_str (n : Int) (x : List Nat) : belowB n (.str x) = false := rfl
@[simp] theorem below_tup (n : Int) (x : List PV) : belowB n (.tup x) = false := rfl
@[simp] theorem div_str (x : List Nat) : divB (.str x) = false := rfl
@[simp] theorem div_tup (x : List PV) : divB (.tup x) = false := rfl
@[simp] theorem abs_str (x : List Nat) : absB (.str x) = false := rfl
@[simp] theorem abs_tup (x : List PV) : absB (.tup x) = false := rfl
@[simp] theorem abs_int (i : Int) : absB (.int i) = decide ((if i < 0 then -i else i) ≤ 1000000000000) := rfl
set_option maxHeartbeats 40000000 in
theorem row_word {w : List Nat} {r : List PV} {L m : Nat} {p i s c : Int} (h : dd L m (.tup (.str w :: r)) = true) (hm : m ≤ 60) (hL : L < 64) (hp : p ≤ 1000000000000) (hi : i ≤ 1000000000000) (hs : s ≤ 1000000000000) (hc : c ≤ 1000000000000) (hw : w ∈ W18) (T : Store) :
    callF D G (k + 4) 449 [.tup (.str w :: r), .tup [.int p, .int i, .int s, .int c]] T = .ok (.bl (wordB p i s c w r)) T := by
  rw [call_of d449 rfl]
  unfold t449
  have he := eq_nil (dd_plain m 60 _ hm h) T
  have ht := ist (k := k + 2) T
  have s1 := small_int (k := k + 1) T
  have s2 := small_str (k := k + 1) T
  have s3 := small_tup (k := k + 1) T
  have i1 := isi_int (k := k + 2) T
  have i2 := isi_str (k := k + 2) T
  have i3 := isi_tup (k := k + 2) T
  obtain ⟨m, rfl, hl, hx⟩ := dd_tup h
  obtain ⟨_, hxr⟩ := dds_cons hx
  have e1 := fun j => sb_int (n := p) (j := j) hp
  have e2 := fun j => sb_int (n := i) (j := j) hi
  have e3 := fun j => sb_int (n := s) (j := j) hs
  have e4 := fun j => sb_int (n := c) (j := j) hc
  have hk : ∀ (n : Int), kGet (W18.map .s) (sz18.map .int) (.s w) = some (.int n) → kGet (W18.map .s) (sz18.map .int) (.s w) = some (.int n) := fun _ h => h
  simp only [W18, List.mem_cons, List.not_mem_nil, or_false] at hw
  rcases hw with rfl | rfl | rfl | rfl | rfl | rfl | rfl | rfl | rfl | rfl | rfl | rfl | rfl | rfl | rfl | rfl | rfl | rfl
  all_goals first
    | replace hk := hk 1 rfl
    | replace hk := hk 0 rfl
    | replace hk := hk 2 rfl
  all_goals rcases r with _ | ⟨a, _ | ⟨b, _ | ⟨d, r⟩⟩⟩
  all_goals try simp [startE, he, norm0, norm_2_1, norm_3_1, norm_3_2, SZ, g0, g1, hk, ht, wordB, oneB, callB, len2, -List.map_cons, -List.map_nil]
  all_goals (have ha := dd_dat (dds_cons hxr).1; cases a <;> first | (exfalso; simp [dat] at ha; done) | skip)
  all_goals try simp [s1, s2, s3, i1, i2, i3, e1, e2, e3, e4, sb_div, norm0, norm_2_1, norm_3_1, norm_3_2, g0, g1, SZ]
  rename_i _ i0
  have sl := slots_ok (k := k) hs (dds_cons (dds_cons hxr).2).1 hL T
  rw [← e4]
  cases hsm : smallB (.int i0) <;> by_cases hlt : i0 < c <;> simp [sl, hlt]
/-- is_row -/
theorem row_ok {v : PV} {L m : Nat} {p i s c : Int} (h : dd L m v = true) (hm : m ≤ 60) (hL : L < 64) (hp : p ≤ 1000000000000) (hi : i ≤ 1000000000000) (hs : s ≤ 1000000000000) (hc : c ≤ 1000000000000) (T : Store) :
    callF D G (k + 4) 449 [v, .tup [.int p, .int i, .int s, .int c]] T = .ok (.bl (rowB p i s c v)) T := by
  by_cases hw : ∃ w r, v = .tup (.str w :: r) ∧ w ∈ W18
  · obtain ⟨w, r, rfl, hw⟩ := hw
    exact row_word h hm hL hp hi hs hc hw T
  · have no : ∀ w r, v = .tup (.str w :: r) → w ∉ W18 := fun w r e hwm => hw ⟨w, r, e, hwm⟩
    rw [row_no (k := k + 3) h hm no T]
    congr 2
    cases v with
    | tup xs =>
      cases xs with
      | nil => rfl
      | cons x r =>
        cases x with
        | str w =>
          have hn := no w r rfl
          unfold rowB wordB
          simp only [W18, List.mem_cons, List.not_mem_nil, or_false, not_or] at hn
          simp [hn]
        | _ => rfl
    | _ => rfl
end MP.K10

set_option Elab.async false
set_option linter.all false
set_option maxRecDepth 100000
set_option maxHeartbeats 4000000
/-! k10: the law's own rows and codes -/
namespace MP.K10
open MP
variable {k : Nat}
theorem slice_to {w : Bool} {xs : List PV} {j : Nat} {lo : PV} {T : Store} : sliceOp w false true (.tup xs) lo (.int j) T = .ok (.tup (xs.take j)) T := by
  have e : clipI xs.length xs.length true (.int (j : Nat)) = some (min j xs.length) := by
    show some (if (j : Int) < 0 then _ else min (j : Int).toNat xs.length) = _
    rw [if_neg (by omega)]
    rfl
  show (match some 0, clipI xs.length xs.length true (.int (j : Nat)) with
    | some a, some b => Res.ok (PV.tup (cut xs a b)) T
    | _, _ => .bad) = _
  rw [e]
  show Res.ok (PV.tup ((xs.drop 0).take (min j xs.length - 0))) T = _
  rw [List.drop_zero, Nat.sub_zero]
  congr 2
  rcases Nat.le_total j xs.length with h | h
  · rw [Nat.min_eq_left h]
  · rw [Nat.min_eq_right h, List.take_length, List.take_of_length_le h]
theorem slice_from {w : Bool} {xs : List PV} {j : Nat} {hi : PV} {T : Store} : sliceOp w true false (.tup xs) (.int j) hi T = .ok (.tup (xs.drop j)) T := by
  have e : clipI xs.length 0 true (.int (j : Nat)) = some (min j xs.length) := by
    show some (if (j : Int) < 0 then _ else min (j : Int).toNat xs.length) = _
    rw [if_neg (by omega)]
    rfl
  show (match clipI xs.length 0 true (.int (j : Nat)), some xs.length with
    | some a, some b => Res.ok (PV.tup (cut xs a b)) T
    | _, _ => .bad) = _
  rw [e]
  show Res.ok (PV.tup ((xs.drop (min j xs.length)).take (xs.length - min j xs.length))) T = _
  congr 2
  rcases Nat.le_total j xs.length with h | h
  · rw [Nat.min_eq_left h, List.take_of_length_le (by rw [List.length_drop]; omega)]
  · rw [Nat.min_eq_right h, List.drop_length, List.drop_eq_nil_of_le h, List.take_nil]
theorem inOp_dd {L n : Nat} {v : PV} {xs : List PV} (hn : n ≤ 59) (h : dd L n v = true) (hx : dds L n xs = true) : inOp v xs = some (inSeq v xs) := by
  unfold inOp
  split
  · rfl
  · rw [dd_plain n 60 v (by omega) h, dds_plain n 59 xs hn hx]
    rfl
theorem nodupB_iff : ∀ l : List Int, nodupB l = true ↔ l.Nodup
  | [] => by simp [nodupB]
  | x :: r => by
    unfold nodupB
    rw [Bool.and_eq_true, List.nodup_cons, nodupB_iff r]
    simp
theorem inSeq_ints (i : Int) : ∀ l : List Int, inSeq (.int i) (l.map .int) = decide (i ∈ l)
  | [] => rfl
  | x :: l => by
    rw [List.map_cons, inSeq_cons, peq_int, inSeq_ints i l]
    by_cases h : x = i
    · subst h; simp
    · have : ¬ i = x := fun e => h e.symm
      simp [h, this]
/-- the places whose item is new -/
def newAt (xs : List PV) (j : Nat) : Bool := !inSeq (xs.getD j .non) (xs.take j)
theorem new_nodup (ns : List Int) : (((List.range ns.length).filter (newAt (ns.map .int))).length == ns.length) = nodupB ns := by
  rw [Bool.eq_iff_iff, beq_iff_eq, nodupB_iff]
  have e : ((List.range ns.length).filter (newAt (ns.map .int))).length = ns.length ↔ ∀ j ∈ List.range ns.length, newAt (ns.map .int) j = true := by
    have := List.length_filter_eq_length_iff (p := newAt (ns.map .int)) (l := List.range ns.length)
    rw [List.length_range] at this
    exact this
  rw [e]
  have at_ : ∀ j (hj : j < ns.length), newAt (ns.map .int) j = !decide (ns[j] ∈ ns.take j) := fun j hj => by
    unfold newAt
    have : (ns.map PV.int).getD j .non = .int ns[j] := by simp [List.getD_eq_getElem?_getD, hj]
    rw [this, ← List.map_take, inSeq_ints]
  refine ⟨fun h => List.pairwise_iff_getElem.mpr fun a b ha hb hab e2 => ?_, fun h j hj => ?_⟩
  · have := h b (List.mem_range.mpr hb)
    rw [at_ b hb] at this
    have m : ns[b] ∈ ns.take b := by
      rw [← e2, List.mem_take_iff_getElem]
      exact ⟨a, by omega, rfl⟩
    simp [m] at this
  · have hj := List.mem_range.mp hj
    rw [at_ j hj]
    have : ns[j] ∉ ns.take j := fun m => by
      rw [List.mem_take_iff_getElem] at m
      obtain ⟨a, ha, e2⟩ := m
      exact (List.pairwise_iff_getElem.mp h) a j (by omega) hj (by omega) e2
    simp [this]
/-- the law's own way -/
def slotsL (n : Int) (xs : List PV) : Bool := (((List.range xs.length).filter (newAt xs)).length == xs.length) && xs.all (belowB n)
theorem slotsL_eq (n : Int) (xs : List PV) : slotsL n xs = slotsB n (.tup xs) := by
  show ((((List.range xs.length).filter (newAt xs)).length == xs.length) && xs.all (belowB n)) = (xs.all (belowB n) && (match intsOf xs with | some ns => nodupB ns | none => false))
  cases hb : xs.all (belowB n) with
  | false => rw [Bool.and_false, Bool.false_and]
  | true =>
    obtain ⟨ns, rfl⟩ := ints_of hb
    have := new_nodup ns
    rw [ints_map, Bool.and_true, Bool.true_and, List.length_map]
    exact this
theorem filter_range {x : Bool} {i n : Nat} {T : Store} {e : Nv → Store → Res PV} {c : Nv → Store → Res Bool} {σ : Nv} (b : Nat → Bool) (hn : n ≤ SZ) (hc : ∀ j, j < n → c (σ.set i (some (.int j))) T = .ok (b j) T) (h : ∀ j, j < n → e (σ.set i (some (.int j))) T = .ok (.int j) T) :
    compO x (some (.range 0 1 n)) (.nm i) c e σ T = .ok (((List.range n).filter b).map fun j => .int (j : Nat)) T := by
  have hat : ∀ j, (Wk.range 0 1 n).at j T = some ((List.range n).map fun j => PV.int (j : Nat))[j]? := fun j => by
    show some (if j < n then some (PV.int (0 + j * 1)) else none) = _
    by_cases hj : j < n
    · rw [if_pos hj, List.getElem?_map, List.getElem?_range hj]
      simp
    · rw [if_neg hj, List.getElem?_eq_none_iff.mpr (by rw [List.length_map, List.length_range]; omega)]
  have key := compO_at (x := x) (tg := .nm i) (c := c) (e := e) (σ := σ) (fun v => match v with | .int j => b j.toNat | _ => false) (fun v => v) hat (by rw [List.length_map, List.length_range]; exact hn) (fun v hv => by
    obtain ⟨j, hj, rfl⟩ := List.mem_map.mp hv
    exact ⟨_, rfl, hc j (List.mem_range.mp hj), fun _ => h j (List.mem_range.mp hj)⟩)
  rw [key, List.map_id', List.filter_map]
  rfl
theorem lbelow_int (T : Store) (j n : Int) : callF D G (k + 2) 455 [.int j, .int n] T = .ok (.bl (belowB n (.int j))) T := below_ok rfl n T
theorem lbelow_str (T : Store) (j : List Nat) (n : Int) : callF D G (k + 2) 455 [.str j, .int n] T = .ok (.bl false) T := below_ok rfl n T
theorem lbelow_tup (T : Store) (j : List PV) (n : Int) : callF D G (k + 2) 455 [.tup j, .int n] T = .ok (.bl false) T := below_ok rfl n T
theorem lisi_int (T : Store) (j : Int) : callF D G (k + 1) 9 [.int j] T = .ok (.bl true) T := is_int d9 rfl T
theorem lisi_str (T : Store) (j : List Nat) : callF D G (k + 1) 9 [.str j] T = .ok (.bl false) T := is_int d9 rfl T
theorem lisi_tup (T : Store) (j : List PV) : callF D G (k + 1) 9 [.tup j] T = .ok (.bl false) T := is_int d9 rfl T
/-- the law's own row: no tuple, empty, no text at its head -/
theorem lrow_no {v : PV} {L m : Nat} {p i s c : Int} (h : dd L m v = true) (hm : m ≤ 60) (hw : ∀ w r, v ≠ .tup (.str w :: r)) (T : Store) : callF D G (k + 1) 456 [v, .int p, .tup [.int i, .int s, .int c]] T = .ok (.bl false) T := by
  rw [call_of d456 rfl]
  unfold t456
  cases v with
  | int _ => simp [startE]
  | str _ => simp [startE]
  | tup xs =>
    have he := eq_nil (dd_plain m 60 _ hm h) T
    obtain ⟨m, rfl, hl, hxs⟩ := dd_tup h
    cases xs with
    | nil => simp [startE, he, SZ]
    | cons x r =>
      have hx := dd_dat (dds_mem hxs x List.mem_cons_self)
      cases x with
      | int _ => simp [startE, he, norm0, SZ]
      | tup _ => simp [startE, he, norm0, SZ]
      | str w => exact absurd rfl (hw w r)
      | _ => cases hx
  | _ => cases (dd_dat h)
/-- .. a text that is no word -/
theorem lrow_other {w : List Nat} {r : List PV} {L m : Nat} {p i s c : Int} (h : dd L m (.tup (.str w :: r)) = true) (hm : m ≤ 60) (hw : w ∉ W18) (T : Store) : callF D G (k + 1) 456 [.tup (.str w :: r), .int p, .tup [.int i, .int s, .int c]] T = .ok (.bl false) T := by
  rw [call_of d456 rfl]
  unfold t456
  have he := eq_nil (dd_plain m 60 _ hm h) T
  simp only [W18, List.mem_cons, List.not_mem_nil, or_false, not_or] at hw
  have hw' : ∀ z : List Nat, ¬ w = z → (z == w) = false := fun z h => by rw [beq_eq_false_iff_ne]; exact fun e => h e.symm
  obtain ⟨h1, h2, h3, h4, h5, h6, h7, h8, h9, h10, h11, h12, h13, h14, h15, h16, h17, h18⟩ := hw
  have hw2 : ∀ z : List Nat, ¬ w = z → ¬ z = w := fun z h e => h e.symm
  by_cases hr : r.length + 1 = 2
  · have hr' : (r.length : Int) + 1 = 2 := by omega
    simp [startE, he, norm0, SZ, hr', hw2 _ h1, hw2 _ h2, hw2 _ h3, hw2 _ h4, hw2 _ h5, hw2 _ h6, hw2 _ h7, hw2 _ h8, hw2 _ h9, hw2 _ h10, hw2 _ h11, hw2 _ h12, hw2 _ h13, hw2 _ h14, hw2 _ h15, h16, hw2 _ h17, hw2 _ h18]
  · have hr' : ¬ (r.length : Int) + 1 = 2 := by omega
    simp [startE, he, norm0, SZ, hr', hw2 _ h1, hw2 _ h2, hw2 _ h3, hw2 _ h4, hw2 _ h5, hw2 _ h6, hw2 _ h7, hw2 _ h8, hw2 _ h9, hw2 _ h10, hw2 _ h11, hw2 _ h12, hw2 _ h13, hw2 _ h14, hw2 _ h15, h16, hw2 _ h17, hw2 _ h18]
/-- the places of a call's slots that are new -/
theorem new_comp {w : List Nat} {a sz : PV} {bs : List PV} {L n : Nat} {p i s c : Int} (hb : dds L n bs = true) (hn : n ≤ 59) (hl : bs.length ≤ 63) (T : Store) :
    compO true (some (.range 0 1 bs.length)) (.nm 9) (evT (callF D G k) G (.cmp .notin (.idx (.idx (.var 0) (.lit (.int 2))) (.var 9)) (.slice false (.idx (.var 0) (.lit (.int 2))) (.lit .non) (.var 9) false true))) (ev (callF D G k) G (.var 9))
      [some (.tup [.str w, a, .tup bs]), some (.int p), some sz, some (.int i), some (.int s), some (.int c), some (.str w), none, none, none, none] T = .ok (((List.range bs.length).filter (newAt bs)).map fun j => .int (j : Nat)) T := by
  refine filter_range (newAt bs) (by show _ ≤ 16777216; omega) (fun j hj => ?_) (fun j hj => by simp)
  have g1 : bs[j]? = some (bs.getD j .non) := by simp [List.getD_eq_getElem?_getD, hj]
  have hd : dd L n (bs.getD j .non) = true := by
    have : bs.getD j .non = bs[j] := by simp [List.getD_eq_getElem?_getD, hj]
    rw [this]
    exact dds_mem hb _ (List.getElem_mem _)
  have ht : dds L n (bs.take j) = true := dds_of fun x hx => dds_mem hb x (List.mem_of_mem_take hx)
  have hin := inOp_dd hn hd ht
  unfold newAt
  generalize bs.getD j .non = q at g1 hin ⊢
  simp [norm_3_2, norm_in (n := bs.length) (i := j) (by omega) (by omega), g1, slice_to, hin]
/-- all below -/
theorem below_comp {x : Nat} {σ : Nv} {bs : List PV} {L n : Nat} {s : Int} (hb : dds L n bs = true) (hl : bs.length ≤ 63) (T : Store) (hs : ∀ v, dat v = true → ev (callF D G (k + 2)) G (.call 455 (.cons (.var x) (.cons (.var 4) .nil))) (σ.set x (some v)) T = callF D G (k + 2) 455 [v, .int s] T) :
    compO true (some (.items bs)) (.nm x) (evT (callF D G (k + 2)) G (.lit (.bl true))) (ev (callF D G (k + 2)) G (.call 455 (.cons (.var x) (.cons (.var 4) .nil)))) σ T = .ok (bs.map fun v => .bl (belowB s v)) T := by
  have := compO_items (x := true) (tg := .nm x) (T := T) (c := evT (callF D G (k + 2)) G (.lit (.bl true))) (e := ev (callF D G (k + 2)) G (.call 455 (.cons (.var x) (.cons (.var 4) .nil)))) (σ := σ) (xs := bs) (fun _ => true) (fun v => .bl (belowB s v)) (by show _ ≤ 16777216; omega) (fun v hv => by
    refine ⟨_, rfl, by simp, fun _ => ?_⟩
    have hd := dds_mem hb v hv
    cases v with
    | int j => rw [hs _ rfl, lbelow_int]
    | str j => rw [hs _ rfl, lbelow_str]; rfl
    | tup j => rw [hs _ rfl, lbelow_tup]; rfl
    | _ => cases (dd_dat hd))
  rw [this, List.filter_eq_self.mpr fun _ _ => rfl]
theorem ldiv (j : Int) : (decide (2 ≤ j) && decide (j ≤ 1000000000000)) = divB (.int j) := rfl
set_option maxHeartbeats 40000000 in
theorem lrow_word {w : List Nat} {r : List PV} {L m : Nat} {p i s c : Int} (h : dd L m (.tup (.str w :: r)) = true) (hm : m ≤ 60) (hL : L < 64) (hw : w ∈ W18) (T : Store) :
    callF D G (k + 3) 456 [.tup (.str w :: r), .int p, .tup [.int i, .int s, .int c]] T = .ok (.bl (wordB p i s c w r)) T := by
  rw [call_of d456 rfl]
  unfold t456
  have he := eq_nil (dd_plain m 60 _ hm h) T
  have s1 := lbelow_int (k := k) T
  have s2 := lbelow_str (k := k) T
  have s3 := lbelow_tup (k := k) T
  have i1 := lisi_int (k := k + 1) T
  have i2 := lisi_str (k := k + 1) T
  have i3 := lisi_tup (k := k + 1) T
  obtain ⟨m, rfl, hl, hx⟩ := dd_tup h
  obtain ⟨_, hxr⟩ := dds_cons hx
  simp only [W18, List.mem_cons, List.not_mem_nil, or_false] at hw
  rcases hw with rfl | rfl | rfl | rfl | rfl | rfl | rfl | rfl | rfl | rfl | rfl | rfl | rfl | rfl | rfl | rfl | rfl | rfl
  all_goals rcases r with _ | ⟨a, _ | ⟨b, _ | ⟨d, r⟩⟩⟩
  all_goals try simp [startE, he, norm0, norm_2_1, norm_3_1, norm_3_2, SZ, wordB, oneB, callB, len2, -List.map_cons, -List.map_nil]
  all_goals (have ha := dd_dat (dds_cons hxr).1; cases a <;> first | (exfalso; simp [dat] at ha; done) | skip)
  all_goals try simp [s1, s2, s3, i1, i2, i3, ldiv, norm0, norm_2_1, norm_3_1, norm_3_2, SZ]
  rename_i _ i0
  have hbd := (dds_cons (dds_cons hxr).2).1
  cases hbc : belowB c (.int i0) with
  | false => simp
  | true =>
    cases b with
    | int _ => simp [slotsB]
    | str _ => simp [slotsB]
    | tup bs =>
      obtain ⟨m, rfl, hl2, hbs⟩ := dd_tup hbd
      have hr : walkOf T .range [.int (bs.length : Nat)] = some (.range 0 1 bs.length) := wk_range (by omega) (by omega)
      have k1 := new_comp (k := k + 2) (w := [99, 97, 108, 108]) (a := .int i0) (sz := .tup [.int i, .int s, .int c]) (p := p) (i := i) (s := s) (c := c) hbs (by omega) (by omega) T
      have k2 := below_comp (k := k) (x := 10) (σ := [some (.tup [.str [99, 97, 108, 108], .int i0, .tup bs]), some (.int p), some (.tup [.int i, .int s, .int c]), some (.int i), some (.int s), some (.int c), some (.str [99, 97, 108, 108]), some (.vl (((List.range bs.length).filter (newAt bs)).map fun j => .int (j : Nat))), none, none, none]) (s := s) hbs (by omega) T (fun v hv => by cases v <;> first | (cases hv; done) | simp)
      have k3 : ((((List.range bs.length).filter (newAt bs)).length : Int) == (bs.length : Int)) = (((List.range bs.length).filter (newAt bs)).length == bs.length) := by
        rw [Bool.eq_iff_iff, beq_iff_eq, beq_iff_eq]
        omega
      have k4 : (bs.map (belowB s)).all id = bs.all (belowB s) := by rw [List.all_map]; rfl
      rw [← slotsL_eq]
      unfold slotsL
      by_cases hq : ((List.range bs.length).filter (newAt bs)).length = bs.length <;> simp [wipeE, hr, norm_3_2, k1, k2, k3, k4, hq, -List.map_map]
    | _ => cases (dd_dat hbd)
/-- the law's is_row -/
theorem lrow_ok {v : PV} {L m : Nat} {p i s c : Int} (h : dd L m v = true) (hm : m ≤ 60) (hL : L < 64) (T : Store) :
    callF D G (k + 3) 456 [v, .int p, .tup [.int i, .int s, .int c]] T = .ok (.bl (rowB p i s c v)) T := by
  by_cases hw : ∃ w r, v = .tup (.str w :: r)
  · obtain ⟨w, r, rfl⟩ := hw
    by_cases hw : w ∈ W18
    · exact lrow_word h hm hL hw T
    · rw [lrow_other (k := k + 2) h hm hw T]
      congr 2
      unfold rowB wordB
      simp only [W18, List.mem_cons, List.not_mem_nil, or_false, not_or] at hw
      simp [hw]
  · rw [lrow_no (k := k + 2) h hm (fun w r e => hw ⟨w, r, e⟩) T]
    congr 2
    cases v with
    | tup xs =>
      cases xs with
      | nil => rfl
      | cons x r =>
        cases x with
        | str w => exact absurd ⟨w, r, rfl⟩ hw
        | _ => rfl
    | _ => rfl
end MP.K10

set_option Elab.async false
set_option linter.all false
set_option maxRecDepth 100000
set_option maxHeartbeats 4000000
/-! k10: whole codes: is_code and the law's own -/
namespace MP.K10
open MP
variable {k : Nat}
/-- what is_code is asked about: data, a tuple of them of any length -/
def cd (L n : Nat) : PV → Bool
  | .tup xs => dds L n xs
  | v => dd L n v
def codeB (i s c : Int) : PV → Bool
  | .tup xs => decide (1 ≤ xs.length) && decide (xs.length ≤ 400) && xs.all (rowB xs.length i s c)
  | _ => false
theorem d2 : G 2 = some (.int 400) := rfl
theorem code_ok {v : PV} {L n : Nat} {i s c : Int} (h : cd L n v = true) (hn : n ≤ 60) (hL : L < 64) (hi : i ≤ 1000000000000) (hs : s ≤ 1000000000000) (hc : c ≤ 1000000000000) (T : Store) : callF D G (k + 5) 450 [v, .int i, .int s, .int c] T = .ok (.bl (codeB i s c v)) T := by
  rw [call_of d450 rfl]
  unfold t450
  cases v with
  | int _ => simp [startE, codeB]
  | str _ => simp [startE, codeB]
  | tup xs =>
    have hxs : dds L n xs = true := h
    by_cases h1 : 1 ≤ xs.length
    · by_cases h2 : xs.length ≤ 400
      · have key : compO true (some (.items xs)) (.nm 6) (evT (callF D G (k + 4)) G (.lit (.bl true))) (ev (callF D G (k + 4)) G (.call 449 (.cons (.var 6) (.cons (.var 4) .nil))))
            [some (.tup xs), some (.int i), some (.int s), some (.int c), some (.tup [.int xs.length, .int i, .int s, .int c]), none, none] T = .ok (xs.map fun v => .bl (rowB xs.length i s c v)) T := by
          have := compO_items (x := true) (tg := .nm 6) (T := T) (c := evT (callF D G (k + 4)) G (.lit (.bl true))) (e := ev (callF D G (k + 4)) G (.call 449 (.cons (.var 6) (.cons (.var 4) .nil)))) (σ := [some (.tup xs), some (.int i), some (.int s), some (.int c), some (.tup [.int xs.length, .int i, .int s, .int c]), none, none]) (xs := xs) (fun _ => true) (fun v => .bl (rowB xs.length i s c v)) (by show _ ≤ 16777216; omega) (fun v hv => by
            refine ⟨_, rfl, by simp, fun _ => ?_⟩
            have hd := dds_mem hxs v hv
            have hr := row_ok (k := k) (p := xs.length) hd hn hL (by omega) hi hs hc T
            cases v <;> first | (exfalso; have := dd_dat hd; simp [dat] at this; done) | simp [hr])
          rw [this, List.filter_eq_self.mpr fun _ _ => rfl]
        have h3 : (1 : Int) ≤ xs.length := by omega
        have h4 : (xs.length : Int) ≤ 400 := by omega
        have h5 : (xs.map (rowB xs.length i s c)).all id = xs.all (rowB xs.length i s c) := by rw [List.all_map]; rfl
        simp [startE, wipeE, SZ, d2, h3, h4, key, codeB, h1, h2, h5, -List.map_map]
      · have h3 : (1 : Int) ≤ xs.length := by omega
        have h4 : ¬ (xs.length : Int) ≤ 400 := by omega
        simp [startE, SZ, d2, h3, h4, codeB, h2]
    · have h3 : ¬ (1 : Int) ≤ xs.length := by omega
      simp [startE, SZ, d2, h3, codeB, h1]
  | _ => cases h
theorem lcode_ok {v : PV} {L n : Nat} {i s c : Int} (h : cd L n v = true) (hn : n ≤ 60) (hL : L < 64) (T : Store) : callF D G (k + 4) 120 [v, .tup [.int i, .int s, .int c]] T = .ok (.bl (codeB i s c v)) T := by
  rw [call_of d120 rfl]
  unfold t120
  cases v with
  | int _ => simp [startE, codeB]
  | str _ => simp [startE, codeB]
  | tup xs =>
    have hxs : dds L n xs = true := h
    by_cases h1 : 1 ≤ xs.length
    · by_cases h2 : xs.length ≤ 400
      · have key : compO true (some (.items xs)) (.nm 3) (evT (callF D G (k + 3)) G (.lit (.bl true))) (ev (callF D G (k + 3)) G (.call 456 (.cons (.var 3) (.cons (.prim false .len (.cons (.var 0) .nil)) (.cons (.var 1) .nil)))))
            [some (.tup xs), some (.tup [.int i, .int s, .int c]), none, none] T = .ok (xs.map fun v => .bl (rowB xs.length i s c v)) T := by
          have := compO_items (x := true) (tg := .nm 3) (T := T) (c := evT (callF D G (k + 3)) G (.lit (.bl true))) (e := ev (callF D G (k + 3)) G (.call 456 (.cons (.var 3) (.cons (.prim false .len (.cons (.var 0) .nil)) (.cons (.var 1) .nil))))) (σ := [some (.tup xs), some (.tup [.int i, .int s, .int c]), none, none]) (xs := xs) (fun _ => true) (fun v => .bl (rowB xs.length i s c v)) (by show _ ≤ 16777216; omega) (fun v hv => by
            refine ⟨_, rfl, by simp, fun _ => ?_⟩
            have hd := dds_mem hxs v hv
            have hr := lrow_ok (k := k) (p := xs.length) (i := i) (s := s) (c := c) hd hn hL T
            cases v <;> first | (exfalso; have := dd_dat hd; simp [dat] at this; done) | simp [hr])
          rw [this, List.filter_eq_self.mpr fun _ _ => rfl]
        have h3 : ¬ (xs.length : Int) < 1 := by omega
        have h4 : ¬ (400 : Int) < xs.length := by omega
        have h5 : (xs.map (rowB xs.length i s c)).all id = xs.all (rowB xs.length i s c) := by rw [List.all_map]; rfl
        simp [startE, wipeE, SZ, h3, h4, key, codeB, h1, h2, h5, -List.map_map]
      · have h3 : ¬ (xs.length : Int) < 1 := by omega
        have h4 : (400 : Int) < xs.length := by omega
        simp [startE, SZ, h3, h4, codeB, h2]
    · have h3 : (xs.length : Int) < 1 := by omega
      simp [startE, SZ, h3, codeB, h1]
  | _ => cases h
/-- is_code and the law's own, through _law_says -/
theorem says_code (v : PV) {L n : Nat} {i s c : Int} (h : cd L n v = true) (hn : n ≤ 60) (hL : L < 64) (hi : i ≤ 1000000000000) (hs : s ≤ 1000000000000) (hc : c ≤ 1000000000000) (T : Store) :
    ∃ b, callF D G (k + 5) 450 [v, .int i, .int s, .int c] T = .ok (.bl b) T ∧ callF D G (k + 5) 120 [v, .tup [.int i, .int s, .int c]] T = .ok (.bl b) T ∧ callF D G (k + 5) 61 [.bl b, .bl b] T = .ok (.bl true) T := by
  refine ⟨codeB i s c v, code_ok h hn hL hi hs hc T, lcode_ok (k := k + 1) h hn hL T, ?_⟩
  rw [says (k := k + 4) d61]
  simp
end MP.K10

set_option Elab.async false
set_option linter.all false
set_option maxRecDepth 100000
set_option maxHeartbeats 4000000
/-! k10: integers as texts -/
namespace MP.K10
open MP
variable {k : Nat}
theorem d0 : D 0 = some ⟨1, 3, false, t0⟩ := rfl
theorem d1 : D 1 = some ⟨1, 6, false, t1⟩ := rfl
theorem g3 : G 3 = some (.int 10000000000000000000000000000000000000000000000000000000000000000) := rfl
theorem g4 : G 4 = some (.str [48, 49, 50, 51, 52, 53, 54, 55, 56, 57]) := rfl
theorem dg_len30 {n : Nat} (h : n < 10 ^ 30) : (dg n).length ≤ 30 := dg_len_le 30 n (by decide) h
theorem log_lt {n : Nat} (h : n < 10 ^ 30) : n.log2 < 1920 := Nat.lt_trans (log2_lt_of (n := 128) (Nat.lt_trans h (by decide)) (by decide)) (by decide)
theorem wnat {n : Nat} (h : n < 10 ^ 30) (T : Store) : callF D G (k + 1) 0 [.int n] T = .ok (.str (dg n)) T := by
  rw [call_of d0 rfl]
  unfold t0
  have hneg : ¬ (n : Int) < 0 := by omega
  have hB : ¬ (10000000000000000000000000000000000000000000000000000000000000000 : Int) ≤ n := by
    have : (10 : Nat) ^ 30 < 10000000000000000000000000000000000000000000000000000000000000000 := by decide
    omega
  have hw : ∀ (b : Nv → Store → ResS) (S : Store), whileO (evT (callF D G k) G (.cmp .ge (.var 0) (.glob 3))) b [some (.int n), some (.ref T.length), none] S = .ok (.next [some (.int n), some (.ref T.length), none]) S := fun b S =>
    while_by 1 (by decide) fun m hm => by
      obtain ⟨m, rfl⟩ : ∃ j, m = j + 1 := ⟨m - 1, by omega⟩
      exact whileL_end (by simp [g3, hB])
  have hl := log_lt h
  have hlen := dg_len30 h
  have hz : (dg n).length ≤ 16777216 := by omega
  simp [startE, hneg, hw, SZ, hl, decText_nat, strsOf, joinT, hz]
theorem wint {i : Int} (h : i.natAbs < 10 ^ 30) (T : Store) : callF D G (k + 2) 0 [.int i] T = .ok (.str (decText i)) T := by
  by_cases hn : i < 0
  · obtain ⟨j, rfl⟩ : ∃ j : Nat, i = -((j + 1 : Nat) : Int) := ⟨i.natAbs - 1, by omega⟩
    rw [Int.natAbs_neg, Int.natAbs_natCast] at h
    rw [decText_neg, call_of d0 rfl]
    unfold t0
    have hw := wnat (k := k) h T
    have hlen := dg_len30 h
    have hz : (dg (j + 1)).length + 1 ≤ 16777216 := by omega
    generalize hj : j + 1 = m at *
    have e1 : (-(m : Int)) < 0 := by omega
    have hz2 : 1 + (dg m).length ≤ 16777216 := by omega
    have hm : 0 < m := by omega
    simp [startE, hm, hw, SZ, hz2]
  · obtain ⟨j, rfl⟩ : ∃ j : Nat, i = (j : Int) := ⟨i.natAbs, by omega⟩
    rw [Int.natAbs_natCast] at h
    rw [decText_nat]
    exact wnat (k := k + 1) h T
end MP.K10
namespace MP.K10
open MP
variable {k : Nat}
theorem str_to {w : Bool} {s : List Nat} {j : Nat} {lo : PV} {T : Store} (h : s.length ≤ SZ) : sliceOp w false true (.str s) lo (.int j) T = .ok (.str (s.take j)) T := by
  have e : clipI s.length s.length true (.int (j : Nat)) = some (min j s.length) := by
    show some (if (j : Int) < 0 then _ else min (j : Int).toNat s.length) = _
    rw [if_neg (by omega)]
    rfl
  show (match some 0, clipI s.length s.length true (.int (j : Nat)) with
    | some a, some b => if s.length ≤ SZ then Res.ok (PV.str (cut s a b)) T else .bad
    | _, _ => .bad) = _
  rw [e]
  show (if s.length ≤ SZ then Res.ok (PV.str ((s.drop 0).take (min j s.length - 0))) T else .bad) = _
  rw [if_pos h, List.drop_zero, Nat.sub_zero]
  congr 2
  rcases Nat.le_total j s.length with h | h
  · rw [Nat.min_eq_left h]
  · rw [Nat.min_eq_right h, List.take_length, List.take_of_length_le h]
theorem str_to1 {w : Bool} {s : List Nat} {lo : PV} {T : Store} (h : s.length ≤ SZ) : sliceOp w false true (.str s) lo (.int 1) T = .ok (.str (s.take 1)) T := str_to (j := 1) h
theorem str_from1 {w : Bool} {s : List Nat} {hi : PV} {T : Store} (h : s.length ≤ SZ) : sliceOp w true false (.str s) (.int 1) hi T = .ok (.str (s.drop 1)) T := by
  have e : clipI s.length 0 true (.int 1) = some (min 1 s.length) := rfl
  show (match clipI s.length 0 true (.int 1), some s.length with
    | some a, some b => if s.length ≤ SZ then Res.ok (PV.str (cut s a b)) T else .bad
    | _, _ => .bad) = _
  rw [e]
  show (if s.length ≤ SZ then Res.ok (PV.str ((s.drop (min 1 s.length)).take (s.length - min 1 s.length))) T else .bad) = _
  rw [if_pos h]
  congr 2
  rw [List.take_of_length_le (by rw [List.length_drop]; omega)]
  cases s with
  | nil => rfl
  | cons a r =>
    have : min 1 (a :: r).length = 1 := by rw [List.length_cons]; omega
    rw [this]
theorem loop_none {tg : Tgt} {lo c : Int} {b : Nv → Store → ResS} {σ : Nv} {T : Store} : loopO (some (.range lo c 0)) tg b σ T = .ok (.next σ) T :=
  loop_by 1 (by decide) fun n hn => by
    obtain ⟨n, rfl⟩ : ∃ j, n = j + 1 := ⟨n - 1, by omega⟩
    exact iterL_end rfl
/-- the digits are looked at -/
theorem look {s : List Nat} (hs : ∀ c ∈ s, 48 ≤ c ∧ c ≤ 57) (hz : s.length ≤ SZ) (t d : PV) (T : Store) : ∃ y, loopO (some (.items (s.map fun c => PV.str [c]))) (.nm 2) (exS (callF D G k) G (.seq (.ite (.cmp .notin (.var 2) (.glob 4)) (.seq (.raise 1) .skip) .skip) .skip)) [some t, some d, none, none, none, none] T = .ok (.next [some t, some d, y, none, none, none]) T := by
  refine loop_quiet (σ := [some t, some d, none, none, none, none]) (x := 2) (by rw [List.length_map]; exact hz) (fun v hv => ?_) none
  obtain ⟨c, hc, rfl⟩ := List.mem_map.mp hv
  have h := hs c hc
  have hin : c ∈ ([48, 49, 50, 51, 52, 53, 54, 55, 56, 57] : List Nat) := by
    simp only [List.mem_cons, List.not_mem_nil, or_false]
    omega
  have hd : decide (c ∈ ([48, 49, 50, 51, 52, 53, 54, 55, 56, 57] : List Nat)) = true := decide_eq_true hin
  simp [g4, hd, -List.mem_cons, -List.not_mem_nil]
theorem walk_eq {n : Nat} (h : n ≤ 64) (T : Store) : walkOf T .range [.int n, .int n, .int 64] = some (.range n 64 0) := by
  show (if 0 ≤ (n : Int) ∧ (n : Int) ≤ SZ ∧ 0 ≤ (n : Int) ∧ (n : Int) ≤ SZ ∧ 0 < (64 : Int) ∧ (64 : Int) < 1000 then some (Wk.range n 64 (if (n : Int) < n then ((n : Int) - n - 1) / 64 + 1 else 0).toNat) else none) = _
  rw [if_pos ⟨by omega, by show (n : Int) ≤ (16777216 : Nat); omega, by omega, by show (n : Int) ≤ (16777216 : Nat); omega, by decide, by decide⟩, if_neg (by omega)]
  rfl
theorem dg_cons (n : Nat) : ∃ c r, dg n = c :: r := by
  have := dg_pos n
  cases e : dg n with
  | nil => rw [e] at this; simp at this
  | cons c r => exact ⟨c, r, rfl⟩
theorem dg_all (n : Nat) : (dg n).all isDig = true := by
  rw [List.all_eq_true]
  intro c hc
  have := dg_digit n c hc
  unfold isDig
  simp [this.1, this.2]
theorem rzero (T : Store) : callF D G (k + 1) 1 [.str [48]] T = .ok (.int 0) T := by
  rw [call_of d1 rfl]
  unfold t1
  obtain ⟨y, hl⟩ := look (k := k) (s := [48]) (by decide) (by decide) (.str [48]) (.str [48]) T
  have hw := walk_eq (n := 1) (by decide) T
  have h1 : sliceOp false false true (.str [48]) .non (.int 1) T = .ok (.str [48]) T := str_to1 (by decide)
  have hn : normI 1 0 = some 0 := rfl
  have hd : digitsVal [48] = 0 := rfl
  have hi : isDig 48 = true := rfl
  simp only [List.map_cons, List.map_nil, Int.natCast_one] at hl hw
  simp [startE, SZ, h1, hn, hl, hw, loop_none, hd, hi]
theorem rnat {n : Nat} (h : n < 10 ^ 30) (T : Store) : callF D G (k + 1) 1 [.str (dg n)] T = .ok (.int n) T := by
  by_cases hn0 : n = 0
  · subst hn0
    exact rzero T
  rw [call_of d1 rfl]
  unfold t1
  have hlen := dg_len30 h
  have hpos := dg_pos n
  have hz : (dg n).length ≤ SZ := by show _ ≤ 16777216; omega
  have hz' : (dg n).length ≤ 16777216 := hz
  obtain ⟨y, hl⟩ := look (k := k) (dg_digit n) hz (.str (dg n)) (.str (dg n)) T
  have hall := dg_all n
  have hv := dv_dg n
  have hne : dg n ≠ [] := fun e => by rw [e] at hpos; simp at hpos
  have hm : ((dg n).length : Int) % 64 = (dg n).length := by omega
  have hw := walk_eq (n := (dg n).length) (by omega) T
  have htk := str_to (w := false) (lo := .non) (T := T) (j := (dg n).length) hz
  rw [List.take_length] at htk
  have h640 : (dg n).length ≤ 640 := by omega
  have hnor : normI (dg n).length 0 = some 0 := by
    unfold normI
    rw [if_pos (by omega), if_pos (by omega)]
    rfl
  have hhead : ∃ c, (dg n)[0]? = some c ∧ (dg n).take 1 = [c] ∧ c ≠ 45 ∧ (c = 48 → dg n = [48]) := by
    obtain ⟨c, r, e⟩ := dg_cons n
    have hd := dg_digit n c (by rw [e]; simp)
    refine ⟨c, by rw [e]; rfl, by rw [e]; rfl, by omega, fun hc => ?_⟩
    by_cases h0 : n = 0
    · subst h0; rfl
    · have := dg_head n (by omega)
      rw [e, hc] at this
      exact absurd rfl this
  obtain ⟨c, h0, ht1, hc45, hc48⟩ := hhead
  have hst1 := str_to1 (w := false) (lo := .non) (T := T) hz
  rw [ht1] at hst1
  have hpi : (0 : Int) < (dg n).length := by omega
  generalize hs : dg n = s at *
  have h48 : c ≠ 48 := fun e => by
    have := hc48 e
    rw [this] at hv
    have h0 : n = 0 := hv.symm
    exact hn0 h0
  have hs0 : s[0]'hpos = c := by
    rw [List.getElem?_eq_getElem hpos] at h0
    exact Option.some.inj h0
  simp [startE, SZ, hst1, hnor, hs0, hl, hm, htk, hall, hv, hw, loop_none, hz', h640, hne, hc45, h48, hpos]
end MP.K10
namespace MP.K10
open MP
variable {k : Nat}
theorem rneg {n : Nat} (h : n < 10 ^ 30) (hn0 : n ≠ 0) (T : Store) : callF D G (k + 1) 1 [.str (45 :: dg n)] T = .ok (.int (-(n : Int))) T := by
  rw [call_of d1 rfl]
  unfold t1
  have hlen := dg_len30 h
  have hpos := dg_pos n
  have hz : (dg n).length ≤ SZ := by show _ ≤ 16777216; omega
  have hz' : (dg n).length ≤ 16777216 := hz
  have hz2 : (dg n).length + 1 ≤ 16777216 := by omega
  have hz3 : (45 :: dg n).length ≤ SZ := hz2
  obtain ⟨y, hl⟩ := look (k := k) (dg_digit n) hz (.str (45 :: dg n)) (.str (dg n)) T
  have hall := dg_all n
  have hv := dv_dg n
  have hne : dg n ≠ [] := fun e => by rw [e] at hpos; simp at hpos
  have hm : ((dg n).length : Int) % 64 = (dg n).length := by omega
  have hw := walk_eq (n := (dg n).length) (by omega) T
  have htk := str_to (w := false) (lo := .non) (T := T) (j := (dg n).length) hz
  rw [List.take_length] at htk
  have h640 : (dg n).length ≤ 640 := by omega
  have hnor : normI (dg n).length 0 = some 0 := by
    unfold normI
    rw [if_pos (by omega), if_pos (by omega)]
    rfl
  have hnor2 : normI ((dg n).length + 1) 0 = some 0 := by
    unfold normI
    rw [if_pos (by omega), if_pos (by omega)]
    rfl
  have hhead : ∃ c, (dg n)[0]? = some c ∧ c ≠ 48 := by
    obtain ⟨c, r, e⟩ := dg_cons n
    refine ⟨c, by rw [e]; rfl, fun hc => ?_⟩
    have := dg_head n (by omega)
    rw [e, hc] at this
    exact absurd rfl this
  obtain ⟨c, h0, hc48⟩ := hhead
  have hst1 := str_to1 (w := false) (lo := .non) (T := T) hz3
  have hst2 := str_from1 (w := false) (hi := .non) (T := T) hz3
  rw [List.drop_one, List.tail_cons] at hst2
  have ht1 : (45 :: dg n).take 1 = [45] := rfl
  rw [ht1] at hst1
  generalize hs : dg n = s at *
  have hs0 : s[0]'hpos = c := by
    rw [List.getElem?_eq_getElem hpos] at h0
    exact Option.some.inj h0
  simp [startE, SZ, hst1, hst2, hnor, hnor2, hs0, hl, hm, htk, hall, hv, hw, loop_none, hz', hz2, h640, hne, hc48, hpos]
theorem rint {i : Int} (h : i.natAbs < 10 ^ 30) (T : Store) : callF D G (k + 1) 1 [.str (decText i)] T = .ok (.int i) T := by
  by_cases hn : i < 0
  · obtain ⟨j, rfl⟩ : ∃ j : Nat, i = -((j + 1 : Nat) : Int) := ⟨i.natAbs - 1, by omega⟩
    rw [Int.natAbs_neg, Int.natAbs_natCast] at h
    rw [decText_neg]
    exact rneg h (by omega) T
  · obtain ⟨j, rfl⟩ : ∃ j : Nat, i = (j : Int) := ⟨i.natAbs, by omega⟩
    rw [Int.natAbs_natCast] at h
    rw [decText_nat]
    exact rnat h T
end MP.K10

set_option Elab.async false
set_option linter.all false
set_option maxRecDepth 100000
set_option maxHeartbeats 4000000
/-! k10: rows as texts -/
namespace MP.K10
open MP
variable {k : Nat}
inductive Row where
  | one (w : List Nat) (ns : List Int)
  | call (f : Int) (ns : List Int)
def callW : List Nat := [99, 97, 108, 108]
def Row.pv : Row → PV
  | .one w ns => .tup (.str w :: ns.map .int)
  | .call f ns => .tup [.str callW, .int f, .tup (ns.map .int)]
def Row.word : Row → List Nat
  | .one w _ => w
  | .call _ _ => callW
def Row.nums : Row → List Int
  | .one _ ns => ns
  | .call f ns => f :: ns
def Row.txt (r : Row) : List Nat := joinT [32] (r.word :: r.nums.map decText)
/-- rows that are written -/
def Row.Ok : Row → Prop
  | .one w ns => w ∈ W18 ∧ w ≠ callW ∧ ns.length ≤ 1 ∧ ∀ n ∈ ns, n.natAbs < 10 ^ 30
  | .call f ns => f.natAbs < 10 ^ 30 ∧ ns.length ≤ 30 ∧ ∀ n ∈ ns, n.natAbs < 10 ^ 30
theorem d451 : D 451 = some ⟨1, 4, false, t451⟩ := rfl
theorem d452 : D 452 = some ⟨1, 3, false, t452⟩ := rfl
theorem d457 : D 457 = some ⟨1, 4, false, t457⟩ := rfl
theorem g20 : G 20 = some (.str [99, 97, 108, 108]) := rfl
theorem dec_len {i : Int} (h : i.natAbs < 10 ^ 30) : (decText i).length ≤ 31 := by
  by_cases hn : i < 0
  · obtain ⟨j, rfl⟩ : ∃ j : Nat, i = -((j + 1 : Nat) : Int) := ⟨i.natAbs - 1, by omega⟩
    rw [Int.natAbs_neg, Int.natAbs_natCast] at h
    rw [decText_neg, List.length_cons]
    have := dg_len30 h
    omega
  · obtain ⟨j, rfl⟩ : ∃ j : Nat, i = (j : Int) := ⟨i.natAbs, by omega⟩
    rw [Int.natAbs_natCast] at h
    rw [decText_nat]
    have := dg_len30 h
    omega
theorem log_int {i : Int} (h : i.natAbs < 10 ^ 30) : i.natAbs.log2 < 1920 := log_lt h
/-- all written -/
theorem wcomp {x : Nat} {σ : Nv} {ns : List Int} (hs : ∀ n ∈ ns, n.natAbs < 10 ^ 30) (hl : ns.length ≤ 100) (T : Store) (hv : ∀ n : Int, ev (callF D G (k + 2)) G (.call 0 (.cons (.var x) .nil)) (σ.set x (some (.int n))) T = callF D G (k + 2) 0 [.int n] T) :
    compO true (some (.items (ns.map .int))) (.nm x) (evT (callF D G (k + 2)) G (.lit (.bl true))) (ev (callF D G (k + 2)) G (.call 0 (.cons (.var x) .nil))) σ T = .ok ((ns.map decText).map .str) T := by
  have := compO_items (x := true) (tg := .nm x) (T := T) (c := evT (callF D G (k + 2)) G (.lit (.bl true))) (e := ev (callF D G (k + 2)) G (.call 0 (.cons (.var x) .nil))) (σ := σ) (xs := ns.map .int) (fun _ => true) (fun v => match v with | .int n => .str (decText n) | _ => .non) (by rw [List.length_map]; show _ ≤ 16777216; omega) (fun v hv' => by
    obtain ⟨n, hn, rfl⟩ := List.mem_map.mp hv'
    exact ⟨_, rfl, by simp, fun _ => by rw [hv, wint (hs n hn)]⟩)
  rw [this, List.filter_eq_self.mpr fun _ _ => rfl, List.map_map, List.map_map]
  rfl
/-- all as str tells them -/
theorem scomp {x : Nat} {σ : Nv} {ns : List Int} (hs : ∀ n ∈ ns, n.natAbs < 10 ^ 30) (hl : ns.length ≤ 100) (T : Store) (hv : ∀ n : Int, ev (callF D G k) G (.prim false .str (.cons (.var x) .nil)) (σ.set x (some (.int n))) T = primOp false .str [.int n] T) :
    compO true (some (.items (ns.map .int))) (.nm x) (evT (callF D G k) G (.lit (.bl true))) (ev (callF D G k) G (.prim false .str (.cons (.var x) .nil))) σ T = .ok ((ns.map decText).map .str) T := by
  have := compO_items (x := true) (tg := .nm x) (T := T) (c := evT (callF D G k) G (.lit (.bl true))) (e := ev (callF D G k) G (.prim false .str (.cons (.var x) .nil))) (σ := σ) (xs := ns.map .int) (fun _ => true) (fun v => match v with | .int n => .str (decText n) | _ => .non) (by rw [List.length_map]; show _ ≤ 16777216; omega) (fun v hv' => by
    obtain ⟨n, hn, rfl⟩ := List.mem_map.mp hv'
    exact ⟨_, rfl, by simp, fun _ => by rw [hv, p_str, if_pos (log_int (hs n hn))]⟩)
  rw [this, List.filter_eq_self.mpr fun _ _ => rfl, List.map_map, List.map_map]
  rfl
theorem sum_le {ns : List Int} (hs : ∀ n ∈ ns, n.natAbs < 10 ^ 30) : ((ns.map decText).map (·.length)).sum ≤ 31 * ns.length := by
  induction ns with
  | nil => simp
  | cons n ns ih =>
    have h1 := dec_len (hs n List.mem_cons_self)
    have h2 := ih fun m hm => hs m (List.mem_cons_of_mem _ hm)
    simp only [List.map_cons, List.sum_cons, List.length_cons]
    omega
theorem w18_len {w : List Nat} (h : w ∈ W18) : w.length ≤ 6 := by
  have : (W18.all fun w => decide (w.length ≤ 6)) = true := by decide
  exact of_decide_eq_true (List.all_eq_true.mp this w h)
theorem row_text {r : Row} (h : r.Ok) (T : Store) : callF D G (k + 3) 451 [r.pv] T = .ok (.str r.txt) T := by
  rw [call_of d451 rfl]
  unfold t451
  cases r with
  | one w ns =>
    obtain ⟨h1, h2, h3, h4⟩ := h
    have hw := w18_len h1
    have hc : ¬ w = [99, 97, 108, 108] := h2
    have key := wcomp (k := k) (x := 3) (σ := [some (.tup (.str w :: ns.map .int)), none, none, none]) h4 (by omega) T (fun n => by simp)
    have hsl : sliceOp false true false (.tup (.str w :: ns.map .int)) (.int 1) .non T = .ok (.tup (ns.map .int)) T := slice_from (j := 1)
    have hsum := sum_le h4
    have hst := strs_map (w :: ns.map decText)
    rw [List.map_cons] at hst
    have hz : (ns.length + 1) ≤ 16777216 := by omega
    have hz0 : 1 + ns.length ≤ 16777216 := by omega
    have hz2 : w.length + ((ns.map decText).map (fun x => x.length)).sum + (ns.length + 1) ≤ 16777216 := by omega
    simp only [Row.pv, Row.txt, Row.word, Row.nums]
    simp [startE, wipeE, hc, g20, norm0, hsl, key, hst, SZ, hz0, hz2, -List.map_map]
  | call f ns =>
    obtain ⟨h1, h3, h4⟩ := h
    have key := wcomp (k := k) (x := 2) (σ := [some (.tup [.str [99, 97, 108, 108], .int f, .tup (ns.map .int)]), none, none, none]) h4 (by omega) T (fun n => by simp)
    have hsum := sum_le h4
    have hf := wint (k := k) h1 T
    have hfl := dec_len h1
    have hst := strs_map ([99, 97, 108, 108] :: decText f :: ns.map decText)
    rw [List.map_cons, List.map_cons] at hst
    have hz0 : 2 + ns.length ≤ 16777216 := by omega
    have hz2 : 4 + ((decText f).length + ((ns.map decText).map (fun x => x.length)).sum) + (ns.length + 1 + 1) ≤ 16777216 := by omega
    simp only [Row.pv, Row.txt, Row.word, Row.nums, callW]
    simp [startE, wipeE, g20, norm0, norm_3_1, norm_3_2, hf, key, hst, SZ, hz0, hz2, -List.map_map]
/-- the law's own -/
theorem lrow_text {r : Row} (h : r.Ok) (T : Store) : callF D G (k + 1) 457 [r.pv] T = .ok (.str r.txt) T := by
  rw [call_of d457 rfl]
  unfold t457
  cases r with
  | one w ns =>
    obtain ⟨h1, h2, h3, h4⟩ := h
    have hw := w18_len h1
    have hc : ¬ w = [99, 97, 108, 108] := h2
    have key := scomp (k := k) (x := 3) (σ := [some (.tup (.str w :: ns.map .int)), some (.vl (ns.map .int)), none, none]) h4 (by omega) T (fun n => by simp)
    have hsl : sliceOp false true false (.tup (.str w :: ns.map .int)) (.int 1) .non T = .ok (.tup (ns.map .int)) T := slice_from (j := 1)
    have hsum := sum_le h4
    have hst := strs_map (w :: ns.map decText)
    rw [List.map_cons] at hst
    have hz0 : 1 + ns.length ≤ 16777216 := by omega
    have hz2 : w.length + ((ns.map decText).map (fun x => x.length)).sum + (ns.length + 1) ≤ 16777216 := by omega
    simp only [Row.pv, Row.txt, Row.word, Row.nums]
    simp [startE, wipeE, hc, norm0, hsl, key, hst, SZ, hz0, hz2, -List.map_map]
  | call f ns =>
    obtain ⟨h1, h3, h4⟩ := h
    have key := scomp (k := k) (x := 3) (ns := f :: ns) (σ := [some (.tup [.str [99, 97, 108, 108], .int f, .tup (ns.map .int)]), some (.vl (.int f :: ns.map .int)), none, none]) (fun n hn => by
      rcases List.mem_cons.mp hn with e | e
      · rw [e]; exact h1
      · exact h4 n e) (by rw [List.length_cons]; omega) T (fun n => by simp)
    rw [List.map_cons] at key
    have hsl : sliceOp false true false (.tup [.str [99, 97, 108, 108], .int f, .tup (ns.map .int)]) (.int 1) .non T = .ok (.tup [.int f, .tup (ns.map .int)]) T := slice_from (j := 1)
    have hsum := sum_le h4
    have hfl := dec_len h1
    have hst := strs_map ([99, 97, 108, 108] :: (f :: ns).map decText)
    rw [List.map_cons] at hst
    have hz0 : 1 + ns.length ≤ 16777216 := by omega
    have hz1 : 1 + (ns.length + 1) ≤ 16777216 := by omega
    have hz2 : 4 + ((decText f).length + ((ns.map decText).map (fun x => x.length)).sum) + (ns.length + 1 + 1) ≤ 16777216 := by omega
    simp only [Row.pv, Row.txt, Row.word, Row.nums, callW]
    simp only [List.map_cons] at hst key
    simp [startE, wipeE, norm0, norm_3_1, norm_3_2, hsl, key, hst, SZ, hz0, hz1, hz2, -List.map_map]
end MP.K10

set_option Elab.async false
set_option linter.all false
set_option maxRecDepth 100000
set_option maxHeartbeats 4000000
/-! k10: rows and codes read -/
namespace MP.K10
open MP
variable {k : Nat}
theorem splitC_cons (c x : Nat) (l : List Nat) : splitC c (x :: l) = if x = c then [] :: splitC c l else match splitC c l with | [] => [[x]] | y :: ys => (x :: y) :: ys := rfl
theorem splitC_one {c : Nat} : ∀ {p : List Nat}, c ∉ p → splitC c p = [p]
  | [], _ => rfl
  | x :: p, h => by
    rw [splitC_cons, if_neg (fun e => h (by rw [e]; exact List.mem_cons_self)), splitC_one fun z => h (List.mem_cons_of_mem _ z)]
theorem splitC_app {c : Nat} : ∀ {p : List Nat} (r : List Nat), c ∉ p → splitC c (p ++ c :: r) = p :: splitC c r
  | [], r, _ => by
    show splitC c (c :: r) = _
    rw [splitC_cons, if_pos rfl]
  | x :: p, r, h => by
    show splitC c (x :: (p ++ c :: r)) = _
    rw [splitC_cons, if_neg (fun e => h (by rw [e]; exact List.mem_cons_self)), splitC_app r fun z => h (List.mem_cons_of_mem _ z)]
theorem split_join {c : Nat} : ∀ {ps : List (List Nat)}, ps ≠ [] → (∀ p ∈ ps, c ∉ p) → splitC c (joinT [c] ps) = ps
  | [], h, _ => absurd rfl h
  | [p], _, h => splitC_one (h p List.mem_cons_self)
  | p :: q :: r, _, h => by
    show splitC c (p ++ [c] ++ joinT [c] (q :: r)) = _
    rw [List.append_assoc, List.singleton_append, splitC_app _ (h p List.mem_cons_self), split_join (by simp) fun z hz => h z (List.mem_cons_of_mem _ hz)]
theorem dec_chars (i : Int) : ∀ c ∈ decText i, c = 45 ∨ 48 ≤ c ∧ c ≤ 57 := fun c hc => by
  by_cases hn : i < 0
  · obtain ⟨j, rfl⟩ : ∃ j : Nat, i = -((j + 1 : Nat) : Int) := ⟨i.natAbs - 1, by omega⟩
    rw [decText_neg] at hc
    rcases List.mem_cons.mp hc with e | e
    · exact .inl e
    · exact .inr (dg_digit _ c e)
  · obtain ⟨j, rfl⟩ : ∃ j : Nat, i = (j : Int) := ⟨i.natAbs, by omega⟩
    rw [decText_nat] at hc
    exact .inr (dg_digit _ c hc)
theorem w18_chars {w : List Nat} (h : w ∈ W18) : ∀ c ∈ w, 97 ≤ c := by
  have : (W18.all fun w => w.all fun c => decide (97 ≤ c)) = true := by decide
  exact fun c hc => of_decide_eq_true (List.all_eq_true.mp (List.all_eq_true.mp this w h) c hc)
theorem call_w18 : callW ∈ W18 := by decide
theorem word_w18 {r : Row} (h : r.Ok) : r.word ∈ W18 := by
  cases r with
  | one w ns => exact h.1
  | call f ns => exact call_w18
theorem nums_ok {r : Row} (h : r.Ok) : ∀ n ∈ r.nums, n.natAbs < 10 ^ 30 := by
  cases r with
  | one w ns => exact h.2.2.2
  | call f ns => exact fun n hn => (List.mem_cons.mp hn).elim (fun e => e ▸ h.1) (h.2.2 n)
theorem nums_len {r : Row} (h : r.Ok) : r.nums.length ≤ 31 := by
  cases r with
  | one w ns => have := h.2.2.1; show ns.length ≤ 31; omega
  | call f ns => have := h.2.1; show ns.length + 1 ≤ 31; omega
theorem txt_chars {r : Row} (h : r.Ok) (s : Nat) (hs : s < 45) : ∀ p ∈ r.word :: r.nums.map decText, s ∉ p := fun p hp hc => by
  rcases List.mem_cons.mp hp with e | e
  · rw [e] at hc
    have := w18_chars (word_w18 h) s hc
    omega
  · obtain ⟨n, _, rfl⟩ := List.mem_map.mp e
    have := dec_chars n s hc
    omega
theorem txt_split {r : Row} (h : r.Ok) : splitC 32 r.txt = r.word :: r.nums.map decText := split_join (by simp) (txt_chars h 32 (by decide))
theorem join_mem {s c : Nat} : ∀ {ps : List (List Nat)}, c ∈ joinT [s] ps → c = s ∨ ∃ p ∈ ps, c ∈ p
  | [], h => by cases h
  | [p], h => .inr ⟨p, List.mem_cons_self, h⟩
  | p :: q :: r, h => by
    have h : c ∈ p ++ [s] ++ joinT [s] (q :: r) := h
    rw [List.mem_append, List.mem_append] at h
    rcases h with (h | h) | h
    · exact .inr ⟨p, List.mem_cons_self, h⟩
    · exact .inl (by simpa using h)
    · rcases join_mem h with e | ⟨z, hz, hc⟩
      · exact .inl e
      · exact .inr ⟨z, List.mem_cons_of_mem _ hz, hc⟩
theorem txt_nl {r : Row} (h : r.Ok) : 10 ∉ r.txt := fun hc => by
  rcases join_mem hc with e | ⟨p, hp, hc⟩
  · omega
  · exact txt_chars h 10 (by decide) p hp hc
theorem join_len (s : Nat) : ∀ ps : List (List Nat), (joinT [s] ps).length ≤ (ps.map (fun x => x.length)).sum + ps.length
  | [] => by simp [joinT]
  | [p] => by simp [joinT]
  | p :: q :: r => by
    show (p ++ [s] ++ joinT [s] (q :: r)).length ≤ _
    have := join_len s (q :: r)
    generalize joinT [s] (q :: r) = J at this ⊢
    have e1 : (p ++ [s] ++ J).length = p.length + 1 + J.length := by simp only [List.length_append, List.length_singleton]
    have e2 : ((p :: q :: r).map (fun x => x.length)).sum = p.length + ((q :: r).map (fun x => x.length)).sum := by simp
    have e3 : (p :: q :: r).length = (q :: r).length + 1 := rfl
    rw [e1, e2, e3]
    omega
theorem txt_len {r : Row} (h : r.Ok) : r.txt.length ≤ 3000 := by
  have h1 := join_len 32 (r.word :: r.nums.map decText)
  have h2 := w18_len (word_w18 h)
  have h3 := sum_le (nums_ok h)
  have h4 := nums_len h
  simp only [List.map_cons, List.sum_cons, List.length_cons, List.length_map] at h1
  show (joinT [32] (r.word :: r.nums.map decText)).length ≤ 3000
  omega
/-! ### a code's text -/
def codeTxt (rs : List Row) : List Nat := (rs.map fun r => r.txt ++ [10]).flatten
theorem split_code : ∀ {rs : List Row}, (∀ r ∈ rs, r.Ok) → splitC 10 (codeTxt rs) = rs.map Row.txt ++ [[]]
  | [], _ => rfl
  | r :: rs, h => by
    have e : codeTxt (r :: rs) = r.txt ++ 10 :: codeTxt rs := by
      unfold codeTxt
      rw [List.map_cons, List.flatten_cons, List.append_assoc]
      rfl
    rw [e, splitC_app _ (txt_nl (h r List.mem_cons_self)), split_code fun z hz => h z (List.mem_cons_of_mem _ hz)]
    rfl
theorem code_len {rs : List Row} (h : ∀ r ∈ rs, r.Ok) : (codeTxt rs).length ≤ 3001 * rs.length := by
  induction rs with
  | nil => simp [codeTxt]
  | cons r rs ih =>
    have e : codeTxt (r :: rs) = r.txt ++ 10 :: codeTxt rs := by
      unfold codeTxt
      rw [List.map_cons, List.flatten_cons, List.append_assoc]
      rfl
    have h1 := txt_len (h r List.mem_cons_self)
    have h2 := ih fun z hz => h z (List.mem_cons_of_mem _ hz)
    rw [e, List.length_append, List.length_cons, List.length_cons]
    omega
theorem joinT_nil : ∀ ss : List (List Nat), joinT [] ss = ss.flatten
  | [] => rfl
  | [x] => by simp [joinT]
  | x :: y :: r => by
    show x ++ [] ++ joinT [] (y :: r) = _
    rw [joinT_nil (y :: r)]
    simp
theorem write_code {rs : List Row} (h : ∀ r ∈ rs, r.Ok) (hl : rs.length ≤ 400) (T : Store) : callF D G (k + 4) 452 [.tup (rs.map Row.pv)] T = .ok (.str (codeTxt rs)) T := by
  rw [call_of d452 rfl]
  unfold t452
  have key : compO true (some (.items (rs.map Row.pv))) (.nm 2) (evT (callF D G (k + 3)) G (.lit (.bl true))) (ev (callF D G (k + 3)) G (.bin false .add (.call 451 (.cons (.var 2) .nil)) (.lit (.str [10])))) [some (.tup (rs.map Row.pv)), none, none] T
      = .ok ((rs.map fun r => r.txt ++ [10]).map .str) T := by
    have := compO_map (x := true) (tg := .nm 2) (T := T) (c := evT (callF D G (k + 3)) G (.lit (.bl true))) (e := ev (callF D G (k + 3)) G (.bin false .add (.call 451 (.cons (.var 2) .nil)) (.lit (.str [10])))) (σ := [some (.tup (rs.map Row.pv)), none, none]) (l := rs) (g := Row.pv) (f := fun r => .str (r.txt ++ [10])) (by show _ ≤ 16777216; omega) (fun r hr => by
      refine ⟨_, rfl, by simp, ?_⟩
      have ht := row_text (k := k) (h r hr) T
      have hl := txt_len (h r hr)
      have hz : r.txt.length + 1 ≤ 16777216 := by omega
      cases r <;> (simp only [Row.pv] at ht ⊢; simp [ht, SZ, hz]))
    rw [this, List.map_map]
    rfl
  have hst := strs_map (rs.map fun r => r.txt ++ [10])
  have hlen := code_len h
  have hsum : ((rs.map fun r => r.txt ++ [10]).map (fun x => x.length)).sum ≤ 16777216 := by
    rw [← List.length_flatten]
    show (codeTxt rs).length ≤ _
    omega
  have hj : joinT [] (rs.map fun r => r.txt ++ [10]) = codeTxt rs := joinT_nil _
  generalize (rs.map fun r => r.txt ++ [10]) = ss at *
  simp [startE, wipeE, key, hst, SZ, hsum, hj]
end MP.K10

set_option Elab.async false
set_option linter.all false
set_option maxRecDepth 100000
set_option maxHeartbeats 4000000
/-! k10: rows and codes read -/
namespace MP.K10
open MP
variable {k : Nat}
theorem d313 : D 313 = some ⟨1, 6, false, t313⟩ := rfl
theorem d453 : D 453 = some ⟨1, 3, false, t453⟩ := rfl
def k18 : List (List Nat) := [[105, 110, 116, 101, 103, 101, 114], [108, 111, 99, 97, 108], [108, 111, 99, 97, 108], [], [], [105, 110, 116, 101, 103, 101, 114], [100, 105, 118, 105, 115, 111, 114], [100, 105, 118, 105, 115, 111, 114], [115, 108, 111, 116], [115, 108, 111, 116], [115, 108, 111, 116], [115, 108, 111, 116], [112, 108, 97, 99, 101], [112, 108, 97, 99, 101], [112, 108, 97, 99, 101], [99, 97, 108, 108], [], []]
theorem g23 : G 23 = some (.vd (W18.map .s) (k18.map .str)) := rfl
/-- how many numbers a word wants -/
def argsOf (w : List Nat) : Nat := if w = [97, 100, 100] ∨ w = [115, 117, 98] ∨ w = [108, 111, 111, 112] ∨ w = [116, 101, 108, 108] then 0 else 1
theorem slice_vl1 {w : Bool} {x : PV} {xs : List PV} {hi : PV} {T : Store} : sliceOp w true false (.vl (x :: xs)) (.int 1) hi T = newL w xs T := by
  have e : clipI (x :: xs).length 0 true (.int 1) = some 1 := by
    show some (if (1 : Int) < 0 then _ else min 1 (x :: xs).length) = _
    rw [if_neg (by decide), List.length_cons]
    congr 1
  show (match clipI (x :: xs).length 0 true (.int 1), some (x :: xs).length with
    | some a, some b => newL w (cut (x :: xs) a b) T
    | _, _ => .bad) = _
  rw [e]
  show newL w (((x :: xs).drop 1).take ((x :: xs).length - 1)) T = _
  rw [List.drop_one, List.tail_cons, List.length_cons, Nat.add_sub_cancel, List.take_length]
theorem rcomp {x : Nat} {σ : Nv} {ns : List Int} (hs : ∀ n ∈ ns, n.natAbs < 10 ^ 30) (hl : ns.length ≤ 100) (T : Store) (hv : ∀ s : List Nat, ev (callF D G (k + 1)) G (.call 1 (.cons (.var x) .nil)) (σ.set x (some (.str s))) T = callF D G (k + 1) 1 [.str s] T) :
    compO true (some (.items ((ns.map decText).map .str))) (.nm x) (evT (callF D G (k + 1)) G (.lit (.bl true))) (ev (callF D G (k + 1)) G (.call 1 (.cons (.var x) .nil))) σ T = .ok (ns.map .int) T := by
  rw [List.map_map]
  exact compO_map (l := ns) (g := PV.str ∘ decText) (f := PV.int) (by show _ ≤ 16777216; omega) fun n hn => ⟨_, rfl, by simp, by
    show ev (callF D G (k + 1)) G (.call 1 (.cons (.var x) .nil)) (σ.set x (some (.str (decText n)))) T = _
    rw [hv, rint (hs n hn)]⟩
/-- a good row's numbers are as many as its word wants -/
def Row.Fit : Row → Prop
  | .one w ns => ns.length = argsOf w
  | .call _ _ => True
theorem plain_ints (n : Nat) : ∀ ns : List Int, plainDs n (ns.map .int) = true
  | [] => by simp [plainDs]
  | i :: ns => by
    rw [List.map_cons]
    unfold plainDs
    rw [plain_ints n ns]
    unfold plainD
    rfl
theorem ints_eq_nil (ns : List Int) (T : Store) : cmpOp .eq (.vl (ns.map .int)) (.vl []) T = some ns.isEmpty := by
  have h1 : plainD 60 (.vl (ns.map .int)) = true := by
    unfold plainD
    exact plain_ints 59 ns
  have h2 : plainD 60 (.vl []) = true := rfl
  show (if flat (.vl (ns.map .int)) && flat (.vl []) then some (peq (.vl (ns.map .int)) (.vl [])) else if plainD 60 (.vl (ns.map .int)) && plainD 60 (.vl []) then some (peq (.vl (ns.map .int)) (.vl [])) else none) = _
  have e1 : (flat (.vl (ns.map .int)) && flat (.vl [])) = false := rfl
  have e2 : (plainD 60 (.vl (ns.map .int)) && plainD 60 (.vl [])) = true := by rw [h1, h2]; rfl
  rw [e1, e2, if_neg Bool.false_ne_true, if_pos rfl]
  cases ns <;> rfl
set_option maxHeartbeats 40000000 in
theorem read_row {r : Row} (h : r.Ok) (hf : r.Fit) (T : Store) : callF D G (k + 2) 313 [.str r.txt] T = .ok r.pv T := by
  rw [call_of d313 rfl]
  unfold t313
  have hsp := txt_split h
  have hl := txt_len h
  have hz : r.txt.length + 2 ≤ 16777216 := by omega
  generalize r.txt = t at hsp hz hl
  cases r with
  | call f ns =>
    obtain ⟨h1, h3, h4⟩ := h
    have key := rcomp (k := k) (x := 5) (ns := f :: ns) (σ := [some (.str t), some (.vl (.str [99, 97, 108, 108] :: ((f :: ns).map decText).map .str)), some (.str [99, 97, 108, 108]), none, none, none]) (fun n hn => by
      rcases List.mem_cons.mp hn with e | e
      · rw [e]; exact h1
      · exact h4 n e) (by rw [List.length_cons]; omega) T (fun n => by simp)
    have hk : kGet (W18.map .s) (k18.map .str) (.s [99, 97, 108, 108]) = some (.str [99, 97, 108, 108]) := rfl
    have hsl := fun (xs : List PV) (hi : PV) => slice_vl1 (w := false) (x := .str [99, 97, 108, 108]) (xs := xs) (hi := hi) (T := T)
    have hsl2 := fun (xs : List PV) (hi : PV) => slice_vl1 (w := false) (x := .int f) (xs := xs) (hi := hi) (T := T)
    simp only [Row.word, Row.nums, callW, Row.pv] at hsp ⊢
    simp only [List.map_cons] at key hsp
    have hne : cmpOp .eq (.vl (.int f :: ns.map .int)) (.vl []) T = some false := ints_eq_nil (f :: ns) T
    simp [startE, wipeE, hsp, SZ, hz, norm0, g23, hk, g20, hsl, hsl2, key, hne, -List.map_map]
  | one w ns =>
    obtain ⟨h1, h2, h3, h4⟩ := h
    have hf : ns.length = argsOf w := hf
    have key := fun kd => rcomp (k := k) (x := 5) (ns := ns) (σ := [some (.str t), some (.vl (.str w :: (ns.map decText).map .str)), some (.str kd), none, none, none]) h4 (by omega) T (fun n => by simp)
    have hsl := fun (xs : List PV) (hi : PV) => slice_vl1 (w := false) (x := .str w) (xs := xs) (hi := hi) (T := T)
    have hz0 : 1 + ns.length ≤ 16777216 := by omega
    simp only [Row.word, Row.nums, Row.pv] at hsp ⊢
    have hk : ∀ v : List Nat, kGet (W18.map .s) (k18.map .str) (.s w) = some (.str v) → kGet (W18.map .s) (k18.map .str) (.s w) = some (.str v) := fun _ h => h
    simp only [W18, List.mem_cons, List.not_mem_nil, or_false] at h1
    rcases h1 with rfl | rfl | rfl | rfl | rfl | rfl | rfl | rfl | rfl | rfl | rfl | rfl | rfl | rfl | rfl | rfl | rfl | rfl
    all_goals first
      | exact absurd rfl h2
      | replace hk := hk [105, 110, 116, 101, 103, 101, 114] rfl
      | replace hk := hk [108, 111, 99, 97, 108] rfl
      | replace hk := hk [] rfl
      | replace hk := hk [100, 105, 118, 105, 115, 111, 114] rfl
      | replace hk := hk [115, 108, 111, 116] rfl
      | replace hk := hk [112, 108, 97, 99, 101] rfl
    all_goals simp [argsOf] at hf
    all_goals first
      | (subst hf; simp only [List.map_nil] at key)
      | skip
    all_goals simp [startE, wipeE, hsp, SZ, hz, norm0, g23, hk, hsl, key, hf, hz0, -List.map_map]
theorem code_last : ∀ {rs : List Row}, rs ≠ [] → ∃ t, codeTxt rs = t ++ [10]
  | [], h => absurd rfl h
  | [r], _ => ⟨r.txt, by simp [codeTxt]⟩
  | r :: q :: rs, _ => by
    obtain ⟨t, e⟩ := code_last (rs := q :: rs) (by simp)
    refine ⟨r.txt ++ [10] ++ t, ?_⟩
    have : codeTxt (r :: q :: rs) = (r.txt ++ [10]) ++ codeTxt (q :: rs) := by simp [codeTxt]
    rw [this, e]
    simp
theorem slice_last {w : Bool} {xs : List PV} {x lo : PV} {T : Store} : sliceOp w false true (.vl (xs ++ [x])) lo (.int (-1)) T = newL w xs T := by
  have e : clipI (xs ++ [x]).length (xs ++ [x]).length true (.int (-1)) = some xs.length := by
    show some (if (-1 : Int) < 0 then ((-1 : Int) + (xs ++ [x]).length).toNat else _) = _
    rw [if_pos (by decide), List.length_append, List.length_singleton]
    congr 1
    omega
  show (match some 0, clipI (xs ++ [x]).length (xs ++ [x]).length true (.int (-1)) with
    | some a, some b => newL w (cut (xs ++ [x]) a b) T
    | _, _ => .bad) = _
  rw [e]
  show newL w (((xs ++ [x]).drop 0).take (xs.length - 0)) T = _
  rw [List.drop_zero, Nat.sub_zero, List.take_left]
theorem read_code {rs : List Row} (h : ∀ r ∈ rs, r.Ok) (hf : ∀ r ∈ rs, r.Fit) (h0 : rs ≠ []) (hl : rs.length ≤ 400) (T : Store) : callF D G (k + 3) 453 [.str (codeTxt rs)] T = .ok (.tup (rs.map Row.pv)) T := by
  rw [call_of d453 rfl]
  unfold t453
  have hlen := code_len h
  have hsp := split_code h
  obtain ⟨t, et⟩ := code_last h0
  have key : compO true (some (.items ((rs.map Row.txt).map .str))) (.nm 2) (evT (callF D G (k + 2)) G (.lit (.bl true))) (ev (callF D G (k + 2)) G (.call 313 (.cons (.var 2) .nil))) [some (.str (codeTxt rs)), none, none] T = .ok (rs.map Row.pv) T := by
    rw [List.map_map]
    exact compO_map (l := rs) (g := PV.str ∘ Row.txt) (f := Row.pv) (by show _ ≤ 16777216; omega) fun r hr => ⟨_, rfl, by simp, by
      have := read_row (k := k) (h r hr) (hf r hr) T
      simp [this]⟩
  have hsl := fun (lo : PV) => slice_last (w := false) (xs := (rs.map Row.txt).map .str) (x := .str []) (lo := lo) (T := T)
  have hs2 : (splitC 10 (codeTxt rs)).map PV.str = (rs.map Row.txt).map .str ++ [.str []] := by rw [hsp, List.map_append]; rfl
  generalize codeTxt rs = s at *
  subst et
  have hz : t.length + 1 ≤ 16777216 := by rw [List.length_append, List.length_singleton] at hlen; omega
  have hz2 : t.length + 1 + 2 ≤ 16777216 := by rw [List.length_append, List.length_singleton] at hlen; omega
  have hn : normI (t.length + 1) (-1) = some t.length := by
    unfold normI
    rw [if_neg (by decide), if_pos (by omega)]
    congr 1
    omega
  simp [startE, wipeE, SZ, hz, hz2, hn, hs2, hsl, key, -List.map_map]
end MP.K10

set_option Elab.async false
set_option linter.all false
set_option maxRecDepth 100000
set_option maxHeartbeats 4000000
/-! k10: the bad texts (printed) -/
namespace MP.K10
open MP
variable {k : Nat}
theorem d458 : D 458 = some ⟨1, 1, false, t458⟩ := rfl
theorem w0 (T : Store) : callF D G (k + 1) 1 [.str []] T = .exc 1 T := by
  rw [call_of d1 rfl]
  unfold t1
  simp -dsimp [startE, SZ, sliceOp, clipI, cut, normI, g4, loopO_L]
theorem w1 (T : Store) : callF D G (k + 1) 1 [.str [43, 49]] T = .exc 1 T := by
  rw [call_of d1 rfl]
  unfold t1
  simp -dsimp [startE, SZ, sliceOp, clipI, cut, normI, g4, loopO_L]
theorem w2 (T : Store) : callF D G (k + 1) 1 [.str [45, 48]] T = .exc 1 T := by
  rw [call_of d1 rfl]
  unfold t1
  simp -dsimp [startE, SZ, sliceOp, clipI, cut, normI, g4, loopO_L]
theorem w3 (T : Store) : callF D G (k + 1) 1 [.str [48, 49]] T = .exc 1 T := by
  rw [call_of d1 rfl]
  unfold t1
  simp -dsimp [startE, SZ, sliceOp, clipI, cut, normI, g4, loopO_L]
theorem w4 (T : Store) : callF D G (k + 1) 1 [.str [49]] T = .ok (.int 1) T := rint (i := 1) (by decide) T
theorem w5 (T : Store) : callF D G (k + 1) 1 [.str [50]] T = .ok (.int 2) T := rint (i := 2) (by decide) T
theorem w6 (T : Store) : callF D G (k + 1) 1 [.str [112, 117, 115, 104]] T = .exc 1 T := by
  rw [call_of d1 rfl]
  unfold t1
  simp -dsimp [startE, SZ, sliceOp, clipI, cut, normI, g4, loopO_L]
theorem w7 (T : Store) : callF D G (k + 1) 1 [.str [120]] T = .exc 1 T := by
  rw [call_of d1 rfl]
  unfold t1
  simp -dsimp [startE, SZ, sliceOp, clipI, cut, normI, g4, loopO_L]
theorem r0 (T : Store) : callF D G (k + 2) 313 [.str []] T = .exc 1 T := by
  rw [call_of d313 rfl]
  unfold t313
  simp -dsimp [startE, wipeE, SZ, splitC, sliceOp, listOf, clipI, cut, normI, g23, W18, k18, kGet, loopO_L, compO_L, cmpOp, eqOp, flat, shal, plainD, plainDs, peq, peqs]
theorem r1 (T : Store) : callF D G (k + 2) 313 [.str [32, 112, 117, 115, 104, 32, 49]] T = .exc 1 T := by
  rw [call_of d313 rfl]
  unfold t313
  simp -dsimp [startE, wipeE, SZ, splitC, sliceOp, listOf, clipI, cut, normI, g23, W18, k18, kGet, loopO_L, compO_L, cmpOp, eqOp, flat, shal, plainD, plainDs, peq, peqs, w6 (k := k), w4 (k := k)]
theorem r2 (T : Store) : callF D G (k + 2) 313 [.str [65, 100, 100]] T = .exc 1 T := by
  rw [call_of d313 rfl]
  unfold t313
  simp -dsimp [startE, wipeE, SZ, splitC, sliceOp, listOf, clipI, cut, normI, g23, W18, k18, kGet, loopO_L, compO_L, cmpOp, eqOp, flat, shal, plainD, plainDs, peq, peqs]
theorem r3 (T : Store) : callF D G (k + 2) 313 [.str [97, 100, 100]] T = .ok (.tup [.str [97, 100, 100]]) T := by
  rw [call_of d313 rfl]
  unfold t313
  simp -dsimp [startE, wipeE, SZ, splitC, sliceOp, listOf, clipI, cut, normI, g23, W18, k18, kGet, loopO_L, compO_L, cmpOp, eqOp, flat, shal, plainD, plainDs, peq, peqs]
theorem r4 (T : Store) : callF D G (k + 2) 313 [.str [97, 100, 100, 32, 49]] T = .exc 1 T := by
  rw [call_of d313 rfl]
  unfold t313
  simp -dsimp [startE, wipeE, SZ, splitC, sliceOp, listOf, clipI, cut, normI, g23, W18, k18, kGet, loopO_L, compO_L, cmpOp, eqOp, flat, shal, plainD, plainDs, peq, peqs, w4 (k := k)]
theorem r5 (T : Store) : callF D G (k + 2) 313 [.str [97, 100, 100, 120]] T = .exc 1 T := by
  rw [call_of d313 rfl]
  unfold t313
  simp -dsimp [startE, wipeE, SZ, splitC, sliceOp, listOf, clipI, cut, normI, g23, W18, k18, kGet, loopO_L, compO_L, cmpOp, eqOp, flat, shal, plainD, plainDs, peq, peqs]
theorem r6 (T : Store) : callF D G (k + 2) 313 [.str [99, 97, 108, 108]] T = .exc 1 T := by
  rw [call_of d313 rfl]
  unfold t313
  simp -dsimp [startE, wipeE, SZ, splitC, sliceOp, listOf, clipI, cut, normI, g23, W18, k18, kGet, loopO_L, compO_L, cmpOp, eqOp, flat, shal, plainD, plainDs, peq, peqs]
theorem r7 (T : Store) : callF D G (k + 2) 313 [.str [99, 97, 108, 108, 32, 120]] T = .exc 1 T := by
  rw [call_of d313 rfl]
  unfold t313
  simp -dsimp [startE, wipeE, SZ, splitC, sliceOp, listOf, clipI, cut, normI, g23, W18, k18, kGet, loopO_L, compO_L, cmpOp, eqOp, flat, shal, plainD, plainDs, peq, peqs, w7 (k := k)]
theorem r8 (T : Store) : callF D G (k + 2) 313 [.str [112, 111, 112]] T = .exc 1 T := by
  rw [call_of d313 rfl]
  unfold t313
  simp -dsimp [startE, wipeE, SZ, splitC, sliceOp, listOf, clipI, cut, normI, g23, W18, k18, kGet, loopO_L, compO_L, cmpOp, eqOp, flat, shal, plainD, plainDs, peq, peqs]
theorem r9 (T : Store) : callF D G (k + 2) 313 [.str [112, 117, 115, 104]] T = .exc 1 T := by
  rw [call_of d313 rfl]
  unfold t313
  simp -dsimp [startE, wipeE, SZ, splitC, sliceOp, listOf, clipI, cut, normI, g23, W18, k18, kGet, loopO_L, compO_L, cmpOp, eqOp, flat, shal, plainD, plainDs, peq, peqs]
theorem r10 (T : Store) : callF D G (k + 2) 313 [.str [112, 117, 115, 104, 32, 32, 49]] T = .exc 1 T := by
  rw [call_of d313 rfl]
  unfold t313
  simp -dsimp [startE, wipeE, SZ, splitC, sliceOp, listOf, clipI, cut, normI, g23, W18, k18, kGet, loopO_L, compO_L, cmpOp, eqOp, flat, shal, plainD, plainDs, peq, peqs, w0 (k := k), w4 (k := k)]
theorem r11 (T : Store) : callF D G (k + 2) 313 [.str [112, 117, 115, 104, 32, 43, 49]] T = .exc 1 T := by
  rw [call_of d313 rfl]
  unfold t313
  simp -dsimp [startE, wipeE, SZ, splitC, sliceOp, listOf, clipI, cut, normI, g23, W18, k18, kGet, loopO_L, compO_L, cmpOp, eqOp, flat, shal, plainD, plainDs, peq, peqs, w1 (k := k)]
theorem r12 (T : Store) : callF D G (k + 2) 313 [.str [112, 117, 115, 104, 32, 45, 48]] T = .exc 1 T := by
  rw [call_of d313 rfl]
  unfold t313
  simp -dsimp [startE, wipeE, SZ, splitC, sliceOp, listOf, clipI, cut, normI, g23, W18, k18, kGet, loopO_L, compO_L, cmpOp, eqOp, flat, shal, plainD, plainDs, peq, peqs, w2 (k := k)]
theorem r13 (T : Store) : callF D G (k + 2) 313 [.str [112, 117, 115, 104, 32, 48, 49]] T = .exc 1 T := by
  rw [call_of d313 rfl]
  unfold t313
  simp -dsimp [startE, wipeE, SZ, splitC, sliceOp, listOf, clipI, cut, normI, g23, W18, k18, kGet, loopO_L, compO_L, cmpOp, eqOp, flat, shal, plainD, plainDs, peq, peqs, w3 (k := k)]
theorem r14 (T : Store) : callF D G (k + 2) 313 [.str [112, 117, 115, 104, 32, 49, 32]] T = .exc 1 T := by
  rw [call_of d313 rfl]
  unfold t313
  simp -dsimp [startE, wipeE, SZ, splitC, sliceOp, listOf, clipI, cut, normI, g23, W18, k18, kGet, loopO_L, compO_L, cmpOp, eqOp, flat, shal, plainD, plainDs, peq, peqs, w4 (k := k), w0 (k := k)]
theorem r15 (T : Store) : callF D G (k + 2) 313 [.str [112, 117, 115, 104, 32, 49, 32, 50]] T = .exc 1 T := by
  rw [call_of d313 rfl]
  unfold t313
  simp -dsimp [startE, wipeE, SZ, splitC, sliceOp, listOf, clipI, cut, normI, g23, W18, k18, kGet, loopO_L, compO_L, cmpOp, eqOp, flat, shal, plainD, plainDs, peq, peqs, w4 (k := k), w5 (k := k)]
theorem b0 (T : Store) : callF D G (k + 4) 458 [.str []] T = .ok (.bl true) T := by
  have h : callF D G (k + 3) 453 [.str []] T = .exc 1 T := by
    rw [call_of d453 rfl]
    unfold t453
    simp -dsimp [startE, wipeE, SZ, splitC, sliceOp, listOf, clipI, cut, normI, compO_L]
  rw [call_of d458 rfl]
  unfold t458
  simp [startE, h]
theorem b1 (T : Store) : callF D G (k + 4) 458 [.str [112, 117, 115, 104, 32, 49]] T = .ok (.bl true) T := by
  have h : callF D G (k + 3) 453 [.str [112, 117, 115, 104, 32, 49]] T = .exc 1 T := by
    rw [call_of d453 rfl]
    unfold t453
    simp -dsimp [startE, wipeE, SZ, splitC, sliceOp, listOf, clipI, cut, normI, compO_L]
  rw [call_of d458 rfl]
  unfold t458
  simp [startE, h]
theorem b2 (T : Store) : callF D G (k + 4) 458 [.str [112, 117, 115, 104, 10]] T = .ok (.bl true) T := by
  have h : callF D G (k + 3) 453 [.str [112, 117, 115, 104, 10]] T = .exc 1 T := by
    rw [call_of d453 rfl]
    unfold t453
    simp -dsimp [startE, wipeE, SZ, splitC, sliceOp, listOf, clipI, cut, normI, compO_L, r9 (k := k)]
  rw [call_of d458 rfl]
  unfold t458
  simp [startE, h]
theorem b3 (T : Store) : callF D G (k + 4) 458 [.str [112, 117, 115, 104, 32, 49, 32, 50, 10]] T = .ok (.bl true) T := by
  have h : callF D G (k + 3) 453 [.str [112, 117, 115, 104, 32, 49, 32, 50, 10]] T = .exc 1 T := by
    rw [call_of d453 rfl]
    unfold t453
    simp -dsimp [startE, wipeE, SZ, splitC, sliceOp, listOf, clipI, cut, normI, compO_L, r15 (k := k)]
  rw [call_of d458 rfl]
  unfold t458
  simp [startE, h]
theorem b4 (T : Store) : callF D G (k + 4) 458 [.str [112, 111, 112, 10]] T = .ok (.bl true) T := by
  have h : callF D G (k + 3) 453 [.str [112, 111, 112, 10]] T = .exc 1 T := by
    rw [call_of d453 rfl]
    unfold t453
    simp -dsimp [startE, wipeE, SZ, splitC, sliceOp, listOf, clipI, cut, normI, compO_L, r8 (k := k)]
  rw [call_of d458 rfl]
  unfold t458
  simp [startE, h]
theorem b5 (T : Store) : callF D G (k + 4) 458 [.str [112, 117, 115, 104, 32, 48, 49, 10]] T = .ok (.bl true) T := by
  have h : callF D G (k + 3) 453 [.str [112, 117, 115, 104, 32, 48, 49, 10]] T = .exc 1 T := by
    rw [call_of d453 rfl]
    unfold t453
    simp -dsimp [startE, wipeE, SZ, splitC, sliceOp, listOf, clipI, cut, normI, compO_L, r13 (k := k)]
  rw [call_of d458 rfl]
  unfold t458
  simp [startE, h]
theorem b6 (T : Store) : callF D G (k + 4) 458 [.str [32, 112, 117, 115, 104, 32, 49, 10]] T = .ok (.bl true) T := by
  have h : callF D G (k + 3) 453 [.str [32, 112, 117, 115, 104, 32, 49, 10]] T = .exc 1 T := by
    rw [call_of d453 rfl]
    unfold t453
    simp -dsimp [startE, wipeE, SZ, splitC, sliceOp, listOf, clipI, cut, normI, compO_L, r1 (k := k)]
  rw [call_of d458 rfl]
  unfold t458
  simp [startE, h]
theorem b7 (T : Store) : callF D G (k + 4) 458 [.str [112, 117, 115, 104, 32, 32, 49, 10]] T = .ok (.bl true) T := by
  have h : callF D G (k + 3) 453 [.str [112, 117, 115, 104, 32, 32, 49, 10]] T = .exc 1 T := by
    rw [call_of d453 rfl]
    unfold t453
    simp -dsimp [startE, wipeE, SZ, splitC, sliceOp, listOf, clipI, cut, normI, compO_L, r10 (k := k)]
  rw [call_of d458 rfl]
  unfold t458
  simp [startE, h]
theorem b8 (T : Store) : callF D G (k + 4) 458 [.str [112, 117, 115, 104, 32, 49, 32, 10]] T = .ok (.bl true) T := by
  have h : callF D G (k + 3) 453 [.str [112, 117, 115, 104, 32, 49, 32, 10]] T = .exc 1 T := by
    rw [call_of d453 rfl]
    unfold t453
    simp -dsimp [startE, wipeE, SZ, splitC, sliceOp, listOf, clipI, cut, normI, compO_L, r14 (k := k)]
  rw [call_of d458 rfl]
  unfold t458
  simp [startE, h]
theorem b9 (T : Store) : callF D G (k + 4) 458 [.str [97, 100, 100, 32, 49, 10]] T = .ok (.bl true) T := by
  have h : callF D G (k + 3) 453 [.str [97, 100, 100, 32, 49, 10]] T = .exc 1 T := by
    rw [call_of d453 rfl]
    unfold t453
    simp -dsimp [startE, wipeE, SZ, splitC, sliceOp, listOf, clipI, cut, normI, compO_L, r4 (k := k)]
  rw [call_of d458 rfl]
  unfold t458
  simp [startE, h]
theorem b10 (T : Store) : callF D G (k + 4) 458 [.str [99, 97, 108, 108, 10]] T = .ok (.bl true) T := by
  have h : callF D G (k + 3) 453 [.str [99, 97, 108, 108, 10]] T = .exc 1 T := by
    rw [call_of d453 rfl]
    unfold t453
    simp -dsimp [startE, wipeE, SZ, splitC, sliceOp, listOf, clipI, cut, normI, compO_L, r6 (k := k)]
  rw [call_of d458 rfl]
  unfold t458
  simp [startE, h]
theorem b11 (T : Store) : callF D G (k + 4) 458 [.str [99, 97, 108, 108, 32, 120, 10]] T = .ok (.bl true) T := by
  have h : callF D G (k + 3) 453 [.str [99, 97, 108, 108, 32, 120, 10]] T = .exc 1 T := by
    rw [call_of d453 rfl]
    unfold t453
    simp -dsimp [startE, wipeE, SZ, splitC, sliceOp, listOf, clipI, cut, normI, compO_L, r7 (k := k)]
  rw [call_of d458 rfl]
  unfold t458
  simp [startE, h]
theorem b12 (T : Store) : callF D G (k + 4) 458 [.str [112, 117, 115, 104, 32, 45, 48, 10]] T = .ok (.bl true) T := by
  have h : callF D G (k + 3) 453 [.str [112, 117, 115, 104, 32, 45, 48, 10]] T = .exc 1 T := by
    rw [call_of d453 rfl]
    unfold t453
    simp -dsimp [startE, wipeE, SZ, splitC, sliceOp, listOf, clipI, cut, normI, compO_L, r12 (k := k)]
  rw [call_of d458 rfl]
  unfold t458
  simp [startE, h]
theorem b13 (T : Store) : callF D G (k + 4) 458 [.str [10]] T = .ok (.bl true) T := by
  have h : callF D G (k + 3) 453 [.str [10]] T = .exc 1 T := by
    rw [call_of d453 rfl]
    unfold t453
    simp -dsimp [startE, wipeE, SZ, splitC, sliceOp, listOf, clipI, cut, normI, compO_L, r0 (k := k)]
  rw [call_of d458 rfl]
  unfold t458
  simp [startE, h]
theorem b14 (T : Store) : callF D G (k + 4) 458 [.str [97, 100, 100, 10, 10]] T = .ok (.bl true) T := by
  have h : callF D G (k + 3) 453 [.str [97, 100, 100, 10, 10]] T = .exc 1 T := by
    rw [call_of d453 rfl]
    unfold t453
    simp -dsimp [startE, wipeE, SZ, splitC, sliceOp, listOf, clipI, cut, normI, compO_L, r3 (k := k), r0 (k := k)]
  rw [call_of d458 rfl]
  unfold t458
  simp [startE, h]
theorem b15 (T : Store) : callF D G (k + 4) 458 [.str [65, 100, 100, 10]] T = .ok (.bl true) T := by
  have h : callF D G (k + 3) 453 [.str [65, 100, 100, 10]] T = .exc 1 T := by
    rw [call_of d453 rfl]
    unfold t453
    simp -dsimp [startE, wipeE, SZ, splitC, sliceOp, listOf, clipI, cut, normI, compO_L, r2 (k := k)]
  rw [call_of d458 rfl]
  unfold t458
  simp [startE, h]
theorem b16 (T : Store) : callF D G (k + 4) 458 [.str [112, 117, 115, 104, 32, 43, 49, 10]] T = .ok (.bl true) T := by
  have h : callF D G (k + 3) 453 [.str [112, 117, 115, 104, 32, 43, 49, 10]] T = .exc 1 T := by
    rw [call_of d453 rfl]
    unfold t453
    simp -dsimp [startE, wipeE, SZ, splitC, sliceOp, listOf, clipI, cut, normI, compO_L, r11 (k := k)]
  rw [call_of d458 rfl]
  unfold t458
  simp [startE, h]
theorem b17 (T : Store) : callF D G (k + 4) 458 [.str [116, 101, 108, 108, 10, 97, 100, 100]] T = .ok (.bl true) T := by
  have h : callF D G (k + 3) 453 [.str [116, 101, 108, 108, 10, 97, 100, 100]] T = .exc 1 T := by
    rw [call_of d453 rfl]
    unfold t453
    simp -dsimp [startE, wipeE, SZ, splitC, sliceOp, listOf, clipI, cut, normI, compO_L]
  rw [call_of d458 rfl]
  unfold t458
  simp [startE, h]
theorem b18 (T : Store) : callF D G (k + 4) 458 [.str [97, 100, 100, 120, 10]] T = .ok (.bl true) T := by
  have h : callF D G (k + 3) 453 [.str [97, 100, 100, 120, 10]] T = .exc 1 T := by
    rw [call_of d453 rfl]
    unfold t453
    simp -dsimp [startE, wipeE, SZ, splitC, sliceOp, listOf, clipI, cut, normI, compO_L, r5 (k := k)]
  rw [call_of d458 rfl]
  unfold t458
  simp [startE, h]
end MP.K10

set_option Elab.async false
set_option linter.all false
set_option maxRecDepth 100000
set_option maxHeartbeats 4000000
/-! k10: the far text; slices of tuples -/
namespace MP.K10
open MP
variable {k : Nat}
def farT : List Nat := [108, 111, 97, 100, 32, 45, 53, 10, 106, 117, 109, 112, 32] ++ List.replicate 30 57 ++ [10, 99, 97, 108, 108, 32, 55, 32, 49, 32, 49, 10]
def farR : List Row := [.one [108, 111, 97, 100] [-5], .one [106, 117, 109, 112] [999999999999999999999999999999], .call 7 [1, 1]]
theorem far_txt : codeTxt farR = farT := by decide +kernel
theorem far_ok (T : Store) : callF D G (k + 3) 453 [.str farT] T = .ok (.tup (farR.map Row.pv)) T := by
  rw [← far_txt]
  refine read_code (fun r hr => ?_) (fun r hr => ?_) (by decide) (by decide) T
  · simp only [farR, List.mem_cons, List.not_mem_nil, or_false] at hr
    rcases hr with rfl | rfl | rfl
    · exact ⟨by decide, by decide, by decide, fun n hn => by simp at hn; subst hn; decide⟩
    · exact ⟨by decide, by decide, by decide, fun n hn => by simp at hn; subst hn; decide⟩
    · exact ⟨by decide, by decide, fun n hn => by simp at hn; subst hn; decide⟩
  · simp only [farR, List.mem_cons, List.not_mem_nil, or_false] at hr
    rcases hr with rfl | rfl | rfl
    · rfl
    · rfl
    · trivial
theorem clip_le {n j : Nat} (d : Nat) (h : j ≤ n) : clipI n d true (.int (j : Nat)) = some j := by
  show some (if (j : Int) < 0 then _ else min (j : Int).toNat n) = _
  rw [if_neg (by omega)]
  congr 1
  exact Nat.min_eq_left h
theorem slice_both {w : Bool} {xs : List PV} {i j : Nat} {T : Store} (hi : i ≤ xs.length) (hj : j ≤ xs.length) : sliceOp w true true (.tup xs) (.int i) (.int j) T = .ok (.tup ((xs.drop i).take (j - i))) T := by
  show (match clipI xs.length 0 true (.int (i : Nat)), clipI xs.length xs.length true (.int (j : Nat)) with
    | some a, some b => Res.ok (PV.tup (cut xs a b)) T
    | _, _ => .bad) = _
  rw [clip_le 0 hi, clip_le _ hj]
  rfl
end MP.K10

set_option Elab.async false
set_option linter.all false
set_option maxRecDepth 100000
set_option maxHeartbeats 4000000
/-! k10: bent data -/
namespace MP.K10
open MP
variable {k : Nat}
theorem d60 : D 60 = some ⟨3, 5, false, t60⟩ := rfl
theorem nat_lt {a L : Nat} (h : a.log2 ≤ L) : a < 2 ^ (L + 1) := by
  by_cases e : a = 0
  · subst e; exact Nat.pow_pos (by decide)
  · exact (Nat.log2_lt e).mp (by omega)
theorem lg {i j : Int} {L : Nat} (h : i.natAbs.log2 ≤ L) (hj : j.natAbs ≤ 2 * i.natAbs + 1) : j.natAbs.log2 ≤ L + 1 := by
  have h1 := nat_lt h
  have h2 : j.natAbs < 2 ^ (L + 2) := by
    have : 2 ^ (L + 2) = 2 * 2 ^ (L + 1) := by rw [Nat.pow_succ]; omega
    omega
  have := log2_lt_of h2 (by omega)
  omega
theorem dd_int {L n : Nat} {i : Int} (h : i.natAbs.log2 ≤ L) : dd L n (.int i) = true := by
  unfold dd
  exact decide_eq_true h
theorem dd_int_inv {L n : Nat} {i : Int} (h : dd L n (.int i) = true) : i.natAbs.log2 ≤ L := by
  unfold dd at h
  exact of_decide_eq_true h
theorem dd_str {L n : Nat} {s : List Nat} (h : s.length ≤ L) (hc : ∀ c ∈ s, c < 1114112) : dd L n (.str s) = true := by
  unfold dd
  rw [decide_eq_true h, Bool.true_and, List.all_eq_true]
  exact fun c hm => decide_eq_true (hc c hm)
theorem dd_str_inv {L n : Nat} {s : List Nat} (h : dd L n (.str s) = true) : s.length ≤ L ∧ ∀ c ∈ s, c < 1114112 := by
  unfold dd at h
  rw [Bool.and_eq_true, decide_eq_true_eq, List.all_eq_true] at h
  exact ⟨h.1, fun c hc => of_decide_eq_true (h.2 c hc)⟩
theorem dd_tupI {L n : Nat} {xs : List PV} (h : xs.length ≤ L) (hx : dds L n xs = true) : dd L (n + 1) (.tup xs) = true := by
  show (decide (xs.length ≤ L) && dds L n xs) = true
  rw [decide_eq_true h, hx]
  rfl
mutual
theorem dd_mono {L L' : Nat} (hL : L ≤ L') : ∀ (n n' : Nat) (v : PV), n ≤ n' → dd L n v = true → dd L' n' v = true
  | n, n', .int i, _, h => dd_int (Nat.le_trans (dd_int_inv h) hL)
  | n, n', .str s, _, h => dd_str (Nat.le_trans (dd_str_inv h).1 hL) (dd_str_inv h).2
  | n, n', .tup xs, hn, h => by
    obtain ⟨n, rfl, hl, hx⟩ := dd_tup h
    obtain ⟨n', rfl⟩ : ∃ j, n' = j + 1 := ⟨n' - 1, by omega⟩
    exact dd_tupI (by omega) (dds_mono hL n n' xs (by omega) hx)
  | n, n', .non, _, h => by unfold dd at h; cases h
  | n, n', .bl _, _, h => by unfold dd at h; cases h
  | n, n', .frz _, _, h => by unfold dd at h; cases h
  | n, n', .vl _, _, h => by unfold dd at h; cases h
  | n, n', .vd _ _, _, h => by unfold dd at h; cases h
  | n, n', .ref _, _, h => by unfold dd at h; cases h
  | n, n', .fn _, _, h => by unfold dd at h; cases h
  | n, n', .exc _, _, h => by unfold dd at h; cases h
theorem dds_mono {L L' : Nat} (hL : L ≤ L') : ∀ (n n' : Nat) (xs : List PV), n ≤ n' → dds L n xs = true → dds L' n' xs = true
  | n, n', [], _, _ => by unfold dds; rfl
  | n, n', x :: xs, hn, h => by
    obtain ⟨h1, h2⟩ := dds_cons h
    unfold dds
    rw [dd_mono hL n n' x hn h1, dds_mono hL n n' xs hn h2]
    rfl
end
theorem dec_len60 {i : Int} (h : i.natAbs.log2 ≤ 60) : (decText i).length ≤ 20 := by
  have h1 : i.natAbs < 10 ^ 19 := Nat.lt_of_lt_of_le (nat_lt h) (by decide)
  by_cases hn : i < 0
  · obtain ⟨j, rfl⟩ : ∃ j : Nat, i = -((j + 1 : Nat) : Int) := ⟨i.natAbs - 1, by omega⟩
    rw [Int.natAbs_neg, Int.natAbs_natCast] at h1
    rw [decText_neg, List.length_cons]
    have := dg_len_le 19 (j + 1) (by decide) h1
    omega
  · obtain ⟨j, rfl⟩ : ∃ j : Nat, i = (j : Int) := ⟨i.natAbs, by omega⟩
    rw [Int.natAbs_natCast] at h1
    rw [decText_nat]
    have := dg_len_le 19 j (by decide) h1
    omega
theorem bent_int {ns : List Int} {R : Store} {a : MO} {m L n : Nat} {i dp : Int} (h1 : 20 ≤ L) (h2 : L ≤ 60) (h : dd L n (.int i) = true) (s : St ns m a) (hm : m < 10000000) :
    ∃ (v : PV) (a' : MO), callF D G (k + 3) 60 [.ref 0, .int i, .int dp] (a :: R) = .ok v (a' :: R) ∧ dd (L + 1) (n + 1) v = true ∧ St ns (m + 1) a' := by
  have hi := dd_int_inv h
  obtain ⟨v, a', e, hv, s'⟩ := one_of (k := k) (G := G) d7 d8 (R := R) (xs := [.int (i + 1), .int (i - 1), .int (-i), .int (2 * i), .int 0, .str (decText i), .tup [.int i]]) s (by omega) (by simp) (by simp)
  refine ⟨v, a', ?_, ?_, s'⟩
  · rw [call_of d60 rfl]
    unfold t60
    have hm2 : binOp false .mul (.int 2) (.int i) (a :: R) = .ok (.int (2 * i)) (a :: R) := by
      rw [mul_int, if_pos]
      have : (2 : Int).natAbs.log2 = 1 := by decide +kernel
      omega
    have hs : i.natAbs.log2 < 1920 := by omega
    simp [startE, SZ, hm2, hs, e, letGo_same]
  · simp only [List.mem_cons, List.not_mem_nil, or_false] at hv
    rcases hv with rfl | rfl | rfl | rfl | rfl | rfl | rfl
    · exact dd_int (lg hi (by omega))
    · exact dd_int (lg hi (by omega))
    · exact dd_int (lg hi (by omega))
    · exact dd_int (lg hi (by omega))
    · exact dd_int (lg hi (by omega))
    · exact dd_str (by have := dec_len60 (i := i) (by omega); omega) fun c hc => by have := dec_chars i c hc; omega
    · exact dd_tupI (by simp) (dds_of fun x hx => by simp at hx; subst hx; exact dd_int (by omega))
theorem str_last {w : Bool} {s : List Nat} {lo : PV} {T : Store} (h : s.length ≤ SZ) : sliceOp w false true (.str s) lo (.int (-1)) T = .ok (.str s.dropLast) T := by
  have e : clipI s.length s.length true (.int (-1)) = some (s.length - 1) := by
    show some (if (-1 : Int) < 0 then ((-1 : Int) + s.length).toNat else _) = _
    rw [if_pos (by decide)]
    congr 1
    omega
  show (match some 0, clipI s.length s.length true (.int (-1)) with
    | some a, some b => if s.length ≤ SZ then Res.ok (PV.str (cut s a b)) T else .bad
    | _, _ => .bad) = _
  rw [e]
  show (if s.length ≤ SZ then Res.ok (PV.str ((s.drop 0).take (s.length - 1 - 0))) T else .bad) = _
  rw [if_pos h, List.drop_zero, Nat.sub_zero, List.dropLast_eq_take]
theorem bent_str {ns : List Int} {R : Store} {a : MO} {m L n : Nat} {t : List Nat} {dp : Int} (h1 : 20 ≤ L) (h2 : L ≤ 60) (h : dd L n (.str t) = true) (s : St ns m a) (hm : m < 10000000) :
    ∃ (v : PV) (a' : MO), callF D G (k + 3) 60 [.ref 0, .str t, .int dp] (a :: R) = .ok v (a' :: R) ∧ dd (L + 1) (n + 1) v = true ∧ St ns (m + 1) a' := by
  obtain ⟨hl, hc⟩ := dd_str_inv h
  obtain ⟨v, a', e, hv, s'⟩ := one_of (k := k) (G := G) d7 d8 (R := R) (xs := [.str [102, 111, 114, 109, 115], .str [114, 105, 110, 103], .str [], .str (t ++ [120]), .str (t.drop 1), .str t.dropLast, .int 0, .tup []]) s (by omega) (by simp) (by simp)
  refine ⟨v, a', ?_, ?_, s'⟩
  · rw [call_of d60 rfl]
    unfold t60
    have hz : t.length ≤ SZ := by show _ ≤ 16777216; omega
    have hz1 : t.length + 1 ≤ 16777216 := by omega
    have e1 := str_from1 (w := false) (hi := .non) (T := a :: R) hz
    have e2 := str_last (w := false) (lo := .non) (T := a :: R) hz
    rw [List.drop_one] at e1 e
    simp [startE, SZ, hz1, e1, e2, e, letGo_same]
  · simp only [List.mem_cons, List.not_mem_nil, or_false] at hv
    rcases hv with rfl | rfl | rfl | rfl | rfl | rfl | rfl | rfl
    · exact dd_str (by simp; omega) (by decide)
    · exact dd_str (by simp; omega) (by decide)
    · exact dd_str (by simp) (by simp)
    · refine dd_str (by rw [List.length_append, List.length_singleton]; omega) fun c hm => ?_
      rcases List.mem_append.mp hm with q | q
      · exact hc c q
      · simp at q; omega
    · exact dd_str (by rw [List.length_drop]; omega) fun c hm => hc c (List.mem_of_mem_drop hm)
    · exact dd_str (by rw [List.length_dropLast]; omega) fun c hm => hc c ((List.dropLast_sublist t).subset hm)
    · exact dd_int (by simp)
    · exact dd_tupI (by simp) rfl
/-- the nine ways -/
def ways (xs : List PV) (j : Nat) : List PV := [.tup (xs.take j ++ xs.drop (j + 1)), .tup (xs.take j ++ (xs.drop j).take 1 ++ xs.drop j), .tup (xs ++ [.int 0]), .tup [], .int 0, .tup (xs.drop j ++ xs.take j), .tup xs.reverse, .str [114, 105, 110, 103], .tup [.tup xs]]
theorem ways_dd {L n j : Nat} {xs : List PV} (h1 : 20 ≤ L) (hl : xs.length ≤ L) (hx : dds L n xs = true) (hj : j ≤ xs.length) : ∀ v ∈ ways xs j, dd (L + 1) (n + 1 + 1) v = true := fun v hv => by
  have sub : ∀ ys : List PV, (∀ y ∈ ys, y ∈ xs ∨ y = .int 0) → ys.length ≤ L + 1 → dd (L + 1) (n + 1 + 1) (.tup ys) = true := fun ys h hle =>
    dd_tupI hle (dds_of fun y hy => by
      rcases h y hy with q | q
      · exact dd_mono (Nat.le_succ L) n (n + 1) y (by omega) (dds_mem hx y q)
      · rw [q]; exact dd_int (by simp))
  simp only [ways, List.mem_cons, List.not_mem_nil, or_false] at hv
  rcases hv with rfl | rfl | rfl | rfl | rfl | rfl | rfl | rfl | rfl
  · refine sub _ (fun y hy => ?_) (by simp only [List.length_append, List.length_take, List.length_drop]; omega)
    rcases List.mem_append.mp hy with q | q
    · exact .inl (List.mem_of_mem_take q)
    · exact .inl (List.mem_of_mem_drop q)
  · refine sub _ (fun y hy => ?_) (by simp only [List.length_append, List.length_take, List.length_drop]; omega)
    rcases List.mem_append.mp hy with q | q
    · rcases List.mem_append.mp q with q | q
      · exact .inl (List.mem_of_mem_take q)
      · exact .inl (List.mem_of_mem_drop (List.mem_of_mem_take q))
    · exact .inl (List.mem_of_mem_drop q)
  · refine sub _ (fun y hy => ?_) (by simp only [List.length_append, List.length_singleton]; omega)
    rcases List.mem_append.mp hy with q | q
    · exact .inl q
    · exact .inr (by simpa using q)
  · exact sub _ (fun y hy => by cases hy) (by simp)
  · exact dd_int (by simp)
  · refine sub _ (fun y hy => ?_) (by simp only [List.length_append, List.length_take, List.length_drop]; omega)
    rcases List.mem_append.mp hy with q | q
    · exact .inl (List.mem_of_mem_drop q)
    · exact .inl (List.mem_of_mem_take q)
  · exact sub _ (fun y hy => .inl (List.mem_reverse.mp hy)) (by rw [List.length_reverse]; omega)
  · exact dd_str (by simp; omega) (by decide)
  · exact dd_tupI (by simp) (dds_of fun y hy => by
      simp at hy
      subst hy
      exact dd_tupI (by omega) (dds_mono (Nat.le_succ L) n n xs (Nat.le_refl _) hx))
/-- a tuple is turned as a whole -/
theorem bent_whole {ns : List Int} {R : Store} {a a0 : MO} {m L n : Nat} {xs : List PV} {dp : Int} (h1 : 20 ≤ L) (h2 : L ≤ 60) (hl : xs.length ≤ L) (hx : dds L n xs = true) (s : St ns m a) (hm : m < 10000000)
    (hc : (xs = [] ∧ a0 = a) ∨ (¬ dp < 12 ∧ a0 = a) ∨ (0 < xs.length ∧ dp < 12 ∧ callF D G (k + 2) 7 [.ref 0, .int 6] (a0 :: R) = .ok (.int 0) (a :: R))) :
    ∃ (v : PV) (a' : MO), callF D G (k + 3) 60 [.ref 0, .tup xs, .int dp] (a0 :: R) = .ok v (a' :: R) ∧ dd (L + 1) (n + 1 + 1) v = true ∧ St ns (m + 2) a' := by
  obtain ⟨j, a1, e1, hj, s1⟩ := draw (k := k + 1) (G := G) d7 (R := R) s (by omega) (xs.length + 1) (by omega) (by omega)
  obtain ⟨v, a', e, hv, s'⟩ := one_of (k := k) (G := G) d7 d8 (R := R) (xs := ways xs j) s1 (by omega) (by simp [ways]) (by simp [ways])
  refine ⟨v, a', ?_, ways_dd h1 hl hx (by omega) v hv, s'⟩
  rw [call_of d60 rfl]
  unfold t60
  have e6 : ((xs.length + 1 : Nat) : Int) = (xs.length : Int) + 1 := by omega
  rw [e6] at e1
  have t1 := slice_to (w := false) (xs := xs) (j := j) (lo := .non) (T := a1 :: R)
  have t2 : sliceOp false true false (.tup xs) (.int ((j : Int) + 1)) .non (a1 :: R) = .ok (.tup (xs.drop (j + 1))) (a1 :: R) := slice_from (j := j + 1)
  have t3 := slice_from (w := false) (xs := xs) (j := j) (hi := .non) (T := a1 :: R)
  have t4 : sliceOp false true true (.tup xs) (.int j) (.int ((j : Int) + 1)) (a1 :: R) = .ok (.tup ((xs.drop j).take 1)) (a1 :: R) := by
    by_cases hj2 : j < xs.length
    · have := slice_both (w := false) (xs := xs) (i := j) (j := j + 1) (T := a1 :: R) (by omega) (by omega)
      rw [show j + 1 - j = 1 by omega] at this
      exact this
    · have ej : j = xs.length := by omega
      subst ej
      have c1 : clipI xs.length xs.length true (.int ((xs.length : Int) + 1)) = some xs.length := by
        show some (if ((xs.length : Int) + 1) < 0 then _ else min ((xs.length : Int) + 1).toNat xs.length) = _
        rw [if_neg (by omega)]
        congr 1
        omega
      show (match clipI xs.length 0 true (.int (xs.length : Nat)), clipI xs.length xs.length true (.int ((xs.length : Int) + 1)) with
        | some a, some b => Res.ok (PV.tup (cut xs a b)) (a1 :: R)
        | _, _ => .bad) = _
      rw [clip_le 0 (Nat.le_refl _), c1]
      simp [cut]
  have z1 : (xs.take j).length + (xs.drop (j + 1)).length ≤ 16777216 := by simp only [List.length_take, List.length_drop]; omega
  have z2 : (xs.take j).length + ((xs.drop j).take 1).length ≤ 16777216 := by simp only [List.length_take, List.length_drop]; omega
  have z3 : (xs.take j ++ (xs.drop j).take 1).length + (xs.drop j).length ≤ 16777216 := by simp only [List.length_append, List.length_take, List.length_drop]; omega
  have z4 : xs.length + 1 ≤ 16777216 := by omega
  have z5 : (xs.drop j).length + (xs.take j).length ≤ 16777216 := by simp only [List.length_take, List.length_drop]; omega
  unfold ways at e
  simp only [List.append_assoc] at e
  rcases hc with ⟨rfl, rfl⟩ | ⟨hd, rfl⟩ | ⟨h0, hd, er⟩
  · have e1' : callF D G (k + 1 + 1) 7 [.ref 0, .int 1] (a0 :: R) = .ok (.int j) (a1 :: R) := e1
    simp only [List.take_nil, List.drop_nil, List.append_nil, List.nil_append, List.reverse_nil] at *
    simp [startE, SZ, e1', t1, t2, t3, t4, z4, e, letGo_same]
  · generalize xs.take j = A at *
    generalize xs.drop (j + 1) = B at *
    generalize xs.drop j = C at *
    generalize C.take 1 = E at *
    by_cases h0 : 0 < xs.length
    · simp [startE, SZ, h0, hd, e1, t1, t2, t3, t4, z1, z2, z3, z4, z5, e, letGo_same, -List.length_append]
    · simp [startE, SZ, h0, e1, t1, t2, t3, t4, z1, z2, z3, z4, z5, e, letGo_same, -List.length_append]
  · generalize xs.take j = A at *
    generalize xs.drop (j + 1) = B at *
    generalize xs.drop j = C at *
    generalize C.take 1 = E at *
    simp [startE, SZ, h0, hd, er, e1, t1, t2, t3, t4, z1, z2, z3, z4, z5, e, letGo_same, -List.length_append]
theorem bent {ns : List Int} {R : Store} {L : Nat} (h1 : 20 ≤ L) (h2 : L ≤ 60) : ∀ (n : Nat) (v : PV) (dp : Int) (m : Nat) (a : MO), dd L n v = true → St ns m a → m + 3 * n < 9000000 →
    ∃ (w : PV) (a' : MO), callF D G (k + n + 3) 60 [.ref 0, v, .int dp] (a :: R) = .ok w (a' :: R) ∧ dd (L + 1) (n + 1) w = true ∧ St ns (m + 3 * n + 3) a'
  | n, .int i, dp, m, a, h, s, hm => by
    obtain ⟨w, a', e, hw, s'⟩ := bent_int (k := k + n) (R := R) (dp := dp) h1 h2 h s (by omega)
    exact ⟨w, a', e, hw, s'.mono (by omega)⟩
  | n, .str t, dp, m, a, h, s, hm => by
    obtain ⟨w, a', e, hw, s'⟩ := bent_str (k := k + n) (R := R) (dp := dp) h1 h2 h s (by omega)
    exact ⟨w, a', e, hw, s'.mono (by omega)⟩
  | n, .tup xs, dp, m, a, h, s, hm => by
    obtain ⟨n, rfl, hl, hx⟩ := dd_tup h
    by_cases h0 : 0 < xs.length
    · by_cases hd : dp < 12
      · obtain ⟨r, a1, e1, hr, s1⟩ := draw (k := k + n + 2) (G := G) d7 (R := R) s (by omega) 6 (by omega) (by omega)
        have e1' : callF D G (k + (n + 1) + 2) 7 [.ref 0, .int 6] (a :: R) = .ok (.int r) (a1 :: R) := e1
        by_cases hr0 : r = 0
        · subst hr0
          obtain ⟨w, a', e, hw, s'⟩ := bent_whole (k := k + (n + 1)) (R := R) (dp := dp) (a0 := a) h1 h2 hl hx s1 (by omega) (.inr (.inr ⟨h0, hd, e1'⟩))
          exact ⟨w, a', e, hw, s'.mono (by omega)⟩
        · obtain ⟨j, a2, e2, hj, s2⟩ := draw (k := k + n + 2) (G := G) d7 (R := R) s1 (by omega) xs.length h0 (by omega)
          have hxj := dds_mem hx xs[j] (List.getElem_mem hj)
          obtain ⟨w, a', e3, hw, s3⟩ := bent h1 h2 n xs[j] (dp + 1) (m + 1 + 1) a2 hxj s2 (by omega)
          have e2' : callF D G (k + (n + 1) + 2) 7 [.ref 0, .int xs.length] (a1 :: R) = .ok (.int j) (a2 :: R) := e2
          have e3' : callF D G (k + (n + 1) + 2) 60 [.ref 0, xs[j], .int (dp + 1)] (a2 :: R) = .ok w (a' :: R) := by
            rw [show k + (n + 1) + 2 = k + n + 3 by omega]
            exact e3
          have hat : xs[j]? = some xs[j] := List.getElem?_eq_getElem hj
          have hnr := norm_in (n := xs.length) (i := j) (by omega) (by omega)
          have t1 := slice_to (w := false) (xs := xs) (j := j) (lo := .non) (T := a2 :: R)
          have t2 : sliceOp false true false (.tup xs) (.int ((j : Int) + 1)) .non (a' :: R) = .ok (.tup (xs.drop (j + 1))) (a' :: R) := slice_from (j := j + 1)
          have hrp : 0 < r := by omega
          have z1 : (xs.take j).length + 1 ≤ 16777216 := by rw [List.length_take]; omega
          have z2 : (xs.take j ++ [w]).length + (xs.drop (j + 1)).length ≤ 16777216 := by simp only [List.length_append, List.length_take, List.length_drop, List.length_singleton]; omega
          refine ⟨.tup (xs.take j ++ [w] ++ xs.drop (j + 1)), a', ?_, dd_tupI (by simp only [List.length_append, List.length_take, List.length_drop, List.length_singleton]; omega) (dds_of fun y hy => ?_), s3.mono (by omega)⟩
          · rw [call_of d60 rfl]
            unfold t60
            have hdx : dat xs[j] = true := dd_dat hxj
            generalize hA : xs.take j = A at *
            generalize hB : xs.drop (j + 1) = B at *
            generalize hE : xs[j] = q at *
            simp only [Int.toNat_natCast] at hnr
            simp [startE, SZ, h0, hd, e1', hrp, e2', t1, t2, hnr, hat, e3', z1, z2, letGo_same, -List.length_append, -List.getElem?_eq_getElem]
          · rcases List.mem_append.mp hy with q | q
            · rcases List.mem_append.mp q with q | q
              · exact dd_mono (Nat.le_succ L) n (n + 1) y (by omega) (dds_mem hx y (List.mem_of_mem_take q))
              · simp at q
                subst q
                exact hw
            · exact dd_mono (Nat.le_succ L) n (n + 1) y (by omega) (dds_mem hx y (List.mem_of_mem_drop q))
      · obtain ⟨w, a', e, hw, s'⟩ := bent_whole (k := k + (n + 1)) (R := R) (dp := dp) (a0 := a) h1 h2 hl hx s (by omega) (.inr (.inl ⟨hd, rfl⟩))
        exact ⟨w, a', e, hw, s'.mono (by omega)⟩
    · have : xs = [] := List.eq_nil_of_length_eq_zero (by omega)
      obtain ⟨w, a', e, hw, s'⟩ := bent_whole (k := k + (n + 1)) (R := R) (dp := dp) (a0 := a) h1 h2 hl hx s (by omega) (.inl ⟨this, rfl⟩)
      exact ⟨w, a', e, hw, s'.mono (by omega)⟩
  | n, .non, _, _, _, h, _, _ => by unfold dd at h; cases h
  | n, .bl _, _, _, _, h, _, _ => by unfold dd at h; cases h
  | n, .frz _, _, _, _, h, _, _ => by unfold dd at h; cases h
  | n, .vl _, _, _, _, h, _, _ => by unfold dd at h; cases h
  | n, .vd _ _, _, _, _, h, _, _ => by unfold dd at h; cases h
  | n, .ref _, _, _, _, h, _, _ => by unfold dd at h; cases h
  | n, .fn _, _, _, _, h, _, _ => by unfold dd at h; cases h
  | n, .exc _, _, _, _, h, _, _ => by unfold dd at h; cases h
termination_by n => n
end MP.K10

set_option Elab.async false
set_option linter.all false
set_option maxRecDepth 100000
set_option maxHeartbeats 8000000
/-! k10: a row by drawing -/
namespace MP.K10
open MP
variable {k : Nat}
theorem d454 : D 454 = some ⟨3, 9, false, t454⟩ := rfl
theorem d57 : D 57 = some ⟨2, 4, false, h57⟩ := rfl
/-- small numbers alone -/
def Row.Sm (r : Row) : Prop := ∀ n ∈ r.nums, n.natAbs ≤ 10000000000000
theorem one_ok {w : List Nat} {n : Int} (hw : w ∈ W18) (hc : w ≠ callW) (ha : argsOf w = 1) (hn : n.natAbs ≤ 10000000000000) : (Row.one w [n]).Ok ∧ (Row.one w [n]).Fit ∧ (Row.one w [n]).Sm := by
  refine ⟨⟨hw, hc, by simp, fun z hz => ?_⟩, ha.symm, fun z hz => ?_⟩
  · simp at hz; subst hz; omega
  · have hz : z ∈ [n] := hz
    simp at hz; subst hz; exact hn
theorem none_ok {w : List Nat} (hw : w ∈ W18) (hc : w ≠ callW) (ha : argsOf w = 0) : (Row.one w []).Ok ∧ (Row.one w []).Fit ∧ (Row.one w []).Sm :=
  ⟨⟨hw, hc, by simp, fun z hz => by cases hz⟩, ha.symm, fun z hz => by cases (show z ∈ [] from hz)⟩
/-- the number that every row draws: four draws are made before -/
theorem some_row01 {ns : List Int} {R : Store} {a : MO} {m : Nat} {places inner slots called : Nat} (s : St ns m a) (hm : m < 1000000) :
    ∃ (p x y z : Nat) (a1 : MO), p < 12 ∧ x < 21 ∧ y < 10000000000000 ∧ z < 5 ∧ St ns (m + 4) a1 ∧ ∀ (rest : MP.S) (q : Int), q = (if z = 0 then (y : Int) - 5000000000000 else (x : Int) - 10) →
      exS (callF D G (k + 1)) G (.seq (.asg (.tp [3, 4, 5]) (.var 2)) (.seq (.asg (.nm 6) (.call 7 (.cons (.var 0) (.cons (.lit (.int 12)) .nil)))) (.seq (.asg (.nm 7) (.idx (.list false (.cons (.bin false .sub (.call 7 (.cons (.var 0) (.cons (.lit (.int 21)) .nil))) (.lit (.int 10))) (.cons (.bin false .sub (.call 7 (.cons (.var 0) (.cons (.bin false .pow (.lit (.int 10)) (.lit (.int 13))) .nil))) (.bin false .mul (.lit (.int 5)) (.bin false .pow (.lit (.int 10)) (.lit (.int 12))))) .nil))) (.prim false .int (.cons (.cmp .eq (.call 7 (.cons (.var 0) (.cons (.lit (.int 5)) .nil))) (.lit (.int 0))) .nil)))) rest)))
        [some (.ref 0), some (.int places), some (.tup [.int inner, .int slots, .int called]), none, none, none, none, none, none] (a :: R)
      = exS (callF D G (k + 1)) G rest [some (.ref 0), some (.int places), some (.tup [.int inner, .int slots, .int called]), some (.int inner), some (.int slots), some (.int called), some (.int p), some (.int q), none] (a1 :: R) := by
  obtain ⟨p, b1, e1, hp, s1⟩ := draw (k := k) (G := G) d7 (R := R) s (by omega) 12 (by omega) (by omega)
  obtain ⟨x, b2, e2, hx, s2⟩ := draw (k := k) (G := G) d7 (R := R) s1 (by omega) 21 (by omega) (by omega)
  obtain ⟨y, b3, e3, hy, s3⟩ := draw (k := k) (G := G) d7 (R := R) s2 (by omega) 10000000000000 (by omega) (by omega)
  obtain ⟨z, b4, e4, hz, s4⟩ := draw (k := k) (G := G) d7 (R := R) s3 (by omega) 5 (by omega) (by omega)
  refine ⟨p, x, y, z, b4, hp, hx, hy, hz, s4, fun rest q hq => ?_⟩
  have e1' : callF D G (k + 1) 7 [.ref 0, .int 12] (a :: R) = .ok (.int p) (b1 :: R) := e1
  have e2' : callF D G (k + 1) 7 [.ref 0, .int 21] (b1 :: R) = .ok (.int x) (b2 :: R) := e2
  have e3' : callF D G (k + 1) 7 [.ref 0, .int 10000000000000] (b2 :: R) = .ok (.int y) (b3 :: R) := e3
  have e4' : callF D G (k + 1) 7 [.ref 0, .int 5] (b3 :: R) = .ok (.int z) (b4 :: R) := e4
  have hmul : ∀ S : Store, binOp false .mul (.int 5) (.int 1000000000000) S = .ok (.int 5000000000000) S := fun S => by
    rw [mul_int, if_pos (by decide +kernel)]
    rfl
  have n0 : normI 2 0 = some 0 := rfl
  have n1 : normI 2 1 = some 1 := rfl
  by_cases h0 : z = 0
  · rw [if_pos h0] at hq
    subst hq
    have hz' : ((z : Int) == 0) = true := by simp [h0]
    simp [SZ, e1', e2', e3', e4', hmul, n0, n1, hz']
  · rw [if_neg h0] at hq
    subst hq
    have hz' : ((z : Int) == 0) = false := by simp [h0]
    simp [SZ, e1', e2', e3', e4', hmul, n0, n1, hz']
def r454 : MP.S := S.seq (S.ite (E.cmp (CmpO.eq) (E.var 6) (E.lit (PV.int 0))) (S.seq (S.ret (E.tup (E.cons (E.call 8 (E.cons (E.var 0) (E.cons (E.list false (E.cons (E.lit (PV.str [112, 117, 115, 104])) (E.cons (E.lit (PV.str [115, 99, 97, 108, 101])) (E.nil)))) (E.nil)))) (E.cons (E.prim false (Prim.max) (E.cons (E.bin false (BinO.sub) (E.lit (PV.int 0)) (E.bin false (BinO.pow) (E.lit (PV.int 10)) (E.lit (PV.int 12)))) (E.cons (E.prim false (Prim.min) (E.cons (E.bin false (BinO.pow) (E.lit (PV.int 10)) (E.lit (PV.int 12))) (E.cons (E.var 7) (E.nil)))) (E.nil)))) (E.nil))))) (S.skip)) (S.skip)) (S.seq (S.ite (E.cmp (CmpO.eq) (E.var 6) (E.lit (PV.int 1))) (S.seq (S.ret (E.tup (E.cons (E.call 8 (E.cons (E.var 0) (E.cons (E.list false (E.cons (E.lit (PV.str [100, 105, 118])) (E.cons (E.lit (PV.str [109, 111, 100])) (E.nil)))) (E.nil)))) (E.cons (E.bin false (BinO.add) (E.lit (PV.int 2)) (E.call 7 (E.cons (E.var 0) (E.cons (E.lit (PV.int 9)) (E.nil))))) (E.nil))))) (S.skip)) (S.skip)) (S.seq (S.ite (E.and (E.cmp (CmpO.isin) (E.var 6) (E.list false (E.cons (E.lit (PV.int 2)) (E.cons (E.lit (PV.int 3)) (E.nil))))) (E.cmp (CmpO.gt) (E.var 3) (E.lit (PV.int 0)))) (S.seq (S.ret (E.tup (E.cons (E.idx (E.list false (E.cons (E.lit (PV.str [108, 111, 97, 100])) (E.cons (E.lit (PV.str [115, 116, 111, 114, 101])) (E.nil)))) (E.bin false (BinO.sub) (E.var 6) (E.lit (PV.int 2)))) (E.cons (E.call 7 (E.cons (E.var 0) (E.cons (E.var 3) (E.nil)))) (E.nil))))) (S.skip)) (S.skip)) (S.seq (S.ite (E.and (E.cmp (CmpO.isin) (E.var 6) (E.list false (E.cons (E.lit (PV.int 4)) (E.cons (E.lit (PV.int 5)) (E.nil))))) (E.cmp (CmpO.gt) (E.var 4) (E.lit (PV.int 0)))) (S.seq (S.ret (E.tup (E.cons (E.call 8 (E.cons (E.var 0) (E.cons (E.list false (E.cons (E.lit (PV.str [114, 101, 97, 100])) (E.cons (E.lit (PV.str [119, 114, 105, 116, 101])) (E.cons (E.lit (PV.str [108, 101, 110, 103, 116, 104])) (E.cons (E.lit (PV.str [110, 101, 119])) (E.nil)))))) (E.nil)))) (E.cons (E.call 7 (E.cons (E.var 0) (E.cons (E.var 4) (E.nil)))) (E.nil))))) (S.skip)) (S.skip)) (S.seq (S.ite (E.cmp (CmpO.isin) (E.var 6) (E.list false (E.cons (E.lit (PV.int 6)) (E.cons (E.lit (PV.int 7)) (E.nil))))) (S.seq (S.ret (E.tup (E.cons (E.call 8 (E.cons (E.var 0) (E.cons (E.list false (E.cons (E.lit (PV.str [106, 117, 109, 112])) (E.cons (E.lit (PV.str [108, 101, 115, 115])) (E.cons (E.lit (PV.str [115, 97, 109, 101])) (E.nil))))) (E.nil)))) (E.cons (E.call 7 (E.cons (E.var 0) (E.cons (E.var 1) (E.nil)))) (E.nil))))) (S.skip)) (S.skip)) (S.seq (S.ite (E.and (E.cmp (CmpO.eq) (E.var 6) (E.lit (PV.int 8))) (E.cmp (CmpO.gt) (E.var 5) (E.lit (PV.int 0)))) (S.seq (S.asg (Tgt.nm 8) (E.slice false (E.call 57 (E.cons (E.var 0) (E.cons (E.lrng false false (E.lit (PV.int 0)) (E.var 4)) (E.nil)))) (E.lit (PV.non)) (E.call 7 (E.cons (E.var 0) (E.cons (E.bin false (BinO.add) (E.var 4) (E.lit (PV.int 1))) (E.nil)))) false true)) (S.seq (S.ret (E.tup (E.cons (E.lit (PV.str [99, 97, 108, 108])) (E.cons (E.call 7 (E.cons (E.var 0) (E.cons (E.var 5) (E.nil)))) (E.cons (E.prim false (Prim.tuple) (E.cons (E.var 8) (E.nil))) (E.nil)))))) (S.skip))) (S.skip)) (S.seq (S.ret (E.tup (E.cons (E.call 8 (E.cons (E.var 0) (E.cons (E.list false (E.cons (E.lit (PV.str [97, 100, 100])) (E.cons (E.lit (PV.str [115, 117, 98])) (E.cons (E.lit (PV.str [108, 111, 111, 112])) (E.cons (E.lit (PV.str [116, 101, 108, 108])) (E.nil)))))) (E.nil)))) (E.nil)))) (S.skip)))))))
theorem t454_eq : t454 = .seq (.asg (.tp [3, 4, 5]) (.var 2)) (.seq (.asg (.nm 6) (.call 7 (.cons (.var 0) (.cons (.lit (.int 12)) .nil)))) (.seq (.asg (.nm 7) (.idx (.list false (.cons (.bin false .sub (.call 7 (.cons (.var 0) (.cons (.lit (.int 21)) .nil))) (.lit (.int 10))) (.cons (.bin false .sub (.call 7 (.cons (.var 0) (.cons (.bin false .pow (.lit (.int 10)) (.lit (.int 13))) .nil))) (.bin false .mul (.lit (.int 5)) (.bin false .pow (.lit (.int 10)) (.lit (.int 12))))) .nil))) (.prim false .int (.cons (.cmp .eq (.call 7 (.cons (.var 0) (.cons (.lit (.int 5)) .nil))) (.lit (.int 0))) .nil)))) r454)) := rfl
/-- what a draw of a row owes -/
def Gives (ns : List Int) (R : Store) (M : Nat) (r : Res PV) : Prop := ∃ (w : Row) (a' : MO), r = .ok w.pv (a' :: R) ∧ w.Ok ∧ w.Fit ∧ w.Sm ∧ St ns M a'
theorem lastwords {ns : List Int} {R : Store} {a : MO} {m : Nat} (s : St ns m a) (hm : m < 1000000) : ∃ (w : List Nat) (a' : MO), callF D G (k + 2) 8 [.ref 0, .vl [.str [97, 100, 100], .str [115, 117, 98], .str [108, 111, 111, 112], .str [116, 101, 108, 108]]] (a :: R) = .ok (.str w) (a' :: R) ∧ w ∈ W18 ∧ w ≠ callW ∧ argsOf w = 0 ∧ St ns (m + 1) a' := by
  obtain ⟨v, a', e, hv, s'⟩ := one_of (k := k) (G := G) d7 d8 (R := R) (xs := [.str [97, 100, 100], .str [115, 117, 98], .str [108, 111, 111, 112], .str [116, 101, 108, 108]]) s (by omega) (by simp) (by simp)
  simp only [List.mem_cons, List.not_mem_nil, or_false] at hv
  rcases hv with rfl | rfl | rfl | rfl
  all_goals exact ⟨_, a', e, by decide, by decide, by decide, s'⟩
theorem words1 {ns : List Int} {R : Store} {a : MO} {m : Nat} {ws : List (List Nat)} (s : St ns m a) (hm : m < 1000000) (h0 : ws ≠ []) (hl : ws.length ≤ 10) (h : (ws.all fun w => decide (w ∈ W18) && decide (w ≠ callW) && decide (argsOf w = 1)) = true) : ∃ (w : List Nat) (a' : MO), callF D G (k + 2) 8 [.ref 0, .vl (ws.map .str)] (a :: R) = .ok (.str w) (a' :: R) ∧ w ∈ W18 ∧ w ≠ callW ∧ argsOf w = 1 ∧ St ns (m + 1) a' := by
  obtain ⟨v, a', e, hv, s'⟩ := one_of (k := k) (G := G) d7 d8 (R := R) (xs := ws.map .str) s (by omega) (by simpa using h0) (by rw [List.length_map]; omega)
  obtain ⟨w, hw, rfl⟩ := List.mem_map.mp hv
  have := List.all_eq_true.mp h w hw
  simp only [Bool.and_eq_true, decide_eq_true_eq] at this
  exact ⟨w, a', e, this.1.1, this.1.2, this.2, s'⟩
theorem row_p0 {ns : List Int} {R : Store} {a : MO} {m : Nat} {pl inn sl ca q : Int} (s : St ns m a) (hm : m < 1000000) :
    Gives ns R (m + 1) (ofBody (exS (callF D G (k + 2)) G r454 [some (.ref 0), some (.int pl), some (.tup [.int inn, .int sl, .int ca]), some (.int inn), some (.int sl), some (.int ca), some (.int 0), some (.int q), none] (a :: R))) := by
  obtain ⟨w, a', e, h1, h2, h3, s'⟩ := words1 (k := k) (R := R) (ws := [[112, 117, 115, 104], [115, 99, 97, 108, 101]]) s hm (by simp) (by simp) (by decide)
  generalize hn : (if (if q < 1000000000000 then q else 1000000000000) > -1000000000000 then (if q < 1000000000000 then q else 1000000000000) else (-1000000000000 : Int)) = n
  have hb : n.natAbs ≤ 10000000000000 := by
    rw [← hn]
    split <;> split <;> omega
  obtain ⟨o1, o2, o3⟩ := one_ok h1 h2 h3 hb
  refine ⟨.one w [n], a', ?_, o1, o2, o3, s'⟩
  unfold r454
  simp only [List.map_cons, List.map_nil] at e
  simp only [gt_iff_lt] at hn
  simp [SZ, e, hn, Row.pv]
theorem row_p1 {ns : List Int} {R : Store} {a : MO} {m : Nat} {pl inn sl ca q : Int} (s : St ns m a) (hm : m < 1000000) :
    Gives ns R (m + 2) (ofBody (exS (callF D G (k + 2)) G r454 [some (.ref 0), some (.int pl), some (.tup [.int inn, .int sl, .int ca]), some (.int inn), some (.int sl), some (.int ca), some (.int 1), some (.int q), none] (a :: R))) := by
  obtain ⟨w, a', e, h1, h2, h3, s'⟩ := words1 (k := k) (R := R) (ws := [[100, 105, 118], [109, 111, 100]]) s hm (by simp) (by simp) (by decide)
  obtain ⟨x, a2, e2, hx, s2⟩ := draw (k := k + 1) (G := G) d7 (R := R) s' (by omega) 9 (by omega) (by omega)
  have e2' : callF D G (k + 2) 7 [.ref 0, .int 9] (a' :: R) = .ok (.int x) (a2 :: R) := e2
  obtain ⟨o1, o2, o3⟩ := one_ok (n := 2 + (x : Int)) h1 h2 h3 (by omega)
  refine ⟨.one w [2 + (x : Int)], a2, ?_, o1, o2, o3, s2⟩
  unfold r454
  simp only [List.map_cons, List.map_nil] at e
  simp [SZ, e, e2', Row.pv]
theorem row_p2 {ns : List Int} {R : Store} {a : MO} {m : Nat} {inn : Nat} {pl sl ca q : Int} (s : St ns m a) (hm : m < 1000000) (h0 : 0 < inn) (hi : inn ≤ 10) :
    Gives ns R (m + 1) (ofBody (exS (callF D G (k + 2)) G r454 [some (.ref 0), some (.int pl), some (.tup [.int inn, .int sl, .int ca]), some (.int inn), some (.int sl), some (.int ca), some (.int 2), some (.int q), none] (a :: R))) := by
  obtain ⟨x, a2, e2, hx, s2⟩ := draw (k := k + 1) (G := G) d7 (R := R) s (by omega) inn h0 (by omega)
  obtain ⟨o1, o2, o3⟩ := one_ok (w := [108, 111, 97, 100]) (n := (x : Int)) (by decide) (by decide) (by decide) (by omega)
  refine ⟨.one [108, 111, 97, 100] [(x : Int)], a2, ?_, o1, o2, o3, s2⟩
  unfold r454
  have n0 : normI 2 0 = some 0 := rfl
  have n1 : normI 2 1 = some 1 := rfl
  simp [SZ, e2, h0, n0, n1, Row.pv]
theorem row_p3 {ns : List Int} {R : Store} {a : MO} {m : Nat} {inn : Nat} {pl sl ca q : Int} (s : St ns m a) (hm : m < 1000000) (h0 : 0 < inn) (hi : inn ≤ 10) :
    Gives ns R (m + 1) (ofBody (exS (callF D G (k + 2)) G r454 [some (.ref 0), some (.int pl), some (.tup [.int inn, .int sl, .int ca]), some (.int inn), some (.int sl), some (.int ca), some (.int 3), some (.int q), none] (a :: R))) := by
  obtain ⟨x, a2, e2, hx, s2⟩ := draw (k := k + 1) (G := G) d7 (R := R) s (by omega) inn h0 (by omega)
  obtain ⟨o1, o2, o3⟩ := one_ok (w := [115, 116, 111, 114, 101]) (n := (x : Int)) (by decide) (by decide) (by decide) (by omega)
  refine ⟨.one [115, 116, 111, 114, 101] [(x : Int)], a2, ?_, o1, o2, o3, s2⟩
  unfold r454
  have n0 : normI 2 0 = some 0 := rfl
  have n1 : normI 2 1 = some 1 := rfl
  simp [SZ, e2, h0, n0, n1, Row.pv]
theorem row_p4 {ns : List Int} {R : Store} {a : MO} {m : Nat} {sl : Nat} {pl inn ca q : Int} (s : St ns m a) (hm : m < 1000000) (h0 : 0 < sl) (hi : sl ≤ 10) :
    Gives ns R (m + 2) (ofBody (exS (callF D G (k + 2)) G r454 [some (.ref 0), some (.int pl), some (.tup [.int inn, .int sl, .int ca]), some (.int inn), some (.int sl), some (.int ca), some (.int 4), some (.int q), none] (a :: R))) := by
  obtain ⟨w, a', e, h1, h2, h3, s'⟩ := words1 (k := k) (R := R) (ws := [[114, 101, 97, 100], [119, 114, 105, 116, 101], [108, 101, 110, 103, 116, 104], [110, 101, 119]]) s hm (by simp) (by simp) (by decide)
  obtain ⟨x, a2, e2, hx, s2⟩ := draw (k := k + 1) (G := G) d7 (R := R) s' (by omega) sl h0 (by omega)
  obtain ⟨o1, o2, o3⟩ := one_ok (n := (x : Int)) h1 h2 h3 (by omega)
  refine ⟨.one w [(x : Int)], a2, ?_, o1, o2, o3, s2⟩
  unfold r454
  simp only [List.map_cons, List.map_nil] at e
  simp [SZ, e, e2, h0, Row.pv]
theorem row_p5 {ns : List Int} {R : Store} {a : MO} {m : Nat} {sl : Nat} {pl inn ca q : Int} (s : St ns m a) (hm : m < 1000000) (h0 : 0 < sl) (hi : sl ≤ 10) :
    Gives ns R (m + 2) (ofBody (exS (callF D G (k + 2)) G r454 [some (.ref 0), some (.int pl), some (.tup [.int inn, .int sl, .int ca]), some (.int inn), some (.int sl), some (.int ca), some (.int 5), some (.int q), none] (a :: R))) := by
  obtain ⟨w, a', e, h1, h2, h3, s'⟩ := words1 (k := k) (R := R) (ws := [[114, 101, 97, 100], [119, 114, 105, 116, 101], [108, 101, 110, 103, 116, 104], [110, 101, 119]]) s hm (by simp) (by simp) (by decide)
  obtain ⟨x, a2, e2, hx, s2⟩ := draw (k := k + 1) (G := G) d7 (R := R) s' (by omega) sl h0 (by omega)
  obtain ⟨o1, o2, o3⟩ := one_ok (n := (x : Int)) h1 h2 h3 (by omega)
  refine ⟨.one w [(x : Int)], a2, ?_, o1, o2, o3, s2⟩
  unfold r454
  simp only [List.map_cons, List.map_nil] at e
  simp [SZ, e, e2, h0, Row.pv]
theorem row_p6 {ns : List Int} {R : Store} {a : MO} {m : Nat} {pl : Nat} {inn sl ca q : Int} (s : St ns m a) (hm : m < 1000000) (h0 : 0 < pl) (hi : pl ≤ 10) :
    Gives ns R (m + 2) (ofBody (exS (callF D G (k + 2)) G r454 [some (.ref 0), some (.int pl), some (.tup [.int inn, .int sl, .int ca]), some (.int inn), some (.int sl), some (.int ca), some (.int 6), some (.int q), none] (a :: R))) := by
  obtain ⟨w, a', e, h1, h2, h3, s'⟩ := words1 (k := k) (R := R) (ws := [[106, 117, 109, 112], [108, 101, 115, 115], [115, 97, 109, 101]]) s hm (by simp) (by simp) (by decide)
  obtain ⟨x, a2, e2, hx, s2⟩ := draw (k := k + 1) (G := G) d7 (R := R) s' (by omega) pl h0 (by omega)
  obtain ⟨o1, o2, o3⟩ := one_ok (n := (x : Int)) h1 h2 h3 (by omega)
  refine ⟨.one w [(x : Int)], a2, ?_, o1, o2, o3, s2⟩
  unfold r454
  simp only [List.map_cons, List.map_nil] at e
  simp [SZ, e, e2, Row.pv]
theorem row_p7 {ns : List Int} {R : Store} {a : MO} {m : Nat} {pl : Nat} {inn sl ca q : Int} (s : St ns m a) (hm : m < 1000000) (h0 : 0 < pl) (hi : pl ≤ 10) :
    Gives ns R (m + 2) (ofBody (exS (callF D G (k + 2)) G r454 [some (.ref 0), some (.int pl), some (.tup [.int inn, .int sl, .int ca]), some (.int inn), some (.int sl), some (.int ca), some (.int 7), some (.int q), none] (a :: R))) := by
  obtain ⟨w, a', e, h1, h2, h3, s'⟩ := words1 (k := k) (R := R) (ws := [[106, 117, 109, 112], [108, 101, 115, 115], [115, 97, 109, 101]]) s hm (by simp) (by simp) (by decide)
  obtain ⟨x, a2, e2, hx, s2⟩ := draw (k := k + 1) (G := G) d7 (R := R) s' (by omega) pl h0 (by omega)
  obtain ⟨o1, o2, o3⟩ := one_ok (n := (x : Int)) h1 h2 h3 (by omega)
  refine ⟨.one w [(x : Int)], a2, ?_, o1, o2, o3, s2⟩
  unfold r454
  simp only [List.map_cons, List.map_nil] at e
  simp [SZ, e, e2, Row.pv]
theorem row_last {ns : List Int} {R : Store} {a : MO} {m p : Nat} {inn sl ca : Nat} {pl q : Int} (s : St ns m a) (hm : m < 1000000) (hp : p < 12) (h : (p = 2 ∧ inn = 0) ∨ (p = 3 ∧ inn = 0) ∨ (p = 4 ∧ sl = 0) ∨ (p = 5 ∧ sl = 0) ∨ (p = 8 ∧ ca = 0) ∨ p = 9 ∨ p = 10 ∨ p = 11) :
    Gives ns R (m + 1) (ofBody (exS (callF D G (k + 2)) G r454 [some (.ref 0), some (.int pl), some (.tup [.int inn, .int sl, .int ca]), some (.int inn), some (.int sl), some (.int ca), some (.int p), some (.int q), none] (a :: R))) := by
  obtain ⟨w, a', e, h1, h2, h3, s'⟩ := lastwords (k := k) (R := R) s hm
  obtain ⟨o1, o2, o3⟩ := none_ok h1 h2 h3
  refine ⟨.one w [], a', ?_, o1, o2, o3, s'⟩
  unfold r454
  rcases h with ⟨rfl, rfl⟩ | ⟨rfl, rfl⟩ | ⟨rfl, rfl⟩ | ⟨rfl, rfl⟩ | ⟨rfl, rfl⟩ | rfl | rfl | rfl
  all_goals simp [SZ, e, Row.pv]
theorem slice_vl_to {w : Bool} {xs : List PV} {j : Nat} {lo : PV} {T : Store} : sliceOp w false true (.vl xs) lo (.int j) T = newL w (xs.take j) T := by
  have e : clipI xs.length xs.length true (.int (j : Nat)) = some (min j xs.length) := by
    show some (if (j : Int) < 0 then _ else min (j : Int).toNat xs.length) = _
    rw [if_neg (by omega)]
    rfl
  show (match some 0, clipI xs.length xs.length true (.int (j : Nat)) with
    | some a, some b => newL w (cut xs a b) T
    | _, _ => .bad) = _
  rw [e]
  show newL w ((xs.drop 0).take (min j xs.length - 0)) T = _
  rw [List.drop_zero, Nat.sub_zero]
  congr 1
  rcases Nat.le_total j xs.length with h | h
  · rw [Nat.min_eq_left h]
  · rw [Nat.min_eq_right h, List.take_length, List.take_of_length_le h]
theorem row_p8 {ns : List Int} {R : Store} {a : MO} {m : Nat} {sl ca : Nat} {pl inn q : Int} (s : St ns m a) (hm : m < 1000000) (h0 : 0 < ca) (hc : ca ≤ 10) (hs : sl ≤ 10) :
    Gives ns R (m + 20) (ofBody (exS (callF D G (k + 2)) G r454 [some (.ref 0), some (.int pl), some (.tup [.int inn, .int sl, .int ca]), some (.int inn), some (.int sl), some (.int ca), some (.int 8), some (.int q), none] (a :: R))) := by
  obtain ⟨f, a1, e1, l1, m1, s1⟩ := shuffled (k := k) (G := G) d7 d57 (R := R) (its := (List.range sl).map fun i : Nat => (i : Int)) s (by simp; omega) (by omega)
  obtain ⟨x, a2, e2, hx, s2⟩ := draw (k := k + 1) (G := G) d7 (R := R) s1 (by simp; omega) (sl + 1) (by omega) (by omega)
  obtain ⟨y, a3, e3, hy, s3⟩ := draw (k := k + 1) (G := G) d7 (R := R) s2 (by simp; omega) ca h0 (by omega)
  have hf : ∀ z ∈ f.take x, z.natAbs ≤ 10000000000000 := fun z hz => by
    have := m1 z (List.mem_of_mem_take hz)
    obtain ⟨i, hi, rfl⟩ := List.mem_map.mp this
    have := List.mem_range.mp hi
    omega
  have hlen : (f.take x).length ≤ 30 := by
    rw [List.length_take, l1]
    simp
    omega
  refine ⟨.call y (f.take x), a3, ?_, ⟨by omega, hlen, fun z hz => by have := hf z hz; omega⟩, trivial, fun z hz => ?_, s3.mono (by simp; omega)⟩
  · unfold r454
    have e2' : callF D G (k + 2) 7 [.ref 0, .int ((sl : Int) + 1)] (a1 :: R) = .ok (.int x) (a2 :: R) := e2
    have hr : rgOp false false (.int 0) (.int sl) (a :: R) = .ok (.vl (((List.range sl).map fun i : Nat => (i : Int)).map .int)) (a :: R) := by
      have hb : rgB 0 sl = true := by
        have h1 : (sl : Int) < 4611686018427387904 := by omega
        have h2 : -4611686018427387904 ≤ (sl : Int) := by omega
        have h3 : ((sl : Int) - 0).toNat ≤ 16777216 := by omega
        simp only [rgB, h1, h2, h3, decide_true, Bool.and_true]
        decide
      have e0 : ((sl : Int) - 0).toNat = sl := by omega
      have hg : rgL 0 sl = ((List.range sl).map fun i : Nat => (i : Int)).map .int := by
        unfold rgL
        rw [e0, List.map_map]
        exact List.map_congr_left fun i _ => by simp
      show (if rgB 0 sl = true then (if false = true then Res.ok (.tup (rgL 0 sl)) (a :: R) else newL false (rgL 0 sl) (a :: R)) else Res.bad) = _
      rw [hb, hg]
      rfl
    have ht : (f.map PV.int).take x = (f.take x).map .int := by rw [List.map_take]
    have hsl := slice_vl_to (w := false) (xs := f.map .int) (j := x) (lo := .non) (T := a2 :: R)
    rw [ht] at hsl
    simp [SZ, hr, e1, e2', e3, h0, hsl, Row.pv, callW, -List.map_map]
  · rcases List.mem_cons.mp hz with e | e
    · subst e; omega
    · exact hf z e
theorem Gives.mono {ns : List Int} {R : Store} {M M' : Nat} {r : Res PV} (h : Gives ns R M r) (l : M ≤ M') : Gives ns R M' r := by
  obtain ⟨w, a', e, h1, h2, h3, s⟩ := h
  exact ⟨w, a', e, h1, h2, h3, s.mono l⟩
theorem some_row {ns : List Int} {R : Store} {a : MO} {m pl inn sl ca : Nat} (s : St ns m a) (hm : m < 900000) (h1 : 0 < pl) (h2 : pl ≤ 10) (h3 : inn ≤ 10) (h4 : sl ≤ 10) (h5 : ca ≤ 10) :
    Gives ns R (m + 30) (callF D G (k + 3) 454 [.ref 0, .int pl, .tup [.int inn, .int sl, .int ca]] (a :: R)) := by
  obtain ⟨p, x, y, z, a1, hp, hx, hy, hz, s1, key⟩ := some_row01 (k := k + 1) (R := R) (places := pl) (inner := inn) (slots := sl) (called := ca) s (by omega)
  have kk := key r454 _ rfl
  generalize (if z = 0 then (y : Int) - 5000000000000 else (x : Int) - 10) = q at kk
  have g : Gives ns R (m + 30) (ofBody (exS (callF D G (k + 2)) G r454 [some (.ref 0), some (.int pl), some (.tup [.int inn, .int sl, .int ca]), some (.int inn), some (.int sl), some (.int ca), some (.int p), some (.int q), none] (a1 :: R))) := by
    have hlast : ((p = 2 ∧ inn = 0) ∨ (p = 3 ∧ inn = 0) ∨ (p = 4 ∧ sl = 0) ∨ (p = 5 ∧ sl = 0) ∨ (p = 8 ∧ ca = 0) ∨ p = 9 ∨ p = 10 ∨ p = 11) ∨ p = 0 ∨ p = 1 ∨ (p = 2 ∧ 0 < inn) ∨ (p = 3 ∧ 0 < inn) ∨ (p = 4 ∧ 0 < sl) ∨ (p = 5 ∧ 0 < sl) ∨ p = 6 ∨ p = 7 ∨ (p = 8 ∧ 0 < ca) := by omega
    rcases hlast with h | rfl | rfl | ⟨rfl, h⟩ | ⟨rfl, h⟩ | ⟨rfl, h⟩ | ⟨rfl, h⟩ | rfl | rfl | ⟨rfl, h⟩
    · exact (row_last s1 (by omega) hp h).mono (by omega)
    · exact (row_p0 s1 (by omega)).mono (by omega)
    · exact (row_p1 s1 (by omega)).mono (by omega)
    · exact (row_p2 s1 (by omega) h h3).mono (by omega)
    · exact (row_p3 s1 (by omega) h h3).mono (by omega)
    · exact (row_p4 s1 (by omega) h h4).mono (by omega)
    · exact (row_p5 s1 (by omega) h h4).mono (by omega)
    · exact (row_p6 s1 (by omega) h1 h2).mono (by omega)
    · exact (row_p7 s1 (by omega) h1 h2).mono (by omega)
    · exact (row_p8 s1 (by omega) h h5 h4).mono (by omega)
  obtain ⟨w, a', e, o1, o2, o3, s'⟩ := g
  refine ⟨w, a', ?_, o1, o2, o3, s'⟩
  rw [call_of d454 rfl, t454_eq]
  have kk' : exS (callF D G (k + 2)) G (.seq (.asg (.tp [3, 4, 5]) (.var 2)) (.seq (.asg (.nm 6) (.call 7 (.cons (.var 0) (.cons (.lit (.int 12)) .nil)))) (.seq (.asg (.nm 7) (.idx (.list false (.cons (.bin false .sub (.call 7 (.cons (.var 0) (.cons (.lit (.int 21)) .nil))) (.lit (.int 10))) (.cons (.bin false .sub (.call 7 (.cons (.var 0) (.cons (.bin false .pow (.lit (.int 10)) (.lit (.int 13))) .nil))) (.bin false .mul (.lit (.int 5)) (.bin false .pow (.lit (.int 10)) (.lit (.int 12))))) .nil))) (.prim false .int (.cons (.cmp .eq (.call 7 (.cons (.var 0) (.cons (.lit (.int 5)) .nil))) (.lit (.int 0))) .nil)))) r454)))
      (startE 9 [.ref 0, .int pl, .tup [.int inn, .int sl, .int ca]]) (a :: R) = _ := kk
  rw [kk', e]
  exact letGo_same rfl
end MP.K10

set_option Elab.async false
set_option linter.all false
set_option maxRecDepth 100000
set_option maxHeartbeats 8000000
/-! k10: parts of the law -/
namespace MP.K10
open MP
variable {k : Nat}
theorem sm_log {n : Int} (h : n.natAbs ≤ 10000000000000) : n.natAbs.log2 ≤ 50 := by
  have := log2_lt_of (a := n.natAbs) (n := 51) (by omega) (by decide)
  omega
theorem ints_dd {ns : List Int} {j : Nat} (h : ∀ n ∈ ns, n.natAbs ≤ 10000000000000) : dds 50 j (ns.map .int) = true := dds_of fun x hx => by
  obtain ⟨n, hn, rfl⟩ := List.mem_map.mp hx
  exact dd_int (sm_log (h n hn))
theorem word_dd {w : List Nat} {j : Nat} (h : w ∈ W18) : dd 50 j (.str w) = true := by
  have h1 := w18_len h
  have h2 : (W18.all fun w => w.all fun c => decide (c < 1114112)) = true := by decide
  exact dd_str (by omega) fun c hc => of_decide_eq_true (List.all_eq_true.mp (List.all_eq_true.mp h2 w h) c hc)
/-- a drawn row is data -/
theorem row_dd {r : Row} (h : r.Ok) (hs : r.Sm) : dd 50 2 r.pv = true := by
  have hl := nums_len h
  cases r with
  | one w ns =>
    have hl : ns.length ≤ 31 := hl
    refine dd_tupI (by rw [List.length_cons, List.length_map]; omega) (dds_of fun x hx => ?_)
    rcases List.mem_cons.mp hx with e | e
    · rw [e]; exact word_dd h.1
    · exact dds_mem (ints_dd hs) x e
  | call f ns =>
    have hl : ns.length + 1 ≤ 31 := hl
    refine dd_tupI (by simp) (dds_of fun x hx => ?_)
    simp only [List.mem_cons, List.not_mem_nil, or_false] at hx
    rcases hx with rfl | rfl | rfl
    · exact word_dd call_w18
    · exact dd_int (sm_log (hs f List.mem_cons_self))
    · exact dd_tupI (by rw [List.length_map]; omega) (ints_dd fun n hn => hs n (List.mem_cons_of_mem _ hn))
/-- the law's own text -/
theorem ltext {x : Nat} {σ : Nv} {rs : List Row} (h : ∀ r ∈ rs, r.Ok) (hl : rs.length ≤ 400) (T : Store) (hv : ∀ r : Row, ev (callF D G (k + 1)) G (.call 457 (.cons (.var x) .nil)) (σ.set x (some r.pv)) T = callF D G (k + 1) 457 [r.pv] T) :
    compO true (some (.items (rs.map Row.pv))) (.nm x) (evT (callF D G (k + 1)) G (.lit (.bl true))) (ev (callF D G (k + 1)) G (.bin false .add (.call 457 (.cons (.var x) .nil)) (.lit (.str [10])))) σ T = .ok ((rs.map fun r => r.txt ++ [10]).map .str) T := by
  rw [List.map_map]
  refine compO_map (l := rs) (g := Row.pv) (f := PV.str ∘ fun r => r.txt ++ [10]) (by show _ ≤ 16777216; omega) fun r hr => ⟨_, rfl, by simp, ?_⟩
  have ht := lrow_text (k := k) (h r hr) T
  have hl := txt_len (h r hr)
  have hz : r.txt.length + 1 ≤ SZ := by show _ ≤ 16777216; omega
  rw [ev_bin, hv, ht, bind_ok, ev_lit, bind_ok, add_str, if_pos (by simpa using hz)]
  rfl
end MP.K10

set_option Elab.async false
set_option linter.all false
set_option maxRecDepth 100000
set_option maxHeartbeats 8000000
/-! k10: the law's check of one datum at one triple of sizes -/
namespace MP.K10
open MP
variable {k : Nat}
theorem chk {σ : Nv} {v : PV} {L n : Nat} {i s c : Int} {T : Store} (h : cd L n v = true) (hn : n ≤ 60) (hL : L < 64) (hi : i ≤ 1000000000000) (hs : s ≤ 1000000000000) (hc : c ≤ 1000000000000) (h8 : slotV σ[8]? = some v) (h9 : slotV σ[9]? = some (.tup [.int i, .int s, .int c])) :
    exS (callF D G (k + 5)) G (.seq (.ite (.not (.call 61 (.cons (.call 450 (.cons (.var 8) (.cons (.idx (.var 9) (.lit (.int 0))) (.cons (.idx (.var 9) (.lit (.int 1))) (.cons (.idx (.var 9) (.lit (.int 2))) .nil))))) (.cons (.call 120 (.cons (.var 8) (.cons (.var 9) .nil))) .nil)))) (.seq (.ret (.lit (.bl false))) .skip) .skip) .skip) σ T = .ok (.next σ) T := by
  obtain ⟨b, e1, e2, e3⟩ := says_code (k := k) v h hn hL hi hs hc T
  have n0 : normI 3 0 = some 0 := rfl
  simp [h8, h9, e1, e2, e3, n0, norm_3_1, norm_3_2]
variable {x0 x1 x2 x4 x5 x6 x7 x10 x11 x12 x13 x14 x15 : Option PV}
/-- one datum at three triples -/
theorem chk3 {v : PV} {L n : Nat} {i s c : Int} {T : Store} {y9 : Option PV} (h : cd L n v = true) (hn : n ≤ 60) (hL : L < 64) (hi : 0 ≤ i ∧ i ≤ 1000) (hs : 0 ≤ s ∧ s ≤ 1000) (hc : 0 ≤ c ∧ c ≤ 1000) :
    ∃ z9, exS (callF D G (k + 5)) G (.seq (.loop (.nm 9) .plain (.cons (.list false (.cons (.var 3) (.cons (.tup (.cons (.bin false .add (.idx (.var 3) (.lit (.int 0))) (.lit (.int 1))) (.cons (.idx (.var 3) (.lit (.int 1))) (.cons (.lit (.int 2)) .nil)))) (.cons (.tup (.cons (.idx (.var 3) (.lit (.int 0))) (.cons (.prim false .max (.cons (.lit (.int 0)) (.cons (.bin false .sub (.idx (.var 3) (.lit (.int 1))) (.lit (.int 1))) .nil))) (.cons (.idx (.var 3) (.lit (.int 2))) .nil)))) .nil)))) .nil) (.seq (.ite (.not (.call 61 (.cons (.call 450 (.cons (.var 8) (.cons (.idx (.var 9) (.lit (.int 0))) (.cons (.idx (.var 9) (.lit (.int 1))) (.cons (.idx (.var 9) (.lit (.int 2))) .nil))))) (.cons (.call 120 (.cons (.var 8) (.cons (.var 9) .nil))) .nil)))) (.seq (.ret (.lit (.bl false))) .skip) .skip) .skip)) .skip) [x0, x1, x2, some (.tup [.int i, .int s, .int c]), x4, x5, x6, x7, some v, y9, x10, x11, x12, x13, x14, x15] T = .ok (.next [x0, x1, x2, some (.tup [.int i, .int s, .int c]), x4, x5, x6, x7, some v, z9, x10, x11, x12, x13, x14, x15]) T := by
  have hv : slotV (some (some v)) = some v := by cases v <;> first | rfl | (exfalso; simp [cd, dd] at h)
  generalize hm : (if 1 < s then s - 1 else (0 : Int)) = q
  have hq : q ≤ 1000 := by rw [← hm]; split <;> omega
  have a1 := chk (k := k) (σ := [x0, x1, x2, some (.tup [.int i, .int s, .int c]), x4, x5, x6, x7, some v, some (.tup [.int i, .int s, .int c]), x10, x11, x12, x13, x14, x15]) (i := i) (s := s) (c := c) (T := T) h hn hL (by omega) (by omega) (by omega) (by simpa using hv) (by simp)
  have a2 := chk (k := k) (σ := [x0, x1, x2, some (.tup [.int i, .int s, .int c]), x4, x5, x6, x7, some v, some (.tup [.int (i + 1), .int s, .int 2]), x10, x11, x12, x13, x14, x15]) (i := i + 1) (s := s) (c := 2) (T := T) h hn hL (by omega) (by omega) (by omega) (by simpa using hv) (by simp)
  have a3 := chk (k := k) (σ := [x0, x1, x2, some (.tup [.int i, .int s, .int c]), x4, x5, x6, x7, some v, some (.tup [.int i, .int q, .int c]), x10, x11, x12, x13, x14, x15]) (i := i) (s := q) (c := c) (T := T) h hn hL (by omega) (by omega) (by omega) (by simpa using hv) (by simp)
  refine ⟨some (.tup [.int i, .int q, .int c]), ?_⟩
  have n0 : normI 3 0 = some 0 := rfl
  generalize hB : exS (callF D G (k + 5)) G (.seq (.ite (.not (.call 61 (.cons (.call 450 (.cons (.var 8) (.cons (.idx (.var 9) (.lit (.int 0))) (.cons (.idx (.var 9) (.lit (.int 1))) (.cons (.idx (.var 9) (.lit (.int 2))) .nil))))) (.cons (.call 120 (.cons (.var 8) (.cons (.var 9) .nil))) .nil)))) (.seq (.ret (.lit (.bl false))) .skip) .skip) .skip) = B at a1 a2 a3
  simp [SZ, n0, norm_3_1, norm_3_2, loopO_L, hB, a1, a2, a3, hm]
/-- every datum -/
theorem chk_all {L n : Nat} {i s c : Int} {T : Store} (hn : n ≤ 60) (hL : L < 64) (hi : 0 ≤ i ∧ i ≤ 1000) (hs : 0 ≤ s ∧ s ≤ 1000) (hc : 0 ≤ c ∧ c ≤ 1000) : ∀ (ds : List PV) (y8 y9 : Option PV), (∀ d ∈ ds, cd L n d = true) →
    ∃ z8 z9, loopR (.nm 8) (exS (callF D G (k + 5)) G (.seq (.loop (.nm 9) .plain (.cons (.list false (.cons (.var 3) (.cons (.tup (.cons (.bin false .add (.idx (.var 3) (.lit (.int 0))) (.lit (.int 1))) (.cons (.idx (.var 3) (.lit (.int 1))) (.cons (.lit (.int 2)) .nil)))) (.cons (.tup (.cons (.idx (.var 3) (.lit (.int 0))) (.cons (.prim false .max (.cons (.lit (.int 0)) (.cons (.bin false .sub (.idx (.var 3) (.lit (.int 1))) (.lit (.int 1))) .nil))) (.cons (.idx (.var 3) (.lit (.int 2))) .nil)))) .nil)))) .nil) (.seq (.ite (.not (.call 61 (.cons (.call 450 (.cons (.var 8) (.cons (.idx (.var 9) (.lit (.int 0))) (.cons (.idx (.var 9) (.lit (.int 1))) (.cons (.idx (.var 9) (.lit (.int 2))) .nil))))) (.cons (.call 120 (.cons (.var 8) (.cons (.var 9) .nil))) .nil)))) (.seq (.ret (.lit (.bl false))) .skip) .skip) .skip)) .skip)) ds [x0, x1, x2, some (.tup [.int i, .int s, .int c]), x4, x5, x6, x7, y8, y9, x10, x11, x12, x13, x14, x15] T = .ok (.next [x0, x1, x2, some (.tup [.int i, .int s, .int c]), x4, x5, x6, x7, z8, z9, x10, x11, x12, x13, x14, x15]) T
  | [], y8, y9, _ => ⟨y8, y9, rfl⟩
  | d :: ds, y8, y9, h => by
    obtain ⟨z9, e⟩ := chk3 (k := k) (x0 := x0) (x1 := x1) (x2 := x2) (x4 := x4) (x5 := x5) (x6 := x6) (x7 := x7) (x10 := x10) (x11 := x11) (x12 := x12) (x13 := x13) (x14 := x14) (x15 := x15) (T := T) (y9 := y9) (h d List.mem_cons_self) hn hL hi hs hc
    obtain ⟨w8, w9, e2⟩ := chk_all hn hL hi hs hc ds (some d) z9 fun x hx => h x (List.mem_cons_of_mem _ hx)
    refine ⟨w8, w9, ?_⟩
    rw [loopR_cons]
    show loopK (exS (callF D G (k + 5)) G (.seq (.loop (.nm 9) .plain (.cons (.list false (.cons (.var 3) (.cons (.tup (.cons (.bin false .add (.idx (.var 3) (.lit (.int 0))) (.lit (.int 1))) (.cons (.idx (.var 3) (.lit (.int 1))) (.cons (.lit (.int 2)) .nil)))) (.cons (.tup (.cons (.idx (.var 3) (.lit (.int 0))) (.cons (.prim false .max (.cons (.lit (.int 0)) (.cons (.bin false .sub (.idx (.var 3) (.lit (.int 1))) (.lit (.int 1))) .nil))) (.cons (.idx (.var 3) (.lit (.int 2))) .nil)))) .nil)))) .nil) (.seq (.ite (.not (.call 61 (.cons (.call 450 (.cons (.var 8) (.cons (.idx (.var 9) (.lit (.int 0))) (.cons (.idx (.var 9) (.lit (.int 1))) (.cons (.idx (.var 9) (.lit (.int 2))) .nil))))) (.cons (.call 120 (.cons (.var 8) (.cons (.var 9) .nil))) .nil)))) (.seq (.ret (.lit (.bl false))) .skip) .skip) .skip)) .skip) [x0, x1, x2, some (.tup [.int i, .int s, .int c]), x4, x5, x6, x7, some d, y9, x10, x11, x12, x13, x14, x15] T) _ = _
    rw [e, loopK_next]
    exact e2
end MP.K10

set_option Elab.async false
set_option linter.all false
set_option maxRecDepth 100000
set_option maxHeartbeats 8000000
/-! k10: the law's end -/
namespace MP.K10
open MP
variable {k : Nat}
def tail17 : MP.S := S.seq (S.asg (Tgt.nm 10) (E.bin false (BinO.add) (E.bin false (BinO.add) (E.lit (PV.str [108, 111, 97, 100, 32, 45, 53, 10, 106, 117, 109, 112, 32])) (E.bin false (BinO.mul) (E.lit (PV.str [57])) (E.lit (PV.int 30)))) (E.lit (PV.str [10, 99, 97, 108, 108, 32, 55, 32, 49, 32, 49, 10])))) (S.seq (S.ite (E.not (E.call 10 (E.cons (E.call 453 (E.cons (E.var 10) (E.nil))) (E.cons (E.tup (E.cons (E.tup (E.cons (E.lit (PV.str [108, 111, 97, 100])) (E.cons (E.neg (E.lit (PV.int 5))) (E.nil)))) (E.cons (E.tup (E.cons (E.lit (PV.str [106, 117, 109, 112])) (E.cons (E.prim false (Prim.int) (E.cons (E.bin false (BinO.mul) (E.lit (PV.str [57])) (E.lit (PV.int 30))) (E.nil))) (E.nil)))) (E.cons (E.tup (E.cons (E.lit (PV.str [99, 97, 108, 108])) (E.cons (E.lit (PV.int 7)) (E.cons (E.tup (E.cons (E.lit (PV.int 1)) (E.cons (E.lit (PV.int 1)) (E.nil)))) (E.nil))))) (E.nil))))) (E.nil))))) (S.seq (S.ret (E.lit (PV.bl false))) (S.skip)) (S.skip)) (S.seq (S.asg (Tgt.nm 11) (E.list false (E.cons (E.lit (PV.str [])) (E.cons (E.lit (PV.str [112, 117, 115, 104, 32, 49])) (E.cons (E.lit (PV.str [112, 117, 115, 104, 10])) (E.cons (E.lit (PV.str [112, 117, 115, 104, 32, 49, 32, 50, 10])) (E.cons (E.lit (PV.str [112, 111, 112, 10])) (E.nil)))))))) (S.seq (S.asg (Tgt.nm 11) (E.bin false (BinO.add) (E.var 11) (E.list false (E.cons (E.lit (PV.str [112, 117, 115, 104, 32, 48, 49, 10])) (E.cons (E.lit (PV.str [32, 112, 117, 115, 104, 32, 49, 10])) (E.cons (E.lit (PV.str [112, 117, 115, 104, 32, 32, 49, 10])) (E.cons (E.lit (PV.str [112, 117, 115, 104, 32, 49, 32, 10])) (E.cons (E.lit (PV.str [97, 100, 100, 32, 49, 10])) (E.nil))))))))) (S.seq (S.asg (Tgt.nm 11) (E.bin false (BinO.add) (E.var 11) (E.list false (E.cons (E.lit (PV.str [99, 97, 108, 108, 10])) (E.cons (E.lit (PV.str [99, 97, 108, 108, 32, 120, 10])) (E.cons (E.lit (PV.str [112, 117, 115, 104, 32, 45, 48, 10])) (E.cons (E.lit (PV.str [10])) (E.cons (E.lit (PV.str [97, 100, 100, 10, 10])) (E.nil))))))))) (S.seq (S.asg (Tgt.nm 11) (E.bin false (BinO.add) (E.var 11) (E.list false (E.cons (E.lit (PV.str [65, 100, 100, 10])) (E.cons (E.lit (PV.str [112, 117, 115, 104, 32, 43, 49, 10])) (E.cons (E.lit (PV.str [116, 101, 108, 108, 10, 97, 100, 100])) (E.cons (E.bin false (BinO.add) (E.slice false (E.lit (PV.str [97, 100, 100, 9, 116, 101, 108, 108, 10])) (E.lit (PV.non)) (E.lit (PV.int 3)) false true) (E.lit (PV.str [120, 10]))) (E.nil)))))))) (S.seq (S.ret (E.prim false (Prim.all) (E.cons (E.comp false true (Tgt.nm 15) [12, 15] (ItK.plain) (E.cons (E.var 11) (E.nil)) (E.lit (PV.bl true)) (E.call 458 (E.cons (E.var 15) (E.nil)))) (E.nil)))) (S.skip)))))))
def loop17 : MP.S := S.loop (Tgt.nm 2) (ItK.range) (E.cons (E.lit (PV.int 3)) (E.nil)) (S.seq (S.asg (Tgt.nm 3) (E.tup (E.cons (E.call 7 (E.cons (E.var 1) (E.cons (E.lit (PV.int 4)) (E.nil)))) (E.cons (E.call 7 (E.cons (E.var 1) (E.cons (E.lit (PV.int 4)) (E.nil)))) (E.cons (E.call 7 (E.cons (E.var 1) (E.cons (E.lit (PV.int 3)) (E.nil)))) (E.nil)))))) (S.seq (S.asg (Tgt.nm 4) (E.bin false (BinO.add) (E.lit (PV.int 1)) (E.call 7 (E.cons (E.var 1) (E.cons (E.lit (PV.int 9)) (E.nil)))))) (S.seq (S.asg (Tgt.nm 5) (E.prim false (Prim.tuple) (E.cons (E.comp false true (Tgt.nm 13) [12, 13] (ItK.range) (E.cons (E.var 4) (E.nil)) (E.lit (PV.bl true)) (E.call 454 (E.cons (E.var 1) (E.cons (E.var 4) (E.cons (E.var 3) (E.nil)))))) (E.nil)))) (S.seq (S.asg (Tgt.nm 6) (E.meth false (Mth.join) (E.lit (PV.str [])) (E.cons (E.comp false true (Tgt.nm 14) [12, 14] (ItK.plain) (E.cons (E.var 5) (E.nil)) (E.lit (PV.bl true)) (E.bin false (BinO.add) (E.call 457 (E.cons (E.var 14) (E.nil))) (E.lit (PV.str [10])))) (E.nil)))) (S.seq (S.ite (E.or (E.not (E.call 10 (E.cons (E.call 452 (E.cons (E.var 5) (E.nil))) (E.cons (E.var 6) (E.nil))))) (E.not (E.call 10 (E.cons (E.call 453 (E.cons (E.var 6) (E.nil))) (E.cons (E.var 5) (E.nil)))))) (S.seq (S.ret (E.lit (PV.bl false))) (S.skip)) (S.skip)) (S.seq (S.asg (Tgt.nm 7) (E.list false (E.cons (E.var 5) (E.cons (E.slice false (E.var 5) (E.lit (PV.non)) (E.neg (E.lit (PV.int 1))) false true) (E.cons (E.bin false (BinO.add) (E.var 5) (E.slice false (E.var 5) (E.lit (PV.non)) (E.lit (PV.int 1)) false true)) (E.cons (E.rev false (E.var 5)) (E.cons (E.tup (E.nil)) (E.nil)))))))) (S.seq (S.asg (Tgt.nm 7) (E.bin false (BinO.add) (E.var 7) (E.list false (E.cons (E.lit (PV.int 0)) (E.cons (E.lit (PV.str [112, 117, 115, 104])) (E.cons (E.idx (E.var 5) (E.lit (PV.int 0))) (E.cons (E.tup (E.cons (E.tup (E.cons (E.lit (PV.str [112, 117, 115, 104])) (E.cons (E.bin false (BinO.add) (E.bin false (BinO.pow) (E.lit (PV.int 10)) (E.lit (PV.int 12))) (E.lit (PV.int 1))) (E.nil)))) (E.nil))) (E.cons (E.tup (E.cons (E.tup (E.cons (E.lit (PV.str [109, 111, 100])) (E.cons (E.lit (PV.int 1)) (E.nil)))) (E.nil))) (E.nil))))))))) (S.seq (S.asg (Tgt.nm 7) (E.bin false (BinO.add) (E.var 7) (E.list false (E.cons (E.tup (E.cons (E.tup (E.cons (E.lit (PV.str [99, 97, 108, 108])) (E.cons (E.lit (PV.int 0)) (E.cons (E.tup (E.cons (E.lit (PV.int 0)) (E.cons (E.lit (PV.int 0)) (E.nil)))) (E.nil))))) (E.nil))) (E.cons (E.tup (E.cons (E.tup (E.cons (E.lit (PV.str [99, 97, 108, 108])) (E.cons (E.lit (PV.int 0)) (E.nil)))) (E.nil))) (E.cons (E.tup (E.cons (E.tup (E.cons (E.lit (PV.str [106, 117, 109, 112])) (E.cons (E.lit (PV.int 1)) (E.nil)))) (E.nil))) (E.cons (E.tup (E.cons (E.tup (E.cons (E.lit (PV.str [106, 117, 109, 112])) (E.cons (E.lit (PV.int 0)) (E.nil)))) (E.nil))) (E.nil)))))))) (S.seq (S.asg (Tgt.nm 7) (E.bin false (BinO.add) (E.var 7) (E.list false (E.cons (E.tup (E.cons (E.tup (E.cons (E.lit (PV.str [108, 111, 97, 100])) (E.cons (E.lit (PV.int 3)) (E.nil)))) (E.nil))) (E.cons (E.tup (E.cons (E.tup (E.cons (E.lit (PV.str [112, 111, 112])) (E.nil))) (E.nil))) (E.cons (E.tup (E.cons (E.tup (E.nil)) (E.nil))) (E.nil))))))) (S.seq (S.asg (Tgt.nm 7) (E.bin false (BinO.add) (E.var 7) (E.list false (E.cons (E.bin false (BinO.mul) (E.tup (E.cons (E.tup (E.cons (E.lit (PV.str [97, 100, 100])) (E.nil))) (E.nil))) (E.lit (PV.int 400))) (E.cons (E.bin false (BinO.mul) (E.tup (E.cons (E.tup (E.cons (E.lit (PV.str [97, 100, 100])) (E.nil))) (E.nil))) (E.lit (PV.int 401))) (E.cons (E.bin false (BinO.add) (E.var 5) (E.tup (E.cons (E.tup (E.cons (E.lit (PV.str [116, 101, 108, 108])) (E.cons (E.lit (PV.int 0)) (E.nil)))) (E.nil)))) (E.nil))))))) (S.seq (S.asg (Tgt.nm 7) (E.bin false (BinO.add) (E.var 7) (E.list false (E.cons (E.bin false (BinO.add) (E.var 5) (E.tup (E.cons (E.lit (PV.str [116, 101, 108, 108])) (E.nil)))) (E.cons (E.bin false (BinO.add) (E.var 5) (E.tup (E.cons (E.tup (E.cons (E.lit (PV.str [108, 101, 110, 103, 116, 104])) (E.cons (E.lit (PV.str [48])) (E.nil)))) (E.nil)))) (E.nil)))))) (S.seq (S.asg (Tgt.nm 7) (E.bin false (BinO.add) (E.var 7) (E.comp false true (Tgt.nm 13) [12, 13] (ItK.range) (E.cons (E.lit (PV.int 16)) (E.nil)) (E.lit (PV.bl true)) (E.call 60 (E.cons (E.var 1) (E.cons (E.var 5) (E.cons (E.lit (PV.int 0)) (E.nil)))))))) (S.seq (S.loop (Tgt.nm 8) (ItK.plain) (E.cons (E.var 7) (E.nil)) (S.seq (S.loop (Tgt.nm 9) (ItK.plain) (E.cons (E.list false (E.cons (E.var 3) (E.cons (E.tup (E.cons (E.bin false (BinO.add) (E.idx (E.var 3) (E.lit (PV.int 0))) (E.lit (PV.int 1))) (E.cons (E.idx (E.var 3) (E.lit (PV.int 1))) (E.cons (E.lit (PV.int 2)) (E.nil))))) (E.cons (E.tup (E.cons (E.idx (E.var 3) (E.lit (PV.int 0))) (E.cons (E.prim false (Prim.max) (E.cons (E.lit (PV.int 0)) (E.cons (E.bin false (BinO.sub) (E.idx (E.var 3) (E.lit (PV.int 1))) (E.lit (PV.int 1))) (E.nil)))) (E.cons (E.idx (E.var 3) (E.lit (PV.int 2))) (E.nil))))) (E.nil))))) (E.nil)) (S.seq (S.ite (E.not (E.call 61 (E.cons (E.call 450 (E.cons (E.var 8) (E.cons (E.idx (E.var 9) (E.lit (PV.int 0))) (E.cons (E.idx (E.var 9) (E.lit (PV.int 1))) (E.cons (E.idx (E.var 9) (E.lit (PV.int 2))) (E.nil)))))) (E.cons (E.call 120 (E.cons (E.var 8) (E.cons (E.var 9) (E.nil)))) (E.nil))))) (S.seq (S.ret (E.lit (PV.bl false))) (S.skip)) (S.skip)) (S.skip))) (S.skip))) (S.skip))))))))))))))
theorem t17_eq : t17 = .seq (.asg (.nm 1) (.call 6 (.cons (.var 0) .nil))) (.seq loop17 tail17) := rfl
def farV : PV := .tup [.tup [.str [108, 111, 97, 100], .int (-5)], .tup [.str [106, 117, 109, 112], .int 999999999999999999999999999999], .tup [.str [99, 97, 108, 108], .int 7, .tup [.int 1, .int 1]]]
theorem far_same (T : Store) : callF D G (k + 5) 10 [farV, farV] T = .ok (.bl true) T := by
  have := same10 (k := k) (D := D) (G := G) d10 d9 (L := 200) (by decide) T 3 3 farV farV (by decide +kernel) (by decide +kernel)
  rw [this]
  congr 2
theorem bad_all (T : Store) {σ : Nv} (hv : ∀ s : List Nat, ev (callF D G (k + 4)) G (.call 458 (.cons (.var 15) .nil)) (σ.set 15 (some (.str s))) T = callF D G (k + 4) 458 [.str s] T) :
    compO true (some (.items [.str [], .str [112, 117, 115, 104, 32, 49], .str [112, 117, 115, 104, 10], .str [112, 117, 115, 104, 32, 49, 32, 50, 10], .str [112, 111, 112, 10], .str [112, 117, 115, 104, 32, 48, 49, 10], .str [32, 112, 117, 115, 104, 32, 49, 10], .str [112, 117, 115, 104, 32, 32, 49, 10], .str [112, 117, 115, 104, 32, 49, 32, 10], .str [97, 100, 100, 32, 49, 10], .str [99, 97, 108, 108, 10], .str [99, 97, 108, 108, 32, 120, 10], .str [112, 117, 115, 104, 32, 45, 48, 10], .str [10], .str [97, 100, 100, 10, 10], .str [65, 100, 100, 10], .str [112, 117, 115, 104, 32, 43, 49, 10], .str [116, 101, 108, 108, 10, 97, 100, 100], .str [97, 100, 100, 120, 10]])) (.nm 15) (evT (callF D G (k + 4)) G (.lit (.bl true))) (ev (callF D G (k + 4)) G (.call 458 (.cons (.var 15) .nil))) σ T = .ok (List.replicate 19 (.bl true)) T := by
  rw [compO_L (by decide)]
  generalize hE : ev (callF D G (k + 4)) G (.call 458 (.cons (.var 15) .nil)) = EE at *
  simp [hv, b0 (k := k) T, b1 (k := k) T, b2 (k := k) T, b3 (k := k) T, b4 (k := k) T, b5 (k := k) T, b6 (k := k) T, b7 (k := k) T, b8 (k := k) T, b9 (k := k) T, b10 (k := k) T, b11 (k := k) T, b12 (k := k) T, b13 (k := k) T, b14 (k := k) T, b15 (k := k) T, b16 (k := k) T, b17 (k := k) T, b18 (k := k) T]
theorem tail_ok {x0 x1 x2 x3 x4 x5 x6 x7 x8 x9 x10 x11 x12 x13 x14 x15 : Option PV} (T : Store) : ofBody (exS (callF D G (k + 5)) G tail17 [x0, x1, x2, x3, x4, x5, x6, x7, x8, x9, x10, x11, x12, x13, x14, x15] T) = .ok (.bl true) T := by
  have e1 : binOp false .mul (.str [57]) (.int 30) T = .ok (.str (List.replicate 30 57)) T := rfl
  have e2 : primOp false .int [.str (List.replicate 30 57)] T = .ok (.int 999999999999999999999999999999) T := rfl
  have e3 : callF D G (k + 5) 453 [.str farT] T = .ok farV T := far_ok (k := k + 2) T
  have e4 := far_same (k := k) T
  have e5 := fun (y : Option PV) => bad_all (k := k + 1) T (σ := [x0, x1, x2, x3, x4, x5, x6, x7, x8, x9, some (.str farT), some (.vl [.str [], .str [112, 117, 115, 104, 32, 49], .str [112, 117, 115, 104, 10], .str [112, 117, 115, 104, 32, 49, 32, 50, 10], .str [112, 111, 112, 10], .str [112, 117, 115, 104, 32, 48, 49, 10], .str [32, 112, 117, 115, 104, 32, 49, 10], .str [112, 117, 115, 104, 32, 32, 49, 10], .str [112, 117, 115, 104, 32, 49, 32, 10], .str [97, 100, 100, 32, 49, 10], .str [99, 97, 108, 108, 10], .str [99, 97, 108, 108, 32, 120, 10], .str [112, 117, 115, 104, 32, 45, 48, 10], .str [10], .str [97, 100, 100, 10, 10], .str [65, 100, 100, 10], .str [112, 117, 115, 104, 32, 43, 49, 10], .str [116, 101, 108, 108, 10, 97, 100, 100], .str [97, 100, 100, 120, 10]]), none, x13, x14, y]) (fun s => by simp)
  have e6 : ∀ S : Store, binOp false .add (.str [108, 111, 97, 100, 32, 45, 53, 10, 106, 117, 109, 112, 32]) (.str (List.replicate 30 57)) S = .ok (.str ([108, 111, 97, 100, 32, 45, 53, 10, 106, 117, 109, 112, 32] ++ List.replicate 30 57)) S := fun S => rfl
  have e7 : ∀ S : Store, binOp false .add (.str ([108, 111, 97, 100, 32, 45, 53, 10, 106, 117, 109, 112, 32] ++ List.replicate 30 57)) (.str [10, 99, 97, 108, 108, 32, 55, 32, 49, 32, 49, 10]) S = .ok (.str farT) S := fun S => rfl
  have e8 : sliceOp false false true (.str [97, 100, 100, 9, 116, 101, 108, 108, 10]) .non (.int 3) T = .ok (.str [97, 100, 100]) T := rfl
  have hb : (List.replicate 19 (PV.bl true)) = (List.replicate 19 true).map .bl := rfl
  have hall : allR (boolsOf (List.replicate 19 (PV.bl true))) T = .ok (.bl true) T := rfl
  have hall2 : allR (boolsOf [.bl true, .bl true, .bl true, .bl true, .bl true, .bl true, .bl true, .bl true, .bl true, .bl true, .bl true, .bl true, .bl true, .bl true, .bl true, .bl true, .bl true, .bl true, .bl true]) T = .ok (.bl true) T := rfl
  unfold tail17
  unfold farV at e3 e4
  generalize farT = ft at *
  generalize List.replicate 30 57 = nine at *
  generalize ([108, 111, 97, 100, 32, 45, 53, 10, 106, 117, 109, 112, 32] ++ nine : List Nat) = half at *
  simp [SZ, e1, e2, e3, e4, e6, e7, e8, wipeE, e5, hall, hall2]
end MP.K10

set_option Elab.async false
set_option linter.all false
set_option maxRecDepth 100000
set_option maxHeartbeats 8000000
/-! k10: the law's start; the head of a turn -/
namespace MP.K10
open MP
variable {k : Nat}
theorem d6 : D 6 = some ⟨1, 1, true, h6⟩ := rfl
theorem start_ok (ns : List Int) : callF D G (k + 1) 6 [.frz (ns.map .int)] [] = .ok (.ref 0) [stO ns 0 0 0] := by
  rw [call_keep d6 rfl]
  unfold h6 stO
  simp [startE, SZ]
theorem start_st (ns : List Int) : St ns 0 (stO ns 0 0 0) := ⟨0, 0, 0, rfl, by decide, by decide, by decide, by decide⟩
/-- sizes and places are drawn -/
theorem turn_head {ns : List Int} {a : MO} {m : Nat} {x0 x2 x3 x4 x5 x6 x7 x8 x9 x10 x11 x12 x13 x14 x15 : Option PV} (s : St ns m a) (hm : m < 900000) :
    ∃ (i sl c p : Nat) (a1 : MO), i < 4 ∧ sl < 4 ∧ c < 3 ∧ p < 9 ∧ St ns (m + 4) a1 ∧ ∀ rest : MP.S,
      exS (callF D G (k + 1)) G (.seq (.asg (.nm 3) (.tup (.cons (.call 7 (.cons (.var 1) (.cons (.lit (.int 4)) .nil))) (.cons (.call 7 (.cons (.var 1) (.cons (.lit (.int 4)) .nil))) (.cons (.call 7 (.cons (.var 1) (.cons (.lit (.int 3)) .nil))) .nil))))) (.seq (.asg (.nm 4) (.bin false .add (.lit (.int 1)) (.call 7 (.cons (.var 1) (.cons (.lit (.int 9)) .nil))))) rest))
        [x0, some (.ref 0), x2, x3, x4, x5, x6, x7, x8, x9, x10, x11, x12, x13, x14, x15] [a]
      = exS (callF D G (k + 1)) G rest [x0, some (.ref 0), x2, some (.tup [.int i, .int sl, .int c]), some (.int (1 + (p : Int))), x5, x6, x7, x8, x9, x10, x11, x12, x13, x14, x15] [a1] := by
  obtain ⟨i, b1, e1, h1, s1⟩ := draw (k := k) (G := G) d7 (R := []) s (by omega) 4 (by omega) (by omega)
  obtain ⟨sl, b2, e2, h2, s2⟩ := draw (k := k) (G := G) d7 (R := []) s1 (by omega) 4 (by omega) (by omega)
  obtain ⟨c, b3, e3, h3, s3⟩ := draw (k := k) (G := G) d7 (R := []) s2 (by omega) 3 (by omega) (by omega)
  obtain ⟨p, b4, e4, h4, s4⟩ := draw (k := k) (G := G) d7 (R := []) s3 (by omega) 9 (by omega) (by omega)
  refine ⟨i, sl, c, p, b4, h1, h2, h3, h4, s4, fun rest => ?_⟩
  have e1' : callF D G (k + 1) 7 [.ref 0, .int 4] [a] = .ok (.int i) [b1] := e1
  have e2' : callF D G (k + 1) 7 [.ref 0, .int 4] [b1] = .ok (.int sl) [b2] := e2
  have e3' : callF D G (k + 1) 7 [.ref 0, .int 3] [b2] = .ok (.int c) [b3] := e3
  have e4' : callF D G (k + 1) 7 [.ref 0, .int 9] [b3] = .ok (.int p) [b4] := e4
  simp [SZ, e1', e2', e3', e4']
theorem rows_of : ∀ {vs : List PV}, (∀ v ∈ vs, ∃ r : Row, v = r.pv ∧ r.Ok ∧ r.Fit ∧ r.Sm) → ∃ rs : List Row, vs = rs.map Row.pv ∧ ∀ r ∈ rs, r.Ok ∧ r.Fit ∧ r.Sm
  | [], _ => ⟨[], rfl, fun r h => by cases h⟩
  | v :: vs, h => by
    obtain ⟨r, rfl, hr⟩ := h v List.mem_cons_self
    obtain ⟨rs, rfl, hrs⟩ := rows_of fun x hx => h x (List.mem_cons_of_mem _ hx)
    refine ⟨r :: rs, rfl, fun q hq => ?_⟩
    rcases List.mem_cons.mp hq with e | e
    · rw [e]; exact hr
    · exact hrs q e
/-- the good code -/
theorem good_ok {ns : List Int} {a : MO} {m i sl c p : Nat} {x0 x2 x5 x6 x7 x8 x9 x10 x11 x13 x14 x15 : Option PV} (s : St ns m a) (hm : m < 800000) (h1 : i < 4) (h2 : sl < 4) (h3 : c < 3) (h4 : p < 9) :
    ∃ (rs : List Row) (a1 : MO), compO true (some (.range 0 1 (1 + p))) (.nm 13) (evT (callF D G (k + 3)) G (.lit (.bl true))) (ev (callF D G (k + 3)) G (.call 454 (.cons (.var 1) (.cons (.var 4) (.cons (.var 3) .nil)))))
      [x0, some (.ref 0), x2, some (.tup [.int i, .int sl, .int c]), some (.int (1 + (p : Int))), x5, x6, x7, x8, x9, x10, x11, none, none, x14, x15] [a] = .ok (rs.map Row.pv) [a1] ∧ rs.length = 1 + p ∧ (∀ r ∈ rs, r.Ok ∧ r.Fit ∧ r.Sm) ∧ St ns (m + 300) a1 := by
  obtain ⟨vs, a1, e, l, hp, hs⟩ := compO_state (x := true) (n := 1 + p) (i := 13) (c := evT (callF D G (k + 3)) G (.lit (.bl true))) (e := ev (callF D G (k + 3)) G (.call 454 (.cons (.var 1) (.cons (.var 4) (.cons (.var 3) .nil)))))
    (σ := [x0, some (.ref 0), x2, some (.tup [.int i, .int sl, .int c]), some (.int (1 + (p : Int))), x5, x6, x7, x8, x9, x10, x11, none, none, x14, x15]) (R := []) (a := a) (fun j b => St ns (m + 30 * j) b) (fun v => ∃ r : Row, v = r.pv ∧ r.Ok ∧ r.Fit ∧ r.Sm) (by show _ ≤ 16777216; omega) (fun σ1 T => by simp)
    (fun j b hj hI => by
      obtain ⟨w, b', e1, o1, o2, o3, s'⟩ := some_row (k := k) (R := []) (pl := 1 + p) (inn := i) (sl := sl) (ca := c) hI (by omega) (by omega) (by omega) (by omega) (by omega) (by omega)
      have e6 : ((1 + p : Nat) : Int) = 1 + (p : Int) := by omega
      rw [e6] at e1
      refine ⟨w.pv, b', ?_, ⟨w, rfl, o1, o2, o3⟩, by rw [show m + 30 * (j + 1) = m + 30 * j + 30 by omega]; exact s'⟩
      simp [e1]) (by simpa using s)
  obtain ⟨rs, rfl, hrs⟩ := rows_of hp
  exact ⟨rs, a1, e, by simpa using l, hrs, hs.mono (by omega)⟩
mutual
theorem sameV_refl {L : Nat} : ∀ (n : Nat) (v : PV), dd L n v = true → sameV v v = true
  | n, .int i, _ => by simp [sameV]
  | n, .str t, _ => by simp [sameV]
  | n, .tup xs, h => by
    obtain ⟨n, rfl, _, hx⟩ := dd_tup h
    simp only [sameV]
    exact sameVs_refl n xs hx
  | n, .non, h => by unfold dd at h; cases h
  | n, .bl _, h => by unfold dd at h; cases h
  | n, .frz _, h => by unfold dd at h; cases h
  | n, .vl _, h => by unfold dd at h; cases h
  | n, .vd _ _, h => by unfold dd at h; cases h
  | n, .ref _, h => by unfold dd at h; cases h
  | n, .fn _, h => by unfold dd at h; cases h
  | n, .exc _, h => by unfold dd at h; cases h
theorem sameVs_refl {L : Nat} : ∀ (n : Nat) (xs : List PV), dds L n xs = true → sameVs xs xs = true
  | n, [], _ => rfl
  | n, x :: xs, h => by
    obtain ⟨h1, h2⟩ := dds_cons h
    unfold sameVs
    rw [sameV_refl n x h1, sameVs_refl n xs h2]
    rfl
end
/-- a code is the same as itself -/
theorem same_code {rs : List Row} (h : ∀ r ∈ rs, r.Ok ∧ r.Fit ∧ r.Sm) (hl : rs.length ≤ 50) (T : Store) : callF D G (k + 5) 10 [.tup (rs.map Row.pv), .tup (rs.map Row.pv)] T = .ok (.bl true) T := by
  have hd : dd 50 3 (.tup (rs.map Row.pv)) = true := dd_tupI (by rw [List.length_map]; exact hl) (dds_of fun x hx => by
    obtain ⟨r, hr, rfl⟩ := List.mem_map.mp hx
    exact row_dd (h r hr).1 (h r hr).2.2)
  rw [same10 (k := k) (D := D) (G := G) d10 d9 (L := 50) (by decide) T 3 3 _ _ hd hd, sameV_refl 3 _ hd]
theorem same_text {t : List Nat} (hl : t.length ≤ 100000) (hc : ∀ c ∈ t, c < 1114112) (T : Store) : callF D G (k + 2) 10 [.str t, .str t] T = .ok (.bl true) T := by
  have hd : dd 100000 0 (.str t) = true := dd_str hl hc
  rw [same10 (k := k) (D := D) (G := G) d10 d9 (L := 100000) (by decide) T 0 0 _ _ hd hd, sameV_refl 0 _ hd]
end MP.K10

set_option Elab.async false
set_option linter.all false
set_option maxRecDepth 100000
set_option maxHeartbeats 8000000
/-! k10: one turn of the law's loop -/
namespace MP.K10
open MP
variable {k : Nat}
def q0 : MP.S := .asg (.nm 3) (.tup (.cons (.call 7 (.cons (.var 1) (.cons (.lit (.int 4)) .nil))) (.cons (.call 7 (.cons (.var 1) (.cons (.lit (.int 4)) .nil))) (.cons (.call 7 (.cons (.var 1) (.cons (.lit (.int 3)) .nil))) .nil))))
def q1 : MP.S := .asg (.nm 4) (.bin false .add (.lit (.int 1)) (.call 7 (.cons (.var 1) (.cons (.lit (.int 9)) .nil))))
def q2 : MP.S := .asg (.nm 5) (.prim false .tuple (.cons (.comp false true (.nm 13) [12, 13] .range (.cons (.var 4) .nil) (.lit (.bl true)) (.call 454 (.cons (.var 1) (.cons (.var 4) (.cons (.var 3) .nil))))) .nil))
def q3 : MP.S := .asg (.nm 6) (.meth false .join (.lit (.str [])) (.cons (.comp false true (.nm 14) [12, 14] .plain (.cons (.var 5) .nil) (.lit (.bl true)) (.bin false .add (.call 457 (.cons (.var 14) .nil)) (.lit (.str [10])))) .nil))
def q4 : MP.S := .ite (.or (.not (.call 10 (.cons (.call 452 (.cons (.var 5) .nil)) (.cons (.var 6) .nil)))) (.not (.call 10 (.cons (.call 453 (.cons (.var 6) .nil)) (.cons (.var 5) .nil))))) (.seq (.ret (.lit (.bl false))) .skip) .skip
def q5 : MP.S := .asg (.nm 7) (.list false (.cons (.var 5) (.cons (.slice false (.var 5) (.lit .non) (.neg (.lit (.int 1))) false true) (.cons (.bin false .add (.var 5) (.slice false (.var 5) (.lit .non) (.lit (.int 1)) false true)) (.cons (.rev false (.var 5)) (.cons (.tup .nil) .nil))))))
def q6 : MP.S := .asg (.nm 7) (.bin false .add (.var 7) (.list false (.cons (.lit (.int 0)) (.cons (.lit (.str [112, 117, 115, 104])) (.cons (.idx (.var 5) (.lit (.int 0))) (.cons (.tup (.cons (.tup (.cons (.lit (.str [112, 117, 115, 104])) (.cons (.bin false .add (.bin false .pow (.lit (.int 10)) (.lit (.int 12))) (.lit (.int 1))) .nil))) .nil)) (.cons (.tup (.cons (.tup (.cons (.lit (.str [109, 111, 100])) (.cons (.lit (.int 1)) .nil))) .nil)) .nil)))))))
def q7 : MP.S := .asg (.nm 7) (.bin false .add (.var 7) (.list false (.cons (.tup (.cons (.tup (.cons (.lit (.str [99, 97, 108, 108])) (.cons (.lit (.int 0)) (.cons (.tup (.cons (.lit (.int 0)) (.cons (.lit (.int 0)) .nil))) .nil)))) .nil)) (.cons (.tup (.cons (.tup (.cons (.lit (.str [99, 97, 108, 108])) (.cons (.lit (.int 0)) .nil))) .nil)) (.cons (.tup (.cons (.tup (.cons (.lit (.str [106, 117, 109, 112])) (.cons (.lit (.int 1)) .nil))) .nil)) (.cons (.tup (.cons (.tup (.cons (.lit (.str [106, 117, 109, 112])) (.cons (.lit (.int 0)) .nil))) .nil)) .nil))))))
def q8 : MP.S := .asg (.nm 7) (.bin false .add (.var 7) (.list false (.cons (.tup (.cons (.tup (.cons (.lit (.str [108, 111, 97, 100])) (.cons (.lit (.int 3)) .nil))) .nil)) (.cons (.tup (.cons (.tup (.cons (.lit (.str [112, 111, 112])) .nil)) .nil)) (.cons (.tup (.cons (.tup .nil) .nil)) .nil)))))
def q9 : MP.S := .asg (.nm 7) (.bin false .add (.var 7) (.list false (.cons (.bin false .mul (.tup (.cons (.tup (.cons (.lit (.str [97, 100, 100])) .nil)) .nil)) (.lit (.int 400))) (.cons (.bin false .mul (.tup (.cons (.tup (.cons (.lit (.str [97, 100, 100])) .nil)) .nil)) (.lit (.int 401))) (.cons (.bin false .add (.var 5) (.tup (.cons (.tup (.cons (.lit (.str [116, 101, 108, 108])) (.cons (.lit (.int 0)) .nil))) .nil))) .nil)))))
def q10 : MP.S := .asg (.nm 7) (.bin false .add (.var 7) (.list false (.cons (.bin false .add (.var 5) (.tup (.cons (.lit (.str [116, 101, 108, 108])) .nil))) (.cons (.bin false .add (.var 5) (.tup (.cons (.tup (.cons (.lit (.str [108, 101, 110, 103, 116, 104])) (.cons (.lit (.str [48])) .nil))) .nil))) .nil))))
def q11 : MP.S := .asg (.nm 7) (.bin false .add (.var 7) (.comp false true (.nm 13) [12, 13] .range (.cons (.lit (.int 16)) .nil) (.lit (.bl true)) (.call 60 (.cons (.var 1) (.cons (.var 5) (.cons (.lit (.int 0)) .nil))))))
def q12 : MP.S := .loop (.nm 8) .plain (.cons (.var 7) .nil) (.seq (.loop (.nm 9) .plain (.cons (.list false (.cons (.var 3) (.cons (.tup (.cons (.bin false .add (.idx (.var 3) (.lit (.int 0))) (.lit (.int 1))) (.cons (.idx (.var 3) (.lit (.int 1))) (.cons (.lit (.int 2)) .nil)))) (.cons (.tup (.cons (.idx (.var 3) (.lit (.int 0))) (.cons (.prim false .max (.cons (.lit (.int 0)) (.cons (.bin false .sub (.idx (.var 3) (.lit (.int 1))) (.lit (.int 1))) .nil))) (.cons (.idx (.var 3) (.lit (.int 2))) .nil)))) .nil)))) .nil) (.seq (.ite (.not (.call 61 (.cons (.call 450 (.cons (.var 8) (.cons (.idx (.var 9) (.lit (.int 0))) (.cons (.idx (.var 9) (.lit (.int 1))) (.cons (.idx (.var 9) (.lit (.int 2))) .nil))))) (.cons (.call 120 (.cons (.var 8) (.cons (.var 9) .nil))) .nil)))) (.seq (.ret (.lit (.bl false))) .skip) .skip) .skip)) .skip)
def body17 : MP.S := .seq q0 (.seq q1 (.seq q2 (.seq q3 (.seq q4 (.seq q5 (.seq q6 (.seq q7 (.seq q8 (.seq q9 (.seq q10 (.seq q11 (.seq q12 (.skip)))))))))))))
theorem loop17_eq : loop17 = .loop (.nm 2) .range (.cons (.lit (.int 3)) .nil) body17 := rfl
variable {x0 x1 x2 x3 x4 x5 x6 x7 x8 x9 x10 x11 x12 x13 x14 x15 : Option PV}
theorem good_step {ns : List Int} {a : MO} {m i sl c p : Nat} (s : St ns m a) (hm : m < 800000) (h1 : i < 4) (h2 : sl < 4) (h3 : c < 3) (h4 : p < 9) :
    ∃ (rs : List Row) (a1 : MO), rs.length = 1 + p ∧ (∀ r ∈ rs, r.Ok ∧ r.Fit ∧ r.Sm) ∧ St ns (m + 300) a1 ∧ ∀ rest : MP.S,
      exS (callF D G (k + 3)) G (.seq q2 rest) [x0, some (.ref 0), x2, some (.tup [.int i, .int sl, .int c]), some (.int (1 + (p : Int))), x5, x6, x7, x8, x9, x10, x11, x12, x13, x14, x15] [a]
      = exS (callF D G (k + 3)) G rest [x0, some (.ref 0), x2, some (.tup [.int i, .int sl, .int c]), some (.int (1 + (p : Int))), some (.tup (rs.map Row.pv)), x6, x7, x8, x9, x10, x11, x12, x13, x14, x15] [a1] := by
  obtain ⟨rs, a1, e, l, hr, s1⟩ := good_ok (k := k) (x0 := x0) (x2 := x2) (x5 := x5) (x6 := x6) (x7 := x7) (x8 := x8) (x9 := x9) (x10 := x10) (x11 := x11) (x13 := none) (x14 := x14) (x15 := x15) s hm h1 h2 h3 h4
  refine ⟨rs, a1, l, hr, s1, fun rest => ?_⟩
  have e0 : (1 + (p : Int)).toNat = 1 + p := by omega
  have e2 : small62 (1 + (p : Int)) = true := by unfold small62; simp; omega
  have ew : walkOf [a] .range [.int (1 + (p : Int))] = some (.range 0 1 (1 + p)) := by
    show (if small62 (1 + (p : Int)) then some (Wk.range 0 1 (1 + (p : Int)).toNat) else none) = _
    rw [e2, e0]; rfl
  unfold q2
  simp [SZ, wipeE, ew, e, -List.map_map]

theorem text_step {rs : List Row} {T : Store} (h : ∀ r ∈ rs, r.Ok ∧ r.Fit ∧ r.Sm) (hl : rs.length ≤ 400) (rest : MP.S) :
      exS (callF D G (k + 2)) G (.seq q3 rest) [x0, x1, x2, x3, x4, some (.tup (rs.map Row.pv)), x6, x7, x8, x9, x10, x11, x12, x13, x14, x15] T
      = exS (callF D G (k + 2)) G rest [x0, x1, x2, x3, x4, some (.tup (rs.map Row.pv)), some (.str (codeTxt rs)), x7, x8, x9, x10, x11, x12, x13, x14, x15] T := by
  have e := ltext (k := k + 1) (x := 14) (σ := [x0, x1, x2, x3, x4, some (.tup (rs.map Row.pv)), x6, x7, x8, x9, x10, x11, none, x13, none, x15]) (fun r hr => (h r hr).1) hl T (fun r => by
    have : slotV (some (some r.pv)) = some r.pv := by cases r <;> rfl
    simp [this])
  have hz := code_len fun r hr => (h r hr).1
  have hst := strs_map (rs.map fun r => r.txt ++ [10])
  have hsum : ((rs.map fun r => r.txt ++ [10]).map (fun x => x.length)).sum ≤ 16777216 := by
    rw [← List.length_flatten]
    show (codeTxt rs).length ≤ _
    omega
  unfold q3
  have ej : joinT [] (rs.map fun r => r.txt ++ [10]) = codeTxt rs := joinT_nil _
  generalize hm : (rs.map fun r => r.txt ++ [10]) = ss at *
  simp [SZ, wipeE, e, hst, hsum, ej, -List.map_map]
theorem codeTxt_chars {rs : List Row} (h : ∀ r ∈ rs, r.Ok) : ∀ c ∈ codeTxt rs, c < 1114112 := fun c hc => by
  obtain ⟨l, hl, hcl⟩ := List.mem_flatten.mp hc
  obtain ⟨r, hr, rfl⟩ := List.mem_map.mp hl
  rcases List.mem_append.mp hcl with e | e
  · rcases join_mem e with e | ⟨p, hp, hc⟩
    · omega
    · rcases List.mem_cons.mp hp with e | e
      · have h2 : (W18.all fun w => w.all fun c => decide (c < 1114112)) = true := by decide
        rw [e] at hc
        exact of_decide_eq_true (List.all_eq_true.mp (List.all_eq_true.mp h2 _ (word_w18 (h r hr))) c hc)
      · obtain ⟨i, _, rfl⟩ := List.mem_map.mp e
        have := dec_chars i c hc
        omega
  · simp at e
    omega
theorem check_step {rs : List Row} {T : Store} (h : ∀ r ∈ rs, r.Ok ∧ r.Fit ∧ r.Sm) (h0 : rs ≠ []) (hl : rs.length ≤ 20) (rest : MP.S) :
      exS (callF D G (k + 5)) G (.seq q4 rest) [x0, x1, x2, x3, x4, some (.tup (rs.map Row.pv)), some (.str (codeTxt rs)), x7, x8, x9, x10, x11, x12, x13, x14, x15] T
      = exS (callF D G (k + 5)) G rest [x0, x1, x2, x3, x4, some (.tup (rs.map Row.pv)), some (.str (codeTxt rs)), x7, x8, x9, x10, x11, x12, x13, x14, x15] T := by
  have e1 := write_code (k := k + 1) (fun r hr => (h r hr).1) (by omega) T
  have e2 := read_code (k := k + 2) (fun r hr => (h r hr).1) (fun r hr => (h r hr).2.1) h0 (by omega) T
  have e3 := same_code (k := k) h (by omega) T
  have hz := code_len fun r hr => (h r hr).1
  have e4 := same_text (k := k + 3) (t := codeTxt rs) (by omega) (codeTxt_chars fun r hr => (h r hr).1) T
  unfold q4
  generalize codeTxt rs = t at *
  generalize rs.map Row.pv = gs at *
  simp [SZ, e1, e2, e3, e4]
theorem cd_of {L n : Nat} {v : PV} (h : dd L n v = true) : cd L n v = true := by
  cases v with
  | tup xs =>
    obtain ⟨m, rfl, _, hx⟩ := dd_tup h
    exact dds_mono (Nat.le_refl _) m (m + 1) xs (by omega) hx
  | _ => exact h
theorem cd_mono {L L' n n' : Nat} {v : PV} (hL : L ≤ L') (hn : n ≤ n') (h : cd L n v = true) : cd L' n' v = true := by
  cases v with
  | tup xs => exact dds_mono hL n n' xs hn h
  | _ => exact dd_mono hL n n' _ hn h
theorem slice_tup {xs : List PV} {i : Int} {lo : PV} {T : Store} : ∃ b, sliceOp false false true (.tup xs) lo (.int i) T = .ok (.tup (xs.take b)) T := by
  refine ⟨if i < 0 then (i + xs.length).toNat else min i.toNat xs.length, ?_⟩
  show Res.ok (PV.tup (cut xs 0 _)) T = _
  unfold cut
  rw [List.drop_zero, Nat.sub_zero]
theorem odd_step {gs : List PV} {T : Store} (h0 : gs ≠ []) (hl : gs.length ≤ 20) (hg : ∀ g ∈ gs, dd 50 2 g = true) : ∃ ds : List PV, ds.length ≤ 30 ∧ (∀ d ∈ ds, cd 50 10 d = true) ∧ ∀ rest : MP.S,
      exS (callF D G (k + 5)) G (.seq q5 (.seq q6 (.seq q7 (.seq q8 (.seq q9 (.seq q10 rest)))))) [x0, x1, x2, x3, x4, some (.tup gs), x6, x7, x8, x9, x10, x11, x12, x13, x14, x15] T
      = exS (callF D G (k + 5)) G rest [x0, x1, x2, x3, x4, some (.tup gs), x6, some (.vl ds), x8, x9, x10, x11, x12, x13, x14, x15] T := by
  obtain ⟨g, tl, rfl⟩ : ∃ g tl, gs = g :: tl := by cases gs with | nil => exact absurd rfl h0 | cons g tl => exact ⟨g, tl, rfl⟩
  obtain ⟨b1, e1⟩ := slice_tup (xs := g :: tl) (i := -1) (lo := .non) (T := T)
  obtain ⟨b2, e2⟩ := slice_tup (xs := g :: tl) (i := 1) (lo := .non) (T := T)
  have hd : ∀ xs : List PV, (∀ x ∈ xs, x ∈ g :: tl ∨ dd 50 5 x = true) → cd 50 10 (.tup xs) = true := fun xs h => by
    show dds 50 10 xs = true
    refine dds_of fun x hx => ?_
    rcases h x hx with q | q
    · exact dd_mono (Nat.le_refl _) 2 10 x (by omega) (hg x q)
    · exact dd_mono (Nat.le_refl _) 5 10 x (by omega) q
  have ei : idxOp (.tup (g :: tl)) (.int 0) T = some g := by
    show (normI (g :: tl).length 0).bind _ = _
    have : normI (g :: tl).length 0 = some 0 := by
      unfold normI
      rw [if_pos (by decide), if_pos (by simp)]
      rfl
    rw [this]
    rfl
  refine ⟨[.tup (g :: tl), .tup ((g :: tl).take b1), .tup (g :: tl ++ (g :: tl).take b2), .tup (g :: tl).reverse, .tup [], .int 0, .str [112, 117, 115, 104], g, .tup [.tup [.str [112, 117, 115, 104], .int 1000000000001]], .tup [.tup [.str [109, 111, 100], .int 1]],
    .tup [.tup [.str [99, 97, 108, 108], .int 0, .tup [.int 0, .int 0]]], .tup [.tup [.str [99, 97, 108, 108], .int 0]], .tup [.tup [.str [106, 117, 109, 112], .int 1]], .tup [.tup [.str [106, 117, 109, 112], .int 0]],
    .tup [.tup [.str [108, 111, 97, 100], .int 3]], .tup [.tup [.str [112, 111, 112]]], .tup [.tup []],
    .tup (List.replicate 400 [.tup [.str [97, 100, 100]]]).flatten, .tup (List.replicate 401 [.tup [.str [97, 100, 100]]]).flatten, .tup (g :: tl ++ [.tup [.str [116, 101, 108, 108], .int 0]]),
    .tup (g :: tl ++ [.str [116, 101, 108, 108]]), .tup (g :: tl ++ [.tup [.str [108, 101, 110, 103, 116, 104], .str [48]]])], by simp, ?_, fun rest => ?_⟩
  · have hr : ∀ n, cd 50 10 (.tup (List.replicate n [PV.tup [.str [97, 100, 100]]]).flatten) = true := fun n => hd _ fun x hx => .inr (by
      obtain ⟨l, hl, hxl⟩ := List.mem_flatten.mp hx
      have := List.eq_of_mem_replicate hl
      subst this
      simp at hxl
      subst hxl
      decide)
    have ha : ∀ y : PV, dd 50 5 y = true → cd 50 10 (.tup (g :: tl ++ [y])) = true := fun y hy => hd _ fun x hx => by
      rcases List.mem_append.mp hx with q | q
      · exact .inl q
      · simp at q
        rw [q]
        exact .inr hy
    intro d hd'
    simp only [List.mem_cons, List.not_mem_nil, or_false] at hd'
    rcases hd' with rfl | rfl | rfl | rfl | rfl | rfl | rfl | rfl | rfl | rfl | rfl | rfl | rfl | rfl | rfl | rfl | rfl | rfl | rfl | rfl | rfl | rfl
    · exact hd _ fun x hx => .inl hx
    · exact hd _ fun x hx => .inl (List.mem_of_mem_take hx)
    · refine hd _ fun x hx => ?_
      rcases List.mem_append.mp hx with q | q
      · exact .inl q
      · exact .inl (List.mem_of_mem_take q)
    · exact hd _ fun x hx => .inl (List.mem_reverse.mp hx)
    · decide
    · decide
    · decide
    · exact cd_mono (Nat.le_refl _) (by omega) (cd_of (hg _ List.mem_cons_self))
    · decide +kernel
    · decide +kernel
    · decide +kernel
    · decide +kernel
    · decide +kernel
    · decide +kernel
    · decide +kernel
    · decide +kernel
    · decide +kernel
    · exact hr 400
    · exact hr 401
    · exact ha _ (by decide +kernel)
    · exact ha _ (by decide +kernel)
    · exact ha _ (by decide +kernel)
  · have hz1 : (g :: tl).length + ((g :: tl).take b2).length ≤ SZ := by
      have : ((g :: tl).take b2).length ≤ (g :: tl).length := by rw [List.length_take]; omega
      show _ ≤ 16777216
      omega
    have hz2 : (g :: tl).length + 1 ≤ 16777216 := by omega
    have a1 : binOp false .add (.tup (g :: tl)) (.tup ((g :: tl).take b2)) T = .ok (.tup (g :: tl ++ (g :: tl).take b2)) T := by
      show (if _ then _ else _) = _
      rw [if_pos hz1]
    have a2 : ∀ y : PV, binOp false .add (.tup (g :: tl)) (.tup [y]) T = .ok (.tup (g :: tl ++ [y])) T := fun y => by
      show (if _ then _ else _) = _
      exact if_pos hz2
    have a3 : binOp false .mul (.tup [.tup [.str [97, 100, 100]]]) (.int 400) T = .ok (.tup (List.replicate 400 [PV.tup [.str [97, 100, 100]]]).flatten) T := rfl
    have a4 : binOp false .mul (.tup [.tup [.str [97, 100, 100]]]) (.int 401) T = .ok (.tup (List.replicate 401 [PV.tup [.str [97, 100, 100]]]).flatten) T := rfl
    have a5 : revOp false (.tup (g :: tl)) T = .ok (.tup (g :: tl).reverse) T := rfl
    unfold q5 q6 q7 q8 q9 q10
    generalize (List.replicate 400 [PV.tup [.str [97, 100, 100]]]).flatten = r4 at *
    generalize (List.replicate 401 [PV.tup [.str [97, 100, 100]]]).flatten = r5 at *
    generalize g :: tl ++ (g :: tl).take b2 = r1 at *
    generalize (g :: tl).take b1 = r2 at *
    generalize (g :: tl).take b2 = r3 at *
    have b2' := a2 (.tup [.str [116, 101, 108, 108], .int 0])
    have b3' := a2 (.str [116, 101, 108, 108])
    have b4' := a2 (.tup [.str [108, 101, 110, 103, 116, 104], .str [48]])
    generalize g :: tl ++ [PV.tup [.str [116, 101, 108, 108], .int 0]] = r6 at *
    generalize g :: tl ++ [PV.str [116, 101, 108, 108]] = r7 at *
    generalize g :: tl ++ [PV.tup [.str [108, 101, 110, 103, 116, 104], .str [48]]] = r8 at *
    generalize (g :: tl).reverse = r9 at *
    generalize hgt : g :: tl = gt at *
    simp [SZ, e1, e2, a1, b2', b3', b4', a3, a4, a5, ei]
theorem bent_step {ns : List Int} {a : MO} {m : Nat} {gs ds : List PV} (s : St ns m a) (hm : m < 1000000) (hl : gs.length ≤ 20) (hg : ∀ g ∈ gs, dd 50 2 g = true) (hds : ds.length ≤ 30) (hd : ∀ d ∈ ds, cd 50 10 d = true) : ∃ (ws : List PV) (a1 : MO), ws.length ≤ 50 ∧ (∀ d ∈ ws, cd 51 10 d = true) ∧ St ns (m + 320) a1 ∧ ∀ rest : MP.S,
      exS (callF D G (k + 6)) G (.seq q11 rest) [x0, some (.ref 0), x2, x3, x4, some (.tup gs), x6, some (.vl ds), x8, x9, x10, x11, x12, x13, x14, x15] [a]
      = exS (callF D G (k + 6)) G rest [x0, some (.ref 0), x2, x3, x4, some (.tup gs), x6, some (.vl ws), x8, x9, x10, x11, x12, x13, x14, x15] [a1] := by
  have hgd : dd 50 3 (.tup gs) = true := dd_tupI (by omega) (dds_of hg)
  obtain ⟨vs, a1, e, l, hp, hs⟩ := compO_state (x := true) (n := 16) (i := 13) (c := evT (callF D G (k + 6)) G (.lit (.bl true))) (e := ev (callF D G (k + 6)) G (.call 60 (.cons (.var 1) (.cons (.var 5) (.cons (.lit (.int 0)) .nil)))))
    (σ := [x0, some (.ref 0), x2, x3, x4, some (.tup gs), x6, some (.vl ds), x8, x9, x10, x11, none, none, x14, x15]) (R := []) (a := a) (fun j b => St ns (m + 20 * j) b) (fun v => dd 51 4 v = true) (by decide) (fun σ1 T => by simp)
    (fun j b hj hI => by
      obtain ⟨w, b', e1, hw, s'⟩ := bent (k := k) (R := []) (L := 50) (by decide) (by decide) 3 (.tup gs) 0 _ b hgd hI (by omega)
      refine ⟨w, b', ?_, hw, by rw [show m + 20 * (j + 1) = m + 20 * j + 20 by omega]; exact s'.mono (by omega)⟩
      simp [e1]) (by simpa using s)
  refine ⟨ds ++ vs, a1, by rw [List.length_append, l]; omega, fun d hd' => ?_, hs.mono (by omega), fun rest => ?_⟩
  · rcases List.mem_append.mp hd' with q | q
    · exact cd_mono (by omega) (Nat.le_refl _) (hd d q)
    · exact cd_mono (Nat.le_refl _) (by omega) (cd_of (hp d q))
  · have hz : ds.length + vs.length ≤ 16777216 := by omega
    have ew : walkOf [a] .range [.int 16] = some (.range 0 1 16) := rfl
    unfold q11
    simp [SZ, wipeE, ew, e, hz]
theorem turn {ns : List Int} {a : MO} {m : Nat} (s : St ns m a) (hm : m < 700000) :
    ∃ (z3 z4 z5 z6 z7 z8 z9 : Option PV) (a1 : MO), St ns (m + 700) a1 ∧
      exS (callF D G (k + 6)) G body17 [x0, some (.ref 0), x2, x3, x4, x5, x6, x7, x8, x9, x10, x11, x12, x13, x14, x15] [a]
      = .ok (.next [x0, some (.ref 0), x2, z3, z4, z5, z6, z7, z8, z9, x10, x11, x12, x13, x14, x15]) [a1] := by
  obtain ⟨i, sl, c, p, b1, h1, h2, h3, h4, s1, e1⟩ := turn_head (k := k + 5) (x0 := x0) (x2 := x2) (x3 := x3) (x4 := x4) (x5 := x5) (x6 := x6) (x7 := x7) (x8 := x8) (x9 := x9) (x10 := x10) (x11 := x11) (x12 := x12) (x13 := x13) (x14 := x14) (x15 := x15) s (by omega)
  obtain ⟨rs, b2, l2, hr, s2, e2⟩ := good_step (k := k + 3) (x0 := x0) (x2 := x2) (x5 := x5) (x6 := x6) (x7 := x7) (x8 := x8) (x9 := x9) (x10 := x10) (x11 := x11) (x12 := x12) (x13 := x13) (x14 := x14) (x15 := x15) s1 (by omega) h1 h2 h3 h4
  have hrs : rs ≠ [] := fun e => by rw [e] at l2; simp at l2; omega
  have hg : ∀ g ∈ rs.map Row.pv, dd 50 2 g = true := fun g hg => by
    obtain ⟨r, hr', rfl⟩ := List.mem_map.mp hg
    exact row_dd (hr r hr').1 (hr r hr').2.2
  obtain ⟨ds, ld, hd, e5⟩ := odd_step (k := k + 1) (gs := rs.map Row.pv) (T := [b2]) (x0 := x0) (x1 := some (.ref 0)) (x2 := x2) (x3 := some (.tup [.int i, .int sl, .int c])) (x4 := some (.int (1 + (p : Int)))) (x6 := some (.str (codeTxt rs))) (x7 := x7) (x8 := x8) (x9 := x9) (x10 := x10) (x11 := x11) (x12 := x12) (x13 := x13) (x14 := x14) (x15 := x15) (by simpa using hrs) (by rw [List.length_map]; omega) hg
  obtain ⟨ws, b3, lw, hw, s3, e6⟩ := bent_step (k := k) (x0 := x0) (x2 := x2) (x3 := some (.tup [.int i, .int sl, .int c])) (x4 := some (.int (1 + (p : Int)))) (x6 := some (.str (codeTxt rs))) (x8 := x8) (x9 := x9) (x10 := x10) (x11 := x11) (x12 := x12) (x13 := x13) (x14 := x14) (x15 := x15) s2 (by omega) (by rw [List.length_map]; omega) hg ld hd
  obtain ⟨z8, z9, e7⟩ := chk_all (k := k + 1) (x0 := x0) (x1 := some (.ref 0)) (x2 := x2) (x4 := some (.int (1 + (p : Int)))) (x5 := some (.tup (rs.map Row.pv))) (x6 := some (.str (codeTxt rs))) (x7 := some (.vl ws)) (x10 := x10) (x11 := x11) (x12 := x12) (x13 := x13) (x14 := x14) (x15 := x15) (L := 51) (n := 10) (i := i) (s := sl) (c := c) (T := [b3]) (by omega) (by omega) (by omega) (by omega) (by omega) ws x8 x9 hw
  refine ⟨some (.tup [.int i, .int sl, .int c]), some (.int (1 + (p : Int))), some (.tup (rs.map Row.pv)), some (.str (codeTxt rs)), some (.vl ws), z8, z9, b3, s3.mono (by omega), ?_⟩
  unfold body17 q0 q1
  rw [e1, e2, text_step (k := k + 4) hr (by omega), check_step (k := k + 1) hr hrs (by omega), e5, e6]
  unfold q12
  rw [show k + 1 + 5 = k + 6 by omega] at e7
  have hz : ws.length ≤ 16777216 := by omega
  simp [SZ, loopO_L, hz, e7]
theorem turns {ns : List Int} {a : MO} (s : St ns 0 a) :
    ∃ (z2 z3 z4 z5 z6 z7 z8 z9 : Option PV) (a1 : MO),
      exS (callF D G (k + 6)) G loop17 [x0, some (.ref 0), x2, x3, x4, x5, x6, x7, x8, x9, x10, x11, x12, x13, x14, x15] [a]
      = .ok (.next [x0, some (.ref 0), z2, z3, z4, z5, z6, z7, z8, z9, x10, x11, x12, x13, x14, x15]) [a1] := by
  obtain ⟨y3, y4, y5, y6, y7, y8, y9, a1, s1, e1⟩ := turn (k := k) (x0 := x0) (x2 := some (.int 0)) (x3 := x3) (x4 := x4) (x5 := x5) (x6 := x6) (x7 := x7) (x8 := x8) (x9 := x9) (x10 := x10) (x11 := x11) (x12 := x12) (x13 := x13) (x14 := x14) (x15 := x15) s (by omega)
  obtain ⟨u3, u4, u5, u6, u7, u8, u9, a2, s2, e2⟩ := turn (k := k) (x0 := x0) (x2 := some (.int 1)) (x3 := y3) (x4 := y4) (x5 := y5) (x6 := y6) (x7 := y7) (x8 := y8) (x9 := y9) (x10 := x10) (x11 := x11) (x12 := x12) (x13 := x13) (x14 := x14) (x15 := x15) s1 (by omega)
  obtain ⟨w3, w4, w5, w6, w7, w8, w9, a3, s3, e3⟩ := turn (k := k) (x0 := x0) (x2 := some (.int 2)) (x3 := u3) (x4 := u4) (x5 := u5) (x6 := u6) (x7 := u7) (x8 := u8) (x9 := u9) (x10 := x10) (x11 := x11) (x12 := x12) (x13 := x13) (x14 := x14) (x15 := x15) s2 (by omega)
  refine ⟨some (.int 2), w3, w4, w5, w6, w7, w8, w9, a3, ?_⟩
  rw [loop17_eq]
  have ew : walkOf [a] .range [.int 3] = some (.range 0 1 3) := rfl
  have key : loopO (some (.range 0 1 3)) (.nm 2) (exS (callF D G (k + 6)) G body17) [x0, some (.ref 0), x2, x3, x4, x5, x6, x7, x8, x9, x10, x11, x12, x13, x14, x15] [a] = .ok (.next [x0, some (.ref 0), some (.int 2), w3, w4, w5, w6, w7, w8, w9, x10, x11, x12, x13, x14, x15]) [a3] := by
    refine loop_by 4 (by decide) fun n hn => ?_
    obtain ⟨n, rfl⟩ : ∃ q, n = q + 4 := ⟨n - 4, by omega⟩
    rw [iterL_next (v := .int 0) rfl e1, iterL_next (v := .int 1) rfl e2, iterL_next (v := .int 2) rfl e3]
    rfl
  simp [SZ, ew, key]
theorem letGo_bl {T S : Store} {b : Bool} : ∃ S', letGo T (.ok (.bl b) S) = .ok (.bl b) S' := by
  unfold letGo
  by_cases h : S.length ≤ T.length
  · exact ⟨S, by simp only [h, if_true]⟩
  · simp only [h, if_false]
    split
    · exact ⟨_, rfl⟩
    · exact ⟨_, rfl⟩
theorem d17 : D 17 = some ⟨1, 16, false, t17⟩ := rfl
/-- the law -/
theorem law17 (ns : List Int) : ∃ S, callF D G (k + 7) 17 [.frz (ns.map .int)] [] = .ok (.bl true) S := by
  rw [call_of d17 rfl, t17_eq]
  have e1 := start_ok (k := k + 5) ns
  obtain ⟨z2, z3, z4, z5, z6, z7, z8, z9, a1, e2⟩ := turns (k := k) (x0 := some (.frz (ns.map .int))) (x2 := none) (x3 := none) (x4 := none) (x5 := none) (x6 := none) (x7 := none) (x8 := none) (x9 := none) (x10 := none) (x11 := none) (x12 := none) (x13 := none) (x14 := none) (x15 := none) (start_st ns)
  have e3 := tail_ok (k := k + 1) (x0 := some (.frz (ns.map .int))) (x1 := some (.ref 0)) (x2 := z2) (x3 := z3) (x4 := z4) (x5 := z5) (x6 := z6) (x7 := z7) (x8 := z8) (x9 := z9) (x10 := none) (x11 := none) (x12 := none) (x13 := none) (x14 := none) (x15 := none) [a1]
  have : ofBody (exS (callF D G (k + 6)) G (.seq (.asg (.nm 1) (.call 6 (.cons (.var 0) .nil))) (.seq loop17 tail17)) (startE 16 [.frz (ns.map .int)]) []) = .ok (.bl true) [a1] := by
    generalize loop17 = lp at *
    generalize tail17 = tl at *
    rw [show k + 1 + 5 = k + 6 by omega] at e3
    rw [show k + 5 + 1 = k + 6 by omega] at e1
    simp [startE, SZ, e1, e2, e3, -List.map_map]
  rw [this]
  exact letGo_bl
end MP.K10

set_option Elab.async false
set_option linter.all false
set_option maxRecDepth 100000
set_option maxHeartbeats 4000000
/-! the law's module in the frozen heap -/
namespace MP.K10
open PySem PySem.Spec PySem.W PyProof.Rows L2 MP
def topS (i : Nat) : Stmt := PySem.Challenge.pw_pactlink_k10_code.main.body.getD i (.Pass ⟨0, 0, 0, 0⟩)
def TB : Tab := ⟨[("is_integer", 22), ("is_tuple", 23), ("is_small", 447), ("are_slots", 448), ("is_row", 449), ("is_code", 450), ("write_integer", 0), ("read_integer", 1), ("row_text", 451), ("write_code", 452), ("read_row", 313), ("read_code", 453), ("_law_start", 6), ("_law_draw", 7), ("_law_one_of", 8), ("_law_shuffled", 57), ("_law_is_int", 9), ("_law_same", 10), ("_law_says", 61), ("_law_bent", 60), ("_law_some_row", 454), ("_law_is_below", 455), ("_law_is_row", 456), ("_law_is_right", 120), ("_law_row_text", 457), ("_law_refuses", 458), ("law", 17)], [("MOST_NUMBER", 1), ("MOST_CODE", 2), ("BASE", 3), ("DIGITS", 4), ("PUSH", 5), ("LOAD", 6), ("STORE", 7), ("ADD", 8), ("SUB", 9), ("SCALE", 10), ("DIV", 11), ("MOD", 12), ("READ", 13), ("WRITE", 14), ("LENGTH", 15), ("NEW", 16), ("JUMP", 17), ("LESS", 18), ("SAME", 19), ("CALL", 20), ("LOOP", 21), ("TELL", 22)], [("SIZES", 0), ("KINDS", 23)], [("PactlinkError", 0), ("BadText", 1)], ["len", "abs", "int", "str", "tuple", "list", "all", "divmod", "max", "min", "range", "isinstance", "bool", "set"], fun c => match c with
  | 0 => [0, 1]
  | 1 => [1]
  | _ => [], fun c => match c with
  | 0 => []
  | 1 => [0]
  | _ => [], [], false, false⟩
abbrev s22 : Stmt := topS 1
def N22 : List Str := ["datum"]
theorem sc22 : FnScope N22 (psOf s22) (defScope s22) := ⟨rfl, rfl, rfl, by decide +kernel, rfl, by decide +kernel, by decide +kernel⟩
theorem c22 : compS { TB with mu := [], keep := false, nest := false } N22 (defScope s22) 60 false (defBody s22) = some t22 := by rfl
abbrev s23 : Stmt := topS 2
def N23 : List Str := ["datum", "many"]
theorem sc23 : FnScope N23 (psOf s23) (defScope s23) := ⟨rfl, rfl, rfl, by decide +kernel, rfl, by decide +kernel, by decide +kernel⟩
theorem c23 : compS { TB with mu := [], keep := false, nest := false } N23 (defScope s23) 60 false (defBody s23) = some t23 := by rfl
abbrev s447 : Stmt := topS 7
def N447 : List Str := ["datum"]
theorem sc447 : FnScope N447 (psOf s447) (defScope s447) := ⟨rfl, rfl, rfl, by decide +kernel, rfl, by decide +kernel, by decide +kernel⟩
theorem c447 : compS { TB with mu := [], keep := false, nest := false } N447 (defScope s447) 60 false (defBody s447) = some t447 := by rfl
abbrev s448 : Stmt := topS 8
def N448 : List Str := ["datum", "slots", ".0", "slot"]
theorem sc448 : FnScope N448 (psOf s448) (defScope s448) := ⟨rfl, rfl, rfl, by decide +kernel, rfl, by decide +kernel, by decide +kernel⟩
theorem c448 : compS { TB with mu := [], keep := false, nest := false } N448 (defScope s448) 60 false (defBody s448) = some t448 := by rfl
abbrev s449 : Stmt := topS 9
def N449 : List Str := ["datum", "sizes", "places", "locals_count", "slots", "functions"]
theorem sc449 : FnScope N449 (psOf s449) (defScope s449) := ⟨rfl, rfl, rfl, by decide +kernel, rfl, by decide +kernel, by decide +kernel⟩
theorem c449 : compS { TB with mu := [], keep := false, nest := false } N449 (defScope s449) 60 false (defBody s449) = some t449 := by rfl
abbrev s450 : Stmt := topS 10
def N450 : List Str := ["datum", "locals_count", "slots", "functions", "sizes", ".0", "row"]
theorem sc450 : FnScope N450 (psOf s450) (defScope s450) := ⟨rfl, rfl, rfl, by decide +kernel, rfl, by decide +kernel, by decide +kernel⟩
theorem c450 : compS { TB with mu := [], keep := false, nest := false } N450 (defScope s450) 60 false (defBody s450) = some t450 := by rfl
abbrev s0 : Stmt := topS 17
def N0 : List Str := ["n", "chunks", "low"]
theorem sc0 : FnScope N0 (psOf s0) (defScope s0) := ⟨rfl, rfl, rfl, by decide +kernel, rfl, by decide +kernel, by decide +kernel⟩
theorem c0 : compS { TB with mu := ["chunks"], keep := false, nest := false } N0 (defScope s0) 60 false (defBody s0) = some t0 := by rfl
abbrev s1 : Stmt := topS 18
def N1 : List Str := ["text", "digits", "char", "head", "n", "start"]
theorem sc1 : FnScope N1 (psOf s1) (defScope s1) := ⟨rfl, rfl, rfl, by decide +kernel, rfl, by decide +kernel, by decide +kernel⟩
theorem c1 : compS { TB with mu := [], keep := false, nest := false } N1 (defScope s1) 60 false (defBody s1) = some t1 := by rfl
abbrev s451 : Stmt := topS 39
def N451 : List Str := ["one", ".0", "slot", "number"]
theorem sc451 : FnScope N451 (psOf s451) (defScope s451) := ⟨rfl, rfl, rfl, by decide +kernel, rfl, by decide +kernel, by decide +kernel⟩
theorem c451 : compS { TB with mu := [], keep := false, nest := false } N451 (defScope s451) 60 false (defBody s451) = some t451 := by rfl
abbrev s452 : Stmt := topS 40
def N452 : List Str := ["code", ".0", "one"]
theorem sc452 : FnScope N452 (psOf s452) (defScope s452) := ⟨rfl, rfl, rfl, by decide +kernel, rfl, by decide +kernel, by decide +kernel⟩
theorem c452 : compS { TB with mu := [], keep := false, nest := false } N452 (defScope s452) 60 false (defBody s452) = some t452 := by rfl
abbrev s313 : Stmt := topS 41
def N313 : List Str := ["line", "words", "kind", "numbers", ".0", "word"]
theorem sc313 : FnScope N313 (psOf s313) (defScope s313) := ⟨rfl, rfl, rfl, by decide +kernel, rfl, by decide +kernel, by decide +kernel⟩
theorem c313 : compS { TB with mu := [], keep := false, nest := false } N313 (defScope s313) 60 false (defBody s313) = some t313 := by rfl
abbrev s453 : Stmt := topS 42
def N453 : List Str := ["text", ".0", "line"]
theorem sc453 : FnScope N453 (psOf s453) (defScope s453) := ⟨rfl, rfl, rfl, by decide +kernel, rfl, by decide +kernel, by decide +kernel⟩
theorem c453 : compS { TB with mu := [], keep := false, nest := false } N453 (defScope s453) 60 false (defBody s453) = some t453 := by rfl
abbrev s6 : Stmt := topS 44
def N6 : List Str := ["script"]
theorem sc6 : FnScope N6 (psOf s6) (defScope s6) := ⟨rfl, rfl, rfl, by decide +kernel, rfl, by decide +kernel, by decide +kernel⟩
theorem c6 : compS { TB with mu := [], keep := true, nest := false } N6 (defScope s6) 60 false (defBody s6) = some t6 := by rfl
abbrev s7 : Stmt := topS 45
def N7 : List Str := ["state", "most", "found", "cell", "mixed"]
theorem sc7 : FnScope N7 (psOf s7) (defScope s7) := ⟨rfl, rfl, rfl, by decide +kernel, rfl, by decide +kernel, by decide +kernel⟩
theorem c7 : compS { TB with mu := ["state"], keep := false, nest := false } N7 (defScope s7) 60 false (defBody s7) = some t7 := by rfl
abbrev s8 : Stmt := topS 46
def N8 : List Str := ["state", "items"]
theorem sc8 : FnScope N8 (psOf s8) (defScope s8) := ⟨rfl, rfl, rfl, by decide +kernel, rfl, by decide +kernel, by decide +kernel⟩
theorem c8 : compS { TB with mu := ["state"], keep := false, nest := false } N8 (defScope s8) 60 false (defBody s8) = some t8 := by rfl
abbrev s57 : Stmt := topS 47
def N57 : List Str := ["state", "items", "found", "item"]
theorem sc57 : FnScope N57 (psOf s57) (defScope s57) := ⟨rfl, rfl, rfl, by decide +kernel, rfl, by decide +kernel, by decide +kernel⟩
theorem c57 : compS { TB with mu := ["found", "state"], keep := false, nest := false } N57 (defScope s57) 60 false (defBody s57) = some t57 := by rfl
abbrev s9 : Stmt := topS 48
def N9 : List Str := ["x"]
theorem sc9 : FnScope N9 (psOf s9) (defScope s9) := ⟨rfl, rfl, rfl, by decide +kernel, rfl, by decide +kernel, by decide +kernel⟩
theorem c9 : compS { TB with mu := [], keep := false, nest := false } N9 (defScope s9) 60 false (defBody s9) = some t9 := by rfl
abbrev s10 : Stmt := topS 49
def N10 : List Str := ["x", "y", ".0", "k"]
theorem sc10 : FnScope N10 (psOf s10) (defScope s10) := ⟨rfl, rfl, rfl, by decide +kernel, rfl, by decide +kernel, by decide +kernel⟩
theorem c10 : compS { TB with mu := [], keep := false, nest := false } N10 (defScope s10) 60 false (defBody s10) = some t10 := by rfl
abbrev s61 : Stmt := topS 50
def N61 : List Str := ["found", "due"]
theorem sc61 : FnScope N61 (psOf s61) (defScope s61) := ⟨rfl, rfl, rfl, by decide +kernel, rfl, by decide +kernel, by decide +kernel⟩
theorem c61 : compS { TB with mu := [], keep := false, nest := false } N61 (defScope s61) 60 false (defBody s61) = some t61 := by rfl
abbrev s60 : Stmt := topS 51
def N60 : List Str := ["state", "datum", "depth", "at", "other"]
theorem sc60 : FnScope N60 (psOf s60) (defScope s60) := ⟨rfl, rfl, rfl, by decide +kernel, rfl, by decide +kernel, by decide +kernel⟩
theorem c60 : compS { TB with mu := ["state"], keep := false, nest := false } N60 (defScope s60) 60 false (defBody s60) = some t60 := by rfl
abbrev s454 : Stmt := topS 52
def N454 : List Str := ["state", "places", "sizes", "inner", "slots", "called", "pick", "number", "some"]
theorem sc454 : FnScope N454 (psOf s454) (defScope s454) := ⟨rfl, rfl, rfl, by decide +kernel, rfl, by decide +kernel, by decide +kernel⟩
theorem c454 : compS { TB with mu := ["state"], keep := false, nest := false } N454 (defScope s454) 60 false (defBody s454) = some t454 := by rfl
abbrev s455 : Stmt := topS 53
def N455 : List Str := ["x", "most"]
theorem sc455 : FnScope N455 (psOf s455) (defScope s455) := ⟨rfl, rfl, rfl, by decide +kernel, rfl, by decide +kernel, by decide +kernel⟩
theorem c455 : compS { TB with mu := [], keep := false, nest := false } N455 (defScope s455) 60 false (defBody s455) = some t455 := by rfl
abbrev s456 : Stmt := topS 54
def N456 : List Str := ["row", "places", "sizes", "inner", "slots", "called", "word", "unlike", ".0", "k", "x"]
theorem sc456 : FnScope N456 (psOf s456) (defScope s456) := ⟨rfl, rfl, rfl, by decide +kernel, rfl, by decide +kernel, by decide +kernel⟩
theorem c456 : compS { TB with mu := [], keep := false, nest := false } N456 (defScope s456) 60 false (defBody s456) = some t456 := by rfl
abbrev s120 : Stmt := topS 55
def N120 : List Str := ["datum", "sizes", ".0", "row"]
theorem sc120 : FnScope N120 (psOf s120) (defScope s120) := ⟨rfl, rfl, rfl, by decide +kernel, rfl, by decide +kernel, by decide +kernel⟩
theorem c120 : compS { TB with mu := [], keep := false, nest := false } N120 (defScope s120) 60 false (defBody s120) = some t120 := by rfl
abbrev s457 : Stmt := topS 56
def N457 : List Str := ["row", "numbers", ".0", "x"]
theorem sc457 : FnScope N457 (psOf s457) (defScope s457) := ⟨rfl, rfl, rfl, by decide +kernel, rfl, by decide +kernel, by decide +kernel⟩
theorem c457 : compS { TB with mu := [], keep := false, nest := false } N457 (defScope s457) 60 false (defBody s457) = some t457 := by rfl
abbrev s458 : Stmt := topS 57
def N458 : List Str := ["text"]
theorem sc458 : FnScope N458 (psOf s458) (defScope s458) := ⟨rfl, rfl, rfl, by decide +kernel, rfl, by decide +kernel, by decide +kernel⟩
theorem c458 : compS { TB with mu := [], keep := false, nest := false } N458 (defScope s458) 60 false (defBody s458) = some t458 := by rfl
abbrev s17 : Stmt := topS 58
def N17 : List Str := ["script", "state", "turn", "sizes", "places", "good", "text", "odd", "datum", "other", "far", "bad", ".0", "k", "row", "one"]
theorem sc17 : FnScope N17 (psOf s17) (defScope s17) := ⟨rfl, rfl, rfl, by decide +kernel, rfl, by decide +kernel, by decide +kernel⟩
theorem c17 : compS { TB with mu := ["state"], keep := false, nest := false } N17 (defScope s17) 60 false (defBody s17) = some t17 := by rfl
theorem w_mk {w : World} {K : PySem.W.Frag} {h : Heap} {mg : Str → Option Value} {fa f22 f23 f447 f448 f449 f450 f0 f1 f451 f452 f313 f453 f6 f7 f8 f57 f9 f10 f61 f60 f454 f455 f456 f120 f457 f458 f17 q0 q1 dd0 dd23 : Addr} {od22 an22 od23 an23 od447 an447 od448 an448 od449 an449 od450 an450 od0 an0 od1 an1 od451 an451 od452 an452 od313 an313 od453 an453 od6 an6 od7 an7 od8 an8 od57 an57 od9 an9 od10 an10 od61 an61 od60 an60 od454 an454 od455 an455 od456 an456 od120 an120 od457 an457 od458 an458 od17 an17 : Option Addr} {sl22 sl23 sl447 sl448 sl449 sl450 sl0 sl1 sl451 sl452 sl313 sl453 sl6 sl7 sl8 sl57 sl9 sl10 sl61 sl60 sl454 sl455 sl456 sl120 sl457 sl458 sl17 : Array (Option Value)} {oc22 kv22 dc22 pm22 cd22 ct22 oc23 kv23 dc23 pm23 cd23 ct23 oc447 kv447 dc447 pm447 cd447 ct447 oc448 kv448 dc448 pm448 cd448 ct448 oc449 kv449 dc449 pm449 cd449 ct449 oc450 kv450 dc450 pm450 cd450 ct450 oc0 kv0 dc0 pm0 cd0 ct0 oc1 kv1 dc1 pm1 cd1 ct1 oc451 kv451 dc451 pm451 cd451 ct451 oc452 kv452 dc452 pm452 cd452 ct452 oc313 kv313 dc313 pm313 cd313 ct313 oc453 kv453 dc453 pm453 cd453 ct453 oc6 kv6 dc6 pm6 cd6 ct6 oc7 kv7 dc7 pm7 cd7 ct7 oc8 kv8 dc8 pm8 cd8 ct8 oc57 kv57 dc57 pm57 cd57 ct57 oc9 kv9 dc9 pm9 cd9 ct9 oc10 kv10 dc10 pm10 cd10 ct10 oc61 kv61 dc61 pm61 cd61 ct61 oc60 kv60 dc60 pm60 cd60 ct60 oc454 kv454 dc454 pm454 cd454 ct454 oc455 kv455 dc455 pm455 cd455 ct455 oc456 kv456 dc456 pm456 cd456 ct456 oc120 kv120 dc120 pm120 cd120 ct120 oc457 kv457 dc457 pm457 cd457 ct457 oc458 kv458 dc458 pm458 cd458 ct458 oc17 kv17 dc17 pm17 cd17 ct17 : Value} {es0 es23 : Array DictEntry} {en0 en23 : Nat} (X : K.In h) (Gm : h.Ns mainGlobals mg) (hfa : mg "law" = some (.ref fa))
    (kc : ∀ x g, TB.consts.lookup x = some g → ∃ v u pv, G g = some pv ∧ mg x = some u ∧ RelV v u ∧ ∀ xa H μ, Rel K xa H μ pv v)
    (a22 : PySem.W.nsIn K mainGlobals "is_integer" = some (some (.ref f22)))
    (l22 : K.lookup f22 = some ⟨oc22, od22, .func (PySem.W.fnOf "is_integer" "is_integer" (defArgs s22) (defBody s22) (defScope s22) .none kv22 dc22 pm22 an22 cd22 ct22), sl22⟩)
    (b22 : PySem.W.codeIn K cd22 "is_integer" = true)
    (k22 : PySem.W.keepIn K (.ref f22) = true)
    (a23 : PySem.W.nsIn K mainGlobals "is_tuple" = some (some (.ref f23)))
    (l23 : K.lookup f23 = some ⟨oc23, od23, .func (PySem.W.fnOf "is_tuple" "is_tuple" (defArgs s23) (defBody s23) (defScope s23) .none kv23 dc23 pm23 an23 cd23 ct23), sl23⟩)
    (b23 : PySem.W.codeIn K cd23 "is_tuple" = true)
    (k23 : PySem.W.keepIn K (.ref f23) = true)
    (a447 : PySem.W.nsIn K mainGlobals "is_small" = some (some (.ref f447)))
    (l447 : K.lookup f447 = some ⟨oc447, od447, .func (PySem.W.fnOf "is_small" "is_small" (defArgs s447) (defBody s447) (defScope s447) .none kv447 dc447 pm447 an447 cd447 ct447), sl447⟩)
    (b447 : PySem.W.codeIn K cd447 "is_small" = true)
    (k447 : PySem.W.keepIn K (.ref f447) = true)
    (a448 : PySem.W.nsIn K mainGlobals "are_slots" = some (some (.ref f448)))
    (l448 : K.lookup f448 = some ⟨oc448, od448, .func (PySem.W.fnOf "are_slots" "are_slots" (defArgs s448) (defBody s448) (defScope s448) .none kv448 dc448 pm448 an448 cd448 ct448), sl448⟩)
    (b448 : PySem.W.codeIn K cd448 "are_slots" = true)
    (k448 : PySem.W.keepIn K (.ref f448) = true)
    (a449 : PySem.W.nsIn K mainGlobals "is_row" = some (some (.ref f449)))
    (l449 : K.lookup f449 = some ⟨oc449, od449, .func (PySem.W.fnOf "is_row" "is_row" (defArgs s449) (defBody s449) (defScope s449) .none kv449 dc449 pm449 an449 cd449 ct449), sl449⟩)
    (b449 : PySem.W.codeIn K cd449 "is_row" = true)
    (k449 : PySem.W.keepIn K (.ref f449) = true)
    (a450 : PySem.W.nsIn K mainGlobals "is_code" = some (some (.ref f450)))
    (l450 : K.lookup f450 = some ⟨oc450, od450, .func (PySem.W.fnOf "is_code" "is_code" (defArgs s450) (defBody s450) (defScope s450) .none kv450 dc450 pm450 an450 cd450 ct450), sl450⟩)
    (b450 : PySem.W.codeIn K cd450 "is_code" = true)
    (k450 : PySem.W.keepIn K (.ref f450) = true)
    (a0 : PySem.W.nsIn K mainGlobals "write_integer" = some (some (.ref f0)))
    (l0 : K.lookup f0 = some ⟨oc0, od0, .func (PySem.W.fnOf "write_integer" "write_integer" (defArgs s0) (defBody s0) (defScope s0) .none kv0 dc0 pm0 an0 cd0 ct0), sl0⟩)
    (b0 : PySem.W.codeIn K cd0 "write_integer" = true)
    (k0 : PySem.W.keepIn K (.ref f0) = true)
    (a1 : PySem.W.nsIn K mainGlobals "read_integer" = some (some (.ref f1)))
    (l1 : K.lookup f1 = some ⟨oc1, od1, .func (PySem.W.fnOf "read_integer" "read_integer" (defArgs s1) (defBody s1) (defScope s1) .none kv1 dc1 pm1 an1 cd1 ct1), sl1⟩)
    (b1 : PySem.W.codeIn K cd1 "read_integer" = true)
    (k1 : PySem.W.keepIn K (.ref f1) = true)
    (a451 : PySem.W.nsIn K mainGlobals "row_text" = some (some (.ref f451)))
    (l451 : K.lookup f451 = some ⟨oc451, od451, .func (PySem.W.fnOf "row_text" "row_text" (defArgs s451) (defBody s451) (defScope s451) .none kv451 dc451 pm451 an451 cd451 ct451), sl451⟩)
    (b451 : PySem.W.codeIn K cd451 "row_text" = true)
    (k451 : PySem.W.keepIn K (.ref f451) = true)
    (a452 : PySem.W.nsIn K mainGlobals "write_code" = some (some (.ref f452)))
    (l452 : K.lookup f452 = some ⟨oc452, od452, .func (PySem.W.fnOf "write_code" "write_code" (defArgs s452) (defBody s452) (defScope s452) .none kv452 dc452 pm452 an452 cd452 ct452), sl452⟩)
    (b452 : PySem.W.codeIn K cd452 "write_code" = true)
    (k452 : PySem.W.keepIn K (.ref f452) = true)
    (a313 : PySem.W.nsIn K mainGlobals "read_row" = some (some (.ref f313)))
    (l313 : K.lookup f313 = some ⟨oc313, od313, .func (PySem.W.fnOf "read_row" "read_row" (defArgs s313) (defBody s313) (defScope s313) .none kv313 dc313 pm313 an313 cd313 ct313), sl313⟩)
    (b313 : PySem.W.codeIn K cd313 "read_row" = true)
    (k313 : PySem.W.keepIn K (.ref f313) = true)
    (a453 : PySem.W.nsIn K mainGlobals "read_code" = some (some (.ref f453)))
    (l453 : K.lookup f453 = some ⟨oc453, od453, .func (PySem.W.fnOf "read_code" "read_code" (defArgs s453) (defBody s453) (defScope s453) .none kv453 dc453 pm453 an453 cd453 ct453), sl453⟩)
    (b453 : PySem.W.codeIn K cd453 "read_code" = true)
    (k453 : PySem.W.keepIn K (.ref f453) = true)
    (a6 : PySem.W.nsIn K mainGlobals "_law_start" = some (some (.ref f6)))
    (l6 : K.lookup f6 = some ⟨oc6, od6, .func (PySem.W.fnOf "_law_start" "_law_start" (defArgs s6) (defBody s6) (defScope s6) .none kv6 dc6 pm6 an6 cd6 ct6), sl6⟩)
    (b6 : PySem.W.codeIn K cd6 "_law_start" = true)
    (k6 : PySem.W.keepIn K (.ref f6) = true)
    (a7 : PySem.W.nsIn K mainGlobals "_law_draw" = some (some (.ref f7)))
    (l7 : K.lookup f7 = some ⟨oc7, od7, .func (PySem.W.fnOf "_law_draw" "_law_draw" (defArgs s7) (defBody s7) (defScope s7) .none kv7 dc7 pm7 an7 cd7 ct7), sl7⟩)
    (b7 : PySem.W.codeIn K cd7 "_law_draw" = true)
    (k7 : PySem.W.keepIn K (.ref f7) = true)
    (a8 : PySem.W.nsIn K mainGlobals "_law_one_of" = some (some (.ref f8)))
    (l8 : K.lookup f8 = some ⟨oc8, od8, .func (PySem.W.fnOf "_law_one_of" "_law_one_of" (defArgs s8) (defBody s8) (defScope s8) .none kv8 dc8 pm8 an8 cd8 ct8), sl8⟩)
    (b8 : PySem.W.codeIn K cd8 "_law_one_of" = true)
    (k8 : PySem.W.keepIn K (.ref f8) = true)
    (a57 : PySem.W.nsIn K mainGlobals "_law_shuffled" = some (some (.ref f57)))
    (l57 : K.lookup f57 = some ⟨oc57, od57, .func (PySem.W.fnOf "_law_shuffled" "_law_shuffled" (defArgs s57) (defBody s57) (defScope s57) .none kv57 dc57 pm57 an57 cd57 ct57), sl57⟩)
    (b57 : PySem.W.codeIn K cd57 "_law_shuffled" = true)
    (k57 : PySem.W.keepIn K (.ref f57) = true)
    (a9 : PySem.W.nsIn K mainGlobals "_law_is_int" = some (some (.ref f9)))
    (l9 : K.lookup f9 = some ⟨oc9, od9, .func (PySem.W.fnOf "_law_is_int" "_law_is_int" (defArgs s9) (defBody s9) (defScope s9) .none kv9 dc9 pm9 an9 cd9 ct9), sl9⟩)
    (b9 : PySem.W.codeIn K cd9 "_law_is_int" = true)
    (k9 : PySem.W.keepIn K (.ref f9) = true)
    (a10 : PySem.W.nsIn K mainGlobals "_law_same" = some (some (.ref f10)))
    (l10 : K.lookup f10 = some ⟨oc10, od10, .func (PySem.W.fnOf "_law_same" "_law_same" (defArgs s10) (defBody s10) (defScope s10) .none kv10 dc10 pm10 an10 cd10 ct10), sl10⟩)
    (b10 : PySem.W.codeIn K cd10 "_law_same" = true)
    (k10 : PySem.W.keepIn K (.ref f10) = true)
    (a61 : PySem.W.nsIn K mainGlobals "_law_says" = some (some (.ref f61)))
    (l61 : K.lookup f61 = some ⟨oc61, od61, .func (PySem.W.fnOf "_law_says" "_law_says" (defArgs s61) (defBody s61) (defScope s61) .none kv61 dc61 pm61 an61 cd61 ct61), sl61⟩)
    (b61 : PySem.W.codeIn K cd61 "_law_says" = true)
    (k61 : PySem.W.keepIn K (.ref f61) = true)
    (a60 : PySem.W.nsIn K mainGlobals "_law_bent" = some (some (.ref f60)))
    (l60 : K.lookup f60 = some ⟨oc60, od60, .func (PySem.W.fnOf "_law_bent" "_law_bent" (defArgs s60) (defBody s60) (defScope s60) .none kv60 dc60 pm60 an60 cd60 ct60), sl60⟩)
    (b60 : PySem.W.codeIn K cd60 "_law_bent" = true)
    (k60 : PySem.W.keepIn K (.ref f60) = true)
    (a454 : PySem.W.nsIn K mainGlobals "_law_some_row" = some (some (.ref f454)))
    (l454 : K.lookup f454 = some ⟨oc454, od454, .func (PySem.W.fnOf "_law_some_row" "_law_some_row" (defArgs s454) (defBody s454) (defScope s454) .none kv454 dc454 pm454 an454 cd454 ct454), sl454⟩)
    (b454 : PySem.W.codeIn K cd454 "_law_some_row" = true)
    (k454 : PySem.W.keepIn K (.ref f454) = true)
    (a455 : PySem.W.nsIn K mainGlobals "_law_is_below" = some (some (.ref f455)))
    (l455 : K.lookup f455 = some ⟨oc455, od455, .func (PySem.W.fnOf "_law_is_below" "_law_is_below" (defArgs s455) (defBody s455) (defScope s455) .none kv455 dc455 pm455 an455 cd455 ct455), sl455⟩)
    (b455 : PySem.W.codeIn K cd455 "_law_is_below" = true)
    (k455 : PySem.W.keepIn K (.ref f455) = true)
    (a456 : PySem.W.nsIn K mainGlobals "_law_is_row" = some (some (.ref f456)))
    (l456 : K.lookup f456 = some ⟨oc456, od456, .func (PySem.W.fnOf "_law_is_row" "_law_is_row" (defArgs s456) (defBody s456) (defScope s456) .none kv456 dc456 pm456 an456 cd456 ct456), sl456⟩)
    (b456 : PySem.W.codeIn K cd456 "_law_is_row" = true)
    (k456 : PySem.W.keepIn K (.ref f456) = true)
    (a120 : PySem.W.nsIn K mainGlobals "_law_is_right" = some (some (.ref f120)))
    (l120 : K.lookup f120 = some ⟨oc120, od120, .func (PySem.W.fnOf "_law_is_right" "_law_is_right" (defArgs s120) (defBody s120) (defScope s120) .none kv120 dc120 pm120 an120 cd120 ct120), sl120⟩)
    (b120 : PySem.W.codeIn K cd120 "_law_is_right" = true)
    (k120 : PySem.W.keepIn K (.ref f120) = true)
    (a457 : PySem.W.nsIn K mainGlobals "_law_row_text" = some (some (.ref f457)))
    (l457 : K.lookup f457 = some ⟨oc457, od457, .func (PySem.W.fnOf "_law_row_text" "_law_row_text" (defArgs s457) (defBody s457) (defScope s457) .none kv457 dc457 pm457 an457 cd457 ct457), sl457⟩)
    (b457 : PySem.W.codeIn K cd457 "_law_row_text" = true)
    (k457 : PySem.W.keepIn K (.ref f457) = true)
    (a458 : PySem.W.nsIn K mainGlobals "_law_refuses" = some (some (.ref f458)))
    (l458 : K.lookup f458 = some ⟨oc458, od458, .func (PySem.W.fnOf "_law_refuses" "_law_refuses" (defArgs s458) (defBody s458) (defScope s458) .none kv458 dc458 pm458 an458 cd458 ct458), sl458⟩)
    (b458 : PySem.W.codeIn K cd458 "_law_refuses" = true)
    (k458 : PySem.W.keepIn K (.ref f458) = true)
    (a17 : PySem.W.nsIn K mainGlobals "law" = some (some (.ref f17)))
    (l17 : K.lookup f17 = some ⟨oc17, od17, .func (PySem.W.fnOf "law" "law" (defArgs s17) (defBody s17) (defScope s17) .none kv17 dc17 pm17 an17 cd17 ct17), sl17⟩)
    (b17 : PySem.W.codeIn K cd17 "law" = true)
    (k17 : PySem.W.keepIn K (.ref f17) = true)
    (x0_0 : PySem.W.nsIn K mainGlobals "PactlinkError" = some (some (.ref q0)))
    (x0_1 : PySem.W.excIn K q0 veRow "ValueError.__new__" = true)
    (x0_2 : PySem.W.keepIn K (.ref q0) = true)
    (x0_3 : PySem.W.subIn K (.ref q0) (.type "BaseException") = some true)
    (x0_4 : PySem.W.typeIn K (.ref q0) = some (.type "type"))
    (x0_5 : PySem.W.isClsIn K q0 = true)
    (x0_6 : PySem.W.subIn K (.ref q0) (.ref q0) = some true)
    (x0_7 : PySem.W.findIn K (.ref q0) "__getattribute__" = some (some (.builtin "BaseException.__getattribute__")))
    (x0_8 : PySem.W.findIn K (.ref q0) "__getattr__" = some none)
    (x0_9 : PySem.W.hasDictIn K q0 = true)
    (x0_10 : PySem.W.findIn K (.ref q0) "__class__" = some (some (.builtin "object.__class__")))
    (x0_11 : PySem.W.specialIn K (.builtin "object.__class__") "__get__" = some (some (.builtin "getset_descriptor.__get__")))
    (x0_12 : PySem.W.takesIn K (.builtin "object.__class__") = some true)
    (x0_13 : PySem.W.mroIn K q0 (.type "object") = some true)
    (x1_0 : PySem.W.nsIn K mainGlobals "BadText" = some (some (.ref q1)))
    (x1_1 : PySem.W.excIn K q1 veRow "ValueError.__new__" = true)
    (x1_2 : PySem.W.keepIn K (.ref q1) = true)
    (x1_3 : PySem.W.subIn K (.ref q1) (.type "BaseException") = some true)
    (x1_4 : PySem.W.typeIn K (.ref q1) = some (.type "type"))
    (x1_5 : PySem.W.isClsIn K q1 = true)
    (x1_6 : PySem.W.subIn K (.ref q1) (.ref q1) = some true)
    (x1_7 : PySem.W.findIn K (.ref q1) "__getattribute__" = some (some (.builtin "BaseException.__getattribute__")))
    (x1_8 : PySem.W.findIn K (.ref q1) "__getattr__" = some none)
    (x1_9 : PySem.W.hasDictIn K q1 = true)
    (x1_10 : PySem.W.findIn K (.ref q1) "__class__" = some (some (.builtin "object.__class__")))
    (x1_11 : PySem.W.specialIn K (.builtin "object.__class__") "__get__" = some (some (.builtin "getset_descriptor.__get__")))
    (x1_12 : PySem.W.takesIn K (.builtin "object.__class__") = some true)
    (x1_13 : PySem.W.mroIn K q1 (.type "object") = some true)
    (y1_0 : PySem.W.subIn K (.ref q1) (.ref q0) = some true)
    (y0_1 : PySem.W.subIn K (.ref q0) (.ref q1) = some false)
    (z0 : PySem.W.nsIn K mainGlobals "len" = some none)
    (z1 : PySem.W.nsIn K mainGlobals "abs" = some none)
    (z2 : PySem.W.nsIn K mainGlobals "int" = some none)
    (z3 : PySem.W.nsIn K mainGlobals "str" = some none)
    (z4 : PySem.W.nsIn K mainGlobals "tuple" = some none)
    (z5 : PySem.W.nsIn K mainGlobals "list" = some none)
    (z6 : PySem.W.nsIn K mainGlobals "all" = some none)
    (z7 : PySem.W.nsIn K mainGlobals "divmod" = some none)
    (z8 : PySem.W.nsIn K mainGlobals "max" = some none)
    (z9 : PySem.W.nsIn K mainGlobals "min" = some none)
    (z10 : PySem.W.nsIn K mainGlobals "range" = some none)
    (z11 : PySem.W.nsIn K mainGlobals "isinstance" = some none)
    (z12 : PySem.W.nsIn K mainGlobals "bool" = some none)
    (z13 : PySem.W.nsIn K mainGlobals "set" = some none)
    (da0 : PySem.W.nsIn K mainGlobals "SIZES" = some (some (.ref dd0)))
    (dl0 : K.lookup dd0 = some ⟨.type "dict", none, .dict es0 en0, #[]⟩)
    (ds0 : (dd0 == sysModules) = false)
    (dr0 : DR w.params K es0.toList [.s [112, 117, 115, 104], .s [108, 111, 97, 100], .s [115, 116, 111, 114, 101], .s [97, 100, 100], .s [115, 117, 98], .s [115, 99, 97, 108, 101], .s [100, 105, 118], .s [109, 111, 100], .s [114, 101, 97, 100], .s [119, 114, 105, 116, 101], .s [108, 101, 110, 103, 116, 104], .s [110, 101, 119], .s [106, 117, 109, 112], .s [108, 101, 115, 115], .s [115, 97, 109, 101], .s [99, 97, 108, 108], .s [108, 111, 111, 112], .s [116, 101, 108, 108]] [.int 1, .int 1, .int 1, .int 0, .int 0, .int 1, .int 1, .int 1, .int 1, .int 1, .int 1, .int 1, .int 1, .int 1, .int 1, .int 2, .int 0, .int 0])
    (da23 : PySem.W.nsIn K mainGlobals "KINDS" = some (some (.ref dd23)))
    (dl23 : K.lookup dd23 = some ⟨.type "dict", none, .dict es23 en23, #[]⟩)
    (ds23 : (dd23 == sysModules) = false)
    (dr23 : DR w.params K es23.toList [.s [112, 117, 115, 104], .s [108, 111, 97, 100], .s [115, 116, 111, 114, 101], .s [97, 100, 100], .s [115, 117, 98], .s [115, 99, 97, 108, 101], .s [100, 105, 118], .s [109, 111, 100], .s [114, 101, 97, 100], .s [119, 114, 105, 116, 101], .s [108, 101, 110, 103, 116, 104], .s [110, 101, 119], .s [106, 117, 109, 112], .s [108, 101, 115, 115], .s [115, 97, 109, 101], .s [99, 97, 108, 108], .s [108, 111, 111, 112], .s [116, 101, 108, 108]] [.str [105, 110, 116, 101, 103, 101, 114], .str [108, 111, 99, 97, 108], .str [108, 111, 99, 97, 108], .str [], .str [], .str [105, 110, 116, 101, 103, 101, 114], .str [100, 105, 118, 105, 115, 111, 114], .str [100, 105, 118, 105, 115, 111, 114], .str [115, 108, 111, 116], .str [115, 108, 111, 116], .str [115, 108, 111, 116], .str [115, 108, 111, 116], .str [112, 108, 97, 99, 101], .str [112, 108, 97, 99, 101], .str [112, 108, 97, 99, 101], .str [99, 97, 108, 108], .str [], .str []]) :
    ∃ (ca : Nat → Addr) (y : Str) (fd : FuncData), Fun K y y s17 fa fd ∧ (∀ (s : Shared) (u : Value), BindsTo s fd ⟨[u], []⟩ [("script", u)]) ∧ Wd w K mg TB ca D G := by
  have e := hfa.symm.trans (PySem.W.mg_of X Gm a17)
  cases e
  have Q0 := clsK_of (x := "PactlinkError") X Gm x0_0 x0_1 x0_2 x0_3 x0_4 x0_5 x0_6 x0_7 x0_8 x0_9 x0_10 x0_11 x0_12 x0_13
  have Q1 := clsK_of (x := "BadText") X Gm x1_0 x1_1 x1_2 x1_3 x1_4 x1_5 x1_6 x1_7 x1_8 x1_9 x1_10 x1_11 x1_12 x1_13
  refine ⟨fun c => match c with | 0 => q0 | 1 => q1 | _ => 0, "law", _, fun_mk (st := s17) l17 b17 k17, fun s u => .of_eq rfl, ⟨?_, kc, ?_, ?_, ?_⟩⟩
  · intro x f hx
    unfold TB at hx
    simp only [List.lookup] at hx
    repeat' split at hx
    · rename_i e; have e := beq_iff_eq.mp e; subst e; cases hx; exact fnF_of X Gm sc22 c22 rfl (fun _ _ _ _ _ _ us hl => match us, hl with | [_], _ => rfl) a22 l22 b22 k22
    · rename_i e; have e := beq_iff_eq.mp e; subst e; cases hx; exact fnF_of X Gm sc23 c23 rfl (fun _ _ _ _ _ _ us hl => match us, hl with | [_, _], _ => rfl) a23 l23 b23 k23
    · rename_i e; have e := beq_iff_eq.mp e; subst e; cases hx; exact fnF_of X Gm sc447 c447 rfl (fun _ _ _ _ _ _ us hl => match us, hl with | [_], _ => rfl) a447 l447 b447 k447
    · rename_i e; have e := beq_iff_eq.mp e; subst e; cases hx; exact fnF_of X Gm sc448 c448 rfl (fun _ _ _ _ _ _ us hl => match us, hl with | [_, _], _ => rfl) a448 l448 b448 k448
    · rename_i e; have e := beq_iff_eq.mp e; subst e; cases hx; exact fnF_of X Gm sc449 c449 rfl (fun _ _ _ _ _ _ us hl => match us, hl with | [_, _], _ => rfl) a449 l449 b449 k449
    · rename_i e; have e := beq_iff_eq.mp e; subst e; cases hx; exact fnF_of X Gm sc450 c450 rfl (fun _ _ _ _ _ _ us hl => match us, hl with | [_, _, _, _], _ => rfl) a450 l450 b450 k450
    · rename_i e; have e := beq_iff_eq.mp e; subst e; cases hx; exact fnF_of X Gm sc0 c0 rfl (fun _ _ _ _ _ _ us hl => match us, hl with | [_], _ => rfl) a0 l0 b0 k0
    · rename_i e; have e := beq_iff_eq.mp e; subst e; cases hx; exact fnF_of X Gm sc1 c1 rfl (fun _ _ _ _ _ _ us hl => match us, hl with | [_], _ => rfl) a1 l1 b1 k1
    · rename_i e; have e := beq_iff_eq.mp e; subst e; cases hx; exact fnF_of X Gm sc451 c451 rfl (fun _ _ _ _ _ _ us hl => match us, hl with | [_], _ => rfl) a451 l451 b451 k451
    · rename_i e; have e := beq_iff_eq.mp e; subst e; cases hx; exact fnF_of X Gm sc452 c452 rfl (fun _ _ _ _ _ _ us hl => match us, hl with | [_], _ => rfl) a452 l452 b452 k452
    · rename_i e; have e := beq_iff_eq.mp e; subst e; cases hx; exact fnF_of X Gm sc313 c313 rfl (fun _ _ _ _ _ _ us hl => match us, hl with | [_], _ => rfl) a313 l313 b313 k313
    · rename_i e; have e := beq_iff_eq.mp e; subst e; cases hx; exact fnF_of X Gm sc453 c453 rfl (fun _ _ _ _ _ _ us hl => match us, hl with | [_], _ => rfl) a453 l453 b453 k453
    · rename_i e; have e := beq_iff_eq.mp e; subst e; cases hx; exact fnF_of X Gm sc6 c6 rfl (fun _ _ _ _ _ _ us hl => match us, hl with | [_], _ => rfl) a6 l6 b6 k6
    · rename_i e; have e := beq_iff_eq.mp e; subst e; cases hx; exact fnF_of X Gm sc7 c7 rfl (fun _ _ _ _ _ _ us hl => match us, hl with | [_, _], _ => rfl) a7 l7 b7 k7
    · rename_i e; have e := beq_iff_eq.mp e; subst e; cases hx; exact fnF_of X Gm sc8 c8 rfl (fun _ _ _ _ _ _ us hl => match us, hl with | [_, _], _ => rfl) a8 l8 b8 k8
    · rename_i e; have e := beq_iff_eq.mp e; subst e; cases hx; exact fnF_of X Gm sc57 c57 rfl (fun _ _ _ _ _ _ us hl => match us, hl with | [_, _], _ => rfl) a57 l57 b57 k57
    · rename_i e; have e := beq_iff_eq.mp e; subst e; cases hx; exact fnF_of X Gm sc9 c9 rfl (fun _ _ _ _ _ _ us hl => match us, hl with | [_], _ => rfl) a9 l9 b9 k9
    · rename_i e; have e := beq_iff_eq.mp e; subst e; cases hx; exact fnF_of X Gm sc10 c10 rfl (fun _ _ _ _ _ _ us hl => match us, hl with | [_, _], _ => rfl) a10 l10 b10 k10
    · rename_i e; have e := beq_iff_eq.mp e; subst e; cases hx; exact fnF_of X Gm sc61 c61 rfl (fun _ _ _ _ _ _ us hl => match us, hl with | [_, _], _ => rfl) a61 l61 b61 k61
    · rename_i e; have e := beq_iff_eq.mp e; subst e; cases hx; exact fnF_of X Gm sc60 c60 rfl (fun _ _ _ _ _ _ us hl => match us, hl with | [_, _, _], _ => rfl) a60 l60 b60 k60
    · rename_i e; have e := beq_iff_eq.mp e; subst e; cases hx; exact fnF_of X Gm sc454 c454 rfl (fun _ _ _ _ _ _ us hl => match us, hl with | [_, _, _], _ => rfl) a454 l454 b454 k454
    · rename_i e; have e := beq_iff_eq.mp e; subst e; cases hx; exact fnF_of X Gm sc455 c455 rfl (fun _ _ _ _ _ _ us hl => match us, hl with | [_, _], _ => rfl) a455 l455 b455 k455
    · rename_i e; have e := beq_iff_eq.mp e; subst e; cases hx; exact fnF_of X Gm sc456 c456 rfl (fun _ _ _ _ _ _ us hl => match us, hl with | [_, _, _], _ => rfl) a456 l456 b456 k456
    · rename_i e; have e := beq_iff_eq.mp e; subst e; cases hx; exact fnF_of X Gm sc120 c120 rfl (fun _ _ _ _ _ _ us hl => match us, hl with | [_, _], _ => rfl) a120 l120 b120 k120
    · rename_i e; have e := beq_iff_eq.mp e; subst e; cases hx; exact fnF_of X Gm sc457 c457 rfl (fun _ _ _ _ _ _ us hl => match us, hl with | [_], _ => rfl) a457 l457 b457 k457
    · rename_i e; have e := beq_iff_eq.mp e; subst e; cases hx; exact fnF_of X Gm sc458 c458 rfl (fun _ _ _ _ _ _ us hl => match us, hl with | [_], _ => rfl) a458 l458 b458 k458
    · rename_i e; have e := beq_iff_eq.mp e; subst e; cases hx; exact fnF_of X Gm sc17 c17 rfl (fun _ _ _ _ _ _ us hl => match us, hl with | [_], _ => rfl) a17 l17 b17 k17
    · cases hx
  · intro x f hx
    unfold TB at hx
    simp only [List.lookup] at hx
    repeat' split at hx
    · rename_i e; have e := beq_iff_eq.mp e; subst e; cases hx; exact dict_of X Gm rfl da0 dl0 ds0 dr0
    · rename_i e; have e := beq_iff_eq.mp e; subst e; cases hx; exact dict_of X Gm rfl da23 dl23 ds23 dr23
    · cases hx
  · intro x c hx
    unfold TB at hx
    simp only [List.lookup] at hx
    repeat' split at hx
    · rename_i e; have e := beq_iff_eq.mp e; subst e; cases hx
      refine clsF_of (y := fun d => match d with | 0 => "PactlinkError" | 1 => "BadText" | _ => "") Q0 (fun d hd => ?_) (fun d hd => ?_) (fun d hd => ?_)
      · have hd : d = 0 ∨ d = 1 := by simpa [TB] using hd
        rcases hd with rfl | rfl
        · exact Q0
        · exact Q1
      · have hd : d = 0 ∨ d = 1 := by simpa [TB] using hd
        rcases hd with rfl | rfl
        · exact Q0.self
        · exact y1_0
      · cases hd
    · rename_i e; have e := beq_iff_eq.mp e; subst e; cases hx
      refine clsF_of (y := fun d => match d with | 0 => "PactlinkError" | 1 => "BadText" | _ => "") Q1 (fun d hd => ?_) (fun d hd => ?_) (fun d hd => ?_)
      · have hd : d = 1 := by simpa [TB] using hd
        subst hd; exact Q1
      · have hd : d = 1 := by simpa [TB] using hd
        subst hd; exact Q1.self
      · have hd : d = 0 := by simpa [TB] using hd
        subst hd; exact y0_1
    · cases hx
  · intro x hx
    have hx : x = "len" ∨ x = "abs" ∨ x = "int" ∨ x = "str" ∨ x = "tuple" ∨ x = "list" ∨ x = "all" ∨ x = "divmod" ∨ x = "max" ∨ x = "min" ∨ x = "range" ∨ x = "isinstance" ∨ x = "bool" ∨ x = "set" := by simpa [TB] using hx
    rcases hx with rfl | rfl | rfl | rfl | rfl | rfl | rfl | rfl | rfl | rfl | rfl | rfl | rfl | rfl
    · exact PySem.W.mg_none_of X Gm z0
    · exact PySem.W.mg_none_of X Gm z1
    · exact PySem.W.mg_none_of X Gm z2
    · exact PySem.W.mg_none_of X Gm z3
    · exact PySem.W.mg_none_of X Gm z4
    · exact PySem.W.mg_none_of X Gm z5
    · exact PySem.W.mg_none_of X Gm z6
    · exact PySem.W.mg_none_of X Gm z7
    · exact PySem.W.mg_none_of X Gm z8
    · exact PySem.W.mg_none_of X Gm z9
    · exact PySem.W.mg_none_of X Gm z10
    · exact PySem.W.mg_none_of X Gm z11
    · exact PySem.W.mg_none_of X Gm z12
    · exact PySem.W.mg_none_of X Gm z13
theorem kc_of {K : PySem.W.Frag} {h : Heap} {mg : Str → Option Value} {p : Program} (XP : XL p [("MOST_NUMBER", WData.int 1000000000000), ("BASE", WData.int 10000000000000000000000000000000000000000000000000000000000000000)] mg h) (X : K.In h) (Gm : h.Ns mainGlobals mg) {u2 u4 u5 u6 u7 u8 u9 u10 u11 u12 u13 u14 u15 u16 u17 u18 u19 u20 u21 u22 : _} (h2 : PySem.W.nsIn K mainGlobals "MOST_CODE" = some (some (.int 400 u2))) (h4 : PySem.W.nsIn K mainGlobals "DIGITS" = some (some (.str "0123456789" u4))) (h5 : PySem.W.nsIn K mainGlobals "PUSH" = some (some (.str "push" u5))) (h6 : PySem.W.nsIn K mainGlobals "LOAD" = some (some (.str "load" u6))) (h7 : PySem.W.nsIn K mainGlobals "STORE" = some (some (.str "store" u7))) (h8 : PySem.W.nsIn K mainGlobals "ADD" = some (some (.str "add" u8))) (h9 : PySem.W.nsIn K mainGlobals "SUB" = some (some (.str "sub" u9))) (h10 : PySem.W.nsIn K mainGlobals "SCALE" = some (some (.str "scale" u10))) (h11 : PySem.W.nsIn K mainGlobals "DIV" = some (some (.str "div" u11))) (h12 : PySem.W.nsIn K mainGlobals "MOD" = some (some (.str "mod" u12))) (h13 : PySem.W.nsIn K mainGlobals "READ" = some (some (.str "read" u13))) (h14 : PySem.W.nsIn K mainGlobals "WRITE" = some (some (.str "write" u14))) (h15 : PySem.W.nsIn K mainGlobals "LENGTH" = some (some (.str "length" u15))) (h16 : PySem.W.nsIn K mainGlobals "NEW" = some (some (.str "new" u16))) (h17 : PySem.W.nsIn K mainGlobals "JUMP" = some (some (.str "jump" u17))) (h18 : PySem.W.nsIn K mainGlobals "LESS" = some (some (.str "less" u18))) (h19 : PySem.W.nsIn K mainGlobals "SAME" = some (some (.str "same" u19))) (h20 : PySem.W.nsIn K mainGlobals "CALL" = some (some (.str "call" u20))) (h21 : PySem.W.nsIn K mainGlobals "LOOP" = some (some (.str "loop" u21))) (h22 : PySem.W.nsIn K mainGlobals "TELL" = some (some (.str "tell" u22))) :
    ∀ x g, TB.consts.lookup x = some g → ∃ v u pv, G g = some pv ∧ mg x = some u ∧ RelV v u ∧ ∀ xa H μ, Rel K xa H μ pv v := by
  intro x g hx
  unfold TB at hx
  simp only [List.lookup] at hx
  repeat' split at hx
  · rename_i e; have e := beq_iff_eq.mp e; subst e; cases hx
    obtain ⟨v, e1, e2⟩ := XP.2.val ("MOST_NUMBER", WData.int 1000000000000) (by simp)
    cases e2
    exact ⟨.int _, _, _, rfl, e1, ⟨_, rfl⟩, fun _ _ _ => rfl⟩
  · rename_i e; have e := beq_iff_eq.mp e; subst e; cases hx
    exact ⟨.int 400, _, _, rfl, PySem.W.mg_of X Gm h2, ⟨_, rfl⟩, fun _ _ _ => rfl⟩
  · rename_i e; have e := beq_iff_eq.mp e; subst e; cases hx
    obtain ⟨v, e1, e2⟩ := XP.2.val ("BASE", WData.int 10000000000000000000000000000000000000000000000000000000000000000) (by simp)
    cases e2
    exact ⟨.int _, _, _, rfl, e1, ⟨_, rfl⟩, fun _ _ _ => rfl⟩
  · rename_i e; have e := beq_iff_eq.mp e; subst e; cases hx
    exact ⟨.str "0123456789", _, _, rfl, PySem.W.mg_of X Gm h4, ⟨_, rfl⟩, fun _ _ _ => rfl⟩
  · rename_i e; have e := beq_iff_eq.mp e; subst e; cases hx
    exact ⟨.str "push", _, _, rfl, PySem.W.mg_of X Gm h5, ⟨_, rfl⟩, fun _ _ _ => rfl⟩
  · rename_i e; have e := beq_iff_eq.mp e; subst e; cases hx
    exact ⟨.str "load", _, _, rfl, PySem.W.mg_of X Gm h6, ⟨_, rfl⟩, fun _ _ _ => rfl⟩
  · rename_i e; have e := beq_iff_eq.mp e; subst e; cases hx
    exact ⟨.str "store", _, _, rfl, PySem.W.mg_of X Gm h7, ⟨_, rfl⟩, fun _ _ _ => rfl⟩
  · rename_i e; have e := beq_iff_eq.mp e; subst e; cases hx
    exact ⟨.str "add", _, _, rfl, PySem.W.mg_of X Gm h8, ⟨_, rfl⟩, fun _ _ _ => rfl⟩
  · rename_i e; have e := beq_iff_eq.mp e; subst e; cases hx
    exact ⟨.str "sub", _, _, rfl, PySem.W.mg_of X Gm h9, ⟨_, rfl⟩, fun _ _ _ => rfl⟩
  · rename_i e; have e := beq_iff_eq.mp e; subst e; cases hx
    exact ⟨.str "scale", _, _, rfl, PySem.W.mg_of X Gm h10, ⟨_, rfl⟩, fun _ _ _ => rfl⟩
  · rename_i e; have e := beq_iff_eq.mp e; subst e; cases hx
    exact ⟨.str "div", _, _, rfl, PySem.W.mg_of X Gm h11, ⟨_, rfl⟩, fun _ _ _ => rfl⟩
  · rename_i e; have e := beq_iff_eq.mp e; subst e; cases hx
    exact ⟨.str "mod", _, _, rfl, PySem.W.mg_of X Gm h12, ⟨_, rfl⟩, fun _ _ _ => rfl⟩
  · rename_i e; have e := beq_iff_eq.mp e; subst e; cases hx
    exact ⟨.str "read", _, _, rfl, PySem.W.mg_of X Gm h13, ⟨_, rfl⟩, fun _ _ _ => rfl⟩
  · rename_i e; have e := beq_iff_eq.mp e; subst e; cases hx
    exact ⟨.str "write", _, _, rfl, PySem.W.mg_of X Gm h14, ⟨_, rfl⟩, fun _ _ _ => rfl⟩
  · rename_i e; have e := beq_iff_eq.mp e; subst e; cases hx
    exact ⟨.str "length", _, _, rfl, PySem.W.mg_of X Gm h15, ⟨_, rfl⟩, fun _ _ _ => rfl⟩
  · rename_i e; have e := beq_iff_eq.mp e; subst e; cases hx
    exact ⟨.str "new", _, _, rfl, PySem.W.mg_of X Gm h16, ⟨_, rfl⟩, fun _ _ _ => rfl⟩
  · rename_i e; have e := beq_iff_eq.mp e; subst e; cases hx
    exact ⟨.str "jump", _, _, rfl, PySem.W.mg_of X Gm h17, ⟨_, rfl⟩, fun _ _ _ => rfl⟩
  · rename_i e; have e := beq_iff_eq.mp e; subst e; cases hx
    exact ⟨.str "less", _, _, rfl, PySem.W.mg_of X Gm h18, ⟨_, rfl⟩, fun _ _ _ => rfl⟩
  · rename_i e; have e := beq_iff_eq.mp e; subst e; cases hx
    exact ⟨.str "same", _, _, rfl, PySem.W.mg_of X Gm h19, ⟨_, rfl⟩, fun _ _ _ => rfl⟩
  · rename_i e; have e := beq_iff_eq.mp e; subst e; cases hx
    exact ⟨.str "call", _, _, rfl, PySem.W.mg_of X Gm h20, ⟨_, rfl⟩, fun _ _ _ => rfl⟩
  · rename_i e; have e := beq_iff_eq.mp e; subst e; cases hx
    exact ⟨.str "loop", _, _, rfl, PySem.W.mg_of X Gm h21, ⟨_, rfl⟩, fun _ _ _ => rfl⟩
  · rename_i e; have e := beq_iff_eq.mp e; subst e; cases hx
    exact ⟨.str "tell", _, _, rfl, PySem.W.mg_of X Gm h22, ⟨_, rfl⟩, fun _ _ _ => rfl⟩
  · cases hx
end MP.K10

set_option Elab.async false
open PySem PySem.W PyProof.Rows
theorem MP.K10.law_true : MP.LawTrue MP.K10.D MP.K10.G 201 17 63 := fun ns _ _ => MP.K10.law17 (k := 194) ns
set_option maxRecDepth 100000 in
set_option maxHeartbeats 0 in
theorem PySem.Challenge.cw_pactlink_k10_code_holds : PySem.Challenge.rw_pactlink_k10_code.Holds := by
  w_on; o_law; k_head; (case hw => w_witness2)
  k_fill
  refine MP.walk_mp (l := PySem.Challenge.rw_pactlink_k10_code) (n := 63) (k := 200) (i := 17) (x := "script") (st := MP.K10.s17) (N := MP.K10.N17) (cn := 60) (m := MP.K10.t17) (T := MP.K10.TB) (D := MP.K10.D) (G := MP.K10.G) rfl (by decide) rfl ⟨rfl, by decide, by decide⟩ (fun w h Y => PySem.W.kIn_of Y) MP.K10.sc17 rfl MP.K10.c17 rfl ?F MP.K10.law_true
  case F =>
    intro w mg fa h XP KX G hmg
    refine' MP.K10.w_mk KX G hmg ?kc ?a22 ?l22 ?b22 ?k22 ?a23 ?l23 ?b23 ?k23 ?a447 ?l447 ?b447 ?k447 ?a448 ?l448 ?b448 ?k448 ?a449 ?l449 ?b449 ?k449 ?a450 ?l450 ?b450 ?k450 ?a0 ?l0 ?b0 ?k0 ?a1 ?l1 ?b1 ?k1 ?a451 ?l451 ?b451 ?k451 ?a452 ?l452 ?b452 ?k452 ?a313 ?l313 ?b313 ?k313 ?a453 ?l453 ?b453 ?k453 ?a6 ?l6 ?b6 ?k6 ?a7 ?l7 ?b7 ?k7 ?a8 ?l8 ?b8 ?k8 ?a57 ?l57 ?b57 ?k57 ?a9 ?l9 ?b9 ?k9 ?a10 ?l10 ?b10 ?k10 ?a61 ?l61 ?b61 ?k61 ?a60 ?l60 ?b60 ?k60 ?a454 ?l454 ?b454 ?k454 ?a455 ?l455 ?b455 ?k455 ?a456 ?l456 ?b456 ?k456 ?a120 ?l120 ?b120 ?k120 ?a457 ?l457 ?b457 ?k457 ?a458 ?l458 ?b458 ?k458 ?a17 ?l17 ?b17 ?k17 ?x0_0 ?x0_1 ?x0_2 ?x0_3 ?x0_4 ?x0_5 ?x0_6 ?x0_7 ?x0_8 ?x0_9 ?x0_10 ?x0_11 ?x0_12 ?x0_13 ?x1_0 ?x1_1 ?x1_2 ?x1_3 ?x1_4 ?x1_5 ?x1_6 ?x1_7 ?x1_8 ?x1_9 ?x1_10 ?x1_11 ?x1_12 ?x1_13 ?y1_0 ?y0_1 ?z0 ?z1 ?z2 ?z3 ?z4 ?z5 ?z6 ?z7 ?z8 ?z9 ?z10 ?z11 ?z12 ?z13 ?da0 ?dl0 ?ds0 ?dr0 ?da23 ?dl23 ?ds23 ?dr23
    case a22 => k_is
    case l22 => k_is
    case b22 => k_is
    case k22 => k_is
    case a23 => k_is
    case l23 => k_is
    case b23 => k_is
    case k23 => k_is
    case a447 => k_is
    case l447 => k_is
    case b447 => k_is
    case k447 => k_is
    case a448 => k_is
    case l448 => k_is
    case b448 => k_is
    case k448 => k_is
    case a449 => k_is
    case l449 => k_is
    case b449 => k_is
    case k449 => k_is
    case a450 => k_is
    case l450 => k_is
    case b450 => k_is
    case k450 => k_is
    case a0 => k_is
    case l0 => k_is
    case b0 => k_is
    case k0 => k_is
    case a1 => k_is
    case l1 => k_is
    case b1 => k_is
    case k1 => k_is
    case a451 => k_is
    case l451 => k_is
    case b451 => k_is
    case k451 => k_is
    case a452 => k_is
    case l452 => k_is
    case b452 => k_is
    case k452 => k_is
    case a313 => k_is
    case l313 => k_is
    case b313 => k_is
    case k313 => k_is
    case a453 => k_is
    case l453 => k_is
    case b453 => k_is
    case k453 => k_is
    case a6 => k_is
    case l6 => k_is
    case b6 => k_is
    case k6 => k_is
    case a7 => k_is
    case l7 => k_is
    case b7 => k_is
    case k7 => k_is
    case a8 => k_is
    case l8 => k_is
    case b8 => k_is
    case k8 => k_is
    case a57 => k_is
    case l57 => k_is
    case b57 => k_is
    case k57 => k_is
    case a9 => k_is
    case l9 => k_is
    case b9 => k_is
    case k9 => k_is
    case a10 => k_is
    case l10 => k_is
    case b10 => k_is
    case k10 => k_is
    case a61 => k_is
    case l61 => k_is
    case b61 => k_is
    case k61 => k_is
    case a60 => k_is
    case l60 => k_is
    case b60 => k_is
    case k60 => k_is
    case a454 => k_is
    case l454 => k_is
    case b454 => k_is
    case k454 => k_is
    case a455 => k_is
    case l455 => k_is
    case b455 => k_is
    case k455 => k_is
    case a456 => k_is
    case l456 => k_is
    case b456 => k_is
    case k456 => k_is
    case a120 => k_is
    case l120 => k_is
    case b120 => k_is
    case k120 => k_is
    case a457 => k_is
    case l457 => k_is
    case b457 => k_is
    case k457 => k_is
    case a458 => k_is
    case l458 => k_is
    case b458 => k_is
    case k458 => k_is
    case a17 => k_is
    case l17 => k_is
    case b17 => k_is
    case k17 => k_is
    case x0_0 => k_is
    case x0_1 => k_exc
    case x0_2 => k_is
    case x0_3 => k_is
    case x0_4 => k_is
    case x0_5 => k_is
    case x0_6 => first | rfl | k_is
    case x0_7 => k_is
    case x0_8 => k_is
    case x0_9 => k_is
    case x0_10 => k_is
    case x0_11 => k_is
    case x0_12 => k_is
    case x0_13 => k_is
    case x1_0 => k_is
    case x1_1 => k_exc
    case x1_2 => k_is
    case x1_3 => k_is
    case x1_4 => k_is
    case x1_5 => k_is
    case x1_6 => first | rfl | k_is
    case x1_7 => k_is
    case x1_8 => k_is
    case x1_9 => k_is
    case x1_10 => k_is
    case x1_11 => k_is
    case x1_12 => k_is
    case x1_13 => k_is
    case y1_0 => k_is
    case y0_1 => k_is
    case z0 => k_is
    case z1 => k_is
    case z2 => k_is
    case z3 => k_is
    case z4 => k_is
    case z5 => k_is
    case z6 => k_is
    case z7 => k_is
    case z8 => k_is
    case z9 => k_is
    case z10 => k_is
    case z11 => k_is
    case z12 => k_is
    case z13 => k_is
    case da0 => k_is
    case dl0 => k_is
    case ds0 => rfl
    case dr0 => (repeat' (first | exact trivial | refine ⟨⟨_, rfl, rfl⟩, ⟨.int _, ⟨_, rfl⟩, fun _ _ _ => rfl⟩, ?_⟩ | refine ⟨⟨_, rfl, rfl⟩, ⟨.str _, ⟨_, rfl⟩, fun _ _ _ => rfl⟩, ?_⟩))
    case da23 => k_is
    case dl23 => k_is
    case ds23 => rfl
    case dr23 => (repeat' (first | exact trivial | refine ⟨⟨_, rfl, rfl⟩, ⟨.int _, ⟨_, rfl⟩, fun _ _ _ => rfl⟩, ?_⟩ | refine ⟨⟨_, rfl, rfl⟩, ⟨.str _, ⟨_, rfl⟩, fun _ _ _ => rfl⟩, ?_⟩))
    case kc => exact MP.K10.kc_of XP KX G (by k_is) (by k_is) (by k_is) (by k_is) (by k_is) (by k_is) (by k_is) (by k_is) (by k_is) (by k_is) (by k_is) (by k_is) (by k_is) (by k_is) (by k_is) (by k_is) (by k_is) (by k_is) (by k_is) (by k_is)

