import PyProof.Rows.All
import Wide.All
import OpenK.AllK
import Wide.FinOn
import HandS.ForMost
import HandS.Exc
import KE.KDictKeyed
import HandS.Lambda
import PySem.Str
import PySem.Syntax
import PySem.PyData
import PyProof.ReprReads
import HandS.Star
import HandS.TupAny
import HandS.Deep
import KE.KDictLaws
import HandS.Dict
import HandS.Steps
import KE.KDictWalk
import HandS.CallLocal
import HandS.Style
import HandS.Conv
import HandS.IsInst
import HandS.TupLen
import HandS.ExcIs
import PyProof.ReprRoads
import HandS.Comp
import HandS.Ends
import HandS.HeadEnd
import HandS.Defaults
import HandS.Words
import HandS.RaiseMore
import HandS.HeadHook1
import HandS.WordsList
import HandS.DictComp
import HandS.ExcValue
import HandS.ExcInit
import HandS.ExcField
import KE.SortData
import HandS.TupSets
import KE.SortKeyHeap
import HandS.Head0
import HandS.Head1
import HandS.Head2
import HandS.HeadHook2
import HandS.FStr
import KE.RegKSuper
import KE.KExcSuper
import PyProof.ReprBulk
import PySem.Challenge.RW_rootpaths_k01_names_and_paths
/-! text AmA -/
set_option linter.all false
/-! AmA: the abstract machine. Values W (structural, never changing), slots' contents R, boxes (what may change); meanings of expressions and statements. -/
namespace AM
open PySem

inductive W where
  | non
  | bl (b : Bool)
  | int (i : Int)
  | str (s : Str)
  | tup (xs : List W)
  | lst (xs : List W)
  | dct (ks vs : List W)
  | ins (c : Nat) (fs : List Str) (vs : List W)
  | exn (c : Nat) (ln : List W)
  | scr (xs : List W)

mutual
def W.eqb : W → W → Bool
  | .non, .non => true
  | .bl a, .bl b => decide (a = b)
  | .int a, .int b => decide (a = b)
  | .str a, .str b => decide (a = b)
  | .tup a, .tup b => W.eqbs a b
  | .lst a, .lst b => W.eqbs a b
  | .dct a c, .dct b d => W.eqbs a b && W.eqbs c d
  | .ins a f x, .ins b g y => decide (a = b) && decide (f = g) && W.eqbs x y
  | .exn a x, .exn b y => decide (a = b) && W.eqbs x y
  | .scr a, .scr b => W.eqbs a b
  | _, _ => false
def W.eqbs : List W → List W → Bool
  | [], [] => true
  | a :: r, b :: t => W.eqb a b && W.eqbs r t
  | _, _ => false
end

mutual
theorem W.eqb_ok : ∀ (a b : W), W.eqb a b = true ↔ a = b
  | .non, b => by cases b <;> simp [W.eqb]
  | .bl _, b => by cases b <;> simp [W.eqb]
  | .int _, b => by cases b <;> simp [W.eqb]
  | .str _, b => by cases b <;> simp [W.eqb]
  | .tup x, b => by cases b <;> simp [W.eqb, W.eqbs_ok x]
  | .lst x, b => by cases b <;> simp [W.eqb, W.eqbs_ok x]
  | .dct x y, b => by cases b <;> simp [W.eqb, W.eqbs_ok x, W.eqbs_ok y]
  | .ins c f x, b => by cases b <;> simp [W.eqb, W.eqbs_ok x, and_assoc]
  | .exn c x, b => by cases b <;> simp [W.eqb, W.eqbs_ok x]
  | .scr x, b => by cases b <;> simp [W.eqb, W.eqbs_ok x]
theorem W.eqbs_ok : ∀ (a b : List W), W.eqbs a b = true ↔ a = b
  | [], b => by cases b <;> simp [W.eqbs]
  | a :: r, b => by cases b with
    | nil => simp [W.eqbs]
    | cons c t => simp [W.eqbs, W.eqb_ok a, W.eqbs_ok r]
end
instance : DecidableEq W := fun a b => decidable_of_iff _ (W.eqb_ok a b)

/-- what a slot holds: a value, a box, a lambda with what it has captured -/
inductive R where
  | v (w : W)
  | r (n : Nat)
  | clo (k : Nat) (caps : List R)
mutual
def R.eqb : R → R → Bool
  | .v a, .v b => W.eqb a b
  | .r a, .r b => decide (a = b)
  | .clo a x, .clo b y => decide (a = b) && R.eqbs x y
  | _, _ => false
def R.eqbs : List R → List R → Bool
  | [], [] => true
  | a :: x, b :: t => R.eqb a b && R.eqbs x t
  | _, _ => false
end
mutual
theorem R.eqb_ok : ∀ (a b : R), R.eqb a b = true ↔ a = b
  | .v _, b => by cases b <;> simp [R.eqb, W.eqb_ok]
  | .r _, b => by cases b <;> simp [R.eqb]
  | .clo c x, b => by cases b <;> simp [R.eqb, R.eqbs_ok x]
theorem R.eqbs_ok : ∀ (a b : List R), R.eqbs a b = true ↔ a = b
  | [], b => by cases b <;> simp [R.eqbs]
  | a :: x, b => by cases b with
    | nil => simp [R.eqbs]
    | cons c t => simp [R.eqbs, R.eqb_ok a, R.eqbs_ok x]
end
instance : DecidableEq R := fun a b => decidable_of_iff _ (R.eqb_ok a b)

inductive Box where
  | lst (xs : List R)
  | dct (ks : List W) (vs : List R)
  | ins (c : Nat) (fs : List (Str × R))
  deriving DecidableEq

abbrev Bx := List Box
abbrev En := List (Option R)

inductive Res where
  | ok (r : R) (bx : Bx)
  | exc (w : W) (bx : Bx)
  | stuck
  deriving DecidableEq

/-- an expression's meaning -/
abbrev E := En → Bx → Res

inductive Ct where
  | nx (e : En) (bx : Bx)
  | rt (r : R) (bx : Bx)
  | ct (e : En) (bx : Bx)
  | exc (w : W) (e : En) (bx : Bx)
  | stuck
  deriving DecidableEq
/-- a statement's meaning -/
abbrev C := En → Bx → Ct

/-- the greatest length -/
def SL : Nat := 16777216

/-! ### reading -/
def mapO {α β : Type} (f : α → Option β) : List α → Option (List β)
  | [] => some []
  | x :: r => match f x with
    | some y => (mapO f r).map (y :: ·)
    | none => none
def valO : R → Option W
  | .v w => some w
  | _ => none
def vals (rs : List R) : Option (List W) := mapO valO rs
/-- a value seen as a whole, boxes read through (k: how deep) -/
def view (bx : Bx) : Nat → R → Option W
  | _, .v w => some w
  | 0, _ => none
  | k + 1, .r n => match bx[n]? with
    | some (.lst xs) => (mapO (view bx k) xs).map .lst
    | some (.dct ks vs) => (mapO (view bx k) vs).map (.dct ks)
    | some (.ins c fs) => (mapO (view bx k) (fs.map (·.2))).map (.ins c (fs.map (·.1)))
    | none => none
  | _ + 1, .clo _ _ => none
/-- a list's items -/
def itL (bx : Bx) : R → Option (List R)
  | .v (.lst ws) => some (ws.map .v)
  | .r n => match bx[n]? with
    | some (.lst xs) => some xs
    | _ => none
  | _ => none
/-- a list's or a tuple's items -/
def itS (bx : Bx) : R → Option (List R)
  | .v (.tup ws) => some (ws.map .v)
  | x => itL bx x
def dcO (bx : Bx) : R → Option (List W × List R)
  | .v (.dct ks vs) => some (ks, vs.map .v)
  | .r n => match bx[n]? with
    | some (.dct ks vs) => some (ks, vs)
    | _ => none
  | _ => none

/-! ### equality -/
mutual
/-- data as == compares it: None, bools, ints, texts, tuples, lists -/
def W.lay : W → Bool
  | .non | .bl _ | .int _ => true
  | .str s => s.cps.all (· < 0x110000)
  | .tup xs => W.lays xs
  | .lst xs => W.lays xs
  | _ => false
def W.lays : List W → Bool
  | [] => true
  | x :: r => W.lay x && W.lays r
end
mutual
/-- how deep -/
def W.dp : W → Nat
  | .tup xs => W.dps xs + 1
  | .lst xs => W.dps xs + 1
  | _ => 0
def W.dps : List W → Nat
  | [] => 0
  | x :: r => max (W.dp x) (W.dps r)
end
mutual
def W.pyeq : W → W → Bool
  | .non, .non => true
  | .bl a, .bl b => a == b
  | .bl a, .int j => (if a then 1 else 0) == j
  | .int i, .bl b => i == (if b then 1 else 0)
  | .int i, .int j => i == j
  | .str x, .str y => x == y
  | .tup xs, .tup ys => W.pyeqs xs ys
  | .lst xs, .lst ys => W.pyeqs xs ys
  | _, _ => false
def W.pyeqs : List W → List W → Bool
  | [], [] => true
  | x :: xs, y :: ys => W.pyeq x y && W.pyeqs xs ys
  | _, _ => false
end
def W.isDat (w : W) : Bool := w.lay && decide (w.dp ≤ 64)
def eqW (a b : W) : Option Bool := if a.isDat && b.isDat then some (W.pyeq a b) else none
def eqR (bx : Bx) (x y : R) : Option Bool := match view bx 9 x, view bx 9 y with
  | some a, some b => eqW a b
  | _, _ => none

/-! ### the frame of expressions -/
def ePure (r : R) : E := fun _ bx => .ok r bx
def eBind (m : E) (k : R → E) : E := fun en bx => match m en bx with
  | .ok r bx' => k r en bx'
  | .exc w bx' => .exc w bx'
  | .stuck => .stuck
/-- from the left; a star's items are put in -/
def eArgs : List (Bool × E) → (List R → E) → E
  | [], k => k []
  | (false, m) :: r, k => eBind m fun x => eArgs r fun xs => k (x :: xs)
  | (true, m) :: r, k => eBind m fun x => fun en bx => match itS bx x with
    | some ys => eArgs r (fun xs => k (ys ++ xs)) en bx
    | none => .stuck
/-- plain arguments -/
def eAll : List E → (List R → E) → E
  | [], k => k []
  | m :: r, k => eBind m fun x => eAll r fun xs => k (x :: xs)
/-- an operation on values and boxes -/
abbrev Op := List R → Bx → Res
def eOp (as : List E) (f : Op) : E := eAll as fun xs _ bx => f xs bx
/-- .. with stars -/
abbrev eFn (as : List (Bool × E)) (f : Op) : E := eArgs as fun xs _ bx => f xs bx

def eVar (i : Nat) : E := fun en bx => match en[i]? with
  | some (some r) => .ok r bx
  | _ => .stuck
def eC (w : W) : E := ePure (.v w)

/-! ### new lists, tuples, dicts: m says whether it is to be a box -/
def mkL (m : Bool) (rs : List R) (bx : Bx) : Res :=
  if rs.length ≤ SL then
    (if m then .ok (.r bx.length) (bx ++ [.lst rs]) else match vals rs with
      | some ws => .ok (.v (.lst ws)) bx
      | none => .stuck)
  else .stuck
def mkT (rs : List R) (bx : Bx) : Res :=
  if rs.length ≤ SL then (match vals rs with
    | some ws => .ok (.v (.tup ws)) bx
    | none => .stuck)
  else .stuck
def mkD (m : Bool) (ks : List W) (rs : List R) (bx : Bx) : Res :=
  if ks.length ≤ SL then
    (if m then .ok (.r bx.length) (bx ++ [.dct ks rs]) else match vals rs with
      | some ws => .ok (.v (.dct ks ws)) bx
      | none => .stuck)
  else .stuck
def eTup (as : List (Bool × E)) : E := eArgs as fun xs _ bx => mkT xs bx
def eLst (m : Bool) (as : List (Bool × E)) : E := eArgs as fun xs _ bx => mkL m xs bx

/-! ### keys of dicts -/
mutual
/-- ints, texts, tuples of these (nested); how deep -/
def W.key : W → Option Nat
  | .int _ | .str _ => some 0
  | .tup xs => (W.keys xs).map (· + 1)
  | _ => none
def W.keys : List W → Option Nat
  | [] => some 0
  | x :: r => match W.key x, W.keys r with
    | some a, some b => some (max a b)
    | _, _ => none
end
def W.isT : W → Bool
  | .tup _ => true
  | _ => false
/-- a key, not too deep -/
def keyB (k : W) : Bool := match k.key with
    | some n => decide (n ≤ 8)
    | none => false
/-- k may be asked of a dict with these keys: one kind (tuples, or ints and texts), not too deep -/
def keyFor (ks : List W) (k : W) : Bool := keyB k && (match ks with
    | [] => true
    | k0 :: _ => k0.isT == k.isT)
section
variable {α : Type}
def dGet : List W → List α → W → Option α
  | k0 :: ks, r :: rs, k => if k0 = k then some r else dGet ks rs k
  | _, _, _ => none
def dSetV : List W → List α → W → α → List α
  | k0 :: ks, r0 :: rs, k, r => if k0 = k then r :: rs else r0 :: dSetV ks rs k r
  | _, _, _, r => [r]
def dDelV : List W → List α → W → List α
  | k0 :: ks, r0 :: rs, k => if k0 = k then rs else r0 :: dDelV ks rs k
  | _, _, _ => []
end
def dSetK : List W → W → List W
  | k0 :: ks, k => if k0 = k then k0 :: ks else k0 :: dSetK ks k
  | [], k => [k]
def dDelK : List W → W → List W
  | k0 :: ks, k => if k0 = k then ks else k0 :: dDelK ks k
  | [], _ => []

/-! ### operators -/
inductive Bop where
  | add | sub | mul | fdiv | mod | pow
  deriving DecidableEq
def i64 (i : Int) : Bool := decide (-(2 ^ 64) < i) && decide (i < 2 ^ 64)
def addR (m : Bool) (x y : R) (bx : Bx) : Res := match x, y with
  | .v (.int i), .v (.int j) => .ok (.v (.int (i + j))) bx
  | .v (.str a), .v (.str b) => if a.length + b.length ≤ SL then .ok (.v (.str (a ++ b))) bx else .stuck
  | .v (.tup a), .v (.tup b) => if a.length + b.length ≤ SL then .ok (.v (.tup (a ++ b))) bx else .stuck
  | x, y => match itL bx x with
    | some a => match itL bx y with
      | some b => mkL m (a ++ b) bx
      | none => .stuck
    | none => .stuck
def mulR (m : Bool) (x y : R) (bx : Bx) : Res := match y with
  | .v (.int k) => match x with
    | .v (.int i) => if i64 i || i64 k then .ok (.v (.int (i * k))) bx else .stuck
    | x => match itL bx x with
      | some a => if 0 ≤ k ∧ k < 1000000 then mkL m (List.replicate k.toNat a).flatten bx else .stuck
      | none => .stuck
  | _ => .stuck
def arI (o : Bop) (i j : Int) : Option Int := match o with
  | .sub => some (i - j)
  | .fdiv => if 0 < j ∧ j < 1073741824 then some (i / j) else none
  | .mod => if 0 < j then some (i % j) else none
  | .pow => if 0 ≤ j ∧ j ≤ 1000000 ∧ i64 i = true then some (i ^ j.toNat) else none
  | _ => none
def arR (o : Bop) (x y : R) (bx : Bx) : Res := match x, y with
  | .v (.int i), .v (.int j) => match arI o i j with
    | some k => .ok (.v (.int k)) bx
    | none => .stuck
  | _, _ => .stuck
def binR (o : Bop) (m : Bool) (x y : R) (bx : Bx) : Res := match o with
  | .add => addR m x y bx
  | .mul => mulR m x y bx
  | o => arR o x y bx
def opBin (o : Bop) (m : Bool) : Op
  | [x, y], bx => binR o m x y bx
  | _, _ => .stuck
def opNeg : Op
  | [.v (.int i)], bx => .ok (.v (.int (-i))) bx
  | _, _ => .stuck

inductive Cop where
  | eq | ne | lt | le | gt | ge | isN | notN | isin | notin
  deriving DecidableEq
def okB (b : Bool) (bx : Bx) : Res := .ok (.v (.bl b)) bx
def okO (b : Option Bool) (bx : Bx) : Res := match b with
  | some c => okB c bx
  | none => .stuck
def isNon : R → Bool
  | .v .non => true
  | _ => false
def inR (bx : Bx) (x y : R) : Option Bool := match y with
  | .v (.str b) => match x with
    | .v (.str a) => match a.cps.toList with
      | [c] => some (decide (c ∈ b.cps.toList))
      | _ => none
    | _ => none
  | y => match dcO bx y with
    | some (ks, rs) => match x with
      | .v k => if keyFor ks k then some (dGet ks rs k).isSome else none
      | _ => none
    | none => match itS bx y, view bx 9 x with
      | some ys, some a => (mapO (view bx 9) ys).bind fun ws => if a.isDat && W.lays ws then some (ws.any fun y => W.pyeq y a) else none
      | _, _ => none
def cmpI (o : Cop) (i j : Int) : Bool := match o with
  | .lt => decide (i < j)
  | .le => decide (i ≤ j)
  | .gt => decide (j < i)
  | _ => decide (j ≤ i)
def ordR (o : Cop) (x y : R) : Option Bool := match x, y with
  | .v (.int i), .v (.int j) => some (cmpI o i j)
  | _, _ => none
def cmpB (o : Cop) (bx : Bx) (x y : R) : Option Bool := match o with
  | .eq => eqR bx x y
  | .ne => (eqR bx x y).map (!·)
  | .isN => if isNon y then some (isNon x) else none
  | .notN => if isNon y then some (!isNon x) else none
  | .isin => inR bx x y
  | .notin => (inR bx x y).map (!·)
  | .lt => ordR .lt x y
  | .le => ordR .le x y
  | .gt => ordR .gt x y
  | .ge => ordR .ge x y
def opCmp (o : Cop) : Op
  | [x, y], bx => okO (cmpB o bx x y) bx
  | _, _ => .stuck

/-! ### bools -/
def eBool (m : E) (k : Bool → E) : E := eBind m fun r => match r with
  | .v (.bl b) => k b
  | _ => fun _ _ => .stuck
def eAnd : List E → E
  | [] => fun _ _ => .stuck
  | [m] => m
  | m :: n :: r => eBool m fun b => if b then eAnd (n :: r) else eC (.bl false)
def eOr : List E → E
  | [] => fun _ _ => .stuck
  | [m] => m
  | m :: n :: r => eBool m fun b => if b then eC (.bl true) else eOr (n :: r)
def eNot (m : E) : E := eBool m fun b => eC (.bl (!b))
def eIf (t a b : E) : E := eBool t fun c => if c then a else b
/-- a o1 b o2 c -/
def eChain (o1 o2 : Cop) (a b c : E) : E := eBind a fun x => eBind b fun y => eBool (fun _ bx => opCmp o1 [x, y] bx) fun t =>
  if t then eBind c fun z => fun _ bx => opCmp o2 [y, z] bx else eC (.bl false)

/-! ### places and cuts -/
def atW (i : Int) (n : Nat) : Option Nat := if 0 ≤ i then (if i < n then some i.toNat else none) else (if 0 ≤ i + n then some (i + n).toNat else none)
def opIdx : Op
  | [x, .v k], bx => match dcO bx x with
    | some (ks, rs) => if keyFor ks k then (match dGet ks rs k with
      | some r => .ok r bx
      | none => .stuck) else .stuck
    | none => match k with
      | .int i => match x with
        | .v (.str s) => if s.length ≤ SL then (match (atW i s.cps.toList.length).bind fun j => s.cps.toList[j]? with
          | some c => .ok (.v (.str ⟨#[c]⟩)) bx
          | none => .stuck) else .stuck
        | x => match itS bx x with
          | some xs => match (atW i xs.length).bind fun j => xs[j]? with
            | some r => .ok r bx
            | none => .stuck
          | none => .stuck
      | _ => .stuck
  | _, _ => .stuck
/-- a slice's end in a row of n -/
def cutAt (i : Int) (n : Nat) : Nat := if 0 ≤ i then min i.toNat n else (i + n).toNat
def cutL {α : Type} (lo hi : Option Int) (xs : List α) : List α :=
  (xs.take (match hi with
    | some j => cutAt j xs.length
    | none => xs.length)).drop (match lo with
    | some i => cutAt i xs.length
    | none => 0)
/-- x[lo:hi] -/
def cutR (m : Bool) (x : R) (a b : Option Int) (bx : Bx) : Res := match x with
  | .v (.str s) => if s.length ≤ SL then .ok (.v (.str ⟨(cutL a b s.cps.toList).toArray⟩)) bx else .stuck
  | .v (.tup ws) => .ok (.v (.tup (cutL a b ws))) bx
  | .v (.scr ws) => mkL m (cutL a b (ws.map .v)) bx
  | x => match itL bx x with
    | some xs => mkL m (cutL a b xs) bx
    | none => .stuck
/-- an end of a slice, left out or an int -/
def ePart : Option E → (Option Int → E) → E
  | none, k => k none
  | some m, k => eBind m fun r => match r with
    | .v (.int i) => k (some i)
    | _ => fun _ _ => .stuck
def eCut (m : Bool) (x : E) (lo hi : Option E) : E := eBind x fun v => ePart lo fun a => ePart hi fun b => fun _ bx => cutR m v a b bx
/-- xs[::-1] -/
def opRev (m : Bool) : Op
  | [x], bx => match itL bx x with
    | some xs => mkL m xs.reverse bx
    | none => .stuck
  | _, _ => .stuck

/-! ### built-in functions -/
def lenO (bx : Bx) (x : R) : Option Nat := match x with
  | .v (.str s) => if s.length ≤ SL then some s.length else none
  | x => match itS bx x with
    | some xs => some xs.length
    | none => (dcO bx x).map fun p => p.1.length
def opLen : Op
  | [x], bx => match lenO bx x with
    | some n => .ok (.v (.int n)) bx
    | none => .stuck
  | _, _ => .stuck
def boolsO : List R → Option (List Bool)
  | [] => some []
  | .v (.bl b) :: r => (boolsO r).map (b :: ·)
  | _ => none
def opAll : Op
  | [x], bx => match (itL bx x).bind boolsO with
    | some bs => okB (bs.all id) bx
    | none => .stuck
  | _, _ => .stuck
def opAny : Op
  | [x], bx => match (itL bx x).bind boolsO with
    | some bs => okB (bs.any id) bx
    | none => .stuck
  | _, _ => .stuck
def intsO : List R → Option (List Int)
  | [] => some []
  | .v (.int i) :: r => (intsO r).map (i :: ·)
  | _ => none
def opSum : Op
  | [x], bx => match (itL bx x).bind intsO with
    | some is => .ok (.v (.int is.sum)) bx
    | none => .stuck
  | _, _ => .stuck
def opMin2 : Op
  | [.v (.int i), .v (.int j)], bx => .ok (.v (.int (if j < i then j else i))) bx
  | _, _ => .stuck
def opInt : Op
  | [.v (.int i)], bx => .ok (.v (.int i)) bx
  | [.v (.bl b)], bx => .ok (.v (.int (if b then 1 else 0))) bx
  | _, _ => .stuck
def opStr : Op
  | [.v (.int i)], bx => if i.natAbs.log2 < 1920 then .ok (.v (.str (toString i))) bx else .stuck
  | _, _ => .stuck
/-- list(x): a list, a tuple, a dict's keys -/
def opList (m : Bool) : Op
  | [x], bx => match itS bx x with
    | some xs => mkL m xs bx
    | none => match dcO bx x with
      | some (ks, _) => mkL m (ks.map .v) bx
      | none => .stuck
  | _, _ => .stuck
def opTuple : Op
  | [x], bx => match itS bx x with
    | some xs => mkT xs bx
    | none => .stuck
  | _, _ => .stuck
/-- dict(d) -/
def opDict (m : Bool) : Op
  | [x], bx => match dcO bx x with
    | some (ks, rs) => mkD m ks rs bx
    | none => .stuck
  | _, _ => .stuck
inductive Ty where
  | int | bool | str | tuple | list | dict
  deriving DecidableEq
/-- the class of an instance or an error -/
def clsOf (bx : Bx) : R → Option Nat
  | .v (.ins c _ _) => some c
  | .v (.exn c _) => some c
  | .r n => match bx[n]? with
    | some (.ins c _) => some c
    | _ => none
  | _ => none

/-! ### order -/
mutual
def W.alk : W → W → Bool
  | .bl _, .bl _ => true
  | .int _, .int _ => true
  | .str _, .str _ => true
  | .tup xs, .tup ys => W.alks xs ys
  | .lst xs, .lst ys => W.alks xs ys
  | _, _ => false
def W.alks : List W → List W → Bool
  | x :: xs, y :: ys => W.alk x y && W.alks xs ys
  | _, _ => true
end
mutual
def W.lt : W → W → Bool
  | .bl a, .bl b => !a && b
  | .int i, .int j => decide (i < j)
  | .str x, .str y => decide (x.cps.toList < y.cps.toList)
  | .tup xs, .tup ys => W.lts xs ys
  | .lst xs, .lst ys => W.lts xs ys
  | _, _ => false
def W.lts : List W → List W → Bool
  | [], _ :: _ => true
  | x :: xs, y :: ys => if W.pyeq x y then W.lts xs ys else W.lt x y
  | _, [] => false
end
def W.le (a b : W) : Bool := !W.lt b a
/-- a row that sorted takes: its items alike in pairs, data, all tuples with an item or none a tuple -/
def sortOk (ws : List W) : Bool := ws.all W.isDat && ws.all (fun a => ws.all fun b => W.alk a b) && (ws.all (fun a => match a with
  | .tup (_ :: _) => true
  | _ => false) || ws.all fun a => match a with
  | .tup _ => false
  | _ => true)
def sortW (ws : List W) : List W := ws.mergeSort W.le
def opSorted (m : Bool) : Op
  | [x], bx => match (itL bx x).bind vals with
    | some ws => if sortOk ws then mkL m ((sortW ws).map .v) bx else .stuck
    | none => .stuck
  | _, _ => .stuck
/-- each once, by its first place -/
def firsts : List W → List W → List W
  | acc, [] => acc
  | acc, x :: r => firsts (if x ∈ acc then acc else acc ++ [x]) r
/-- a row that set takes: keys of one kind -/
def setOk (ws : List W) : Bool := ws.all fun k => keyFor ws k
/-- sorted(set(x)) -/
def opSortedSet (m : Bool) : Op
  | [x], bx => match (itL bx x).bind vals with
    | some ws => if setOk ws && sortOk ws then mkL m ((sortW (firsts [] ws)).map .v) bx else .stuck
    | none => .stuck
  | _, _ => .stuck
/-- len(set(x)) -/
def opLenSet : Op
  | [x], bx => match (itL bx x).bind vals with
    | some ws => if setOk ws then .ok (.v (.int (firsts [] ws).length)) bx else .stuck
    | none => .stuck
  | _, _ => .stuck

/-! ### repr -/
mutual
def W.toD : W → Option PyData
  | .non => some .none
  | .bl b => some (.bool b)
  | .int i => some (.int i)
  | .str s => some (.str s)
  | .tup xs => (W.toDs xs).map .tuple
  | .lst xs => (W.toDs xs).map .list
  | .dct ks vs => match W.toDs ks, W.toDs vs with
    | some a, some b => some (.dict (a.zip b))
    | _, _ => none
  | _ => none
def W.toDs : List W → Option (List PyData)
  | [] => some []
  | x :: r => match W.toD x, W.toDs r with
    | some a, some b => some (a :: b)
    | _, _ => none
end

/-! ### methods of lists, dicts, texts -/
inductive Mt where
  | append | extend | pop | index | count | clear | remove | get | setdefault | update | join | split | replace
  deriving DecidableEq
def putB (n : Nat) (b : Box) (r : R) (bx : Bx) : Res := if n < bx.length then .ok r (bx.set n b) else .stuck
def idxW (x : W) : List W → Option Nat
  | [] => none
  | y :: r => if W.pyeq y x then some 0 else (idxW x r).map (· + 1)
/-- the new pairs over the old ones -/
def dMergeK : List W → List W → List W
  | ks, k :: ks' => dMergeK (dSetK ks k) ks'
  | ks, [] => ks
def dMergeV {α : Type} : List W → List α → List W → List α → List α
  | ks, rs, k :: ks', r :: rs' => dMergeV (dSetK ks k) (dSetV ks rs k r) ks' rs'
  | _, rs, _, _ => rs
def txsO : List R → Option (List Str)
  | [] => some []
  | .v (.str s) :: r => (txsO r).map (s :: ·)
  | _ => none
def boxL (bx : Bx) (n : Nat) : Option (List R) := match bx[n]? with
  | some (.lst xs) => some xs
  | _ => none
def boxD (bx : Bx) (n : Nat) : Option (List W × List R) := match bx[n]? with
  | some (.dct ks rs) => some (ks, rs)
  | _ => none
def opAppend : Op
  | [.r n, y], bx => match boxL bx n with
    | some xs => if xs.length < SL then putB n (.lst (xs ++ [y])) (.v .non) bx else .stuck
    | none => .stuck
  | _, _ => .stuck
def opExtend : Op
  | [.r n, y], bx => match boxL bx n, itL bx y with
    | some xs, some ys => if xs.length + ys.length ≤ SL then putB n (.lst (xs ++ ys)) (.v .non) bx else .stuck
    | _, _ => .stuck
  | _, _ => .stuck
def opPop : Op
  | [.r n], bx => match boxL bx n with
    | some xs => match xs[xs.length - 1]? with
      | some r => putB n (.lst xs.dropLast) r bx
      | none => .stuck
    | none => .stuck
  | _, _ => .stuck
def opPopAt : Op
  | [.r n, .v (.int i)], bx => match boxL bx n with
    | some xs => if i64 i = true then (match atW i xs.length with
      | some j => match xs[j]? with
        | some r => if -(2 ^ 63) ≤ i ∧ i < 2 ^ 63 then putB n (.lst (xs.eraseIdx j)) r bx else .stuck
        | none => .stuck
      | none => .stuck) else .stuck
    | none => .stuck
  | _, _ => .stuck
def opClear : Op
  | [.r n], bx => match boxL bx n with
    | some _ => putB n (.lst []) (.v .non) bx
    | none => .stuck
  | _, _ => .stuck
def viewsO (bx : Bx) (x y : R) : Option (List W × W) := match (itL bx x).bind fun ys => mapO (view bx 9) ys with
  | some ws => match view bx 9 y with
    | some a => if a.isDat && ws.all W.isDat then some (ws, a) else none
    | none => none
  | none => none
def opIndex : Op
  | [x, y], bx => match viewsO bx x y with
    | some (ws, a) => match idxW a ws with
      | some j => .ok (.v (.int j)) bx
      | none => .stuck
    | none => .stuck
  | _, _ => .stuck
def opCount : Op
  | [x, y], bx => match viewsO bx x y with
    | some (ws, a) => .ok (.v (.int (ws.countP fun b => W.pyeq b a))) bx
    | none => .stuck
  | _, _ => .stuck
def opGet : Op
  | [x, .v k, d], bx => match dcO bx x with
    | some (ks, rs) => if keyFor ks k then .ok ((dGet ks rs k).getD d) bx else .stuck
    | none => .stuck
  | _, _ => .stuck
def opSetdef : Op
  | [.r n, .v k, d], bx => match boxD bx n with
    | some (ks, rs) => if keyFor ks k = true ∧ ks.length < SL then (match dGet ks rs k with
      | some r => .ok r bx
      | none => putB n (.dct (dSetK ks k) (dSetV ks rs k d)) d bx) else .stuck
    | none => .stuck
  | _, _ => .stuck
def opUpdate : Op
  | [.r n, y], bx => match boxD bx n, dcO bx y with
    | some (ks, rs), some (ks', rs') => if ks'.all (fun k => keyFor ks k && keyFor ks' k) ∧ ks.length + ks'.length < SL ∧ y ≠ .r n then putB n (.dct (dMergeK ks ks') (dMergeV ks rs ks' rs')) (.v .non) bx else .stuck
    | _, _ => .stuck
  | _, _ => .stuck

/-! ### calls -/
/-- o.m(..) of a list (d: of a dict) -/
def eMt (d : Bool) (o : E) (as : List (Bool × E)) (f : Op) : E := eBind o fun x => fun en bx => if (if d then (dcO bx x).isSome else (itL bx x).isSome) = true then eArgs as (fun xs _ bx => f (x :: xs) bx) en bx else .stuck
/-! ### errors -/
/-- C(x): an error, its arguments not kept -/
def opExn (c : Nat) : Op
  | [.v _], bx => .ok (.v (.exn c [])) bx
  | _, _ => .stuck
/-- C(line), the line kept -/
def opExn1 (c : Nat) : Op
  | [.v (.int i)], bx => .ok (.v (.exn c [.int i])) bx
  | _, _ => .stuck
def opLine : Op
  | [.v (.exn _ [l])], bx => .ok (.v l) bx
  | _, _ => .stuck
/-- the functions: which one, the arguments, the boxes -/
abbrev Fn := Nat → List R → Bx → Res
def viewF (lo : Nat) (bx : Bx) : Nat → R → Option W
  | _, .v w => some w
  | 0, _ => none
  | k + 1, .r n => if lo ≤ n then (match bx[n]? with
    | some (.lst xs) => (mapO (viewF lo bx k) xs).map .lst
    | some (.dct ks vs) => (mapO (viewF lo bx k) vs).map (.dct ks)
    | some (.ins c fs) => (mapO (viewF lo bx k) (fs.map (·.2))).map (.ins c (fs.map (·.1)))
    | none => none) else none
  | _ + 1, .clo _ _ => none
def refLt (n : Nat) : R → Bool
  | .v _ => true
  | .r k => decide (k < n)
  | .clo _ _ => false
def boxLt (n : Nat) : Box → Bool
  | .lst xs => xs.all (refLt n)
  | .dct _ vs => vs.all (refLt n)
  | .ins _ fs => fs.all fun p => refLt n p.2
/-- the first boxes are as they were, or name no later one -/
def backOk (n : Nat) : Bx → Bx → Bool
  | [], _ => true
  | b :: r, b' :: r' => (decide (b' = b) || boxLt n b') && backOk n r r'
  | _ :: _, [] => false
/-- behind a call whose new boxes go: the answer as a value -/
def settle (bx : Bx) : Res → Res
  | .ok r bx' => match viewF bx.length bx' 9 r with
    | some w => if backOk bx.length bx bx' then .ok (.v w) (bx'.take bx.length) else .stuck
    | none => .stuck
  | .exc w bx' => if backOk bx.length bx bx' then .exc w (bx'.take bx.length) else .stuck
  | .stuck => .stuck
def opCall (F : Fn) (f : Nat) (keep : Bool) : Op := fun xs bx => if keep then F f xs bx else settle bx (F f xs bx)
def opMake (F : Fn) (c init : Nat) (keep : Bool) : Op := fun xs bx =>
  match F init (.r bx.length :: xs) (bx ++ [.ins c []]) with
  | .ok (.v .non) bx' => if keep then .ok (.r bx.length) bx' else settle bx (.ok (.r bx.length) bx')
  | .exc w bx' => settle bx (.exc w bx')
  | _ => .stuck
structure Tab where
  meth : Nat → Str → Option Nat
  prop : Nat → Str → Option Nat
  sub : Nat → Nat → Bool
  n : Nat
  exc : Nat → Bool
def fldO (bx : Bx) (x : R) (f : Str) : Option R := match x with
  | .v (.ins _ fs vs) => (fs.zip vs).lookup f |>.map .v
  | .r n => match bx[n]? with
    | some (.ins _ fs) => fs.lookup f
    | _ => none
  | _ => none
def opFld (f : Str) : Op
  | [x], bx => match fldO bx x f with
    | some r => .ok r bx
    | none => .stuck
  | _, _ => .stuck
/-- o.f where f is a property of o's class -/
def opProp (F : Fn) (T : Tab) (f : Str) (keep : Bool) : Op
  | [x], bx => match (clsOf bx x).bind fun c => T.prop c f with
    | some g => opCall F g keep [x] bx
    | none => .stuck
  | _, _ => .stuck
def opMeth (F : Fn) (T : Tab) (nm : Str) (keep : Bool) : Op
  | x :: as, bx => match clsOf bx x with
    | some c => match T.meth c nm with
      | some g => if (fldO bx x nm).isNone then opCall F g keep (x :: as) bx else .stuck
      | none => .stuck
    | none => .stuck
  | _, _ => .stuck
/-- the type of a value: a built-in one, or a class -/
def typO (T : Tab) (bx : Bx) : R → Option (String ⊕ Nat)
  | .v .non => some (.inl "NoneType")
  | .v (.bl _) => some (.inl "bool")
  | .v (.int _) => some (.inl "int")
  | .v (.str _) => some (.inl "str")
  | .v (.tup _) => some (.inl "tuple")
  | .v (.lst _) => some (.inl "list")
  | .v (.dct _ _) => some (.inl "dict")
  | .v (.ins c _ _) => if c < T.n ∧ T.exc c = false then some (.inr c) else none
  | .v (.exn c _) => if c < T.n ∧ T.exc c = true then some (.inr c) else none
  | .r k => match bx[k]? with
    | some (.lst _) => some (.inl "list")
    | some (.dct _ _) => some (.inl "dict")
    | some (.ins c _) => if c < T.n ∧ T.exc c = false then some (.inr c) else none
    | none => none
  | _ => none
def tyN : Ty → String
  | .int => "int"
  | .bool => "bool"
  | .str => "str"
  | .tuple => "tuple"
  | .list => "list"
  | .dict => "dict"
/-- isinstance(x, t) -/
def opIsTy (T : Tab) (t : Ty) : Op
  | [x], bx => match typO T bx x with
    | some (.inl nm) => okB (nm == tyN t || (nm == "bool" && t == .int)) bx
    | some (.inr _) => okB false bx
    | none => .stuck
  | _, _ => .stuck
/-- isinstance(x, C) -/
def opIsC (T : Tab) (c : Nat) : Op
  | [x], bx => if c < T.n then (match typO T bx x with
    | some (.inl _) => okB false bx
    | some (.inr d) => okB (T.sub d c) bx
    | none => .stuck) else .stuck
  | _, _ => .stuck
/-- isinstance(x, ValueError) -/
def opIsVE (T : Tab) : Op
  | [x], bx => match typO T bx x with
    | some (.inl _) => okB false bx
    | some (.inr d) => okB (T.exc d) bx
    | none => .stuck
  | _, _ => .stuck
/-- a lambda held by a name, called -/
def opClo (F : Fn) (keep : Bool) : Op
  | .clo k caps :: as, bx => opCall F k keep (caps ++ as) bx
  | _, _ => .stuck
def slotsO (en : En) : List Nat → Option (List R)
  | [] => some []
  | i :: r => match en[i]? with
    | some (some x) => (slotsO en r).map (x :: ·)
    | _ => none
def eLam (k : Nat) (caps : List Nat) : E := fun en bx => match slotsO en caps with
  | some rs => .ok (.clo k rs) bx
  | none => .stuck

/-! ### what is walked -/
inductive It where
  | one (r : R)
  | pr (a b : R)
inductive Ires where
  | ok (xs : List It) (g : Option (Nat × Box)) (bx : Bx)
  | exc (w : W) (bx : Bx)
  | stuck
abbrev I := En → Bx → Ires
def iBind (m : E) (k : R → Bx → Ires) : I := fun en bx => match m en bx with
  | .ok r bx' => k r bx'
  | .exc w bx' => .exc w bx'
  | .stuck => .stuck
def guardOf (bx : Bx) : R → Option (Nat × Box)
  | .r n => (bx[n]?).map fun b => (n, b)
  | _ => none
def guarded (bx : Bx) : Option (Nat × Box) → Bool
  | none => true
  | some (n, b) => decide (bx[n]? = some b)
def iPlain (m : E) : I := iBind m fun x bx => match x with
  | .v (.str s) => .ok (s.cps.toList.map fun c => .one (.v (.str ⟨#[c]⟩))) none bx
  | x => match itS bx x with
    | some xs => .ok (xs.map .one) (guardOf bx x) bx
    | none => match x with
      | .v (.dct ks _) => .ok (ks.map fun k => .one (.v k)) none bx
      | _ => .stuck
def iItems (m : E) : I := iBind m fun x bx => match x with
  | .v (.dct ks ws) => .ok ((ks.zip ws).map fun p => .pr (.v p.1) (.v p.2)) none bx
  | _ => .stuck
def iVals (m : E) : I := iBind m fun x bx => match x with
  | .v (.dct _ ws) => .ok (ws.map fun w => .one (.v w)) none bx
  | _ => .stuck
def rangeI (lo hi : Int) : List It := (List.range (hi - lo).toNat).map fun (k : Nat) => .one (.v (.int (lo + k)))
def range1K : R → Bx → Ires
  | .v (.int n), bx => if -(2 ^ 62) ≤ n ∧ n < 2 ^ 62 then .ok (rangeI 0 n) none bx else .stuck
  | _, _ => .stuck
def iRange1 (m : E) : I := iBind m range1K
def range2K : R → R → Bx → Ires
  | .v (.int i), .v (.int j), bx => if (-(2 ^ 62) ≤ i ∧ i < 2 ^ 62) ∧ (-(2 ^ 62) ≤ j ∧ j < 2 ^ 62) then .ok (rangeI i j) none bx else .stuck
  | _, _, _ => .stuck
def iBind2 (a b : E) (k : R → R → Bx → Ires) : I := fun en bx => match a en bx with
  | .ok x bx1 => (match b en bx1 with
    | .ok y bx2 => k x y bx2
    | .exc w bx2 => .exc w bx2
    | .stuck => .stuck)
  | .exc w bx1 => .exc w bx1
  | .stuck => .stuck
def iRange2 (a b : E) : I := iBind2 a b range2K
def iEnum (m : E) : I := iBind m fun x bx => match itL bx x with
  | some xs => .ok (xs.zipIdx.map fun p => .pr (.v (.int p.2)) p.1) (guardOf bx x) bx
  | none => .stuck
/-- zip(a, b, strict=True) of two lists that are no boxes, or of a tuple and a list -/
def iZip (a b : E) : I := iBind a fun x bx => match itS bx x with
  | some _ => .stuck
  | none => .stuck

inductive Tg where
  | nm (i : Nat)
  | tp (ts : List Tg)
mutual
def asg : Tg → It → En → Bx → Option En
  | .nm i, .one r, en, _ => if i < en.length then some (en.set i (some r)) else none
  | .nm i, .pr a b, en, _ => match valO a, valO b with
    | some x, some y => if i < en.length then some (en.set i (some (.v (.tup [x, y])))) else none
    | _, _ => none
  | .tp ts, .one r, en, bx => match r with
    | .v (.tup ws) => asgs ts (ws.map .v) en bx
    | _ => none
  | .tp ts, .pr a b, en, bx => asgs ts [a, b] en bx
def asgs : List Tg → List R → En → Bx → Option En
  | [], [], en, _ => some en
  | t :: ts, r :: rs, en, bx => match asg t (.one r) en bx with
    | some en' => asgs ts rs en' bx
    | none => none
  | _, _, _, _ => none
end
/-! ### comprehensions -/
def wipeE (en : En) : List Nat → En
  | [] => en
  | v :: vs => (wipeE en vs).set v none
structure Gen where
  tg : Tg
  it : I
  ifs : List E
/-- the tests of a clause -/
def testsO (en : En) : List E → Bx → Option (Bool × Bx)
  | [], bx => some (true, bx)
  | t :: r, bx => match t en bx with
    | .ok (.v (.bl true)) bx' => testsO en r bx'
    | .ok (.v (.bl false)) bx' => some (false, bx')
    | _ => none
/-- the turns of a clause -/
def lcTurns (body : En → Bx → Option (List R × Bx)) (tg : Tg) (ifs : List E) (g : Option (Nat × Box)) (en : En) : List It → Bx → Option (List R × Bx)
  | [], bx => if guarded bx g then some ([], bx) else none
  | x :: xs, bx => if guarded bx g then (match asg tg x en bx with
    | some en' => match testsO en' ifs bx with
      | some (true, bx1) => match body en' bx1 with
        | some (ys, bx2) => match lcTurns body tg ifs g en xs bx2 with
          | some (zs, bx3) => some (ys ++ zs, bx3)
          | none => none
        | none => none
      | some (false, bx1) => lcTurns body tg ifs g en xs bx1
      | none => none
    | none => none) else none
def lcGo (elt : E) : List Gen → En → Bx → Option (List R × Bx)
  | [], en, bx => match elt en bx with
    | .ok r bx' => some ([r], bx')
    | _ => none
  | g :: gs, en, bx => match g.it en bx with
    | .ok xs gd bx' => lcTurns (lcGo elt gs) g.tg g.ifs gd en xs bx'
    | _ => none
def eLc (m : Bool) (own : List Nat) (gs : List Gen) (elt : E) : E := fun en bx => match lcGo elt gs (wipeE en own) bx with
  | some (rs, bx') => mkL m rs bx'
  | none => .stuck
/-- {k: v for ..}: the pairs as they come, each a list of key and value -/
def pairO : List R → Option (List W × List R)
  | [] => some ([], [])
  | [_] => none
  | .v k :: r :: rs => (pairO rs).map fun p => (k :: p.1, r :: p.2)
  | _ :: _ => none
def dcGo (ke ve : E) : List Gen → En → Bx → Option (List R × Bx)
  | [], en, bx => match ke en bx with
    | .ok k bx' => match ve en bx' with
      | .ok r bx'' => some ([k, r], bx'')
      | _ => none
    | _ => none
  | g :: gs, en, bx => match g.it en bx with
    | .ok xs gd bx' => lcTurns (dcGo ke ve gs) g.tg g.ifs gd en xs bx'
    | _ => none
def eDc (m : Bool) (own : List Nat) (gs : List Gen) (ke ve : E) : E := fun en bx => match dcGo ke ve gs (wipeE en own) bx with
  | some (rs, bx') => match pairO rs with
    | some (ks, vs) => if ks.length ≤ SL ∧ ks.all (fun k => keyFor ks k) then mkD m (dMergeK [] ks) (dMergeV [] [] ks vs) bx' else .stuck
    | none => .stuck
  | none => .stuck
/-- {} and {k: v, ..} -/
def eDct (m : Bool) (kvs : List E) : E := eAll kvs fun xs => fun _ bx => match pairO xs with
  | some (ks, vs) => if ks.length ≤ 15 ∧ ks.all (fun k => keyFor ks k) then mkD m (dMergeK [] ks) (dMergeV [] [] ks vs) bx else .stuck
  | none => .stuck
/-- sorted(x, key=lambda p: e), the lambda's body in the own frame: slot i its name -/
def keysO (i : Nat) (e : E) (en : En) (bx : Bx) : List W → Option (List W)
  | [] => some []
  | w :: r => match e (en.set i (some (.v w))) bx with
    | .ok (.v k) bx' => if bx' = bx then (keysO i e en bx r).map (k :: ·) else none
    | _ => none

/-! ### statements -/
def cPass : C := fun en bx => .nx en bx
def cSeq : List C → C
  | [] => cPass
  | [c] => c
  | c :: r => fun en bx => match c en bx with
    | .nx en' bx' => cSeq r en' bx'
    | x => x
def cE (m : E) (k : R → C) : C := fun en bx => match m en bx with
  | .ok r bx' => k r en bx'
  | .exc w bx' => .exc w en bx'
  | .stuck => .stuck
def cExp (m : E) : C := cE m fun _ => cPass
def cRet (m : E) : C := cE m fun r _ bx => .rt r bx
def cRetN : C := fun _ bx => .rt (.v .non) bx
def cCont : C := fun en bx => .ct en bx
def cAsg (t : Tg) (m : E) : C := cE m fun r en bx => match asg t (.one r) en bx with
  | some en' => .nx en' bx
  | none => .stuck
/-- a, b = x, y -/
def cPar (i j : Nat) (a b : E) : C := cE a fun x => cE b fun y en bx => if i ≠ j ∧ i < en.length ∧ j < en.length then .nx ((en.set i (some x)).set j (some y)) bx else .stuck
def cB (m : E) (k : Bool → C) : C := cE m fun r => match r with
  | .v (.bl b) => k b
  | _ => fun _ _ => .stuck
def cIf (t : E) (a b : C) : C := cB t fun c => if c then a else b
/-- o[i] = e -/
def setR (y x k : R) (bx : Bx) : Option Bx := match x, k with
  | .r n, .v k => match bx[n]? with
    | some (.lst xs) => match k with
      | .int j => match atW j xs.length with
        | some p => some (bx.set n (.lst (xs.set p y)))
        | none => none
      | _ => none
    | some (.dct ks rs) => if keyFor ks k = true ∧ ks.length < SL then some (bx.set n (.dct (dSetK ks k) (dSetV ks rs k y))) else none
    | _ => none
  | _, _ => none
def cSet (o i e : E) : C := cE e fun y => cE o fun x => cE i fun k => fun en bx => match setR y x k bx with
  | some bx' => .nx en bx'
  | none => .stuck
def putF (f : Str) (r : R) : List (Str × R) → List (Str × R)
  | [] => [(f, r)]
  | (g, x) :: t => if g = f then (g, r) :: t else (g, x) :: putF f r t
/-- o.f = e -/
def cFld (o : E) (f : Str) (e : E) : C := cE e fun y => cE o fun x => fun en bx => match x with
  | .r n => match bx[n]? with
    | some (.ins c fs) => if fs.length < 1000 then .nx en (bx.set n (.ins c (putF f y fs))) else .stuck
    | _ => .stuck
  | _ => .stuck
def forGo (tg : Tg) (body : C) (g : Option (Nat × Box)) : List It → C
  | [], en, bx => if guarded bx g then .nx en bx else .stuck
  | x :: xs, en, bx => if guarded bx g then (match asg tg x en bx with
    | some en' => match body en' bx with
      | .nx en2 bx2 => forGo tg body g xs en2 bx2
      | .ct en2 bx2 => forGo tg body g xs en2 bx2
      | r => r
    | none => .stuck) else .stuck
def cFor (tg : Tg) (it : I) (body : C) : C := fun en bx => match it en bx with
  | .ok xs g bx' => forGo tg body g xs en bx'
  | .exc w bx' => .exc w en bx'
  | .stuck => .stuck
/-- so many turns at most -/
def whileGo (t : E) (body : C) : Nat → C
  | 0, _, _ => .stuck
  | n + 1, en, bx => match t en bx with
    | .ok (.v (.bl true)) bx1 => match body en bx1 with
      | .nx en2 bx2 => whileGo t body n en2 bx2
      | .ct en2 bx2 => whileGo t body n en2 bx2
      | r => r
    | .ok (.v (.bl false)) bx1 => .nx en bx1
    | .exc w bx1 => .exc w en bx1
    | _ => .stuck
def WF : Nat := 1000000000000000
def cWhile (t : E) (body : C) : C := whileGo t body WF
/-- raise C('..'): the text is not kept -/
def cRaise (c : Nat) (m : E) : C := cE m fun r => fun en bx => match r with
  | .v (.str _) => .exc (.exn c []) en bx
  | _ => .stuck
/-- raise ParseError(line) -/
def cRaise1 (c : Nat) (m : E) : C := cE m fun r => fun en bx => match r with
  | .v (.int i) => .exc (.exn c [.int i]) en bx
  | _ => .stuck
/-- try: body, except the class c as slot i: h -/
def cTry (T : Tab) (body : C) (c i : Nat) (h : C) : C := fun en bx => match body en bx with
  | .exc (.exn d l) en1 bx1 => if d < T.n ∧ T.exc d = true ∧ i < en1.length then (if T.sub d c then (match h (en1.set i (some (.v (.exn d l)))) bx1 with
      | .nx en2 bx2 => .nx (en2.set i none) bx2
      | .ct en2 bx2 => .ct (en2.set i none) bx2
      | .exc _ _ _ => .stuck
      | r => r) else .exc (.exn d l) en1 bx1) else .stuck
  | r => r
def caseGo (s : Str) : List (List Str × C) → C
  | [] => cPass
  | (ps, b) :: r => if ps.any (fun p => decide (p = s)) then b else caseGo s r
def cMatch (m : E) (cs : List (List Str × C)) : C := cE m fun r => match r with
  | .v (.str s) => caseGo s cs
  | _ => fun _ _ => .stuck

/-! ### a def's body -/
def run (n : Nat) (body : C) : List R → Bx → Res := fun args bx =>
  match body (args.map some ++ List.replicate (n - args.length) none) bx with
  | .nx _ bx' => .ok (.v .non) bx'
  | .rt r bx' => .ok r bx'
  | .exc w _ bx' => .exc w bx'
  | _ => .stuck
/-- n parameters, a frame of m slots -/
def runF (n m : Nat) (c : C) : List R → Bx → Res := fun args bx => if args.length = n then run m c args bx else .stuck

end AM
/-! text AmA2 -/
set_option linter.all false
/-! AmA2: further meanings. -/
namespace AM
open PySem
/-- repr(x) -/
def opRepr : Op
  | [x], bx => match (view bx 9 x).bind W.toD with
    | some d => if d.showable = true ∧ d.shown.length ≤ SL ∧ d.depth ≤ 60 then .ok (.v (.str d.shown)) bx else .stuck
    | none => .stuck
  | _, _ => .stuck
/-- how a body ends -/
def endR : Ct → Res
  | .nx _ bx => .ok (.v .non) bx
  | .rt r bx => .ok r bx
  | .exc w _ bx => .exc w bx
  | _ => .stuck
/-- caught = None; try: act() / except c as e: ch; rest -/
def wordF (T : Tab) (c i i1 n : Nat) (ch rest : C) (act : Bx → Res) : Bx → Res := fun bx => endR (cSeq [cTry T (cExp fun _ b => act b) c i ch, rest] ((List.replicate n none).set i1 (some (.v .non))) bx)
/-- f(lambda: e) -/
def eWord (G : (Bx → Res) → Bx → Res) (m : E) : E := fun en bx => settle bx (G (fun b => m en b) bx)
/-- a, b, c = x, y, z -/
def cPar3 (i j l : Nat) (a b c : E) : C := cE a fun x => cE b fun y => cE c fun z en bx => if (i ≠ j ∧ i ≠ l ∧ j ≠ l) ∧ i < en.length ∧ j < en.length ∧ l < en.length then .nx (((en.set i (some x)).set j (some y)).set l (some z)) bx else .stuck
/-- a tuple's key: its length, then itself -/
def keyW : W → W
  | .tup xs => .tup [.int xs.length, .tup xs]
  | w => w
def sortLen (ws : List W) : List W := ws.mergeSort fun a b => W.le (keyW a) (keyW b)
def opSortLen (m : Bool) : Op
  | [x], bx => match (itL bx x).bind vals with
    | some ws => if ws.all (fun w => keyB w && w.isT) && sortOk (ws.map keyW) then mkL m ((sortLen ws).map .v) bx else .stuck
    | none => .stuck
  | _, _ => .stuck
/-- o.line, of an error of class c -/
def opLn (c : Nat) : Op
  | [.v (.exn d [l])], bx => if d = c then .ok (.v l) bx else .stuck
  | _, _ => .stuck
/-- C(i), C's own __init__ keeping the line; F n gives the room -/
def opX1 (F : Fn) (n c : Nat) : Op
  | [.v (.int i)], bx => if i.natAbs.log2 < 1920 then (match F n [.v (.int i)] bx with
    | .ok _ _ => .ok (.v (.exn c [.int i])) bx
    | _ => .stuck) else .stuck
  | _, _ => .stuck
/-- sorted(set(x)), few items -/
def opSSet (m : Bool) : Op
  | [x], bx => match (itL bx x).bind vals with
    | some ws => if decide (ws.length < 64) && setOk ws && sortOk ws then mkL m ((sortW (firsts [] ws)).map .v) bx else .stuck
    | none => .stuck
  | _, _ => .stuck
/-- len(set(x)), few items -/
def opLSet : Op
  | [x], bx => match (itL bx x).bind vals with
    | some ws => if decide (ws.length < 64) && setOk ws then .ok (.v (.int (firsts [] ws).length)) bx else .stuck
    | none => .stuck
  | _, _ => .stuck
/-- the script in the machine -/
def scrR (ns : List Int) : R := .v (.scr (ns.map W.int))
end AM
/-! text AmR -/
set_option Elab.async false
set_option linter.all false
set_option maxRecDepth 100000
set_option maxHeartbeats 2000000
/-! AmR: how the machine's values, boxes and frames stand in the abstract heap of the hand layer. -/
namespace AM
open PySem PySem.Spec PyProof.Rows L2

/-- where the classes stand; the tables of code objects (a def's, for its lambdas), each with the name that its objects bear -/
structure Ca where
  at_ : Nat → Addr
  T : List (Addr × Str)
instance : CoeFun Ca fun _ => Nat → Addr := ⟨Ca.at_⟩
/-- the text's fixed things -/
structure Fx where
  P : Program
  w : World
  K : PySem.W.Frag
  ca : Ca

-- nested keys
mutual
def nk : W → Option NestedKey
  | .int i => some (.num i)
  | .str s => some (.text s)
  | .tup xs => (nks xs).map .tup
  | _ => none
def nks : List W → Option (List NestedKey)
  | [] => some []
  | x :: r => match nk x, nks r with
    | some a, some b => some (a :: b)
    | _, _ => none
end
def hashW (w : World) (k : W) : Option Int := (nk k).map fun n => n.hash w
/-- the keys of a dict: one kind -/
structure KindOk (ks : List W) : Prop where
  key : ∀ k ∈ ks, keyB k = true
  one : (∀ k ∈ ks, k.isT = true) ∨ (∀ k ∈ ks, k.isT = false)
/-- the object that stands at a, exactly -/
def pinO (a : Addr) (o : Obj) : HO := .ext fun h => h.get? a = some o
/-- an error of the class at C, its own dict d -/
def exnO (a C : Addr) (d : Option Addr) : HO := .ext fun h => ∃ oe vs, h.get? a = some oe ∧ oe.cls = .ref C ∧ oe.dict = d ∧ oe.data = .fields vs

def KT (K : PySem.W.Frag) (a : Addr) (xs : List V) : Prop := SqT K (fun _ => none) a xs
def KL (K : PySem.W.Frag) (a : Addr) (xs : List V) : Prop := SqL K (fun _ => none) a xs

section
variable (F : Fx) (Z : Addr → Prop) (H : Hp)
mutual
/-- a value of the machine, in the heap: all that it names is of Z -/
inductive RW : W → V → Prop
  | non : RW .non .non
  | bl (b : Bool) : RW (.bl b) (.bl b)
  | int (i : Int) : RW (.int i) (.int i)
  | str (s : Str) : RW (.str s) (.str s)
  | tup {ws : List W} {a : Addr} {vs : List V} : (Z a ∧ Rd H a (.tup vs)) ∨ KT F.K a vs → vs.length ≤ sizeLine → RWs ws vs → RW (.tup ws) (.ref a)
  | lst {ws : List W} {a : Addr} {vs : List V} : Z a → H a = some (.lst vs) → vs.length ≤ sizeLine → RWs ws vs → RW (.lst ws) (.ref a)
  | scr {ws : List W} {a : Addr} {vs : List V} : (Z a ∧ Rd H a (.lst vs)) ∨ KL F.K a vs → vs.length ≤ sizeLine → RWs ws vs → RW (.scr ws) (.ref a)
  | dct {ks vs : List W} {a : Addr} {o : Obj} {es : Array DictEntry} {ep : Nat} {xv : List V} : (Z a ∧ H a = some (pinO a o)) ∨ F.K.lookup a = some o → (a == sysModules) = false → o.ExactDict → o.data = .dict es ep → ks.length ≤ sizeLine →
      RD ks xv es.toList → RWs vs xv → ks.Nodup → KindOk ks → RW (.dct ks vs) (.ref a)
  | ins {c : Nat} {fs : List Str} {ws : List W} {a dx : Addr} {fv : List (Str × V)} : Z a → H a = some (.ins (F.ca c) dx fv) → fv.map (·.1) = fs → RWs ws (fv.map (·.2)) → RW (.ins c fs ws) (.ref a)
  | exn {c : Nat} {a : Addr} : Z a → H a = some (exnO a (F.ca c) none) → RW (.exn c []) (.ref a)
  | exn1 {c : Nat} {a d : Addr} {i : Int} : Z a → H a = some (exnO a (F.ca c) (some d)) → Z d → H d = some (.xd [(("line" : Str), .int i)]) → RW (.exn c [.int i]) (.ref a)
inductive RWs : List W → List V → Prop
  | nil : RWs [] []
  | cons {w : W} {v : V} {ws : List W} {vs : List V} : RW w v → RWs ws vs → RWs (w :: ws) (v :: vs)
inductive RD : List W → List V → List DictEntry → Prop
  | nil : RD [] [] []
  | cons {k : W} {kv x : V} {e : DictEntry} {ks : List W} {xs : List V} {es : List DictEntry} : RW k kv → RelV kv e.key → hashW F.w k = some e.hash → RelV x e.val → RD ks xs es → RD (k :: ks) (x :: xs) (e :: es)
end
end

section
variable {F : Fx} {Z Z' : Addr → Prop} {H H' : Hp}
theorem Rd.stay {a : Addr} {u : HO} (h : Rd H a u) (e : H' a = H a) : Rd H' a u := by
  unfold Rd
  rw [e]
  exact h
mutual
theorem RW.mono (hz : ∀ a, Z a → Z' a) (hh : ∀ a, Z a → H' a = H a) : ∀ {w : W} {v : V}, RW F Z H w v → RW F Z' H' w v
  | _, _, .non => .non
  | _, _, .bl b => .bl b
  | _, _, .int i => .int i
  | _, _, .str s => .str s
  | _, _, .tup p l r => .tup (p.imp (fun ⟨z, q⟩ => ⟨hz _ z, Rd.stay q (hh _ z)⟩) id) l (RWs.mono hz hh r)
  | _, _, .lst z q l r => .lst (hz _ z) ((hh _ z).trans q) l (RWs.mono hz hh r)
  | _, _, .scr p l r => .scr (p.imp (fun ⟨z, q⟩ => ⟨hz _ z, Rd.stay q (hh _ z)⟩) id) l (RWs.mono hz hh r)
  | _, _, .dct p s o1 o2 l d r n k => .dct (p.imp (fun ⟨z, q⟩ => ⟨hz _ z, (hh _ z).trans q⟩) id) s o1 o2 l (RD.mono hz hh d) (RWs.mono hz hh r) n k
  | _, _, .ins z q e r => .ins (hz _ z) ((hh _ z).trans q) e (RWs.mono hz hh r)
  | _, _, .exn z q => .exn (hz _ z) ((hh _ z).trans q)
  | _, _, .exn1 z q z2 q2 => .exn1 (hz _ z) ((hh _ z).trans q) (hz _ z2) ((hh _ z2).trans q2)
theorem RWs.mono (hz : ∀ a, Z a → Z' a) (hh : ∀ a, Z a → H' a = H a) : ∀ {ws : List W} {vs : List V}, RWs F Z H ws vs → RWs F Z' H' ws vs
  | _, _, .nil => .nil
  | _, _, .cons r t => .cons (RW.mono hz hh r) (RWs.mono hz hh t)
theorem RD.mono (hz : ∀ a, Z a → Z' a) (hh : ∀ a, Z a → H' a = H a) : ∀ {ks : List W} {vs : List V} {es : List DictEntry}, RD F Z H ks vs es → RD F Z' H' ks vs es
  | _, _, _, .nil => .nil
  | _, _, _, .cons r k h x t => .cons (RW.mono hz hh r) k h x (RD.mono hz hh t)
end
theorem RWs.length {ws : List W} {vs : List V} (h : RWs F Z H ws vs) : ws.length = vs.length := by
  induction ws generalizing vs with
  | nil => cases h; rfl
  | cons w ws ih => cases h with | cons _ t => simp [ih t]
theorem RWs.get {ws : List W} {vs : List V} (h : RWs F Z H ws vs) {i : Nat} {w : W} (e : ws[i]? = some w) : ∃ v, vs[i]? = some v ∧ RW F Z H w v := by
  induction ws generalizing vs i with
  | nil => simp at e
  | cons x ws ih =>
    cases h with
    | cons r t =>
      cases i with
      | zero => simp at e; subst e; exact ⟨_, rfl, r⟩
      | succ i => simpa using ih t (by simpa using e)
theorem RWs.append {a b : List W} {u v : List V} (h : RWs F Z H a u) (k : RWs F Z H b v) : RWs F Z H (a ++ b) (u ++ v) := by
  induction a generalizing u with
  | nil => cases h; exact k
  | cons w a ih => cases h with | cons r t => exact .cons r (ih t)
end

/-- the ground: boxes' places, what is frozen (Z) -/
structure Gd where
  al : List Addr
  Z : Addr → Prop
/-- what a slot holds -/
inductive RR (F : Fx) (g : Gd) (H : Hp) : R → V → Prop
  | v {w : W} {v : V} : RW F g.Z H w v → RR F g H (.v w) v
  | r {n : Nat} {a : Addr} : g.al[n]? = some a → RR F g H (.r n) (.ref a)
inductive RRs (F : Fx) (g : Gd) (H : Hp) : List R → List V → Prop
  | nil : RRs F g H [] []
  | cons {r : R} {v : V} {rs : List R} {vs : List V} : RR F g H r v → RRs F g H rs vs → RRs F g H (r :: rs) (v :: vs)

/-- a box -/
inductive BO (F : Fx) (g : Gd) (H : Hp) (a : Addr) : Box → Prop
  | lst {rs : List R} {vs : List V} : H a = some (.lst vs) → vs.length ≤ sizeLine → RRs F g H rs vs → BO F g H a (.lst rs)
  | dct {ks : List W} {rs : List R} {o : Obj} {es : Array DictEntry} {ep : Nat} {xv : List V} : H a = some (pinO a o) → (a == sysModules) = false → o.ExactDict → o.data = .dict es ep → ks.length ≤ sizeLine →
      RD F g.Z H ks xv es.toList → RRs F g H rs xv → ks.Nodup → KindOk ks → BO F g H a (.dct ks rs)
  | ins {c : Nat} {fs : List (Str × R)} {dx : Addr} {fv : List (Str × V)} : H a = some (.ins (F.ca c) dx fv) → fv.map (·.1) = fs.map (·.1) → RRs F g H (fs.map (·.2)) (fv.map (·.2)) → BO F g H a (.ins c fs)

/-- the table at P tells frozen code objects of the name q -/
def TabA (g : Gd) (H : Hp) (P : Addr) (q : Str) : Prop := (∃ ps : Array Value, H P = some (.tbl ps) ∧ TriplesOk ps.toList ∧ ∀ (pos : Pos) (cv : Value), codeAmong pos ps.toList = some cv → ∃ c, cv = .ref c ∧ H c = some (LamX.CodeO c q) ∧ g.Z c) ∧ ¬ g.Z P
/-- a later ground: all that was there stays, but the boxes; a table grows -/
structure Ext (g : Gd) (H : Hp) (g' : Gd) (H' : Hp) : Prop where
  z : ∀ a, g.Z a → g'.Z a
  zn : ∀ a, g'.Z a → g.Z a ∨ H a = none
  al : ∃ t, g'.al = g.al ++ t ∧ ∀ a ∈ t, H a = none
  zk : ∀ a, g.Z a → H' a = H a
  keep : ∀ a, (H a).isSome → a ∉ g.al → (∀ ps, H a ≠ some (.tbl ps)) → H' a = H a
  there : ∀ a, (H a).isSome → (H' a).isSome
theorem TabA.stay {g g' : Gd} {H H' : Hp} {P : Addr} {q : Str} (t : TabA g H P q) (e : H' P = H P) (z : ∀ a, g.Z a → g'.Z a) (n : g'.Z P → g.Z P) (k : ∀ a, g.Z a → H' a = H a) : TabA g' H' P q := by
  obtain ⟨⟨ps, h1, h2, h3⟩, h4⟩ := t
  refine ⟨⟨ps, e.trans h1, h2, fun pos cv hc => ?_⟩, fun y => h4 (n y)⟩
  obtain ⟨c, e1, e2, e3⟩ := h3 pos cv hc
  exact ⟨c, e1, (k c e3).trans e2, z c e3⟩
theorem TabA.at {g : Gd} {H : Hp} {P : Addr} {q : Str} (t : TabA g H P q) : ∃ ps, H P = some (.tbl ps) := let ⟨⟨ps, h, _⟩, _⟩ := t; ⟨ps, h⟩
theorem Ext.refl (g : Gd) (H : Hp) : Ext g H g H := ⟨fun _ z => z, fun _ z => .inl z, ⟨[], by simp, by simp⟩, fun _ _ => rfl, fun _ _ _ _ => rfl, fun _ z => z⟩
theorem hnone {H H' : Hp} {a : Addr} (h : (H a).isSome → (H' a).isSome) (e : H' a = none) : H a = none := by
  cases q : H a with
  | none => rfl
  | some o =>
    have := h (by rw [q]; rfl)
    rw [e] at this
    cases this
theorem Ext.trans {g g1 g2 : Gd} {H H1 H2 : Hp} (a : Ext g H g1 H1) (b : Ext g1 H1 g2 H2) : Ext g H g2 H2 := by
  obtain ⟨t, e, ht⟩ := a.al
  obtain ⟨u, e', hu⟩ := b.al
  refine ⟨fun x z => b.z x (a.z x z), fun x z => ?_, ⟨t ++ u, by rw [e', e, List.append_assoc], fun x m => ?_⟩, fun x h => (b.zk x (a.z x h)).trans (a.zk x h), fun x h n nt => ?_, fun x h => b.there x (a.there x h)⟩
  · rcases b.zn x z with z | z
    · exact a.zn x z
    · exact .inr (hnone (a.there x) z)
  · rcases List.mem_append.mp m with m | m
    · exact ht x m
    · exact hnone (a.there x) (hu x m)
  · have ek := a.keep x h n nt
    refine (b.keep x (a.there x h) (fun m => ?_) fun ps => by rw [ek]; exact nt ps).trans ek
    rw [e] at m
    rcases List.mem_append.mp m with m | m
    · exact n m
    · rw [ht x m] at h
      cases h
theorem RR.mono {F : Fx} {g g' : Gd} {H H' : Hp} (e : Ext g H g' H') {r : R} {v : V} (h : RR F g H r v) : RR F g' H' r v := by
  cases h with
  | v x => exact .v (x.mono e.z fun a z => e.zk a z)
  | r x =>
    obtain ⟨t, q, _⟩ := e.al
    refine .r ?_
    rw [q, List.getElem?_append_left (List.getElem?_eq_some_iff.mp x).1]
    exact x
theorem RRs.mono {F : Fx} {g g' : Gd} {H H' : Hp} (e : Ext g H g' H') {rs : List R} {vs : List V} (h : RRs F g H rs vs) : RRs F g' H' rs vs := by
  induction h with
  | nil => exact .nil
  | cons a _ ih => exact .cons (a.mono e) ih
theorem RRs.length {F : Fx} {g : Gd} {H : Hp} {rs : List R} {vs : List V} (h : RRs F g H rs vs) : rs.length = vs.length := by
  induction h with
  | nil => rfl
  | cons _ _ ih => simp [ih]
theorem RRs.append {F : Fx} {g : Gd} {H : Hp} {rs rs' : List R} {vs vs' : List V} (h : RRs F g H rs vs) (k : RRs F g H rs' vs') : RRs F g H (rs ++ rs') (vs ++ vs') := by
  induction h with
  | nil => exact k
  | cons a _ ih => exact .cons a ih
theorem RRs.of {F : Fx} {g : Gd} {H : Hp} {ws : List W} {vs : List V} (h : RWs F g.Z H ws vs) : RRs F g H (ws.map .v) vs := by
  induction ws generalizing vs with
  | nil => cases h; exact .nil
  | cons w ws ih => cases h with | cons a t => exact .cons (.v a) (ih t)
theorem RRs.vals {F : Fx} {g : Gd} {H : Hp} {rs : List R} {vs : List V} (h : RRs F g H rs vs) {ws : List W} (e : AM.vals rs = some ws) : RWs F g.Z H ws vs := by
  induction h generalizing ws with
  | nil => simp [AM.vals, mapO] at e; subst e; exact .nil
  | @cons r v rs vs a t ih =>
    cases a with
    | @v w v x =>
      simp only [AM.vals, mapO, valO, Option.map_eq_some_iff] at e
      obtain ⟨ws', e1, rfl⟩ := e
      exact .cons x (ih e1)
    | r _ => simp [AM.vals, mapO, valO] at e
theorem RRs.get {F : Fx} {g : Gd} {H : Hp} {rs : List R} {vs : List V} (h : RRs F g H rs vs) {i : Nat} {r : R} (e : rs[i]? = some r) : ∃ v, vs[i]? = some v ∧ RR F g H r v := by
  induction h generalizing i with
  | nil => simp at e
  | cons a _ ih =>
    cases i with
    | zero => simp at e; subst e; exact ⟨_, rfl, a⟩
    | succ i => simpa using ih (by simpa using e)
theorem BO.mono {F : Fx} {g g' : Gd} {H H' : Hp} {a : Addr} {b : Box} (e : Ext g H g' H') (k : H' a = H a) (h : BO F g H a b) : BO F g' H' a b := by
  cases h with
  | lst q l r => exact .lst (k.trans q) l (r.mono e)
  | dct q s o1 o2 l d r n kk => exact .dct (k.trans q) s o1 o2 l (d.mono e.z fun a z => e.zk a z) (r.mono e) n kk
  | ins q f r => exact .ins (k.trans q) f (r.mono e)

/-- the machine's boxes stand in the heap -/
structure BxOk (F : Fx) (g : Gd) (bx : Bx) (H : Hp) : Prop where
  len : bx.length = g.al.length
  nd : g.al.Nodup
  at_ : ∀ (n : Nat) (a : Addr) (b : Box), g.al[n]? = some a → bx[n]? = some b → BO F g H a b
  free : ∀ a ∈ g.al, ¬ g.Z a
  trk : ∀ a, g.Z a → (H a).isSome
  tabs : ∀ p ∈ F.ca.T, TabA g H p.1 p.2
/-- a frame -/
def EnOk (F : Fx) (g : Gd) (en : En) (σ : L2.St) (H : Hp) : Prop := en.length = σ.length ∧ ∀ (i : Nat) (r : R), en[i]? = some (some r) → ∃ v, σ[i]? = some (some v) ∧ RR F g H r v
theorem EnOk.mono {F : Fx} {g g' : Gd} {H H' : Hp} {en : En} {σ : L2.St} (e : Ext g H g' H') (h : EnOk F g en σ H) : EnOk F g' en σ H' :=
  ⟨h.1, fun i r q => let ⟨v, a, b⟩ := h.2 i r q; ⟨v, a, b.mono e⟩⟩
theorem BxOk.alsome {F : Fx} {g : Gd} {bx : Bx} {H : Hp} (h : BxOk F g bx H) {a : Addr} (m : a ∈ g.al) : (H a).isSome := by
  obtain ⟨n, hn, e⟩ := List.mem_iff_getElem.mp m
  have e1 : g.al[n]? = some a := by rw [List.getElem?_eq_getElem hn, e]
  have hb : n < bx.length := by rw [h.len]; exact hn
  have := h.at_ n a bx[n] e1 (List.getElem?_eq_getElem hb)
  generalize bx[n] = bb at this
  cases this with
  | lst q _ _ => rw [q]; rfl
  | dct q _ _ _ _ _ _ _ _ => rw [q]; rfl
  | ins q _ _ => rw [q]; rfl

theorem BxOk.noTbl {F : Fx} {g : Gd} {bx : Bx} {H : Hp} (h : BxOk F g bx H) {a : Addr} (m : a ∈ g.al) (ps : Array Value) : H a ≠ some (.tbl ps) := by
  obtain ⟨n, hn, e⟩ := List.mem_iff_getElem.mp m
  have e1 : g.al[n]? = some a := by rw [List.getElem?_eq_getElem hn, e]
  have hb : n < bx.length := by rw [h.len]; exact hn
  have := h.at_ n a bx[n] e1 (List.getElem?_eq_getElem hb)
  generalize bx[n] = bb at this
  intro z
  cases this with
  | lst q _ _ => rw [q] at z; cases z
  | dct q _ _ _ _ _ _ _ _ => rw [q] at z; cases z
  | ins q _ _ => rw [q] at z; cases z
theorem BxOk.np {F : Fx} {g : Gd} {bx : Bx} {H : Hp} {p : Addr} (h : BxOk F g bx H) (hp : H p = none) : ∀ a, (H a).isSome → a ≠ p := fun a q e => by rw [e, hp] at q; cases q
theorem ext_new {g g' : Gd} {H : Hp} {p : Addr} {o : HO} (hp : H p = none) (hz : ∀ a, g.Z a → (H a).isSome) (z : ∀ a, g.Z a → g'.Z a) (zn : ∀ a, g'.Z a → g.Z a ∨ a = p) (al : ∃ t, g'.al = g.al ++ t ∧ ∀ a ∈ t, a = p) : Ext g H g' (upd H p o) := by
  have np : ∀ a, (H a).isSome → a ≠ p := fun a q e => by rw [e, hp] at q; cases q
  obtain ⟨t, e, ht⟩ := al
  refine ⟨z, fun a q => (zn a q).imp id fun e => by rw [e]; exact hp, ⟨t, e, fun a m => by rw [ht a m]; exact hp⟩, fun a q => upd_ne (np a (hz a q)), fun a q _ _ => upd_ne (np a q), fun a q => ?_⟩
  rw [upd_ne (np a q)]
  exact q
theorem tab_new {g g' : Gd} {H : Hp} {p : Addr} {o : HO} (hp : H p = none) (hz : ∀ a, g.Z a → (H a).isSome) (z : ∀ a, g.Z a → g'.Z a) (zn : ∀ a, g'.Z a → g.Z a ∨ a = p) {P : Addr} {q : Str} (t : TabA g H P q) : TabA g' (upd H p o) P q := by
  have np : ∀ a, (H a).isSome → a ≠ p := fun a q e => by rw [e, hp] at q; cases q
  obtain ⟨ps, h1⟩ := t.at
  have nP := np P (by rw [h1]; rfl)
  exact t.stay (upd_ne nP) z (fun y => (zn P y).resolve_right nP) fun a y => upd_ne (np a (hz a y))
/-- a new frozen object at p -/
def Gd.froze (g : Gd) (p : Addr) : Gd := { g with Z := fun a => g.Z a ∨ a = p }
theorem BxOk.frozen {F : Fx} {g : Gd} {bx : Bx} {H : Hp} {p : Addr} {o : HO} (h : BxOk F g bx H) (hp : H p = none) : Ext g H (g.froze p) (upd H p o) ∧ BxOk F (g.froze p) bx (upd H p o) := by
  have np := h.np hp
  have x : Ext g H (g.froze p) (upd H p o) := ext_new hp h.trk (fun _ z => .inl z) (fun _ z => z) ⟨[], by simp [Gd.froze], by simp⟩
  refine ⟨x, h.len, h.nd, fun n a b e1 e2 => (h.at_ n a b e1 e2).mono x (upd_ne (np a (h.alsome (List.mem_of_getElem? e1)))), fun a m z => ?_, fun a q => ?_, fun p m => tab_new (g' := g.froze _) hp h.trk (fun _ z => Or.inl z) (fun _ z => z) (h.tabs p m)⟩
  · rcases z with z | z
    · exact h.free a m z
    · exact np a (h.alsome m) z
  · by_cases e : a = p
    · subst e; rw [upd_same]; rfl
    · rw [upd_ne e]
      rcases q with q | q
      · exact h.trk a q
      · exact absurd q e
/-- a new box at p -/
def Gd.boxed (g : Gd) (p : Addr) : Gd := { g with al := g.al ++ [p] }
theorem BxOk.boxed {F : Fx} {g : Gd} {bx : Bx} {H : Hp} {p : Addr} {o : HO} {b : Box} (h : BxOk F g bx H) (hp : H p = none) (new : Ext g H (g.boxed p) (upd H p o) → BO F (g.boxed p) (upd H p o) p b) :
    Ext g H (g.boxed p) (upd H p o) ∧ BxOk F (g.boxed p) (bx ++ [b]) (upd H p o) := by
  have np := h.np hp
  have x : Ext g H (g.boxed p) (upd H p o) := ext_new hp h.trk (fun _ z => z) (fun _ z => .inl z) ⟨[p], rfl, by simp⟩
  refine ⟨x, by simp [Gd.boxed, h.len], ?_, fun n a b' e1 e2 => ?_, fun a m z => ?_, fun a q => ?_, fun p m => tab_new (g' := g.boxed _) hp h.trk (fun _ z => z) (fun _ z => Or.inl z) (h.tabs p m)⟩
  · refine List.nodup_append.mpr ⟨h.nd, by simp, fun a m b m' e => ?_⟩
    rw [List.mem_singleton] at m'
    exact np a (h.alsome m) (e.trans m')
  · have e1 : (g.al ++ [p])[n]? = some a := e1
    by_cases hn : n < g.al.length
    · rw [List.getElem?_append_left hn] at e1
      rw [List.getElem?_append_left (by rw [h.len]; exact hn)] at e2
      exact (h.at_ n a b' e1 e2).mono x (upd_ne (np a (h.alsome (List.mem_of_getElem? e1))))
    · have hn' : n = g.al.length := by
        have := (List.getElem?_eq_some_iff.mp e1).1
        simp at this
        omega
      subst hn'
      simp at e1
      rw [← h.len] at e2
      simp at e2
      subst e1
      subst e2
      exact new x
  · rcases List.mem_append.mp m with m | m
    · exact h.free a m z
    · rw [List.mem_singleton] at m
      subst m
      have := h.trk a z
      rw [hp] at this; cases this
  · rw [upd_ne (np a (h.trk a q))]
    exact h.trk a q
/-- a box changed -/
theorem BxOk.set {F : Fx} {g : Gd} {bx : Bx} {H : Hp} {n : Nat} {p : Addr} {o : HO} {b : Box} (h : BxOk F g bx H) (e : g.al[n]? = some p) (new : Ext g H g (upd H p o) → BO F g (upd H p o) p b) :
    Ext g H g (upd H p o) ∧ BxOk F g (bx.set n b) (upd H p o) := by
  have mp := List.mem_of_getElem? e
  have np : ∀ a, g.Z a → a ≠ p := fun a q z => by
    subst z
    exact h.free a mp q
  have x : Ext g H g (upd H p o) := by
    refine ⟨fun _ z => z, fun _ z => .inl z, ⟨[], by simp, by simp⟩, fun a q => upd_ne (np a q), fun a q na _ => upd_ne fun z => na (z ▸ mp), fun a q => ?_⟩
    by_cases z : a = p
    · subst z; rw [upd_same]; rfl
    · rw [upd_ne z]; exact q
  have tb : ∀ P q, TabA g H P q → TabA g (upd H p o) P q := fun P q t => by
    obtain ⟨ps, h1⟩ := t.at
    refine t.stay (upd_ne fun z => ?_) (fun _ z => z) id fun a y => upd_ne (np a y)
    subst z
    have hb : n < bx.length := by rw [h.len]; exact (List.getElem?_eq_some_iff.mp e).1
    have old := h.at_ n _ bx[n] e (List.getElem?_eq_getElem hb)
    generalize bx[n] = bb at old
    cases old with
    | lst q _ _ => rw [h1] at q; cases q
    | dct q _ _ _ _ _ _ _ _ => rw [h1] at q; cases q
    | ins q _ _ => rw [h1] at q; cases q
  refine ⟨x, by simp [h.len], h.nd, fun m a b' e1 e2 => ?_, h.free, fun a q => ?_, fun p m => tb _ _ (h.tabs p m)⟩
  · by_cases hm : m = n
    · subst hm
      rw [e] at e1
      cases e1
      have hb : m < bx.length := by
        have := (List.getElem?_eq_some_iff.mp e2).1
        simpa using this
      rw [List.getElem?_set_self hb] at e2
      cases e2
      exact new x
    · rw [List.getElem?_set_ne (Ne.symm hm)] at e2
      have na : a ≠ p := fun z => by
        subst z
        have l1 := (List.getElem?_eq_some_iff.mp e1).1
        have l2 := (List.getElem?_eq_some_iff.mp e).1
        have q1 := (List.getElem?_eq_some_iff.mp e1).2
        have q2 := (List.getElem?_eq_some_iff.mp e).2
        exact hm ((List.getElem_inj h.nd).mp (q1.trans q2.symm))
      exact (h.at_ m a b' e1 e2).mono x (upd_ne na)
  · rw [upd_ne (np a q)]
    exact h.trk a q
end AM
/-! text AmS1 -/
set_option Elab.async false
set_option linter.all false
set_option maxRecDepth 100000
set_option maxHeartbeats 2000000
/-! AmS1: what it is that a meaning is right of an expression; names, constants, displays, operators. -/
namespace AM
open PySem PySem.Spec PyProof.Rows L2

abbrev fx (X : Cx) (ca : Ca) : Fx := ⟨X.prog, X.w, X.K, ca⟩

/-- an error in the air: its class, its own dict -/
def XR (F : Fx) (g : Gd) (H : Hp) (w : W) (cls : Value) (d : Option Addr) : Prop :=
  ∃ c, cls = .ref (F.ca c) ∧ ((w = .exn c [] ∧ d = none) ∨ ∃ i a, w = .exn c [.int i] ∧ d = some a ∧ g.Z a ∧ H a = some (.xd [(("line" : Str), .int i)]))

def PostR (F : Fx) (g : Gd) (σ : L2.St) (H : Hp) (Wx : WX) (Q : VK) : Res → Prop
  | .ok r bx => ∀ g' H' v, Ext g H g' H' → BxOk F g' bx H' → RR F g' H' r v → Q v H'
  | .exc w bx => ∀ g' H' cls d, Ext g H g' H' → BxOk F g' bx H' → XR F g' H' w cls d → Wx cls d σ H'
  | .stuck => False
theorem PostR.ext {F : Fx} {g g1 : Gd} {σ : L2.St} {H H1 : Hp} {Wx : WX} {Q : VK} {r : Res} (e : Ext g H g1 H1) (h : PostR F g σ H Wx Q r) : PostR F g1 σ H1 Wx Q r := by
  cases r with
  | ok r bx => exact fun g' H' v e' b q => h g' H' v (e.trans e') b q
  | exc w bx => exact fun g' H' c d e' b q => h g' H' c d (e.trans e') b q
  | stuck => exact h

/-- the meaning m, in any frame and boxes that stand -/
def tM (F : Fx) (Wx : WX) (m : E) : TE := fun σ H Q => ∃ g en bx, EnOk F g en σ H ∧ BxOk F g bx H ∧ PostR F g σ H Wx Q (m en bx)
/-- .. with answers at hand -/
def tK (F : Fx) (Wx : WX) (k : List R → E) (vs : List V) : TE := fun σ H Q => ∃ g en bx rs, EnOk F g en σ H ∧ BxOk F g bx H ∧ RRs F g H rs vs ∧ PostR F g σ H Wx Q (k rs en bx)
/-- an operation that raises nothing -/
def PostO (F : Fx) (g : Gd) (H : Hp) (Q : VK) : Res → Prop
  | .ok r bx => ∀ g' H' v, Ext g H g' H' → BxOk F g' bx H' → RR F g' H' r v → Q v H'
  | _ => False
def tO (F : Fx) (f : Op) (vs : List V) (H : Hp) (Q : VK) : Prop := ∃ g bx rs, BxOk F g bx H ∧ RRs F g H rs vs ∧ PostO F g H Q (f rs bx)
/-- no way of an operation raises -/
def NoX (f : Op) : Prop := ∀ rs bx w bx', f rs bx ≠ .exc w bx'

structure SE (X : Cx) (ca : Ca) (m : E) (e : Expr) : Prop where
  pe : ∀ Wx : WX, Takes X Wx → PE X e (tM (fx X ca) Wx m)

theorem PE.imp {X : Cx} {e : Expr} {t t' : TE} (h : PE X e t) (q : ∀ σ H Q, t' σ H Q → t σ H Q) : PE X e t' := ⟨fun pins s σ H Q I h' => h.run pins s σ H Q I (q σ H Q h')⟩
theorem PT.imp {X : Cx} {e : Expr} {t t' : TT} (h : PT X e t) (q : ∀ σ H Q, t' σ H Q → t σ H Q) : PT X e t' := ⟨fun pins s σ H Q I h' => h.run pins s σ H Q I (q σ H Q h')⟩
theorem PA.imp {X : Cx} {es : List Expr} {t t' : TA} (h : PA X es t) (q : ∀ σ H Q, t' σ H Q → t σ H Q) : PA X es t' := ⟨fun pos pins s σ H Q I h' => h.run pos pins s σ H Q I (q σ H Q h')⟩

section
variable {F : Fx} {Wx : WX}
theorem tK_of {m : E} {σ : L2.St} {H : Hp} {Q : VK} (h : tM F Wx m σ H Q) : tK F Wx (fun _ => m) [] σ H Q := by
  obtain ⟨g, en, bx, a, b, c⟩ := h
  exact ⟨g, en, bx, [], a, b, .nil, c⟩
/-- the next part -/
theorem tK_bind {m : E} {k : List R → E} {vs : List V} {σ : L2.St} {H : Hp} {Q : VK} (h : tK F Wx (fun rs => eBind m fun r => k (rs ++ [r])) vs σ H Q) : tM F Wx m σ H fun v H1 => tK F Wx k (vs ++ [v]) σ H1 Q := by
  obtain ⟨g, en, bx, rs, a, b, c, p⟩ := h
  refine ⟨g, en, bx, a, b, ?_⟩
  show PostR F g σ H Wx _ (m en bx)
  have p : PostR F g σ H Wx Q (match m en bx with
    | .ok r bx' => k (rs ++ [r]) en bx'
    | .exc w bx' => .exc w bx'
    | .stuck => .stuck) := p
  cases e : m en bx with
  | ok r bx' =>
    rw [e] at p
    exact fun g' H' v e' b' q => ⟨g', en, bx', rs ++ [r], a.mono e', b', (c.mono e').append (.cons q .nil), PostR.ext e' p⟩
  | exc w bx' =>
    rw [e] at p
    exact p
  | stuck =>
    rw [e] at p
    exact p
theorem tK_op {f : Op} {vs : List V} {σ : L2.St} {H : Hp} {Q : VK} (n : NoX f) (h : tK F Wx (fun rs _ bx => f rs bx) vs σ H Q) : tO F f vs H Q := by
  obtain ⟨g, en, bx, rs, a, b, c, p⟩ := h
  refine ⟨g, bx, rs, b, c, ?_⟩
  have p : PostR F g σ H Wx Q (f rs bx) := p
  cases e : f rs bx with
  | ok r bx' => rw [e] at p; exact p
  | exc w bx' => exact absurd e (n rs bx w bx')
  | stuck => rw [e] at p; exact p
end

/-! ### names, constants -/
section
variable {X : Cx} {ca : Ca}
theorem se_var {i : Nat} {x : Str} {pos : Pos} (hN : X.N[i]? = some x) (hv : Vis X.env.scope x) (hd : (x == ("__debug__" : Str)) = false) (hcd : (x == ("__classdict__" : Str)) = false) : SE X ca (eVar i) (.Name x pos) := ⟨fun Wx _ =>
  PE.imp (pe_var hN hv hd hcd) fun σ H Q ⟨g, en, bx, a, b, p⟩ => by
    have p : PostR (fx X ca) g σ H Wx Q (match en[i]? with
      | some (some r) => .ok r bx
      | _ => .stuck) := p
    split at p
    · rename_i r e
      obtain ⟨v, e1, r1⟩ := a.2 i r e
      exact ⟨v, e1, p g H v (Ext.refl g H) b r1⟩
    · exact p.elim⟩
theorem se_const {e : Expr} {v : V} {w : W} (h : PE X e (tC v)) (r : ∀ Z H, RW (fx X ca) Z H w v) : SE X ca (eC w) e := ⟨fun Wx _ =>
  PE.imp h fun σ H Q ⟨g, en, bx, a, b, p⟩ => p g H v (Ext.refl g H) b (.v (r _ _))⟩
theorem se_int {i j pos} : SE X ca (eC (.int i)) (.Constant (.int i) j pos) := se_const pe_int fun _ _ => .int i
theorem se_bl {b j pos} : SE X ca (eC (.bl b)) (.Constant (.bool b) j pos) := se_const pe_bl fun _ _ => .bl b
theorem se_non {j pos} : SE X ca (eC .non) (.Constant .none j pos) := se_const pe_non fun _ _ => .non
theorem se_str {x j pos} : SE X ca (eC (.str x)) (.Constant (.str x) j pos) := se_const pe_str fun _ _ => .str x
end

/-! ### argument lists -/
/-- as eArgs, the answers so far ahead -/
def argsK (as : List (Bool × E)) (k : List R → E) (rs : List R) : E := eArgs as fun xs => k (rs ++ xs)
structure SA (X : Cx) (ca : Ca) (as : List (Bool × E)) (es : List Expr) : Prop where
  pa : ∀ (Wx : WX) (k : List R → E) (vs : List V), Takes X Wx → PA X es fun σ H Q => ∃ Q0, tK (fx X ca) Wx (argsK as k) vs σ H Q0 ∧ ∀ xs H1, tK (fx X ca) Wx k (vs ++ xs) σ H1 Q0 → Q xs H1
section
variable {X : Cx} {ca : Ca} {e : Expr} {es : List Expr} {m : E} {as : List (Bool × E)}
theorem sa_nil : SA X ca [] [] := ⟨fun Wx k vs _ => PA.imp pa_nil fun σ H Q ⟨Q0, h, q⟩ => by
  refine q [] H ?_
  obtain ⟨g, en, bx, rs, a, b, c, p⟩ := h
  refine ⟨g, en, bx, rs, a, b, by rw [List.append_nil]; exact c, ?_⟩
  have p : PostR (fx X ca) g σ H Wx Q0 (k (rs ++ []) en bx) := p
  rw [List.append_nil] at p
  exact p⟩
theorem sa_cons (hs : starEach (e :: es) X.env = (false, eval e X.env) :: starEach es X.env) (he : SE X ca m e) (hr : SA X ca as es) : SA X ca ((false, m) :: as) (e :: es) := ⟨fun Wx k vs tk => by
  refine PA.imp (t := fun σ H Q => ∃ v0 : List V, True ∧ ∃ Q0, tM (fx X ca) Wx m σ H (fun v H1 => tK (fx X ca) Wx (argsK as k) (vs ++ [v]) σ H1 Q0) ∧ ∀ xs H1, tK (fx X ca) Wx k (vs ++ xs) σ H1 Q0 → Q xs H1) ?_ ?_
  · refine ⟨fun pos pins s σ H Q I ⟨_, _, Q0, h, q⟩ => ?_⟩
    rw [hs]
    show wpAny _ _ (spliced ((false, eval e X.env) :: backTo pos (starEach es X.env))) _ _ s
    refine Calls.spliced_cons (thn ((he.pe Wx tk).run pins s σ H _ I h) fun u s1 ⟨x, H1, I1, r1, q1⟩ => ?_)
    refine thn ((hr.pa Wx k (vs ++ [x]) tk).run pos pins s1 σ H1 (fun xs H2 => Q (x :: xs) H2) I1 ⟨Q0, q1, fun xs H2 h2 => q (x :: xs) H2 (by
      have e1 : vs ++ [x] ++ xs = vs ++ x :: xs := by simp
      rw [e1] at h2
      exact h2)⟩) fun us s2 ⟨xs, H2, I2, r2, q2⟩ => ⟨x :: xs, H2, I2, .cons r1 r2, q2⟩
  · intro σ H Q ⟨Q0, h, q⟩
    refine ⟨[], trivial, Q0, tK_bind (k := argsK as k) ?_, q⟩
    obtain ⟨g, en, bx, rs, a, b, c, p⟩ := h
    refine ⟨g, en, bx, rs, a, b, c, ?_⟩
    have e1 : argsK ((false, m) :: as) k rs = eBind m fun r => argsK as k (rs ++ [r]) := by
      show (eBind m fun x => eArgs as fun xs => k (rs ++ x :: xs)) = _
      congr 1
      funext x
      unfold argsK
      congr 1
      funext xs
      congr 1
      simp
    rw [e1] at p
    exact p⟩
theorem RR.seq {F : Fx} {g : Gd} {bx : Bx} {H : Hp} {r : R} {v : V} {xs : List R} (b : BxOk F g bx H) (h : RR F g H r v) (e : itS bx r = some xs) : ∃ a vs, v = .ref a ∧ (SqT F.K H a vs ∨ H a = some (.lst vs)) ∧ vs.length ≤ sizeLine ∧ RRs F g H xs vs := by
  cases h with
  | @v w v h =>
    cases h with
    | tup p l rs =>
      simp only [itS, Option.some.injEq] at e
      subst e
      exact ⟨_, _, rfl, .inl (p.elim (fun z => .inl z.2) (fun z => z.elim (fun q => q.elim (fun t => nomatch t) fun ⟨_, t⟩ => nomatch t) .inr)), l, .of rs⟩
    | lst z q l rs =>
      simp only [itS, itL, Option.some.injEq] at e
      subst e
      exact ⟨_, _, rfl, .inr q, l, .of rs⟩
    | _ => simp [itS, itL] at e
  | @r n a q =>
    simp only [itS, itL] at e
    have hn : n < bx.length := by
      rw [b.len]
      exact (List.getElem?_eq_some_iff.mp q).1
    cases hb : bx[n]? with
    | none => rw [hb] at e; simp at e
    | some bb =>
      rw [hb] at e
      have := b.at_ n a bb q hb
      cases this with
      | lst q l rs => simp at e; subst e; exact ⟨_, _, rfl, .inr q, l, rs⟩
      | dct _ _ _ _ _ _ _ _ _ => simp at e
      | ins _ _ _ => simp at e
theorem RR.lst {F : Fx} {g : Gd} {bx : Bx} {H : Hp} {r : R} {v : V} {xs : List R} (b : BxOk F g bx H) (h : RR F g H r v) (e : itL bx r = some xs) : ∃ a vs, v = .ref a ∧ H a = some (.lst vs) ∧ vs.length ≤ sizeLine ∧ RRs F g H xs vs := by
  cases h with
  | @v w v h =>
    cases h with
    | lst z q l rs =>
      simp only [itL, Option.some.injEq] at e
      subst e
      exact ⟨_, _, rfl, q, l, .of rs⟩
    | _ => simp [itL] at e
  | @r n a q =>
    simp only [itL] at e
    cases hb : bx[n]? with
    | none => rw [hb] at e; simp at e
    | some bb =>
      rw [hb] at e
      have := b.at_ n a bb q hb
      cases this with
      | lst q l rs => simp at e; subst e; exact ⟨_, _, rfl, q, l, rs⟩
      | dct _ _ _ _ _ _ _ _ _ => simp at e
      | ins _ _ _ => simp at e
theorem sa_star {p : Pos} (hs : starEach (.Starred e p :: es) X.env = (true, eval e X.env) :: starEach es X.env) (he : SE X ca m e) (hr : SA X ca as es) : SA X ca ((true, m) :: as) (.Starred e p :: es) := ⟨fun Wx k vs tk => by
  refine ⟨fun pos pins s σ H Q I ⟨Q0, h, q⟩ => ?_⟩
  have h' : tM (fx X ca) Wx m σ H fun v H1 => ∃ a ys, v = .ref a ∧ (SqT X.K H1 a ys ∨ SqL X.K H1 a ys) ∧ tK (fx X ca) Wx (argsK as k) (vs ++ ys) σ H1 Q0 := by
    obtain ⟨g, en, bx, rs, a, b, c, pp⟩ := h
    refine ⟨g, en, bx, a, b, ?_⟩
    have pp : PostR (fx X ca) g σ H Wx Q0 (match m en bx with
      | .ok x bx' => (match itS bx' x with
        | some ys => eArgs as (fun xs => k (rs ++ (ys ++ xs))) en bx'
        | none => .stuck)
      | .exc w bx' => .exc w bx'
      | .stuck => .stuck) := pp
    cases e1 : m en bx with
    | ok r bx' =>
      rw [e1] at pp
      intro g' H' v e' b' r'
      simp only at pp
      cases e2 : itS bx' r with
      | none => rw [e2] at pp; exact pp.elim
      | some ys =>
        rw [e2] at pp
        obtain ⟨a1, ys', rfl, hy, _, ry⟩ := r'.seq b' e2
        refine ⟨a1, ys', rfl, hy.imp id .of, g', en, bx', rs ++ ys, a.mono e', b', (c.mono e').append ry, ?_⟩
        have e3 : argsK as k (rs ++ ys) = eArgs as (fun xs => k (rs ++ (ys ++ xs))) := by
          unfold argsK
          congr 1
          funext xs
          rw [List.append_assoc]
        rw [e3]
        exact PostR.ext e' pp
    | exc w bx' => rw [e1] at pp; exact pp
    | stuck => rw [e1] at pp; exact pp
  refine PySem.W.items_star (thn ((he.pe Wx tk).run pins s σ H _ I h') fun v s1 ⟨y, H1, I1, ry, a1, ys, ey, hx, q1⟩ => ?_) hs
  subst ey
  obtain rfl : v = Value.ref a1 := ry
  refine StX.star_any I1 hx fun us s2 I2 rv => ?_
  refine thn ((hr.pa Wx k (vs ++ ys) tk).run pos pins s2 σ H1 (fun xs H2 => Q (ys ++ xs) H2) I2 ⟨Q0, q1, fun xs H2 h2 => q (ys ++ xs) H2 (by rw [← List.append_assoc]; exact h2)⟩) fun ws s3 ⟨xs, H3, I3, r3, q3⟩ => ⟨ys ++ xs, H3, I3, rv.append r3, q3⟩⟩

/-- a display's items, then what is made of them -/
theorem SA.all {Wx : WX} {k : List R → E} (h : SA X ca as es) (tk : Takes X Wx) {t : TA} (ht : ∀ σ H Q, t σ H Q → ∃ Q0, tM (fx X ca) Wx (eArgs as k) σ H Q0 ∧ ∀ xs H1, tK (fx X ca) Wx k xs σ H1 Q0 → Q xs H1) : PA X es t :=
  PA.imp (h.pa Wx k [] tk) fun σ H Q h1 => by
    obtain ⟨Q0, h2, q⟩ := ht σ H Q h1
    obtain ⟨g, en, bx, a, b, c⟩ := h2
    exact ⟨Q0, ⟨g, en, bx, [], a, b, .nil, c⟩, fun xs H1 h3 => q xs H1 h3⟩
end
end AM
/-! text AmS2 -/
set_option Elab.async false
set_option linter.all false
set_option maxRecDepth 100000
set_option maxHeartbeats 2000000
/-! AmS2: displays, operators, comparisons, truth. -/
namespace AM
open PySem PySem.Spec PyProof.Rows L2

theorem SL_eq : SL = sizeLine := by rw [sizeLine_eq]; rfl
section
variable {F : Fx} {g : Gd} {bx : Bx} {H : Hp}
/-- a new tuple at p -/
theorem mkT_ok {rs : List R} {vs : List V} {Q : VK} (b : BxOk F g bx H) (r : RRs F g H rs vs) (h : PostO F g H Q (mkT rs bx)) : vs.length ≤ sizeLine ∧ ∀ p, H p = none → Q (.ref p) (upd H p (.tup vs)) := by
  unfold mkT at h
  split at h
  · rename_i hl
    rw [SL_eq, r.length] at hl
    refine ⟨hl, fun p hp => ?_⟩
    cases e : AM.vals rs with
    | none => rw [e] at h; exact h.elim
    | some ws =>
      rw [e] at h
      obtain ⟨x, b'⟩ := b.frozen (o := .tup vs) hp
      exact h _ _ _ x b' (.v (.tup (.inl ⟨.inr rfl, .inl upd_same⟩) hl ((r.vals e).mono x.z fun a z => x.zk a z)))
  · exact h.elim
/-- a new list at p, frozen or a box -/
theorem mkL_ok {m : Bool} {rs : List R} {vs : List V} {Q : VK} (b : BxOk F g bx H) (r : RRs F g H rs vs) (h : PostO F g H Q (mkL m rs bx)) : vs.length ≤ sizeLine ∧ ∀ p, H p = none → Q (.ref p) (upd H p (.lst vs)) := by
  unfold mkL at h
  split at h
  · rename_i hl
    rw [SL_eq, r.length] at hl
    refine ⟨hl, fun p hp => ?_⟩
    cases m with
    | true =>
      simp only [if_true] at h
      obtain ⟨x, b'⟩ := b.boxed (o := .lst vs) (b := .lst rs) hp fun x => .lst upd_same hl (r.mono x)
      refine h _ _ _ x b' (.r ?_)
      show (g.al ++ [p])[bx.length]? = some p
      rw [b.len]
      simp
    | false =>
      simp only [Bool.false_eq_true, if_false] at h
      cases e : AM.vals rs with
      | none => rw [e] at h; exact h.elim
      | some ws =>
        rw [e] at h
        obtain ⟨x, b'⟩ := b.frozen (o := .lst vs) hp
        exact h _ _ _ x b' (.v (.lst (.inr rfl) upd_same hl ((r.vals e).mono x.z fun a z => x.zk a z)))
  · exact h.elim
end
theorem noX_mkT : NoX mkT := by
  intro rs bx w bx' h
  unfold mkT at h
  split at h
  · split at h <;> cases h
  · cases h
theorem noX_mkL (m : Bool) : NoX (mkL m) := by
  intro rs bx w bx' h
  unfold mkL at h
  split at h
  · split at h
    · cases h
    · split at h <;> cases h
  · cases h

section
variable {X : Cx} {ca : Ca} {es : List Expr} {as : List (Bool × E)} {pos : Pos}
theorem se_tup {x1} (h : SA X ca as es) : SE X ca (eTup as) (.Tuple es x1 pos) := ⟨fun Wx tk =>
  PE.imp (pe_tup (h.all (k := fun xs _ bx => mkT xs bx) tk (t := fun σ H Q => ∃ Q0, tM (fx X ca) Wx (eTup as) σ H Q0 ∧ ∀ xs H1, tK (fx X ca) Wx (fun xs _ bx => mkT xs bx) xs σ H1 Q0 → Q xs H1) fun σ H Q x => x)) fun σ H Q x =>
    ⟨Q, x, fun xs H1 y => by
      obtain ⟨g, bx, rs, b, r, p⟩ := tK_op noX_mkT y
      exact mkT_ok b r p⟩⟩
theorem se_lst {m : Bool} (h : SA X ca as es) : SE X ca (eLst m as) (.List es pos) := ⟨fun Wx tk =>
  PE.imp (pe_lst (h.all (k := fun xs _ bx => mkL m xs bx) tk (t := fun σ H Q => ∃ Q0, tM (fx X ca) Wx (eLst m as) σ H Q0 ∧ ∀ xs H1, tK (fx X ca) Wx (fun xs _ bx => mkL m xs bx) xs σ H1 Q0 → Q xs H1) fun σ H Q x => x)) fun σ H Q x =>
    ⟨Q, x, fun xs H1 y => by
      obtain ⟨g, bx, rs, b, r, p⟩ := tK_op (noX_mkL m) y
      exact mkL_ok b r p⟩⟩

/-! ### two-place operations -/
variable {a b : Expr} {ma mb : E}
theorem eAll2 {ma mb : E} {f : Op} : eOp [ma, mb] f = eBind ma fun x => eBind mb fun y => fun _ bx => f [x, y] bx := rfl
theorem tM2 {F : Fx} {Wx : WX} {f : Op} {σ : L2.St} {H : Hp} {Q : VK} (n : NoX f) (h : tM F Wx (eOp [ma, mb] f) σ H Q) : tM F Wx ma σ H fun x H1 => tM F Wx mb σ H1 fun y H2 => tO F f [x, y] H2 Q := by
  obtain ⟨g, en, bx, a, b, c⟩ := h
  refine ⟨g, en, bx, a, b, ?_⟩
  have c : PostR F g σ H Wx Q (match ma en bx with
    | .ok r bx' => (match mb en bx' with
      | .ok r2 bx2 => f [r, r2] bx2
      | .exc w bx2 => .exc w bx2
      | .stuck => .stuck)
    | .exc w bx' => .exc w bx'
    | .stuck => .stuck) := c
  cases e : ma en bx with
  | ok r bx' =>
    rw [e] at c
    intro g' H' v e' b' r'
    refine ⟨g', en, bx', a.mono e', b', ?_⟩
    have c := PostR.ext e' c
    simp only at c
    cases e2 : mb en bx' with
    | ok r2 bx2 =>
      rw [e2] at c
      intro g2 H2 v2 e2' b2 r2'
      refine tK_op n ⟨g2, en, bx2, [r, r2], (a.mono e').mono e2', b2, .cons (r'.mono e2') (.cons r2' .nil), PostR.ext e2' c⟩
    | exc w bx' => rw [e2] at c; exact c
    | stuck => rw [e2] at c; exact c
  | exc w bx' => rw [e] at c; exact c
  | stuck => rw [e] at c; exact c
theorem se_op2 {op : Operator} {f : Op} (n : NoX f) (ho : OpR X (binaryOp op) fun x y H Q => tO (fx X ca) f [x, y] H Q) (ha : SE X ca ma a) (hb : SE X ca mb b) : SE X ca (eOp [ma, mb] f) (.BinOp a op b pos) := ⟨fun Wx tk =>
  PE.imp (pe_op ho (ha.pe Wx tk) (hb.pe Wx tk)) fun σ H Q x => tM2 n x⟩
/-- one -/
theorem tM1 {F : Fx} {Wx : WX} {f : Op} {σ : L2.St} {H : Hp} {Q : VK} (n : NoX f) (h : tM F Wx (eOp [ma] f) σ H Q) : tM F Wx ma σ H fun x H1 => tO F f [x] H1 Q := by
  obtain ⟨g, en, bx, a, b, c⟩ := h
  refine ⟨g, en, bx, a, b, ?_⟩
  have c : PostR F g σ H Wx Q (match ma en bx with
    | .ok r bx' => f [r] bx'
    | .exc w bx' => .exc w bx'
    | .stuck => .stuck) := c
  cases e : ma en bx with
  | ok r bx' =>
    rw [e] at c
    exact fun g' H' v e' b' r' => tK_op n ⟨g', en, bx', [r], a.mono e', b', .cons r' .nil, PostR.ext e' c⟩
  | exc w bx' => rw [e] at c; exact c
  | stuck => rw [e] at c; exact c
end

/-- an operation's answer that is known -/
theorem tO_ok {F : Fx} {f : Op} {vs : List V} {H : Hp} {Q : VK} (h : tO F f vs H Q) : ∃ g bx rs r bx', BxOk F g bx H ∧ RRs F g H rs vs ∧ f rs bx = .ok r bx' ∧ ∀ g' H' v, Ext g H g' H' → BxOk F g' bx' H' → RR F g' H' r v → Q v H' := by
  obtain ⟨g, bx, rs, b, r, p⟩ := h
  cases e : f rs bx with
  | ok r' bx' => rw [e] at p; exact ⟨g, bx, rs, r', bx', b, r, e, p⟩
  | exc w bx' => rw [e] at p; exact p.elim
  | stuck => rw [e] at p; exact p.elim
theorem RRs.two {F : Fx} {g : Gd} {H : Hp} {rs : List R} {x y : V} (h : RRs F g H rs [x, y]) : ∃ a b, rs = [a, b] ∧ RR F g H a x ∧ RR F g H b y := by
  cases h with
  | cons r t => cases t with | cons r' t' => cases t'; exact ⟨_, _, rfl, r, r'⟩
theorem RRs.one {F : Fx} {g : Gd} {H : Hp} {rs : List R} {x : V} (h : RRs F g H rs [x]) : ∃ a, rs = [a] ∧ RR F g H a x := by
  cases h with
  | cons r t => cases t; exact ⟨_, rfl, r⟩
theorem RRs.three {F : Fx} {g : Gd} {H : Hp} {rs : List R} {x y z : V} (h : RRs F g H rs [x, y, z]) : ∃ a b c, rs = [a, b, c] ∧ RR F g H a x ∧ RR F g H b y ∧ RR F g H c z := by
  cases h with
  | cons r t => cases t with | cons r' t' => cases t' with | cons r2 t2 => cases t2; exact ⟨_, _, _, rfl, r, r', r2⟩

theorem i64_ok {i : Int} (h : i64 i = true) : -(2 ^ 64) < i ∧ i < 2 ^ 64 := by
  unfold i64 at h
  simpa using h
theorem RW.sqT {F : Fx} {Z : Addr → Prop} {H : Hp} {a : Addr} {vs : List V} (p : (Z a ∧ Rd H a (.tup vs)) ∨ KT F.K a vs) : SqT F.K H a vs :=
  p.elim (fun z => .inl z.2) fun z => z.elim (fun q => q.elim (fun t => nomatch t) fun ⟨_, t⟩ => nomatch t) .inr
theorem noX_bin (o : Bop) (m : Bool) : NoX (opBin o m) := by
  intro rs bx w bx' h
  unfold opBin at h
  split at h
  · cases o <;> simp only [binR] at h
    · unfold addR at h
      repeat' split at h
      all_goals first
        | cases h
        | exact noX_mkL m _ _ _ _ h
    · unfold arR at h
      repeat' split at h
      all_goals cases h
    · unfold mulR at h
      repeat' split at h
      all_goals first
        | cases h
        | exact noX_mkL m _ _ _ _ h
    all_goals
      unfold arR at h
      repeat' split at h
      all_goals cases h
  · cases h
section
variable {X : Cx} {ca : Ca} {m : Bool}
theorem op_add : OpR X (binaryOp .Add) fun x y H Q => tO (fx X ca) (opBin .add m) [x, y] H Q := by
  intro pins s σ H x y v u Q I rx ry ⟨g, bx, rs, b, rr, p⟩
  obtain ⟨r1, r2, rfl, h1, h2⟩ := rr.two
  replace p : PostO (fx X ca) g H Q (addR m r1 r2 bx) := p
  unfold addR at p
  split at p
  · cases h1 with | v h1 => cases h1; cases h2 with | v h2 => cases h2; exact L2.op_add pins s σ H _ _ v u Q I rx ry ⟨_, _, rfl, rfl, p g H _ (Ext.refl g H) b (.v (.int _))⟩
  · cases h1 with | v h1 => cases h1; cases h2 with | v h2 =>
      cases h2
      split at p
      · rename_i hl
        exact op_add_str pins s σ H _ _ v u Q I rx ry ⟨_, _, rfl, rfl, by rw [← SL_eq]; exact hl, p g H _ (Ext.refl g H) b (.v (.str _))⟩
      · exact p.elim
  · rename_i ws1 ws2
    split at p
    · rename_i hl
      cases h1 with
      | v h1 => cases h1 with
        | @tup _ a1 vs1 p1 l1 q1 => cases h2 with
          | v h2 => cases h2 with
            | @tup _ a2 vs2 p2 l2 q2 =>
              have e1 := q1.length
              have e2 := q2.length
              have z : vs1.length + vs2.length ≤ sizeLine := by rw [← SL_eq, ← e1, ← e2]; exact hl
              refine op_catA pins s σ H _ _ v u Q I rx ry ⟨a1, a2, vs1, vs2, rfl, rfl, RW.sqT p1, RW.sqT p2, z, fun n1 => ?_, fun _ n2 => ?_, fun _ _ pp hp => ?_⟩
              · subst n1
                have : ws1 = [] := List.eq_nil_of_length_eq_zero (by rw [e1]; rfl)
                subst this
                exact p g H _ (Ext.refl g H) b (.v (.tup p2 l2 q2))
              · subst n2
                have : ws2 = [] := List.eq_nil_of_length_eq_zero (by rw [e2]; rfl)
                subst this
                rw [List.append_nil] at p
                exact p g H _ (Ext.refl g H) b (.v (.tup p1 l1 q1))
              · obtain ⟨x, b'⟩ := b.frozen (o := .tup (vs1 ++ vs2)) hp
                refine p _ _ _ x b' (.v (.tup (.inl ⟨.inr rfl, .inl upd_same⟩) (by rw [List.length_append]; exact z) ?_))
                exact (q1.append q2).mono x.z fun a z => x.zk a z
    · exact p.elim
  · split at p
    · rename_i xs e1
      split at p
      · rename_i ys e2
        obtain ⟨a1, v1, rfl, q1, _, t1⟩ := h1.lst b e1
        obtain ⟨a2, v2, rfl, q2, _, t2⟩ := h2.lst b e2
        obtain ⟨z, new⟩ := mkL_ok b (t1.append t2) p
        exact op_cat pins s σ H _ _ v u Q I rx ry ⟨a1, a2, v1, v2, rfl, rfl, q1, q2, by rw [← List.length_append]; exact z, new⟩
      · exact p.elim
    · exact p.elim
theorem RRs.rep {F : Fx} {g : Gd} {H : Hp} {rs : List R} {vs : List V} (h : RRs F g H rs vs) : ∀ k : Nat, RRs F g H (List.replicate k rs).flatten (List.replicate k vs).flatten
  | 0 => .nil
  | k + 1 => by
    rw [List.replicate_succ, List.replicate_succ, List.flatten_cons, List.flatten_cons]
    exact h.append (RRs.rep h k)
theorem op_mul : OpR X (binaryOp .Mult) fun x y H Q => tO (fx X ca) (opBin .mul m) [x, y] H Q := by
  intro pins s σ H x y v u Q I rx ry ⟨g, bx, rs, b, rr, p⟩
  obtain ⟨r1, r2, rfl, h1, h2⟩ := rr.two
  replace p : PostO (fx X ca) g H Q (mulR m r1 r2 bx) := p
  unfold mulR at p
  split at p
  · rename_i k
    cases h2 with | v h2 =>
    cases h2
    split at p
    · rename_i i
      cases h1 with | v h1 =>
      cases h1
      split at p
      · rename_i c
        refine L2.op_mul pins s σ H _ _ v u Q I rx ry ⟨_, _, rfl, rfl, ?_, p g H _ (Ext.refl g H) b (.v (.int _))⟩
        rw [Bool.or_eq_true] at c
        exact c.imp i64_ok i64_ok
      · exact p.elim
    · split at p
      · rename_i xs e1
        split at p
        · rename_i hk
          obtain ⟨a1, v1, rfl, q1, _, t1⟩ := h1.lst b e1
          obtain ⟨z, new⟩ := mkL_ok b (t1.rep k.toNat) p
          refine op_rep pins s σ H _ _ v u Q I rx ry ⟨a1, k, v1, rfl, rfl, q1, by omega, by omega, ?_, new⟩
          have e : (List.replicate k.toNat v1).flatten.length = v1.length * k.toNat := by simp [Nat.mul_comm]
          rw [← e]
          exact z
        · exact p.elim
      · exact p.elim
  · exact p.elim
theorem arR_int {o : Bop} {r1 r2 : R} {x y : V} {g : Gd} {bx : Bx} {H : Hp} {Q : VK} (b : BxOk (fx X ca) g bx H) (h1 : RR (fx X ca) g H r1 x) (h2 : RR (fx X ca) g H r2 y) (p : PostO (fx X ca) g H Q (arR o r1 r2 bx)) : ∃ i j k, x = .int i ∧ y = .int j ∧ arI o i j = some k ∧ Q (.int k) H := by
  unfold arR at p
  split at p
  · rename_i i j
    cases h1 with | v h1 => cases h1; cases h2 with | v h2 =>
      cases h2
      split at p
      · rename_i k e
        exact ⟨i, j, k, rfl, rfl, e, p g H _ (Ext.refl g H) b (.v (.int _))⟩
      · exact p.elim
  · exact p.elim
theorem op_sub : OpR X (binaryOp .Sub) fun x y H Q => tO (fx X ca) (opBin .sub m) [x, y] H Q := by
  intro pins s σ H x y v u Q I rx ry ⟨g, bx, rs, b, rr, p⟩
  obtain ⟨r1, r2, rfl, h1, h2⟩ := rr.two
  obtain ⟨i, j, k, rfl, rfl, e, q⟩ := arR_int b h1 h2 (show PostO (fx X ca) g H Q (arR .sub r1 r2 bx) from p)
  simp only [arI, Option.some.injEq] at e
  subst e
  exact L2.op_sub pins s σ H _ _ v u Q I rx ry ⟨_, _, rfl, rfl, q⟩
theorem op_fdiv : OpR X (binaryOp .FloorDiv) fun x y H Q => tO (fx X ca) (opBin .fdiv m) [x, y] H Q := by
  intro pins s σ H x y v u Q I rx ry ⟨g, bx, rs, b, rr, p⟩
  obtain ⟨r1, r2, rfl, h1, h2⟩ := rr.two
  obtain ⟨i, j, k, rfl, rfl, e, q⟩ := arR_int b h1 h2 (show PostO (fx X ca) g H Q (arR .fdiv r1 r2 bx) from p)
  simp only [arI] at e
  split at e
  · rename_i c
    cases e
    exact L2.op_fdiv pins s σ H _ _ v u Q I rx ry ⟨_, _, rfl, rfl, c, q⟩
  · cases e
theorem op_mod : OpR X (binaryOp .Mod) fun x y H Q => tO (fx X ca) (opBin .mod m) [x, y] H Q := by
  intro pins s σ H x y v u Q I rx ry ⟨g, bx, rs, b, rr, p⟩
  obtain ⟨r1, r2, rfl, h1, h2⟩ := rr.two
  obtain ⟨i, j, k, rfl, rfl, e, q⟩ := arR_int b h1 h2 (show PostO (fx X ca) g H Q (arR .mod r1 r2 bx) from p)
  simp only [arI] at e
  split at e
  · rename_i c
    cases e
    exact L2.op_mod pins s σ H _ _ v u Q I rx ry ⟨_, _, rfl, rfl, c, q⟩
  · cases e
theorem op_pow : OpR X (binaryOp .Pow) fun x y H Q => tO (fx X ca) (opBin .pow m) [x, y] H Q := by
  intro pins s σ H x y v u Q I rx ry ⟨g, bx, rs, b, rr, p⟩
  obtain ⟨r1, r2, rfl, h1, h2⟩ := rr.two
  obtain ⟨i, j, k, rfl, rfl, e, q⟩ := arR_int b h1 h2 (show PostO (fx X ca) g H Q (arR .pow r1 r2 bx) from p)
  simp only [arI] at e
  split at e
  · rename_i c
    cases e
    have z := i64_ok c.2.2
    exact L2.op_pow pins s σ H _ _ v u Q I rx ry ⟨_, _, rfl, rfl, ⟨c.1, c.2.1, by omega⟩, q⟩
  · cases e
def bopOf : Operator → Option Bop
  | .Add => some .add
  | .Sub => some .sub
  | .Mult => some .mul
  | .FloorDiv => some .fdiv
  | .Mod => some .mod
  | .Pow => some .pow
  | _ => none
theorem op_bin {o : Bop} {op : Operator} (e : bopOf op = some o) : OpR X (binaryOp op) fun x y H Q => tO (fx X ca) (opBin o m) [x, y] H Q := by
  cases op <;> simp [bopOf] at e <;> subst e
  · exact op_add
  · exact op_sub
  · exact op_mul
  · exact op_mod
  · exact op_pow
  · exact op_fdiv
theorem se_bin {o : Bop} {op : Operator} {a b : Expr} {ma mb : E} {pos : Pos} (e : bopOf op = some o) (ha : SE X ca ma a) (hb : SE X ca mb b) : SE X ca (eOp [ma, mb] (opBin o m)) (.BinOp a op b pos) := se_op2 (noX_bin o m) (op_bin e) ha hb
theorem se_neg {a : Expr} {ma : E} {pos : Pos} (ha : SE X ca ma a) : SE X ca (eOp [ma] opNeg) (.UnaryOp .USub a pos) := ⟨fun Wx tk =>
  PE.imp (pe_un un_neg (ha.pe Wx tk)) fun σ H Q x => by
    have n : NoX opNeg := by
      intro rs bx w bx' h
      unfold opNeg at h
      split at h <;> cases h
    obtain ⟨g, en, bx, a, b, c⟩ := tM1 n x
    refine ⟨g, en, bx, a, b, ?_⟩
    cases e : ma en bx with
    | ok r bx' =>
      rw [e] at c
      intro g' H' v e' b' r'
      obtain ⟨g2, bx2, rs, b2, rr, p⟩ := c g' H' v e' b' r'
      obtain ⟨r1, rfl, h1⟩ := rr.one
      unfold opNeg at p
      split at p
      · rename_i q
        injection q with q1 q2
        subst q1
        cases h1 with | v h1 =>
        cases h1
        exact ⟨_, rfl, p g2 H' _ (Ext.refl g2 H') b2 (.v (.int _))⟩
      · exact p.elim
    | exc w bx' => rw [e] at c; exact c
    | stuck => rw [e] at c; exact c⟩
end
end AM
/-! text AmS3 -/
set_option Elab.async false
set_option linter.all false
set_option maxRecDepth 100000
set_option maxHeartbeats 2000000
/-! AmS3: values seen as a whole; ==, in, is; truth. -/
namespace AM
open PySem PySem.Spec PyProof.Rows L2

abbrev Any : Addr → Prop := fun _ => True
section
variable {F : Fx} {g : Gd} {bx : Bx} {H : Hp}
theorem RW.any {Z : Addr → Prop} {w : W} {v : V} (h : RW F Z H w v) : RW F Any H w v := h.mono (fun _ _ => trivial) fun _ _ => rfl
theorem RWs.any {Z : Addr → Prop} {w : List W} {v : List V} (h : RWs F Z H w v) : RWs F Any H w v := h.mono (fun _ _ => trivial) fun _ _ => rfl
theorem mapO_ok {f : R → Option W} {P : R → V → Prop} {Z : Addr → Prop} {rs : List R} {vs : List V} {ws : List W} (h : RRs F g H rs vs) (k : ∀ r v w, RR F g H r v → f r = some w → RW F Z H w v) (e : mapO f rs = some ws) : RWs F Z H ws vs := by
  induction h generalizing ws with
  | nil => simp [mapO] at e; subst e; exact .nil
  | @cons r v rs vs a t ih =>
    unfold mapO at e
    split at e
    · rename_i y e1
      simp only [Option.map_eq_some_iff] at e
      obtain ⟨ws', e2, rfl⟩ := e
      exact .cons (k r v y a e1) (ih e2)
    · cases e
theorem view_ok (b : BxOk F g bx H) : ∀ (k : Nat) {r : R} {v : V} {w : W}, RR F g H r v → view bx k r = some w → RW F Any H w v
  | 0, r, v, w, h, e => by
    cases h with
    | v h => simp only [view, Option.some.injEq] at e; subst e; exact h.any
    | r _ => simp [view] at e
  | k + 1, r, v, w, h, e => by
    cases h with
    | v h => simp only [view, Option.some.injEq] at e; subst e; exact h.any
    | @r n a q =>
      simp only [view] at e
      split at e
      · rename_i xs hb
        have := b.at_ n a _ q hb
        cases this with
        | lst q l rs =>
          simp only [Option.map_eq_some_iff] at e
          obtain ⟨ws, e1, rfl⟩ := e
          exact .lst trivial q l (mapO_ok (P := fun _ _ => True) rs (fun r v w a e => view_ok b k a e) e1)
      · rename_i ks rs hb
        have := b.at_ n a _ q hb
        cases this with
        | dct q s o1 o2 l d r n kk =>
          simp only [Option.map_eq_some_iff] at e
          obtain ⟨ws, e1, rfl⟩ := e
          exact .dct (.inl ⟨trivial, q⟩) s o1 o2 l (d.mono (fun _ _ => trivial) fun _ _ => rfl) (mapO_ok (P := fun _ _ => True) r (fun r v w a e => view_ok b k a e) e1) n kk
      · rename_i c fs hb
        have := b.at_ n a _ q hb
        cases this with
        | ins q f r =>
          simp only [Option.map_eq_some_iff] at e
          obtain ⟨ws, e1, rfl⟩ := e
          exact .ins trivial q f (mapO_ok (P := fun _ _ => True) r (fun r v w a e => view_ok b k a e) e1)
      · cases e
end

/-! ### data -/
mutual
def W.dat : W → PyData
  | .bl b => .bool b
  | .int i => .int i
  | .str s => .str s
  | .tup xs => .tuple (W.dats xs)
  | .lst xs => .list (W.dats xs)
  | _ => .none
def W.dats : List W → List PyData
  | [] => []
  | x :: r => W.dat x :: W.dats r
end
mutual
theorem W.dat_lay : ∀ w : W, w.lay = true → w.dat.canLay0 = true
  | .non, _ => by simp [W.dat, PyData.canLay0]
  | .bl _, _ => by simp [W.dat, PyData.canLay0]
  | .int _, _ => by simp [W.dat, PyData.canLay0]
  | .str s, h => by
    simp only [W.lay] at h
    simp only [W.dat, PyData.canLay0, PyData.strOk]
    exact h
  | .tup xs, h => by simp only [W.lay] at h; simp only [W.dat, PyData.canLay0]; exact W.dats_lay xs h
  | .lst xs, h => by simp only [W.lay] at h; simp only [W.dat, PyData.canLay0]; exact W.dats_lay xs h
  | .dct _ _, h => by simp [W.lay] at h
  | .ins _ _ _, h => by simp [W.lay] at h
  | .exn _ _, h => by simp [W.lay] at h
  | .scr _, h => by simp [W.lay] at h
theorem W.dats_lay : ∀ ws : List W, W.lays ws = true → PyData.canLayAll0 (W.dats ws) = true
  | [], _ => by simp [W.dats, PyData.canLayAll0]
  | x :: r, h => by
    simp only [W.lays, Bool.and_eq_true] at h
    simp only [W.dats, PyData.canLayAll0, Bool.and_eq_true]
    exact ⟨W.dat_lay x h.1, W.dats_lay r h.2⟩
end
mutual
theorem W.dat_dp : ∀ w : W, w.lay = true → w.dat.depth = w.dp
  | .non, _ => by simp [W.dat, PyData.depth, W.dp]
  | .bl _, _ => by simp [W.dat, PyData.depth, W.dp]
  | .int _, _ => by simp [W.dat, PyData.depth, W.dp]
  | .str s, _ => by simp [W.dat, PyData.depth, W.dp]
  | .tup xs, h => by simp only [W.lay] at h; simp only [W.dat, PyData.depth, W.dp, W.dats_dp xs h]
  | .lst xs, h => by simp only [W.lay] at h; simp only [W.dat, PyData.depth, W.dp, W.dats_dp xs h]
  | .dct _ _, h => by simp [W.lay] at h
  | .ins _ _ _, h => by simp [W.lay] at h
  | .exn _ _, h => by simp [W.lay] at h
  | .scr _, h => by simp [W.lay] at h
theorem W.dats_dp : ∀ ws : List W, W.lays ws = true → PyData.depthAll (W.dats ws) = W.dps ws
  | [], _ => by simp [W.dats, PyData.depthAll, W.dps]
  | x :: r, h => by
    simp only [W.lays, Bool.and_eq_true] at h
    simp only [W.dats, PyData.depthAll, W.dps, W.dat_dp x h.1, W.dats_dp r h.2]
end
theorem W.shaped {w : W} (h : w.isDat = true) : SeqAt.shaped w.dat = true := by
  simp only [W.isDat, Bool.and_eq_true, decide_eq_true_eq] at h
  simp only [SeqAt.shaped, Bool.and_eq_true, decide_eq_true_eq]
  exact ⟨W.dat_lay w h.1, by rw [W.dat_dp w h.1]; exact h.2⟩
mutual
theorem W.pyeq_ok : ∀ a b : W, a.lay = true → b.lay = true → W.pyeq a b = PyData.eqv a.dat b.dat
  | .non, b, _, hb => by cases b <;> simp_all [W.pyeq, W.dat, PyData.eqv, W.lay]
  | .bl _, b, _, hb => by cases b <;> simp_all [W.pyeq, W.dat, PyData.eqv, W.lay]
  | .int _, b, _, hb => by cases b <;> simp_all [W.pyeq, W.dat, PyData.eqv, W.lay]
  | .str _, b, _, hb => by cases b <;> simp_all [W.pyeq, W.dat, PyData.eqv, W.lay]
  | .tup x, b, ha, hb => by
    cases b <;> simp_all [W.pyeq, W.dat, PyData.eqv, W.lay]
    exact W.pyeqs_ok x _ ha hb
  | .lst x, b, ha, hb => by
    cases b <;> simp_all [W.pyeq, W.dat, PyData.eqv, W.lay]
    exact W.pyeqs_ok x _ ha hb
  | .dct _ _, _, h, _ => by simp [W.lay] at h
  | .ins _ _ _, _, h, _ => by simp [W.lay] at h
  | .exn _ _, _, h, _ => by simp [W.lay] at h
  | .scr _, _, h, _ => by simp [W.lay] at h
theorem W.pyeqs_ok : ∀ a b : List W, W.lays a = true → W.lays b = true → W.pyeqs a b = PyData.eqvAll (W.dats a) (W.dats b)
  | [], b, _, _ => by cases b <;> simp [W.pyeqs, W.dats, PyData.eqvAll]
  | x :: r, b, ha, hb => by
    cases b with
    | nil => simp [W.pyeqs, W.dats, PyData.eqvAll]
    | cons y t =>
      simp only [W.lays, Bool.and_eq_true] at ha hb
      simp only [W.pyeqs, W.dats, PyData.eqvAll, W.pyeq_ok x y ha.1 hb.1, W.pyeqs_ok r t ha.2 hb.2]
end
section
variable {F : Fx} {Z : Addr → Prop} {H : Hp}
mutual
theorem RW.dp : ∀ {w : W} {v : V}, RW F Z H w v → w.lay = true → Dp F.K H v w.dat
  | _, _, .non, _ => .non
  | _, _, .bl b, _ => .bl b
  | _, _, .int i, _ => .int i
  | _, _, .str s, _ => .str s
  | _, _, .tup p l r, h => by simp only [W.lay] at h; exact .tup (RW.sqT p) (RWs.dp r h)
  | _, _, .lst z q l r, h => by simp only [W.lay] at h; exact .lst (.of q) (RWs.dp r h)
  | _, _, .scr _ _ _, h => by simp [W.lay] at h
  | _, _, .dct _ _ _ _ _ _ _ _ _, h => by simp [W.lay] at h
  | _, _, .ins _ _ _ _, h => by simp [W.lay] at h
  | _, _, .exn _ _, h => by simp [W.lay] at h
  | _, _, .exn1 _ _ _ _, h => by simp [W.lay] at h
theorem RWs.dp : ∀ {ws : List W} {vs : List V}, RWs F Z H ws vs → W.lays ws = true → DpAll F.K H vs (W.dats ws)
  | _, _, .nil, _ => .nil
  | _, _, .cons r t, h => by
    simp only [W.lays, Bool.and_eq_true] at h
    exact .cons (RW.dp r h.1) (RWs.dp t h.2)
end
end
theorem W.isDat_lay {w : W} (h : w.isDat = true) : w.lay = true := by
  simp only [W.isDat, Bool.and_eq_true] at h
  exact h.1

section
variable {X : Cx} {ca : Ca}
theorem okB_ok {F : Fx} {g : Gd} {bx : Bx} {H : Hp} {Q : VK} {c : Bool} (b : BxOk F g bx H) (p : PostO F g H Q (okB c bx)) : Q (.bl c) H := p g H _ (Ext.refl g H) b (.v (.bl c))
theorem eqR_ok {g : Gd} {bx : Bx} {H : Hp} {r1 r2 : R} {x y : V} {c : Bool} (b : BxOk (fx X ca) g bx H) (h1 : RR (fx X ca) g H r1 x) (h2 : RR (fx X ca) g H r2 y) (e : eqR bx r1 r2 = some c) :
    ∃ d e, Dp X.K H x d ∧ Dp X.K H y e ∧ SeqAt.shaped d = true ∧ SeqAt.shaped e = true ∧ PyData.eqv d e = c := by
  unfold eqR at e
  split at e
  · rename_i a b' e1 e2
    unfold eqW at e
    split at e
    · rename_i hd
      rw [Bool.and_eq_true] at hd
      cases e
      have l1 := W.isDat_lay hd.1
      have l2 := W.isDat_lay hd.2
      exact ⟨_, _, (view_ok b 9 h1 e1).dp l1, (view_ok b 9 h2 e2).dp l2, W.shaped hd.1, W.shaped hd.2, (W.pyeq_ok _ _ l1 l2).symm⟩
    · cases e
  · cases e
theorem op_eq (hu : X.A.units + 64 < cLine) : OpR X (compareOp .Eq) fun x y H Q => tO (fx X ca) (opCmp .eq) [x, y] H Q := by
  intro pins s σ H x y v u Q I rx ry ⟨g, bx, rs, b, rr, p⟩
  obtain ⟨r1, r2, rfl, h1, h2⟩ := rr.two
  replace p : PostO (fx X ca) g H Q (okO (eqR bx r1 r2) bx) := p
  unfold okO at p
  split at p
  · rename_i c e
    obtain ⟨d, e', a1, a2, a3, a4, a5⟩ := eqR_ok b h1 h2 e
    refine op_eqD hu pins s σ H _ _ v u Q I rx ry ⟨d, e', a1, a2, a3, a4, ?_⟩
    rw [a5]
    exact okB_ok b p
  · exact p.elim
theorem op_ne (hu : X.A.units + 64 < cLine) : OpR X (compareOp .NotEq) fun x y H Q => tO (fx X ca) (opCmp .ne) [x, y] H Q := by
  intro pins s σ H x y v u Q I rx ry ⟨g, bx, rs, b, rr, p⟩
  obtain ⟨r1, r2, rfl, h1, h2⟩ := rr.two
  replace p : PostO (fx X ca) g H Q (okO ((eqR bx r1 r2).map (!·)) bx) := p
  unfold okO at p
  split at p
  · rename_i c e
    simp only [Option.map_eq_some_iff] at e
    obtain ⟨c', e, rfl⟩ := e
    obtain ⟨d, e', a1, a2, a3, a4, a5⟩ := eqR_ok b h1 h2 e
    refine op_neD hu pins s σ H _ _ v u Q I rx ry ⟨d, e', a1, a2, a3, a4, ?_⟩
    rw [a5]
    exact okB_ok b p
  · exact p.elim
theorem RR.isNon {F : Fx} {g : Gd} {H : Hp} {r : R} {v : V} (h : RR F g H r v) : isNon r = decide (v = .non) := by
  cases h with
  | v h => cases h <;> simp [AM.isNon]
  | r _ => simp [AM.isNon]
theorem op_is : OpR X (compareOp .Is) fun x y H Q => tO (fx X ca) (opCmp .isN) [x, y] H Q := by
  intro pins s σ H x y v u Q I rx ry ⟨g, bx, rs, b, rr, p⟩
  obtain ⟨r1, r2, rfl, h1, h2⟩ := rr.two
  replace p : PostO (fx X ca) g H Q (okO (if isNon r2 then some (isNon r1) else none) bx) := p
  rw [h2.isNon, h1.isNon] at p
  by_cases c : y = .non
  · subst c
    simp only [decide_true, if_true] at p
    exact op_isN pins s σ H _ _ v u Q I rx ry ⟨rfl, okB_ok b p⟩
  · simp [c, okO] at p
    exact p.elim
theorem op_isnot : OpR X (compareOp .IsNot) fun x y H Q => tO (fx X ca) (opCmp .notN) [x, y] H Q := by
  intro pins s σ H x y v u Q I rx ry ⟨g, bx, rs, b, rr, p⟩
  obtain ⟨r1, r2, rfl, h1, h2⟩ := rr.two
  replace p : PostO (fx X ca) g H Q (okO (if isNon r2 then some (!isNon r1) else none) bx) := p
  rw [h2.isNon, h1.isNon] at p
  by_cases c : y = .non
  · subst c
    simp only [decide_true, if_true] at p
    exact op_notN pins s σ H _ _ v u Q I rx ry ⟨rfl, okB_ok b p⟩
  · simp [c, okO] at p
    exact p.elim
/-- ints -/
theorem op_ord {o : Cop} {op : CmpOp} (ho : OpR X (compareOp op) (rI0 fun i j => .bl (cmpI o i j))) (hb : ∀ bx x y, cmpB o bx x y = ordR o x y) : OpR X (compareOp op) fun x y H Q => tO (fx X ca) (opCmp o) [x, y] H Q := by
  intro pins s σ H x y v u Q I rx ry ⟨g, bx, rs, b, rr, p⟩
  obtain ⟨r1, r2, rfl, h1, h2⟩ := rr.two
  replace p : PostO (fx X ca) g H Q (okO (cmpB o bx r1 r2) bx) := p
  rw [hb] at p
  unfold ordR at p
  split at p
  · cases h1 with | v h1 => cases h1; cases h2 with | v h2 => cases h2; exact ho pins s σ H _ _ v u Q I rx ry ⟨_, _, rfl, rfl, okB_ok b p⟩
  · exact p.elim
theorem op_lt : OpR X (compareOp .Lt) fun x y H Q => tO (fx X ca) (opCmp .lt) [x, y] H Q := op_ord L2.op_lt fun _ _ _ => rfl
theorem op_le : OpR X (compareOp .LtE) fun x y H Q => tO (fx X ca) (opCmp .le) [x, y] H Q := op_ord L2.op_le fun _ _ _ => rfl
theorem op_gt : OpR X (compareOp .Gt) fun x y H Q => tO (fx X ca) (opCmp .gt) [x, y] H Q := op_ord L2.op_gt fun _ _ _ => rfl
theorem op_ge : OpR X (compareOp .GtE) fun x y H Q => tO (fx X ca) (opCmp .ge) [x, y] H Q := op_ord L2.op_ge fun _ _ _ => rfl
end
end AM
/-! text AmD -/
set_option Elab.async false
set_option linter.all false
set_option maxRecDepth 100000
set_option maxHeartbeats 2000000
/-! AmD: dicts: what the machine says of them and what the library's rules ask. -/
namespace AM
open PySem PySem.Spec PyProof.Rows L2

/-! ### keys -/
mutual
theorem nk_inj : ∀ (a b : W) (n : NestedKey), nk a = some n → nk b = some n → a = b
  | .int i, b, n, ha, hb => by
    simp only [nk, Option.some.injEq] at ha
    subst ha
    cases b <;> simp [nk] at hb
    rw [hb]
  | .str s, b, n, ha, hb => by
    simp only [nk, Option.some.injEq] at ha
    subst ha
    cases b <;> simp [nk] at hb
    rw [hb]
  | .tup xs, b, n, ha, hb => by
    simp only [nk, Option.map_eq_some_iff] at ha
    obtain ⟨ns, h1, rfl⟩ := ha
    cases b <;> simp [nk] at hb
    rw [nks_inj xs _ ns h1 hb]
  | .non, _, _, h, _ => by simp [nk] at h
  | .bl _, _, _, h, _ => by simp [nk] at h
  | .lst _, _, _, h, _ => by simp [nk] at h
  | .dct _ _, _, _, h, _ => by simp [nk] at h
  | .ins _ _ _, _, _, h, _ => by simp [nk] at h
  | .exn _ _, _, _, h, _ => by simp [nk] at h
  | .scr _, _, _, h, _ => by simp [nk] at h
theorem nks_inj : ∀ (a b : List W) (n : List NestedKey), nks a = some n → nks b = some n → a = b
  | [], b, n, ha, hb => by
    simp only [nks, Option.some.injEq] at ha
    subst ha
    cases b with
    | nil => rfl
    | cons y t => simp only [nks] at hb; split at hb <;> simp at hb
  | x :: r, b, n, ha, hb => by
    simp only [nks] at ha
    split at ha
    · rename_i u v h1 h2
      cases ha
      cases b with
      | nil => simp [nks] at hb
      | cons y t =>
        simp only [nks] at hb
        split at hb
        · rename_i u' v' h3 h4
          cases hb
          rw [nk_inj x y _ h1 h3, nks_inj r t _ h2 h4]
        · cases hb
    · cases ha
end
mutual
theorem nk_key : ∀ (a : W) (d : Nat), a.key = some d → ∃ n, nk a = some n ∧ n.depth = d
  | .int i, d, h => by simp only [W.key, Option.some.injEq] at h; subst h; exact ⟨_, rfl, by simp [NestedKey.depth]⟩
  | .str s, d, h => by simp only [W.key, Option.some.injEq] at h; subst h; exact ⟨_, rfl, by simp [NestedKey.depth]⟩
  | .tup xs, d, h => by
    simp only [W.key, Option.map_eq_some_iff] at h
    obtain ⟨d', h1, rfl⟩ := h
    obtain ⟨ns, h2, h3⟩ := nks_key xs d' h1
    refine ⟨.tup ns, by simp [nk, h2], ?_⟩
    simp only [NestedKey.depth, h3]
  | .non, _, h => by simp [W.key] at h
  | .bl _, _, h => by simp [W.key] at h
  | .lst _, _, h => by simp [W.key] at h
  | .dct _ _, _, h => by simp [W.key] at h
  | .ins _ _ _, _, h => by simp [W.key] at h
  | .exn _ _, _, h => by simp [W.key] at h
  | .scr _, _, h => by simp [W.key] at h
theorem nks_key : ∀ (a : List W) (d : Nat), W.keys a = some d → ∃ n, nks a = some n ∧ NestedKey.depthAll n = d
  | [], d, h => by simp only [W.keys, Option.some.injEq] at h; subst h; exact ⟨[], rfl, by simp [NestedKey.depthAll]⟩
  | x :: r, d, h => by
    simp only [W.keys] at h
    split at h
    · rename_i a b h1 h2
      cases h
      obtain ⟨n1, e1, e2⟩ := nk_key x a h1
      obtain ⟨n2, e3, e4⟩ := nks_key r b h2
      exact ⟨n1 :: n2, by simp [nks, e1, e3], by simp only [NestedKey.depthAll, e2, e4]⟩
    · cases h
end
theorem keyB_nk {k : W} (h : keyB k = true) : ∃ n, nk k = some n ∧ n.depth ≤ 8 := by
  unfold keyB at h
  split at h
  · rename_i d e
    obtain ⟨n, h1, h2⟩ := nk_key k d e
    exact ⟨n, h1, by rw [h2]; simpa using h⟩
  · cases h
theorem keyFor_kind {ks : List W} {k : W} (h : keyFor ks k = true) (q : KindOk ks) : keyB k = true ∧ ∀ k' ∈ ks, k'.isT = k.isT := by
  unfold keyFor at h
  rw [Bool.and_eq_true] at h
  refine ⟨h.1, fun k' hk => ?_⟩
  cases ks with
  | nil => cases hk
  | cons k0 r =>
    have h2 : k0.isT = k.isT := by simpa using h.2
    rcases q.one with z | z
    · rw [z k' hk, ← h2, z k0 List.mem_cons_self]
    · rw [z k' hk, ← h2, z k0 List.mem_cons_self]
theorem KindOk.set {ks : List W} {k : W} (q : KindOk ks) (h : keyFor ks k = true) : KindOk (dSetK ks k) := by
  obtain ⟨h1, h2⟩ := keyFor_kind h q
  have mem : ∀ (ks : List W) (x : W), x ∈ dSetK ks k → x ∈ ks ∨ x = k := by
    intro ks
    induction ks with
    | nil => intro x hx; simp [dSetK] at hx; exact .inr hx
    | cons a r ih =>
      intro x hx
      unfold dSetK at hx
      split at hx
      · exact .inl hx
      · rcases List.mem_cons.mp hx with e | e
        · exact .inl (e ▸ List.mem_cons_self)
        · exact (ih x e).imp (List.mem_cons_of_mem _) id
  refine ⟨fun x hx => (mem ks x hx).elim (q.key x) (fun e => e ▸ h1), ?_⟩
  cases e : k.isT with
  | true => exact .inl fun x hx => (mem ks x hx).elim (fun m => (h2 x m).trans e) (fun z => z ▸ e)
  | false => exact .inr fun x hx => (mem ks x hx).elim (fun m => (h2 x m).trans e) (fun z => z ▸ e)
theorem mem_dSetK {k : W} : ∀ (ks : List W) (x : W), x ∈ dSetK ks k → x ∈ ks ∨ x = k := by
  intro ks
  induction ks with
  | nil => intro x hx; simp [dSetK] at hx; exact .inr hx
  | cons a r ih =>
    intro x hx
    unfold dSetK at hx
    split at hx
    · exact .inl hx
    · rcases List.mem_cons.mp hx with e | e
      · exact .inl (e ▸ List.mem_cons_self)
      · exact (ih x e).imp (List.mem_cons_of_mem _) id
theorem nd_dSetK {k : W} : ∀ {ks : List W}, ks.Nodup → (dSetK ks k).Nodup
  | [], _ => by simp [dSetK]
  | a :: r, h => by
    unfold dSetK
    have h' := List.nodup_cons.mp h
    split
    · exact h
    · rename_i ne
      refine List.nodup_cons.mpr ⟨fun m => ?_, nd_dSetK h'.2⟩
      rcases mem_dSetK r a m with e | e
      · exact h'.1 e
      · exact ne e
theorem len_dSetK {k : W} : ∀ {ks : List W}, (dSetK ks k).length ≤ ks.length + 1
  | [] => by simp [dSetK]
  | a :: r => by
    unfold dSetK
    split
    · simp
    · simp only [List.length_cons]; have := len_dSetK (k := k) (ks := r); omega
theorem RRs.dSet {F : Fx} {g : Gd} {H : Hp} {k : W} {r : R} {v : V} : ∀ {ks : List W} {rs : List R} {vs : List V}, ks.length = rs.length → RRs F g H rs vs → RR F g H r v → RRs F g H (dSetV ks rs k r) (dSetV ks vs k v)
  | [], [], _, _, h, hr => by cases h; exact .cons hr .nil
  | a :: ks, b :: rs, _, e, h, hr => by
    cases h with
    | cons x t =>
      unfold dSetV
      split
      · exact .cons hr t
      · exact .cons x (RRs.dSet (by simpa using e) t hr)
  | [], _ :: _, _, e, _, _ => by simp at e
  | _ :: _, [], _, e, _, _ => by simp at e
theorem RRs.dGet {F : Fx} {g : Gd} {H : Hp} {k : W} : ∀ {ks : List W} {rs : List R} {vs : List V}, RRs F g H rs vs → (∀ r, AM.dGet ks rs k = some r → ∃ v, AM.dGet ks vs k = some v ∧ RR F g H r v) ∧ (AM.dGet ks rs k = none → AM.dGet ks vs k = none)
  | [], _, _, h => ⟨fun r e => by simp [AM.dGet] at e, fun _ => by simp [AM.dGet]⟩
  | a :: ks, _, _, .nil => ⟨fun r e => by simp [AM.dGet] at e, fun _ => by simp [AM.dGet]⟩
  | a :: ks, _, _, .cons x t => by
    obtain ⟨h1, h2⟩ := RRs.dGet (k := k) (ks := ks) t
    refine ⟨fun r e => ?_, fun e => ?_⟩
    · unfold AM.dGet at e ⊢
      split
      · rename_i z
        rw [if_pos z] at e
        cases e
        exact ⟨_, rfl, x⟩
      · rename_i z
        rw [if_neg z] at e
        exact h1 r e
    · unfold AM.dGet at e ⊢
      split
      · rename_i z
        rw [if_pos z] at e
        cases e
      · rename_i z
        rw [if_neg z] at e
        exact h2 e

/-! ### what is at hand of a dict -/
/-- the entries, in the state -/
structure DAt (F : Fx) (Z : Addr → Prop) (H : Hp) (a : Addr) (ks : List W) (xv : List V) (o : Obj) : Prop where
  sm : (a == sysModules) = false
  ex : o.ExactDict
  dat : ∃ es ep, o.data = .dict es ep ∧ RD F Z H ks xv es.toList
  len : ks.length ≤ sizeLine
  nd : ks.Nodup
  kind : KindOk ks
theorem RD.lens {F : Fx} {Z : Addr → Prop} {H : Hp} : ∀ {ks : List W} {xv : List V} {es : List DictEntry}, RD F Z H ks xv es → ks.length = es.length ∧ xv.length = es.length
  | _, _, _, .nil => ⟨rfl, rfl⟩
  | _, _, _, .cons _ _ _ _ t => by simp [RD.lens t]
theorem RR.dct {F : Fx} {g : Gd} {bx : Bx} {H : Hp} {r : R} {v : V} {ks : List W} {rs : List R} (b : BxOk F g bx H) (h : RR F g H r v) (e : dcO bx r = some (ks, rs)) :
    ∃ a o xv, v = .ref a ∧ (H a = some (pinO a o) ∨ F.K.lookup a = some o) ∧ DAt F g.Z H a ks xv o ∧ RRs F g H rs xv := by
  cases h with
  | @v w v h =>
    cases h with
    | dct p s o1 o2 l d r n k =>
      simp only [dcO, Option.some.injEq, Prod.mk.injEq] at e
      obtain ⟨rfl, rfl⟩ := e
      exact ⟨_, _, _, rfl, p.imp (·.2) id, ⟨s, o1, ⟨_, _, o2, d⟩, l, n, k⟩, .of r⟩
    | _ => simp [dcO] at e
  | @r n a q =>
    simp only [dcO] at e
    split at e
    · rename_i hb
      have := b.at_ n a _ q hb
      cases this with
      | dct q s o1 o2 l d r n k =>
        simp only [Option.some.injEq, Prod.mk.injEq] at e
        obtain ⟨rfl, rfl⟩ := e
        exact ⟨_, _, _, rfl, .inl q, ⟨s, o1, ⟨_, _, o2, d⟩, l, n, k⟩, r⟩
    · cases e

/-! ### simple keys -/
def toK : W → Key
  | .int i => .inl i
  | .str s => .inr s
  | _ => .inl 0
def ofK : Key → W
  | .inl i => .int i
  | .inr s => .str s
theorem ofK_toK {k : W} (h : keyB k = true) (t : k.isT = false) : ofK (toK k) = k := by
  cases k <;> first | rfl | (simp [W.isT] at t; done) | (simp [keyB, W.key] at h; done)
theorem toK_ofK (k : Key) : toK (ofK k) = k := by cases k <;> rfl
section
variable {F : Fx} {Z : Addr → Prop} {H : Hp}
theorem toK_inj {a b : W} (ha : keyB a = true) (ta : a.isT = false) (hb : keyB b = true) (tb : b.isT = false) (e : toK a = toK b) : a = b := by
  rw [← ofK_toK ha ta, ← ofK_toK hb tb, e]
theorem keyIs_of {k : W} {kv : V} {u : Value} (r : RW F Z H k kv) (ru : RelV kv u) (h : keyB k = true) (t : k.isT = false) : keyIs (toK k) u = true := by
  cases k <;> first | (simp [keyB, W.key] at h; done) | (simp [W.isT] at t; done) | skip
  · cases r; obtain ⟨t', rfl⟩ := ru; exact keyIs_int _ _
  · cases r; obtain ⟨t', rfl⟩ := ru; exact keyIs_str _ _
theorem hash_simple {k : W} (h : keyB k = true) (t : k.isT = false) : hashW F.w k = some (keyH F.w (toK k)) := by
  cases k <;> first | (simp [keyB, W.key] at h; done) | (simp [W.isT] at t; done) | rfl
/-- the library's view: the keys, the values that stand there -/
theorem RD.simple : ∀ {ks : List W} {xv : List V} {es : List DictEntry}, RD F Z H ks xv es → (∀ k ∈ ks, keyB k = true ∧ k.isT = false) →
    ∃ us : List Value, Vals xv us ∧ Pairs (mixKind F.P F.w) es ((ks.map toK).zip us) ∧ (∀ e ∈ es, ∃ k, (mixKind F.P F.w).is k e.key = true ∧ e.hash = (mixKind F.P F.w).hash k)
  | _, _, _, .nil, _ => ⟨[], .nil, .nil, fun e h => nomatch h⟩
  | _, _, _, .cons (k := k) (e := e) r rk hh rx t, hk => by
    obtain ⟨us, h1, h2, h3⟩ := RD.simple t fun k' m => hk k' (List.mem_cons_of_mem _ m)
    obtain ⟨q1, q2⟩ := hk k List.mem_cons_self
    have i := keyIs_of r rk q1 q2
    refine ⟨e.val :: us, .cons rx h1, .cons i rfl h2, fun e' m => ?_⟩
    rcases List.mem_cons.mp m with z | z
    · subst z
      refine ⟨toK k, i, ?_⟩
      rw [hash_simple q1 q2] at hh
      exact (Option.some.inj hh).symm
    · exact h3 e' z
theorem RD.of_simple : ∀ {kvs : List (Key × Value)} {es : List DictEntry}, Pairs (mixKind F.P F.w) es kvs → (∀ e ∈ es, ∃ k, (mixKind F.P F.w).is k e.key = true ∧ e.hash = (mixKind F.P F.w).hash k) →
    ∀ {xv : List V}, Vals xv (kvs.map (·.2)) → RD F Z H (kvs.map fun p => ofK p.1) xv es
  | _, _, .nil, _, xv, h => by cases h; exact .nil
  | _, _, .cons (e := e) (kv := kv) i ev t, hk, xv, h => by
    cases h with
    | cons r rt =>
      obtain ⟨k', i', hh⟩ := hk _ List.mem_cons_self
      have ek : kv.1 = k' := (mixKind F.P F.w).inj _ _ _ i i'
      subst ek
      have ik : keyIs kv.1 e.key = true := i
      have rk : ∃ v, RW F Z H (ofK kv.1) v ∧ RelV v e.key := by
        rcases keyIs_shape ik with ⟨j, tt, e1, e2⟩ | ⟨x, tt, e1, e2⟩
        · rw [e1, e2]; exact ⟨.int j, .int j, _, rfl⟩
        · rw [e1, e2]; exact ⟨.str x, .str x, _, rfl⟩
      obtain ⟨v, r1, r2⟩ := rk
      refine .cons r1 r2 ?_ (by rw [ev]; exact r) (RD.of_simple t (fun e' m => hk e' (List.mem_cons_of_mem _ m)) rt)
      rw [hh]
      show hashW F.w (ofK kv.1) = some (keyH F.w kv.1)
      cases kv.1 <;> rfl
end

/-! ### tuple keys -/
section
variable {F : Fx} {Z : Addr → Prop} {H : Hp}
inductive NX (F : Fx) (Z : Addr → Prop) (H : Hp) : List W → List V → List (NestedKey × Addr × Value) → Prop
  | nil : NX F Z H [] [] []
  | cons {k : W} {n : NestedKey} {a : Addr} {x : V} {u : Value} {ks : List W} {xv : List V} {xs : List (NestedKey × Addr × Value)} : RW F Z H k (.ref a) → nk k = some n → n.depth ≤ 8 → RelV x u → NX F Z H ks xv xs → NX F Z H (k :: ks) (x :: xv) ((n, a, u) :: xs)
theorem RD.nested : ∀ {ks : List W} {xv : List V} {es : List DictEntry}, RD F Z H ks xv es → (∀ k ∈ ks, keyB k = true ∧ k.isT = true) →
    ∃ xs, NX F Z H ks xv xs ∧ es = xs.map (entryOfKey (nestedKind F.P F.w))
  | _, _, _, .nil, _ => ⟨[], .nil, rfl⟩
  | _, _, _, .cons (k := k) (kv := kv) (e := e) r rk hh rx t, hk => by
    obtain ⟨xs, h1, h2⟩ := RD.nested t fun k' m => hk k' (List.mem_cons_of_mem _ m)
    obtain ⟨q1, q2⟩ := hk k List.mem_cons_self
    obtain ⟨n, e1, e2⟩ := keyB_nk q1
    cases k <;> first | (simp [W.isT] at q2; done) | skip
    cases r with
    | @tup ws a vs p l rr =>
      have rk : e.key = .ref a := rk
      refine ⟨(n, a, e.val) :: xs, .cons (.tup p l rr) e1 e2 rx h1, ?_⟩
      rw [List.map_cons, ← h2]
      congr 1
      unfold hashW at hh
      rw [e1] at hh
      replace hh : n.hash F.w = e.hash := Option.some.inj hh
      obtain ⟨e3, e4, e5⟩ := e
      replace rk : e4 = .ref a := rk
      replace hh : n.hash F.w = e3 := hh
      subst rk
      subst hh
      rfl
theorem NX.rd : ∀ {ks : List W} {xv : List V} {xs : List (NestedKey × Addr × Value)}, NX F Z H ks xv xs → RD F Z H ks xv (xs.map (entryOfKey (nestedKind F.P F.w)))
  | _, _, _, .nil => .nil
  | _, _, _, .cons r e _ x t => .cons r rfl (by unfold hashW; rw [e]; rfl) x (NX.rd t)
theorem NX.keys : ∀ {ks : List W} {xv : List V} {xs : List (NestedKey × Addr × Value)}, NX F Z H ks xv xs → ks.map nk = xs.map fun x => some x.1
  | _, _, _, .nil => rfl
  | _, _, _, .cons _ e _ _ t => by simp [e, NX.keys t]
theorem NX.nodup {ks : List W} {xv : List V} {xs : List (NestedKey × Addr × Value)} (h : NX F Z H ks xv xs) (n : ks.Nodup) : (xs.map (·.1)).Nodup := by
  induction h with
  | nil => simp
  | @cons k n' a x u ks xv xs r e _ _ t ih =>
    have n' := List.nodup_cons.mp n
    simp only [List.map_cons]
    refine List.nodup_cons.mpr ⟨fun m => ?_, ih n'.2⟩
    obtain ⟨y, hy, hy2⟩ := List.mem_map.mp m
    have hk : some y.1 ∈ ks.map nk := by rw [t.keys]; exact List.mem_map.mpr ⟨y, hy, rfl⟩
    obtain ⟨k', hk1, hk2⟩ := List.mem_map.mp hk
    rw [hy2] at hk2
    exact n'.1 (nk_inj k' k _ hk2 e ▸ hk1)
theorem NX.get {k : W} {n : NestedKey} (e : nk k = some n) : ∀ {ks : List W} {xv : List V} {xs : List (NestedKey × Addr × Value)}, NX F Z H ks xv xs →
    (∀ v, dGet ks xv k = some v → ∃ p, atKey xs n = some p ∧ RelV v p.2) ∧ (dGet ks xv k = none → atKey xs n = none)
  | _, _, _, .nil => ⟨fun v h => by simp [dGet] at h, fun _ => rfl⟩
  | _, _, _, .cons (k := k0) (n := n0) r e0 d x t => by
    obtain ⟨h1, h2⟩ := NX.get e t
    by_cases z : k0 = k
    · subst z
      rw [e] at e0
      cases e0
      refine ⟨fun v h => ?_, fun h => ?_⟩
      · simp only [dGet, if_pos] at h
        cases h
        exact ⟨_, (by simp [atKey]; rfl), x⟩
      · simp [dGet] at h
    · have zn : n0 ≠ n := fun q => z (nk_inj k0 k n (q ▸ e0) e)
      refine ⟨fun v h => ?_, fun h => ?_⟩
      · simp only [dGet, if_neg z] at h
        obtain ⟨p, p1, p2⟩ := h1 v h
        exact ⟨p, by simpa [atKey, zn] using p1, p2⟩
      · simp only [dGet, if_neg z] at h
        simpa [atKey, zn] using h2 h
theorem NX.mem {k : W} {n : NestedKey} (e : nk k = some n) : ∀ {ks : List W} {xv : List V} {xs : List (NestedKey × Addr × Value)}, NX F Z H ks xv xs → ((atKey xs n).isSome = true ↔ k ∈ ks)
  | _, _, _, .nil => by simp [atKey]
  | _, _, _, .cons (k := k0) (n := n0) r e0 d x t => by
    have ih := NX.mem e t
    by_cases z : k0 = k
    · subst z
      rw [e] at e0
      cases e0
      simp [atKey]
    · have zn : n0 ≠ n := fun q => z (nk_inj k0 k n (q ▸ e0) e)
      rw [List.mem_cons, ← ih]
      have : ¬ k = k0 := fun q => z q.symm
      simp [atKey, zn, this]
theorem NX.put {k : W} {n : NestedKey} (e : nk k = some n) {v : V} {u : Value} (ru : RelV v u) : ∀ {ks : List W} {xv : List V} {xs : List (NestedKey × Addr × Value)}, NX F Z H ks xv xs → k ∈ ks → ks.Nodup →
    NX F Z H (dSetK ks k) (dSetV ks xv k v) (xs.map (putAt n u))
  | _, _, _, .nil, m, _ => by cases m
  | _, _, _, .cons (k := k0) (n := n0) (ks := ks) (xs := xs) r e0 d x t, m, nd => by
    have nd' := List.nodup_cons.mp nd
    by_cases z : k0 = k
    · subst z
      rw [e] at e0
      cases e0
      simp only [dSetK, dSetV, if_pos, List.map_cons, putAt]
      refine .cons r e d ru ?_
      have hn : n ∉ xs.map (·.1) := fun mm => by
        obtain ⟨y, hy, hy2⟩ := List.mem_map.mp mm
        have hk : some y.1 ∈ ks.map nk := by rw [t.keys]; exact List.mem_map.mpr ⟨y, hy, rfl⟩
        obtain ⟨k', hk1, hk2⟩ := List.mem_map.mp hk
        rw [hy2] at hk2
        exact nd'.1 (nk_inj k' k0 _ hk2 e ▸ hk1)
      have e2 : xs.map (putAt n u) = xs := by
        clear t nd nd' m
        induction xs with
        | nil => rfl
        | cons y ys ih =>
          simp only [List.map_cons, List.mem_cons, not_or] at hn
          rw [List.map_cons, ih hn.2, putAt, if_neg (fun q => hn.1 q.symm)]
      show NX F Z H ks _ (xs.map (putAt n u))
      rw [e2]
      exact t
    · have zn : n0 ≠ n := fun q => z (nk_inj k0 k n (q ▸ e0) e)
      have m' : k ∈ ks := (List.mem_cons.mp m).resolve_left fun q => z q.symm
      simp only [dSetK, dSetV, if_neg z, List.map_cons, putAt, if_neg zn]
      exact .cons r e0 d x (NX.put e ru t m' nd'.2)
theorem NX.push {k : W} {n : NestedKey} {a : Addr} (e : nk k = some n) (hd : n.depth ≤ 8) (rk : RW F Z H k (.ref a)) {v : V} {u : Value} (ru : RelV v u) : ∀ {ks : List W} {xv : List V} {xs : List (NestedKey × Addr × Value)}, NX F Z H ks xv xs → k ∉ ks →
    NX F Z H (dSetK ks k) (dSetV ks xv k v) (xs ++ [(n, a, u)])
  | _, _, _, .nil, _ => .cons rk e hd ru .nil
  | _, _, _, .cons (k := k0) r e0 d x t, m => by
    have z : ¬ k0 = k := fun q => m (q ▸ List.mem_cons_self)
    simp only [dSetK, dSetV, if_neg z, List.cons_append]
    exact .cons r e0 d x (NX.push e hd rk ru t fun q => m (List.mem_cons_of_mem _ q))
theorem NX.stored {k : W} {n : NestedKey} {a : Addr} (e : nk k = some n) (hd : n.depth ≤ 8) (rk : RW F Z H k (.ref a)) {v : V} {u : Value} (ru : RelV v u) {ks : List W} {xv : List V} {xs : List (NestedKey × Addr × Value)} (h : NX F Z H ks xv xs) (nd : ks.Nodup) :
    NX F Z H (dSetK ks k) (dSetV ks xv k v) (storedH xs n a u) := by
  unfold storedH
  by_cases m : k ∈ ks
  · rw [if_pos ((h.mem e).mpr m)]
    exact h.put e ru m nd
  · rw [if_neg fun q => m ((h.mem e).mp q)]
    exact h.push e hd rk ru m
end
end AM
/-! text AmD2 -/
set_option Elab.async false
set_option linter.all false
set_option maxRecDepth 100000
set_option maxHeartbeats 2000000
/-! AmD2: dicts in the state: is a key there, what stands at it, a key put. -/
namespace AM
open PySem PySem.Spec PyProof.Rows L2

section
variable {X : Cx} {ca : Ca} {pins : List (Addr × Obj)} {σ : L2.St} {H : Hp} {s : Shared} {Z : Addr → Prop}
mutual
theorem RW.nested (I : Inv X pins σ H s) : ∀ {w : W} {v : V} {n : NestedKey} {u : Value}, RW (fx X ca) Z H w v → nk w = some n → RelV v u → NestedIs s.heap n u
  | _, _, _, _, .non, e, _ => by simp [nk] at e
  | _, _, _, _, .bl _, e, _ => by simp [nk] at e
  | _, _, _, _, .int i, e, r => by
    simp only [nk, Option.some.injEq] at e
    subst e
    obtain ⟨t, rfl⟩ := r
    exact .int i t
  | _, _, _, _, .str x, e, r => by
    simp only [nk, Option.some.injEq] at e
    subst e
    obtain ⟨t, rfl⟩ := r
    exact .text x t
  | _, _, _, _, .tup p l rs, e, r => by
    simp only [nk, Option.map_eq_some_iff] at e
    obtain ⟨ns, e1, rfl⟩ := e
    obtain ⟨its, rv, ⟨o, h1, h2, n, h3⟩, _⟩ := I.tuple (RW.sqT p)
    cases r
    exact .tup h1 h2 h3 (RWs.nested I rs e1 rv)
  | _, _, _, _, .lst _ _ _ _, e, _ => by simp [nk] at e
  | _, _, _, _, .scr _ _ _, e, _ => by simp [nk] at e
  | _, _, _, _, .dct _ _ _ _ _ _ _ _ _, e, _ => by simp [nk] at e
  | _, _, _, _, .ins _ _ _ _, e, _ => by simp [nk] at e
  | _, _, _, _, .exn _ _, e, _ => by simp [nk] at e
  | _, _, _, _, .exn1 _ _ _ _, e, _ => by simp [nk] at e
theorem RWs.nested (I : Inv X pins σ H s) : ∀ {ws : List W} {vs : List V} {ns : List NestedKey} {us : List Value}, RWs (fx X ca) Z H ws vs → nks ws = some ns → Vals vs us → NestedAll s.heap ns us
  | _, _, _, _, .nil, e, r => by
    simp only [nks, Option.some.injEq] at e
    subst e
    cases r
    exact .nil
  | _, _, _, _, .cons a t, e, r => by
    simp only [nks] at e
    split at e
    · rename_i x y e1 e2
      cases e
      cases r with
      | cons r1 r2 => exact .cons (RW.nested I a e1 r1) (RWs.nested I t e2 r2)
    · cases e
end
end

/-! ### simple keys: pairs -/
theorem stored_cons {k0 k : Key} {x v : Value} {kvs : List (Key × Value)} (nd : k0 ∉ kvs.map (·.1)) : stored ((k0, x) :: kvs) k v = if k0 = k then (k0, v) :: kvs else (k0, x) :: stored kvs k v := by
  by_cases h : k0 = k
  · subst h
    rw [if_pos rfl]
    unfold stored
    rw [if_pos (by simp)]
    simp only [List.map_cons, if_pos]
    congr 1
    have : ∀ l : List (Key × Value), k0 ∉ l.map (·.1) → l.map (fun kv => if kv.1 = k0 then (kv.1, v) else kv) = l := by
      intro l
      induction l with
      | nil => intro _; rfl
      | cons y ys ih =>
        intro hn
        simp only [List.map_cons, List.mem_cons, not_or] at hn
        rw [List.map_cons, ih hn.2, if_neg (fun q => hn.1 q.symm)]
    exact this kvs nd
  · rw [if_neg h]
    unfold stored
    simp only [List.any_cons, h, decide_false, Bool.false_or, List.map_cons, if_false]
    split <;> simp
theorem stored_simple {k : W} {v : V} {r : Value} (hk : keyB k = true) (tk : k.isT = false) (rv : RelV v r) : ∀ {ks : List W} {xv : List V} {kvs : List (Key × Value)}, (∀ k ∈ ks, keyB k = true ∧ k.isT = false) → kvs.map (·.1) = ks.map toK → Vals xv (kvs.map (·.2)) → ks.Nodup →
    (stored kvs (toK k) r).map (fun p => ofK p.1) = dSetK ks k ∧ Vals (dSetV ks xv k v) ((stored kvs (toK k) r).map (·.2))
  | [], xv, kvs, _, e, h, _ => by
    have : kvs = [] := by simpa using e
    subst this
    cases h
    refine ⟨?_, .cons rv .nil⟩
    simp [stored, dSetK, ofK_toK hk tk]
  | k0 :: ks, xv, kvs, hs, e, h, nd => by
    cases kvs with
    | nil => simp at e
    | cons p kvs =>
      obtain ⟨p1, p2⟩ := p
      simp only [List.map_cons, List.cons.injEq] at e
      obtain ⟨e1, e2⟩ := e
      replace e1 : p1 = toK k0 := e1
      subst e1
      cases h with
      | @cons x _ xv _ rx h =>
        have nd' := List.nodup_cons.mp nd
        have k0s := hs k0 List.mem_cons_self
        have ks' : ∀ k ∈ ks, keyB k = true ∧ k.isT = false := fun k m => hs k (List.mem_cons_of_mem _ m)
        have nin : toK k0 ∉ kvs.map (·.1) := by
          rw [e2]
          intro m
          obtain ⟨y, hy, ey⟩ := List.mem_map.mp m
          exact nd'.1 (toK_inj (ks' y hy).1 (ks' y hy).2 k0s.1 k0s.2 ey ▸ hy)
        rw [stored_cons nin]
        obtain ⟨i1, i2⟩ := stored_simple hk tk rv ks' e2 h nd'.2
        by_cases z : k0 = k
        · subst z
          rw [if_pos rfl]
          simp only [dSetK, dSetV, if_pos, List.map_cons]
          refine ⟨?_, .cons rv h⟩
          rw [ofK_toK hk tk]
          congr 1
          have : (fun p : Key × Value => ofK p.1) = ofK ∘ (·.1) := rfl
          rw [this, ← List.map_map, e2, List.map_map]
          have : ∀ l : List W, (∀ k ∈ l, keyB k = true ∧ k.isT = false) → l.map (ofK ∘ toK) = l := by
            intro l
            induction l with
            | nil => intro _; rfl
            | cons y ys ih =>
              intro hl
              rw [List.map_cons, ih fun k m => hl k (List.mem_cons_of_mem _ m)]
              have := hl y List.mem_cons_self
              simp [ofK_toK this.1 this.2]
          exact this ks ks'
        · have z' : ¬ toK k0 = toK k := fun q => z (toK_inj k0s.1 k0s.2 hk tk q)
          rw [if_neg z']
          simp only [dSetK, dSetV, if_neg z, List.map_cons, ofK_toK k0s.1 k0s.2, i1]
          exact ⟨trivial, .cons rx i2⟩
theorem at_simple {k : W} (hk : keyB k = true) (tk : k.isT = false) : ∀ {ks : List W} {xv : List V} {kvs : List (Key × Value)}, (∀ k ∈ ks, keyB k = true ∧ k.isT = false) → kvs.map (·.1) = ks.map toK → Vals xv (kvs.map (·.2)) → RelO (dGet ks xv k) (valueAt kvs (toK k))
  | [], xv, kvs, _, e, h => by
    have : kvs = [] := by simpa using e
    subst this
    cases h
    exact True.intro
  | k0 :: ks, xv, kvs, hs, e, h => by
    cases kvs with
    | nil => simp at e
    | cons p kvs =>
      obtain ⟨p1, p2⟩ := p
      simp only [List.map_cons, List.cons.injEq] at e
      obtain ⟨e1, e2⟩ := e
      replace e1 : p1 = toK k0 := e1
      subst e1
      cases h with
      | @cons x _ xv _ rx h =>
        have k0s := hs k0 List.mem_cons_self
        have ih := at_simple hk tk (fun k m => hs k (List.mem_cons_of_mem _ m)) e2 h
        by_cases z : k0 = k
        · subst z
          simp only [dGet, if_pos, valueAt, List.find?_cons, decide_true]
          exact rx
        · have z' : ¬ toK k0 = toK k := fun q => z (toK_inj k0s.1 k0s.2 hk tk q)
          simp only [dGet, if_neg z, valueAt, List.find?_cons, z', decide_false]
          exact ih
theorem RD.pairs {F : Fx} {Z : Addr → Prop} {H : Hp} {ks : List W} {xv : List V} {es : Array DictEntry} (h : RD F Z H ks xv es.toList) (hs : ∀ k ∈ ks, keyB k = true ∧ k.isT = false) (nd : ks.Nodup) :
    ∃ kvs, KeysOf (mixKind F.P F.w) es ∧ Pairs (mixKind F.P F.w) es.toList kvs ∧ (kvs.map (·.1)).Nodup ∧ kvs.map (·.1) = ks.map toK ∧ Vals xv (kvs.map (·.2)) := by
  obtain ⟨us, h1, h2, h3⟩ := h.simple hs
  have l1 := h.lens
  have l2 := h1.length
  have e1 : ((ks.map toK).zip us).map (·.1) = ks.map toK := List.map_fst_zip (by simp; omega)
  have e2 : ((ks.map toK).zip us).map (·.2) = us := List.map_snd_zip (by simp; omega)
  refine ⟨_, fun e m => h3 e (by simpa using m), h2, ?_, e1, by rw [e2]; exact h1⟩
  rw [e1]
  clear h h1 h2 h3 l1 l2 e1 e2
  induction ks with
  | nil => simp
  | cons a r ih =>
    have nd' := List.nodup_cons.mp nd
    rw [List.map_cons]
    refine List.nodup_cons.mpr ⟨fun m => ?_, ih (fun k m => hs k (List.mem_cons_of_mem _ m)) nd'.2⟩
    obtain ⟨y, hy, ey⟩ := List.mem_map.mp m
    have a1 := hs a List.mem_cons_self
    have y1 := hs y (List.mem_cons_of_mem _ hy)
    exact nd'.1 (toK_inj y1.1 y1.2 a1.1 a1.2 ey ▸ hy)

/-- keys of one kind, and the one asked -/
theorem keyFor_all {ks : List W} {k : W} (q : KindOk ks) (h : keyFor ks k = true) : keyB k = true ∧ ∀ k' ∈ ks, keyB k' = true ∧ k'.isT = k.isT := by
  obtain ⟨h1, h2⟩ := keyFor_kind h q
  exact ⟨h1, fun k' m => ⟨q.key k' m, h2 k' m⟩⟩

section
variable {X : Cx} {ca : Ca} {pins : List (Addr × Obj)} {σ : L2.St} {H : Hp} {s : Shared} {Z : Addr → Prop} {a : Addr} {ks : List W} {xv : List V} {o : Obj} {k : W} {kv : V} {u : Value} {A : Around} {E : Value → Shared → Prop}
theorem d_obj (I : Inv X pins σ H s) (p : H a = some (pinO a o) ∨ X.K.lookup a = some o) : s.heap.get? a = some o := by
  rcases p with p | p
  · exact (I.hok a _ p).1
  · exact I.kIn a o p
/-- simple: the library's dict -/
theorem DAt.pairs (D : DAt (fx X ca) Z H a ks xv o) (ho : s.heap.get? a = some o) (hs : ∀ k ∈ ks, keyB k = true ∧ k.isT = false) : ∃ kvs, s.heap.DictOf (mixKind X.prog X.w) a kvs ∧ kvs.map (·.1) = ks.map toK ∧ Vals xv (kvs.map (·.2)) ∧ kvs.length = ks.length := by
  obtain ⟨es, ep, hd, rd⟩ := D.dat
  obtain ⟨kvs, h1, h2, h3, h4, h5⟩ := rd.pairs hs D.nd
  exact ⟨kvs, ⟨o, es, ep, ho, D.ex, hd, h1, h2, h3⟩, h4, h5, by have := congrArg List.length h4; simpa using this⟩
/-- tuples: the library's dict -/
theorem NX.is (I : Inv X pins σ H s) : ∀ {ks : List W} {xv : List V} {xs : List (NestedKey × Addr × Value)}, NX (fx X ca) Z H ks xv xs → ∀ x ∈ xs, (nestedKind X.prog X.w).is s.heap x.1 x.2.1
  | _, _, _, .nil => fun _ m => nomatch m
  | _, _, _, .cons r e d x t => fun y m => by
    rcases List.mem_cons.mp m with z | z
    · subst z
      exact ⟨r.nested I e rfl, d⟩
    · exact NX.is I t y z
theorem DAt.nested (I : Inv X pins σ H s) (D : DAt (fx X ca) Z H a ks xv o) (ho : s.heap.get? a = some o) (hs : ∀ k ∈ ks, keyB k = true ∧ k.isT = true) : ∃ xs, s.heap.DictOfH (nestedKind X.prog X.w) a xs ∧ NX (fx X ca) Z H ks xv xs ∧ xs.length = ks.length := by
  obtain ⟨es, ep, hd, rd⟩ := D.dat
  obtain ⟨xs, h1, h2⟩ := rd.nested hs
  refine ⟨xs, ⟨o, es, ep, ho, D.ex, hd, h2, h1.is I, h1.nodup D.nd⟩, h1, ?_⟩
  have := congrArg List.length h1.keys
  simpa using this.symm
theorem key_ref (r : RW (fx X ca) Z H k kv) (t : k.isT = true) : ∃ b, kv = .ref b := by
  cases k <;> simp [W.isT] at t
  cases r
  exact ⟨_, rfl⟩
theorem nodraw {b : Bool} (h : b = true) (h' : b = false) : False := by rw [h] at h'; cases h'

/-- y in d -/
theorem d_has {Q : Value → Shared → Prop} (hu : A.units + 10 < cLine) (I : Inv X pins σ H s) (p : H a = some (pinO a o) ∨ X.K.lookup a = some o) (D : DAt (fx X ca) Z H a ks xv o) (kf : keyFor ks k = true) (rk : RW (fx X ca) Z H k kv) (ru : RelV kv u)
    (h : ∀ t, Q (.bool (dGet ks xv k).isSome) { s with toks := t }) : wpAny (model X.prog X.w) A (compareOp .In u (.ref a)) Q E s := by
  have ho := d_obj I p
  obtain ⟨kb, ka⟩ := keyFor_all D.kind kf
  cases t : k.isT with
  | false =>
    obtain ⟨kvs, h1, h2, h3, _⟩ := D.pairs ho fun k' m => ⟨(ka k' m).1, (ka k' m).2.trans t⟩
    refine wpAny_in_of (keyIs_of rk ru kb t) D.sm h1.mapOf ?_
    rw [← (at_simple kb t (fun k' m => ⟨(ka k' m).1, (ka k' m).2.trans t⟩) h2 h3).isSome_eq]
    exact h _
  | true =>
    obtain ⟨xs, h1, h2, _⟩ := D.nested I ho fun k' m => ⟨(ka k' m).1, (ka k' m).2.trans t⟩
    obtain ⟨b, rfl⟩ := key_ref rk t
    cases ru
    obtain ⟨n, e, d⟩ := keyB_nk kb
    refine wpAny_in_heap (knd := nestedKind X.prog X.w) (show A.in1.units + 8 < cLine from by show A.units + 1 + 8 < cLine; omega) (show (nestedKind X.prog X.w).is s.heap n b from ⟨rk.nested I e rfl, d⟩) D.sm h1 ?_
    obtain ⟨g1, g2⟩ := h2.get e
    have : (atKey xs n).isSome = (dGet ks xv k).isSome := by
      cases q : dGet ks xv k with
      | some v => obtain ⟨p, p1, _⟩ := g1 v q; rw [p1]; rfl
      | none => rw [g2 q]; rfl
    rw [this]
    exact h _
theorem d_hasnt {Q : Value → Shared → Prop} (hu : A.units + 10 < cLine) (I : Inv X pins σ H s) (p : H a = some (pinO a o) ∨ X.K.lookup a = some o) (D : DAt (fx X ca) Z H a ks xv o) (kf : keyFor ks k = true) (rk : RW (fx X ca) Z H k kv) (ru : RelV kv u)
    (h : ∀ t, Q (.bool (!(dGet ks xv k).isSome)) { s with toks := t }) : wpAny (model X.prog X.w) A (compareOp .NotIn u (.ref a)) Q E s := by
  have ho := d_obj I p
  obtain ⟨kb, ka⟩ := keyFor_all D.kind kf
  cases t : k.isT with
  | false =>
    obtain ⟨kvs, h1, h2, h3, _⟩ := D.pairs ho fun k' m => ⟨(ka k' m).1, (ka k' m).2.trans t⟩
    refine wpAny_notIn_of (keyIs_of rk ru kb t) D.sm h1.mapOf ?_
    rw [← (at_simple kb t (fun k' m => ⟨(ka k' m).1, (ka k' m).2.trans t⟩) h2 h3).isSome_eq]
    exact h _
  | true =>
    obtain ⟨xs, h1, h2, _⟩ := D.nested I ho fun k' m => ⟨(ka k' m).1, (ka k' m).2.trans t⟩
    obtain ⟨b, rfl⟩ := key_ref rk t
    cases ru
    obtain ⟨n, e, d⟩ := keyB_nk kb
    refine wpAny_notIn_heap (knd := nestedKind X.prog X.w) (show A.in1.units + 8 < cLine from by show A.units + 1 + 8 < cLine; omega) (show (nestedKind X.prog X.w).is s.heap n b from ⟨rk.nested I e rfl, d⟩) D.sm h1 ?_
    obtain ⟨g1, g2⟩ := h2.get e
    have : (atKey xs n).isSome = (dGet ks xv k).isSome := by
      cases q : dGet ks xv k with
      | some v => obtain ⟨p, p1, _⟩ := g1 v q; rw [p1]; rfl
      | none => rw [g2 q]; rfl
    rw [this]
    exact h _
/-- d[y] -/
theorem d_at {v : V} {Q : Value → Shared → Prop} (hu : A.units + 10 < cLine) (I : Inv X pins σ H s) (p : H a = some (pinO a o) ∨ X.K.lookup a = some o) (D : DAt (fx X ca) Z H a ks xv o) (kf : keyFor ks k = true) (rk : RW (fx X ca) Z H k kv) (ru : RelV kv u) (hv : dGet ks xv k = some v)
    (h : ∀ t w, RelV v w → Q w { s with toks := t }) : wpAny (model X.prog X.w) A (getItem (.ref a) u) Q E s := by
  have ho := d_obj I p
  obtain ⟨kb, ka⟩ := keyFor_all D.kind kf
  cases t : k.isT with
  | false =>
    obtain ⟨kvs, h1, h2, h3, _⟩ := D.pairs ho fun k' m => ⟨(ka k' m).1, (ka k' m).2.trans t⟩
    have q := at_simple kb t (fun k' m => ⟨(ka k' m).1, (ka k' m).2.trans t⟩) h2 h3
    rw [hv] at q
    obtain ⟨w', hw, rw'⟩ := RelO.some_of q
    exact wpAny_getItem_of (keyIs_of rk ru kb t) h1.mapOf hw (h _ _ rw')
  | true =>
    obtain ⟨xs, h1, h2, _⟩ := D.nested I ho fun k' m => ⟨(ka k' m).1, (ka k' m).2.trans t⟩
    obtain ⟨b, rfl⟩ := key_ref rk t
    cases ru
    obtain ⟨n, e, d⟩ := keyB_nk kb
    obtain ⟨p, p1, p2⟩ := (h2.get e).1 v hv
    exact wpAny_getItem_heap (knd := nestedKind X.prog X.w) (show A.in1.units + 8 < cLine from by show A.units + 1 + 8 < cLine; omega) (show (nestedKind X.prog X.w).is s.heap n b from ⟨rk.nested I e rfl, d⟩) h1 p1 (h _ _ p2)
/-- d.get(y, x) -/
theorem d_getD {v d : V} {w : Value} {Q : Value → Shared → Prop} (hu : A.units + 10 < cLine) (I : Inv X pins σ H s) (p : H a = some (pinO a o) ∨ X.K.lookup a = some o) (D : DAt (fx X ca) Z H a ks xv o) (kf : keyFor ks k = true) (rk : RW (fx X ca) Z H k kv) (ru : RelV kv u) (rw' : RelV d w) (hv : (dGet ks xv k).getD d = v)
    (h : ∀ t w, RelV v w → Q w { s with toks := t }) : wpAny (model X.prog X.w) A (call (.builtin "dict.get") [.ref a, u, w]) Q E s := by
  have ho := d_obj I p
  obtain ⟨kb, ka⟩ := keyFor_all D.kind kf
  cases t : k.isT with
  | false =>
    obtain ⟨kvs, h1, h2, h3, _⟩ := D.pairs ho fun k' m => ⟨(ka k' m).1, (ka k' m).2.trans t⟩
    have q := at_simple kb t (fun k' m => ⟨(ka k' m).1, (ka k' m).2.trans t⟩) h2 h3
    refine call_meetsIn PySem.F.slot_dict_get h1.typeIs PySem.F.entry_dict_get (PySem.F.args_dict_get_3 _ _ _) (meets_dict_get_default (mixKind X.prog X.w) a (keyIs_of rk ru kb t) D.sm w) ⟨_, h1.mapOf, ?_⟩
    refine h _ _ ?_
    cases q1 : dGet ks xv k with
    | some v' =>
      rw [q1] at q hv
      obtain ⟨w', hw, r'⟩ := RelO.some_of q
      rw [hw]
      subst hv
      exact r'
    | none =>
      rw [q1] at q hv
      rw [RelO.none_of q]
      subst hv
      exact rw'
  | true =>
    obtain ⟨xs, h1, h2, _⟩ := D.nested I ho fun k' m => ⟨(ka k' m).1, (ka k' m).2.trans t⟩
    obtain ⟨b, rfl⟩ := key_ref rk t
    cases ru
    obtain ⟨n, e, dd⟩ := keyB_nk kb
    refine call_meetsIn PySem.F.slot_dict_get h1.typeIs PySem.F.entry_dict_get (PySem.F.args_dict_get_3 _ _ _) (meetsH_dict_get_default (nestedKind X.prog X.w) a b D.sm w) ⟨show A.in1.units + 8 < cLine from by show A.units + 1 + 8 < cLine; omega, n, xs, ⟨rk.nested I e rfl, dd⟩, h1, ?_⟩
    refine h _ _ ?_
    obtain ⟨g1, g2⟩ := h2.get e
    cases q1 : dGet ks xv k with
    | some v' =>
      rw [q1] at hv
      subst hv
      obtain ⟨p, p1, p2⟩ := g1 v' q1
      rw [p1]
      exact p2
    | none =>
      rw [q1] at hv
      subst hv
      rw [g2 q1]
      exact rw'
/-- the object behind a write -/
structure DNew (F : Fx) (Z : Addr → Prop) (H : Hp) (ks : List W) (xv : List V) (o : Obj) : Prop where
  ex : o.ExactDict
  dat : ∃ es ep, o.data = .dict es ep ∧ RD F Z H ks xv es.toList
theorem d_wrote {h' : Heap} {t' : Nat} {o' : Obj} (I : Inv X pins σ H s) (e : H a = some (pinO a o)) (hs : Heap.SameBut a s.heap h') (he : h'.get? a = some o') : Inv X pins σ (upd H a (pinO a o')) { s with heap := h', toks := t' } :=
  d_write I (by rw [e]; exact True.intro) hs ⟨_, he⟩ ⟨he, ⟨_, he⟩, fun h1 h2 p q => q _ p⟩
theorem d_put {v : V} {r : Value} {Q : Unit → Shared → Prop} (hu : A.units + 10 < cLine) (I : Inv X pins σ H s) (p : H a = some (pinO a o)) (D : DAt (fx X ca) Z H a ks xv o) (kf : keyFor ks k = true) (rk : RW (fx X ca) Z H k kv) (ru : RelV kv u) (rv : RelV v r)
    (h : ∀ o' s', Inv X pins σ (upd H a (pinO a o')) s' → DNew (fx X ca) Z H (dSetK ks k) (dSetV ks xv k v) o' → Q () s') : wpAny (model X.prog X.w) A (setItem (.ref a) u r) Q E s := by
  have ho := d_obj I (.inl p)
  obtain ⟨kb, ka⟩ := keyFor_all D.kind kf
  cases t : k.isT with
  | false =>
    have hs : ∀ k' ∈ ks, keyB k' = true ∧ k'.isT = false := fun k' m => ⟨(ka k' m).1, (ka k' m).2.trans t⟩
    obtain ⟨kvs, h1, h2, h3, h4⟩ := D.pairs ho hs
    refine wpAny_setItem_pairs (hsz := by rw [h4]; exact D.len) (keyIs_of rk ru kb t) h1 fun h' dd hs' => ?_
    obtain ⟨q, es, ep, hq, q1, q2, q3, q4, q5⟩ := dd
    obtain ⟨e1, e2⟩ := stored_simple kb t rv hs h2 h3 D.nd
    refine h q _ (d_wrote I p hs' hq) ⟨q1, es, ep, q2, ?_⟩
    rw [← e1]
    exact RD.of_simple q4 (fun e m => q3 e (by simpa using m)) e2
  | true =>
    obtain ⟨xs, h1, h2, h4⟩ := D.nested I ho fun k' m => ⟨(ka k' m).1, (ka k' m).2.trans t⟩
    obtain ⟨b, rfl⟩ := key_ref rk t
    cases ru
    obtain ⟨n, e, dd⟩ := keyB_nk kb
    refine wpAny_setItem_heap (hsz := by rw [h4]; exact D.len) (knd := nestedKind X.prog X.w) (show A.in1.units + 8 < cLine from by show A.units + 1 + 8 < cLine; omega) (show (nestedKind X.prog X.w).is s.heap n b from ⟨rk.nested I e rfl, dd⟩) h1 fun h' d' hs' => ?_
    obtain ⟨q, es, ep, hq, q1, q2, q3, _, q5⟩ := d'
    refine h q _ (d_wrote I p hs' hq) ⟨q1, es, ep, q2, ?_⟩
    rw [q3]
    exact (h2.stored e dd rk rv D.nd).rd
/-- d.setdefault(y, x) -/
theorem d_setdef {d : V} {w : Value} {Q : Value → Shared → Prop} (hu : A.units + 10 < cLine) (I : Inv X pins σ H s) (p : H a = some (pinO a o)) (D : DAt (fx X ca) Z H a ks xv o) (kf : keyFor ks k = true) (rk : RW (fx X ca) Z H k kv) (ru : RelV kv u) (rd : RelV d w)
    (h1 : ∀ v, dGet ks xv k = some v → ∀ t w', RelV v w' → Q w' { s with toks := t })
    (h2 : dGet ks xv k = none → ∀ o' s', Inv X pins σ (upd H a (pinO a o')) s' → DNew (fx X ca) Z H (dSetK ks k) (dSetV ks xv k d) o' → Q w s') : wpAny (model X.prog X.w) A (call (.builtin "dict.setdefault") [.ref a, u, w]) Q E s := by
  have ho := d_obj I (.inl p)
  obtain ⟨kb, ka⟩ := keyFor_all D.kind kf
  cases t : k.isT with
  | false =>
    have hs : ∀ k' ∈ ks, keyB k' = true ∧ k'.isT = false := fun k' m => ⟨(ka k' m).1, (ka k' m).2.trans t⟩
    obtain ⟨kvs, g1, g2, g3, g4⟩ := D.pairs ho hs
    have q := at_simple kb t hs g2 g3
    refine call_meetsIn PySem.F.slot_dict_setdefault g1.typeIs PySem.F.entry_dict_setdefault (PySem.F.args_dict_setdefault_3 _ _ _) (kt_meets_setdefault (mixKind X.prog X.w) a (keyIs_of rk ru kb t) D.sm w) ⟨kvs, g1, by rw [g4]; exact D.len, ?_⟩
    cases q1 : dGet ks xv k with
    | some v' =>
      rw [q1] at q
      obtain ⟨w', hw, r'⟩ := RelO.some_of q
      rw [hw]
      exact ⟨fun v e => by cases e; exact h1 v' q1 _ _ r', fun e => nomatch e⟩
    | none =>
      rw [q1] at q
      rw [RelO.none_of q]
      refine ⟨(fun v e => nomatch e), fun _ h' dd hs' => ?_⟩
      obtain ⟨q, es, ep, hq, q1', q2, q3, q4, q5⟩ := dd
      obtain ⟨e1, e2⟩ := stored_simple kb t rd hs g2 g3 D.nd
      refine h2 q1 q _ (d_wrote I p hs' hq) ⟨q1', es, ep, q2, ?_⟩
      rw [← e1]
      exact RD.of_simple q4 (fun e m => q3 e (by simpa using m)) e2
  | true =>
    obtain ⟨xs, g1, g2, g4⟩ := D.nested I ho fun k' m => ⟨(ka k' m).1, (ka k' m).2.trans t⟩
    obtain ⟨b, rfl⟩ := key_ref rk t
    cases ru
    obtain ⟨n, e, dd⟩ := keyB_nk kb
    obtain ⟨e1, e2⟩ := g2.get e
    refine call_setdefault_heap (hsz := by rw [g4]; exact D.len) (knd := nestedKind X.prog X.w) (show A.in1.units + 8 < cLine from by show A.units + 1 + 8 < cLine; omega) (show (nestedKind X.prog X.w).is s.heap n b from ⟨rk.nested I e rfl, dd⟩) D.sm g1 (fun p hp => ?_) fun hn h' d' hs' => ?_
    · cases q1 : dGet ks xv k with
      | some v' =>
        obtain ⟨p', p1, p2⟩ := e1 v' q1
        rw [hp] at p1
        cases p1
        exact h1 v' q1 _ _ p2
      | none =>
        rw [e2 q1] at hp
        cases hp
    · obtain ⟨q, es, ep, hq, q1, q2, q3, _, q5⟩ := d'
      refine h2 ?_ q _ (d_wrote I p hs' hq) ⟨q1, es, ep, q2, ?_⟩
      · cases q1 : dGet ks xv k with
        | some v' =>
          obtain ⟨p', p1, p2⟩ := e1 v' q1
          rw [hn] at p1
          cases p1
        | none => rfl
      · rw [q3]
        exact (g2.stored e dd rk rd D.nd).rd
end
end AM
/-! text AmS4 -/
set_option Elab.async false
set_option linter.all false
set_option maxRecDepth 100000
set_option maxHeartbeats 2000000
/-! AmS4: in, comparisons, tests. -/
namespace AM
open PySem PySem.Spec PyProof.Rows L2

theorem any_dat {a : W} (ha : a.lay = true) : ∀ {ws : List W}, W.lays ws = true → (ws.any fun y => W.pyeq y a) = (W.dats ws).any fun z => PyData.eqv z a.dat
  | [], _ => rfl
  | x :: r, h => by
    simp only [W.lays, Bool.and_eq_true] at h
    simp only [W.dats, List.any_cons, W.pyeq_ok x a h.1 ha, any_dat ha h.2]
section
variable {X : Cx} {ca : Ca} {g : Gd} {bx : Bx} {H : Hp} {r1 r2 : R} {x y : V} {c : Bool}
theorem inR_ok (b : BxOk (fx X ca) g bx H) (h1 : RR (fx X ca) g H r1 x) (h2 : RR (fx X ca) g H r2 y) (e : inR bx r1 r2 = some c) :
    (∃ (ch : Nat) (z : Str), x = .str ⟨#[ch]⟩ ∧ y = .str z ∧ c = decide (ch ∈ z.cps.toList)) ∨
    (∃ a o ks xv k, y = .ref a ∧ (H a = some (pinO a o) ∨ X.K.lookup a = some o) ∧ DAt (fx X ca) g.Z H a ks xv o ∧ keyFor ks k = true ∧ RW (fx X ca) g.Z H k x ∧ c = (dGet ks xv k).isSome) ∨
    (∃ a vs ds d, y = .ref a ∧ (SqT X.K H a vs ∨ H a = some (.lst vs)) ∧ DpAll X.K H vs ds ∧ Dp X.K H x d ∧ SeqAt.shaped d = true ∧ PyData.canLayAll0 ds = true ∧ c = ds.any fun z => PyData.eqv z d) := by
  unfold inR at e
  split at e
  · split at e
    · rename_i s _ t
      split at e
      · rename_i ch hc
        cases e
        cases h1 with | v h1 => cases h1; cases h2 with | v h2 =>
          cases h2
          refine .inl ⟨ch, s, ?_, rfl, rfl⟩
          congr 1
          obtain ⟨l⟩ := t
          obtain ⟨l⟩ := l
          simp only at hc
          subst hc
          rfl
      · cases e
    · cases e
  · split at e
    · rename_i ks rs e1
      split at e
      · rename_i k
        split at e
        · rename_i hk
          cases e
          obtain ⟨a, o, xv, rfl, p, D, rr⟩ := h2.dct b e1
          cases h1 with | v h1 =>
          refine .inr (.inl ⟨a, o, ks, xv, k, rfl, p, D, hk, h1, ?_⟩)
          obtain ⟨g1, g2⟩ := RRs.dGet (k := k) (ks := ks) rr
          cases q : dGet ks rs k with
          | some r => obtain ⟨v, e2, _⟩ := g1 r q; rw [e2]; rfl
          | none => rw [g2 q]; rfl
        · cases e
      · cases e
    · split at e
      · rename_i ys w e1 e2
        simp only [Option.bind_eq_some_iff] at e
        obtain ⟨ws, e3, e4⟩ := e
        split at e4
        · rename_i hd
          rw [Bool.and_eq_true] at hd
          cases e4
          obtain ⟨a, vs, rfl, hs, _, rr⟩ := h2.seq b e1
          have l1 := W.isDat_lay hd.1
          refine .inr (.inr ⟨a, vs, W.dats ws, w.dat, rfl, hs, ?_, (view_ok b 9 h1 e2).dp l1, W.shaped hd.1, W.dats_lay ws hd.2, any_dat l1 hd.2⟩)
          exact (mapO_ok (P := fun _ _ => True) rr (fun r v w a e => view_ok b 9 a e) e3).dp hd.2
        · cases e4
      · cases e
end
section
variable {X : Cx} {ca : Ca}
theorem op_in (hu : X.A.units + 66 < cLine) : OpR X (compareOp .In) fun x y H Q => tO (fx X ca) (opCmp .isin) [x, y] H Q := by
  intro pins s σ H x y v u Q I rx ry ⟨g, bx, rs, b, rr, p⟩
  obtain ⟨r1, r2, rfl, h1, h2⟩ := rr.two
  replace p : PostO (fx X ca) g H Q (okO (inR bx r1 r2) bx) := p
  unfold okO at p
  split at p
  · rename_i c e
    have q := okB_ok b p
    rcases inR_ok b h1 h2 e with ⟨ch, z, rfl, rfl, rfl⟩ | ⟨a, o, ks, xv, k, rfl, pp, D, kf, rw', rfl⟩ | ⟨a, vs, ds, d, rfl, hs, hds, hd, sd, lay, rfl⟩
    · exact op_in_sign pins s σ H _ _ v u Q I rx ry ⟨ch, z, rfl, rfl, q⟩
    · cases ry
      exact d_has (by omega) I pp D kf rw' rx fun t => ⟨.bl _, H, I.tok _, rfl, q⟩
    · obtain ⟨as, ra⟩ := Dp.reads I d x v hd rx
      rcases hs with hs | hs
      · obtain ⟨bs, rb⟩ := Dp.reads I (.tuple ds) (.ref a) u (.tup hs hds) ry
        exact SeqAt.in_tuple_reads rb ra lay (SeqAt.canLay_of_shaped sd) (room_in_shaped sd (by omega)) ⟨.bl _, H, I, rfl, q⟩
      · obtain ⟨bs, rb⟩ := Dp.reads I (.list ds) (.ref a) u (.lst (.of hs) hds) ry
        exact SeqAt.in_list_reads rb ra lay (SeqAt.canLay_of_shaped sd) (room_in_shaped sd (by omega)) ⟨.bl _, H, I, rfl, q⟩
  · exact p.elim
theorem op_notin (hu : X.A.units + 66 < cLine) : OpR X (compareOp .NotIn) fun x y H Q => tO (fx X ca) (opCmp .notin) [x, y] H Q := by
  intro pins s σ H x y v u Q I rx ry ⟨g, bx, rs, b, rr, p⟩
  obtain ⟨r1, r2, rfl, h1, h2⟩ := rr.two
  replace p : PostO (fx X ca) g H Q (okO ((inR bx r1 r2).map (!·)) bx) := p
  unfold okO at p
  split at p
  · rename_i c e
    simp only [Option.map_eq_some_iff] at e
    obtain ⟨c', e, rfl⟩ := e
    have q := okB_ok b p
    rcases inR_ok b h1 h2 e with ⟨ch, z, rfl, rfl, rfl⟩ | ⟨a, o, ks, xv, k, rfl, pp, D, kf, rw', rfl⟩ | ⟨a, vs, ds, d, rfl, hs, hds, hd, sd, lay, rfl⟩
    · exact op_notIn_sign pins s σ H _ _ v u Q I rx ry ⟨ch, z, rfl, rfl, q⟩
    · cases ry
      exact d_hasnt (by omega) I pp D kf rw' rx fun t => ⟨.bl _, H, I.tok _, rfl, q⟩
    · obtain ⟨as, ra⟩ := Dp.reads I d x v hd rx
      rcases hs with hs | hs
      · obtain ⟨bs, rb⟩ := Dp.reads I (.tuple ds) (.ref a) u (.tup hs hds) ry
        exact SeqAt.notIn_tuple_reads rb ra lay (SeqAt.canLay_of_shaped sd) (room_in_shaped sd (by omega)) ⟨.bl _, H, I, rfl, q⟩
      · obtain ⟨bs, rb⟩ := Dp.reads I (.list ds) (.ref a) u (.lst (.of hs) hds) ry
        exact SeqAt.notIn_list_reads rb ra lay (SeqAt.canLay_of_shaped sd) (room_in_shaped sd (by omega)) ⟨.bl _, H, I, rfl, q⟩
  · exact p.elim
/-- the machine's comparison for the language's -/
def copOf : CmpOp → Option Cop
  | .Eq => some .eq
  | .NotEq => some .ne
  | .Lt => some .lt
  | .LtE => some .le
  | .Gt => some .gt
  | .GtE => some .ge
  | .Is => some .isN
  | .IsNot => some .notN
  | .In => some .isin
  | .NotIn => some .notin
theorem op_cmp (hu : X.A.units + 66 < cLine) {o : Cop} {op : CmpOp} (e : copOf op = some o) : OpR X (compareOp op) fun x y H Q => tO (fx X ca) (opCmp o) [x, y] H Q := by
  cases op <;> simp [copOf] at e <;> subst e
  · exact op_eq (by omega)
  · exact op_ne (by omega)
  · exact op_lt
  · exact op_le
  · exact op_gt
  · exact op_ge
  · exact op_is
  · exact op_isnot
  · exact op_in hu
  · exact op_notin hu
theorem noX_cmp (o : Cop) : NoX (opCmp o) := by
  intro rs bx w bx' h
  unfold opCmp at h
  split at h
  · unfold okO at h
    split at h
    · cases h
    · cases h
  · cases h
end

/-! ### tests -/
def tMT (F : Fx) (Wx : WX) (m : E) : TT := fun σ H Q => tM F Wx m σ H fun v H1 => ∃ c, v = .bl c ∧ Q c H1
structure ST (X : Cx) (ca : Ca) (m : E) (e : Expr) : Prop where
  pt : ∀ Wx : WX, Takes X Wx → PT X e (tMT (fx X ca) Wx m)
structure SW (X : Cx) (ca : Ca) (m : E) (e : Expr) : Prop where
  pw : ∀ Wx : WX, Takes X Wx → PW X e (tMT (fx X ca) Wx m)
theorem PW.imp {X : Cx} {e : Expr} {t t' : TT} (h : PW X e t) (q : ∀ σ H Q, t' σ H Q → t σ H Q) : PW X e t' := ⟨fun wh pins s σ H Q I h' => h.run wh pins s σ H Q I (q σ H Q h')⟩
theorem SW.st {X : Cx} {ca : Ca} {m : E} {e : Expr} (h : SW X ca m e) : ST X ca m e := ⟨fun Wx tk => (h.pw Wx tk).pt⟩
section
variable {F : Fx} {Wx : WX}
theorem tM_imp {m : E} {σ : L2.St} {H : Hp} {Q Q' : VK} (h : tM F Wx m σ H Q) (q : ∀ v H, Q v H → Q' v H) : tM F Wx m σ H Q' := by
  obtain ⟨g, en, bx, a, b, c⟩ := h
  refine ⟨g, en, bx, a, b, ?_⟩
  cases e : m en bx with
  | ok r bx' => rw [e] at c; exact fun g' H' v e' b' r' => q v H' (c g' H' v e' b' r')
  | exc w bx' => rw [e] at c; exact c
  | stuck => rw [e] at c; exact c
theorem tM_bool {m : E} {k : Bool → E} {σ : L2.St} {H : Hp} {Q : VK} (h : tM F Wx (eBool m k) σ H Q) : tM F Wx m σ H fun v H1 => ∃ c, v = .bl c ∧ tM F Wx (k c) σ H1 Q := by
  obtain ⟨g, en, bx, a, b, c⟩ := h
  refine ⟨g, en, bx, a, b, ?_⟩
  replace c : PostR F g σ H Wx Q (match m en bx with
    | .ok r bx' => (match r with
      | .v (.bl b) => k b
      | _ => fun _ _ => .stuck) en bx'
    | .exc w bx' => .exc w bx'
    | .stuck => .stuck) := c
  cases e : m en bx with
  | ok r bx' =>
    rw [e] at c
    intro g' H' v e' b' r'
    cases r with
    | v w =>
      cases w with
      | bl t =>
        cases r' with | v r' => cases r'; exact ⟨t, rfl, g', en, bx', a.mono e', b', PostR.ext e' c⟩
      | _ => exact c.elim
    | r _ => exact c.elim
    | clo _ _ => exact c.elim
  | exc w bx' => rw [e] at c; exact c
  | stuck => rw [e] at c; exact c
theorem tM_bl {t : Bool} {σ : L2.St} {H : Hp} {Q : VK} (h : tM F Wx (eC (.bl t)) σ H Q) : Q (.bl t) H := by
  obtain ⟨g, en, bx, a, b, c⟩ := h
  exact c g H _ (Ext.refl g H) b (.v (.bl t))
end
theorem tK_bind' {F : Fx} {Wx : WX} {m : E} {k0 k : List R → E} {vs : List V} {σ : L2.St} {H : Hp} {Q : VK} (hk : ∀ rs : List R, rs.length = vs.length → k0 rs = eBind m fun r => k (rs ++ [r])) (h : tK F Wx k0 vs σ H Q) : tM F Wx m σ H fun v H1 => tK F Wx k (vs ++ [v]) σ H1 Q := by
  obtain ⟨g, en, bx, rs, a, b, c, p⟩ := h
  rw [hk rs c.length] at p
  refine ⟨g, en, bx, a, b, ?_⟩
  show PostR F g σ H Wx _ (m en bx)
  replace p : PostR F g σ H Wx Q (match m en bx with
    | .ok r bx' => k (rs ++ [r]) en bx'
    | .exc w bx' => .exc w bx'
    | .stuck => .stuck) := p
  cases e : m en bx with
  | ok r bx' =>
    rw [e] at p
    exact fun g' H' v e' b' q => ⟨g', en, bx', rs ++ [r], a.mono e', b', (c.mono e').append (.cons q .nil), PostR.ext e' p⟩
  | exc w bx' =>
    rw [e] at p
    exact p
  | stuck =>
    rw [e] at p
    exact p
section
variable {X : Cx} {ca : Ca} {a b c : Expr} {ma mb mc : E} {pos : Pos} {rest : List Expr} {ms : List E}
/-- e is no comparison, no and, or, not -/
theorem st_val {e : Expr} {m : E} (h : SE X ca m e) (he : ∀ whole, isTrue e X.env whole = (do let v ← whole; standAt e.pos; holding [v] (truthy v))) : ST X ca m e := ⟨fun Wx tk => PT.imp (pt_val (h.pe Wx tk) he) fun σ H Q x => x⟩
theorem se_cmp (hu : X.A.units + 66 < cLine) {o : Cop} {op : CmpOp} (e : copOf op = some o) (ha : SE X ca ma a) (hb : SE X ca mb b) (hm : behindInMarks op b = false) : SE X ca (eOp [ma, mb] (opCmp o)) (.Compare a [op] [b] pos) := ⟨fun Wx tk =>
  PE.imp (pe_cmpR (op_cmp (ca := ca) hu e) (ha.pe Wx tk) (hb.pe Wx tk) hm) fun σ H Q x => tM2 (noX_cmp o) x⟩
theorem st_cmp (hu : X.A.units + 66 < cLine) {o : Cop} {op : CmpOp} (e : copOf op = some o) (ha : SE X ca ma a) (hb : SE X ca mb b) (hm : behindInMarks op b = false) : ST X ca (eOp [ma, mb] (opCmp o)) (.Compare a [op] [b] pos) := ⟨fun Wx tk =>
  PT.imp (pt_cmpR (op_cmp (ca := ca) hu e) (ha.pe Wx tk) (hb.pe Wx tk) hm) fun σ H Q x => tM2 (noX_cmp o) x⟩
theorem se_and1 {op : BoolOp} (ha : SE X ca ma a) : SE X ca ma (.BoolOp op [a] pos) := ⟨fun Wx tk => pe_one (ha.pe Wx tk)⟩
theorem se_and (ha : SE X ca ma a) (hb : SE X ca (eAnd (mb :: ms)) (.BoolOp .And (b :: rest) pos)) : SE X ca (eAnd (ma :: mb :: ms)) (.BoolOp .And (a :: b :: rest) pos) := ⟨fun Wx tk =>
  PE.imp (pe_and (ha.pe Wx tk) (hb.pe Wx tk)) fun σ H Q x => tM_imp (tM_bool x) fun v H1 ⟨c, e, q⟩ => ⟨c, e, by
    cases c with
    | true => exact q
    | false => exact tM_bl q⟩⟩
theorem se_or (ha : SE X ca ma a) (hb : SE X ca (eOr (mb :: ms)) (.BoolOp .Or (b :: rest) pos)) : SE X ca (eOr (ma :: mb :: ms)) (.BoolOp .Or (a :: b :: rest) pos) := ⟨fun Wx tk =>
  PE.imp (pe_or (ha.pe Wx tk) (hb.pe Wx tk)) fun σ H Q x => tM_imp (tM_bool x) fun v H1 ⟨c, e, q⟩ => ⟨c, e, by
    cases c with
    | true => exact tM_bl q
    | false => exact q⟩⟩
theorem se_not (ha : SE X ca ma a) : SE X ca (eNot ma) (.UnaryOp .Not a pos) := ⟨fun Wx tk =>
  PE.imp (pe_not (ha.pe Wx tk)) fun σ H Q x => tM_imp (tM_bool x) fun v H1 ⟨c, e, q⟩ => ⟨c, e, tM_bl q⟩⟩
theorem sw_and1 (ha : ST X ca ma a) : SW X ca ma (.BoolOp .And [a] pos) := ⟨fun Wx tk => pw_and1 (ha.pt Wx tk)⟩
theorem sw_or1 (ha : ST X ca ma a) : SW X ca ma (.BoolOp .Or [a] pos) := ⟨fun Wx tk => pw_or1 (ha.pt Wx tk)⟩
theorem sw_and (ha : ST X ca ma a) (hb : SW X ca (eAnd (mb :: ms)) (.BoolOp .And (b :: rest) pos)) : SW X ca (eAnd (ma :: mb :: ms)) (.BoolOp .And (a :: b :: rest) pos) := ⟨fun Wx tk =>
  PW.imp (pw_and (ha.pt Wx tk) (hb.pw Wx tk)) fun σ H Q x => tM_imp (tM_bool x) fun v H1 ⟨c, e, q⟩ => ⟨c, e, by
    cases c with
    | true => exact q
    | false =>
      obtain ⟨c', e', q'⟩ := tM_bl q
      cases e'
      exact q'⟩⟩
theorem sw_or (ha : ST X ca ma a) (hb : SW X ca (eOr (mb :: ms)) (.BoolOp .Or (b :: rest) pos)) : SW X ca (eOr (ma :: mb :: ms)) (.BoolOp .Or (a :: b :: rest) pos) := ⟨fun Wx tk =>
  PW.imp (pw_or (ha.pt Wx tk) (hb.pw Wx tk)) fun σ H Q x => tM_imp (tM_bool x) fun v H1 ⟨c, e, q⟩ => ⟨c, e, by
    cases c with
    | true =>
      obtain ⟨c', e', q'⟩ := tM_bl q
      cases e'
      exact q'
    | false => exact q⟩⟩
theorem st_not (ha : ST X ca ma a) : ST X ca (eNot ma) (.UnaryOp .Not a pos) := ⟨fun Wx tk =>
  PT.imp (pt_not (ha.pt Wx tk)) fun σ H Q x => tM_imp (tM_bool x) fun v H1 ⟨c, e, q⟩ => ⟨c, e, by
    obtain ⟨c', e', q'⟩ := tM_bl q
    cases e'
    exact q'⟩⟩
theorem se_if (ht : ST X ca mc c) (ha : SE X ca ma a) (hb : SE X ca mb b) : SE X ca (eIf mc ma mb) (.IfExp c a b pos) := ⟨fun Wx tk =>
  PE.imp (pe_ifExp (ht.pt Wx tk) (ha.pe Wx tk) (hb.pe Wx tk)) fun σ H Q x => tM_imp (tM_bool x) fun v H1 ⟨c, e, q⟩ => ⟨c, e, by
    cases c with
    | true => exact q
    | false => exact q⟩⟩

/-- a o1 b o2 c -/
theorem tM_chain {F : Fx} {Wx : WX} {o1 o2 : Cop} {σ : L2.St} {H : Hp} {Q : VK} (h : tM F Wx (eChain o1 o2 ma mb mc) σ H Q) :
    tChain (fun x y H Q => tO F (opCmp o1) [x, y] H Q) (fun x y H Q => tO F (opCmp o2) [x, y] H Q) (tM F Wx ma) (tM F Wx mb) (tM F Wx mc) σ H Q := by
  have s1 := tK_bind' (vs := []) (k := fun rs => match rs with
    | [x] => eBind mb fun y => eBool (fun _ bx => opCmp o1 [x, y] bx) fun t => if t then eBind mc fun z => fun _ bx => opCmp o2 [y, z] bx else eC (.bl false)
    | _ => fun _ _ => .stuck) (fun rs hl => by
      have : rs = [] := List.eq_nil_of_length_eq_zero hl
      subst this
      rfl) (tK_of (m := eChain o1 o2 ma mb mc) h)
  refine tM_imp s1 fun x H1 s2 => ?_
  have s3 := tK_bind' (m := mb) (k := fun rs => match rs with
    | [x, y] => eBool (fun _ bx => opCmp o1 [x, y] bx) fun t => if t then eBind mc fun z => fun _ bx => opCmp o2 [y, z] bx else eC (.bl false)
    | _ => fun _ _ => .stuck) (fun rs hl => by
      match rs, hl with
      | [x], _ => rfl) s2
  refine tM_imp s3 fun y H2 s4 => ?_
  obtain ⟨g, en, bx, rs, A, B, rr, p⟩ := s4
  obtain ⟨r1, r2, rfl, h1, h2⟩ := rr.two
  refine ⟨g, bx, [r1, r2], B, rr, ?_⟩
  replace p : PostR F g σ H2 Wx Q ((eBool (fun _ bx => opCmp o1 [r1, r2] bx) fun t => if t then eBind mc fun z => fun _ bx => opCmp o2 [r2, z] bx else eC (.bl false)) en bx) := p
  have q := tM_bool (F := F) (Wx := Wx) (σ := σ) (H := H2) (Q := Q) (k := fun t => if t then eBind mc fun z => fun _ bx => opCmp o2 [r2, z] bx else eC (.bl false)) (m := fun _ bx => opCmp o1 [r1, r2] bx) ⟨g, en, bx, A, B, p⟩
  cases e : opCmp o1 [r1, r2] bx with
  | ok r bx' =>
    replace p : PostR F g σ H2 Wx Q (match opCmp o1 [r1, r2] bx with
      | .ok r bx' => (match r with
        | .v (.bl b) => if b then eBind mc fun z => fun _ bx => opCmp o2 [r2, z] bx else eC (.bl false)
        | _ => fun _ _ => .stuck) en bx'
      | .exc w bx' => .exc w bx'
      | .stuck => .stuck) := p
    rw [e] at p
    intro g' H' v e' b' r'
    cases r with
    | v w =>
      cases w with
      | bl t =>
        cases r' with | v r' =>
        cases r'
        refine ⟨t, rfl, ?_⟩
        have p' := PostR.ext e' p
        cases t with
        | true =>
          rw [if_pos rfl]
          replace p' : PostR F g' σ H' Wx Q ((eBind mc fun z => fun _ bx => opCmp o2 [r2, z] bx) en bx') := p'
          have s5 := tK_bind (vs := [y]) (σ := σ) (H := H') (Q := Q) (m := mc) (Wx := Wx) (F := F) (k := fun rs _ bx => opCmp o2 rs bx) ⟨g', en, bx', [r2], A.mono e', b', .cons (h2.mono e') .nil, p'⟩
          exact tM_imp s5 fun z H4 s6 => tK_op (noX_cmp o2) s6
        | false =>
          rw [if_neg Bool.false_ne_true]
          exact p' g' H' _ (Ext.refl g' H') b' (.v (.bl false))
      | _ => exact p.elim
    | r _ => exact p.elim
    | clo _ _ => exact p.elim
  | exc w bx' => exact absurd e (noX_cmp o1 _ _ _ _)
  | stuck =>
    replace p : PostR F g σ H2 Wx Q (match opCmp o1 [r1, r2] bx with
      | .ok r bx' => (match r with
        | .v (.bl b) => if b then eBind mc fun z => fun _ bx => opCmp o2 [r2, z] bx else eC (.bl false)
        | _ => fun _ _ => .stuck) en bx'
      | .exc w bx' => .exc w bx'
      | .stuck => .stuck) := p
    rw [e] at p
    exact p.elim
theorem se_chain (hu : X.A.units + 66 < cLine) {o1 o2 : Cop} {op op' : CmpOp} (e1 : copOf op = some o1) (e2 : copOf op' = some o2) (ha : SE X ca ma a) (hb : SE X ca mb b) (hc : SE X ca mc c) (hm : lastMarks [op, op'] [b, c] = false) :
    SE X ca (eChain o1 o2 ma mb mc) (.Compare a [op, op'] [b, c] pos) := ⟨fun Wx tk =>
  PE.imp (pe_chain (op_cmp (ca := ca) hu e1) (op_cmp (ca := ca) hu e2) (ha.pe Wx tk) (hb.pe Wx tk) (hc.pe Wx tk) hm) fun σ H Q x => tM_chain x⟩
theorem st_chain (hu : X.A.units + 66 < cLine) {o1 o2 : Cop} {op op' : CmpOp} (e1 : copOf op = some o1) (e2 : copOf op' = some o2) (ha : SE X ca ma a) (hb : SE X ca mb b) (hc : SE X ca mc c) (hm : lastMarks [op, op'] [b, c] = false) :
    ST X ca (eChain o1 o2 ma mb mc) (.Compare a [op, op'] [b, c] pos) := ⟨fun Wx tk =>
  PT.imp (pt_chain (op_cmp (ca := ca) hu e1) (op_cmp (ca := ca) hu e2) (ha.pe Wx tk) (hb.pe Wx tk) (hc.pe Wx tk) hm) fun σ H Q x => tM_chain x⟩
end
end AM
/-! text AmT1 -/
set_option Elab.async false
set_option linter.all false
set_option maxRecDepth 100000
set_option maxHeartbeats 2000000
/-! AmT1: statements. -/
namespace AM
open PySem PySem.Spec PyProof.Rows L2

def PostC (F : Fx) (g : Gd) (H : Hp) (Wx : WX) (D : Ends) : Ct → Prop
  | .nx en bx => ∀ g' σ' H', Ext g H g' H' → BxOk F g' bx H' → EnOk F g' en σ' H' → D.nx σ' H'
  | .ct en bx => ∀ g' σ' H', Ext g H g' H' → BxOk F g' bx H' → EnOk F g' en σ' H' → D.ct σ' H'
  | .rt r bx => ∀ g' H' v, Ext g H g' H' → BxOk F g' bx H' → RR F g' H' r v → D.rt v H'
  | .exc w en bx => ∀ g' σ' H' cls d, Ext g H g' H' → BxOk F g' bx H' → EnOk F g' en σ' H' → XR F g' H' w cls d → Wx cls d σ' H'
  | .stuck => False
theorem PostC.ext {F : Fx} {g g1 : Gd} {H H1 : Hp} {Wx : WX} {D : Ends} {r : Ct} (e : Ext g H g1 H1) (h : PostC F g H Wx D r) : PostC F g1 H1 Wx D r := by
  cases r with
  | nx en bx => exact fun g' σ' H' e' => h g' σ' H' (e.trans e')
  | ct en bx => exact fun g' σ' H' e' => h g' σ' H' (e.trans e')
  | rt r bx => exact fun g' H' v e' => h g' H' v (e.trans e')
  | exc w en bx => exact fun g' σ' H' c d e' => h g' σ' H' c d (e.trans e')
  | stuck => exact h
/-- a statement's meaning, in any frame and boxes that stand -/
def tS (F : Fx) (Wx : WX) (c : C) : TS := fun D σ H => ∃ g en bx, EnOk F g en σ H ∧ BxOk F g bx H ∧ PostC F g H Wx D (c en bx)
/-- .. with an answer at hand -/
def tSK (F : Fx) (Wx : WX) (k : R → C) (v : V) : TS := fun D σ H => ∃ g en bx r, EnOk F g en σ H ∧ BxOk F g bx H ∧ RR F g H r v ∧ PostC F g H Wx D (k r en bx)
structure SS (X : Cx) (ca : Ca) (c : C) (st : Stmt) : Prop where
  ps : ∀ Wx : WX, Takes X Wx → PS X st (tS (fx X ca) Wx c)
structure SSs (X : Cx) (ca : Ca) (c : C) (st : List Stmt) : Prop where
  ps : ∀ Wx : WX, Takes X Wx → PSs X st (tS (fx X ca) Wx c)
theorem PS.imp {X : Cx} {e : Stmt} {t t' : TS} (h : PS X e t) (q : ∀ D σ H, t' D σ H → t D σ H) : PS X e t' := ⟨fun pins s σ H D I h' => h.run pins s σ H D I (q D σ H h')⟩
theorem PSs.imp {X : Cx} {e : List Stmt} {t t' : TS} (h : PSs X e t) (q : ∀ D σ H, t' D σ H → t D σ H) : PSs X e t' := ⟨fun pins s σ H D I h' => h.run pins s σ H D I (q D σ H h')⟩

section
variable {F : Fx} {Wx : WX} {D : Ends} {σ : L2.St} {H : Hp}
theorem tS_cE {m : E} {k : R → C} (h : tS F Wx (cE m k) D σ H) : tM F Wx m σ H fun v H1 => tSK F Wx k v D σ H1 := by
  obtain ⟨g, en, bx, a, b, c⟩ := h
  refine ⟨g, en, bx, a, b, ?_⟩
  replace c : PostC F g H Wx D (match m en bx with
    | .ok r bx' => k r en bx'
    | .exc w bx' => .exc w en bx'
    | .stuck => .stuck) := c
  cases e : m en bx with
  | ok r bx' =>
    rw [e] at c
    exact fun g' H' v e' b' r' => ⟨g', en, bx', r, a.mono e', b', r', c.ext e'⟩
  | exc w bx' =>
    rw [e] at c
    exact fun g' H' cls d e' b' x => c g' σ H' cls d e' b' (a.mono e') x
  | stuck => rw [e] at c; exact c
theorem tS_cB {m : E} {k : Bool → C} (h : tS F Wx (cB m k) D σ H) : tMT F Wx m σ H fun c H1 => tS F Wx (k c) D σ H1 := by
  refine tM_imp (tS_cE h) fun v H1 ⟨g, en, bx, r, a, b, rr, p⟩ => ?_
  cases r with
  | v w =>
    cases w with
    | bl t => cases rr with | v rr => cases rr; exact ⟨t, rfl, g, en, bx, a, b, p⟩
    | _ => exact p.elim
  | r _ => exact p.elim
  | clo _ _ => exact p.elim
theorem tS_pass (h : tS F Wx cPass D σ H) : D.nx σ H := by
  obtain ⟨g, en, bx, a, b, c⟩ := h
  exact c g σ H (Ext.refl g H) b a
end

section
variable {X : Cx} {ca : Ca} {pos : Pos} {st : Stmt} {sts body orelse : List Stmt} {e t : Expr} {m mt : E} {c c1 c2 : C} {cs : List C}
theorem ss_pass : SS X ca cPass (.Pass pos) := ⟨fun Wx tk => PS.imp ps_pass fun D σ H h => tS_pass h⟩
theorem ss_doc {x j pos pos'} : SS X ca cPass (.Expr (.Constant (.str x) j pos) pos') := ⟨fun Wx tk => PS.imp ps_doc fun D σ H h => tS_pass h⟩
theorem ss_cont : SS X ca cCont (.Continue pos) := ⟨fun Wx tk => PS.imp ps_continue fun D σ H ⟨g, en, bx, a, b, c⟩ => c g σ H (Ext.refl g H) b a⟩
theorem ss_exp (he : SE X ca m e) (hs : swapsWith e none pos.line X.env = pure false) : SS X ca (cExp m) (.Expr e pos) := ⟨fun Wx tk =>
  PS.imp (ps_expr (he.pe Wx tk) hs) fun D σ H h => tM_imp (tS_cE h) fun v H1 ⟨g, en, bx, r, a, b, rr, p⟩ => p g σ H1 (Ext.refl g H1) b a⟩
theorem ss_ret (he : SE X ca m e) : SS X ca (cRet m) (.Return (some e) pos) := ⟨fun Wx tk =>
  PS.imp (ps_ret (he.pe Wx tk)) fun D σ H h => tM_imp (tS_cE h) fun v H1 ⟨g, en, bx, r, a, b, rr, p⟩ => p g H1 v (Ext.refl g H1) b rr⟩
theorem ss_retN : SS X ca cRetN (.Return none pos) := ⟨fun Wx tk => PS.imp ps_retN fun D σ H ⟨g, en, bx, a, b, c⟩ => c g H .non (Ext.refl g H) b (.v .non)⟩
theorem sss_nil : SSs X ca cPass [] := ⟨fun Wx tk => PSs.imp pss_nil fun D σ H h => tS_pass h⟩
theorem sss_one (h : SS X ca c st) : SSs X ca (cSeq [c]) [st] := ⟨fun Wx tk => pss_one (h.ps Wx tk)⟩
theorem sss_cons (h : SS X ca c st) (hr : SSs X ca (cSeq (c1 :: cs)) sts) : SSs X ca (cSeq (c :: c1 :: cs)) (st :: sts) := ⟨fun Wx tk =>
  PSs.imp (pss_cons (h.ps Wx tk) (hr.ps Wx tk)) fun D σ H ⟨g, en, bx, a, b, p⟩ => by
    refine ⟨g, en, bx, a, b, ?_⟩
    replace p : PostC (fx X ca) g H Wx D (match c en bx with
      | .nx en' bx' => cSeq (c1 :: cs) en' bx'
      | x => x) := p
    cases q : c en bx with
    | nx en' bx' =>
      rw [q] at p
      exact fun g' σ' H' e' b' a' => ⟨g', en', bx', a', b', PostC.ext e' p⟩
    | ct en' bx' => rw [q] at p; exact p
    | rt r bx' => rw [q] at p; exact p
    | exc w en' bx' => rw [q] at p; exact p
    | stuck => rw [q] at p; exact p⟩
theorem ss_if (ht : ST X ca mt t) (h1 : SSs X ca c1 body) (h2 : SSs X ca c2 orelse) : SS X ca (cIf mt c1 c2) (.If t body orelse pos) := ⟨fun Wx tk =>
  PS.imp (ps_if (ht.pt Wx tk) (h1.ps Wx tk) (h2.ps Wx tk)) fun D σ H h => tM_imp (tS_cB h) fun v H1 ⟨b, e, q⟩ => ⟨b, e, by
    cases b with
    | true => exact q
    | false => exact q⟩⟩
end

/-! ### targets -/
inductive RI (F : Fx) (g : Gd) (H : Hp) : AM.It → V → Prop
  | one {r : R} {v : V} : RR F g H r v → RI F g H (.one r) v
  | pr {a b : R} {x y : V} {p : Addr} : g.Z p → Rd H p (.tup [x, y]) → RR F g H a x → RR F g H b y → RI F g H (.pr a b) (.ref p)
theorem RI.mono {F : Fx} {g g' : Gd} {H H' : Hp} (e : Ext g H g' H') {i : AM.It} {v : V} (h : RI F g H i v) : RI F g' H' i v := by
  cases h with
  | one r => exact .one (r.mono e)
  | pr z q r1 r2 => exact .pr (e.z _ z) (Rd.stay q (e.zk _ z)) (r1.mono e) (r2.mono e)
mutual
/-- the slots that a target stores -/
def tgS : Tg → List Nat
  | .nm i => [i]
  | .tp ts => tgSs ts
def tgSs : List Tg → List Nat
  | [] => []
  | t :: ts => tgS t ++ tgSs ts
end
/-- but for these slots the same -/
structure Same (is : List Nat) (σ σ' : L2.St) : Prop where
  len : σ'.length = σ.length
  at_ : ∀ i, i ∉ is → σ'[i]? = σ[i]?
theorem Same.refl {is : List Nat} {σ : L2.St} : Same is σ σ := ⟨rfl, fun _ _ => rfl⟩
theorem Same.trans {a b : List Nat} {σ σ1 σ2 : L2.St} (x : Same a σ σ1) (y : Same b σ1 σ2) : Same (a ++ b) σ σ2 :=
  ⟨y.len.trans x.len, fun i h => (y.at_ i fun z => h (List.mem_append_right _ z)).trans (x.at_ i fun z => h (List.mem_append_left _ z))⟩
theorem Same.one {i : Nat} {σ : L2.St} {v : Option V} : Same [i] σ (σ.set i v) := ⟨by simp, fun j h => List.getElem?_set_ne fun z => h (by simp [z])⟩
def tG (F : Fx) (t : Tg) : TG := fun v σ H Q => ∃ g en bx it en', EnOk F g en σ H ∧ BxOk F g bx H ∧ RI F g H it v ∧ asg t it en bx = some en' ∧ ∀ σ', EnOk F g en' σ' H → Same (tgS t) σ σ' → Q σ' H
def tGs (F : Fx) (ts : List Tg) : TGs := fun vs σ H Q => ∃ g en bx rs en', EnOk F g en σ H ∧ BxOk F g bx H ∧ RRs F g H rs vs ∧ asgs ts rs en bx = some en' ∧ ∀ σ', EnOk F g en' σ' H → Same (tgSs ts) σ σ' → Q σ' H
theorem EnOk.set {F : Fx} {g : Gd} {en : En} {σ : L2.St} {H : Hp} {i : Nat} {r : R} {v : V} (h : EnOk F g en σ H) (x : RR F g H r v) : EnOk F g (en.set i (some r)) (σ.set i (some v)) H := by
  refine ⟨by simp [h.1], fun j r' e => ?_⟩
  by_cases z : j = i
  · subst z
    by_cases l : j < en.length
    · rw [List.getElem?_set_self l] at e
      cases e
      exact ⟨v, List.getElem?_set_self (by rw [← h.1]; exact l), x⟩
    · rw [List.getElem?_eq_none (by simpa using l)] at e
      cases e
  · rw [List.getElem?_set_ne (Ne.symm z)] at e
    rw [List.getElem?_set_ne (Ne.symm z)]
    exact h.2 j r' e
theorem EnOk.unset {F : Fx} {g : Gd} {en : En} {σ : L2.St} {H : Hp} {i : Nat} (h : EnOk F g en σ H) : EnOk F g (en.set i none) (σ.set i none) H := by
  refine ⟨by simp [h.1], fun j r' e => ?_⟩
  by_cases z : j = i
  · subst z
    by_cases l : j < en.length
    · rw [List.getElem?_set_self l] at e
      cases e
    · rw [List.getElem?_eq_none (by simpa using l)] at e
      cases e
  · rw [List.getElem?_set_ne (Ne.symm z)] at e
    rw [List.getElem?_set_ne (Ne.symm z)]
    exact h.2 j r' e
theorem asgs_len {ts : List Tg} : ∀ {rs : List R} {en en' : En} {bx : Bx}, asgs ts rs en bx = some en' → rs.length = ts.length := by
  induction ts with
  | nil =>
    intro rs en en' bx h
    cases rs with
    | nil => rfl
    | cons _ _ => simp [asgs] at h
  | cons t ts ih =>
    intro rs en en' bx h
    cases rs with
    | nil => simp [asgs] at h
    | cons r rs =>
      simp only [asgs] at h
      split at h
      · simp [ih h]
      · cases h
structure SG (X : Cx) (ca : Ca) (t : Tg) (e : Expr) : Prop where
  pg : PG X e (tG (fx X ca) t)
structure SGs (X : Cx) (ca : Ca) (ts : List Tg) (es : List Expr) : Prop where
  pg : PGs X es (tGs (fx X ca) ts)
theorem PG.imp {X : Cx} {e : Expr} {t t' : TG} (h : PG X e t) (q : ∀ v σ H Q, t' v σ H Q → t v σ H Q) : PG X e t' := ⟨fun pins s σ H v u Q I r h' => h.run pins s σ H v u Q I r (q v σ H Q h')⟩
theorem PGs.imp {X : Cx} {e : List Expr} {t t' : TGs} (h : PGs X e t) (q : ∀ v σ H Q, t' v σ H Q → t v σ H Q) : PGs X e t' := ⟨fun pins s σ H v u Q I r h' => h.run pins s σ H v u Q I r (q v σ H Q h')⟩
theorem RI.one' {F : Fx} {g : Gd} {H : Hp} {r : R} {v : V} (h : RI F g H (.one r) v) : RR F g H r v := by cases h with | one h => exact h
section
variable {X : Cx} {ca : Ca} {pos : Pos} {e : Expr} {es : List Expr} {t : Tg} {ts : List Tg}
theorem sg_name {i : Nat} {x : Str} (hN : X.N.Nodup) (hi : X.N[i]? = some x) (hx : Loc X.env.scope x) (hf : X.fn x = true ∨ X.env.scope.names.lookup x = some .local) : SG X ca (.nm i) (.Name x pos) := ⟨
  PG.imp (pg_name hN hi hx hf) fun v σ H Q ⟨g, en, bx, it, en', a, b, r, q, k⟩ => by
    show Q (σ.set i (some v)) H
    cases r with
    | @one r v r1 =>
      simp only [asg] at q
      split at q
      · cases q; exact k _ (a.set r1) .one
      · cases q
    | @pr r1 r2 x y p z rd h1 h2 =>
      simp only [asg] at q
      split at q
      · rename_i w1 w2 e1 e2
        split at q
        · cases q
          refine k _ (a.set (.v (.tup (.inl ⟨z, rd⟩) (by rw [sizeLine_eq]; show 2 ≤ 16777216; decide) ?_))) .one
          cases r1 <;> simp [valO] at e1
          cases r2 <;> simp [valO] at e2
          subst e1
          subst e2
          cases h1 with | v h1 => cases h2 with | v h2 => exact .cons h1 (.cons h2 .nil)
        · cases q
      · cases q⟩
theorem sgs_nil : SGs X ca [] [] := ⟨
  PGs.imp pgs_nil fun v σ H Q ⟨g, en, bx, rs, en', a, b, r, q, k⟩ => by
    cases r with
    | nil => simp only [asgs, Option.some.injEq] at q; subst q; exact ⟨rfl, k σ a .refl⟩
    | cons _ _ => simp [asgs] at q⟩
theorem sgs_cons (hs : (assignEach (e :: es) X.env).map (·.2) = assign e X.env :: (assignEach es X.env).map (·.2)) (h1 : SG X ca t e) (h2 : SGs X ca ts es) : SGs X ca (t :: ts) (e :: es) := ⟨
  PGs.imp (pgs_cons h1.pg h2.pg hs) fun v σ H Q ⟨g, en, bx, rs, en', a, b, r, q, k⟩ => by
    cases r with
    | nil => simp [asgs] at q
    | cons r1 rr =>
      simp only [asgs] at q
      split at q
      · rename_i en1 q1
        exact ⟨_, _, rfl, g, en, bx, _, en1, a, b, .one r1, q1, fun σ' a' sm => ⟨g, en1, bx, _, en', a', b, rr, q, fun σ2 a2 sm2 => k σ2 a2 (sm.trans sm2)⟩⟩
      · cases q⟩
theorem sg_tup {k : Nat} (hc : X.calm = true) (h : SGs X ca ts es) (hn : (assignEach es X.env).length = ts.length) (hst : (assignEach es X.env).findIdx? (·.1) = none) : SG X ca (.tp ts) (.Tuple es k pos) := ⟨
  PG.imp (pg_tup hc h.pg hn hst) fun v σ H Q ⟨g, en, bx, it, en', a, b, r, q, kk⟩ => by
    cases r with
    | @one r v r1 =>
      simp only [asg] at q
      split at q
      · rename_i ws
        cases r1 with | v r1 =>
        cases r1 with
        | @tup _ p vs pp l rs =>
          refine ⟨p, vs, rfl, RW.sqT pp, ?_, g, en, bx, _, en', a, b, .of rs, q, kk⟩
          have := asgs_len q
          simp at this
          rw [← rs.length, this]
      · cases q
    | @pr r1 r2 x y p z rd h1 h2 =>
      simp only [asg] at q
      exact ⟨p, [x, y], rfl, .inl rd, asgs_len q, g, en, bx, _, en', a, b, .cons h1 (.cons h2 .nil), q, kk⟩⟩
theorem ss_asg {m : E} {e1 e2 : Expr} (he : SE X ca m e2) (hg : SG X ca t e1) (hs : swapsWithSole [e1] e2 pos.line X.env = pure false) (hw : swappedStores [e1] e2 X.env = pure none) (h1 : (assignEach [e1] X.env).map (·.2) = [assign e1 X.env]) : SS X ca (cAsg t m) (.Assign [e1] e2 pos) := ⟨fun Wx tk =>
  PS.imp (ps_asg (he.pe Wx tk) hg.pg hs hw h1) fun D σ H h => tM_imp (tS_cE h) fun v H1 ⟨g, en, bx, r, a, b, rr, p⟩ => by
    replace p : PostC (fx X ca) g H1 Wx D (match asg t (.one r) en bx with
      | some en' => .nx en' bx
      | none => .stuck) := p
    split at p
    · rename_i en' q
      exact ⟨g, en, bx, _, en', a, b, .one rr, q, fun σ' a' _ => p g σ' H1 (Ext.refl g H1) b a'⟩
    · exact p.elim⟩
theorem ss_set {m : E} {i : Nat} {x : Str} {e2 : Expr} {pos' : Pos} (hN : X.N.Nodup) (hi : X.N[i]? = some x) (hx : Loc X.env.scope x) (hf : X.fn x = true ∨ X.env.scope.names.lookup x = some .local) (he : SE X ca m e2) (hs : swapsWith e2 (some (.Name x pos')) pos.line X.env = pure false) :
    SS X ca (cAsg (.nm i) m) (.Assign [.Name x pos'] e2 pos) := ⟨fun Wx tk =>
  PS.imp (L2.ps_set hN hi hx (he.pe Wx tk) hs hf) fun D σ H h => tM_imp (tS_cE h) fun v H1 ⟨g, en, bx, r, a, b, rr, p⟩ => by
    replace p : PostC (fx X ca) g H1 Wx D (match (if i < en.length then some (en.set i (some r)) else none) with
      | some en' => .nx en' bx
      | none => .stuck) := p
    split at p
    · rename_i en' q
      split at q
      · cases q
        exact p g _ H1 (Ext.refl g H1) b (a.set rr)
      · cases q
    · exact p.elim⟩
end

/-! ### while -/
section
variable {X : Cx} {ca : Ca} {pos : Pos} {t : Expr} {body : List Stmt} {mt : E} {c : C}
theorem ss_while (hp : PassesOwn (model X.prog X.w) X.A X.env X.xe) (ht : ST X ca mt t) (hb : SSs X ca c body) : SS X ca (cWhile mt c) (.While t body [] pos) := ⟨fun Wx tk =>
  PS.imp (ps_while hp (ht.pt Wx tk) (hb.ps Wx tk)) fun D σ H ⟨g, en, bx, a, b, p⟩ => by
    refine ⟨fun n σ' H' => ∃ g en bx, EnOk (fx X ca) g en σ' H' ∧ BxOk (fx X ca) g bx H' ∧ PostC (fx X ca) g H' Wx D (whileGo mt c n en bx), ⟨WF, g, en, bx, a, b, p⟩, ?_⟩
    clear a b p
    intro n σ1 H1 ⟨g, en, bx, a, b, p⟩
    cases n with
    | zero => exact p.elim
    | succ n =>
      refine ⟨g, en, bx, a, b, ?_⟩
      simp only [whileGo] at p
      cases e : mt en bx with
      | ok r bx1 =>
        rw [e] at p
        intro g' H' v e' b' r'
        have p' := PostC.ext e' p
        cases r with
        | v w =>
          cases w with
          | bl t =>
            cases r' with | v r' =>
            cases r'
            refine ⟨t, rfl, ?_⟩
            cases t with
            | true =>
              rw [if_pos rfl]
              refine ⟨_, fun σ' H' q => ⟨n, Nat.lt_succ_self n, q⟩, g', en, bx1, a.mono e', b', ?_⟩
              simp only at p'
              cases e2 : c en bx1 with
              | nx en2 bx2 => rw [e2] at p'; exact fun g2 σ2 H2 e3 b3 a3 => ⟨g2, en2, bx2, a3, b3, PostC.ext e3 p'⟩
              | ct en2 bx2 => rw [e2] at p'; exact fun g2 σ2 H2 e3 b3 a3 => ⟨g2, en2, bx2, a3, b3, PostC.ext e3 p'⟩
              | rt r bx2 => rw [e2] at p'; exact p'
              | exc w en2 bx2 => rw [e2] at p'; exact p'
              | stuck => rw [e2] at p'; exact p'
            | false =>
              rw [if_neg Bool.false_ne_true]
              exact p' g' _ H' (Ext.refl g' H') b' (a.mono e')
          | _ => exact p'.elim
        | r _ => exact p'.elim
        | clo _ _ => exact p'.elim
      | exc w bx1 =>
        rw [e] at p
        exact fun g' H' cls d e' b' x => p g' _ H' cls d e' b' (a.mono e') x
      | stuck => rw [e] at p; exact p⟩
end

/-! ### for -/
/-- the iterator yields these -/
structure JOk (F : Fx) (g : Gd) (H : Hp) (J : L2.It) (xs : List AM.It) (gd : Option (Nat × Box)) : Prop where
  go : ∀ i g' H' bx, Ext g H g' H' → BxOk F g' bx H' → guarded bx gd = true → i < xs.length → J.go i H'
  stop : ∀ i g' H' bx, Ext g H g' H' → BxOk F g' bx H' → guarded bx gd = true → xs.length ≤ i → J.stop i H'
  yld : ∀ i g' H' bx v H'' x, Ext g H g' H' → BxOk F g' bx H' → guarded bx gd = true → xs[i]? = some x → J.yld i H' v H'' → ∃ g'', Ext g' H' g'' H'' ∧ BxOk F g'' bx H'' ∧ RI F g'' H'' x v
def tI (F : Fx) (Wx : WX) (i : I) : TI := fun σ H R => ∃ g en bx, EnOk F g en σ H ∧ BxOk F g bx H ∧ match i en bx with
  | .ok xs gd bx' => ∀ g' H' J, Ext g H g' H' → BxOk F g' bx' H' → JOk F g' H' J xs gd → R J H'
  | .exc w bx' => ∀ g' H' cls d, Ext g H g' H' → BxOk F g' bx' H' → XR F g' H' w cls d → Wx cls d σ H'
  | .stuck => False
structure SI (X : Cx) (ca : Ca) (i : I) (tg e : Expr) : Prop where
  pi : ∀ Wx : WX, Takes X Wx → PI X tg e (tI (fx X ca) Wx i)
theorem PI.imp {X : Cx} {tg e : Expr} {t t' : TI} (h : PI X tg e t) (q : ∀ σ H R, t' σ H R → t σ H R) : PI X tg e t' := ⟨fun pins s σ H R I h' => h.run pins s σ H R I (q σ H R h')⟩
section
variable {X : Cx} {ca : Ca} {pos : Pos} {tg it : Expr} {body : List Stmt} {t : Tg} {i : I} {c : C}
theorem ss_for (hp : PassesOwn (model X.prog X.w) X.A X.env X.xe) (hc : X.calm = true) (hi : SI X ca i tg it) (hg : SG X ca t tg) (hb : SSs X ca c body) (hs : ∀ x, foldedSetIterable it X.env x = pure x) : SS X ca (cFor t i c) (.For tg it body [] pos) := ⟨fun Wx tk =>
  PS.imp (ps_for hp hc (hi.pi Wx tk) hg.pg (hb.ps Wx tk) hs) fun D σ H ⟨g, en, bx, a, b, p⟩ => by
    refine ⟨g, en, bx, a, b, ?_⟩
    replace p : PostC (fx X ca) g H Wx D (match i en bx with
      | .ok xs g bx' => forGo t c g xs en bx'
      | .exc w bx' => .exc w en bx'
      | .stuck => .stuck) := p
    cases e : i en bx with
    | stuck => rw [e] at p; exact p
    | exc w bx1 => rw [e] at p; exact fun g' H' cls d e' b' x => p g' _ H' cls d e' b' (a.mono e') x
    | ok xs gd bx1 =>
      rw [e] at p
      intro g1 H1 J e1 b1 jo
      refine ⟨fun i n σ' H' => n + i = xs.length ∧ ∃ g' en bx, Ext g1 H1 g' H' ∧ EnOk (fx X ca) g' en σ' H' ∧ BxOk (fx X ca) g' bx H' ∧ PostC (fx X ca) g' H' Wx D (forGo t c gd (xs.drop i) en bx), ⟨xs.length, rfl, g1, en, bx1, Ext.refl g1 H1, a.mono e1, b1, PostC.ext e1 p⟩, ?_⟩
      clear a b p e e1 b1 en
      intro i n σ2 H2 ⟨hn, g2, en, bx, x2, a, b, p⟩
      by_cases hi : i < xs.length
      · right
        have hd : xs.drop i = xs[i] :: xs.drop (i + 1) := List.drop_eq_getElem_cons hi
        rw [hd] at p
        simp only [forGo] at p
        split at p
        · rename_i gd1
          refine ⟨jo.go i g2 H2 bx x2 b gd1 hi, _, fun σ' H' q => ⟨n - 1, by omega, q⟩, fun v H3 y => ?_⟩
          obtain ⟨g3, x3, b3, ri⟩ := jo.yld i g2 H2 bx v H3 xs[i] x2 b gd1 (List.getElem?_eq_getElem hi) y
          have p := PostC.ext x3 p
          split at p
          · rename_i en' q
            refine ⟨g3, en, bx, _, en', a.mono x3, b3, ri, q, fun σ' a' _ => ⟨g3, en', bx, a', b3, ?_⟩⟩
            cases e2 : c en' bx with
            | nx en2 bx2 => rw [e2] at p; exact fun g4 σ4 H4 e4 b4 a4 => ⟨by omega, g4, en2, bx2, x2.trans (x3.trans e4), a4, b4, PostC.ext e4 p⟩
            | ct en2 bx2 => rw [e2] at p; exact fun g4 σ4 H4 e4 b4 a4 => ⟨by omega, g4, en2, bx2, x2.trans (x3.trans e4), a4, b4, PostC.ext e4 p⟩
            | rt r bx2 => rw [e2] at p; exact p
            | exc w en2 bx2 => rw [e2] at p; exact p
            | stuck => rw [e2] at p; exact p
          · exact p.elim
        · exact p.elim
      · left
        have hd : xs.drop i = [] := List.drop_eq_nil_of_le (by omega)
        rw [hd] at p
        simp only [forGo] at p
        split at p
        · rename_i gd1
          exact ⟨jo.stop i g2 H2 bx x2 b gd1 (by omega), p g2 σ2 H2 (Ext.refl g2 H2) b a⟩
        · exact p.elim⟩
end
end AM
/-! text AmI1 -/
set_option Elab.async false
set_option linter.all false
set_option maxRecDepth 100000
set_option maxHeartbeats 2000000
/-! AmI1: what is walked: lists, tuples, texts, the keys of dicts, ranges. -/
namespace AM
open PySem PySem.Spec PyProof.Rows L2

theorem itL_stay {bx bx' : Bx} {r : R} {xs : List R} (h : guarded bx' (guardOf bx r) = true) (e : itL bx r = some xs) : itL bx' r = some xs := by
  cases r with
  | v w => cases w <;> exact e
  | clo _ _ => exact e
  | r n =>
    simp only [itL] at e ⊢
    cases hb : bx[n]? with
    | none => rw [hb] at e; simp at e
    | some b =>
      rw [hb] at e
      simp only [guardOf, hb, Option.map_some, guarded, decide_eq_true_eq] at h
      rw [h]
      exact e
theorem RRs.get' {F : Fx} {g : Gd} {H : Hp} {rs : List R} {vs : List V} (h : RRs F g H rs vs) {i : Nat} {r : R} {v : V} (e : rs[i]? = some r) (e' : vs[i]? = some v) : RR F g H r v := by
  obtain ⟨v', h1, h2⟩ := h.get e
  rw [e'] at h1
  cases h1
  exact h2
theorem one_get {xs : List R} {i : Nat} {x : AM.It} (h : (xs.map AM.It.one)[i]? = some x) : ∃ r, xs[i]? = some r ∧ x = .one r := by
  rw [List.getElem?_map, Option.map_eq_some_iff] at h
  obtain ⟨r, e, rfl⟩ := h
  exact ⟨r, e, rfl⟩
section
variable {F : Fx} {g : Gd} {H : Hp} {bx : Bx} {r : R} {v : V}
theorem jok_list {xs : List R} (b : BxOk F g bx H) (h : RR F g H r v) (e : itL bx r = some xs) : ∃ a vs, v = .ref a ∧ SqL F.K H a vs ∧ JOk F g H (Itl F.K a) (xs.map .one) (guardOf bx r) := by
  obtain ⟨a, vs, rfl, q, l, rs⟩ := h.lst b e
  have later : ∀ g' H' bx', Ext g H g' H' → BxOk F g' bx' H' → guarded bx' (guardOf bx r) = true → ∃ vs, H' a = some (.lst vs) ∧ RRs F g' H' xs vs := fun g' H' bx' x b' gd => by
    obtain ⟨a', vs', e', q', _, rs'⟩ := (h.mono x).lst b' (itL_stay gd e)
    cases e'
    exact ⟨vs', q', rs'⟩
  refine ⟨a, vs, rfl, .of q, fun i g' H' bx' x b' gd hi => ?_, fun i g' H' bx' x b' gd hi => ?_, fun i g' H' bx' v H'' it x b' gd hi y => ?_⟩
  · obtain ⟨vs', q', rs'⟩ := later g' H' bx' x b' gd
    have hl := rs'.length
    rw [List.length_map] at hi
    exact ⟨vs', vs'[i], .of q', List.getElem?_eq_getElem (by omega)⟩
  · obtain ⟨vs', q', rs'⟩ := later g' H' bx' x b' gd
    have hl := rs'.length
    rw [List.length_map] at hi
    exact ⟨vs', .of q', by omega⟩
  · obtain ⟨vs', q', rs'⟩ := later g' H' bx' x b' gd
    obtain ⟨rfl, y2⟩ := y
    obtain ⟨r', e', rfl⟩ := one_get hi
    exact ⟨g', Ext.refl g' _, b', .one (rs'.get' e' (y2 vs' (.of q')))⟩
theorem jok_tup {ws : List W} (h : RW F g.Z H (.tup ws) v) : ∃ a vs, v = .ref a ∧ SqT F.K H a vs ∧ JOk F g H (Itt F.K a) ((ws.map R.v).map .one) none := by
  cases id h with
  | @tup _ a vs p l rs =>
    have later : ∀ g' H', Ext g H g' H' → ∃ vs, SqT F.K H' a vs ∧ RRs F g' H' (ws.map .v) vs := fun g' H' x => by
      cases h.mono x.z (fun a z => x.zk a z) with
      | @tup _ _ vs' p' l' rs' => exact ⟨vs', RW.sqT p', .of rs'⟩
    refine ⟨a, vs, rfl, RW.sqT p, fun i g' H' bx' x b' gd hi => ?_, fun i g' H' bx' x b' gd hi => ?_, fun i g' H' bx' v H'' it x b' gd hi y => ?_⟩
    · obtain ⟨vs', q', rs'⟩ := later g' H' x
      have hl := rs'.length
      rw [List.length_map] at hi
      exact ⟨vs', vs'[i], q', List.getElem?_eq_getElem (by omega)⟩
    · obtain ⟨vs', q', rs'⟩ := later g' H' x
      have hl := rs'.length
      rw [List.length_map] at hi
      exact ⟨vs', q', by omega⟩
    · obtain ⟨vs', q', rs'⟩ := later g' H' x
      obtain ⟨rfl, y2⟩ := y
      obtain ⟨r', e', rfl⟩ := one_get hi
      exact ⟨g', Ext.refl g' _, b', .one (rs'.get' e' (y2 vs' q'))⟩
theorem jok_str (s : Str) : JOk F g H (Its s) (s.cps.toList.map fun c => .one (.v (.str ⟨#[c]⟩))) none := by
  refine ⟨fun i g' H' bx' x b' gd hi => ?_, fun i g' H' bx' x b' gd hi => ?_, fun i g' H' bx' v H'' it x b' gd hi y => ?_⟩
  · have hi' : i < s.cps.size := by simpa using hi
    exact hi'
  · have hi' : s.cps.size ≤ i := by simpa using hi
    exact hi'
  · obtain ⟨rfl, c, hc, rfl⟩ := y
    rw [List.getElem?_map, Array.getElem?_toList, hc] at hi
    cases hi
    exact ⟨g', Ext.refl g' _, b', .one (.v (.str _))⟩
theorem jok_range (lo hi : Int) : JOk F g H (Itr lo (hi - lo).toNat) (rangeI lo hi) none := by
  refine ⟨fun i g' H' bx' x b' gd h => ?_, fun i g' H' bx' x b' gd h => ?_, fun i g' H' bx' v H'' it x b' gd h y => ?_⟩
  · have h' : i < (hi - lo).toNat := by simpa [rangeI] using h
    exact h'
  · have h' : (hi - lo).toNat ≤ i := by simpa [rangeI] using h
    exact h'
  · obtain ⟨rfl, rfl⟩ := y
    unfold rangeI at h
    rw [List.getElem?_map, Option.map_eq_some_iff] at h
    obtain ⟨k, e, rfl⟩ := h
    have : k = i := by
      obtain ⟨_, e'⟩ := List.getElem?_eq_some_iff.mp e
      simpa using e'.symm
    subst this
    exact ⟨g', Ext.refl g' _, b', .one (.v (.int _))⟩
end

/-! ### the keys of a dict that stays -/
def DObj (K : PySem.W.Frag) (H : Hp) (d : Addr) (o : Obj) : Prop := H d = some (pinO d o) ∨ K.lookup d = some o
def Itq (K : PySem.W.Frag) (d : Addr) (o : Obj) (es : Array DictEntry) : L2.It :=
  ⟨fun i H => DObj K H d o ∧ i < es.size, fun i H x H' => H' = H ∧ ∃ e, es[i]? = some e ∧ RelV x e.key, fun i H => DObj K H d o ∧ es.size ≤ i⟩
theorem DAt.raw {X : Cx} {pins : List (Addr × Obj)} {σ : L2.St} {H : Hp} {s : Shared} {d : Addr} {o : Obj} {es : Array DictEntry} {ep : Nat} (I : Inv X pins σ H s) (p : DObj X.K H d o) (hx : o.ExactDict) (hd : o.data = .dict es ep) : s.heap.DictRaw d es ep := ⟨o, d_obj I p, hx, hd⟩
/-- each key of the entries at hand is a value of the machine -/
theorem RD.key_at {F : Fx} {Z : Addr → Prop} {H : Hp} : ∀ {ks : List W} {xv : List V} {es : List DictEntry}, RD F Z H ks xv es → ∀ {i : Nat} {e : DictEntry}, es[i]? = some e → ∃ k kv, ks[i]? = some k ∧ RW F Z H k kv ∧ RelV kv e.key
  | _, _, _, .nil, i, e, h => by simp at h
  | _, _, _, .cons (k := k) r rk _ _ t, i, e, h => by
    cases i with
    | zero => simp at h; subst h; exact ⟨k, _, rfl, r, rk⟩
    | succ i => exact RD.key_at t (by simpa using h)
theorem turn_q {P : Program} {w : World} {K : PySem.W.Frag} {tg : Expr} {d : Addr} {o : Obj} {es : Array DictEntry} {ep : Nat} (it : Addr) (hx : o.ExactDict) (hd : o.data = .dict es ep) (hk : ∀ (i : Nat) (e : DictEntry), es[i]? = some e → ∃ v, RelV v e.key) :
    Turn P w K tg (Itq K d o es) [it] it (fun i h => h.IsKeyIter it d i es.size ep) where
  mem := List.mem_singleton.mpr rfl
  obj := fun i h st b hb => by
    obtain rfl := List.mem_singleton.mp hb
    obtain ⟨o1, e1, _, d1⟩ := st
    exact ⟨o1, e1, fun v z => by rw [d1] at z; cases z⟩
  keep := fun i h h' st k => st.at fun o1 e1 => k it (List.mem_singleton.mpr rfl) o1 e1
  item := by
    intro X hP hw hK hc i pins s σ H E I hf st ⟨hp, hi⟩
    subst hP
    subst hw
    subst hK
    obtain ⟨f0, f1, f2, f3, f4, f5⟩ := hf it (List.mem_singleton.mpr rfl)
    refine wpAny_pyNext_keys_item_raw st (DAt.raw I hp hx hd) hi fun h' st' sb => ?_
    have I1 : Inv X pins σ H { s with heap := h' } := I.turned (t' := s.toks) (fun b o hb e => (sb.2 b hb).trans e) f0 f1 f3 f4 f5
    have hg : es[i]? = some es[i] := Array.getElem?_eq_getElem hi
    obtain ⟨v, rv⟩ := hk i _ hg
    obtain ⟨o1, e1, c1, d1⟩ := id st'
    exact ⟨_, rfl, go_of (s := { s with heap := h' }) e1 c1 d1 (by decide) ⟨v, H, I1, rv, ⟨rfl, _, hg, rv⟩, st', fun b hb => (hf b hb).1⟩⟩
  done := by
    intro X hP hw hK hc i pins s σ H E I hf st ⟨hp, hi⟩
    subst hP
    subst hw
    subst hK
    obtain ⟨f0, f1, f2, f3, f4, f5⟩ := hf it (List.mem_singleton.mpr rfl)
    exact wpAny_pyNext_keys_end_raw (I.ok.hd hc) st (DAt.raw I hp hx hd) hi fun h' eb => ⟨rfl, I.turned (t' := s.toks) (fun b o hb e => eb b o hb e) f0 f1 f3 f4 f5⟩
  self := fun A i s Q E st h => wpAny_pyIter_keyiter st h
/-- a dict's value -/
def iKq (F : Fx) (td : TE) : TI := fun σ H R => td σ H fun x H1 => ∃ d o es ep, x = .ref d ∧ DObj F.K H1 d o ∧ (d == sysModules) = false ∧ o.ExactDict ∧ o.data = .dict es ep ∧ (∀ (i : Nat) (e : DictEntry), es[i]? = some e → ∃ v, RelV v e.key) ∧ R (Itq F.K d o es) H1
theorem pi_q {X : Cx} {ca : Ca} {tg e : Expr} {td : TE} (he : PE X e td) : PI X tg e (iKq (fx X ca) td) := by
  refine ⟨fun pins s σ H R I h => thn (he.run pins s σ H _ I h) fun u s1 ⟨x, H1, I1, rx, d, o, es, ep, ex, hp, hs, hx, hd, hk, q⟩ => ?_⟩
  subst ex
  obtain rfl : u = Value.ref d := rx
  exact wpAny_pyIter_dict_raw hs (DAt.raw I1 hp hx hd) (pi_one (tk := s1.toks) I1 _ (turn_q _ hx hd hk) ⟨_, Heap.get?_push_size _ rfl, rfl, rfl⟩ q)
section
variable {F : Fx} {g : Gd} {H : Hp} {bx : Bx} {r : R} {v : V}
theorem jok_keys {ks vs : List W} (h : RW F g.Z H (.dct ks vs) v) : ∃ d o es ep, v = .ref d ∧ DObj F.K H d o ∧ (d == sysModules) = false ∧ o.ExactDict ∧ o.data = .dict es ep ∧ (∀ (i : Nat) (e : DictEntry), es[i]? = some e → ∃ v, RelV v e.key) ∧ JOk F g H (Itq F.K d o es) (ks.map fun k => .one (.v k)) none := by
  cases h with
  | @dct _ _ d o es ep xv p s o1 o2 l rd rs n k =>
    have hl := rd.lens.1
    refine ⟨d, o, es, ep, rfl, p.imp (·.2) id, s, o1, o2, fun i e he => ?_, fun i g' H' bx' x b' gd hi => ?_, fun i g' H' bx' x b' gd hi => ?_, fun i g' H' bx' v H'' it x b' gd hi y => ?_⟩
    · obtain ⟨k, kv, _, _, r⟩ := rd.key_at (i := i) (e := e) (by simpa using he)
      exact ⟨kv, r⟩
    · exact ⟨p.imp (fun z => (x.zk d z.1).trans z.2) id, by simpa [hl] using hi⟩
    · exact ⟨p.imp (fun z => (x.zk d z.1).trans z.2) id, by simpa [hl] using hi⟩
    · obtain ⟨rfl, e, he, rv⟩ := y
      obtain ⟨k, kv, e1, e2, e3⟩ := rd.key_at (i := i) (e := e) (by simpa using he)
      rw [List.getElem?_map, e1] at hi
      cases hi
      obtain rfl := RelV.inj rv e3
      exact ⟨g', Ext.refl g' _, b', .one (.v (e2.mono x.z fun a z => x.zk a z))⟩
end

section
variable {X : Cx} {ca : Ca} {tg e : Expr} {m : E} {pos p : Pos}
theorem si_plain (he : SE X ca m e) : SI X ca (iPlain m) tg e := ⟨fun Wx tk => ⟨fun pins s σ H R I ⟨g, en, bx, a, b, c⟩ => by
  simp only [iPlain, iBind] at c
  cases e1 : m en bx with
  | stuck => rw [e1] at c; exact c.elim
  | exc w bx' =>
    rw [e1] at c
    exact (pi_list (he.pe Wx tk)).run pins s σ H R I ⟨g, en, bx, a, b, by rw [e1]; exact c⟩
  | ok r bx' =>
    rw [e1] at c
    simp only at c
    have lst : ∀ xs, itL bx' r = some xs → (∀ g' H' J, Ext g H g' H' → BxOk (fx X ca) g' bx' H' → JOk (fx X ca) g' H' J (xs.map .one) (guardOf bx' r) → R J H') → wpAny (model X.prog X.w) X.A (eval e X.env) (fun v s1 => wpAny (model X.prog X.w) X.A (pyIter v) (PIE X pins σ tg R) X.xe s1) X.xe s := fun xs e2 c =>
      (pi_list (he.pe Wx tk)).run pins s σ H R I ⟨g, en, bx, a, b, by
        rw [e1]
        intro g' H' v e' b' r'
        obtain ⟨p, vs, rfl, h1, jo⟩ := jok_list b' r' e2
        exact ⟨p, rfl, ⟨vs, h1⟩, c g' H' _ e' b' jo⟩⟩
    cases r with
    | clo k cs => simp only [itS, itL] at c
    | r n =>
      simp only [itS] at c
      cases e2 : itL bx' (.r n) with
      | none => rw [e2] at c; exact c.elim
      | some xs =>
        rw [e2] at c
        exact lst xs e2 c
    | v w =>
      cases w with
      | str t =>
        exact (pi_str (he.pe Wx tk)).run pins s σ H R I ⟨g, en, bx, a, b, by
          rw [e1]
          intro g' H' v e' b' r'
          cases r' with | v r' =>
          cases r'
          exact ⟨t, rfl, c g' H' _ e' b' (jok_str t)⟩⟩
      | tup ws =>
        exact (pi_tup (he.pe Wx tk)).run pins s σ H R I ⟨g, en, bx, a, b, by
          rw [e1]
          intro g' H' v e' b' r'
          cases r' with | v r' =>
          obtain ⟨p, vs, rfl, h1, jo⟩ := jok_tup r'
          exact ⟨p, rfl, ⟨vs, h1⟩, c g' H' _ e' b' jo⟩⟩
      | lst ws => exact lst (ws.map .v) rfl c
      | dct ks vs =>
        exact (pi_q (ca := ca) (he.pe Wx tk)).run pins s σ H R I ⟨g, en, bx, a, b, by
          rw [e1]
          intro g' H' v e' b' r'
          cases r' with | v r' =>
          obtain ⟨d, o, es, ep, rfl, h1, h2, h3, h4, h5, jo⟩ := jok_keys r'
          exact ⟨d, o, es, ep, rfl, h1, h2, h3, h4, h5, c g' H' _ e' b' jo⟩⟩
      | _ => simp only [itS, itL] at c⟩⟩
/-- range(n) -/
theorem si_range1 {a0 : Expr} (hg : Gl X "range") (hm : X.mg "range" = none) (hs : starEach [a0] X.env = [(false, eval a0 X.env)]) (he : SE X ca m a0) : SI X ca (iRange1 m) tg (.Call (.Name "range" p) [a0] [] pos) := ⟨fun Wx tk => PI.imp (pi_range1 hg hm (pa_cons (he.pe Wx tk) pa_nil hs) hs) fun σ H R ⟨g, en, bx, a, b, c⟩ => by
  simp only [iRange1, iBind] at c
  refine ⟨g, en, bx, a, b, ?_⟩
  cases e1 : m en bx with
  | stuck => rw [e1] at c; exact c.elim
  | exc w bx' => rw [e1] at c; exact c
  | ok r bx' =>
    rw [e1] at c
    simp only at c
    intro g' H' v e' b' r'
    show ∃ j : Int, [v] = [V.int j] ∧ _
    cases r' with
    | r _ => exact c.elim
    | v r' =>
      cases r' with
      | int n =>
        simp only [range1K] at c
        split at c
        · rename_i _ xs gd bx2 h
          split at h
          · rename_i h2
            cases h
            have := c g' H' (Itr 0 (n - 0).toNat) e' b' (jok_range 0 n)
            rw [Int.sub_zero] at this
            exact ⟨n, rfl, h2.1, h2.2, this⟩
          · cases h
        · rename_i h
          split at h <;> cases h
        · exact c.elim
      | _ => exact c.elim⟩
theorem si_range2 {a0 a1 : Expr} {m0 m1 : E} (hg : Gl X "range") (hm : X.mg "range" = none) (hs : starEach [a0, a1] X.env = [(false, eval a0 X.env), (false, eval a1 X.env)]) (hs2 : starEach [a1] X.env = [(false, eval a1 X.env)]) (h0 : SE X ca m0 a0) (h1 : SE X ca m1 a1) : SI X ca (iRange2 m0 m1) tg (.Call (.Name "range" p) [a0, a1] [] pos) := ⟨fun Wx tk => PI.imp (pi_range2 hg hm (pa_cons (h0.pe Wx tk) (pa_cons (h1.pe Wx tk) pa_nil hs2) (hs.trans (by rw [hs2]))) hs hs2) fun σ H R ⟨g, en, bx, a, b, c⟩ => by
  simp only [iRange2, iBind2] at c
  refine ⟨g, en, bx, a, b, ?_⟩
  cases e1 : m0 en bx with
  | stuck => rw [e1] at c; exact c.elim
  | exc w bx' => rw [e1] at c; exact c
  | ok r bx' =>
    rw [e1] at c
    simp only at c
    intro g' H' v e' b' r'
    refine ⟨g', en, bx', a.mono e', b', ?_⟩
    cases e2 : m1 en bx' with
    | stuck => rw [e2] at c; exact c.elim
    | exc w bx2 => rw [e2] at c; exact fun g2 H2 cls d x2 => c g2 H2 cls d (e'.trans x2)
    | ok r2 bx2 =>
      rw [e2] at c
      simp only at c
      intro g2 H2 v2 x2 b2 r2'
      show ∃ i j : Int, [v, v2] = [V.int i, V.int j] ∧ _
      cases r' with
      | r _ => exact c.elim
      | v r' =>
        cases r' with
        | int i =>
          cases r2' with
          | r _ => exact c.elim
          | v r2' =>
            cases r2' with
            | int j =>
              simp only [range2K] at c
              split at c
              · rename_i _ xs gd bx3 h
                split at h
                · rename_i h3
                  cases h
                  exact ⟨i, j, rfl, ⟨h3.1.1, h3.1.2, h3.2.1, h3.2.2⟩, c g2 H2 _ (e'.trans x2) b2 (jok_range i j)⟩
                · cases h
              · rename_i h
                split at h <;> cases h
              · exact c.elim
            | _ => exact c.elim
        | _ => exact c.elim⟩
end
end AM
/-! text AmF -/
set_option Elab.async false
set_option linter.all false
set_option maxRecDepth 100000
set_option maxHeartbeats 2000000
/-! AmF: calls of the text's own functions. -/
namespace AM
open PySem PySem.Spec PyProof.Rows L2

/-- room, and no guard stands -/
structure Rm (k : Nat) (A : Around) : Prop where
  r : Room k A
  gd : A.guards = some []
theorem Rm.mono {j k : Nat} {A : Around} (r : Rm k A) (h : j ≤ k) : Rm j A := ⟨r.r.mono h, r.gd⟩
theorem Rm.deeper {k : Nat} {A : Around} (r : Rm (k + 1) A) (env : Env) : Rm k (A.deeper env) := ⟨r.r.deeper env, r.gd⟩
theorem Rm.make {k : Nat} {A : Around} (r : Rm (k + 1) A) (C : Addr) (us : List Value) (kw : List (Str × Value)) : Rm k (A.under (.builtin "type.__call__" ⟨.ref C :: us, kw⟩)) :=
  ⟨r.r.make C us kw, by
    have e : (Code.builtin "type.__call__" ⟨.ref C :: us, kw⟩).isGuard = false := by first | rfl | decide | simp [Code.isGuard, guardIds]
    simp [Around.under, Code.guards, pushGuards, e, r.gd]⟩

/-- a def's promise, where no guard stands -/
structure FnG (P : Program) (w : World) (K : PySem.W.Frag) (mg : Str → Option Value) (base : Heap) (k : Nat) (f : Addr) (fd : FuncData) (ps : List Str) (sp : Sp) : Prop where
  len : ∀ vs H Q E, sp vs H Q E → vs.length = ps.length
  run : ∀ (A : Around) (outer : List Env) (s : Shared) (H : Hp) (args : Args) (us : List Value) (vs : List V) (Q : VK) (E : XK),
    Rm k A → Env0 P w K mg base A outer s H → BindsTo s fd args (ps.zip us) → Vals vs us → sp vs H Q E →
      codeAny (model P w) A (.call (.ref f) args) (CR (L2.CX P w) outer P w H s Q E) s
theorem FnG.mono {P : Program} {w : World} {K : PySem.W.Frag} {mg : Str → Option Value} {base : Heap} {j k : Nat} {f : Addr} {fd : FuncData} {ps : List Str} {sp : Sp} (F : FnG P w K mg base j f fd ps sp) (h : j ≤ k) : FnG P w K mg base k f fd ps sp :=
  ⟨F.len, fun A outer s H args us vs Q E hr => F.run A outer s H args us vs Q E (hr.mono h)⟩

section
variable {X : Cx} {k : Nat} {f C : Addr} {fd : FuncData} {ps : List Str} {sp : Sp} {Wx : WX} {pins : List (Addr × Obj)} {σ : L2.St} {H : Hp} {s : Shared} {Q : VK} {us : List Value} {vs : List V}
theorem back_ok {E : XK} {r : Result} {s' : Shared} (tk : Takes X Wx) (I : Inv X pins σ H s) (hE : ∀ c d H', E c d H' → Wx c d σ H') (h : CR (L2.CX X.prog X.w) X.stack X.prog X.w H s Q E r s') :
    (match r with
      | .ok (.ret u) => EP X pins σ Q u s'
      | .ok _ => False
      | .error e => X.xe e s') := by
  cases r with
  | error e => exact tk _ _ (XE.of_call I (fun c d H' q => hE c d H' q) h)
  | ok fl =>
    cases fl with
    | ret u => exact I.after h
    | next => exact h
    | brk => exact h
    | cont => exact h
theorem run_g (F : FnG X.prog X.w X.K X.mg X.base k f fd ps sp) (hr : Rm k X.A) (hb : Binds X.K fd ps []) (tk : Takes X Wx) (I : Inv X pins σ H s) (r : Vals vs us) (h : sp vs H Q fun c d H' => Wx c d σ H') :
    wpAny (model X.prog X.w) X.A (call (.ref f) us) (EP X pins σ Q) X.xe s := by
  have hl : (us ++ []).length = ps.length := by rw [List.append_nil, ← r.length, F.len _ _ _ _ h]
  have hbt := hb s us I.kIn hl
  rw [List.append_nil] at hbt
  refine wpAny_call (codeAny_mono (F.run X.A X.stack s H _ us vs Q _ hr I.env0 hbt r h) fun res s' hq => ?_)
  have z := back_ok tk I (fun _ _ _ q => q) hq
  rcases res with e | (v | _ | _ | _) <;> first | exact z | exact z.elim

/-- a new instance, then its own __init__ -/
theorem run_mk (M : Mk X.K C f) (F : FnG X.prog X.w X.K X.mg X.base k f fd ps sp) (hr : Rm (k + 1) X.A) (hb : Binds X.K fd ps []) (tk : Takes X Wx) (I : Inv X pins σ H s) (r : Vals vs us)
    (h : ∀ x dx, H x = none → H dx = none → dx ≠ x → sp (.ref x :: vs) (upd (upd H dx (.own x)) x (.ins C dx [])) (fun v H2 => v = .non ∧ Q (.ref x) H2) fun c d H' => Wx c d σ H') :
    wpAny (model X.prog X.w) X.A (call (.ref C) us) (EP X pins σ Q) X.xe s := by
  have q0 := h (s.heap.objs.size + 1) s.heap.objs.size (I.hok.fresh (Nat.le_succ _)) (I.hok.fresh (Nat.le_refl _)) (Nat.ne_of_lt (Nat.lt_succ_self _))
  have I2 := Inv.made (C := C) I
  have r2 : Vals (V.ref (s.heap.objs.size + 1) :: vs) (Value.ref (s.heap.objs.size + 1) :: us) := .cons rfl r
  have hl : ((Value.ref (s.heap.objs.size + 1) :: us) ++ []).length = ps.length := by rw [List.append_nil, ← r2.length, F.len _ _ _ _ q0]
  have hbt := hb _ (Value.ref (s.heap.objs.size + 1) :: us) I2.kIn hl
  rw [List.append_nil] at hbt
  have main := F.run _ X.stack _ _ _ (Value.ref (s.heap.objs.size + 1) :: us) _ _ _ (hr.make C us []) (I2.env0.make C us []) hbt r2 q0
  refine wpAny_call (make_map (f := f) I.kIn M.makes M.init (beq_iff_eq.mp M.fn) (codeAny_mono main fun res s' hq' => ?_))
  have z := back_ok tk I2 (fun _ _ _ q => q) hq'
  rcases res with e | (u | _ | _ | _) <;> first | exact z | exact z.elim | skip
  obtain ⟨v, H', I3, rv, ev, q3⟩ := z
  subst ev
  exact ⟨rv, V.ref (s.heap.objs.size + 1), H', I3, rfl, q3⟩
end

/-- a def of the text, by its body -/
theorem fng_of {P : Program} {w : World} {K : PySem.W.Frag} {mg : Str → Option Value} {base : Heap} {k : Nat} {f : Addr} {name qual : Str} {params : Arguments} {body : List Stmt} {scope : Scope} {dV kV doc pm cdv ct oc : Value} {an od : Option Addr}
    {osl : Array (Option Value)} {N ps : List Str} {sp : Sp} (lk : K.lookup f = some ⟨oc, od, .func (PySem.W.fnOf name qual params body scope dV kV doc pm an cdv ct), osl⟩) (hcd : PySem.W.codeIn K cdv qual = true) (S : FnScope N ps scope)
    (len : ∀ vs H Q E, sp vs H Q E → vs.length = ps.length)
    (hbody : ∀ (A : Around) (outer : List Env) (s : Shared) (H : Hp) (vs : List V) (Q : VK) (E : XK), Rm k (A.deeper (envOfC qual scope s.heap.objs.size f cdv)) → Mod K mg base → sp vs H Q E →
      ∃ t, PSs (cxOf (L2.CX P w) P w K mg base N qual scope f cdv A outer s H E) body t ∧ t { nx := fun _ H' => Q .non H', rt := Q } (start N vs) H) :
    FnG P w K mg base (k + 1) f (PySem.W.fnOf name qual params body scope dV kV doc pm an cdv ct) ps sp := by
  refine ⟨len, fun A outer s H args us vs Q E hr e0 hb r hsp => ?_⟩
  have KX : K.In s.heap := e0.mod.kin.keeps fun b o e => (e0.bs b o e).1
  have lim : s.heap.NoLimit := e0.mod.nolimit.keeps fun b o e => (e0.bs b o e).1
  have hl := len vs H Q E hsp
  have kinds : ∀ y ∈ ps.zip us, scope.names.lookup y.1 = some .local ∨ (scope.names.lookup y.1 = some .cell ∧ ((cellsFrom (s.heap.objs.size + 1) scope.names []).lookup y.1).isSome = true) := by
    rintro ⟨n, v⟩ hy
    exact (S.par n (List.of_mem_zip hy).1).imp id fun q => ⟨q, PySem.W.cellsFrom_some _ _ _ (.inl q)⟩
  refine codeAny_call_function hr.r.depth (KX _ _ lk) rfl S.co S.gen rfl (PySem.W.codeRec_of KX hcd) (hb _ _ _ _ ?_)
  refine wpAny_newFunctionEnv_cells S.kind kinds fun env he s1 x => ?_
  subst he
  obtain ⟨t, ht, hq⟩ := hbody A outer s H vs Q E (hr.deeper _) e0.mod hsp
  refine ⟨lim.keeps x.toInCall.keep, codeAny_func ?_⟩
  have I0 := inv_start (CX := L2.CX P w) (E := E) S hr.r.hd e0 hl r x
  refine wpAny_mono (ht.run [] s1 (start N vs) H _ I0 hq) (fun fl s' hs => ?_) fun _ _ hs => hs
  rcases fl with _ | _ | _ | u
  · obtain ⟨σ1, H1, J, q⟩ := hs
    exact ⟨V.non, H1, J.os, J.bare, J.base, J.hok, rfl, q⟩
  · exact hs.elim fun _ z => z.elim fun _ z => z.2.elim
  · exact hs.elim fun _ z => z.elim fun _ z => z.2.elim
  · obtain ⟨v, σ1, H1, J, rv, q⟩ := hs
    exact ⟨v, H1, J.os, J.bare, J.base, J.hok, rv, q⟩

/-! ### grounds -/
section
variable {F : Fx} {g g' : Gd} {bx bx' : Bx} {H H' : Hp}
/-- another object laid beside -/
theorem BxOk.side {p : Addr} {o : HO} (h : BxOk F g bx H) (hp : H p = none) : Ext g H g (upd H p o) ∧ BxOk F g bx (upd H p o) := by
  have np := h.np hp
  have x : Ext g H g (upd H p o) := ext_new hp h.trk (fun _ z => z) (fun _ z => .inl z) ⟨[], by simp, by simp⟩
  refine ⟨x, h.len, h.nd, fun n a b e1 e2 => (h.at_ n a b e1 e2).mono x (upd_ne (np a (h.alsome (List.mem_of_getElem? e1)))), h.free, fun a q => ?_, fun p m => tab_new hp h.trk (fun _ z => z) (fun _ z => .inl z) (h.tabs p m)⟩
  rw [upd_ne (np a (h.trk a q))]
  exact h.trk a q
/-- behind a call whose new boxes go: these are frozen -/
def Gd.shut (g : Gd) (lo : Nat) : Gd := { al := g.al.take lo, Z := fun a => g.Z a ∨ a ∈ g.al.drop lo }
theorem viewF_ok (b : BxOk F g bx H) (lo : Nat) : ∀ (k : Nat) {r : R} {v : V} {w : W}, RR F g H r v → viewF lo bx k r = some w → RW F (g.shut lo).Z H w v
  | 0, r, v, w, h, e => by
    cases h with
    | v h => simp only [viewF, Option.some.injEq] at e; subst e; exact h.mono (fun a z => .inl z) fun _ _ => rfl
    | r _ => simp [viewF] at e
  | k + 1, r, v, w, h, e => by
    cases h with
    | v h => simp only [viewF, Option.some.injEq] at e; subst e; exact h.mono (fun a z => .inl z) fun _ _ => rfl
    | @r n a q =>
      simp only [viewF] at e
      split at e
      · rename_i hlo
        have z : (g.shut lo).Z a := .inr (by
          rw [List.mem_iff_getElem?]
          refine ⟨n - lo, ?_⟩
          rw [List.getElem?_drop]
          have : lo + (n - lo) = n := by omega
          rw [this]
          exact q)
        split at e
        · rename_i xs hb
          have := b.at_ n a _ q hb
          cases this with
          | lst q l rs =>
            simp only [Option.map_eq_some_iff] at e
            obtain ⟨ws, e1, rfl⟩ := e
            exact .lst z q l (mapO_ok (P := fun _ _ => True) rs (fun r v w a e => viewF_ok b lo k a e) e1)
        · rename_i ks rs hb
          have := b.at_ n a _ q hb
          cases this with
          | dct q s o1 o2 l d r n kk =>
            simp only [Option.map_eq_some_iff] at e
            obtain ⟨ws, e1, rfl⟩ := e
            exact .dct (.inl ⟨z, q⟩) s o1 o2 l (d.mono (fun a z => .inl z) fun _ _ => rfl) (mapO_ok (P := fun _ _ => True) r (fun r v w a e => viewF_ok b lo k a e) e1) n kk
        · rename_i c fs hb
          have := b.at_ n a _ q hb
          cases this with
          | ins q f r =>
            simp only [Option.map_eq_some_iff] at e
            obtain ⟨ws, e1, rfl⟩ := e
            exact .ins z q f (mapO_ok (P := fun _ _ => True) r (fun r v w a e => viewF_ok b lo k a e) e1)
        · cases e
      · cases e
/-- a slot that names no box from lo on -/
theorem RR.shut {lo : Nat} {r : R} {v : V} (h : RR F g H r v) (l : refLt lo r = true) : RR F (g.shut lo) H r v := by
  cases h with
  | v h => exact .v (h.mono (fun a z => .inl z) fun _ _ => rfl)
  | @r n a q =>
    simp only [refLt, decide_eq_true_eq] at l
    refine .r ?_
    show (g.al.take lo)[n]? = some a
    rw [List.getElem?_take_of_lt l]
    exact q
theorem RRs.shut {lo : Nat} {rs : List R} {vs : List V} (h : RRs F g H rs vs) (l : rs.all (refLt lo) = true) : RRs F (g.shut lo) H rs vs := by
  induction h with
  | nil => exact .nil
  | cons a t ih =>
    simp only [List.all_cons, Bool.and_eq_true] at l
    exact .cons (a.shut l.1) (ih l.2)
theorem RR.lt {r : R} {v : V} (h : RR F g H r v) : refLt g.al.length r = true := by
  cases h with
  | v h => rfl
  | r q => simp only [refLt, decide_eq_true_eq]; exact (List.getElem?_eq_some_iff.mp q).1
theorem RRs.lt {rs : List R} {vs : List V} (h : RRs F g H rs vs) : rs.all (refLt g.al.length) = true := by
  induction h with
  | nil => rfl
  | cons a t ih => simp only [List.all_cons, Bool.and_eq_true]; exact ⟨a.lt, ih⟩
theorem BO.lt {a : Addr} {b : Box} (h : BO F g H a b) : boxLt g.al.length b = true := by
  cases h with
  | lst _ _ r => exact r.lt
  | dct _ _ _ _ _ _ r _ _ => exact r.lt
  | @ins c fs dx fv q f r =>
    have := r.lt
    simp only [boxLt]
    rw [List.all_map] at this
    exact this
theorem BO.shut {lo : Nat} {a : Addr} {b : Box} (h : BO F g H a b) (l : boxLt lo b = true) : BO F (g.shut lo) H a b := by
  cases h with
  | lst q z r => exact .lst q z (r.shut l)
  | dct q s o1 o2 z d r n kk => exact .dct q s o1 o2 z (d.mono (fun a z => .inl z) fun _ _ => rfl) (r.shut l) n kk
  | @ins c fs dx fv q f r => exact .ins q f (r.shut (by rw [List.all_map]; exact l))
theorem backOk_at {n : Nat} : ∀ {b b' : Bx}, backOk n b b' = true → b.length ≤ b'.length ∧ ∀ (i : Nat) (x : Box), i < b.length → b'[i]? = some x → b[i]? = some x ∨ boxLt n x = true
  | [], b', _ => ⟨by simp, fun i x h => by simp at h⟩
  | y :: r, [], h => by simp [backOk] at h
  | y :: r, y' :: r', h => by
    simp only [backOk, Bool.and_eq_true, Bool.or_eq_true, decide_eq_true_eq] at h
    obtain ⟨h1, h2⟩ := backOk_at h.2
    refine ⟨by simpa using h1, fun i x hi e => ?_⟩
    cases i with
    | zero =>
      simp at e
      subst e
      rcases h.1 with z | z
      · left; simp [z]
      · right; exact z
    | succ i => simpa using h2 i x (by simpa using hi) (by simpa using e)
theorem settle_ok (b : BxOk F g bx H) (x : Ext g H g' H') (b' : BxOk F g' bx' H') (k : backOk bx.length bx bx' = true) : Ext g H (g'.shut bx.length) H' ∧ BxOk F (g'.shut bx.length) (bx'.take bx.length) H' := by
  obtain ⟨t, ea, ht⟩ := x.al
  obtain ⟨kl, kb⟩ := backOk_at k
  have take : g'.al.take bx.length = g.al := by rw [ea, b.len]; simp
  have drp : g'.al.drop bx.length = t := by rw [ea, b.len]; simp
  have x' : Ext g H (g'.shut bx.length) H' := ⟨fun a z => .inl (x.z a z), fun a z => z.elim (x.zn a) fun m => by rw [drp] at m; exact .inr (ht a m), ⟨[], by show g'.al.take bx.length = _; rw [take]; simp, by simp⟩, x.zk, x.keep, x.there⟩
  have nd : ∀ a ∈ g'.al.take bx.length, a ∉ g'.al.drop bx.length := fun a h1 h2 => by
    have := b'.nd
    rw [← List.take_append_drop bx.length g'.al] at this
    exact (List.nodup_append.mp this).2.2 a h1 a h2 rfl
  refine ⟨x', ?_, ?_, fun n a bb e1 e2 => ?_, fun a m => ?_, fun a q => ?_, fun p m => ?_⟩
  · show _ = (g'.al.take bx.length).length
    rw [List.length_take, List.length_take, b'.len]
  · exact b'.nd.sublist (List.take_sublist _ _)
  · have e1 : (g'.al.take bx.length)[n]? = some a := e1
    have hn : n < bx.length := by
      have := (List.getElem?_eq_some_iff.mp e1).1
      rw [List.length_take] at this
      omega
    rw [List.getElem?_take_of_lt hn] at e1 e2
    have h1 := b'.at_ n a bb e1 e2
    refine h1.shut ?_
    rcases kb n bb hn e2 with z | z
    · have e3 : g.al[n]? = some a := by
        rw [← take, List.getElem?_take_of_lt hn]
        exact e1
      have := (b.at_ n a bb e3 z).lt
      rw [b.len]
      exact this
    · exact z
  · have m : a ∈ g'.al.take bx.length := m
    have f := b'.free a (List.mem_of_mem_take m)
    exact fun z => z.elim f (nd a m)
  · rcases q with q | q
    · exact b'.trk a q
    · exact b'.alsome (List.mem_of_mem_drop q)
  · refine (b'.tabs p m).stay rfl (fun _ z => Or.inl z) (fun z => z.resolve_right fun y => ?_) fun _ _ => rfl
    obtain ⟨ps, e⟩ := (b'.tabs p m).at
    exact b'.noTbl (List.mem_of_mem_drop y) ps e
end

/-! ### what a function of the machine promises -/
def PostE (F : Fx) (g : Gd) (H : Hp) (E : XK) (Q : VK) (r : Res) : Prop := PostR F g [] H (fun c d _ H' => E c d H') Q r
/-- n arguments, then as Fm says -/
def spM (F : Fx) (n : Nat) (Fm : List R → Bx → Res) : Sp := fun vs H Q E => vs.length = n ∧ ∃ g bx rs, BxOk F g bx H ∧ RRs F g H rs vs ∧ PostE F g H E Q (Fm rs bx)
theorem PostR.settle {F : Fx} {g : Gd} {bx : Bx} {H : Hp} {σ : L2.St} {Wx : WX} {Q : VK} {r : Res} (b : BxOk F g bx H) (h : PostR F g σ H Wx Q (settle bx r)) : PostR F g σ H Wx Q r := by
  unfold AM.settle at h
  cases r with
  | stuck => exact h
  | ok x bx' =>
    simp only at h
    split at h
    · rename_i w e
      split at h
      · rename_i k
        intro g' H' v x' b' r'
        obtain ⟨x2, b2⟩ := settle_ok b x' b' k
        exact h _ _ _ x2 b2 (.v (viewF_ok b' _ 9 r' e))
      · exact h.elim
    · exact h.elim
  | exc w bx' =>
    simp only at h
    split at h
    · rename_i k
      intro g' H' cls d x' b' xr
      obtain ⟨x2, b2⟩ := settle_ok b x' b' k
      refine h _ _ cls d x2 b2 ?_
      obtain ⟨c, e1, e2⟩ := xr
      refine ⟨c, e1, e2.imp id ?_⟩
      rintro ⟨i, a, q1, q2, q3, q4⟩
      exact ⟨i, a, q1, q2, .inl q3, q4⟩
    · exact h.elim
theorem PostR.call {F : Fx} {g : Gd} {bx : Bx} {H : Hp} {σ : L2.St} {Wx : WX} {Q : VK} {Fm : Fn} {f : Nat} {keep : Bool} {rs : List R} (b : BxOk F g bx H) (h : PostR F g σ H Wx Q (opCall Fm f keep rs bx)) : PostR F g σ H Wx Q (Fm f rs bx) := by
  unfold opCall at h
  cases keep with
  | true => exact h
  | false => exact PostR.settle b h
theorem PostR.e {F : Fx} {g : Gd} {H : Hp} {σ : L2.St} {Wx : WX} {Q : VK} {r : Res} (h : PostR F g σ H Wx Q r) : PostE F g H (fun c d H' => Wx c d σ H') Q r := by
  cases r <;> exact h

/-- the text's function number f stands by the name x -/
structure CallF (X : Cx) (ca : Ca) (k : Nat) (Fm : Fn) (f n : Nat) (x : Str) : Prop where
  st : ∀ rs bx, rs.length ≠ n → Fm f rs bx = .stuck
  ex : ∃ (fa : Addr) (fd : FuncData) (ps : List Str), ps.length = n ∧ FnG X.prog X.w X.K X.mg X.base k fa fd ps (spM (fx X ca) n (Fm f)) ∧ X.mg x = some (.ref fa) ∧ PySem.W.keepIn X.K (.ref fa) = true ∧ Binds X.K fd ps []
section
variable {X : Cx} {ca : Ca} {k f n : Nat} {Fm : Fn} {x : Str} {e : Expr} {es : List Expr} {as : List (Bool × E)} {p pos : Pos} {keep : Bool}
/-- x(e, ..) -/
theorem se_call (h : CallF X ca k Fm f n x) (hr : Rm k X.A) (hg : Gl X x) (hdb : (x == ("__debug__" : Str)) = false) (hs : starEach (e :: es) X.env = (false, eval e X.env) :: starEach es X.env) (hpl : (backTo pos (starEach es X.env)).any (·.1) = false) (ha : SA X ca as (e :: es)) :
    SE X ca (eArgs as fun xs _ bx => opCall Fm f keep xs bx) (.Call (.Name x p) (e :: es) [] pos) := ⟨fun Wx tk => by
  obtain ⟨fa, fd, ps, hps, F, hm, hk, hb⟩ := h.ex
  refine ⟨fun pins s σ H Q I h0 => wpAny_Call_Name_kw (ld_glob I hg hm ?_ hdb)⟩
  refine PySem.W.callWith_K (h₀ := X.base) I.ok.mod.kin hk (thn ((ha.all (k := fun xs _ bx => opCall Fm f keep xs bx) tk (t := fun σ H Q => ∃ Q0, tM (fx X ca) Wx (eArgs as fun xs _ bx => opCall Fm f keep xs bx) σ H Q0 ∧ ∀ xs H1, tK (fx X ca) Wx (fun xs _ bx => opCall Fm f keep xs bx) xs σ H1 Q0 → Q xs H1) fun σ H Q x => x).run pos pins s σ H
    (fun vs H1 => tK (fx X ca) Wx (fun xs _ bx => opCall Fm f keep xs bx) vs σ H1 Q) I ⟨Q, h0, fun _ _ z => z⟩) fun us s1 ⟨vs, H1, I1, r, q⟩ => ⟨I1.kIn, ?_⟩) hs hpl
  obtain ⟨g, en, bx, rs, a, b, rr, pp⟩ := q
  have pq := PostR.call b pp
  have hl : rs.length = n := Classical.byContradiction fun z => by
    rw [h.st rs bx z] at pq
    exact pq.elim
  exact run_g F hr hb tk I1 r ⟨rr.length.symm.trans hl, g, bx, rs, b, rr, pq.e⟩⟩
end
end AM
/-! text AmB1 -/
set_option Elab.async false
set_option linter.all false
set_option maxRecDepth 100000
set_option maxHeartbeats 2000000
/-! AmB1: subscripts, slices, built-in functions. -/
namespace AM
open PySem PySem.Spec PyProof.Rows L2

theorem SL_le {n : Nat} : n ≤ SL ↔ n ≤ sizeLine := by rw [SL_eq]
theorem sIx_none' (n d : Nat) : HT.sIx n d none = d := rfl
theorem cutAt_eq (i : Int) (n d : Nat) : cutAt i n = HT.sIx n d (some i) := by
  show _ = if i < 0 then (i + (n : Int)).toNat else min i.toNat n
  unfold cutAt
  by_cases h : 0 ≤ i
  · rw [if_pos h, if_neg (by omega)]
  · rw [if_neg h, if_pos (by omega)]
theorem cutL_eq {α : Type} (lo hi : Option Int) (xs : List α) : cutL lo hi xs = (xs.drop (HT.sIx xs.length 0 lo)).take (HT.sIx xs.length xs.length hi - HT.sIx xs.length 0 lo) := by
  have h1 : (match hi with | some j => cutAt j xs.length | none => xs.length) = HT.sIx xs.length xs.length hi := by
    cases hi with
    | none => rfl
    | some j => exact cutAt_eq j _ _
  have h2 : (match lo with | some j => cutAt j xs.length | none => 0) = HT.sIx xs.length 0 lo := by
    cases lo with
    | none => rfl
    | some j => exact cutAt_eq j _ _
  exact (congr (congrArg (fun a b => (xs.take a).drop b) h1) h2).trans List.drop_take
theorem cutV_eq (lo hi : Option Int) (xs : List V) : cutV xs lo hi = cutL lo hi xs := by rw [cutL_eq] <;> rfl
theorem cutL_len {α β : Type} {lo hi : Option Int} {xs : List α} {ys : List β} (h : xs.length = ys.length) : (cutL lo hi xs).length = (cutL lo hi ys).length := by
  unfold cutL
  simp only [List.length_drop, List.length_take, h]
theorem atI_eq {α : Type} (xs : List α) (i : Int) : (atW i xs.length).bind (fun j => xs[j]?) = atI xs i := by
  unfold atI
  congr 1
  unfold atW ixN
  by_cases h : 0 ≤ i
  · rw [if_pos h, if_pos h]
  · rw [if_neg h, if_neg h]
    by_cases h2 : 0 ≤ i + (xs.length : Int)
    · rw [if_pos h2, if_pos (by omega)]
    · rw [if_neg h2, if_neg (by omega)]
section
variable {F : Fx} {g : Gd} {H : Hp} {rs : List R} {vs : List V}
theorem RRs.take (h : RRs F g H rs vs) : ∀ n, RRs F g H (rs.take n) (vs.take n) := by
  induction h with
  | nil => intro n; simp; exact .nil
  | cons a t ih =>
    intro n
    cases n with
    | zero => exact .nil
    | succ n => exact .cons a (ih n)
theorem RRs.drop (h : RRs F g H rs vs) : ∀ n, RRs F g H (rs.drop n) (vs.drop n) := by
  induction h with
  | nil => intro n; simp; exact .nil
  | cons a t ih =>
    intro n
    cases n with
    | zero => exact .cons a t
    | succ n => exact ih n
theorem RRs.cut {lo hi : Option Int} (h : RRs F g H rs vs) : RRs F g H (cutL lo hi rs) (cutL lo hi vs) := by
  have l := h.length
  unfold cutL
  rw [l]
  exact (h.take _).drop _
theorem RRs.rev (h : RRs F g H rs vs) : RRs F g H rs.reverse vs.reverse := by
  induction h with
  | nil => exact .nil
  | cons a t ih => rw [List.reverse_cons, List.reverse_cons]; exact ih.append (.cons a .nil)
theorem RWs.of {ws : List W} (h : RRs F g H (ws.map .v) vs) : RWs F g.Z H ws vs := by
  induction ws generalizing vs with
  | nil => cases h; exact .nil
  | cons w ws ih =>
    cases h with
    | cons a t => cases a with | v a => exact .cons a (ih t)
theorem RRs.at (h : RRs F g H rs vs) {i : Int} {r : R} (e : (atW i rs.length).bind (fun j => rs[j]?) = some r) : ∃ v, atI vs i = some v ∧ RR F g H r v := by
  rw [Option.bind_eq_some_iff] at e
  obtain ⟨j, e1, e2⟩ := e
  obtain ⟨v, e3, rr⟩ := h.get e2
  refine ⟨v, ?_, rr⟩
  rw [← atI_eq, ← h.length, e1]
  exact e3
end

/-! ### subscripts -/
section
variable {X : Cx} {ca : Ca}
theorem noX_idx : NoX opIdx := by
  intro rs bx w bx' h
  unfold opIdx at h
  repeat' split at h
  all_goals cases h
theorem ix_any (hu : X.A.units + 10 < cLine) : IxR X fun x y H Q => tO (fx X ca) opIdx [x, y] H Q := by
  intro value slice pins s σ H x y v u Q I rx ry ⟨g, bx, rs, b, rr, p⟩ hs
  obtain ⟨r1, r2, rfl, h1, h2⟩ := rr.two
  cases r2 with
  | r _ => exact p.elim
  | clo _ _ => exact p.elim
  | v k =>
    simp only [opIdx] at p
    cases e1 : dcO bx r1 with
    | some pr =>
      obtain ⟨ks, rs⟩ := pr
      simp only [e1] at p
      by_cases kf : keyFor ks k = true
      · rw [if_pos kf] at p
        cases e2 : dGet ks rs k with
        | none => simp only [e2] at p; exact p.elim
        | some r =>
          simp only [e2] at p
          obtain ⟨a, o, xv, rfl, pp, D, rr'⟩ := h1.dct b e1
          obtain ⟨w, e3, rw'⟩ := (RRs.dGet (k := k) (ks := ks) rr').1 r e2
          cases h2 with | v h2 =>
          cases rx
          have ho := d_obj I pp
          have hT : s.TypeIs (.ref a) "dict" := ⟨o, ho, D.ex.1⟩
          refine tail_any hT slot_dict_getitem.lookup ?_ hs
          exact d_at hu I pp D kf h2 ry e3 fun t w' rw2 => ⟨w, H, I.tok _, rw2, p g H w (Ext.refl g H) b rw'⟩
      · rw [if_neg kf] at p
        exact p.elim
    | none =>
      simp only [e1] at p
      cases k with
      | int i =>
        cases h2 with | v h2 =>
        cases h2
        simp only at p
        have seq : ∀ xs, itS bx r1 = some xs → PostO (fx X ca) g H Q (match (atW i xs.length).bind fun j => xs[j]? with
          | some r => .ok r bx
          | none => .stuck) → wpAny (model X.prog X.w) X.A (subscriptTail value slice v u) (EP X pins σ Q) X.xe s := fun xs e2 p => by
          cases e3 : (atW i xs.length).bind fun j => xs[j]? with
          | none => rw [e3] at p; exact p.elim
          | some r =>
            rw [e3] at p
            obtain ⟨a, vs, rfl, hq, _, rr'⟩ := h1.seq b e2
            obtain ⟨w, e4, rw'⟩ := rr'.at e3
            have q := p g H w (Ext.refl g H) b rw'
            rcases hq with hq | hq
            · exact ix_tup value slice pins s σ H _ _ v u Q I rx ry ⟨a, vs, i, w, rfl, rfl, hq, e4, q⟩ hs
            · exact ix_list value slice pins s σ H _ _ v u Q I rx ry ⟨a, vs, i, w, rfl, rfl, .of hq, e4, q⟩ hs
        cases r1 with
        | clo _ _ => exact p.elim
        | r n =>
          simp only at p
          cases e2 : itS bx (.r n) with
          | none => rw [e2] at p; exact p.elim
          | some xs => rw [e2] at p; exact seq xs e2 p
        | v w =>
          cases w with
          | str t =>
            simp only at p
            split at p
            · rename_i hl
              cases e3 : (atW i t.cps.toList.length).bind fun j => t.cps.toList[j]? with
              | none => rw [e3] at p; exact p.elim
              | some c =>
                rw [e3] at p
                cases h1 with | v h1 =>
                cases h1
                exact ix_str value slice pins s σ H _ _ v u Q I rx ry ⟨t, i, c, rfl, rfl, SL_le.mp hl, by rw [← atI_eq]; exact e3, p g H _ (Ext.refl g H) b (.v (.str _))⟩ hs
            · exact p.elim
          | tup ws => exact seq (ws.map .v) rfl p
          | lst ws => exact seq (ws.map .v) rfl p
          | _ => exact p.elim
      | _ => exact p.elim
theorem se_idx (hu : X.A.units + 10 < cLine) {a b : Expr} {ma mb : E} {pos : Pos} (ha : SE X ca ma a) (hb : SE X ca mb b) (hs : PlainIx b) : SE X ca (eOp [ma, mb] opIdx) (.Subscript a b pos) := ⟨fun Wx tk =>
  PE.imp (pe_ix (ix_any (ca := ca) hu) (ha.pe Wx tk) (hb.pe Wx tk) hs) fun σ H Q x => tM2 noX_idx x⟩

/-! ### slices -/
theorem mkT_seq {F : Fx} {g : Gd} {bx : Bx} {H : Hp} {Q : VK} {ws : List W} {vs : List V} (b : BxOk F g bx H) (r : RWs F g.Z H ws vs) (l : vs.length ≤ sizeLine) (h : PostO F g H Q (.ok (.v (.tup ws)) bx)) : ∀ p, H p = none → Q (.ref p) (upd H p (.tup vs)) := fun p hp => by
  obtain ⟨x, b'⟩ := b.frozen (o := .tup vs) hp
  exact h _ _ _ x b' (.v (.tup (.inl ⟨.inr rfl, .inl upd_same⟩) l (r.mono x.z fun a z => x.zk a z)))
def rCut (X : Cx) (ca : Ca) (m : Bool) : V → Option Int → Option Int → Hp → VK → Prop := fun x lo hi H Q => tO (fx X ca) (fun rs bx => match rs with
  | [r] => cutR m r lo hi bx
  | _ => .stuck) [x] H Q
theorem sl_any {m : Bool} : SlR X (rCut X ca m) := by
  intro pins s σ H x v vl vu lo hi sl Q I rx hs pl pu ⟨g, bx, rs, b, rr, p⟩
  obtain ⟨r, rfl, h1⟩ := rr.one
  replace p : PostO (fx X ca) g H Q (cutR m r lo hi bx) := p
  have lst : ∀ xs, itL bx r = some xs → PostO (fx X ca) g H Q (mkL m (cutL lo hi xs) bx) → ∃ T id, typeLookup (.type T) "__getitem__" = pure (some (.builtin id)) ∧ s.TypeIs v T ∧ wpAny (model X.prog X.w) X.A (getItem v (.ref sl)) (EP X pins σ Q) X.xe s := fun xs e p => by
    obtain ⟨a, vs, rfl, q, _, rr'⟩ := h1.lst b e
    obtain ⟨_, new⟩ := mkL_ok b rr'.cut p
    exact sl_list pins s σ H _ v vl vu lo hi sl Q I rx hs pl pu ⟨a, vs, rfl, .of q, by rw [cutV_eq]; exact new⟩
  cases r with
  | clo _ _ => exact p.elim
  | r n =>
    simp only [cutR] at p
    cases e : itL bx (.r n) with
    | none => rw [e] at p; exact p.elim
    | some xs => rw [e] at p; exact lst xs e p
  | v w =>
    cases w with
    | str t =>
      simp only [cutR] at p
      split at p
      · rename_i hl
        cases h1 with | v h1 =>
        cases h1
        have e : cutS t lo hi = ⟨(cutL lo hi t.cps.toList).toArray⟩ := by rw [cutL_eq] <;> rfl
        exact sl_str pins s σ H _ v vl vu lo hi sl Q I rx hs pl pu ⟨t, rfl, SL_le.mp hl, by rw [e]; exact p g H _ (Ext.refl g H) b (.v (.str _))⟩
      · exact p.elim
    | tup ws =>
      cases h1 with | v h1 =>
      cases id h1 with
      | @tup _ a vs pp l rs =>
        refine sl_tupA pins s σ H _ v vl vu lo hi sl Q I rx hs pl pu ⟨a, vs, rfl, RW.sqT pp, fun hw => ?_, fun _ => ?_⟩
        · have e : cutL lo hi ws = ws := by
            rw [cutL_eq, rs.length, hw.1, hw.2, ← rs.length]
            simp
          replace p : PostO (fx X ca) g H Q (.ok (.v (.tup (cutL lo hi ws))) bx) := p
          rw [e] at p
          exact p g H _ (Ext.refl g H) b (.v h1)
        · rw [cutV_eq]
          have rc : RRs (fx X ca) g H (cutL lo hi (ws.map .v)) (cutL lo hi vs) := (RRs.of rs).cut
          have e : cutL lo hi (ws.map R.v) = (cutL lo hi ws).map R.v := by
            rw [cutL_eq, cutL_eq, List.length_map, List.map_take, List.map_drop]
          rw [e] at rc
          exact mkT_seq b (RWs.of rc) (by have := cutV_length vs lo hi; rw [cutV_eq] at this; omega) p
    | scr ws =>
      cases h1 with | v h1 =>
      cases h1 with
      | @scr _ a vs q l rs =>
        obtain ⟨_, new⟩ := mkL_ok b (RRs.of rs).cut p
        exact sl_list pins s σ H _ v vl vu lo hi sl Q I rx hs pl pu ⟨a, vs, rfl, q.elim (fun z => .inl z.2) (fun z => z.elim (fun q => q.elim (fun t => nomatch t) fun ⟨_, t⟩ => nomatch t) .inr), by rw [cutV_eq]; exact new⟩
    | lst ws => exact lst (ws.map .v) rfl p
    | _ => exact p.elim
def tEnd (F : Fx) (Wx : WX) : Option E → TO
  | none => tNoPart
  | some m => tPart (tM F Wx m)
theorem tEnd.imp {F : Fx} {Wx : WX} {lo : Option E} {σ : L2.St} {H : Hp} {P P' : Option Int → Hp → Prop} (h : tEnd F Wx lo σ H P) (q : ∀ a H2, P a H2 → P' a H2) : tEnd F Wx lo σ H P' := by
  cases lo with
  | none => exact q _ _ h
  | some m => exact tM_imp h fun v H2 ⟨i, e, z⟩ => ⟨i, e, q _ _ z⟩
theorem part_ok {F : Fx} {Wx : WX} {lo : Option E} {k : Option Int → List R → E} {vs : List V} {σ : L2.St} {H : Hp} {Q : VK} (h : tK F Wx (fun rs => ePart lo fun a => k a rs) vs σ H Q) :
    tEnd F Wx lo σ H fun a H1 => tK F Wx (k a) vs σ H1 Q := by
  cases lo with
  | none => exact h
  | some m =>
    obtain ⟨g, en, bx, rs, a, b, c, p⟩ := h
    refine ⟨g, en, bx, a, b, ?_⟩
    replace p : PostR F g σ H Wx Q (match m en bx with
      | .ok r bx' => (match r with
        | .v (.int i) => k (some i) rs
        | _ => fun _ _ => .stuck) en bx'
      | .exc w bx' => .exc w bx'
      | .stuck => .stuck) := p
    cases e : m en bx with
    | ok r bx' =>
      rw [e] at p
      intro g' H' v e' b' r'
      cases r with
      | v w =>
        cases w with
        | int i => cases r' with | v r' => cases r'; exact ⟨i, rfl, g', en, bx', rs, a.mono e', b', c.mono e', PostR.ext e' p⟩
        | _ => exact p.elim
      | r _ => exact p.elim
      | clo _ _ => exact p.elim
    | exc w bx' => rw [e] at p; exact p
    | stuck => rw [e] at p; exact p
theorem noX_cut {m : Bool} {lo hi : Option Int} : NoX (fun rs bx => match rs with
  | [r] => cutR m r lo hi bx
  | _ => .stuck) := by
  intro rs bx w bx' h
  simp only at h
  split at h
  · unfold cutR at h
    split at h
    · split at h <;> cases h
    · cases h
    · exact noX_mkL _ _ _ _ _ h
    · split at h
      · exact noX_mkL _ _ _ _ _ h
      · cases h
  · cases h
inductive SP' (X : Cx) (ca : Ca) : Option E → Option Expr → Prop
  | no : SP' X ca none none
  | yes {m : E} {e : Expr} : SE X ca m e → SP' X ca (some m) (some e)
theorem SP'.po {X : Cx} {ca : Ca} {lo : Option E} {e : Option Expr} (h : SP' X ca lo e) {Wx : WX} (tk : Takes X Wx) : PO X e (tEnd (fx X ca) Wx lo) := by
  cases h with
  | no => exact po_none
  | yes h => exact po_some (h.pe Wx tk)
theorem PO.imp {X : Cx} {e : Option Expr} {t t' : TO} (h : PO X e t) (q : ∀ σ H Q, t' σ H Q → t σ H Q) : PO X e t' := ⟨fun pins s σ H Q I h' => h.run pins s σ H Q I (q σ H Q h')⟩
theorem se_cut {m : Bool} {e : Expr} {lo hi : Option Expr} {me : E} {ml mh : Option E} {p2 pos : Pos} (he : SE X ca me e) (hl : SP' X ca ml lo) (hh : SP' X ca mh hi) : SE X ca (eCut m me ml mh) (.Subscript e (.Slice lo hi none p2) pos) := ⟨fun Wx tk =>
  PE.imp (pe_slice (sl_any (ca := ca) (m := m)) (he.pe Wx tk) (hl.po tk) (hh.po tk)) fun σ H Q x => by
    have s1 := tK_bind' (vs := []) (k := fun rs => ePart ml fun a => ePart mh fun b => fun _ bx => match rs with
      | [r] => cutR m r a b bx
      | _ => .stuck) (fun rs hl => by
        have : rs = [] := List.eq_nil_of_length_eq_zero hl
        subst this
        rfl) (tK_of (m := eCut m me ml mh) x)
    refine tM_imp s1 fun v H1 s2 => ?_
    have s3 := part_ok (k := fun a rs => ePart mh fun b => fun _ bx => match rs with
      | [r] => cutR m r a b bx
      | _ => .stuck) s2
    refine s3.imp fun a H2 s4 => ?_
    have s5 := part_ok (k := fun b rs _ bx => match rs with
      | [r] => cutR m r a b bx
      | _ => .stuck) s4
    exact s5.imp fun b H3 s6 => tK_op noX_cut s6⟩
/-- xs[::-1] -/
theorem noX_rev (m : Bool) : NoX (opRev m) := by
  intro rs bx w bx' h
  unfold opRev at h
  split at h
  · split at h
    · exact noX_mkL _ _ _ _ _ h
    · cases h
  · cases h
theorem se_rev {m : Bool} {e : Expr} {me : E} {k : Nat} {p1 p2 p3 pos : Pos} (he : SE X ca me e) : SE X ca (eOp [me] (opRev m)) (.Subscript e (.Slice none none (some (.UnaryOp .USub (.Constant (.int 1) k p1) p2)) p3) pos) := ⟨fun Wx tk =>
  PE.imp (pe_revL (he.pe Wx tk)) fun σ H Q x => tM_imp (tM1 (noX_rev m) x) fun v H1 ⟨g, bx, rs, b, rr, p⟩ => by
    obtain ⟨r, rfl, h1⟩ := rr.one
    simp only [opRev] at p
    split at p
    · rename_i xs e
      obtain ⟨a, vs, rfl, q, _, rr'⟩ := h1.lst b e
      obtain ⟨_, new⟩ := mkL_ok b rr'.rev p
      exact ⟨a, vs, rfl, .of q, new⟩
    · exact p.elim⟩
end
end AM
/-! text AmB2 -/
set_option Elab.async false
set_option linter.all false
set_option maxRecDepth 100000
set_option maxHeartbeats 2000000
/-! AmB2: built-in functions; isinstance; repr. -/
namespace AM
open PySem PySem.Spec PyProof.Rows L2


section
variable {X : Cx} {ca : Ca} {e : Expr} {es : List Expr} {as : List (Bool × E)} {x : Str} {p pos : Pos} {f : Op} {id T : String}
/-- a built-in function of the text's globals -/
theorem se_fn (n : NoX f) (hc : CallR X (.builtin id) fun vs H Q => tO (fx X ca) f vs H Q) (hg : Gl X x) (hm : X.mg x = none) (hv : bootBuiltins x = some (.builtin id)) (hn : x ≠ "__name__") (hdb : (x == ("__debug__" : Str)) = false)
    (he : starEach (e :: es) X.env = (false, eval e X.env) :: starEach es X.env) (hpl : (backTo pos (starEach es X.env)).any (·.1) = false) (ha : SA X ca as (e :: es)) : SE X ca (eArgs as fun xs _ bx => f xs bx) (.Call (.Name x p) (e :: es) [] pos) := ⟨fun Wx tk =>
  PE.imp (pe_callB hc hg hm hv (ha.all (k := fun xs _ bx => f xs bx) tk (t := fun σ H Q => ∃ Q0, tM (fx X ca) Wx (eArgs as fun xs _ bx => f xs bx) σ H Q0 ∧ ∀ xs H1, tK (fx X ca) Wx (fun xs _ bx => f xs bx) xs σ H1 Q0 → Q xs H1) fun σ H Q x => x) hn hdb he hpl) fun σ H Q h => ⟨Q, h, fun xs H1 z => tK_op n z⟩⟩
/-- a built-in type, called -/
theorem se_ty (n : NoX f) (hc : CallR X (.type T) fun vs H Q => tO (fx X ca) f vs H Q) (hg : Gl X x) (hm : X.mg x = none) (hv : bootBuiltins x = some (.type T)) (hn : x ≠ "__name__") (hdb : (x == ("__debug__" : Str)) = false)
    (he : starEach (e :: es) X.env = (false, eval e X.env) :: starEach es X.env) (hpl : (backTo pos (starEach es X.env)).any (·.1) = false) (ha : SA X ca as (e :: es)) : SE X ca (eArgs as fun xs _ bx => f xs bx) (.Call (.Name x p) (e :: es) [] pos) := ⟨fun Wx tk =>
  PE.imp (pe_callTy hc hg hm hv (ha.all (k := fun xs _ bx => f xs bx) tk (t := fun σ H Q => ∃ Q0, tM (fx X ca) Wx (eArgs as fun xs _ bx => f xs bx) σ H Q0 ∧ ∀ xs H1, tK (fx X ca) Wx (fun xs _ bx => f xs bx) xs σ H1 Q0 → Q xs H1) fun σ H Q x => x) hn hdb he hpl) fun σ H Q h => ⟨Q, h, fun xs H1 z => tK_op n z⟩⟩
/-- one argument that is there -/
theorem tO_one {F : Fx} {vs : List V} {H : Hp} {Q : VK} (h : tO F f vs H Q) (hf : ∀ rs bx, rs.length ≠ 1 → f rs bx = .stuck) : ∃ g bx r v, vs = [v] ∧ BxOk F g bx H ∧ RR F g H r v ∧ PostO F g H Q (f [r] bx) := by
  obtain ⟨g, bx, rs, b, rr, p⟩ := h
  have hl : rs.length = 1 := Classical.byContradiction fun z => by
    rw [hf rs bx z] at p
    exact p
  match rs, hl, rr with
  | [r], _, .cons h1 .nil => exact ⟨g, bx, r, _, rfl, b, h1, p⟩

/-! ### len -/
theorem noX_len : NoX opLen := by
  intro rs bx w bx' h
  unfold opLen at h
  repeat' split at h
  all_goals cases h
theorem one_len : ∀ rs bx, rs.length ≠ 1 → opLen rs bx = .stuck := fun rs bx h => by
  unfold opLen
  split
  · simp at h
  · rfl
theorem c_len : CallR X (.builtin "len") fun vs H Q => tO (fx X ca) opLen vs H Q := by
  intro pins s σ H xs us Q I r h
  obtain ⟨g, bx, r1, v, rfl, b, h1, p⟩ := tO_one h one_len
  simp only [opLen] at p
  cases e : lenO bx r1 with
  | none => rw [e] at p; exact p.elim
  | some n =>
    rw [e] at p
    have q : Q (.int n) H := p g H _ (Ext.refl g H) b (.v (.int _))
    have dct : ∀ ks rs, dcO bx r1 = some (ks, rs) → n = ks.length → wpAny (model X.prog X.w) X.A (call (.builtin "len") us) (EP X pins σ Q) X.xe s := fun ks rs e1 hn => by
      obtain ⟨a, o, xv, rfl, pp, D, _⟩ := h1.dct b e1
      obtain ⟨u, rfl, rx⟩ := vals1 r
      cases rx
      have ho := d_obj I pp
      have hz := D.len
      rw [sizeLine_eq] at hz
      rcases D.kind.one with t | t
      · obtain ⟨ys, g1, _, g3⟩ := D.nested I ho fun k m => ⟨D.kind.key k m, t k m⟩
        refine call_len_dictH D.sm g1 (by omega) ⟨.int n, H, I.tok _, (by rw [g3, ← hn]; exact ⟨_, rfl⟩), q⟩
      · obtain ⟨kvs, g1, _, _, g4⟩ := D.pairs ho fun k m => ⟨D.kind.key k m, t k m⟩
        refine call_len_dict D.sm g1 (by omega) ⟨.int n, H, I.tok _, (by rw [g4, ← hn]; exact ⟨_, rfl⟩), q⟩
    have seq : ∀ xs, itS bx r1 = some xs → n = xs.length → wpAny (model X.prog X.w) X.A (call (.builtin "len") us) (EP X pins σ Q) X.xe s := fun xs e1 hn => by
      obtain ⟨a, vs, rfl, hs, _, rr⟩ := h1.seq b e1
      refine call_len pins s σ H _ us Q I r ⟨_, n, rfl, ?_, q⟩
      rcases hs with hs | hs
      · exact .inr ⟨vs, hs, hn.trans rr.length⟩
      · exact .inl ⟨vs, .of hs, hn.trans rr.length⟩
    have other : (match itS bx r1 with
      | some xs => some xs.length
      | none => (dcO bx r1).map fun p => p.1.length) = some n → wpAny (model X.prog X.w) X.A (call (.builtin "len") us) (EP X pins σ Q) X.xe s := fun e => by
      cases e1 : itS bx r1 with
      | some xs => rw [e1] at e; cases e; exact seq xs e1 rfl
      | none =>
        rw [e1] at e
        simp only [Option.map_eq_some_iff] at e
        obtain ⟨⟨ks, rs⟩, e2, rfl⟩ := e
        exact dct ks rs e2 rfl
    cases r1 with
    | clo _ _ => exact other e
    | r _ => exact other e
    | v w =>
      cases w with
      | str t =>
        simp only [lenO] at e
        split at e
        · rename_i hl
          cases e
          cases h1 with | v h1 =>
          cases h1
          exact call_len pins s σ H _ us Q I r ⟨_, _, rfl, ⟨SL_le.mp hl, rfl⟩, q⟩
        · cases e
      | _ => exact other e

/-! ### sums -/
theorem bools_ok {F : Fx} {g : Gd} {H : Hp} : ∀ {rs : List R} {vs : List V} {bs : List Bool}, RRs F g H rs vs → boolsO rs = some bs → vs = bs.map V.bl
  | [], _, bs, .nil, e => by simp only [boolsO, Option.some.injEq] at e; subst e; rfl
  | .v (.bl b) :: rs, _, bs, .cons h t, e => by
    simp only [boolsO, Option.map_eq_some_iff] at e
    obtain ⟨bs', e1, rfl⟩ := e
    cases h with | v h => cases h; rw [bools_ok t e1]; rfl
  | .r _ :: _, _, _, _, e => by simp [boolsO] at e
  | .clo _ _ :: _, _, _, _, e => by simp [boolsO] at e
  | .v .non :: _, _, _, _, e => by simp [boolsO] at e
  | .v (.int _) :: _, _, _, _, e => by simp [boolsO] at e
  | .v (.str _) :: _, _, _, _, e => by simp [boolsO] at e
  | .v (.tup _) :: _, _, _, _, e => by simp [boolsO] at e
  | .v (.lst _) :: _, _, _, _, e => by simp [boolsO] at e
  | .v (.dct _ _) :: _, _, _, _, e => by simp [boolsO] at e
  | .v (.ins _ _ _) :: _, _, _, _, e => by simp [boolsO] at e
  | .v (.exn _ _) :: _, _, _, _, e => by simp [boolsO] at e
  | .v (.scr _) :: _, _, _, _, e => by simp [boolsO] at e
theorem ints_ok {F : Fx} {g : Gd} {H : Hp} : ∀ {rs : List R} {vs : List V} {bs : List Int}, RRs F g H rs vs → intsO rs = some bs → vs = bs.map V.int
  | [], _, bs, .nil, e => by simp only [intsO, Option.some.injEq] at e; subst e; rfl
  | .v (.int b) :: rs, _, bs, .cons h t, e => by
    simp only [intsO, Option.map_eq_some_iff] at e
    obtain ⟨bs', e1, rfl⟩ := e
    cases h with | v h => cases h; rw [ints_ok t e1]; rfl
  | .r _ :: _, _, _, _, e => by simp [intsO] at e
  | .clo _ _ :: _, _, _, _, e => by simp [intsO] at e
  | .v .non :: _, _, _, _, e => by simp [intsO] at e
  | .v (.bl _) :: _, _, _, _, e => by simp [intsO] at e
  | .v (.str _) :: _, _, _, _, e => by simp [intsO] at e
  | .v (.tup _) :: _, _, _, _, e => by simp [intsO] at e
  | .v (.lst _) :: _, _, _, _, e => by simp [intsO] at e
  | .v (.dct _ _) :: _, _, _, _, e => by simp [intsO] at e
  | .v (.ins _ _ _) :: _, _, _, _, e => by simp [intsO] at e
  | .v (.exn _ _) :: _, _, _, _, e => by simp [intsO] at e
  | .v (.scr _) :: _, _, _, _, e => by simp [intsO] at e
theorem noX_all : NoX opAll := by
  intro rs bx w bx' h
  unfold opAll at h
  repeat' split at h
  all_goals cases h
theorem noX_any : NoX opAny := by
  intro rs bx w bx' h
  unfold opAny at h
  repeat' split at h
  all_goals cases h
theorem noX_sum : NoX opSum := by
  intro rs bx w bx' h
  unfold opSum at h
  repeat' split at h
  all_goals cases h
theorem c_all (hc : X.calm = true) : CallR X (.builtin "all") fun vs H Q => tO (fx X ca) opAll vs H Q := by
  intro pins s σ H xs us Q I r h
  obtain ⟨g, bx, r1, v, rfl, b, h1, p⟩ := tO_one h fun rs bx h => by
    unfold opAll
    split
    · simp at h
    · rfl
  simp only [opAll] at p
  cases e : (itL bx r1).bind boolsO with
  | none => rw [e] at p; exact p.elim
  | some bs =>
    rw [e] at p
    rw [Option.bind_eq_some_iff] at e
    obtain ⟨xs, e1, e2⟩ := e
    obtain ⟨a, vs, rfl, hs, _, rr⟩ := h1.lst b e1
    obtain rfl := bools_ok rr e2
    exact cr_all hc pins s σ H _ us Q I r ⟨a, bs, rfl, .of hs, okB_ok b p⟩
theorem c_any (hc : X.calm = true) : CallR X (.builtin "any") fun vs H Q => tO (fx X ca) opAny vs H Q := by
  intro pins s σ H xs us Q I r h
  obtain ⟨g, bx, r1, v, rfl, b, h1, p⟩ := tO_one h fun rs bx h => by
    unfold opAny
    split
    · simp at h
    · rfl
  simp only [opAny] at p
  cases e : (itL bx r1).bind boolsO with
  | none => rw [e] at p; exact p.elim
  | some bs =>
    rw [e] at p
    rw [Option.bind_eq_some_iff] at e
    obtain ⟨xs, e1, e2⟩ := e
    obtain ⟨a, vs, rfl, hs, _, rr⟩ := h1.lst b e1
    obtain rfl := bools_ok rr e2
    exact cr_any hc pins s σ H _ us Q I r ⟨a, bs, rfl, .of hs, okB_ok b p⟩
theorem c_sum (hc : X.calm = true) : CallR X (.builtin "sum") fun vs H Q => tO (fx X ca) opSum vs H Q := by
  intro pins s σ H xs us Q I r h
  obtain ⟨g, bx, r1, v, rfl, b, h1, p⟩ := tO_one h fun rs bx h => by
    unfold opSum
    split
    · simp at h
    · rfl
  simp only [opSum] at p
  cases e : (itL bx r1).bind intsO with
  | none => rw [e] at p; exact p.elim
  | some bs =>
    rw [e] at p
    rw [Option.bind_eq_some_iff] at e
    obtain ⟨xs, e1, e2⟩ := e
    obtain ⟨a, vs, rfl, hs, _, rr⟩ := h1.lst b e1
    obtain rfl := ints_ok rr e2
    exact cr_sum hc pins s σ H _ us Q I r ⟨a, bs, rfl, .of hs, p g H _ (Ext.refl g H) b (.v (.int _))⟩
theorem noX_min2 : NoX opMin2 := by
  intro rs bx w bx' h
  unfold opMin2 at h
  repeat' split at h
  all_goals cases h
theorem c_min2 (hc : X.calm = true) : CallR X (.builtin "min") fun vs H Q => tO (fx X ca) opMin2 vs H Q := by
  intro pins s σ H xs us Q I r ⟨g, bx, rs, b, rr, p⟩
  unfold opMin2 at p
  split at p
  · rename_i i j
    cases rr with | cons h1 rr => cases rr with | cons h2 rr =>
    cases rr
    cases h1 with | v h1 => cases h1; cases h2 with | v h2 =>
    cases h2
    exact call_min2 hc pins s σ H _ us Q I r ⟨i, j, rfl, p g H _ (Ext.refl g H) b (.v (.int _))⟩
  · exact p.elim
theorem noX_int : NoX opInt := by
  intro rs bx w bx' h
  unfold opInt at h
  repeat' split at h
  all_goals cases h
theorem c_int : CallR X (.type "int") fun vs H Q => tO (fx X ca) opInt vs H Q := by
  intro pins s σ H xs us Q I r ⟨g, bx, rs, b, rr, p⟩
  unfold opInt at p
  split at p
  · rename_i i
    cases rr with | cons h1 rr =>
    cases rr
    cases h1 with | v h1 =>
    cases h1
    exact call_int1 pins s σ H _ us Q I r (.inl ⟨i, rfl, p g H _ (Ext.refl g H) b (.v (.int _))⟩)
  · rename_i t
    cases rr with | cons h1 rr =>
    cases rr
    cases h1 with | v h1 =>
    cases h1
    exact call_int1 pins s σ H _ us Q I r (.inr ⟨t, rfl, p g H _ (Ext.refl g H) b (.v (.int _))⟩)
  · exact p.elim
theorem noX_str : NoX opStr := by
  intro rs bx w bx' h
  unfold opStr at h
  repeat' split at h
  all_goals cases h
theorem c_str : CallR X (.type "str") fun vs H Q => tO (fx X ca) opStr vs H Q := by
  intro pins s σ H xs us Q I r ⟨g, bx, rs, b, rr, p⟩
  unfold opStr at p
  split at p
  · rename_i i
    split at p
    · rename_i hl
      cases rr with | cons h1 rr =>
      cases rr
      cases h1 with | v h1 =>
      cases h1
      exact call_str_int pins s σ H _ us Q I r ⟨i, rfl, hl, p g H _ (Ext.refl g H) b (.v (.str _))⟩
    · exact p.elim
  · exact p.elim
theorem vals_map : ∀ ws : List W, vals (ws.map R.v) = some ws
  | [] => rfl
  | w :: ws => by
    have ih := vals_map ws
    unfold vals at ih ⊢
    simp [mapO, valO, ih]
/-! ### list(x), tuple(x) -/
theorem noX_list (m : Bool) : NoX (opList m) := by
  intro rs bx w bx' h
  unfold opList at h
  repeat' split at h
  all_goals first
    | cases h
    | exact noX_mkL _ _ _ _ _ h
theorem RD.rws {F : Fx} {Z : Addr → Prop} {H : Hp} : ∀ {ks : List W} {xv : List V} {es : List DictEntry}, RD F Z H ks xv es → ∃ kvs, RWs F Z H ks kvs ∧ Vals kvs (es.map (·.key))
  | _, _, _, .nil => ⟨[], .nil, .nil⟩
  | _, _, _, .cons r rk _ _ t => by
    obtain ⟨kvs, h1, h2⟩ := RD.rws t
    exact ⟨_, .cons r h1, .cons rk h2⟩
theorem list_keys {A : Around} {pins : List (Addr × Obj)} {s : Shared} {σ : L2.St} {H : Hp} {a : Addr} {o : Obj} {es : Array DictEntry} {ep : Nat} {kvs : List V} {Q : VK} (hh : X.A.handled = none) (I : Inv X pins σ H s) (p : DObj X.K H a o) (sm : (a == sysModules) = false) (hx : o.ExactDict) (hd : o.data = .dict es ep) (rv : Vals kvs (es.toList.map (·.key))) (hz : kvs.length ≤ sizeLine)
    (q : ∀ c, H c = none → Q (.ref c) (upd H c (.lst kvs))) : wpAny (model X.prog X.w) X.A (call (.type "list") [.ref a]) (EP X pins σ Q) X.xe s := by
  have ho := d_obj I p
  have hl : kvs.length = es.size := by
    have q := rv.length
    simpa using q
  refine PySem.W.kdl_call (kdl_raw sm hx hd) hh ho (by rw [← hl]; exact hz) fun h' tk acc' c' kp e it => ?_
  have ea : acc'.toList = es.toList.map (·.key) := by
    apply List.ext_getElem?
    intro j
    rw [List.getElem?_map]
    cases hj : acc'.toList[j]? with
    | none =>
      have h1 := List.getElem?_eq_none_iff.mp hj
      rw [Array.length_toList, it.1] at h1
      rw [List.getElem?_eq_none (by rw [Array.length_toList]; exact h1)]
      rfl
    | some v =>
      obtain ⟨en, hen, hv⟩ := it.2 j v (by rw [← Array.getElem?_toList]; exact hj)
      rw [Array.getElem?_toList, hen, hv]
      rfl
  refine ⟨.ref s.heap.objs.size, _, I.laid (t' := tk) (o := .lst kvs) kp (Nat.le_refl _) ?_, rfl, q _ (I.hok.fresh (Nat.le_refl _))⟩
  exact ⟨hz, acc'.toList, c', by rw [ea]; exact rv, by rw [Array.toArray_toList]; exact e⟩
theorem c_list {m : Bool} (hc : X.calm = true) : CallR X (.type "list") fun vs H Q => tO (fx X ca) (opList m) vs H Q := by
  intro pins s σ H xs us Q I r h
  obtain ⟨g, bx, r1, v, rfl, b, h1, p⟩ := tO_one h fun rs bx h => by
    unfold opList
    split
    · simp at h
    · rfl
  simp only [opList] at p
  cases e1 : itS bx r1 with
  | some xs =>
    rw [e1] at p
    obtain ⟨a, vs, rfl, hs, _, rr⟩ := h1.seq b e1
    obtain ⟨_, new⟩ := mkL_ok b rr p
    exact call_list_of pins s σ H _ us Q I r ⟨a, vs, rfl, hs.symm.imp .of id, new⟩
  | none =>
    rw [e1] at p
    cases e2 : dcO bx r1 with
    | none => rw [e2] at p; exact p.elim
    | some pr =>
      obtain ⟨ks, rs⟩ := pr
      simp only [e2] at p
      obtain ⟨a, o, xv, rfl, pp, D, _⟩ := h1.dct b e2
      obtain ⟨es, ep, hd, rd⟩ := D.dat
      obtain ⟨kvs, k1, k2⟩ := rd.rws
      obtain ⟨hz, new⟩ := mkL_ok b (RRs.of k1) p
      obtain ⟨u, rfl, rx⟩ := vals1 r
      cases rx
      exact list_keys (A := X.A) (I.ok.hd hc) I pp D.sm D.ex hd k2 hz new
theorem noX_tuple : NoX opTuple := by
  intro rs bx w bx' h
  unfold opTuple at h
  repeat' split at h
  all_goals first
    | cases h
    | exact noX_mkT _ _ _ _ h
theorem c_tuple : CallR X (.type "tuple") fun vs H Q => tO (fx X ca) opTuple vs H Q := by
  intro pins s σ H xs us Q I r h
  obtain ⟨g, bx, r1, v, rfl, b, h1, p⟩ := tO_one h fun rs bx h => by
    unfold opTuple
    split
    · simp at h
    · rfl
  simp only [opTuple] at p
  cases e1 : itS bx r1 with
  | none => rw [e1] at p; exact p.elim
  | some xs =>
    rw [e1] at p
    have lst : ∀ xs, itL bx r1 = some xs → PostO (fx X ca) g H Q (mkT xs bx) → wpAny (model X.prog X.w) X.A (call (.type "tuple") us) (EP X pins σ Q) X.xe s := fun xs e p => by
      obtain ⟨a, vs, rfl, hs, _, rr⟩ := h1.lst b e
      obtain ⟨_, new⟩ := mkT_ok b rr p
      exact call_tuple_of pins s σ H _ us Q I r ⟨a, vs, rfl, .inl ⟨.of hs, new⟩⟩
    cases r1 with
    | clo _ _ => exact lst xs e1 p
    | r _ => exact lst xs e1 p
    | v w =>
      cases w with
      | tup ws =>
        simp only [itS, Option.some.injEq] at e1
        subst e1
        cases h1 with | v h1 =>
        cases id h1 with
        | @tup _ a vs pp l rs =>
          refine call_tuple_of pins s σ H _ us Q I r ⟨a, vs, rfl, .inr ⟨RW.sqT pp, ?_⟩⟩
          replace p : PostO (fx X ca) g H Q (mkT (ws.map R.v) bx) := p
          unfold mkT at p
          rw [if_pos (by rw [SL_eq, List.length_map, rs.length]; exact l), vals_map] at p
          exact p g H _ (Ext.refl g H) b (.v h1)
      | _ => exact lst xs e1 p
end
end AM
/-! text AmB3 -/
set_option Elab.async false
set_option linter.all false
set_option maxRecDepth 100000
set_option maxHeartbeats 2000000
/-! AmB3: isinstance; repr. -/
namespace AM
open PySem PySem.Spec PyProof.Rows L2

/-! ### e.__class__, an error with or without a dict -/
section
open PySem.W
variable {prog : Program} {w : World} {A : Around} {E : Value → Shared → Prop} {s : Shared} {K : PySem.W.Frag} {x D : Addr} {ox : Obj} {od : Option Obj}
theorem findObj_cls {a gt : Value} (hD : hasDictIn K D = true) (h1 : findIn K (.ref D) "__class__" = some (some a)) (h2 : specialIn K a "__get__" = some (some gt)) (h3 : takesIn K a = some true) : findObj K D od "__class__" = some (.bind gt a) := by
  obtain ⟨cd, hcd, _⟩ := any_some hD
  unfold findObj
  rw [hcd, Option.bind_some, h1, Option.bind_some]
  simp [h2, h3]
theorem cls_of {Q : Option Value → Shared → Prop} (C : ExcC K D) (X : K.In s.heap) (I : InstAt s.heap x ox D od) (h : Q (some (.ref D)) { s with toks := s.toks + 1 }) : wpAny (model prog w) A (getAttr? (.ref x) "__class__") Q E s := by
  have look := findObj_cls (od := od) C.hd C.ha C.hn C.ht
  obtain ⟨hp, gs, dr, tk, ost⟩ := s
  have lT := I.type (M := model prog w)
  have lA := looks_findIn (M := model prog w) X C.hg
  have lB := looks_findIn (M := model prog w) X C.hk
  have lC := looks_find (M := model prog w) X I look
  have isB : Looks (model prog w) hp (isInstance (.ref x) (.type "BaseException")) true := lT.andThen (looks_subIn X C.hs)
  have ne : (Value.builtin "BaseException.__getattribute__" == Value.builtin "object.__getattribute__") = false := by decide +kernel
  have ne2 : (onTheHeap (Value.ref D) && Value.builtin "BaseException.__getattribute__" == Value.builtin "object.__getattribute__") = false := by rw [ne]; rfl
  unfold getAttr? getAttrBy? getAttrBy
  refine wpAny_bind (wpAny_mkText (wpAny_bind (wpAny_attempt (wpAny_holding (wpAny_bind (lT.at (wpAny_bind (lA.at ?_))))))))
  show wpAny _ _ (if (onTheHeap (Value.ref D) && Value.builtin "BaseException.__getattribute__" == Value.builtin "object.__getattribute__") = true then _ else _) _ _ _
  rw [ne2, if_neg Bool.false_ne_true]
  unfold getAttrByItsOwn hookBefore
  refine wpAny_bind ?_
  rw [if_pos (by rfl : onTheHeap (Value.ref D) = true)]
  refine lB.at (wpAny_bind (wpAny_attempt (wpAny_holding ?_)))
  unfold callGetattribute
  rw [(by rfl : (false && onTheHeap (Value.builtin "BaseException.__getattribute__")) = false), if_neg Bool.false_ne_true]
  unfold boundAndCalled
  rw [PySem.F.excAttr_ValueError.ga.bind (.ref x)]
  refine wpAny_bind (wpAny_pure ?_)
  show wpAny _ _ (call (.builtin "BaseException.__getattribute__") [.ref x, .str "__class__" tk]) _ _ _
  refine wpAny_call (codeAny_call_builtin PySem.F.excAttr_ValueError.ga.plain PySem.F.entry_bexc_ga ?_)
  refine @check_slot (model prog w) _ _ ⟨hp, gs, dr, tk + 1, ost⟩ "BaseException.__getattribute__" "BaseException" "__getattribute__" (.ref x) [.str "__class__" tk] [] _ (by decide +kernel) (by decide +kernel) isB (PySem.F.args_bexc_ga (.ref x) (.str "__class__" tk)) ?_
  unfold Builtin.«object.__getattribute__»
  refine wpAny_bind (wpAny_of_eq (a := ((Value.ref x : Value), [Value.str "__class__" tk])) (by first | rfl | (simp only [slotArgs]; rfl)) ?_)
  refine wpAny_bind (wpAny_pure (wpAny_bind (lT.at (wpAny_bind (lC.at ?_)))))
  show wpAny _ _ (holding [Value.builtin "object.__class__"] (call (.builtin "getset_descriptor.__get__") [.builtin "object.__class__", .ref x, .ref D]) >>= ret) _ _ _
  refine wpAny_bind (wpAny_holding (wpAny_call (class_get (s := ⟨hp, gs, dr, tk + 1, ost⟩) (ox := ox) (od := od) X I C.hm ?_)))
  refine wpAny_pure ?_
  show wpAny _ _ (handedOut (.ref D)) _ _ _
  rw [handedOut_of (v := .ref D) (by rfl)]
  first
    | exact wpAny_pure (wpAny_pure h)
    | exact wpAny_pure h
    | exact wpAny_pure (wpAny_bind (wpAny_pure (wpAny_pure h)))
theorem kitx_err (C : ExcC K D) : KitX K (.ref x) (.ref D) (fun h => InstAt h x ox D od) where
  ty := fun _ _ _ I => I.type
  it := fun _ h X _ => by
    obtain ⟨cd, hcd, _⟩ := any_some C.hd
    unfold clsIn at hcd
    split at hcd
    · rename_i o1 o2 o3 o4 ho
      exact fun A2 Q2 E2 s2 k q => by
        unfold isType loadHead
        exact wpAny_bind (wpAny_loadPart (k _ _ (X _ _ ho)) (wpAny_pure q))
    · cases hcd
  ne := fun h tp dd its n sl X htp => (PySem.W.handS_kitx_exc (x := x) (ox := ox) C.hg C.hk C.hs C.hd C.ha C.hn C.ht C.hm).ne h tp dd its n sl X htp
  ca := fun X I k => cls_of C X I k
end
/-- what a class of plain instances must say -/
structure ClsI (K : PySem.W.Frag) (C : Addr) : Prop where
  cl : Cls K C
  ha : PySem.W.findIn K (.ref C) "__class__" = some (some (.builtin "object.__class__"))
  hn : PySem.W.specialIn K (.builtin "object.__class__") "__get__" = some (some (.builtin "getset_descriptor.__get__"))
  ht : PySem.W.takesIn K (.builtin "object.__class__") = some true
  hm : PySem.W.mroIn K C (.type "object") = some true
def tyNames : List String := ["NoneType", "bool", "int", "str", "tuple", "list", "dict"]
/-- the classes' table is right -/
structure TabOk (K : PySem.W.Frag) (ca : Ca) (T : Tab) : Prop where
  ins : ∀ c, c < T.n → T.exc c = false → ClsI K (ca c)
  exc : ∀ c, c < T.n → T.exc c = true → ExcC K (ca c)
  sub : ∀ c d, c < T.n → d < T.n → PySem.W.kitOne K (.ref (ca d)) (.ref (ca c)) = some (T.sub d c)
  ty : ∀ c nm, c < T.n → nm ∈ tyNames → PySem.W.kitOne K (.type nm) (.ref (ca c)) = some false
  no : ∀ c t, c < T.n → PySem.W.kitOne K (.ref (ca c)) (.type (tyN t)) = some false
  ve : ∀ c, c < T.n → PySem.W.kitOne K (.ref (ca c)) (.type "ValueError") = some (T.exc c)

section
variable {X : Cx} {ca : Ca} {T : Tab} {pins : List (Addr × Obj)} {σ : L2.St} {H : Hp} {s : Shared} {g : Gd} {bx : Bx} {r : R} {v : V} {u : Value}
def tyV (ca : Ca) : String ⊕ Nat → Value
  | .inl nm => .type nm
  | .inr c => .ref (ca c)
def tyOK (T : Tab) : String ⊕ Nat → Prop
  | .inl nm => nm ∈ tyNames
  | .inr c => c < T.n
theorem opaque_ref (a : Addr) : Value.ref a ≠ .builtin "__main__.__loader__#opaque" := fun z => nomatch z
theorem kit_w (TO : TabOk X.K ca T) (I : Inv X pins σ H s) (b : BxOk (fx X ca) g bx H) (h : RR (fx X ca) g H r v) (ru : RelV v u) {t : String ⊕ Nat} (e : typO T bx r = some t) :
    (∃ P : Heap → Prop, PySem.W.KitX X.K u (tyV ca t) P ∧ P s.heap) ∧ u ≠ .builtin "__main__.__loader__#opaque" ∧ tyOK T t := by
  have lst : ∀ {a : Addr} {vs : List V}, H a = some (.lst vs) → ∃ P : Heap → Prop, PySem.W.KitX X.K (.ref a) (.type "list") P ∧ P s.heap := fun {a vs} q => by
    obtain ⟨_, its, n, _, h1⟩ := I.hok a _ q
    exact ⟨_, PySem.W.kitx_list, ⟨_, h1, rfl⟩⟩
  have dct : ∀ {a : Addr} {o : Obj}, (H a = some (pinO a o) ∨ X.K.lookup a = some o) → o.ExactDict → ∃ P : Heap → Prop, PySem.W.KitX X.K (.ref a) (.type "dict") P ∧ P s.heap := fun {a o} q x =>
    ⟨_, PySem.W.kitx_dict, ⟨o, d_obj I q, x.1⟩⟩
  have ins : ∀ {a dx : Addr} {c : Nat} {fv : List (Str × V)}, H a = some (.ins (ca c) dx fv) → c < T.n → T.exc c = false → ∃ P : Heap → Prop, PySem.W.KitX X.K (.ref a) (.ref (ca c)) P ∧ P s.heap := fun {a dx c fv} q l x => by
    have C := TO.ins c l x
    obtain ⟨mA, O, _⟩ := ins_get I.hok q
    obtain ⟨od, J, _⟩ := O.look
    exact ⟨_, PySem.W.kitx_own (C.cl.get _) C.cl.hd C.ha C.hn C.ht C.hm, J⟩
  cases h with
  | @v w v h =>
    cases h with
    | non => cases e; cases (show u = Value.none from ru); exact ⟨⟨_, PySem.W.kitx_none, True.intro⟩, (fun z => nomatch z), by simp [tyOK, tyNames]⟩
    | bl y => cases e; cases (show u = Value.bool y from ru); exact ⟨⟨_, PySem.W.kitx_bool, True.intro⟩, (fun z => nomatch z), by simp [tyOK, tyNames]⟩
    | int i => cases e; obtain ⟨t, q⟩ := (show ∃ t, u = Value.int i t from ru); cases q; exact ⟨⟨_, PySem.W.kitx_int, True.intro⟩, (fun z => nomatch z), by simp [tyOK, tyNames]⟩
    | str y => cases e; obtain ⟨t, q⟩ := (show ∃ t, u = Value.str y t from ru); cases q; exact ⟨⟨_, PySem.W.kitx_str, True.intro⟩, (fun z => nomatch z), by simp [tyOK, tyNames]⟩
    | tup p l rs =>
      cases e
      cases ru
      obtain ⟨its, _, ⟨o, h1, h2, _⟩, _⟩ := I.tuple (RW.sqT p)
      exact ⟨⟨_, PySem.W.kitx_tuple, ⟨o, h1, h2⟩⟩, opaque_ref _, by simp [tyOK, tyNames]⟩
    | lst z q l rs => cases e; cases ru; exact ⟨lst q, opaque_ref _, by simp [tyOK, tyNames]⟩
    | scr _ _ _ => simp [typO] at e
    | dct p s o1 o2 l d r n k => cases e; cases ru; exact ⟨dct (p.imp (·.2) id) o1, opaque_ref _, by simp [tyOK, tyNames]⟩
    | ins z q f rs =>
      simp only [typO] at e
      split at e
      · rename_i hc
        cases e
        cases ru
        exact ⟨ins q hc.1 hc.2, opaque_ref _, hc.1⟩
      · cases e
    | @exn c a z q =>
      simp only [typO] at e
      split at e
      · rename_i hc
        cases e
        cases ru
        have C := TO.exc c hc.1 hc.2
        obtain ⟨oe, vs, h1, h2, h3, h4⟩ := (I.hok a _ q).1
        have J : PySem.W.InstAt s.heap a oe (ca c) none := by
          obtain ⟨oc, od, oda, osl⟩ := oe
          dsimp only at h2 h3 h4
          subst h2 h3 h4
          exact ⟨h1, rfl, rfl, trivial⟩
        exact ⟨⟨_, PySem.W.handS_kitx_exc C.hg C.hk C.hs C.hd C.ha C.hn C.ht C.hm, J⟩, opaque_ref _, hc.1⟩
      · cases e
    | @exn1 c a dd i z q z2 q2 =>
      simp only [typO] at e
      split at e
      · rename_i hc
        cases e
        cases ru
        have C := TO.exc c hc.1 hc.2
        obtain ⟨oe, vs, h1, h2, h3, h4⟩ := (I.hok a _ q).1
        obtain ⟨mA, hns, _⟩ := (show ObjOk X.prog X.w H s.heap dd (.xd [(("line" : Str), .int i)]) from I.hok dd _ q2)
        obtain ⟨od, ho, _⟩ := lookIn_ns hns
        have J : PySem.W.InstAt s.heap a oe (ca c) (some od) := ⟨h1, h2, by unfold PySem.W.notCls; rw [h4] <;> rfl, by rw [h3]; exact ho⟩
        exact ⟨⟨_, kitx_err C, J⟩, opaque_ref _, hc.1⟩
      · cases e
  | @r n a q =>
    cases ru
    simp only [typO] at e
    split at e
    · rename_i xs hb
      have := b.at_ n a _ q hb
      cases this with | lst q l rs => cases e; exact ⟨lst q, opaque_ref _, by simp [tyOK, tyNames]⟩
    · rename_i ks rs hb
      have := b.at_ n a _ q hb
      cases this with | dct q s o1 o2 l d r n k => cases e; exact ⟨dct (.inl q) o1, opaque_ref _, by simp [tyOK, tyNames]⟩
    · rename_i c fs hb
      have := b.at_ n a _ q hb
      cases this with
      | ins q f rs =>
        split at e
        · rename_i hc
          cases e
          exact ⟨ins q hc.1 hc.2, opaque_ref _, hc.1⟩
        · cases e
    · cases e
theorem kit_names : ∀ nm ∈ tyNames, ∀ t : Ty, kitB nm (tyN t) = some (nm == tyN t || (nm == "bool" && t == .int)) := by
  intro nm h t
  simp only [tyNames, List.mem_cons, List.not_mem_nil, or_false] at h
  rcases h with rfl | rfl | rfl | rfl | rfl | rfl | rfl <;> cases t <;> decide +kernel
theorem kit_ve : ∀ nm ∈ tyNames, kitB nm "ValueError" = some false := by
  intro nm h
  simp only [tyNames, List.mem_cons, List.not_mem_nil, or_false] at h
  rcases h with rfl | rfl | rfl | rfl | rfl | rfl | rfl <;> decide +kernel
end
section
variable {X : Cx} {ca : Ca} {T : Tab} {e : Expr} {m : E} {x : Str} {p p2 pos : Pos} {f : Op}
/-- isinstance(e, x), x the class cv -/
theorem se_isi (n : NoX f) (c : V) (cv : Value) (hcv : ClsV c cv) (pc : PE X (.Name x p2) (tC c)) (hg : Gl X "isinstance") (hm : X.mg "isinstance" = none)
    (hs : starEach [e, .Name x p2] X.env = (false, eval e X.env) :: starEach [.Name x p2] X.env) (hs2 : starEach [.Name x p2] X.env = (false, eval (.Name x p2) X.env) :: starEach [] X.env) (hpl : (backTo pos (starEach [.Name x p2] X.env)).any (·.1) = false)
    (hf : ∀ pins s σ H v u Q, Inv X pins σ H s → RelV v u → tO (fx X ca) f [v] H Q → wpAny (model X.prog X.w) X.A (call (.builtin "isinstance") [u, cv]) (EP X pins σ Q) X.xe s)
    (he : SE X ca m e) : SE X ca (eOp [m] f) (.Call (.Name "isinstance" p) [e, .Name x p2] [] pos) := ⟨fun Wx tk =>
  PE.imp (pe_callB (id := "isinstance") (r := fun vs H Q => ∃ v, vs = [v, c] ∧ tO (fx X ca) f [v] H Q) (by
    intro pins s σ H xs us Q I r ⟨v, e, h⟩
    subst e
    obtain ⟨u1, u2, rfl, r1, r2⟩ := vals2 r
    obtain rfl := hcv.eq r2
    exact hf pins s σ H v u1 Q I r1 h) hg hm (by decide +kernel) (pa_cons (he.pe Wx tk) (pa_cons pc pa_nil hs2) hs) (by decide) (by decide) hs hpl) fun σ H Q h => tM_imp (tM1 n h) fun v H1 h1 => ⟨v, rfl, h1⟩⟩
theorem noX_isTy (t : Ty) : NoX (opIsTy T t) := by
  intro rs bx w bx' h
  unfold opIsTy at h
  repeat' split at h
  all_goals cases h
theorem noX_isC (c : Nat) : NoX (opIsC T c) := by
  intro rs bx w bx' h
  unfold opIsC at h
  repeat' split at h
  all_goals cases h
theorem noX_isVE : NoX (opIsVE T) := by
  intro rs bx w bx' h
  unfold opIsVE at h
  repeat' split at h
  all_goals cases h
theorem isi_ty (TO : TabOk X.K ca T) (t : Ty) : ∀ pins s σ H v u Q, Inv X pins σ H s → RelV v u → tO (fx X ca) (opIsTy T t) [v] H Q → wpAny (model X.prog X.w) X.A (call (.builtin "isinstance") [u, .type (tyN t)]) (EP X pins σ Q) X.xe s := by
  intro pins s σ H v u Q I ru ⟨g, bx, rs, b, rr, p⟩
  obtain ⟨r, rfl, h1⟩ := rr.one
  simp only [opIsTy] at p
  cases e : typO T bx r with
  | none => rw [e] at p; exact p.elim
  | some tt =>
    rw [e] at p
    obtain ⟨⟨P, Z, z⟩, ho, ok⟩ := kit_w TO I b h1 ru e
    cases tt with
    | inl nm => exact PySem.W.kia_one Z I.kIn z (kit_ty (kit_names nm ok t)) ho fun k => ⟨.bl _, H, I.tok k, rfl, okB_ok b p⟩
    | inr c => exact PySem.W.kia_one Z I.kIn z (TO.no c t ok) ho fun k => ⟨.bl _, H, I.tok k, rfl, okB_ok b p⟩
theorem isi_c (TO : TabOk X.K ca T) (c : Nat) : ∀ pins s σ H v u Q, Inv X pins σ H s → RelV v u → tO (fx X ca) (opIsC T c) [v] H Q → wpAny (model X.prog X.w) X.A (call (.builtin "isinstance") [u, .ref (ca c)]) (EP X pins σ Q) X.xe s := by
  intro pins s σ H v u Q I ru ⟨g, bx, rs, b, rr, p⟩
  obtain ⟨r, rfl, h1⟩ := rr.one
  simp only [opIsC] at p
  split at p
  · rename_i hc
    cases e : typO T bx r with
    | none => rw [e] at p; exact p.elim
    | some tt =>
      rw [e] at p
      obtain ⟨⟨P, Z, z⟩, ho, ok⟩ := kit_w TO I b h1 ru e
      cases tt with
      | inl nm => exact PySem.W.kia_one Z I.kIn z (TO.ty c nm hc ok) ho fun k => ⟨.bl _, H, I.tok k, rfl, okB_ok b p⟩
      | inr d => exact PySem.W.kia_one Z I.kIn z (TO.sub c d hc ok) ho fun k => ⟨.bl _, H, I.tok k, rfl, okB_ok b p⟩
  · exact p.elim
theorem isi_ve (TO : TabOk X.K ca T) : ∀ pins s σ H v u Q, Inv X pins σ H s → RelV v u → tO (fx X ca) (opIsVE T) [v] H Q → wpAny (model X.prog X.w) X.A (call (.builtin "isinstance") [u, .type "ValueError"]) (EP X pins σ Q) X.xe s := by
  intro pins s σ H v u Q I ru ⟨g, bx, rs, b, rr, p⟩
  obtain ⟨r, rfl, h1⟩ := rr.one
  simp only [opIsVE] at p
  cases e : typO T bx r with
  | none => rw [e] at p; exact p.elim
  | some tt =>
    rw [e] at p
    obtain ⟨⟨P, Z, z⟩, ho, ok⟩ := kit_w TO I b h1 ru e
    cases tt with
    | inl nm => exact PySem.W.kia_one Z I.kIn z (kit_ty (kit_ve nm ok)) ho fun k => ⟨.bl _, H, I.tok k, rfl, okB_ok b p⟩
    | inr d => exact PySem.W.kia_one Z I.kIn z (TO.ve d ok) ho fun k => ⟨.bl _, H, I.tok k, rfl, okB_ok b p⟩
end

/-! ### repr -/
section
variable {X : Cx} {ca : Ca} {pins : List (Addr × Obj)} {σ : L2.St} {H : Hp} {s : Shared} {Z : Addr → Prop}
/-- what is read holds no list of loaded modules -/
def NoSm (h : Heap) (as : List Addr) : Prop := ∀ a ∈ as, a = sysModules → ∃ o, h.get? a = some o ∧ o.cls = .type "list"
theorem NoSm.append {h : Heap} {as bs : List Addr} (x : NoSm h as) (y : NoSm h bs) : NoSm h (as ++ bs) := fun a m e => (List.mem_append.mp m).elim (fun z => x a z e) (fun z => y a z e)
theorem NoSm.cons {h : Heap} {a : Addr} {as : List Addr} (x : a = sysModules → ∃ o, h.get? a = some o ∧ o.cls = .type "list") (y : NoSm h as) : NoSm h (a :: as) := fun b m e => (List.mem_cons.mp m).elim (fun z => by subst z; exact x e) (fun z => y b z e)
theorem NoSm.nil {h : Heap} : NoSm h [] := fun a m => nomatch m
theorem toDs_len : ∀ {ws : List W} {ds : List PyData}, W.toDs ws = some ds → ws.length = ds.length
  | [], ds, h => by simp only [W.toDs, Option.some.injEq] at h; subst h; rfl
  | w :: ws, ds, h => by
    simp only [W.toDs] at h
    split at h
    · rename_i a b e1 e2
      cases h
      simp [toDs_len e2]
    · cases h
mutual
theorem RW.reads (I : Inv X pins σ H s) : ∀ {w : W} {v : V} {d : PyData} {u : Value}, RW (fx X ca) Z H w v → w.toD = some d → RelV v u → ∃ as, Reads s.heap u d as ∧ NoSm s.heap as
  | _, _, _, _, .non, e, r => by simp only [W.toD, Option.some.injEq] at e; subst e; cases r; exact ⟨_, .none, .nil⟩
  | _, _, _, _, .bl b, e, r => by simp only [W.toD, Option.some.injEq] at e; subst e; cases r; exact ⟨_, .bool b, .nil⟩
  | _, _, _, _, .int i, e, r => by simp only [W.toD, Option.some.injEq] at e; subst e; obtain ⟨t, rfl⟩ := r; exact ⟨_, .int i t, .nil⟩
  | _, _, _, _, .str x, e, r => by simp only [W.toD, Option.some.injEq] at e; subst e; obtain ⟨t, rfl⟩ := r; exact ⟨_, .str x t, .nil⟩
  | _, _, _, _, .tup p l rs, e, r => by
    simp only [W.toD, Option.map_eq_some_iff] at e
    obtain ⟨ds, e1, rfl⟩ := e
    obtain ⟨its, rv, ⟨o, h1, h2, n, h3⟩, _⟩ := I.tuple (RW.sqT p)
    cases r
    obtain ⟨as, ra, ns⟩ := RWs.reads I rs e1 rv
    exact ⟨as, .tuple h1 h2 h3 ra, ns⟩
  | _, _, _, _, .lst z q l rs, e, r => by
    simp only [W.toD, Option.map_eq_some_iff] at e
    obtain ⟨ds, e1, rfl⟩ := e
    obtain ⟨_, its, n, rv, h1⟩ := I.hok _ _ q
    cases r
    obtain ⟨as, ra, ns⟩ := RWs.reads I rs e1 rv
    exact ⟨_, .list h1 rfl rfl ra, ns.cons fun _ => ⟨_, h1, rfl⟩⟩
  | _, _, _, _, .scr _ _ _, e, _ => by simp [W.toD] at e
  | _, _, _, _, .dct (ks := ks) (vs := vs) (a := a) (o := o) (es := es) (xv := xv) p sm o1 o2 l rd rs n kk, e, r => by
    simp only [W.toD] at e
    split at e
    · rename_i da db e1 e2
      cases e
      cases r
      have ho := d_obj I (p.imp (·.2) id)
      obtain ⟨as, ra, na⟩ := RD.readsK I rd e1
      obtain ⟨bs, rb, nb⟩ := RWs.reads I rs e2 (RD.vals rd)
      have l1 := toDs_len e1
      have l2 := toDs_len e2
      have l3 := rd.lens
      have l4 := rs.length
      have z1 : (da.zip db).map (·.1) = da := List.map_fst_zip (by omega)
      have z2 : (da.zip db).map (·.2) = db := List.map_snd_zip (by omega)
      refine ⟨_, .dict ho o1.1 o2 (by rw [z1]; exact ra) (by rw [z2]; exact rb), (NoSm.cons (fun z => ?_) na).append nb⟩
      rw [z] at sm
      cases sm
    · cases e
  | _, _, _, _, .ins _ _ _ _, e, _ => by simp [W.toD] at e
  | _, _, _, _, .exn _ _, e, _ => by simp [W.toD] at e
  | _, _, _, _, .exn1 _ _ _ _, e, _ => by simp [W.toD] at e
theorem RWs.reads (I : Inv X pins σ H s) : ∀ {ws : List W} {vs : List V} {ds : List PyData} {us : List Value}, RWs (fx X ca) Z H ws vs → W.toDs ws = some ds → Vals vs us → ∃ as, ReadsAll s.heap us ds as ∧ NoSm s.heap as
  | _, _, _, _, .nil, e, r => by simp only [W.toDs, Option.some.injEq] at e; subst e; cases r; exact ⟨_, .nil, .nil⟩
  | _, _, _, _, .cons a t, e, r => by
    simp only [W.toDs] at e
    split at e
    · rename_i x y e1 e2
      cases e
      cases r with
      | cons r1 r2 =>
        obtain ⟨as, ra, na⟩ := RW.reads I a e1 r1
        obtain ⟨bs, rb, nb⟩ := RWs.reads I t e2 r2
        exact ⟨_, .cons ra rb, na.append nb⟩
    · cases e
theorem RD.readsK (I : Inv X pins σ H s) : ∀ {ks : List W} {xv : List V} {es : List DictEntry} {ds : List PyData}, RD (fx X ca) Z H ks xv es → W.toDs ks = some ds → ∃ as, ReadsAll s.heap (es.map (·.key)) ds as ∧ NoSm s.heap as
  | _, _, _, _, .nil, e => by simp only [W.toDs, Option.some.injEq] at e; subst e; exact ⟨_, .nil, .nil⟩
  | _, _, _, _, .cons a rk _ _ t, e => by
    simp only [W.toDs] at e
    split at e
    · rename_i x y e1 e2
      cases e
      obtain ⟨as, ra, na⟩ := RW.reads I a e1 rk
      obtain ⟨bs, rb, nb⟩ := RD.readsK I t e2
      exact ⟨_, .cons ra rb, na.append nb⟩
    · cases e
theorem RD.vals : ∀ {ks : List W} {xv : List V} {es : List DictEntry}, RD (fx X ca) Z H ks xv es → Vals xv (es.map (·.val))
  | _, _, _, .nil => .nil
  | _, _, _, .cons _ _ _ x t => .cons x (RD.vals t)
end
theorem noX_repr : NoX opRepr := by
  intro rs bx w bx' h
  unfold opRepr at h
  repeat' split at h
  all_goals cases h
/-- hsy: where the loaded modules stand is a dict -/
theorem c_repr (hgd : X.A.guards = some []) (hu : X.A.units + 64 < cLine) (hsy : ∃ o, X.K.lookup sysModules = some o ∧ o.cls ≠ .type "list") : CallR X (.builtin "repr") fun vs H Q => tO (fx X ca) opRepr vs H Q := by
  intro pins s σ H xs us Q I r h
  obtain ⟨g, bx, r1, v, rfl, b, h1, p⟩ := tO_one h fun rs bx h => by
    unfold opRepr
    split
    · simp at h
    · rfl
  simp only [opRepr] at p
  cases e : (view bx 9 r1).bind W.toD with
  | none => rw [e] at p; exact p.elim
  | some d =>
    rw [e] at p
    by_cases hd : d.showable = true ∧ d.shown.length ≤ SL ∧ d.depth ≤ 60
    · simp only [if_pos hd] at p
      obtain ⟨h2, h3, h4⟩ := hd
      have q := p g H _ (Ext.refl g H) b (.v (.str _))
      rw [Option.bind_eq_some_iff] at e
      obtain ⟨w, e1, e2⟩ := e
      have rw' := view_ok b 9 h1 e1
      obtain ⟨u, rfl, ru⟩ := vals1 r
      obtain ⟨as, ra, na⟩ := rw'.reads I e2 ru
      have hz := SL_le.mp h3
      have ra2 := ra
      cases ra with
      | none => exact PySem.P.repr_of_none ⟨.str _, H, I.tok _, ⟨_, rfl⟩, q⟩
      | bool c => exact PySem.P.repr_of_bool ⟨.str _, H, I.tok _, ⟨_, rfl⟩, q⟩
      | int i t =>
        have h5 : i.natAbs.log2 < 1920 := by simpa [PyData.showable] using h2
        exact PySem.P.repr_of_int h5 ⟨.str _, H, I.tok _, ⟨_, rfl⟩, q⟩
      | str x t => exact PySem.P.repr_of_str (hsz := hz) ⟨.str _, H, I.tok _, ⟨_, rfl⟩, q⟩
      | _ =>
        refine repr_of_reads' (hsz := hz) ra2 h2 (fun _ m => ?_) hgd (by omega) (fun _ _ z => z) fun h' u tk hk => ⟨.str _, H, I.kept hk, ⟨_, rfl⟩, q⟩
        obtain ⟨o, o1, o2⟩ := na _ m rfl
        obtain ⟨o', o3, o4⟩ := hsy
        rw [I.kIn _ _ o3] at o1
        cases o1
        exact o4 o2
    · simp only [if_neg hd] at p
      exact p.elim
end
end AM
/-! text AmC1 -/
set_option Elab.async false
set_option linter.all false
set_option maxRecDepth 100000
set_option maxHeartbeats 2000000
/-! AmC1: list comprehensions. -/
namespace AM
open PySem PySem.Spec PyProof.Rows L2

/-- nothing raises -/
abbrev W0 : WX := fun _ _ _ _ => False
theorem takes0 (X : Cx) : Takes X W0 := fun u s' ⟨_, _, _, _, _, _, _, _, _, _, _, _, _, _, _, _, f⟩ => f.elim

section
variable {F : Fx} {g g' : Gd} {bx bx' : Bx} {H H' : Hp} {D : Addr}
/-- D is no box, nothing frozen -/
structure Out (F : Fx) (g : Gd) (D : Addr) : Prop where
  z : ¬ g.Z D
  al : D ∉ g.al
  tb : ∀ p ∈ F.ca.T, p.1 ≠ D
theorem Out.later (o : Out F g D) (hs : (H D).isSome) (nt : ∀ ps, H D ≠ some (.tbl ps)) (x : Ext g H g' H') : Out F g' D ∧ H' D = H D := by
  obtain ⟨t, e, ht⟩ := x.al
  refine ⟨⟨fun z => ?_, fun m => ?_, o.tb⟩, x.keep D hs o.al nt⟩
  · rcases x.zn D z with q | q
    · exact o.z q
    · rw [q] at hs; cases hs
  · rw [e] at m
    rcases List.mem_append.mp m with m | m
    · exact o.al m
    · rw [ht D m] at hs; cases hs
theorem BxOk.out (b : BxOk F g bx H) (h : H D = none) : Out F g D := by
  refine ⟨fun z => ?_, fun m => ?_, fun p m e => ?_⟩
  · have := b.trk D z
    rw [h] at this; cases this
  · have := b.alsome m
    rw [h] at this; cases this
  · obtain ⟨ps, h1⟩ := (b.tabs p m).at
    rw [e, h] at h1; cases h1
/-- the heap changed at D alone, that was not there at the base -/
theorem BxOk.agree {g0 : Gd} {H0 : Hp} (b : BxOk F g bx H) (x : Ext g0 H0 g H) (h0 : H0 D = none) (o : Out F g D) (h : ∀ a, a ≠ D → H' a = H a) : Ext g0 H0 g H' ∧ BxOk F g bx H' ∧ (∀ r v, RR F g H r v → RR F g H' r v) := by
  have zd : ∀ a, g.Z a → a ≠ D := fun a z e => o.z (e ▸ z)
  have ad : ∀ a, a ∈ g.al → a ≠ D := fun a z e => o.al (e ▸ z)
  have nd : ∀ a, (H0 a).isSome → a ≠ D := fun a z e => by rw [e, h0] at z; cases z
  have rr : ∀ r v, RR F g H r v → RR F g H' r v := fun r v q => by
    cases q with
    | v w => exact .v (w.mono (fun _ z => z) fun a z => h a (zd a z))
    | r e => exact .r e
  have rrs : ∀ rs vs, RRs F g H rs vs → RRs F g H' rs vs := fun rs vs q => by
    induction q with
    | nil => exact .nil
    | cons a _ ih => exact .cons (rr _ _ a) ih
  refine ⟨⟨x.z, x.zn, x.al, fun a z => (h a (zd a (x.z a z))).trans (x.zk a z), fun a z n nt => (h a (nd a z)).trans (x.keep a z n nt), fun a z => ?_⟩, ⟨b.len, b.nd, fun n a bb e1 e2 => ?_, b.free, fun a z => ?_, fun p m => (b.tabs p m).stay (h p.1 (o.tb p m)) (fun _ z => z) id fun a z => h a (zd a z)⟩, rr⟩
  · rw [h a (nd a z)]; exact x.there a z
  · have hm := h a (ad a (List.mem_of_getElem? e1))
    cases b.at_ n a bb e1 e2 with
    | lst q l r => exact .lst (hm.trans q) l (rrs _ _ r)
    | dct q s o1 o2 l d r n kk => exact .dct (hm.trans q) s o1 o2 l (d.mono (fun _ z => z) fun a z => h a (zd a z)) (rrs _ _ r) n kk
    | ins q f r => exact .ins (hm.trans q) f (rrs _ _ r)
  · rw [h a (zd a z)]; exact b.trk a z
theorem RRs.agree {rs : List R} {vs : List V} (h : ∀ r v, RR F g H r v → RR F g H' r v) (q : RRs F g H rs vs) : RRs F g H' rs vs := by
  induction q with
  | nil => exact .nil
  | cons a _ ih => exact .cons (h _ _ a) ih
theorem EnOk.agree {en : En} {σ : L2.St} (h : ∀ r v, RR F g H r v → RR F g H' r v) (q : EnOk F g en σ H) : EnOk F g en σ H' :=
  ⟨q.1, fun i r e => let ⟨v, a, b⟩ := q.2 i r e; ⟨v, a, h _ _ b⟩⟩
/-- forgotten slots -/
theorem EnOk.forget {en : En} {σ : L2.St} {i : Nat} (h : EnOk F g en σ H) : EnOk F g (en.set i none) σ H := by
  refine ⟨by simp [h.1], fun j r' e => ?_⟩
  by_cases z : j = i
  · subst z
    by_cases l : j < en.length
    · rw [List.getElem?_set_self l] at e
      cases e
    · rw [List.getElem?_eq_none (by simpa using l)] at e
      cases e
  · rw [List.getElem?_set_ne (Ne.symm z)] at e
    exact h.2 j r' e
theorem EnOk.wipe1 {en : En} {σ : L2.St} (h : EnOk F g en σ H) : ∀ own : List Nat, EnOk F g (wipeE en own) σ H
  | [] => h
  | v :: vs => (EnOk.wipe1 h vs).forget
theorem EnOk.wipe2 {en : En} {σ : L2.St} (h : EnOk F g en σ H) : ∀ own : List Nat, EnOk F g (wipeE en own) (wipe σ own) H
  | [] => h
  | v :: vs => (EnOk.wipe2 h vs).unset
theorem wipe_same {is vs : List Nat} {σ σ' : L2.St} (h : Same is σ σ') (k : ∀ i ∈ is, i ∈ vs) : wipe σ' vs = wipe σ vs := by
  apply List.ext_getElem?
  intro i
  by_cases hi : i ∈ vs
  · have none_at : ∀ (τ : L2.St) (vs : List Nat), i ∈ vs → i < τ.length → (wipe τ vs)[i]? = some none := by
      intro τ vs
      induction vs with
      | nil => intro h; cases h
      | cons v vs ih =>
        intro h hl
        unfold wipe
        by_cases e : v = i
        · subst e
          exact List.getElem?_set_self (by rw [wipe_length]; exact hl)
        · rw [List.getElem?_set_ne e]
          exact ih ((List.mem_cons.mp h).resolve_left fun z => e z.symm) hl
    by_cases hl : i < σ.length
    · rw [none_at σ vs hi hl, none_at σ' vs hi (by rw [h.len]; exact hl)]
    · rw [List.getElem?_eq_none (by rw [wipe_length, h.len]; omega), List.getElem?_eq_none (by rw [wipe_length]; omega)]
  · rw [wipe_out hi, wipe_out hi]
    exact h.at_ i fun z => hi (k i z)
theorem Same.wiped {is vs : List Nat} {σ σ' : L2.St} (h : Same is (wipe σ vs) σ') (k : ∀ i ∈ is, i ∈ vs) : wipe σ' vs = wipe σ vs := by
  rw [wipe_same h k]
  have : ∀ vs2 : List Nat, (∀ i ∈ vs2, i ∈ vs) → wipe (wipe σ vs) vs2 = wipe σ vs := by
    intro vs2
    induction vs2 with
    | nil => intro _; rfl
    | cons v r ih =>
      intro hk
      show (wipe (wipe σ vs) r).set v none = wipe σ vs
      rw [ih fun i m => hk i (List.mem_cons_of_mem _ m)]
      apply List.ext_getElem?
      intro i
      by_cases e : v = i
      · subst e
        by_cases hl : v < (wipe σ vs).length
        · rw [List.getElem?_set_self hl]
          have none_at : ∀ (τ : L2.St) (ws : List Nat), v ∈ ws → v < τ.length → (wipe τ ws)[v]? = some none := by
            intro τ ws
            induction ws with
            | nil => intro h; cases h
            | cons w ws ih =>
              intro h hl
              unfold wipe
              by_cases e : w = v
              · subst e
                exact List.getElem?_set_self (by rw [wipe_length]; exact hl)
              · rw [List.getElem?_set_ne e]
                exact ih ((List.mem_cons.mp h).resolve_left fun z => e z.symm) hl
          exact (none_at σ vs (hk v List.mem_cons_self) (by rw [wipe_length] at hl; exact hl)).symm
        · rw [List.getElem?_eq_none (by simpa using hl), List.getElem?_eq_none (by omega)]
      · rw [List.getElem?_set_ne e]
  exact this vs fun _ z => z
/-- the list that was filled is the answer -/
theorem fill_ok {m : Bool} {rs : List R} {acc : List V} {g0 : Gd} {H0 : Hp} {Q : VK} (b : BxOk F g bx H) (x : Ext g0 H0 g H) (h0 : H0 D = none) (o : Out F g D) (hD : H D = some (.lst acc)) (r : RRs F g H rs acc) (p : PostO F g0 H0 Q (mkL m rs bx)) : Q (.ref D) H := by
  obtain ⟨x1, b1, k1⟩ := b.agree (H' := fun a => if a = D then none else H a) x h0 o (fun a n => by simp [n])
  have p1 : PostO F g (fun a => if a = D then none else H a) Q (mkL m rs bx) := by
    cases e : mkL m rs bx with
    | ok r bx' => rw [e] at p; exact fun g' H' v e' b' q => p g' H' v (x1.trans e') b' q
    | exc w bx' => rw [e] at p; exact p.elim
    | stuck => rw [e] at p; exact p.elim
  obtain ⟨_, new⟩ := mkL_ok b1 (r.agree k1) p1
  have q := new D (by simp)
  have e : upd (fun a => if a = D then none else H a) D (.lst acc) = H := by
    funext a
    by_cases z : a = D
    · subst z; rw [upd_same, hD]
    · rw [upd_ne z]; simp [z]
  rw [e] at q
  exact q
end

/-! ### one clause -/
/-- a clause's tests: none or one -/
def tTs (F : Fx) : List E → TT
  | [c] => tMT F W0 c
  | _ => tYes
theorem lc_sound {F : Fx} {Wx : WX} {m : Bool} {own : List Nat} {t : Tg} {i : I} {ifs : List E} {elt : E} {σ : L2.St} {H : Hp} {Q : VK} (hi : ifs.length ≤ 1) (ht : ∀ j ∈ tgS t, j ∈ own) (h : tM F Wx (eLc m own [⟨t, i, ifs⟩] elt) σ H Q) :
    tLc (tI F Wx i) (tG F t) (tTs F ifs) (tM F W0 elt) own σ H Q := by
  obtain ⟨g, en, bx, a, b, p⟩ := h
  replace p : PostR F g σ H Wx Q (match (match i (wipeE en own) bx with
      | .ok xs gd bx' => lcTurns (lcGo elt []) t ifs gd (wipeE en own) xs bx'
      | _ => none) with
    | some (rs, bx') => mkL m rs bx'
    | none => .stuck) := p
  refine ⟨g, wipeE en own, bx, a.wipe1 own, b, ?_⟩
  cases e : i (wipeE en own) bx with
  | stuck => rw [e] at p; exact p.elim
  | exc w bx' => rw [e] at p; exact p.elim
  | ok xs gd bx1 =>
    rw [e] at p
    simp only at p ⊢
    intro g1 H1 J x1 b1 jo D hD
    -- the turns to come end well
    cases e2 : lcTurns (lcGo elt []) t ifs gd (wipeE en own) xs bx1 with
    | none => rw [e2] at p; exact p.elim
    | some z =>
      obtain ⟨rs, bx2⟩ := z
      rw [e2] at p
      simp only at p
      have p1 : PostO F g1 H1 Q (mkL m rs bx2) := by
        have p := PostR.ext x1 p
        cases e3 : mkL m rs bx2 with
        | ok r bx' => rw [e3] at p; exact p
        | exc w bx' => exact absurd e3 (noX_mkL m _ _ _ _)
        | stuck => rw [e3] at p; exact p
      have hlen : rs.length ≤ SL := by
        unfold mkL at p1
        split at p1
        · assumption
        · exact p1.elim
      refine ⟨fun i n H => n + i = xs.length ∧ ∃ g' bx' rs0 acc zs, Ext g1 H1 g' H ∧ BxOk F g' bx' H ∧ Out F g' D ∧ EnOk F g' (wipeE en own) (wipe σ own) H ∧ H D = some (.lst acc) ∧ RRs F g' H rs0 acc ∧
        lcTurns (lcGo elt []) t ifs gd (wipeE en own) (xs.drop i) bx' = some (zs, bx2) ∧ rs = rs0 ++ zs, ⟨xs.length, rfl, ?_⟩, ?_⟩
      · obtain ⟨y1, y2, y3⟩ := b1.agree (H' := upd H1 D (.lst [])) (Ext.refl g1 H1) hD (b1.out hD) fun a n => upd_ne n
        exact ⟨g1, bx1, [], [], rs, y1, y2, b1.out hD, ((a.wipe2 own).mono x1).agree y3, upd_same, .nil, e2, rfl⟩
      · intro i n H2 ⟨hn, g2, bx', rs0, acc, zs, x2, b2, o2, a2, hD2, r2, et, er⟩
        have sD : (H2 D).isSome := by rw [hD2]; rfl
        by_cases hi2 : i < xs.length
        · right
          have hd : xs.drop i = xs[i] :: xs.drop (i + 1) := List.drop_eq_getElem_cons hi2
          rw [hd] at et
          simp only [lcTurns] at et
          split at et
          · rename_i gd1
            refine ⟨jo.go i g2 H2 bx' x2 b2 gd1 hi2, fun H' => (n - 1) + (i + 1) = xs.length ∧ ∃ g' bx' rs0 acc zs, Ext g1 H1 g' H' ∧ BxOk F g' bx' H' ∧ Out F g' D ∧ EnOk F g' (wipeE en own) (wipe σ own) H' ∧ H' D = some (.lst acc) ∧ RRs F g' H' rs0 acc ∧
              lcTurns (lcGo elt []) t ifs gd (wipeE en own) (xs.drop (i + 1)) bx' = some (zs, bx2) ∧ rs = rs0 ++ zs, fun H' q => ⟨n - 1, by omega, q⟩, fun v H3 y => ?_⟩
            obtain ⟨g3, x3, b3, ri⟩ := jo.yld i g2 H2 bx' v H3 xs[i] x2 b2 gd1 (List.getElem?_eq_getElem hi2) y
            split at et
            · rename_i en' q
              refine ⟨g3, wipeE en own, bx', _, en', a2.mono x3, b3, ri, q, fun σ' a' sm => ⟨sm.wiped ht, ?_⟩⟩
              have skip : ∀ {g' : Gd} {H' : Hp} {bx4 : Bx}, Ext g3 H3 g' H' → BxOk F g' bx4 H' → lcTurns (lcGo elt []) t ifs gd (wipeE en own) (xs.drop (i + 1)) bx4 = some (zs, bx2) → (n - 1) + (i + 1) = xs.length ∧ ∃ g' bx' rs0 acc zs, Ext g1 H1 g' H' ∧ BxOk F g' bx' H' ∧ Out F g' D ∧ EnOk F g' (wipeE en own) (wipe σ own) H' ∧ H' D = some (.lst acc) ∧ RRs F g' H' rs0 acc ∧
                  lcTurns (lcGo elt []) t ifs gd (wipeE en own) (xs.drop (i + 1)) bx' = some (zs, bx2) ∧ rs = rs0 ++ zs := fun {g' H' bx4} x4 b4 et => by
                have x24 := x3.trans x4
                obtain ⟨o4, d4⟩ := o2.later sD (fun ps e => by rw [hD2] at e; cases e) x24
                exact ⟨by omega, g', bx4, rs0, acc, zs, x2.trans x24, b4, o4, a2.mono x24, d4.trans hD2, r2.mono x24, et, er⟩
              -- the item, behind the tests
              have main : ∀ {g' : Gd} {H' : Hp} {bx4 : Bx}, Ext g3 H3 g' H' → BxOk F g' bx4 H' → (match lcGo elt [] en' bx4 with
                  | some (ys, bx2) => match lcTurns (lcGo elt []) t ifs gd (wipeE en own) (xs.drop (i + 1)) bx2 with
                    | some (zs, bx3) => some (ys ++ zs, bx3)
                    | none => none
                  | none => none) = some (zs, bx2) → tM F W0 elt σ' H' fun y H4 => ∃ acc, H4 D = some (.lst acc) ∧ acc.length < sizeLine ∧ ((n - 1) + (i + 1) = xs.length ∧ ∃ g' bx' rs0 acc' zs, Ext g1 H1 g' (upd H4 D (.lst (acc ++ [y]))) ∧ BxOk F g' bx' (upd H4 D (.lst (acc ++ [y]))) ∧ Out F g' D ∧
                    EnOk F g' (wipeE en own) (wipe σ own) (upd H4 D (.lst (acc ++ [y]))) ∧ (upd H4 D (.lst (acc ++ [y]))) D = some (.lst acc') ∧ RRs F g' (upd H4 D (.lst (acc ++ [y]))) rs0 acc' ∧
                    lcTurns (lcGo elt []) t ifs gd (wipeE en own) (xs.drop (i + 1)) bx' = some (zs, bx2) ∧ rs = rs0 ++ zs) := fun {g' H' bx4} x4 b4 et => by
                refine ⟨g', en', bx4, a'.mono x4, b4, ?_⟩
                simp only [lcGo] at et
                cases e5 : elt en' bx4 with
                | ok r bx5 =>
                  rw [e5] at et
                  simp only at et
                  split at et
                  · rename_i zs' bx6 e6
                    cases et
                    intro g5 H5 y x5 b5 r5
                    have x25 := x3.trans (x4.trans x5)
                    obtain ⟨o5, d5⟩ := o2.later sD (fun ps e => by rw [hD2] at e; cases e) x25
                    have hD5 := d5.trans hD2
                    obtain ⟨y1, y2, y3⟩ := b5.agree (H' := upd H5 D (.lst (acc ++ [y]))) (x2.trans x25) hD o5 fun a n => upd_ne n
                    refine ⟨acc, hD5, ?_, by omega, g5, bx5, rs0 ++ [r], acc ++ [y], zs', y1, y2, o5, (a2.mono x25).agree y3, upd_same, RRs.agree y3 ((r2.mono x25).append (.cons r5 .nil)), e6, by rw [er]; simp⟩
                    have hl := r2.length
                    rw [er] at hlen
                    simp only [List.length_append, List.length_cons] at hlen
                    rw [SL_eq] at hlen
                    omega
                  · cases et
                | exc w bx5 => rw [e5] at et; cases et
                | stuck => rw [e5] at et; cases et
              match ifs, hi, et with
              | [], _, et =>
                simp only [testsO] at et
                simp only [tTs, tYes, if_true]
                exact main (Ext.refl g3 H3) b3 et
              | [c], _, et =>
                simp only [testsO] at et
                show tMT F W0 c σ' H3 _
                refine ⟨g3, en', bx', a', b3, ?_⟩
                cases e4 : c en' bx' with
                | ok r bx4 =>
                  rw [e4] at et
                  intro g4 H4 v4 x4 b4 r4
                  cases r with
                  | v w =>
                    cases w with
                    | bl tt =>
                      cases r4 with | v r4 =>
                      cases r4
                      refine ⟨tt, rfl, ?_⟩
                      cases tt with
                      | true =>
                        rw [if_pos rfl]
                        exact main x4 b4 et
                      | false =>
                        rw [if_neg Bool.false_ne_true]
                        exact skip x4 b4 et
                    | _ => cases et
                  | r _ => cases et
                  | clo _ _ => cases et
                | exc w bx4 => rw [e4] at et; cases et
                | stuck => rw [e4] at et; cases et
            · cases et
          · cases et
        · left
          have hd : xs.drop i = [] := List.drop_eq_nil_of_le (by omega)
          rw [hd] at et
          simp only [lcTurns] at et
          split at et
          · rename_i gd1
            cases et
            rw [List.append_nil] at er
            subst er
            exact ⟨jo.stop i g2 H2 _ x2 b2 gd1 (by omega), fill_ok b2 x2 hD o2 hD2 r2 p1⟩
          · cases et

section
variable {X : Cx} {ca : Ca} {m : Bool} {elt tg iter : Expr} {ifs : List Expr} {scope : Scope} {own : List (Str × Nat)} {pos : Pos} {t : Tg} {mi : I} {me : E} {ms : List E}
/-- all that a block's parts must be, in the context of the block -/
structure Blk (X : Cx) (ca : Ca) (scope : Scope) (P : Cx → Prop) : Prop where
  at_ : ∀ (s : Shared) (H : Hp) (C : Addr) (cl : List (Str × Addr)) (fp : List Addr), P (X.blk s H scope (compEnvC scope cl C X.env) fp)
/-- a clause's tests -/
inductive STs (X : Cx) (ca : Ca) : List E → List Expr → Prop
  | nil : STs X ca [] []
  | one {m : E} {e : Expr} : ST X ca m e → STs X ca [m] [e]
theorem STs.pts {X : Cx} {ca : Ca} {ms : List E} {es : List Expr} (h : STs X ca ms es) (tk : Takes X W0) : PTs X es (tTs (fx X ca) ms) := by
  cases h with
  | nil => exact pts_nil
  | one h => exact pts_one (h.pt W0 tk)
theorem STs.len {X : Cx} {ca : Ca} {ms : List E} {es : List Expr} (h : STs X ca ms es) : ms.length ≤ 1 := by
  cases h with
  | nil => exact Nat.zero_le _
  | one h => exact Nat.le_refl _
theorem TE.imp_lc {X : Cx} {e : Expr} {t t' : TE} (h : PE X e t) (q : ∀ σ H Q, t' σ H Q → t σ H Q) : PE X e t' := PE.imp h q
theorem se_lc (hc : X.calm = true) (hN : X.N.Nodup) (hi : SI X ca mi tg iter) (ok : BlkOk X.N X.env.scope scope own) (hg : ∀ (s : Shared) (H : Hp) (C : Addr) (cl : List (Str × Addr)) (fp : List Addr), SG (X.blk s H scope (compEnvC scope cl C X.env) fp) ca t tg)
    (ht : ∀ (s : Shared) (H : Hp) (C : Addr) (cl : List (Str × Addr)) (fp : List Addr), STs (X.blk s H scope (compEnvC scope cl C X.env) fp) ca ms ifs) (he : ∀ (s : Shared) (H : Hp) (C : Addr) (cl : List (Str × Addr)) (fp : List Addr), SE (X.blk s H scope (compEnvC scope cl C X.env) fp) ca me elt)
    (hs : ∀ x, foldedSetIterable iter X.env x = pure x) (ho : ∀ j ∈ tgS t, j ∈ own.map (·.2)) : SE X ca (eLc m (own.map (·.2)) [⟨t, mi, ms⟩] me) (.ListComp elt [⟨tg, iter, ifs, 0⟩] scope pos) := ⟨fun Wx tk =>
  PE.imp (pe_lc hc hN (hi.pi Wx tk) ok (fun s H C cl fp => (hg s H C cl fp).pg) (fun s H C cl fp => (ht s H C cl fp).pts (takes0 _)) (fun s H C cl fp => (he s H C cl fp).pe W0 (takes0 _)) hs) fun σ H Q h =>
    lc_sound (F := fx X ca) (ht X.s_0 X.H_0 0 [] []).len ho h⟩
/-- name = [..] on one line -/
theorem ss_setLc {i : Nat} {y : Str} {py spos : Pos} (hc : X.calm = true) (hN : X.N.Nodup) (hy : X.N[i]? = some y) (hyl : X.env.scope.names.lookup y = some .local) (hsw : swapsWith (.ListComp elt [⟨tg, iter, ifs, 0⟩] scope pos) (some (.Name y py)) spos.line X.env = pure true)
    (hi : SI X ca mi tg iter) (ok : BlkOk X.N X.env.scope scope own) (hg : ∀ (s : Shared) (H : Hp) (C : Addr) (cl : List (Str × Addr)) (fp : List Addr), SG (X.blk s H scope (compEnvC scope cl C X.env) fp) ca t tg)
    (ht : ∀ (s : Shared) (H : Hp) (C : Addr) (cl : List (Str × Addr)) (fp : List Addr), STs (X.blk s H scope (compEnvC scope cl C X.env) fp) ca ms ifs) (he : ∀ (s : Shared) (H : Hp) (C : Addr) (cl : List (Str × Addr)) (fp : List Addr), SE (X.blk s H scope (compEnvC scope cl C X.env) fp) ca me elt)
    (hs : ∀ x, foldedSetIterable iter X.env x = pure x) (ho : ∀ j ∈ tgS t, j ∈ own.map (·.2)) : SS X ca (cAsg (.nm i) (eLc m (own.map (·.2)) [⟨t, mi, ms⟩] me)) (.Assign [.Name y py] (.ListComp elt [⟨tg, iter, ifs, 0⟩] scope pos) spos) := ⟨fun Wx tk =>
  PS.imp (L2.ps_setLc hc hN hy hyl hsw (hi.pi Wx tk) ok (fun s H C cl fp => (hg s H C cl fp).pg) (fun s H C cl fp => (ht s H C cl fp).pts (takes0 _)) (fun s H C cl fp => (he s H C cl fp).pe W0 (takes0 _)) hs) fun D σ H h => by
    refine lc_sound (F := fx X ca) (Wx := Wx) (m := m) (ht X.s_0 X.H_0 0 [] []).len ho (tM_imp (tS_cE h) fun v H1 ⟨g, en, bx, r, a, b, rr, p⟩ => ?_)
    replace p : PostC (fx X ca) g H1 Wx D (match (if i < en.length then some (en.set i (some r)) else none) with
      | some en' => .nx en' bx
      | none => .stuck) := p
    split at p
    · rename_i en' q
      split at q
      · cases q
        exact p g _ H1 (Ext.refl g H1) b (a.set rr)
      · cases q
    · exact p.elim⟩
end
end AM
/-! text AmG -/
set_option Elab.async false
set_option linter.all false
set_option maxRecDepth 100000
set_option maxHeartbeats 2000000
/-! AmG: the text's functions, the law's end; the rules by a context. -/
namespace AM
open PySem PySem.Spec PyProof.Rows L2

/-- what a body's proof knows of its context -/
structure Con (P : Program) (w : World) (K : PySem.W.Frag) (mg : Str → Option Value) (base : Heap) (k : Nat) (N : List Str) (sc : Scope) (fs : Str → Bool) (X : Cx) : Prop where
  prog : X.prog = P
  wd : X.w = w
  frag : X.K = K
  glo : X.mg = mg
  bs : X.base = base
  rm : Rm k X.A
  calm : X.calm = true
  names : X.N = N
  nd : N.Nodup
  sco : X.env.scope = sc
  fns : X.fn = fs
/-- the text's function f (of n parameters) stands by the name x -/
structure FunOk (P : Program) (w : World) (K : PySem.W.Frag) (mg : Str → Option Value) (base : Heap) (ca : Ca) (k : Nat) (F : List R → Bx → Res) (n : Nat) (x : Str) : Prop where
  st : ∀ rs bx, rs.length ≠ n → F rs bx = .stuck
  ex : ∃ (fa : Addr) (fd : FuncData) (ps : List Str), ps.length = n ∧ FnG P w K mg base k fa fd ps (spM ⟨P, w, K, ca⟩ n F) ∧ mg x = some (.ref fa) ∧ PySem.W.keepIn K (.ref fa) = true ∧ Binds K fd ps []
section
variable {P : Program} {w : World} {K : PySem.W.Frag} {mg : Str → Option Value} {base : Heap} {ca : Ca} {k n f : Nat} {F : Fn} {x : Str} {N ps : List Str} {sc : Scope} {X : Cx}
theorem FunOk.call {fs : Str → Bool} (h : FunOk P w K mg base ca k (F f) n x) (c : Con P w K mg base k N sc fs X) : CallF X ca k F f n x := by
  obtain ⟨fa, fd, ps, h1, h2, h3, h4, h5⟩ := h.ex
  obtain ⟨c1, c2, c3, c4, c5, _⟩ := c
  subst c1
  subst c2
  subst c3
  subst c4
  subst c5
  exact ⟨h.st, fa, fd, ps, h1, h2, h3, h4, h5⟩
theorem runF_st {m : Nat} {c : C} : ∀ rs bx, rs.length ≠ n → runF n m c rs bx = .stuck := fun rs bx h => by
  unfold runF
  rw [if_neg h]
theorem start_ok {Fx' : Fx} {g : Gd} {H : Hp} {rs : List R} {vs : List V} (h : RRs Fx' g H rs vs) (N : List Str) : EnOk Fx' g (rs.map some ++ List.replicate (N.length - rs.length) none) (L2.start N vs) H := by
  have hl := h.length
  unfold L2.start
  refine ⟨by simp [hl], fun i r e => ?_⟩
  by_cases hi : i < rs.length
  · rw [List.getElem?_append_left (by simpa using hi), List.getElem?_map] at e
    rw [List.getElem?_append_left (by simpa [← hl] using hi), List.getElem?_map]
    cases q : rs[i]? with
    | none => rw [q] at e; cases e
    | some r' =>
      rw [q] at e
      cases e
      obtain ⟨v, h1, h2⟩ := h.get q
      exact ⟨v, by rw [h1]; rfl, h2⟩
  · rw [List.getElem?_append_right (by simpa using hi), List.getElem?_replicate] at e
    split at e <;> cases e
/-- a def, by its body -/
theorem def_ok {args : Arguments} {body : List Stmt} {fa : Addr} {fd : FuncData} {c : C} {m : Nat} (D : FunD K x x args body sc [] [] fa fd) (hm : mg x = some (.ref fa)) (S : FnScope N ps sc) (hN : N.length = m) (hps : ps.length = n) (hF : F f = runF n m c)
    (hbind : ∀ (kV doc pm : Value) (an : Option Addr) (cdv ct : Value) (us : List Value), us.length = ps.length → bindArgs (PySem.W.fnOf x x args body sc .none kV doc pm an cdv ct) ⟨us, []⟩ = pure (ps.zip us))
    (hb : ∀ X, Con P w K mg base k N sc (fun _ => true) X → PassesOwn (model X.prog X.w) X.A X.env X.xe → SSs X ca c body) : FunOk P w K mg base ca (k + 1) (F f) n x := by
  rw [hF]
  refine ⟨runF_st, fa, fd, ps, hps, ?_, hm, D.kp, D.bindsN hbind⟩
  obtain ⟨oc, od, dV, kV, doc, pm, an, cdv, ct, osl, rfl, lk, hcd, _, _⟩ := D.ex
  refine fng_of lk hcd S (fun vs H Q E h => h.1.trans hps.symm) fun A outer s H vs Q E hr hM hsp => ?_
  have con : Con P w K mg base k N sc (fun _ => true) (cxOf (L2.CX P w) P w K mg base N x sc fa cdv A outer s H E) := ⟨rfl, rfl, rfl, rfl, rfl, hr, rfl, rfl, S.nd, rfl, rfl⟩
  have tk : Takes (cxOf (L2.CX P w) P w K mg base N x sc fa cdv A outer s H E) fun cls d _ H => E cls d H := takes_of rfl rfl rfl rfl
  refine ⟨_, (hb _ con (passes_of rfl)).ps _ tk, ?_⟩
  obtain ⟨hl, g, bx, rs, b, rr, p⟩ := hsp
  refine ⟨g, _, bx, start_ok rr N, b, ?_⟩
  have hl2 : rs.length = n := rr.length.trans hl
  unfold runF at p
  rw [if_pos hl2, ← hN] at p
  unfold run at p
  cases e : c (rs.map some ++ List.replicate (N.length - rs.length) none) bx with
  | nx en' bx' =>
    rw [e] at p
    exact fun g' σ' H' x' b' _ => p g' H' .non x' b' (.v .non)
  | rt r bx' => rw [e] at p; exact p
  | ct en' bx' => rw [e] at p; exact p.elim
  | exc w en' bx' =>
    rw [e] at p
    exact fun g' σ' H' cls d x' b' _ => p g' H' cls d x' b'
  | stuck => rw [e] at p; exact p.elim
/-- nothing runs at depth 0 -/
theorem fun0 {F : List R → Bx → Res} {fa : Addr} {fd : FuncData} {args : Arguments} {body : List Stmt} (h0 : ∀ rs bx, F rs bx = .stuck) (D : FunD K x x args body sc [] [] fa fd) (hm : mg x = some (.ref fa)) (hps : ps.length = n)
    (hbind : ∀ (kV doc pm : Value) (an : Option Addr) (cdv ct : Value) (us : List Value), us.length = ps.length → bindArgs (PySem.W.fnOf x x args body sc .none kV doc pm an cdv ct) ⟨us, []⟩ = pure (ps.zip us)) : FunOk P w K mg base ca 0 F n x := by
  refine ⟨fun rs bx _ => h0 rs bx, fa, fd, ps, hps, ⟨fun vs H Q E h => h.1.trans hps.symm, fun A outer s H args us vs Q E _ _ _ _ h => ?_⟩, hm, D.kp, D.bindsN hbind⟩
  obtain ⟨_, g, bx, rs, _, _, p⟩ := h
  rw [h0] at p
  exact p.elim
end

/-! ### the law's end -/
theorem rms : Rm 45 callerA := ⟨⟨rfl, by decide, by decide⟩, rfl⟩
theorem RWs.intsL {Fx' : Fx} {Z : Addr → Prop} {H : Hp} : ∀ ns : List Int, RWs Fx' Z H (ns.map W.int) (ns.map V.int)
  | [] => .nil
  | n :: ns => .cons (.int n) (RWs.intsL ns)
theorem law_end {P : Program} {w : World} {K : PySem.W.Frag} {mg mb : Str → Option Value} {ca : Ca} {k : Nat} {fa a : Addr} {cs : List (Addr × Addr)} {x : Str} {Fm : List R → Bx → Res} {s₁ : Shared} {vs : List Value} {ns : List Int}
    (KX : K.In s₁.heap) (hns : s₁.heap.Ns mainGlobals mg) (hb : s₁.heap.Ns builtinsNs mb) (hbb : ∀ x : Str, x ≠ "__name__" → mb x = bootBuiltins x) (hlim : s₁.heap.NoLimit) (hg : s₁.gens = #[])
    (tE : ∀ p ∈ cs, s₁.heap.get? p.2 = some { cls := .none, data := .fields #[] }) (tK : ∀ p ∈ cs, K.lookup p.2 = none) (tC : ∀ p ∈ cs, PySem.W.CodeHd s₁.heap p.1 p.2) (tN : ∀ p ∈ ca.T, ∃ q ∈ cs, q.2 = p.1)
    (hbm : ∃ (bm : Addr) (ob : Obj), mg "__builtins__" = some (.ref bm) ∧ bm ≠ builtinsNs ∧ s₁.heap.get? bm = some ob ∧ ob.cls = .type "module" ∧ ob.dict = some builtinsNs ∧ ob.data = .plain)
    (ha : s₁.heap.get? a = some { cls := .type "list", data := .seq vs.toArray }) (hi : IntsAre vs ns) (hl : ns.length ≤ sizeLine) (hk : k ≤ 45)
    (F : ∀ base : Heap, K.In base → base.Ns mainGlobals mg → (∀ p ∈ cs, LamX.TabB base mg p.1 p.2) → FunOk P w K mg base ca k Fm 1 x) (hmg : mg x = some (.ref fa))
    (hF : ∃ bx, Fm [scrR ns] [] = .ok (.v (.bl true)) bx) :
    codeAny (model P w) callerA (.call (.ref fa) ⟨[.ref a], []⟩) (fun r s' => r = .ok (.ret (.bool true)) ∧ OldK s₁.heap s'.heap ∧ s'.os = s₁.os ∧ AllBare s'.gens) s₁ := by
  have rv := vals_ints hi
  have tabAt : ∀ {b : Addr}, (∃ q ∈ cs, q.2 = b) → s₁.heap.get? b = some { cls := .none, data := .fields #[] } := fun ⟨q, m, e⟩ => e ▸ tE q m
  have aT : ¬ ∃ q ∈ cs, q.2 = a := fun z => by
    have q := tabAt z
    rw [ha] at q
    cases (show Data.seq vs.toArray _ = Data.fields #[] from congrArg Obj.data (Option.some.inj q))
  -- from an abstract heap in which nothing but the script and the tables are tracked
  have core : ∀ (H : Hp) (Z : Addr → Prop), (∀ b, H b ≠ none → b = a ∨ ∃ q ∈ cs, q.2 = b) → (∀ q ∈ cs, H q.2 = some (.tbl #[])) → (H a ≠ none → K.lookup a = none) → (∀ b, Z b → (H b).isSome) → (∀ b, Z b → b = a) → HOk P w H s₁.heap → (∀ o u, H a = some u → s₁.heap.get? a = some o → ∃ xs, u = .frz o (.lst xs)) →
      (Z a ∧ Rd H a (.lst (ns.map V.int))) ∨ KL K a (ns.map V.int) →
      codeAny (model P w) callerA (.call (.ref fa) ⟨[.ref a], []⟩) (fun r s' => r = .ok (.ret (.bool true)) ∧ OldK s₁.heap s'.heap ∧ s'.os = s₁.os ∧ AllBare s'.gens) s₁ := by
    intro H Z Hs hH hKa zs zA hok hfz hS
    have base_of : ∀ {b : Addr} {o : Obj}, s₁.heap.get? b = some o → H b = none → (hidT s₁.heap H).get? b = some o := fun e n => hidT_get e n
    have free : ∀ {b : Addr} {ob : Obj}, s₁.heap.get? b = some ob → (∀ xs n, ob.data ≠ .seq xs n) → ob.data ≠ .fields #[] → H b = none := fun {b ob} e n1 n2 => Classical.byContradiction fun z => by
      rcases Hs b z with y | y
      · subst y
        rw [ha] at e
        cases e
        exact n1 _ _ rfl
      · rw [tabAt y] at e
        cases e
        exact n2 rfl
    have freeD : ∀ {b : Addr} {ob : Obj} {es : Array DictEntry} {ep : Nat}, s₁.heap.get? b = some ob → ob.data = .dict es ep → H b = none := fun {b ob es ep} e d => free e (fun xs n z => by rw [d] at z; cases z) fun z => by rw [d] at z; cases z
    have nsK : ∀ {b : Addr} {m : Str → Option Value}, s₁.heap.Ns b m → (hidT s₁.heap H).Ns b m := fun {b m} ⟨ob, es, ep, e, d, r⟩ => ⟨ob, es, ep, base_of e (freeD e d), d, r⟩
    have hKb : K.In (hidT s₁.heap H) := fun b ob e => base_of (KX b ob e) (Classical.byContradiction fun z => by
      rcases Hs b z with y | ⟨q, m, y⟩
      · subst y
        rw [hKa z] at e
        cases e
      · rw [← y, tK q m] at e
        cases e)
    have hM : Mod K mg (hidT s₁.heap H) := ⟨hKb, nsK hns, ⟨mb, nsK hb, hbb⟩, let ⟨mc, h1, h2⟩ := hlim; ⟨mc, nsK h1, h2⟩⟩
    have TB : ∀ p ∈ cs, LamX.TabB (hidT s₁.heap H) mg p.1 p.2 := fun p m => by
      have at_ := tE p m
      refine ⟨?_, ?_, fun z => ?_⟩
      · obtain ⟨o, us, file, tf, flags, tg, inF, text, tt, e1, r1, r2, r3, r⟩ := tC p m
        refine ⟨o, us, file, tf, flags, tg, inF, text, tt, base_of e1 (free e1 (fun xs n z => ?_) fun z => ?_), r1, r2, r3, r⟩
        · rw [r2] at z; cases z
        · rw [r2] at z; cases z; simp at r3
      · obtain ⟨bm, ob, b1, b2, b3, b4, b5, b6⟩ := hbm
        refine ⟨bm, ob, b1, b2, fun q => ?_, fun q => ?_, base_of b3 (free b3 (fun xs n z => ?_) fun z => ?_), b4, b5, b6⟩
        · obtain ⟨o, es, ep, e, d, _⟩ := hns
          rw [q, e] at b3
          cases b3
          rw [d] at b6
          cases b6
        · rw [q, at_] at b3
          cases b3
          cases b6
        · rw [b6] at z; cases z
        · rw [b6] at z; cases z
      · obtain ⟨o, es, ep, e, d, _⟩ := hns
        rw [z, at_] at e
        cases e
        cases d
    have e0 : Env0 P w K mg (hidT s₁.heap H) callerA [] s₁ H := ⟨rfl, hM, fun b ob e => of_hidT e, Nat.le_of_eq (hidT_size _ _), trivial, fun b hb => absurd (show b ∈ ([] : List Addr) from hb) (by simp), hok, .of_eq hg⟩
    have hsp : spM ⟨P, w, K, ca⟩ 1 Fm [.ref a] H (fun v _ => v = .bl true) fun _ _ _ => False := by
      refine ⟨rfl, ⟨[], Z⟩, [], [scrR ns], ⟨rfl, List.nodup_nil, fun n b bb e => by simp at e, fun b m => by simp at m, zs, fun p m => ?_⟩, .cons (.v (.scr hS (by rw [List.length_map]; exact hl) (RWs.intsL ns))) .nil, ?_⟩
      · obtain ⟨q, m2, e⟩ := tN p m
        exact ⟨⟨#[], e ▸ hH q m2, True.intro, fun pos cv hc => by
          have z : codeAmong pos [] = some cv := hc
          simp [codeAmong] at z⟩, fun z => aT ⟨q, m2, e.trans (zA _ z)⟩⟩
      · obtain ⟨bx, e⟩ := hF
        rw [e]
        intro g' H' v _ _ r
        cases r with | v r => cases r; rfl
    obtain ⟨fa2, fd, ps, hps, F1, hm2, _, hbd⟩ := (F _ hKb (nsK hns) TB).ex
    obtain rfl : fa = fa2 := by
      rw [hmg] at hm2
      cases hm2
      rfl
    refine codeAny_mono (F1.run callerA [] s₁ H ⟨[.ref a], []⟩ [.ref a] [.ref a] _ _ (rms.mono hk) e0 (hbd s₁ [.ref a] KX (by rw [hps]; rfl)) (.cons rfl .nil) hsp) fun r s' h => ?_
    rcases r with e | (_ | _ | _ | u)
    · obtain ⟨_, _, _, _, _, _, _, _, _, _, _, _, f⟩ := h
      exact f.elim
    · exact h.elim
    · exact h.elim
    · exact h.elim
    · obtain ⟨v, H', os, bare, un, hok', r', q⟩ := h
      have q' : v = .bl true := q
      subst q'
      obtain rfl : u = Value.bool true := r'
      have same : ∀ b ob, (¬ ∃ q ∈ cs, q.2 = b) → s₁.heap.get? b = some ob → s'.heap.get? b = some ob := fun b ob nb e => by
        cases z : H b with
        | none => exact un.keep b ob e z (fun m => absurd (show b ∈ ([] : List Addr) from m) (by simp)) (by simp)
        | some u =>
          have zb := (Hs b (by rw [z]; simp)).resolve_right nb
          subst zb
          obtain ⟨xs, rfl⟩ := hfz ob u z e
          have z2 := un.frzs b ob _ z
          exact (hok' b _ z2).1
      have grown : ∀ p ∈ cs, ∃ more : Array Value, s'.heap.get? p.2 = some { cls := .none, data := .fields more } := fun p m => by
        obtain ⟨more, z⟩ := un.tbls p.2 #[] (hH p m)
        exact ⟨_, hok' p.2 _ z⟩
      refine ⟨rfl, ⟨fun b o e => ?_, fun b o e => ?_⟩, os, bare⟩
      · by_cases y : ∃ q ∈ cs, q.2 = b
        · obtain ⟨p, m, rfl⟩ := y
          obtain ⟨more, hm⟩ := grown p m
          rw [tE p m] at e
          cases e
          exact .inr (.inl ⟨((tC p m).tab (tE p m)).isCodeTable, rfl, #[], more, rfl, by rw [Array.empty_append]; exact hm⟩)
        · exact .inl (same b o y e)
      · by_cases y : ∃ q ∈ cs, q.2 = b
        · obtain ⟨p, m, rfl⟩ := y
          obtain ⟨more, hm⟩ := grown p m
          exact ⟨_, hm⟩
        · exact ⟨o, same b o y e⟩
  have dec : ∀ b : Addr, Decidable (∃ q ∈ cs, q.2 = b) := fun b => Classical.propDecidable _
  cases hk : K.lookup a with
  | some o =>
    have e := KX a o hk
    rw [ha] at e
    cases e
    refine core (fun b => if ∃ q ∈ cs, q.2 = b then some (.tbl #[]) else none) (fun _ => False) (fun b z => .inr (Classical.byContradiction fun y => z (if_neg y))) (fun q m => if_pos ⟨q, m, rfl⟩) (fun z => absurd (if_neg aT) z) (fun _ z => z.elim) (fun _ z => z.elim) (fun b u z => ?_) (fun o u z => ?_)
      (.inr (.inr ⟨_, vs.toArray, _, hk, rfl, rfl, rfl, by rw [List.size_toArray, hi.length]; exact hl, by simpa using rv⟩))
    · by_cases y : ∃ q ∈ cs, q.2 = b
      · have z' := (if_pos y).symm.trans z
        cases z'
        exact tabAt y
      · have z' := (if_neg y).symm.trans z
        cases z'
    · have z' := (if_neg aT).symm.trans z
      cases z'
  | none =>
    obtain ⟨o, ho⟩ : ∃ o : Obj, o = { cls := .type "list", data := .seq vs.toArray } := ⟨_, rfl⟩
    have Ha : upd (fun b => if ∃ q ∈ cs, q.2 = b then some (.tbl #[]) else none) a (.frz o (.lst (ns.map V.int))) a = some (.frz o (.lst (ns.map V.int))) := upd_same
    refine core (upd (fun b => if ∃ q ∈ cs, q.2 = b then some (.tbl #[]) else none) a (.frz o (.lst (ns.map V.int)))) (fun b => b = a) (fun b z => ?_) (fun q m => ?_) (fun _ => hk) (fun b z => by rw [show b = a from z, Ha]; rfl) (fun _ z => z) (fun b u z => ?_) (fun ob u z e => ?_) (.inl ⟨rfl, .inr ⟨o, Ha⟩⟩)
    · by_cases y : b = a
      · exact .inl y
      · rw [upd_ne y] at z
        exact .inr (Classical.byContradiction fun y => z (if_neg y))
    · rw [upd_ne fun z => aT ⟨q, m, z⟩]
      exact if_pos ⟨q, m, rfl⟩
    · by_cases q : b = a
      · subst q
        rw [Ha] at z
        cases z
        refine ⟨by rw [ho]; exact ha, by rw [List.length_map]; exact hl, vs, 0, rv, ?_⟩
        rw [ha]
      · rw [upd_ne q] at z
        by_cases y : ∃ q ∈ cs, q.2 = b
        · have z' := (if_pos y).symm.trans z
          cases z'
          exact tabAt y
        · have z' := (if_neg y).symm.trans z
          cases z'
    · rw [Ha] at z
      cases z
      rw [ha, ← ho] at e
      cases e
      exact ⟨_, rfl⟩
end AM
/-! text AmW -/
set_option Elab.async false
set_option linter.all false
set_option maxRecDepth 100000
set_option maxHeartbeats 2000000
/-! AmW: the rules by a context, for printed proofs. -/
namespace AM
open PySem PySem.Spec PyProof.Rows L2

def nmB (x : Str) : Bool := !(x == ("__debug__" : Str)) && !(x == ("__classdict__" : Str)) && !(x == ("__name__" : Str))
def visB (sc : Scope) (x : Str) : Bool := match sc.names.lookup x with
  | some .local => true
  | some .cell => true
  | some .free => true
  | _ => false
def glB (sc : Scope) (x : Str) : Bool := decide (sc.names.lookup x = some .globalImplicit) && nmB x
def varB (N : List Str) (sc : Scope) (i : Nat) (x : Str) : Bool := decide (N[i]? = some x) && visB sc x && nmB x
/-- a name that is stored: fs says for which names a cell was made here -/
def locB (N : List Str) (sc : Scope) (fs : Str → Bool) (i : Nat) (x : Str) : Bool := decide (N[i]? = some x) && (match sc.names.lookup x with
  | some .local => true
  | some .cell => fs x
  | _ => false)
theorem nmB_ok {x : Str} (h : nmB x = true) : (x == ("__debug__" : Str)) = false ∧ (x == ("__classdict__" : Str)) = false ∧ x ≠ "__name__" := by
  simp only [nmB, Bool.and_eq_true, Bool.not_eq_true'] at h
  exact ⟨h.1.1, h.1.2, fun e => by rw [e] at h; simp at h⟩
section
variable {P : Program} {w : World} {K : PySem.W.Frag} {mg : Str → Option Value} {base : Heap} {ca : Ca} {k : Nat} {N : List Str} {sc : Scope} {fs : Str → Bool} {X : Cx} {x : Str} {pos p p2 : Pos} {T : Tab}
theorem Con.u66 (c : Con P w K mg base k N sc fs X) : X.A.units + 66 < cLine := by have := c.rm.r.un; omega
theorem Con.u64 (c : Con P w K mg base k N sc fs X) : X.A.units + 64 < cLine := by have := c.rm.r.un; omega
theorem Con.u10 (c : Con P w K mg base k N sc fs X) : X.A.units + 10 < cLine := by have := c.rm.r.un; omega
theorem Con.gl (c : Con P w K mg base k N sc fs X) (h : glB sc x = true) : Gl X x := by
  simp only [glB, Bool.and_eq_true, decide_eq_true_eq] at h
  show X.env.scope.names.lookup x = _
  rw [c.sco]
  exact h.1
theorem Con.ndX (c : Con P w K mg base k N sc fs X) : X.N.Nodup := by rw [c.names]; exact c.nd
theorem Con.loc {i : Nat} (c : Con P w K mg base k N sc fs X) (h : locB N sc fs i x = true) : X.N[i]? = some x ∧ Loc X.env.scope x ∧ (X.fn x = true ∨ X.env.scope.names.lookup x = some .local) := by
  simp only [locB, Bool.and_eq_true, decide_eq_true_eq] at h
  rw [c.names, c.sco, c.fns]
  refine ⟨h.1, ?_⟩
  have h2 := h.2
  split at h2
  · rename_i e
    exact ⟨.inl e, .inr e⟩
  · rename_i e
    exact ⟨.inr e, .inl h2⟩
  · cases h2
/-- the context of a try's body -/
theorem Con.tr (c : Con P w K mg base k N sc fs X) (pn : List (Addr × Obj)) (xe : Value → Shared → Prop) : Con P w K mg base k N sc fs (X.tr pn xe) :=
  ⟨c.prog, c.wd, c.frag, c.glo, c.bs, c.rm, c.calm, c.names, c.nd, c.sco, c.fns⟩
/-- the context of a comprehension's block -/
theorem Con.blk (c : Con P w K mg base k N sc fs X) (scope : Scope) (s : Shared) (H : Hp) (C : Addr) (cl : List (Str × Addr)) (fp : List Addr) :
    Con P w K mg base k N (relS scope sc) (fun x => scope.names.lookup x == some .cell) (X.blk s H scope (compEnvC scope cl C X.env) fp) :=
  ⟨c.prog, c.wd, c.frag, c.glo, c.bs, c.rm, c.calm, c.names, c.nd, by show relS scope X.env.scope = _; rw [c.sco], rfl⟩
theorem v_var {i : Nat} (c : Con P w K mg base k N sc fs X) (h : varB N sc i x = true) : SE X ca (eVar i) (.Name x pos) := by
  simp only [varB, Bool.and_eq_true, decide_eq_true_eq] at h
  obtain ⟨n1, n2, _⟩ := nmB_ok h.2
  refine se_var (by rw [c.names]; exact h.1.1) ?_ n1 n2
  rw [c.sco]
  have h2 := h.1.2
  unfold visB at h2
  split at h2
  · exact .inl (by assumption)
  · exact .inr (.inl (by assumption))
  · exact .inr (.inr (by assumption))
  · cases h2
variable {e a b d : Expr} {es rest : List Expr} {as ms : List (Bool × E)} {m ma mb md : E} {ml : List E}
theorem v_cons (he : SE X ca m e) (hr : SA X ca as es) (hs : starEach (e :: es) X.env = (false, eval e X.env) :: starEach es X.env := by rfl) : SA X ca ((false, m) :: as) (e :: es) := sa_cons hs he hr
theorem v_star (he : SE X ca m e) (hr : SA X ca as es) (hs : starEach (.Starred e p :: es) X.env = (true, eval e X.env) :: starEach es X.env := by rfl) : SA X ca ((true, m) :: as) (.Starred e p :: es) := sa_star hs he hr
theorem v_cmp (c : Con P w K mg base k N sc fs X) {o : Cop} {op : CmpOp} (h1 : copOf op = some o) (ha : SE X ca ma a) (hb : SE X ca mb b) (hm : behindInMarks op b = false) : SE X ca (eOp [ma, mb] (opCmp o)) (.Compare a [op] [b] pos) := se_cmp c.u66 h1 ha hb hm
theorem v_tcmp (c : Con P w K mg base k N sc fs X) {o : Cop} {op : CmpOp} (h1 : copOf op = some o) (ha : SE X ca ma a) (hb : SE X ca mb b) (hm : behindInMarks op b = false) : ST X ca (eOp [ma, mb] (opCmp o)) (.Compare a [op] [b] pos) := st_cmp c.u66 h1 ha hb hm
theorem v_chain (c : Con P w K mg base k N sc fs X) {o1 o2 : Cop} {op op' : CmpOp} (e1 : copOf op = some o1) (e2 : copOf op' = some o2) (ha : SE X ca ma a) (hb : SE X ca mb b) (hc : SE X ca md d) (hm : lastMarks [op, op'] [b, d] = false := by with_unfolding_all rfl) : SE X ca (eChain o1 o2 ma mb md) (.Compare a [op, op'] [b, d] pos) := se_chain c.u66 e1 e2 ha hb hc hm
theorem v_tchain (c : Con P w K mg base k N sc fs X) {o1 o2 : Cop} {op op' : CmpOp} (e1 : copOf op = some o1) (e2 : copOf op' = some o2) (ha : SE X ca ma a) (hb : SE X ca mb b) (hc : SE X ca md d) (hm : lastMarks [op, op'] [b, d] = false := by with_unfolding_all rfl) : ST X ca (eChain o1 o2 ma mb md) (.Compare a [op, op'] [b, d] pos) := st_chain c.u66 e1 e2 ha hb hc hm
theorem v_val (h : SE X ca m e) (he : ∀ whole, isTrue e X.env whole = (do let v ← whole; standAt e.pos; holding [v] (truthy v)) := by intro _; rfl) : ST X ca m e := st_val h he
theorem v_idx (c : Con P w K mg base k N sc fs X) (ha : SE X ca ma a) (hb : SE X ca mb b) (hs : PlainIx b := by intro _ _; rfl) : SE X ca (eOp [ma, mb] opIdx) (.Subscript a b pos) := se_idx c.u10 ha hb hs
/-- a function of the text -/
theorem v_call {F : Fn} {f n : Nat} {keep : Bool} (c : Con P w K mg base k N sc fs X) (h : FunOk P w K mg base ca k (F f) n x) (g : glB sc x = true) (ha : SA X ca as (e :: es)) (hs : starEach (e :: es) X.env = (false, eval e X.env) :: starEach es X.env := by rfl) (hpl : (backTo pos (starEach es X.env)).any (·.1) = false := by rfl) :
    SE X ca (eArgs as fun xs _ bx => opCall F f keep xs bx) (.Call (.Name x p) (e :: es) [] pos) := by
  have g2 := g
  simp only [glB, Bool.and_eq_true] at g2
  exact se_call (h.call c) c.rm (c.gl g) (nmB_ok g2.2).1 hs hpl ha
/-- built-in functions -/
theorem v_fn {f : Op} {id : String} (c : Con P w K mg base k N sc fs X) (n : NoX f) (hc : CallR X (.builtin id) fun vs H Q => tO (fx X ca) f vs H Q) (g : glB sc x = true) (hm : mg x = none) (hv : bootBuiltins x = some (.builtin id)) (ha : SA X ca as (e :: es))
    (hs : starEach (e :: es) X.env = (false, eval e X.env) :: starEach es X.env := by rfl) (hpl : (backTo pos (starEach es X.env)).any (·.1) = false := by rfl) : SE X ca (eArgs as fun xs _ bx => f xs bx) (.Call (.Name x p) (e :: es) [] pos) := by
  have g2 := g
  simp only [glB, Bool.and_eq_true] at g2
  obtain ⟨n1, _, n3⟩ := nmB_ok g2.2
  exact se_fn n hc (c.gl g) (by rw [c.glo]; exact hm) hv n3 n1 hs hpl ha
theorem v_ty {f : Op} {id : String} (c : Con P w K mg base k N sc fs X) (n : NoX f) (hc : CallR X (.type id) fun vs H Q => tO (fx X ca) f vs H Q) (g : glB sc x = true) (hm : mg x = none) (hv : bootBuiltins x = some (.type id)) (ha : SA X ca as (e :: es))
    (hs : starEach (e :: es) X.env = (false, eval e X.env) :: starEach es X.env := by rfl) (hpl : (backTo pos (starEach es X.env)).any (·.1) = false := by rfl) : SE X ca (eArgs as fun xs _ bx => f xs bx) (.Call (.Name x p) (e :: es) [] pos) := by
  have g2 := g
  simp only [glB, Bool.and_eq_true] at g2
  obtain ⟨n1, _, n3⟩ := nmB_ok g2.2
  exact se_ty n hc (c.gl g) (by rw [c.glo]; exact hm) hv n3 n1 hs hpl ha
/-- what stands by a global name -/
theorem v_glob {v : V} {u : Value} {wv : W} (c : Con P w K mg base k N sc fs X) (g : glB sc x = true) (hm : mg x = some u) (r : RelV v u) (hw : ∀ Z H, RW ⟨P, w, K, ca⟩ Z H wv v) : SE X ca (eC wv) (.Name x pos) := by
  have g2 := g
  simp only [glB, Bool.and_eq_true] at g2
  refine se_const (pe_glob (c.gl g) (by rw [c.glo]; exact hm) r (nmB_ok g2.2).1) fun Z H => ?_
  have := hw Z H
  obtain ⟨c1, c2, c3, _⟩ := c
  subst c1
  subst c2
  subst c3
  exact this
/-- isinstance -/
theorem v_isTy (c : Con P w K mg base k N sc fs X) (TO : TabOk K ca T) (t : Ty) (g1 : glB sc "isinstance" = true) (m1 : mg "isinstance" = none) (g : glB sc x = true) (hm : mg x = none) (hv : bootBuiltins x = some (.type (tyN t))) (he : SE X ca m e)
    (hs : starEach [e, .Name x p2] X.env = (false, eval e X.env) :: starEach [.Name x p2] X.env := by rfl) : SE X ca (eOp [m] (opIsTy T t)) (.Call (.Name "isinstance" p) [e, .Name x p2] [] pos) := by
  have g2 := g
  simp only [glB, Bool.and_eq_true] at g2
  obtain ⟨n1, _, n3⟩ := nmB_ok g2.2
  refine se_isi (noX_isTy t) (.ty (tyN t)) _ (.ty _) (pe_bltn (c.gl g) (by rw [c.glo]; exact hm) hv rfl n3 n1) (c.gl g1) (by rw [c.glo]; exact m1) hs rfl rfl (isi_ty (by rw [c.frag]; exact TO) t) he
theorem v_isVE (c : Con P w K mg base k N sc fs X) (TO : TabOk K ca T) (g1 : glB sc "isinstance" = true) (m1 : mg "isinstance" = none) (g : glB sc "ValueError" = true) (hm : mg "ValueError" = none) (hv : bootBuiltins "ValueError" = some (.type "ValueError")) (he : SE X ca m e)
    (hs : starEach [e, .Name "ValueError" p2] X.env = (false, eval e X.env) :: starEach [.Name "ValueError" p2] X.env := by rfl) : SE X ca (eOp [m] (opIsVE T)) (.Call (.Name "isinstance" p) [e, .Name "ValueError" p2] [] pos) := by
  refine se_isi noX_isVE (.ty "ValueError") _ (.ty _) (pe_bltn (c.gl g) (by rw [c.glo]; exact hm) hv rfl (by decide) (by decide)) (c.gl g1) (by rw [c.glo]; exact m1) hs rfl rfl (isi_ve (by rw [c.frag]; exact TO)) he
theorem v_isC (c : Con P w K mg base k N sc fs X) (TO : TabOk K ca T) (n : Nat) (g1 : glB sc "isinstance" = true) (m1 : mg "isinstance" = none) (g : glB sc x = true) (hm : mg x = some (.ref (ca n))) (he : SE X ca m e)
    (hs : starEach [e, .Name x p2] X.env = (false, eval e X.env) :: starEach [.Name x p2] X.env := by rfl) : SE X ca (eOp [m] (opIsC T n)) (.Call (.Name "isinstance" p) [e, .Name x p2] [] pos) := by
  have g2 := g
  simp only [glB, Bool.and_eq_true] at g2
  refine se_isi (noX_isC n) (.ref (ca n)) _ (.own _) (pe_glob (c.gl g) (by rw [c.glo]; exact hm) rfl (nmB_ok g2.2).1) (c.gl g1) (by rw [c.glo]; exact m1) hs rfl rfl (isi_c (by rw [c.frag]; exact TO) n) he
/-! statements -/
variable {cc : C} {st : List Stmt} {i : Nat} {tg it : Expr} {t : Tg} {mi : I}
theorem v_set {pos' : Pos} (c : Con P w K mg base k N sc fs X) (h : locB N sc fs i x = true) (he : SE X ca m e) (hs : swapsWith e (some (.Name x pos')) pos.line X.env = pure false := by rfl) : SS X ca (cAsg (.nm i) m) (.Assign [.Name x pos'] e pos) := by
  obtain ⟨h1, h2, h3⟩ := c.loc h
  exact ss_set c.ndX h1 h2 h3 he hs
theorem v_name (c : Con P w K mg base k N sc fs X) (h : locB N sc fs i x = true) : SG X ca (.nm i) (.Name x pos) := by
  obtain ⟨h1, h2, h3⟩ := c.loc h
  exact sg_name c.ndX h1 h2 h3
theorem v_gcons {t : Tg} {ts : List Tg} (h1 : SG X ca t e) (h2 : SGs X ca ts es) (hs : (assignEach (e :: es) X.env).map (·.2) = assign e X.env :: (assignEach es X.env).map (·.2) := by rfl) : SGs X ca (t :: ts) (e :: es) := sgs_cons hs h1 h2
theorem v_gtup {ts : List Tg} {n : Nat} (c : Con P w K mg base k N sc fs X) (h : SGs X ca ts es) (hn : (assignEach es X.env).length = ts.length := by rfl) (hst : (assignEach es X.env).findIdx? (·.1) = none := by rfl) : SG X ca (.tp ts) (.Tuple es n pos) := sg_tup c.calm h hn hst
theorem v_asg {e1 e2 : Expr} (he : SE X ca m e2) (hg : SG X ca t e1) (hs : swapsWithSole [e1] e2 pos.line X.env = pure false := by rfl) (hw : swappedStores [e1] e2 X.env = pure none := by rfl) (h1 : (assignEach [e1] X.env).map (·.2) = [assign e1 X.env] := by rfl) : SS X ca (cAsg t m) (.Assign [e1] e2 pos) := ss_asg he hg hs hw h1
theorem v_exp (he : SE X ca m e) (hs : swapsWith e none pos.line X.env = pure false := by rfl) : SS X ca (cExp m) (.Expr e pos) := ss_exp he hs
theorem v_for (c : Con P w K mg base k N sc fs X) (hp : PassesOwn (model X.prog X.w) X.A X.env X.xe) (hi : SI X ca mi tg it) (hg : SG X ca t tg) (hb : SSs X ca cc st) (hs : ∀ x, foldedSetIterable it X.env x = pure x := by intro _; rfl) : SS X ca (cFor t mi cc) (.For tg it st [] pos) := ss_for hp c.calm hi hg hb hs
theorem v_range1 {a0 : Expr} (c : Con P w K mg base k N sc fs X) (g : glB sc "range" = true) (hm : mg "range" = none) (he : SE X ca m a0) (hs : starEach [a0] X.env = [(false, eval a0 X.env)] := by rfl) : SI X ca (iRange1 m) tg (.Call (.Name "range" p) [a0] [] pos) := si_range1 (c.gl g) (by rw [c.glo]; exact hm) hs he
theorem v_range2 {a0 a1 : Expr} {m0 m1 : E} (c : Con P w K mg base k N sc fs X) (g : glB sc "range" = true) (hm : mg "range" = none) (h0 : SE X ca m0 a0) (h1 : SE X ca m1 a1) (hs : starEach [a0, a1] X.env = [(false, eval a0 X.env), (false, eval a1 X.env)] := by rfl) (hs2 : starEach [a1] X.env = [(false, eval a1 X.env)] := by rfl) : SI X ca (iRange2 m0 m1) tg (.Call (.Name "range" p) [a0, a1] [] pos) := si_range2 (c.gl g) (by rw [c.glo]; exact hm) hs hs2 h0 h1
/-- [e for t in it if ..] -/
theorem v_lc {bm : Bool} {elt iter : Expr} {ifs : List Expr} {scope : Scope} {own : List (Str × Nat)} {ts : List E} {me : E} (c : Con P w K mg base k N sc fs X) (hi : SI X ca mi tg iter) (ok : blkC N sc scope own = true)
    (hg : ∀ X', Con P w K mg base k N (relS scope sc) (fun x => scope.names.lookup x == some .cell) X' → SG X' ca t tg) (ht : ∀ X', Con P w K mg base k N (relS scope sc) (fun x => scope.names.lookup x == some .cell) X' → STs X' ca ts ifs)
    (he : ∀ X', Con P w K mg base k N (relS scope sc) (fun x => scope.names.lookup x == some .cell) X' → SE X' ca me elt) (ho : (tgS t).all (fun j => decide (j ∈ own.map (·.2))) = true) (hs : ∀ x, foldedSetIterable iter X.env x = pure x := by intro _; rfl) :
    SE X ca (eLc bm (own.map (·.2)) [⟨t, mi, ts⟩] me) (.ListComp elt [⟨tg, iter, ifs, 0⟩] scope pos) :=
  se_lc c.calm c.ndX hi (blkOk_by (by rw [c.names, c.sco]; exact ok)) (fun s H C cl fp => hg _ (c.blk scope s H C cl fp)) (fun s H C cl fp => ht _ (c.blk scope s H C cl fp)) (fun s H C cl fp => he _ (c.blk scope s H C cl fp)) hs (by simpa using ho)
theorem v_setLc {bm : Bool} {elt iter : Expr} {ifs : List Expr} {scope : Scope} {own : List (Str × Nat)} {ts : List E} {me : E} {y : Str} {py spos : Pos} (c : Con P w K mg base k N sc fs X) (hy : locB N sc (fun _ => false) i y = true) (hsw : swapsWith (.ListComp elt [⟨tg, iter, ifs, 0⟩] scope pos) (some (.Name y py)) spos.line X.env = pure true)
    (hi : SI X ca mi tg iter) (ok : blkC N sc scope own = true)
    (hg : ∀ X', Con P w K mg base k N (relS scope sc) (fun x => scope.names.lookup x == some .cell) X' → SG X' ca t tg) (ht : ∀ X', Con P w K mg base k N (relS scope sc) (fun x => scope.names.lookup x == some .cell) X' → STs X' ca ts ifs)
    (he : ∀ X', Con P w K mg base k N (relS scope sc) (fun x => scope.names.lookup x == some .cell) X' → SE X' ca me elt) (ho : (tgS t).all (fun j => decide (j ∈ own.map (·.2))) = true) (hs : ∀ x, foldedSetIterable iter X.env x = pure x := by intro _; rfl) :
    SS X ca (cAsg (.nm i) (eLc bm (own.map (·.2)) [⟨t, mi, ts⟩] me)) (.Assign [.Name y py] (.ListComp elt [⟨tg, iter, ifs, 0⟩] scope pos) spos) := by
  have hl : X.N[i]? = some y ∧ X.env.scope.names.lookup y = some .local := by
    rw [c.names, c.sco]
    simp only [locB, Bool.and_eq_true, decide_eq_true_eq] at hy
    refine ⟨hy.1, ?_⟩
    have h2 := hy.2
    split at h2
    · assumption
    · cases h2
    · cases h2
  exact ss_setLc c.calm c.ndX hl.1 hl.2 hsw hi (blkOk_by (by rw [c.names, c.sco]; exact ok)) (fun s H C cl fp => hg _ (c.blk scope s H C cl fp)) (fun s H C cl fp => ht _ (c.blk scope s H C cl fp)) (fun s H C cl fp => he _ (c.blk scope s H C cl fp)) hs (by simpa using ho)
end
end AM
/-! text AmM -/
set_option Elab.async false
set_option linter.all false
set_option maxRecDepth 100000
set_option maxHeartbeats 2000000
/-! AmM: what changes boxes: o[i] = e, methods. -/
namespace AM
open PySem PySem.Spec PyProof.Rows L2

/-- a statement with answers at hand -/
def tSL (F : Fx) (Wx : WX) (k : List R → C) (vs : List V) : TS := fun D σ H => ∃ g en bx rs, EnOk F g en σ H ∧ BxOk F g bx H ∧ RRs F g H rs vs ∧ PostC F g H Wx D (k rs en bx)
section
variable {F : Fx} {Wx : WX} {D : Ends} {σ : L2.St} {H : Hp}
theorem tSL_of {c : C} (h : tS F Wx c D σ H) : tSL F Wx (fun _ => c) [] D σ H := by
  obtain ⟨g, en, bx, a, b, p⟩ := h
  exact ⟨g, en, bx, [], a, b, .nil, p⟩
theorem tSL_bind {m : E} {k0 k : List R → C} {vs : List V} (hk : ∀ rs : List R, rs.length = vs.length → k0 rs = cE m fun r => k (rs ++ [r])) (h : tSL F Wx k0 vs D σ H) : tM F Wx m σ H fun v H1 => tSL F Wx k (vs ++ [v]) D σ H1 := by
  obtain ⟨g, en, bx, rs, a, b, c, p⟩ := h
  rw [hk rs c.length] at p
  refine ⟨g, en, bx, a, b, ?_⟩
  replace p : PostC F g H Wx D (match m en bx with
    | .ok r bx' => k (rs ++ [r]) en bx'
    | .exc w bx' => .exc w en bx'
    | .stuck => .stuck) := p
  cases e : m en bx with
  | ok r bx' =>
    rw [e] at p
    exact fun g' H' v e' b' q => ⟨g', en, bx', rs ++ [r], a.mono e', b', (c.mono e').append (.cons q .nil), PostC.ext e' p⟩
  | exc w bx' =>
    rw [e] at p
    exact fun g' H' cls d e' b' x => p g' σ H' cls d e' b' (a.mono e') x
  | stuck =>
    rw [e] at p
    exact p
end
/-- o[i] = v, by the machine -/
def tSetR (F : Fx) : TSet := fun o i v H Q => ∃ g bx y x k bx', BxOk F g bx H ∧ RR F g H y v ∧ RR F g H x o ∧ RR F g H k i ∧ setR y x k bx = some bx' ∧ ∀ g' H', Ext g H g' H' → BxOk F g' bx' H' → Q H'
theorem atW_ixN (i : Int) (n : Nat) : atW i n = ixN n i := by
  unfold atW ixN
  by_cases h : 0 ≤ i
  · rw [if_pos h, if_pos h]
  · rw [if_neg h, if_neg h]
    by_cases h2 : 0 ≤ i + (n : Int)
    · rw [if_pos h2, if_pos (by omega)]
    · rw [if_neg h2, if_neg (by omega)]
theorem RRs.set {F : Fx} {g : Gd} {H : Hp} {rs : List R} {vs : List V} {r : R} {v : V} (h : RRs F g H rs vs) (x : RR F g H r v) : ∀ i, RRs F g H (rs.set i r) (vs.set i v) := by
  induction h with
  | nil => intro i; exact .nil
  | cons a t ih =>
    intro i
    cases i with
    | zero => exact .cons x t
    | succ i => exact .cons a (ih i)
section
variable {X : Cx} {ca : Ca}
theorem DNew.at {F : Fx} {Z : Addr → Prop} {H : Hp} {a : Addr} {ks ks' : List W} {xv xv' : List V} {o o' : Obj} (D : DAt F Z H a ks xv o) (n : DNew F Z H ks' xv' o') : ∃ es ep, o'.data = .dict es ep ∧ RD F Z H ks' xv' es.toList := n.dat
theorem set_any (hu : X.A.units + 10 < cLine) : PSet X (tSetR (fx X ca)) := by
  intro pins s σ H o i v ov iv u Q I ro ri rv ⟨g, bx, y, x, k, bx', b, hy, hx, hk, e, q⟩
  cases x with
  | v w => simp [setR] at e
  | clo _ _ => simp [setR] at e
  | r n =>
    cases k with
    | r _ => simp [setR] at e
    | clo _ _ => simp [setR] at e
    | v kw =>
      cases hx with
      | @r _ a qa =>
      simp only [setR] at e
      split at e
      · rename_i xs hb
        split at e
        · rename_i j
          split at e
          · rename_i p hp
            cases e
            have hbo := b.at_ n a _ qa hb
            cases hbo with
            | lst q1 l rs =>
              cases hk with | v hk =>
              cases hk
              have lp : p < xs.length := by
                unfold atW at hp
                split at hp
                · split at hp
                  · cases hp; omega
                  · cases hp
                · split at hp
                  · cases hp; omega
                  · cases hp
              refine set_list pins s σ H _ _ v ov iv u Q I ro ri rv ⟨a, _, j, p, rfl, rfl, q1, by rw [← rs.length, ← atW_ixN]; exact hp, ?_⟩
              obtain ⟨x1, b1⟩ := b.set (o := .lst (_ : List V)) (b := .lst (xs.set p y)) qa fun x1 => .lst upd_same (by rw [List.length_set]; exact l) ((rs.set hy p).mono x1)
              exact q g _ x1 b1
          · cases e
        · cases e
      · rename_i ks rs hb
        split at e
        · rename_i hc
          cases e
          have hbo := b.at_ n a _ qa hb
          cases hbo with
          | @dct _ _ o es ep xv q1 sm o1 o2 l d r nd kk =>
            cases hk with | v hk =>
            cases ro
            have D : DAt (fx X ca) g.Z H a ks xv o := ⟨sm, o1, ⟨_, _, o2, d⟩, l, nd, kk⟩
            refine d_put hu I q1 D hc.1 hk ri rv fun o' s' I' nw => ⟨_, I', ?_⟩
            obtain ⟨es', ep', d1, d2⟩ := nw.dat
            have hl : (dSetK ks kw).length ≤ sizeLine := by
              have := len_dSetK (k := kw) (ks := ks)
              have := hc.2
              rw [SL_eq] at this
              omega
            have lr : ks.length = rs.length := by rw [r.length, d.lens.1, d.lens.2]
            obtain ⟨x1, b1⟩ := b.set (o := pinO a o') (b := .dct (dSetK ks kw) (dSetV ks rs kw y)) qa fun x1 => .dct upd_same sm nw.ex d1 hl (d2.mono x1.z fun a z => x1.zk a z) ((RRs.dSet lr r hy).mono x1) (nd_dSetK nd) (kk.set hc.1)
            exact q g _ x1 b1
        · cases e
      · cases e
theorem ss_setItem {o i e : Expr} {mo mi me : E} {pos spos : Pos} (hu : X.A.units + 10 < cLine) (ho : SE X ca mo o) (hi : SE X ca mi i) (he : SE X ca me e)
    (ha : ∀ v, assign (.Subscript o i pos) X.env v = (do
      let ov ← holding [v] (eval o X.env)
      let iv ← holding [v, ov] (eval i X.env)
      standAt pos
      holding [v, ov, iv] (setItem ov iv v)
      release [v, ov, iv] [])) (hs : swapsWithSole [.Subscript o i pos] e spos.line X.env = pure false) (hw : swappedStores [.Subscript o i pos] e X.env = pure none) (h1 : (assignEach [.Subscript o i pos] X.env).map (·.2) = [assign (.Subscript o i pos) X.env]) :
    SS X ca (cSet mo mi me) (.Assign [.Subscript o i pos] e spos) := ⟨fun Wx tk =>
  PS.imp (ps_asg (he.pe Wx tk) (pg_sub (ho.pe Wx tk) (hi.pe Wx tk) (set_any (ca := ca) hu) ha) hs hw h1) fun D σ H h => by
    have s1 := tSL_bind (vs := []) (k := fun rs => match rs with
      | [y] => cE mo fun x => cE mi fun k => fun en bx => match setR y x k bx with
        | some bx' => .nx en bx'
        | none => .stuck
      | _ => fun _ _ => .stuck) (fun rs hl => by
        have : rs = [] := List.eq_nil_of_length_eq_zero hl
        subst this
        rfl) (tSL_of (c := cSet mo mi me) h)
    refine tM_imp s1 fun v H1 s2 => ?_
    have s3 := tSL_bind (m := mo) (k := fun rs => match rs with
      | [y, x] => cE mi fun k => fun en bx => match setR y x k bx with
        | some bx' => .nx en bx'
        | none => .stuck
      | _ => fun _ _ => .stuck) (fun rs hl => by
        match rs, hl with
        | [y], _ => rfl) s2
    refine tM_imp s3 fun ov H2 s4 => ?_
    have s5 := tSL_bind (m := mi) (k := fun rs => match rs with
      | [y, x, k] => fun en bx => match setR y x k bx with
        | some bx' => .nx en bx'
        | none => .stuck
      | _ => fun _ _ => .stuck) (fun rs hl => by
        match rs, hl with
        | [y, x], _ => rfl) s4
    refine tM_imp s5 fun iv H3 s6 => ?_
    obtain ⟨g, en, bx, rs, a, b, rr, p⟩ := s6
    obtain ⟨r1, r2, r3, rfl, h1, h2, h3⟩ := rr.three
    replace p : PostC (fx X ca) g H3 Wx D (match setR r1 r2 r3 bx with
      | some bx' => .nx en bx'
      | none => .stuck) := p
    cases q : setR r1 r2 r3 bx with
    | none => rw [q] at p; exact p.elim
    | some bx' =>
      rw [q] at p
      exact ⟨g, bx, r1, r2, r3, bx', b, h1, h2, h3, q, fun g' H' x' b' => p g' σ H' x' b' (a.mono x')⟩⟩
end
section
variable {P : Program} {w : World} {K : PySem.W.Frag} {mg : Str → Option Value} {base : Heap} {ca : Ca} {k : Nat} {N : List Str} {sc : Scope} {fs : Str → Bool} {X : Cx} {pos spos : Pos} {o i e : Expr} {mo mi me : E}
theorem v_setItem (c : Con P w K mg base k N sc fs X) (ho : SE X ca mo o) (hi : SE X ca mi i) (he : SE X ca me e)
    (ha : ∀ v, assign (.Subscript o i pos) X.env v = (do
      let ov ← holding [v] (eval o X.env)
      let iv ← holding [v, ov] (eval i X.env)
      standAt pos
      holding [v, ov, iv] (setItem ov iv v)
      release [v, ov, iv] []) := by intro _; rfl) (hs : swapsWithSole [.Subscript o i pos] e spos.line X.env = pure false := by rfl) (hw : swappedStores [.Subscript o i pos] e X.env = pure none := by rfl) (h1 : (assignEach [.Subscript o i pos] X.env).map (·.2) = [assign (.Subscript o i pos) X.env] := by rfl) :
    SS X ca (cSet mo mi me) (.Assign [.Subscript o i pos] e spos) := ss_setItem c.u10 ho hi he ha hs hw h1
end
end AM
/-! text AmX -/
set_option Elab.async false
set_option linter.all false
set_option maxRecDepth 100000
set_option maxHeartbeats 2000000
/-! AmX: raise; try .. except C as e, the error kept. -/
namespace AM
open PySem PySem.Spec PyProof.Rows L2

/-! ### raise C('..') -/
/-- what a class of errors without own __init__ must say -/
structure ExC0 (K : PySem.W.Frag) (C : Addr) : Prop where
  q : PySem.W.excIn K C He.veBase "ValueError.__new__" = true
  kp : PySem.W.keepIn K (.ref C) = true
  sb : PySem.W.subIn K (.ref C) (.type "BaseException") = some true
  ty : PySem.W.typeIn K (.ref C) = some (.type "type")
section
variable {X : Cx} {ca : Ca} {c : Nat} {x : Str} {e : Expr} {m : E} {p pos rpos : Pos}
theorem ss_raise (hc : X.calm = true) (Ex : ExC0 X.K (ca c)) (gC : X.mg x = some (.ref (ca c))) (hg : Gl X x) (hdb : (x == ("__debug__" : Str)) = false) (hs : starEach [e] X.env = (false, eval e X.env) :: starEach [] X.env) (he : SE X ca m e) :
    SS X ca (cRaise c m) (.Raise (some (.Call (.Name x p) [e] [] pos)) none rpos) := ⟨fun Wx tk =>
  PS.imp (L2.ps_raise hc tk (SkE.pmk_own1 PySem.F.excBase_ValueError Ex.q gC Ex.kp (raises_own Ex.sb Ex.ty) hg (he.pe Wx tk) hs hdb)) fun D σ H h => tM_imp (tS_cE h) fun v H1 ⟨g, en, bx, r, a, b, rr, q⟩ => by
    cases r with
    | v w =>
      cases w with
      | str t => exact q g σ H1 _ _ (Ext.refl g H1) b a ⟨c, rfl, .inl ⟨rfl, rfl⟩⟩
      | _ => exact q.elim
    | r _ => exact q.elim
    | clo _ _ => exact q.elim⟩
end

/-! ### a caught error is tracked from now on -/
section
variable {X : Cx} {pins : List (Addr × Obj)} {σ : L2.St} {H : Hp} {s : Shared} {a C : Addr} {d : Option Addr}
theorem exn_ok {P : Program} {w : World} {H' : Hp} {h : Heap} {oe : Obj} {vs : Array Value} (ha : h.get? a = some oe) (hc : oe.cls = .ref C) (hd : oe.dict = d) (hv : oe.data = .fields vs) : ObjOk P w H' h a (exnO a C d) :=
  ⟨⟨oe, vs, ha, hc, hd, hv⟩, ⟨oe, ha⟩, fun h1 h2 ⟨o', v', q1, q2⟩ k => ⟨o', v', k _ q1, q2⟩⟩
theorem inv_track {oe : Obj} {vs : Array Value} (I : Inv X pins σ H s) (ha : s.heap.get? a = some oe) (hc : oe.cls = .ref C) (hd : oe.dict = d) (hv : oe.data = .fields vs) (na : H a = none) (nL : a ≠ X.env.locals) (n0 : ∀ o, X.s_0.heap.get? a ≠ some o) (np : ∀ p ∈ X.pn ++ pins, p.1 ≠ a) :
    Inv X pins σ (upd H a (exnO a C d)) s := by
  have other : ∀ {b : Addr} {u : HO}, H b = some u → b ≠ a := fun e z => by rw [z, na] at e; cases e
  refine ⟨I.ok, I.os, I.bare, ⟨I.base.keep, I.base.slot, fun b o e n hx => ?_, I.base.there, fun b xs e => ?_, fun b o u e => ?_, fun b ps e => ?_⟩, I.loc, I.cell, ?_, fun y c e => ?_, fun p hp => ?_, fun b u e => ?_, I.len⟩
  · rw [upd_ne fun z => n0 o (by rw [← z]; exact e)]
    exact I.base.free b o e n hx
  · have q := I.base.tups b xs e
    rw [upd_ne (other q)]
    exact q
  · have q := I.base.frzs b o u e
    rw [upd_ne (other q)]
    exact q
  · obtain ⟨more, q⟩ := I.base.tbls b ps e
    exact ⟨more, by rw [upd_ne (other q)]; exact q⟩
  · rw [upd_ne (Ne.symm nL)]
    exact I.free
  · have nc : c ≠ a := fun z => by
      obtain ⟨v, oc, h1, h2⟩ := I.cell y c e
      rw [z, ha] at h1
      cases h1
      rw [hv] at h2
      cases h2
    rw [upd_ne nc]
    exact I.freeC y c e
  · obtain ⟨h1, h2, h3⟩ := I.pin p hp
    exact ⟨h1, by rw [upd_ne (np p hp)]; exact h2, h3⟩
  · by_cases z : b = a
    · subst z
      rw [upd_same] at e
      cases e
      exact exn_ok ha hc hd hv
    · rw [upd_ne z] at e
      exact (I.hok b u e).stay (fun _ _ _ q => q) (fun b' q => by rw [upd_ne (other q)]; exact q) fun b' xs q => by rw [upd_ne (other q)]; exact q
/-- a def's own statements -/
structure Sta (X : Cx) : Prop where
  pass : PassesOwn (model X.prog X.w) X.A X.env X.xe
  ex : X.ex = []
  stk : X.stack = X.env :: X.outer
  fr : X.env.frame = some X.env.locals
theorem Sta.tr {X : Cx} (h : Sta X) {pn : List (Addr × Obj)} {xe : Value → Shared → Prop} (hp : PassesOwn (model X.prog X.w) X.A X.env xe) : Sta (X.tr pn xe) := ⟨hp, h.ex, h.stk, h.fr⟩
/-- into the suite -/
theorem inv_suite (I : Inv X pins σ H s) (a : Addr) : Inv (X.suite a (X.pn ++ pins)) [] σ H s :=
  ⟨I.ok.suite a _, I.os, I.bare, I.base, I.loc, I.cell, I.free, I.freeC, fun p hp => I.pin p (by rw [List.append_nil] at hp; exact hp), I.hok, I.len⟩
theorem inv_unsuite {ps' : List (Addr × Obj)} (I : Inv (X.suite a (X.pn ++ pins)) ps' σ H s) (ok : X.Ok) : Inv X pins σ H s :=
  ⟨ok, I.os, I.bare, I.base, I.loc, I.cell, I.free, I.freeC, fun p hp => I.pin p (List.mem_append_left _ hp), I.hok, I.len⟩
end

/-- what the clause wishes of an error of the body -/
def wCatch (K : PySem.W.Frag) (c : Value) (i : Nat) (ts : Addr → Addr → Option Addr → TS) (Wout : WX) (D : Ends) : WX := fun cls d σ H =>
  ∃ C b, cls = .ref C ∧ PySem.W.exmOne K cls c = some b ∧ (b = true → ∀ a, H a = none → ts a C d { nx := fun σ' H' => D.nx (σ'.set i none) H', rt := D.rt, bk := fun _ _ => False, ct := fun σ' H' => D.ct (σ'.set i none) H' } (σ.set i (some (.ref a))) (upd H a (exnO a C d))) ∧
    (b = false → Wout cls d σ H)
section
variable {X : Cx} {x n : Str} {c : Value} {i : Nat} {body suite : List Stmt} {b₀ : Stmt} {np pos pos' : Pos} {tb : WX → TS} {ts : Addr → Addr → Option Addr → TS} {Wout : WX}
theorem ps_catch (S : Sta X) (hN : X.N.Nodup) (hi : X.N[i]? = some n) (hln : X.env.kindOf n = some .local) (hc : Names X x c) (tk : Takes X Wout)
    (hb : ∀ (Wb : WX) (pn : List (Addr × Obj)) (xe : Value → Shared → Prop), Takes (X.tr pn xe) Wb → PassesOwn (model X.prog X.w) X.A X.env xe → PSs (X.tr pn xe) body (tb Wb))
    (hsu : ∀ (a C : Addr) (d : Option Addr) (pn : List (Addr × Obj)), PSs (X.suite a pn) (b₀ :: suite) (ts a C d)) :
    PS X (.Try body [.ExceptHandler (some (.Name x np)) (some n) (b₀ :: suite) pos'] [] [] pos) (fun D σ H => tb (wCatch X.K c i ts Wout D) D σ H) := ⟨fun pins s σ H D I h => by
  have ok := I.ok
  have frames : X.A.frames = some (X.env :: X.outer) := ok.frames.trans (congrArg some S.stk)
  have leave : PassesOwn (model X.prog X.w) X.A X.env fun e t1 => wpAny (model X.prog X.w) X.A (noteFrame e X.env) (fun _ t2 => wpAny (model X.prog X.w) X.A (setFlight e none) (fun _ t3 =>
      wpAny (model X.prog X.w) X.A (handleBy e X.env [.ExceptHandler (some (.Name x np)) (some n) (b₀ :: suite) pos']) (SP X pins D) X.xe t3) X.xe t2) X.xe t1 := PassesOwn.looking
  refine wpAny_Try_except (wpAny_mono ((hb (wCatch X.K c i ts Wout D) (X.pn ++ pins) _ (fun u t1 xx => ?_) leave).run [] s σ H D (I.toTry _) h) (fun f t1 q => ?_) fun _ _ q => q)
  · -- an error: it is looked at
    obtain ⟨a, B, sB, ps', σ1, H1, cls, d, rfl, J1, nb, up1, sky, na, os1, ag1, C, b, rfl, hm, yes, no⟩ := xx
    have J : Inv X pins σ1 H1 sB := J1.ofTry ok
    rw [show (X.tr (X.pn ++ pins) _).stack = X.env :: X.outer from S.stk] at nb sky
    have apart : ∀ b o, sB.heap.get? b = some o → b ∉ frs (X.env :: X.outer) → B.get? a = none → b ≠ a := fun b o e hf hB z => by
      have q := nb b o e hf
      rw [z, hB] at q
      cases q
    show wpAny (model X.prog X.w) X.A (noteFrame (.ref a) X.env) _ _ _
    refine Sky.land Zc.steady frames S.fr sky fun g1 fl1 u1 => ?_
    have Ja : Inv X pins σ1 H1 { t1 with heap := g1 } := J.landed (by rw [S.stk]; exact nb) fl1.1 (up1.trans u1) os1 ag1
    have hB : B.get? a = none := fl1.2.1
    have LT : PySem.W.Looks (model X.prog X.w) g1 (typeOf (.ref a)) (.ref C) := by
      obtain ⟨oe, vs, he, hz, _⟩ := fl1.there
      exact fun A Q E s k q => wpAny_typeOf_ref (k _ _ he) (by rw [hz.1]; exact q)
    have LM := PySem.W.exm_one (M := model X.prog X.w) Ja.kIn LT hm
    refine wpAny_handleBy_cons (codeAny_handlers_test ?_) (by intro q; cases q)
    have Js := inv_suite Ja a
    have test : ∀ {Q : Value → Shared → Prop} {E : Value → Shared → Prop}, Q c { t1 with heap := g1 } → wpAny (model X.prog X.w) (X.A.mark (some (.ref a))) (eval (.Name x np) X.env) Q E { t1 with heap := g1 } := fun {Q E} q => by
      obtain ⟨hgl, hdbg, k | ⟨k, hv, hnn⟩⟩ := hc
      · exact ld_glob (X := X.suite a (X.pn ++ pins)) Js hgl k q hdbg
      · exact ld_blt (X := X.suite a (X.pn ++ pins)) Js hgl k hv q hnn hdbg
    refine test (LM.here ?_)
    cases b with
    | true =>
      refine codeAny_handlers_suite_as (PySem.HandSPX.lands_againZ fl1 fun g2 fl2 u2 => ?_)
      have Jb : Inv X pins σ1 H1 { t1 with heap := g2 } := J.landed (by rw [S.stk]; exact nb) fl2.1 ((up1.trans u1).trans u2) os1 ag1
      obtain ⟨oe, vs, he, hz, hd⟩ := fl2.there
      have nfr : a ∉ frs (X.env :: X.outer) := fun m => by
        obtain ⟨_, o', e', hnf⟩ := fl2.2.2.1.mem m
        rw [he] at e'
        cases e'
        exact hnf _ hd
      have nL : a ≠ X.env.locals := fun z => nfr (List.mem_filterMap.mpr ⟨X.env, List.mem_cons_self, by rw [S.fr, z]⟩)
      have nF : a ∉ X.fs := fun m => by
        obtain ⟨e1, h1, h2⟩ := List.mem_filterMap.mp m
        exact nfr (List.mem_filterMap.mpr ⟨e1, List.mem_cons_of_mem _ h1, h2⟩)
      have T := inv_track (C := C) (d := d) Jb he hz.1 hz.2 hd na nL (fun o e => by
        obtain ⟨o', e'⟩ := J.base.there a o e (by rw [S.ex]; simp)
        exact apart a o' e' nfr hB rfl) (fun p hp => by
        obtain ⟨h1, _, h3, h4, _⟩ := J.pin p hp
        refine apart p.1 p.2 h1 (fun m => ?_) hB
        rcases List.mem_cons.mp (J.stkSub p.1 (by rw [S.stk]; exact m)) with z | z
        · exact h3 z
        · exact h4 z)
      have Ts := inv_suite T a
      refine store_ok (X := X.suite a (X.pn ++ pins)) (v := .ref a) Ts hN hi (.inl hln) rfl (fun t5 T5 => ?_) (.inr hln)
      refine wpAny_mono ((hsu a C d (X.pn ++ pins)).run [] t5 _ _ _ T5 (yes rfl a na)) (fun f t6 hsp => ?_) fun _ _ z => z.elim
      have fin : ∀ {σ6 : L2.St} {H6 : Hp} {Q : Shared → Prop}, Inv (X.suite a (X.pn ++ pins)) [] σ6 H6 t6 → (∀ t7, Inv X pins (σ6.set i none) H6 t7 → Q t7) →
          wpAny (model X.prog X.w) X.A (do bindName X.env n .none; unbindBehindTheSuite X.env n pos') (fun _ t7 => Q t7) X.xe t6 := fun J6 k => gone_ok (inv_unsuite J6 ok) hN hi hln k
      cases f with
      | next =>
        obtain ⟨σ6, H6, J6, q6⟩ := hsp
        exact fin J6 fun t7 J7 => ⟨_, _, J7, q6⟩
      | brk => exact hsp.elim fun _ z => z.elim fun _ z => z.2.elim
      | cont =>
        obtain ⟨σ6, H6, J6, q6⟩ := hsp
        exact fin J6 fun t7 J7 => ⟨_, _, J7, q6⟩
      | ret u =>
        obtain ⟨v6, σ6, H6, J6, r6, q6⟩ := hsp
        exact fin J6 fun t7 J7 => ⟨_, _, _, J7, r6, q6⟩
    | false =>
      show wpAny _ X.A (handleBy (.ref a) X.env []) _ _ _
      refine wpAny_handleBy_nil ?_
      obtain ⟨_, _, _, oe, vs, T, _, _, he, _, hd, h1, _⟩ := id fl1
      unfold PySem.passOn
      refine wpAny_bind (wpAny_field he hd h1 ?_)
      rw [if_neg (show ¬ ((Value.ref T == Value.none) = true) from by simp)]
      have fin : wpAny (model X.prog X.w) X.A (setFlight (.ref a) X.env.frame) (fun _ t4 => wpAny (model X.prog X.w) X.A (throw (.ref a) : Sem Flow) (SP X pins D) X.xe t4) X.xe { t1 with heap := g1 } := by
        rw [S.fr]
        refine PySem.HandSPX.setFlight_upZ fl1 fun g4 hh4 u4 => wpAny_throw (tk _ _ ⟨a, B, sB, pins, σ1, H1, .ref C, d, rfl, J, by rw [S.stk]; exact nb, (up1.trans u1).trans u4, .inr (.inr (by rw [S.stk]; exact hh4)), na, os1, ag1, no rfl⟩)
      first
        | exact wpAny_bind (wpAny_pure (wpAny_bind fin))
        | exact wpAny_bind fin
  · cases f with
    | next =>
      obtain ⟨σ', H', J', k⟩ := q
      exact wpAny_execs_nil ⟨σ', H', J'.ofTry ok, k⟩
    | brk =>
      obtain ⟨σ', H', J', k⟩ := q
      exact ⟨σ', H', J'.ofTry ok, k⟩
    | cont =>
      obtain ⟨σ', H', J', k⟩ := q
      exact ⟨σ', H', J'.ofTry ok, k⟩
    | ret u =>
      obtain ⟨v, σ', H', J', r, k⟩ := q
      exact ⟨v, σ', H', J'.ofTry ok, r, k⟩⟩
end

/-! ### try: body / except C as e: suite -/
structure Lk (N : List Str) (sc : Scope) (fs : Str → Bool) (X : Cx) : Prop where
  names : X.N = N
  nd : N.Nodup
  sco : X.env.scope = sc
  fns : X.fn = fs
section
variable {N : List Str} {sc : Scope} {fs : Str → Bool} {X : Cx} {ca : Ca} {x : Str} {pos : Pos} {e : Expr} {m : E} {i : Nat}
theorem l_var (c : Lk N sc fs X) (h : varB N sc i x = true) : SE X ca (eVar i) (.Name x pos) := by
  simp only [varB, Bool.and_eq_true, decide_eq_true_eq] at h
  obtain ⟨n1, n2, _⟩ := nmB_ok h.2
  refine se_var (by rw [c.names]; exact h.1.1) ?_ n1 n2
  have h2 := h.1.2
  unfold visB at h2
  rw [c.sco]
  split at h2
  · exact .inl (by assumption)
  · exact .inr (.inl (by assumption))
  · exact .inr (.inr (by assumption))
  · cases h2
theorem l_set {pos' : Pos} (c : Lk N sc fs X) (h : locB N sc fs i x = true) (he : SE X ca m e) (hs : swapsWith e (some (.Name x pos')) pos.line X.env = pure false := by rfl) : SS X ca (cAsg (.nm i) m) (.Assign [.Name x pos'] e pos) := by
  simp only [locB, Bool.and_eq_true, decide_eq_true_eq] at h
  have h2 := h.2
  refine ss_set (by rw [c.names]; exact c.nd) (by rw [c.names]; exact h.1) ?_ ?_ he hs
  · rw [c.sco]
    split at h2
    · exact .inl (by assumption)
    · exact .inr (by assumption)
    · cases h2
  · rw [c.sco, c.fns]
    split at h2
    · exact .inr (by assumption)
    · exact .inl h2
    · cases h2
end
section
variable {X : Cx} {ca : Ca} {T : Tab} {x n : Str} {c i : Nat} {body suite : List Stmt} {b₀ : Stmt} {np pos pos' : Pos} {cb ch : C}
/-- what a try's body is to give -/
theorem try_post {F : Fx} {T : Tab} {c i : Nat} {cb ch : C} {g : Gd} {en : En} {bx : Bx} {H : Hp} {Wx : WX} {D : Ends} (hm : ∀ d, d < T.n → T.exc d = true → PySem.W.exmOne F.K (.ref (F.ca d)) (.ref (F.ca c)) = some (T.sub d c))
    (p : PostC F g H Wx D (cTry T cb c i ch en bx)) : PostC F g H (wCatch F.K (.ref (F.ca c)) i (fun _ _ _ => tS F W0 ch) Wx D) D (cb en bx) := by
  replace p : PostC F g H Wx D (match cb en bx with
    | .exc (.exn d l) en1 bx1 => if d < T.n ∧ T.exc d = true ∧ i < en1.length then (if T.sub d c then (match ch (en1.set i (some (.v (.exn d l)))) bx1 with
        | .nx en2 bx2 => .nx (en2.set i none) bx2
        | .ct en2 bx2 => .ct (en2.set i none) bx2
        | .exc _ _ _ => .stuck
        | r => r) else .exc (.exn d l) en1 bx1) else .stuck
    | r => r) := p
  cases e : cb en bx with
  | nx en' bx' => rw [e] at p; exact p
  | ct en' bx' => rw [e] at p; exact p
  | rt r bx' => rw [e] at p; exact p
  | stuck => rw [e] at p; exact p
  | exc w en1 bx1 =>
    rw [e] at p
    intro g' σ' H' cls dd x' b' a' xr
    obtain ⟨cd, rfl, hw⟩ := xr
    obtain ⟨l, rfl, hl⟩ : ∃ l, w = .exn cd l ∧ ((l = [] ∧ dd = none) ∨ ∃ i' ad, l = [.int i'] ∧ dd = some ad ∧ g'.Z ad ∧ H' ad = some (.xd [(("line" : Str), .int i')])) := by
      rcases hw with ⟨rfl, rfl⟩ | ⟨i', ad, rfl, rfl, z1, z2⟩
      · exact ⟨_, rfl, .inl ⟨rfl, rfl⟩⟩
      · exact ⟨_, rfl, .inr ⟨i', ad, rfl, rfl, z1, z2⟩⟩
    simp only at p
    split at p
    · rename_i hd
      have p := PostC.ext x' p
      refine ⟨F.ca cd, T.sub cd c, rfl, hm cd hd.1 hd.2.1, fun hs ad hn => ?_, fun hs => ?_⟩
      · rw [if_pos hs] at p
        obtain ⟨x2, b2⟩ := b'.frozen (o := exnO ad (F.ca cd) dd) hn
        have hr : RR F (g'.froze ad) (upd H' ad (exnO ad (F.ca cd) dd)) (.v (.exn cd l)) (.ref ad) := by
          rcases hl with ⟨rfl, rfl⟩ | ⟨i', ax, rfl, rfl, z1, z2⟩
          · exact .v (.exn (.inr rfl) upd_same)
          · exact .v (.exn1 (.inr rfl) upd_same (.inl z1) ((x2.zk ax z1).trans z2))
        refine ⟨g'.froze ad, _, bx1, (a'.mono x2).set hr, b2, ?_⟩
        have p := PostC.ext x2 p
        cases e2 : ch (en1.set i (some (.v (.exn cd l)))) bx1 with
        | nx en2 bx2 => rw [e2] at p; exact fun g3 σ3 H3 x3 b3 a3 => p g3 _ H3 x3 b3 a3.unset
        | ct en2 bx2 => rw [e2] at p; exact fun g3 σ3 H3 x3 b3 a3 => p g3 _ H3 x3 b3 a3.unset
        | rt r bx2 => rw [e2] at p; exact p
        | exc w en2 bx2 => rw [e2] at p; exact p.elim
        | stuck => rw [e2] at p; exact p
      · rw [hs, if_neg Bool.false_ne_true] at p
        refine p g' σ' H' _ dd (Ext.refl g' H') b' a' ⟨cd, rfl, ?_⟩
        rcases hl with ⟨rfl, rfl⟩ | ⟨i', ax, rfl, rfl, z1, z2⟩
        · exact .inl ⟨rfl, rfl⟩
        · exact .inr ⟨i', ax, rfl, rfl, z1, z2⟩
    · exact p.elim
theorem ss_try (S : Sta X) (hN : X.N.Nodup) (hi : X.N[i]? = some n) (hln : X.env.kindOf n = some .local) (hc : Names X x (.ref (ca c))) (hm : ∀ d, d < T.n → T.exc d = true → PySem.W.exmOne X.K (.ref (ca d)) (.ref (ca c)) = some (T.sub d c))
    (hb : ∀ (pn : List (Addr × Obj)) (xe : Value → Shared → Prop), PassesOwn (model X.prog X.w) X.A X.env xe → SSs (X.tr pn xe) ca cb body) (hh : ∀ (a : Addr) (pn : List (Addr × Obj)), SSs (X.suite a pn) ca ch (b₀ :: suite)) :
    SS X ca (cTry T cb c i ch) (.Try body [.ExceptHandler (some (.Name x np)) (some n) (b₀ :: suite) pos'] [] [] pos) := ⟨fun Wx tk =>
  PS.imp (ps_catch (tb := fun Wb => tS (fx X ca) Wb cb) (ts := fun _ _ _ => tS (fx X ca) W0 ch) S hN hi hln hc tk (fun Wb pn xe tb hp => (hb pn xe hp).ps Wb tb) fun a C d pn => (hh a pn).ps W0 (takes0 _)) fun D σ H ⟨g, en, bx, a, b, p⟩ => by
    exact ⟨g, en, bx, a, b, try_post hm p⟩⟩
end
section
variable {P : Program} {w : World} {K : PySem.W.Frag} {mg : Str → Option Value} {base : Heap} {ca : Ca} {k : Nat} {N : List Str} {sc : Scope} {fs : Str → Bool} {X : Cx} {T : Tab} {x n : Str} {c' i : Nat} {body suite : List Stmt} {b₀ : Stmt} {np p pos pos' rpos : Pos} {cb ch : C} {e : Expr} {m : E}
theorem v_raise (c : Con P w K mg base k N sc fs X) (Ex : ExC0 K (ca c')) (hm : mg x = some (.ref (ca c'))) (g : glB sc x = true) (he : SE X ca m e) (hs : starEach [e] X.env = (false, eval e X.env) :: starEach [] X.env := by rfl) : SS X ca (cRaise c' m) (.Raise (some (.Call (.Name x p) [e] [] pos)) none rpos) := by
  have g2 := g
  simp only [glB, Bool.and_eq_true] at g2
  exact ss_raise c.calm (by rw [c.frag]; exact Ex) (by rw [c.glo]; exact hm) (c.gl g) (nmB_ok g2.2).1 hs he
theorem v_try (c : Con P w K mg base k N sc fs X) (S : Sta X) (h : locB N sc (fun _ => false) i n = true) (g : glB sc x = true) (hx : mg x = some (.ref (ca c'))) (hm : ∀ d, d < T.n → T.exc d = true → PySem.W.exmOne K (.ref (ca d)) (.ref (ca c')) = some (T.sub d c'))
    (hb : ∀ X', Con P w K mg base k N sc fs X' → Sta X' → SSs X' ca cb body) (hh : ∀ X', Lk N sc fs X' → SSs X' ca ch (b₀ :: suite)) :
    SS X ca (cTry T cb c' i ch) (.Try body [.ExceptHandler (some (.Name x np)) (some n) (b₀ :: suite) pos'] [] [] pos) := by
  have g2 := g
  simp only [glB, Bool.and_eq_true] at g2
  have hl : X.N[i]? = some n ∧ X.env.kindOf n = some .local := by
    show X.N[i]? = some n ∧ X.env.scope.names.lookup n = _
    rw [c.names, c.sco]
    simp only [locB, Bool.and_eq_true, decide_eq_true_eq] at h
    refine ⟨h.1, ?_⟩
    have h2 := h.2
    split at h2
    · assumption
    · cases h2
    · cases h2
  exact ss_try S c.ndX hl.1 hl.2 ⟨c.gl g, (nmB_ok g2.2).1, .inl (by rw [c.glo]; exact hx)⟩ (by rw [c.frag]; exact hm) (fun pn xe hp => hb _ (c.tr pn xe) (S.tr hp)) fun a pn => hh _ ⟨c.names, c.nd, c.sco, c.fns⟩
end
end AM
/-! text AmN -/
set_option Elab.async false
set_option linter.all false
set_option maxRecDepth 100000
set_option maxHeartbeats 2000000
/-! AmN: methods of lists and dicts. -/
namespace AM
open PySem PySem.Spec PyProof.Rows L2

section
variable {X : Cx} {ca : Ca} {o e : Expr} {es : List Expr} {mo : E} {as : List (Bool × E)} {f : Op} {name : Str} {apos cpos : Pos} {T id : String} {d : Bool}
/-- a method by values: the receiver, then the arguments -/
def MtO (X : Cx) (ca : Ca) (id : String) (f : Op) : Prop := ∀ (pins : List (Addr × Obj)) (s : Shared) (σ : L2.St) (H : Hp) (x : V) (xs : List V) (v : Value) (us : List Value) (Q : VK), Inv X pins σ H s → RelV x v → Vals xs us → tO (fx X ca) f (x :: xs) H Q →
  wpAny (model X.prog X.w) X.A (call (.builtin id) (v :: us)) (EP X pins σ Q) X.xe s
theorem recv_ty {pins : List (Addr × Obj)} {σ : L2.St} {H : Hp} {s : Shared} {g : Gd} {bx : Bx} {r : R} {v : V} {u : Value} (I : Inv X pins σ H s) (b : BxOk (fx X ca) g bx H) (h : RR (fx X ca) g H r v) (ru : RelV v u) (hd : (if d then (dcO bx r).isSome else (itL bx r).isSome) = true) :
    s.TypeIs u (if d then "dict" else "list") ∧ ∀ a, u = .ref a → ∃ ob, s.heap.get? a = some ob ∧ ob.dict = none := by
  cases d with
  | true =>
    simp only [if_true] at hd ⊢
    obtain ⟨⟨ks, rs⟩, e⟩ := Option.isSome_iff_exists.mp hd
    obtain ⟨a, o, xv, rfl, p, D, _⟩ := h.dct b e
    cases ru
    have ho := d_obj I p
    exact ⟨⟨o, ho, D.ex.1⟩, fun a' e' => by cases e'; exact ⟨o, ho, D.ex.2.1⟩⟩
  | false =>
    simp only [Bool.false_eq_true, if_false] at hd ⊢
    obtain ⟨xs, e⟩ := Option.isSome_iff_exists.mp hd
    obtain ⟨a, vs, rfl, q, _⟩ := h.lst b e
    cases ru
    obtain ⟨_, its, n, _, h1⟩ := I.hok a _ q
    exact ⟨⟨_, h1, rfl⟩, fun a' e' => by cases e'; exact ⟨_, h1, rfl⟩⟩
theorem tM_mt {F : Fx} {Wx : WX} {σ : L2.St} {H : Hp} {Q : VK} (h : tM F Wx (eMt d mo as f) σ H Q) : tM F Wx mo σ H fun v H1 => ∃ g en bx r, EnOk F g en σ H1 ∧ BxOk F g bx H1 ∧ RR F g H1 r v ∧ (if d then (dcO bx r).isSome else (itL bx r).isSome) = true ∧ PostR F g σ H1 Wx Q (eArgs as (fun xs _ bx => f (r :: xs) bx) en bx) := by
  obtain ⟨g, en, bx, a, b, p⟩ := h
  refine ⟨g, en, bx, a, b, ?_⟩
  replace p : PostR F g σ H Wx Q (match mo en bx with
    | .ok x bx' => if (if d then (dcO bx' x).isSome else (itL bx' x).isSome) = true then eArgs as (fun xs _ bx => f (x :: xs) bx) en bx' else .stuck
    | .exc w bx' => .exc w bx'
    | .stuck => .stuck) := p
  cases q : mo en bx with
  | ok x bx' =>
    rw [q] at p
    intro g' H' v x' b' r'
    by_cases hd : (if d then (dcO bx' x).isSome else (itL bx' x).isSome) = true
    · simp only [if_pos hd] at p
      exact ⟨g', en, bx', x, a.mono x', b', r', hd, PostR.ext x' p⟩
    · simp only [if_neg hd] at p
      exact p.elim
  | exc w bx' => rw [q] at p; exact p
  | stuck => rw [q] at p; exact p
theorem se_mt (pa : PlainAttrs T) (slot : Slot T name id) (hty : typeOf (.builtin id) = pure (.type "method_descriptor")) (hT : T = if d then "dict" else "list") (n : NoX f) (hm : MtO X ca id f) (ho : SE X ca mo o) (ha : SA X ca as (e :: es))
    (hbase : attributeBase o name X.env (eval o X.env) = eval o X.env)
    (hfew : ((backTo cpos (starEach (e :: es) X.env)).all (fun x => !x.1) && (backToKw cpos (keywordEach [] X.env)).all (fun x => x.1.isSome) && decide ((e :: es).length + ([] : List Keyword).length + (if ([] : List Keyword).isEmpty then 0 else 1) < 30)) = true)
    (hline : (apos.endLine == cpos.line) = true) (hs : starEach (e :: es) X.env = (false, eval e X.env) :: starEach es X.env) (hplain : (backTo cpos (starEach es X.env)).any (·.1) = false) :
    SE X ca (eMt d mo as f) (.Call (.Attribute o name apos) (e :: es) [] cpos) := ⟨fun Wx tk => ⟨fun pins s σ H Q I h => by
  refine wpAny_Call_method_late hbase hfew hline rfl (thn ((ho.pe Wx tk).run pins s σ H _ I (tM_mt h)) fun v s1 ⟨x, H1, I1, r1, g, en, bx, r, a, b, rr, hd, p⟩ => ?_)
  obtain ⟨h1, h2⟩ := recv_ty I1 b rr r1 hd
  refine ⟨T, id, pa, slot, hty, by rw [hT]; exact h1, h2, ?_⟩
  have hA := (ha.pa Wx (fun rs _ bx => f rs bx) [x] tk).run cpos pins s1 σ H1 (fun xs H2 => tO (fx X ca) f (x :: xs) H2 Q) I1 ⟨Q, ⟨g, en, bx, [r], a, b, .cons rr .nil, p⟩, fun xs H2 z => tK_op n z⟩
  rw [hs] at hA ⊢
  refine Calls.callWith_builtin (by show (false || (backTo cpos (starEach es X.env)).any (·.1)) = false; rw [hplain] <;> rfl) (Calls.evalArgs_plain ?_)
  exact thn hA fun us s2 ⟨vs, H2, I2, r2, q2⟩ => hm pins s2 σ H2 x vs v us Q I2 r1 r2 q2⟩⟩
theorem se_mt0 (pa : PlainAttrs T) (slot : Slot T name id) (hty : typeOf (.builtin id) = pure (.type "method_descriptor")) (hT : T = if d then "dict" else "list") (n : NoX f) (hm : MtO X ca id f) (ho : SE X ca mo o)
    (hbase : attributeBase o name X.env (eval o X.env) = eval o X.env) (hline : (apos.endLine == cpos.line) = true) : SE X ca (eMt d mo [] f) (.Call (.Attribute o name apos) [] [] cpos) := ⟨fun Wx tk => ⟨fun pins s σ H Q I h => by
  refine wpAny_Call_method0_late hbase hline (thn ((ho.pe Wx tk).run pins s σ H _ I (tM_mt h)) fun v s1 ⟨x, H1, I1, r1, g, en, bx, r, a, b, rr, hd, p⟩ => ?_)
  obtain ⟨h1, h2⟩ := recv_ty I1 b rr r1 hd
  refine ⟨T, id, pa, slot, hty, by rw [hT]; exact h1, h2, Calls.callWith_builtin rfl (PySem.evalArgs_none (hm pins s1 σ H1 x [] v [] Q I1 r1 .nil ?_))⟩
  exact tK_op (Wx := Wx) (σ := σ) n ⟨g, en, bx, [r], a, b, .cons rr .nil, p⟩⟩⟩
end

/-! ### lists -/
section
variable {X : Cx} {ca : Ca} {m : Bool}
theorem putB_ok {n : Nat} {b : Box} {r : R} {bx bx' : Bx} {r' : R} (h : putB n b r bx = .ok r' bx') : n < bx.length ∧ r' = r ∧ bx' = bx.set n b := by
  unfold putB at h
  split at h
  · cases h; exact ⟨by assumption, rfl, rfl⟩
  · cases h
theorem noX_putB {n : Nat} {b : Box} {r : R} {bx bx' : Bx} {w : W} : putB n b r bx ≠ .exc w bx' := by
  unfold putB
  split <;> intro h <;> cases h
/-- a list box rewritten: what the answer's post gives -/
theorem put_list {F : Fx} {g : Gd} {bx : Bx} {H : Hp} {Q : VK} {n : Nat} {a : Addr} {rs : List R} {vs : List V} {r : R} {v : V} (b : BxOk F g bx H) (qa : g.al[n]? = some a) (l : vs.length ≤ sizeLine) (h : RRs F g H rs vs) (hr : RR F g H r v) (p : PostO F g H Q (putB n (.lst rs) r bx)) : Q v (upd H a (.lst vs)) := by
  cases e : putB n (.lst rs) r bx with
  | ok r' bx' =>
    obtain ⟨hn, rfl, rfl⟩ := putB_ok e
    rw [e] at p
    obtain ⟨x1, b1⟩ := b.set (o := .lst vs) (b := .lst rs) qa fun x1 => .lst upd_same l (h.mono x1)
    exact p g _ v x1 b1 (hr.mono x1)
  | exc w bx' => rw [e] at p; exact p.elim
  | stuck => rw [e] at p; exact p.elim
theorem box_lst {F : Fx} {g : Gd} {bx : Bx} {H : Hp} {n : Nat} {v : V} {xs : List R} (b : BxOk F g bx H) (h : RR F g H (.r n) v) (hb : bx[n]? = some (.lst xs)) : ∃ a vs, v = .ref a ∧ g.al[n]? = some a ∧ H a = some (.lst vs) ∧ vs.length ≤ sizeLine ∧ RRs F g H xs vs := by
  cases h with
  | @r _ a qa =>
    cases b.at_ n a _ qa hb with
    | lst q l rs => exact ⟨a, _, rfl, qa, q, l, rs⟩
theorem boxL_some {bx : Bx} {n : Nat} {xs : List R} (h : boxL bx n = some xs) : bx[n]? = some (.lst xs) := by
  unfold boxL at h
  split at h
  · cases h; assumption
  · cases h
theorem mo_append : MtO X ca "list.append" opAppend := by
  intro pins s σ H x xs v us Q I rx rv ⟨g, bx, rs, b, rr, p⟩
  unfold opAppend at p
  split at p
  · rename_i n y
    cases e : boxL bx n with
    | none => rw [e] at p; exact p.elim
    | some ys =>
      rw [e] at p
      by_cases hl : ys.length < SL
      · simp only [if_pos hl] at p
        cases rr with | cons h1 rr => cases rr with | cons h2 rr =>
        cases rr
        obtain ⟨a, vs, rfl, qa, q, l, r1⟩ := box_lst b h1 (boxL_some e)
        rw [SL_eq, r1.length] at hl
        exact mt_append pins s σ H _ _ v us Q I rx rv ⟨a, vs, _, rfl, rfl, q, hl, put_list b qa (by rw [List.length_append]; exact hl) (r1.append (.cons h2 .nil)) (.v .non) p⟩
      · simp only [if_neg hl] at p
        exact p.elim
  · exact p.elim
theorem mo_extend : MtO X ca "list.extend" opExtend := by
  intro pins s σ H x xs v us Q I rx rv ⟨g, bx, rs, b, rr, p⟩
  unfold opExtend at p
  split at p
  · rename_i n y
    split at p
    · rename_i ys zs e1 e2
      by_cases hl : ys.length + zs.length ≤ SL
      · simp only [if_pos hl] at p
        cases rr with | cons h1 rr => cases rr with | cons h2 rr =>
        cases rr
        obtain ⟨a, vs, rfl, qa, q, l, r1⟩ := box_lst b h1 (boxL_some e1)
        obtain ⟨a2, vs2, rfl, q2, l2, r2⟩ := h2.lst b e2
        rw [SL_eq, r1.length, r2.length] at hl
        exact mt_extend pins s σ H _ _ v us Q I rx rv ⟨a, a2, vs, vs2, rfl, rfl, q, q2, hl, put_list b qa (by rw [List.length_append]; exact hl) (r1.append r2) (.v .non) p⟩
      · simp only [if_neg hl] at p
        exact p.elim
    · exact p.elim
  · exact p.elim
theorem RRs.dropLast {F : Fx} {g : Gd} {H : Hp} {rs : List R} {vs : List V} (h : RRs F g H rs vs) : RRs F g H rs.dropLast vs.dropLast := by
  rw [List.dropLast_eq_take, List.dropLast_eq_take, h.length]
  exact h.take _
theorem RRs.eraseIdx {F : Fx} {g : Gd} {H : Hp} {rs : List R} {vs : List V} (h : RRs F g H rs vs) : ∀ i, RRs F g H (rs.eraseIdx i) (vs.eraseIdx i) := by
  induction h with
  | nil => intro i; exact .nil
  | cons a t ih =>
    intro i
    cases i with
    | zero => exact t
    | succ i => exact .cons a (ih i)
theorem mo_pop : MtO X ca "list.pop" opPop := by
  intro pins s σ H x xs v us Q I rx rv ⟨g, bx, rs, b, rr, p⟩
  unfold opPop at p
  split at p
  · rename_i n
    cases e : boxL bx n with
    | none => rw [e] at p; exact p.elim
    | some ys =>
      rw [e] at p
      simp only at p
      cases e2 : ys[ys.length - 1]? with
      | none => rw [e2] at p; exact p.elim
      | some r =>
        rw [e2] at p
        cases rr with | cons h1 rr =>
        cases rr
        obtain ⟨a, vs, rfl, qa, q, l, r1⟩ := box_lst b h1 (boxL_some e)
        obtain ⟨y, e3, hy⟩ := r1.get e2
        rw [r1.length] at e3
        exact mt_pop pins s σ H _ _ v us Q I rx rv ⟨a, vs, y, rfl, rfl, q, e3, put_list b qa (by rw [List.length_dropLast]; omega) r1.dropLast hy p⟩
  · exact p.elim
theorem atW_seq {i : Int} {n j : Nat} (h : atW i n = some j) : seqIndex? i n = some j := by
  rw [atW_ixN] at h
  exact (ixN_seq h).1
theorem mo_popAt : MtO X ca "list.pop" opPopAt := by
  intro pins s σ H x xs v us Q I rx rv ⟨g, bx, rs, b, rr, p⟩
  unfold opPopAt at p
  split at p
  · rename_i n i
    cases e : boxL bx n with
    | none => rw [e] at p; exact p.elim
    | some ys =>
      rw [e] at p
      simp only at p
      split at p
      · cases e2 : atW i ys.length with
        | none => rw [e2] at p; exact p.elim
        | some j =>
          rw [e2] at p
          simp only at p
          cases e3 : ys[j]? with
          | none => rw [e3] at p; exact p.elim
          | some r =>
            rw [e3] at p
            simp only at p
            split at p
            · rename_i hb
              cases rr with | cons h1 rr => cases rr with | cons h2 rr =>
              cases rr
              cases h2 with | v h2 =>
              cases h2
              obtain ⟨a, vs, rfl, qa, q, l, r1⟩ := box_lst b h1 (boxL_some e)
              obtain ⟨y, e4, hy⟩ := r1.get e3
              rw [r1.length] at e2
              exact mt_popAt pins s σ H _ _ v us Q I rx rv ⟨a, vs, i, j, y, rfl, rfl, q, hb.1, hb.2, atW_seq e2, e4, put_list b qa (Nat.le_trans (len_erase vs j) l) (r1.eraseIdx j) hy p⟩
            · exact p.elim
      · exact p.elim
  · exact p.elim
theorem mo_clear : MtO X ca "list.clear" opClear := by
  intro pins s σ H x xs v us Q I rx rv ⟨g, bx, rs, b, rr, p⟩
  unfold opClear at p
  split at p
  · rename_i n
    cases e : boxL bx n with
    | none => rw [e] at p; exact p.elim
    | some ys =>
      rw [e] at p
      cases rr with | cons h1 rr =>
      cases rr
      obtain ⟨a, vs, rfl, qa, q, l, r1⟩ := box_lst b h1 (boxL_some e)
      exact mt_clear pins s σ H _ _ v us Q I rx rv ⟨a, vs, rfl, rfl, q, put_list b qa (Nat.zero_le _) .nil (.v .non) p⟩
  · exact p.elim
theorem noX_append : NoX opAppend := by
  intro rs bx w bx' h
  unfold opAppend at h
  repeat' split at h
  all_goals first
    | cases h
    | exact noX_putB h
theorem noX_extend : NoX opExtend := by
  intro rs bx w bx' h
  unfold opExtend at h
  repeat' split at h
  all_goals first
    | cases h
    | exact noX_putB h
theorem noX_pop : NoX opPop := by
  intro rs bx w bx' h
  unfold opPop at h
  repeat' split at h
  all_goals first
    | cases h
    | exact noX_putB h
theorem noX_popAt : NoX opPopAt := by
  intro rs bx w bx' h
  unfold opPopAt at h
  repeat' split at h
  all_goals first
    | cases h
    | exact noX_putB h
theorem noX_clear : NoX opClear := by
  intro rs bx w bx' h
  unfold opClear at h
  repeat' split at h
  all_goals first
    | cases h
    | exact noX_putB h
end
end AM
/-! text AmE -/
set_option Elab.async false
set_option linter.all false
set_option maxRecDepth 100000
set_option maxHeartbeats 2000000
/-! AmE: dicts made: {}, {k: v, ..}, {k: v for ..}. -/
namespace AM
open PySem PySem.Spec PyProof.Rows L2

section
variable {X : Cx} {ca : Ca} {pins : List (Addr × Obj)} {σ : L2.St} {H : Hp} {s : Shared} {Z : Addr → Prop} {a : Addr} {ks : List W} {xv : List V} {o : Obj} {k : W} {kv : V} {u : Value} {A : Around} {E : Value → Shared → Prop}
/-- a key put, by the store itself -/
theorem d_store {v : V} {r : Value} {Q : Unit → Shared → Prop} (hu : A.units + 10 < cLine) (I : Inv X pins σ H s) (p : H a = some (pinO a o)) (D : DAt (fx X ca) Z H a ks xv o) (kf : keyFor ks k = true) (rk : RW (fx X ca) Z H k kv) (ru : RelV kv u) (rv : RelV v r)
    (h : ∀ o' s', Inv X pins σ (upd H a (pinO a o')) s' → DNew (fx X ca) Z H (dSetK ks k) (dSetV ks xv k v) o' → Q () s') : wpAny (model X.prog X.w) A (dictSet a u r) Q E s := by
  have ho := d_obj I (.inl p)
  obtain ⟨kb, ka⟩ := keyFor_all D.kind kf
  cases t : k.isT with
  | false =>
    have hs : ∀ k' ∈ ks, keyB k' = true ∧ k'.isT = false := fun k' m => ⟨(ka k' m).1, (ka k' m).2.trans t⟩
    obtain ⟨kvs, h1, h2, h3, h4⟩ := D.pairs ho hs
    refine wpAny_dictSet_pairs (hsz := by rw [h4]; exact D.len) (keyIs_of rk ru kb t) h1 fun h' dd hs' => ?_
    obtain ⟨q, es, ep, hq, q1, q2, q3, q4, q5⟩ := dd
    obtain ⟨e1, e2⟩ := stored_simple kb t rv hs h2 h3 D.nd
    refine h q _ (d_wrote I p hs' hq) ⟨q1, es, ep, q2, ?_⟩
    rw [← e1]
    exact RD.of_simple q4 (fun e m => q3 e (by simpa using m)) e2
  | true =>
    obtain ⟨xs, h1, h2, h4⟩ := D.nested I ho fun k' m => ⟨(ka k' m).1, (ka k' m).2.trans t⟩
    obtain ⟨b, rfl⟩ := key_ref rk t
    cases ru
    obtain ⟨n, e, dd⟩ := keyB_nk kb
    refine wpAny_dictSet_heap (knd := nestedKind X.prog X.w) (hsz := by rw [h4]; exact D.len) (show A.units + 8 < cLine by omega) (show (nestedKind X.prog X.w).is s.heap n b from ⟨rk.nested I e rfl, dd⟩) h1 fun h' d' hs' => ?_
    obtain ⟨q, es, ep, hq, q1, q2, q3, _, q5⟩ := d'
    refine h q _ (d_wrote I p hs' hq) ⟨q1, es, ep, q2, ?_⟩
    rw [q3]
    exact (h2.stored e dd rk rv D.nd).rd
end
/-- an empty dict just laid -/
abbrev emptyD : Obj := { cls := .type "dict", data := .dict #[] }
theorem emptyD_at {F : Fx} {Z : Addr → Prop} {H : Hp} {a : Addr} (h : (a == sysModules) = false) : DAt F Z H a [] [] emptyD :=
  ⟨h, ⟨rfl, rfl, rfl⟩, ⟨#[], 0, rfl, .nil⟩, Nat.zero_le _, List.nodup_nil, ⟨fun _ m => (nomatch m), .inl fun _ m => (nomatch m)⟩⟩
section
variable {F : Fx} {g : Gd} {bx bx' : Bx} {H H' : Hp} {D : Addr}
/-- a new dict at p, frozen or a box -/
theorem mkD_ok {m : Bool} {ks : List W} {rs : List R} {xv : List V} {o : Obj} {Q : VK} {p : Addr} (b : BxOk F g bx H) (hp : H p = none) (DD : DAt F g.Z H p ks xv o) (r : RRs F g H rs xv) (h : PostO F g H Q (mkD m ks rs bx)) : Q (.ref p) (upd H p (pinO p o)) := by
  obtain ⟨es, ep, hd, rd⟩ := DD.dat
  unfold mkD at h
  split at h
  · cases m with
    | true =>
      simp only [if_true] at h
      obtain ⟨x, b'⟩ := b.boxed (o := pinO p o) (b := .dct ks rs) hp fun x => .dct upd_same DD.sm DD.ex hd DD.len (rd.mono x.z fun a z => x.zk a z) (r.mono x) DD.nd DD.kind
      refine h _ _ _ x b' (.r ?_)
      show (g.al ++ [p])[bx.length]? = some p
      rw [b.len]
      simp
    | false =>
      simp only [Bool.false_eq_true, if_false] at h
      cases e : AM.vals rs with
      | none => rw [e] at h; exact h.elim
      | some ws =>
        rw [e] at h
        obtain ⟨x, b'⟩ := b.frozen (o := pinO p o) hp
        exact h _ _ _ x b' (.v (.dct (.inl ⟨.inr rfl, upd_same⟩) DD.sm DD.ex hd DD.len (rd.mono x.z fun a z => x.zk a z) ((r.vals e).mono x.z fun a z => x.zk a z) DD.nd DD.kind))
  · exact h.elim
end
/-- what a turn of the comprehension is to reach by the store of a pair -/
def Sto (F : Fx) (D : Addr) (y z : V) (H : Hp) (Nx : Hp → Prop) : Prop := ∃ Z ks xv o k, H D = some (pinO D o) ∧ DAt F Z H D ks xv o ∧ keyFor ks k = true ∧ RW F Z H k y ∧ ks.length < sizeLine ∧ ∀ o', DNew F Z H (dSetK ks k) (dSetV ks xv k z) o' → Nx (upd H D (pinO D o'))
def tDcG (F : Fx) (wi : TI) (g : TG) (tt : TT) (tk tv : TE) (vs : List Nat) : TE := fun σ H Q => wi σ H fun J H1 => ∀ D, H1 D = none → (D == sysModules) = false → ∃ Wv : Nat → Nat → Hp → Prop, (∃ m, Wv 0 m (upd H1 D (pinO D emptyD))) ∧ ∀ i m H, Wv i m H →
  (J.stop i H ∧ Q (.ref D) H) ∨ (J.go i H ∧ ∃ Nx : Hp → Prop, (∀ H', Nx H' → ∃ m', m' < m ∧ Wv (i + 1) m' H') ∧ ∀ x H', J.yld i H x H' → g x (wipe σ vs) H' fun σ2 H2 => wipe σ2 vs = wipe σ vs ∧ tt σ2 H2 fun b H3 =>
    if b = true then tk σ2 H3 fun y H4 => tv σ2 H4 fun z H5 => Sto F D y z H5 Nx else Nx H3)
section
variable {X : Cx} {ca : Ca}
theorem dc_gen {pins : List (Addr × Obj)} {s : Shared} {σ : L2.St} {H : Hp} {Q : VK} {kx vx tg iter : Expr} {ifs : List Expr} {scope : Scope} {own : List (Str × Nat)} {pos pos' : Pos} {wi : TI} {g : TG} {tt : TT} {tk tv : TE} {use : Option (Value → Sem Unit)} {Qf : Value → Shared → Prop}
    (hu : X.A.units + 10 < cLine) (hc : X.calm = true) (hN : X.N.Nodup) (I : Inv X pins σ H s) (hi : PI X tg iter wi) (ok : BlkOk X.N X.env.scope scope own)
    (hg : ∀ (s : Shared) (H : Hp) (C : Addr) (cl : List (Str × Addr)) (fp : List Addr), PG (X.blk s H scope (compEnvC scope cl C X.env) fp) tg g) (ht : ∀ (s : Shared) (H : Hp) (C : Addr) (cl : List (Str × Addr)) (fp : List Addr), PTs (X.blk s H scope (compEnvC scope cl C X.env) fp) ifs tt)
    (hk : ∀ (s : Shared) (H : Hp) (C : Addr) (cl : List (Str × Addr)) (fp : List Addr), PE (X.blk s H scope (compEnvC scope cl C X.env) fp) kx tk) (he : ∀ (s : Shared) (H : Hp) (C : Addr) (cl : List (Str × Addr)) (fp : List Addr), PE (X.blk s H scope (compEnvC scope cl C X.env) fp) vx tv)
    (hs : ∀ x, foldedSetIterable iter X.env x = pure x) (h : tDcG (fx X ca) wi g tt tk tv (own.map (·.2)) σ H Q)
    (hRR : ∀ D C s' m H', Inv X pins σ H' s' → Q (.ref D) H' → s'.heap.Ns C m → FpOk X pins H' C → compPost (model X.prog X.w) X.A X.xe use Qf (.ref D) C (.ok .next) s') :
    wpAny (model X.prog X.w) X.A (comprehension (.DictComp kx vx [⟨tg, iter, ifs, 0⟩] scope pos) scope X.env pos' newDict false (eval iter X.env) use) Qf X.xe s := by
  have free : ∀ y ∈ scope.names, y.2 = .free → ∃ c, X.env.cells.lookup y.1 = some c := fun y hy e => (ok.free y hy e).elim (fun k => I.ok.has _ (.inl k)) fun k => I.ok.has _ (.inr k)
  refine wpAny_comprehension_free (use := use) rfl hs (closure_ok free) ok.kind (fun y hy e => by rw [ok.uniq y hy, e]) (thn (hi.run pins s σ H _ I h) fun xv t1 hx => thn hx fun itv t2 hx2 => ?_)
  obtain ⟨it, fp, tn, J, H2, e, I2, T, st2, f2, q⟩ := hx2
  subst e
  refine wpAny_newObj_type (newEnv_comp ?_)
  obtain ⟨D, hD⟩ : ∃ D, D = t2.heap.objs.size := ⟨_, rfl⟩
  have hDn : H2 D = none := I2.hok.fresh (by rw [hD]; exact Nat.le_refl _)
  have hsm : (D == sysModules) = false := beq_eq_false_iff_ne.mpr (by rw [hD]; exact Ne.symm (Nat.ne_of_lt I2.big))
  obtain ⟨Wv, ⟨m0, w0⟩, turn⟩ := q D hDn hsm
  obtain ⟨t3, ht3⟩ : ∃ t3 : Shared, t3 = { t2 with heap := t2.heap.push emptyD } := ⟨_, rfl⟩
  obtain ⟨H3, hH3⟩ : ∃ H3, H3 = upd H2 D (pinO D emptyD) := ⟨_, rfl⟩
  have at3 : t3.heap.get? D = some emptyD := by rw [ht3, hD]; exact Heap.get?_push_size _ rfl
  have I3 : Inv X pins σ H3 t3 := by
    rw [hH3, ht3]
    refine I2.laid (t' := t2.toks) (fun b o e => Heap.get?_push_of_some _ e) (by rw [hD]; exact Nat.le_refl _) ?_
    have z : (t2.heap.push emptyD).get? D = some emptyD := by rw [hD]; exact Heap.get?_push_size _ rfl
    exact ⟨z, ⟨_, z⟩, fun h1 h2 p k => k _ p⟩
  have heap3 : t3.heap = t2.heap.push emptyD := by rw [ht3]
  have small : ∀ b ∈ fp, b < t2.heap.objs.size := fun b hb => (T.obj _ _ st2 b hb).elim fun o z => Heap.lt_size z.1
  have f3 : ∀ b ∈ fp, FpOk X pins H3 b ∧ b < t3.heap.objs.size := fun b hb => by
    have lt := small b hb
    refine ⟨⟨?_, (f2 b hb).2⟩, by rw [heap3, Heap.size_push]; exact Nat.lt_succ_of_lt lt⟩
    rw [hH3, upd_ne (by rw [hD]; exact Nat.ne_of_lt lt)]
    exact (f2 b hb).1
  have st3 : tn 0 t3.heap := T.keep _ _ _ st2 fun b _ o e => by rw [heap3]; exact Heap.get?_push_of_some _ e
  have I4 := block_start I3 ok hN f3
  obtain ⟨ce, hce⟩ : ∃ ce, ce = compEnvC scope (cellsFrom (t3.heap.objs.size + 1) scope.names (cloFrom X.env.cells scope.names [])) t3.heap.objs.size X.env := ⟨_, rfl⟩
  have cL : ce.locals = t3.heap.objs.size := by rw [hce]; rfl
  have bg : PG (X.blk t3 H3 scope ce fp) tg g := by rw [hce]; exact hg _ _ _ _ _
  have bt : PTs (X.blk t3 H3 scope ce fp) ifs tt := by rw [hce]; exact ht _ _ _ _ _
  have bk : PE (X.blk t3 H3 scope ce fp) kx tk := by rw [hce]; exact hk _ _ _ _ _
  have bv : PE (X.blk t3 H3 scope ce fp) vx tv := by rw [hce]; exact he _ _ _ _ _
  rw [← hce] at I4
  rw [← hH3] at w0
  have go : codeAny (model X.prog X.w) X.A (.compStart (.DictComp kx vx [⟨tg, iter, ifs, 0⟩] scope pos) 0 (.ref it) (.ref D) ce) (compPost (model X.prog X.w) X.A X.xe use Qf (.ref D) t3.heap.objs.size) { t3 with heap := pushCells (t3.heap.push emptyD) scope.names } := by
    obtain ⟨t4, ht4⟩ : ∃ t4 : Shared, t4 = { t3 with heap := pushCells (t3.heap.push emptyD) scope.names } := ⟨_, rfl⟩
    have J4 : Inv (X.blk t3 H3 scope ce fp) [] (wipe σ (own.map (·.2))) H3 t4 := by rw [ht4]; exact I4
    rw [← ht4]
    have st4 : tn 0 t4.heap := T.keep _ _ _ st3 fun b _ o e => by rw [ht4]; exact pushCells_keeps _ _ _ _ (Heap.get?_push_of_some _ e)
    have still : ∀ {σ' : L2.St} {H' : Hp} {s' : Shared}, Inv (X.blk t3 H3 scope ce fp) [] σ' H' s' → (∀ b ∈ fp, H' b = none) → ∀ b ∈ fp, FpOk (X.blk t3 H3 scope ce fp) [] H' b := fun {σ' H' s'} I' hn b hb =>
      ⟨hn b hb, (I'.ok.exf b hb).1, I'.ok.exfs b hb, .inl hb, fun x c e => (I'.ok.exf b hb).2 x c e, fun p hp => absurd (show p ∈ ([] : List (Addr × Obj)) ++ [] from hp) (by simp)⟩
    have loop : codeAny (model X.prog X.w) X.A (.compLoop (.DictComp kx vx [⟨tg, iter, ifs, 0⟩] scope pos) 0 (.ref it) (.ref D) ce) (compPost (model X.prog X.w) X.A X.xe use Qf (.ref D) t3.heap.objs.size) t4 := by
      refine compLoop_anyD (fun n s' => ∃ i H', Inv (X.blk t3 H3 scope ce fp) [] (wipe σ (own.map (·.2))) H' s' ∧ tn i s'.heap ∧ (∀ b ∈ fp, H' b = none) ∧ Wv i n H') ?_ m0 ⟨0, H3, J4, st4, fun b hb => (f3 b hb).1.1, w0⟩
      rintro n t5 ⟨i, H5, I5, st5, n5, w5⟩
      rcases turn i n H5 w5 with ⟨stop, qq⟩ | ⟨goi, Nx, hNx, step⟩
      · refine thnF (T.done (X.blk t3 H3 scope ce fp) rfl rfl rfl hc i [] t5 _ H5 (fun _ _ => False) I5 (still I5 n5) st5 stop) fun r t6 ⟨hr, I6⟩ => ?_
        subst hr
        have I7 : Inv X pins σ H5 t6 := I3.call' (ch := fp) I6.os I6.base I6.hok I6.bare fun b hb => ⟨(f3 b hb).1.2.2.2.1, (f3 b hb).1.2.1, (f3 b hb).1.2.2.2.2.1, (f3 b hb).1.2.2.2.2.2⟩
        have nC : H5 t3.heap.objs.size = none := by
          have z : H5 ce.locals = none := I6.free
          rwa [cL] at z
        obtain ⟨m, hn, _⟩ := I6.loc
        have hn' : t6.heap.Ns ce.locals m := hn
        rw [cL] at hn'
        exact hRR D t3.heap.objs.size t6 m H5 I7 qq hn' (I3.fpOk (Nat.le_refl _) nC)
      · refine thnF (T.item (X.blk t3 H3 scope ce fp) rfl rfl rfl hc i [] t5 _ H5 (fun _ _ => False) I5 (still I5 n5) st5 goi) fun r t6 ⟨u, hr, h6⟩ => ?_
        subst hr
        refine thnF h6 fun _ t7 ⟨x, H7, I7, r7, y7, st7, n7⟩ => ?_
        have P7 := I7.pinned (still I7 n7) (T.obj _ _ st7)
        refine thnF (bg.run _ t7 _ H7 x u _ P7 r7 (step x H7 y7)) fun _ t8 ⟨σ8, H8, I8, hw8, q8⟩ => ?_
        refine thnF (bt.run _ t8 σ8 H8 _ I8 q8) fun b t9 ⟨H9, I9, q9⟩ => ?_
        have fin : ∀ {s' : Shared} {H' : Hp}, Inv (X.blk t3 H3 scope ce fp) ([] ++ pinsAt fp t7.heap) σ8 H' s' → Nx H' → ∃ m, m < n ∧ ∃ i H', Inv (X.blk t3 H3 scope ce fp) [] (wipe σ (own.map (·.2))) H' s' ∧ tn i s'.heap ∧ (∀ b ∈ fp, H' b = none) ∧ Wv i m H' := fun {s' H'} I' nx => by
          obtain ⟨m', hm, w'⟩ := hNx H' nx
          have held : ∀ b ∈ fp, ∀ o, t7.heap.get? b = some o → s'.heap.get? b = some o ∧ H' b = none := fun b hb o e =>
            (I'.pin (b, o) (List.mem_append_right _ (List.mem_append_right _ (mem_pinsAt hb e)))).imp id fun z => z.1
          refine ⟨m', hm, i + 1, H', (I'.unpinned (pins := [])).weak (by rw [← hw8, wipe_length]) (fun j v e => ?_), T.keep _ _ _ st7 fun b hb o e => (held b hb o e).1, fun b hb => ?_, w'⟩
          · rw [← hw8] at e
            exact (wipe_some e).1
          · obtain ⟨o, e, _⟩ := T.obj _ _ st7 b hb
            exact (held b hb o e).2
        cases b with
        | false =>
          simp only [Bool.false_eq_true, if_false] at q9 ⊢
          exact fin I9 q9
        | true =>
          simp only [if_true] at q9 ⊢
          refine thnF (bk.run _ t9 σ8 H9 _ I9 q9) fun z1 t10 ⟨yk, H10, I10, r10, q10⟩ => ?_
          refine thnF (bv.run _ t10 σ8 H10 _ I10 q10) fun z2 t11 ⟨yv, H11, I11, r11, Z, ks, xv, o, k, hp, DD, kf, rk, hl, nx⟩ => ?_
          exact d_store (X := X.blk t3 H3 scope ce fp) (ca := ca) hu I11 hp DD kf rk r10 r11 fun o' t12 I12 nw => fin I12 (nx o' nw)
    exact codeAny_compStart_dict loop (T.self X.A 0 _ _ _ st4 loop)
  rw [hce, hD, ht3] at go
  exact go
end
end AM
/-! text AmQ -/
set_option Elab.async false
set_option linter.all false
set_option maxRecDepth 100000
set_option maxHeartbeats 2000000
/-! AmQ: errors as values. -/
namespace AM
open PySem PySem.Spec PyProof.Rows L2

section
variable {X : Cx} {ca : Ca} {c : Nat} {x : Str} {e : Expr} {m : E} {p pos : Pos}
/-- an error made is a value that stays tracked -/
theorem pe_mk {t : L2.St → Hp → XK → Prop} (h : PMk X e t) : PE X e (fun σ H Q => t σ H fun cls d H1 => ∃ C, cls = .ref C ∧ ∀ a, H1 a = none → Q (.ref a) (upd H1 a (exnO a C d))) := by
  refine ⟨fun pins s σ H Q I h' => wpAny_mono (h pins s σ H _ I h') (fun u s1 hu => ?_) fun _ _ z => z⟩
  obtain ⟨a, oe, vs, sI, H1, cls, d, rfl, J, k, hne, ha, hz, hd, h1, na, os, ag, r, C, rfl, q⟩ := hu
  have J2 := J.laidN (t' := s1.toks) (o := exnO a C d) k hne na (exn_ok ha hz.1 hz.2 hd)
  exact ⟨.ref a, _, J2.landed (B := s1.heap) (s' := s1) (fun _ _ e _ => e) (fun _ _ e => e) (fun b o e _ => ⟨o.slots, e⟩) os ag, rfl, q a na⟩
theorem noX_exn {c : Nat} : NoX (opExn c) := by
  intro rs bx w bx' h
  unfold opExn at h
  split at h <;> cases h
theorem noX_exn1 {c : Nat} : NoX (opExn1 c) := by
  intro rs bx w bx' h
  unfold opExn1 at h
  split at h <;> cases h
theorem noX_line : NoX opLine := by
  intro rs bx w bx' h
  unfold opLine at h
  split at h <;> cases h
/-- C(e), as a value -/
theorem se_exn (Ex : ExC0 X.K (ca c)) (gC : X.mg x = some (.ref (ca c))) (hg : Gl X x) (hdb : (x == ("__debug__" : Str)) = false) (hs : starEach [e] X.env = (false, eval e X.env) :: starEach [] X.env) (he : SE X ca m e) :
    SE X ca (eOp [m] (opExn c)) (.Call (.Name x p) [e] [] pos) := ⟨fun Wx tk =>
  PE.imp (pe_mk (SkE.pmk_own1 PySem.F.excBase_ValueError Ex.q gC Ex.kp (raises_own Ex.sb Ex.ty) hg (he.pe Wx tk) hs hdb)) fun σ H Q h => by
    have h := tM1 noX_exn h
    refine tM_imp h fun v H1 ⟨g, bx, rs, b, rr, q⟩ => ⟨ca c, rfl, fun a na => ?_⟩
    obtain ⟨r, rfl, r2⟩ := rr.one
    cases r2 with
    | v rw' =>
      obtain ⟨x, b'⟩ := b.frozen (o := exnO a (ca c) none) na
      exact q _ _ _ x b' (.v (.exn (.inr rfl) upd_same))
    | r _ => exact q.elim⟩
theorem noX_ln {c : Nat} : NoX (opLn c) := by
  intro rs bx w bx' h
  unfold opLn at h
  split at h
  · split at h <;> cases h
  · cases h
theorem se_line (T : XfC X.K (ca c)) (hno : PySem.W.findIn X.K (.ref (ca c)) "line" = some none) (he : SE X ca m e) (hb : attributeBase e "line" X.env (eval e X.env) = eval e X.env) : SE X ca (eOp [m] (opLn c)) (.Attribute e "line" pos) := ⟨fun Wx tk => by
  refine ⟨fun pins s σ H Q I h => ?_⟩
  refine attr_of hb (thn ((he.pe Wx tk).run pins s σ H _ I (tM1 noX_ln h)) fun u s1 hh => ?_)
  obtain ⟨x, H1, I1, rx, g, bx, rs, b, rr, q⟩ := hh
  obtain ⟨r, rfl, r2⟩ := rr.one
  cases r2 with
  | r _ => exact q.elim
  | v r3 =>
    cases r3 with
    | @exn1 c2 a d i z1 e1 z2 e2 =>
      have q : PostO (fx X ca) g H1 Q (if c2 = c then .ok (.v (.int i)) bx else .stuck) := q
      by_cases hc : c2 = c
      · subst hc
        rw [if_pos rfl] at q
        obtain rfl : u = Value.ref a := rx
        obtain ⟨⟨oe, vs, ho, hcl, hdi, hda⟩, _, _⟩ := I1.hok a _ e1
        have hx : ObjOk X.prog X.w H1 s1.heap d (.xd [(("line" : Str), .int i)]) := I1.hok d _ e2
        obtain ⟨mA, hns, hr⟩ := hx
        obtain ⟨od, hod, hl⟩ := lookIn_ns hns
        obtain ⟨u2, hu, ru⟩ := RelO.some_of (v := .int i) (o := mA "line") (hr "line")
        have J : PySem.W.InstAt s1.heap a oe (ca c2) (some od) := ⟨ho, hcl, by unfold PySem.W.notCls; rw [hda] <;> rfl, by rw [hdi]; exact hod⟩
        exact HandSPX.exc_get I1.kIn J T.ga T.gg T.exC (PySem.W.findObj_own T.hdC hno rfl (by rw [hl, hu])) (handed_of ru) ⟨_, H1, I1.tok _, ru, q g H1 (.int i) (Ext.refl g H1) b (.v (.int i))⟩
      · rw [if_neg hc] at q
        exact q.elim
    | _ => exact q.elim⟩
end
end AM
namespace AM
open PySem PySem.Spec PyProof.Rows L2
section
variable {P : Program} {w : World} {K : PySem.W.Frag} {mg : Str → Option Value} {base : Heap} {ca : Ca} {k c' : Nat} {N : List Str} {sc : Scope} {fs : Str → Bool} {X : Cx} {x : Str} {e : Expr} {m : E} {p pos : Pos}
theorem v_exn (c : Con P w K mg base k N sc fs X) (Ex : ExC0 K (ca c')) (hm : mg x = some (.ref (ca c'))) (g : glB sc x = true) (he : SE X ca m e) (hs : starEach [e] X.env = (false, eval e X.env) :: starEach [] X.env := by rfl) : SE X ca (eOp [m] (opExn c')) (.Call (.Name x p) [e] [] pos) := by
  have g2 := g
  simp only [glB, Bool.and_eq_true] at g2
  exact se_exn (by rw [c.frag]; exact Ex) (by rw [c.glo]; exact hm) (c.gl g) (nmB_ok g2.2).1 hs he
theorem v_and1 {a : Expr} {ma : E} (ha : SE X ca ma a) : SE X ca (eAnd [ma]) (.BoolOp .And [a] pos) := se_and1 ha
theorem v_or1 {a : Expr} {ma : E} (ha : SE X ca ma a) : SE X ca (eOr [ma]) (.BoolOp .Or [a] pos) := se_and1 ha
theorem v_wand1 {a : Expr} {ma : E} (ha : ST X ca ma a) : SW X ca (eAnd [ma]) (.BoolOp .And [a] pos) := sw_and1 ha
theorem v_wor1 {a : Expr} {ma : E} (ha : ST X ca ma a) : SW X ca (eOr [ma]) (.BoolOp .Or [a] pos) := sw_or1 ha
theorem v_line (c : Con P w K mg base k N sc fs X) (T : XfC K (ca c') ∧ PySem.W.findIn K (.ref (ca c')) "line" = some none) (he : SE X ca m e) (hb : attributeBase e "line" X.env (eval e X.env) = eval e X.env := by rfl) : SE X ca (eOp [m] (opLn c')) (.Attribute e "line" pos) :=
  se_line (by rw [c.frag]; exact T.1) (by rw [c.frag]; exact T.2) he hb
/-- a constant of the text -/
def ConstOk (K : PySem.W.Frag) (mg : Str → Option Value) (ca : Ca) (x : Str) (wv : W) : Prop := ∃ v u, mg x = some u ∧ RelV v u ∧ ∀ P w Z H, RW ⟨P, w, K, ca⟩ Z H wv v
theorem v_con {wv : W} (c : Con P w K mg base k N sc fs X) (h : ConstOk K mg ca x wv) (g : glB sc x = true) : SE X ca (eC wv) (.Name x pos) := by
  obtain ⟨v, u, h1, h2, h3⟩ := h
  exact v_glob c g h1 h2 (h3 P w)
theorem noX_x1 {F : Fn} {n c : Nat} : NoX (opX1 F n c) := by
  intro rs bx w bx' h
  unfold opX1 at h
  split at h
  · split at h
    · split at h <;> cases h
    · cases h
  · cases h
/-- what C(i) must do -/
def Make1 (X : Cx) (C : Addr) : Prop := ∀ (pins : List (Addr × Obj)) (σ : L2.St) (s : Shared) (H : Hp) (i : Int) (t : Tok) (Q : VK), i.natAbs.log2 < 1920 → Inv X pins σ H s →
  (∀ a d, H a = none → H d = none → d ≠ a → Q (.ref a) (upd (upd H d (.xd [(("line" : Str), .int i)])) a (exnO a C (some d)))) → wpAny (model X.prog X.w) X.A (call (.ref C) [.int i t]) (EP X pins σ Q) X.xe s
theorem tO_x1 {Fx' : Fx} {F : Fn} {n : Nat} {v : V} {H : Hp} {Q : VK} (h : tO Fx' (opX1 F n c') [v] H Q) : ∃ i, v = .int i ∧ i.natAbs.log2 < 1920 ∧ (∃ bx r bx', F n [.v (.int i)] bx = .ok r bx') ∧
    ∀ a d, H a = none → H d = none → d ≠ a → Q (.ref a) (upd (upd H d (.xd [(("line" : Str), .int i)])) a (exnO a (Fx'.ca c') (some d))) := by
  obtain ⟨g, bx, rs, b, rr, q⟩ := h
  obtain ⟨r, rfl, r2⟩ := rr.one
  cases r2 with
  | r _ => exact q.elim
  | v r3 =>
    cases r3 with
    | int i =>
      have q : PostO Fx' g H Q (if i.natAbs.log2 < 1920 then (match F n [.v (.int i)] bx with
        | .ok _ _ => .ok (.v (.exn c' [.int i])) bx
        | _ => .stuck) else .stuck) := q
      have hb : i.natAbs.log2 < 1920 := Classical.byContradiction fun z => by
        rw [if_neg z] at q
        exact q.elim
      rw [if_pos hb] at q
      cases e : F n [.v (.int i)] bx with
      | ok r1 bx1 =>
        rw [e] at q
        refine ⟨i, rfl, hb, ⟨bx, r1, bx1, e⟩, fun a d na nd ne => ?_⟩
        obtain ⟨x1, b1⟩ := b.frozen (o := .xd [(("line" : Str), .int i)]) nd
        have na1 : upd H d (.xd [(("line" : Str), .int i)]) a = none := by rw [upd_ne (Ne.symm ne)]; exact na
        obtain ⟨x2, b2⟩ := b1.frozen (o := exnO a (Fx'.ca c') (some d)) na1
        exact q _ _ _ (x1.trans x2) b2 (.v (.exn1 (.inr rfl) upd_same (.inl (.inr rfl)) (by rw [upd_ne ne]; exact upd_same)))
      | exc _ _ => rw [e] at q; exact q.elim
      | stuck => rw [e] at q; exact q.elim
    | _ => exact q.elim
/-- the class of errors whose __init__ keeps the line -/
structure X1Ok (P : Program) (w : World) (K : PySem.W.Frag) (mg : Str → Option Value) (base : Heap) (C : Addr) : Prop where
  kp : PySem.W.keepIn K (.ref C) = true
  make : ∀ X k N sc fs, Con P w K mg base (k + 1) N sc fs X → Make1 X C
theorem v_x1 {F : Fn} {n : Nat} (c : Con P w K mg base k N sc fs X) (hF : k = 0 → ∀ rs bx, F n rs bx = .stuck) (M : X1Ok P w K mg base (ca c')) (hm : mg x = some (.ref (ca c'))) (g : glB sc x = true) (he : SE X ca m e) (hs : starEach [e] X.env = (false, eval e X.env) :: starEach [] X.env := by rfl) :
    SE X ca (eOp [m] (opX1 F n c')) (.Call (.Name x p) [e] [] pos) := ⟨fun Wx tk => by
  have g2 := g
  simp only [glB, Bool.and_eq_true] at g2
  have hg := c.gl g
  have hdb := (nmB_ok g2.2).1
  refine ⟨fun pins s σ H Q I h => ?_⟩
  refine wpAny_Call_Name_kw (ld_glob I hg (by rw [c.glo]; exact hm) ?_ hdb)
  refine PySem.W.callWith_K (h₀ := X.base) I.ok.mod.kin (by rw [c.frag]; exact M.kp) ?_ hs (by rfl)
  rw [hs]
  show wpAny _ _ (spliced ((false, eval e X.env) :: backTo pos (starEach [] X.env))) _ _ s
  refine Calls.spliced_cons (thn ((he.pe Wx tk).run pins s σ H _ I (tM1 noX_x1 h)) fun u s1 ⟨v, H1, I1, r1, q1⟩ => ?_)
  refine Calls.spliced_nil ⟨I1.kIn, ?_⟩
  obtain ⟨i, rfl, hb, ⟨bx, r, bx', e1⟩, q⟩ := tO_x1 q1
  obtain ⟨t, rfl⟩ : ∃ t, u = Value.int i t := r1
  cases k with
  | zero =>
    rw [hF rfl] at e1
    cases e1
  | succ k => exact M.make X k N sc fs c pins σ s1 H1 i t Q hb I1 q⟩
/-- C(line=i) -/
def Make1K (X : Cx) (C : Addr) (nm : Str) : Prop := ∀ (pins : List (Addr × Obj)) (σ : L2.St) (s : Shared) (H : Hp) (i : Int) (t : Tok) (Q : VK), i.natAbs.log2 < 1920 → Inv X pins σ H s →
  (∀ a d, H a = none → H d = none → d ≠ a → Q (.ref a) (upd (upd H d (.xd [(("line" : Str), .int i)])) a (exnO a C (some d)))) → wpAny (model X.prog X.w) X.A (call (.ref C) [] [(nm, .int i t)]) (EP X pins σ Q) X.xe s
structure X1OkK (P : Program) (w : World) (K : PySem.W.Frag) (mg : Str → Option Value) (base : Heap) (C : Addr) (nm : Str) : Prop where
  kp : PySem.W.keepIn K (.ref C) = true
  make : ∀ X k N sc fs, Con P w K mg base (k + 1) N sc fs X → Make1K X C nm
theorem v_x1k {F : Fn} {n : Nat} {nm : Str} {kpos : Pos} (c : Con P w K mg base k N sc fs X) (hF : k = 0 → ∀ rs bx, F n rs bx = .stuck) (M : X1OkK P w K mg base (ca c') nm) (hm : mg x = some (.ref (ca c'))) (g : glB sc x = true) (he : SE X ca m e)
    (hall : (backToKw pos (keywordEach [⟨some nm, e, kpos⟩] X.env)).all (·.1.isSome) = true := by rfl) (hks : (backToKw pos (keywordEach [⟨some nm, e, kpos⟩] X.env)).filterMap (·.1) = [nm] := by rfl)
    (hpl : ((backTo pos (starEach [] X.env)).any (·.1) || (backToKw pos (keywordEach [⟨some nm, e, kpos⟩] X.env)).any (·.1.isNone)) = false := by rfl) :
    SE X ca (eOp [m] (opX1 F n c')) (.Call (.Name x p) [] [⟨some nm, e, kpos⟩] pos) := ⟨fun Wx tk => by
  have g2 := g
  simp only [glB, Bool.and_eq_true] at g2
  have hg := c.gl g
  have hdb := (nmB_ok g2.2).1
  refine ⟨fun pins s σ H Q I h => ?_⟩
  refine wpAny_Call_Name_kw (ld_glob I hg (by rw [c.glo]; exact hm) ?_ hdb)
  refine PySem.W.callWith_KW0 (h₀ := X.base) I.ok.mod.kin (by rw [c.frag]; exact M.kp) hall ?_ hpl
  refine thn ((pk_cons (he.pe Wx tk) pk_nil).run pos pins s σ H (fun zs H1 => ∃ i, zs = [.int i] ∧ i.natAbs.log2 < 1920 ∧ (∃ bx r bx', F n [.v (.int i)] bx = .ok r bx') ∧
    ∀ a d, H1 a = none → H1 d = none → d ≠ a → Q (.ref a) (upd (upd H1 d (.xd [(("line" : Str), .int i)])) a (exnO a (ca c') (some d)))) I (tM_imp (tM1 noX_x1 h) fun v H1 z => ?_)) fun ws s2 ⟨zs, H2, I2, rz, q2⟩ => ⟨I2.kIn, ?_⟩
  · obtain ⟨i, rfl, hb, z1, z2⟩ := tO_x1 z
    exact ⟨i, rfl, hb, z1, z2⟩
  · rw [hks]
    obtain ⟨i, rfl, hb, ⟨bx, r, bx', e1⟩, q⟩ := q2
    obtain ⟨u, rfl, t, rfl⟩ := vals1 rz
    cases k with
    | zero =>
      rw [hF rfl] at e1
      cases e1
    | succ k => exact M.make X k N sc fs c pins σ s2 H2 i t Q hb I2 q⟩
end
end AM
/-! text AmU1 -/
set_option Elab.async false
set_option linter.all false
set_option maxRecDepth 100000
set_option maxHeartbeats 2000000
/-! AmU1: sorted. -/
namespace AM
open PySem PySem.Spec PyProof.Rows L2

/-- the datum -/
def dt (w : W) : PyData := (W.toD w).getD .none
mutual
theorem toD_lay : ∀ {w : W}, w.lay = true → W.toD w = some (dt w)
  | .non, _ => rfl
  | .bl _, _ => rfl
  | .int _, _ => rfl
  | .str _, _ => rfl
  | .tup xs, h => by
    have e := toDs_lay (show W.lays xs = true from h)
    simp [dt, W.toD, e]
  | .lst xs, h => by
    have e := toDs_lay (show W.lays xs = true from h)
    simp [dt, W.toD, e]
  | .dct _ _, h => by simp [W.lay] at h
  | .ins _ _ _, h => by simp [W.lay] at h
  | .exn _ _, h => by simp [W.lay] at h
  | .scr _, h => by simp [W.lay] at h
theorem toDs_lay : ∀ {ws : List W}, W.lays ws = true → W.toDs ws = some (ws.map dt)
  | [], _ => rfl
  | x :: r, h => by
    simp only [W.lays, Bool.and_eq_true] at h
    simp [W.toDs, toD_lay h.1, toDs_lay h.2]
end
theorem dt_tup {xs : List W} (h : W.lays xs = true) : dt (.tup xs) = .tuple (xs.map dt) := by simp [dt, W.toD, toDs_lay h]
theorem dt_lst {xs : List W} (h : W.lays xs = true) : dt (.lst xs) = .list (xs.map dt) := by simp [dt, W.toD, toDs_lay h]
mutual
theorem dt_depth : ∀ {w : W}, w.lay = true → (dt w).depth ≤ w.dp
  | .non, _ => by simp [dt, W.toD, PyData.depth]
  | .bl _, _ => by simp [dt, W.toD, PyData.depth]
  | .int _, _ => by simp [dt, W.toD, PyData.depth]
  | .str _, _ => by simp [dt, W.toD, PyData.depth]
  | .tup xs, h => by
    have e := dt_depths (show W.lays xs = true from h)
    rw [dt_tup h]
    simp [PyData.depth, W.dp]
    omega
  | .lst xs, h => by
    have e := dt_depths (show W.lays xs = true from h)
    rw [dt_lst h]
    simp [PyData.depth, W.dp]
    omega
  | .dct _ _, h => by simp [W.lay] at h
  | .ins _ _ _, h => by simp [W.lay] at h
  | .exn _ _, h => by simp [W.lay] at h
  | .scr _, h => by simp [W.lay] at h
theorem dt_depths : ∀ {ws : List W}, W.lays ws = true → PyData.depthAll (ws.map dt) ≤ W.dps ws
  | [], _ => by simp [PyData.depthAll, W.dps]
  | x :: r, h => by
    simp only [W.lays, Bool.and_eq_true] at h
    have e1 := dt_depth h.1
    have e2 := dt_depths h.2
    simp [PyData.depthAll, W.dps]
    omega
end
mutual
theorem dt_alike : ∀ {a b : W}, a.lay = true → b.lay = true → W.alk a b = true → PySem.W.alike (dt a) (dt b) = true
  | .bl _, .bl _, _, _, _ => by simp [dt, W.toD, PySem.W.alike]
  | .int _, .int _, _, _, _ => by simp [dt, W.toD, PySem.W.alike]
  | .str _, .str _, _, _, _ => by simp [dt, W.toD, PySem.W.alike]
  | .tup xs, .tup ys, h1, h2, h => by
    rw [dt_tup h1, dt_tup h2]
    simp only [PySem.W.alike]
    exact dt_alikes h1 h2 (by simpa [W.alk] using h)
  | .lst xs, .lst ys, h1, h2, h => by
    rw [dt_lst h1, dt_lst h2]
    simp only [PySem.W.alike]
    exact dt_alikes h1 h2 (by simpa [W.alk] using h)
  | .non, b, _, _, h => by cases b <;> simp [W.alk] at h
  | .dct _ _, b, _, _, h => by cases b <;> simp [W.alk] at h
  | .ins _ _ _, b, _, _, h => by cases b <;> simp [W.alk] at h
  | .exn _ _, b, _, _, h => by cases b <;> simp [W.alk] at h
  | .scr _, b, _, _, h => by cases b <;> simp [W.alk] at h
  | .bl _, .non, _, _, h => by simp [W.alk] at h
  | .bl _, .int _, _, _, h => by simp [W.alk] at h
  | .bl _, .str _, _, _, h => by simp [W.alk] at h
  | .bl _, .tup _, _, _, h => by simp [W.alk] at h
  | .bl _, .lst _, _, _, h => by simp [W.alk] at h
  | .bl _, .dct _ _, _, _, h => by simp [W.alk] at h
  | .bl _, .ins _ _ _, _, _, h => by simp [W.alk] at h
  | .bl _, .exn _ _, _, _, h => by simp [W.alk] at h
  | .bl _, .scr _, _, _, h => by simp [W.alk] at h
  | .int _, .non, _, _, h => by simp [W.alk] at h
  | .int _, .bl _, _, _, h => by simp [W.alk] at h
  | .int _, .str _, _, _, h => by simp [W.alk] at h
  | .int _, .tup _, _, _, h => by simp [W.alk] at h
  | .int _, .lst _, _, _, h => by simp [W.alk] at h
  | .int _, .dct _ _, _, _, h => by simp [W.alk] at h
  | .int _, .ins _ _ _, _, _, h => by simp [W.alk] at h
  | .int _, .exn _ _, _, _, h => by simp [W.alk] at h
  | .int _, .scr _, _, _, h => by simp [W.alk] at h
  | .str _, .non, _, _, h => by simp [W.alk] at h
  | .str _, .bl _, _, _, h => by simp [W.alk] at h
  | .str _, .int _, _, _, h => by simp [W.alk] at h
  | .str _, .tup _, _, _, h => by simp [W.alk] at h
  | .str _, .lst _, _, _, h => by simp [W.alk] at h
  | .str _, .dct _ _, _, _, h => by simp [W.alk] at h
  | .str _, .ins _ _ _, _, _, h => by simp [W.alk] at h
  | .str _, .exn _ _, _, _, h => by simp [W.alk] at h
  | .str _, .scr _, _, _, h => by simp [W.alk] at h
  | .tup _, .non, _, _, h => by simp [W.alk] at h
  | .tup _, .bl _, _, _, h => by simp [W.alk] at h
  | .tup _, .int _, _, _, h => by simp [W.alk] at h
  | .tup _, .str _, _, _, h => by simp [W.alk] at h
  | .tup _, .lst _, _, _, h => by simp [W.alk] at h
  | .tup _, .dct _ _, _, _, h => by simp [W.alk] at h
  | .tup _, .ins _ _ _, _, _, h => by simp [W.alk] at h
  | .tup _, .exn _ _, _, _, h => by simp [W.alk] at h
  | .tup _, .scr _, _, _, h => by simp [W.alk] at h
  | .lst _, .non, _, _, h => by simp [W.alk] at h
  | .lst _, .bl _, _, _, h => by simp [W.alk] at h
  | .lst _, .int _, _, _, h => by simp [W.alk] at h
  | .lst _, .str _, _, _, h => by simp [W.alk] at h
  | .lst _, .tup _, _, _, h => by simp [W.alk] at h
  | .lst _, .dct _ _, _, _, h => by simp [W.alk] at h
  | .lst _, .ins _ _ _, _, _, h => by simp [W.alk] at h
  | .lst _, .exn _ _, _, _, h => by simp [W.alk] at h
  | .lst _, .scr _, _, _, h => by simp [W.alk] at h
theorem dt_alikes : ∀ {a b : List W}, W.lays a = true → W.lays b = true → W.alks a b = true → PySem.W.alikeAll (a.map dt) (b.map dt) = true
  | [], _, _, _, _ => by simp [PySem.W.alikeAll]
  | _ :: _, [], _, _, _ => by simp [PySem.W.alikeAll]
  | x :: xs, y :: ys, h1, h2, h => by
    simp only [W.lays, W.alks, Bool.and_eq_true] at h1 h2 h
    simp [PySem.W.alikeAll, dt_alike h1.1 h2.1 h.1, dt_alikes h1.2 h2.2 h.2]
end
mutual
theorem dt_eqv : ∀ {a b : W}, a.lay = true → b.lay = true → W.alk a b = true → PyData.eqv (dt a) (dt b) = W.pyeq a b
  | .bl x, .bl y, _, _, _ => by simp [dt, W.toD, PyData.eqv, W.pyeq]
  | .int x, .int y, _, _, _ => by simp [dt, W.toD, PyData.eqv, W.pyeq]
  | .str x, .str y, _, _, _ => by simp [dt, W.toD, PyData.eqv, W.pyeq]
  | .tup xs, .tup ys, h1, h2, h => by
    rw [dt_tup h1, dt_tup h2]
    simp only [PyData.eqv, W.pyeq]
    exact dt_eqvs h1 h2 (by simpa [W.alk] using h)
  | .lst xs, .lst ys, h1, h2, h => by
    rw [dt_lst h1, dt_lst h2]
    simp only [PyData.eqv, W.pyeq]
    exact dt_eqvs h1 h2 (by simpa [W.alk] using h)
  | .non, b, _, _, h => by cases b <;> simp [W.alk] at h
  | .bl _, .non, _, _, h => by simp [W.alk] at h
  | .bl _, .int _, _, _, h => by simp [W.alk] at h
  | .bl _, .str _, _, _, h => by simp [W.alk] at h
  | .bl _, .tup _, _, _, h => by simp [W.alk] at h
  | .bl _, .lst _, _, _, h => by simp [W.alk] at h
  | .bl _, .dct _ _, _, _, h => by simp [W.alk] at h
  | .bl _, .ins _ _ _, _, _, h => by simp [W.alk] at h
  | .bl _, .exn _ _, _, _, h => by simp [W.alk] at h
  | .bl _, .scr _, _, _, h => by simp [W.alk] at h
  | .int _, .non, _, _, h => by simp [W.alk] at h
  | .int _, .bl _, _, _, h => by simp [W.alk] at h
  | .int _, .str _, _, _, h => by simp [W.alk] at h
  | .int _, .tup _, _, _, h => by simp [W.alk] at h
  | .int _, .lst _, _, _, h => by simp [W.alk] at h
  | .int _, .dct _ _, _, _, h => by simp [W.alk] at h
  | .int _, .ins _ _ _, _, _, h => by simp [W.alk] at h
  | .int _, .exn _ _, _, _, h => by simp [W.alk] at h
  | .int _, .scr _, _, _, h => by simp [W.alk] at h
  | .str _, .non, _, _, h => by simp [W.alk] at h
  | .str _, .bl _, _, _, h => by simp [W.alk] at h
  | .str _, .int _, _, _, h => by simp [W.alk] at h
  | .str _, .tup _, _, _, h => by simp [W.alk] at h
  | .str _, .lst _, _, _, h => by simp [W.alk] at h
  | .str _, .dct _ _, _, _, h => by simp [W.alk] at h
  | .str _, .ins _ _ _, _, _, h => by simp [W.alk] at h
  | .str _, .exn _ _, _, _, h => by simp [W.alk] at h
  | .str _, .scr _, _, _, h => by simp [W.alk] at h
  | .tup _, .non, _, _, h => by simp [W.alk] at h
  | .tup _, .bl _, _, _, h => by simp [W.alk] at h
  | .tup _, .int _, _, _, h => by simp [W.alk] at h
  | .tup _, .str _, _, _, h => by simp [W.alk] at h
  | .tup _, .lst _, _, _, h => by simp [W.alk] at h
  | .tup _, .dct _ _, _, _, h => by simp [W.alk] at h
  | .tup _, .ins _ _ _, _, _, h => by simp [W.alk] at h
  | .tup _, .exn _ _, _, _, h => by simp [W.alk] at h
  | .tup _, .scr _, _, _, h => by simp [W.alk] at h
  | .lst _, .non, _, _, h => by simp [W.alk] at h
  | .lst _, .bl _, _, _, h => by simp [W.alk] at h
  | .lst _, .int _, _, _, h => by simp [W.alk] at h
  | .lst _, .str _, _, _, h => by simp [W.alk] at h
  | .lst _, .tup _, _, _, h => by simp [W.alk] at h
  | .lst _, .dct _ _, _, _, h => by simp [W.alk] at h
  | .lst _, .ins _ _ _, _, _, h => by simp [W.alk] at h
  | .lst _, .exn _ _, _, _, h => by simp [W.alk] at h
  | .lst _, .scr _, _, _, h => by simp [W.alk] at h
  | .dct _ _, b, _, _, h => by cases b <;> simp [W.alk] at h
  | .ins _ _ _, b, _, _, h => by cases b <;> simp [W.alk] at h
  | .exn _ _, b, _, _, h => by cases b <;> simp [W.alk] at h
  | .scr _, b, _, _, h => by cases b <;> simp [W.alk] at h
theorem dt_eqvs : ∀ {a b : List W}, W.lays a = true → W.lays b = true → W.alks a b = true → PyData.eqvAll (a.map dt) (b.map dt) = W.pyeqs a b
  | [], [], _, _, _ => by simp [PyData.eqvAll, W.pyeqs]
  | [], _ :: _, _, _, _ => by simp [PyData.eqvAll, W.pyeqs]
  | _ :: _, [], _, _, _ => by simp [PyData.eqvAll, W.pyeqs]
  | x :: xs, y :: ys, h1, h2, h => by
    simp only [W.lays, W.alks, Bool.and_eq_true] at h1 h2 h
    simp [PyData.eqvAll, W.pyeqs, dt_eqv h1.1 h2.1 h.1, dt_eqvs h1.2 h2.2 h.2]
end
theorem b2i_lt (x y : Bool) : decide (b2i x < b2i y) = (!x && y) := by cases x <;> cases y <;> decide
mutual
theorem dt_lt : ∀ {a b : W}, a.lay = true → b.lay = true → W.alk a b = true → PySem.W.dataLt (dt a) (dt b) = W.lt a b
  | .bl x, .bl y, _, _, _ => by simp [dt, W.toD, PySem.W.dataLt_bool, W.lt, b2i_lt]
  | .int x, .int y, _, _, _ => by simp [dt, W.toD, PySem.W.dataLt_int, W.lt]
  | .str x, .str y, _, _, _ => by simp [dt, W.toD, PySem.W.dataLt_str, W.lt]
  | .tup xs, .tup ys, h1, h2, h => by
    rw [dt_tup h1, dt_tup h2, PySem.W.dataLt_tuple]
    simp only [W.lt]
    exact dt_lts h1 h2 (by simpa [W.alk] using h)
  | .lst xs, .lst ys, h1, h2, h => by
    rw [dt_lst h1, dt_lst h2, PySem.W.dataLt_list]
    simp only [W.lt]
    exact dt_lts h1 h2 (by simpa [W.alk] using h)
  | .non, b, _, _, h => by cases b <;> simp [W.alk] at h
  | .bl _, .non, _, _, h => by simp [W.alk] at h
  | .bl _, .int _, _, _, h => by simp [W.alk] at h
  | .bl _, .str _, _, _, h => by simp [W.alk] at h
  | .bl _, .tup _, _, _, h => by simp [W.alk] at h
  | .bl _, .lst _, _, _, h => by simp [W.alk] at h
  | .bl _, .dct _ _, _, _, h => by simp [W.alk] at h
  | .bl _, .ins _ _ _, _, _, h => by simp [W.alk] at h
  | .bl _, .exn _ _, _, _, h => by simp [W.alk] at h
  | .bl _, .scr _, _, _, h => by simp [W.alk] at h
  | .int _, .non, _, _, h => by simp [W.alk] at h
  | .int _, .bl _, _, _, h => by simp [W.alk] at h
  | .int _, .str _, _, _, h => by simp [W.alk] at h
  | .int _, .tup _, _, _, h => by simp [W.alk] at h
  | .int _, .lst _, _, _, h => by simp [W.alk] at h
  | .int _, .dct _ _, _, _, h => by simp [W.alk] at h
  | .int _, .ins _ _ _, _, _, h => by simp [W.alk] at h
  | .int _, .exn _ _, _, _, h => by simp [W.alk] at h
  | .int _, .scr _, _, _, h => by simp [W.alk] at h
  | .str _, .non, _, _, h => by simp [W.alk] at h
  | .str _, .bl _, _, _, h => by simp [W.alk] at h
  | .str _, .int _, _, _, h => by simp [W.alk] at h
  | .str _, .tup _, _, _, h => by simp [W.alk] at h
  | .str _, .lst _, _, _, h => by simp [W.alk] at h
  | .str _, .dct _ _, _, _, h => by simp [W.alk] at h
  | .str _, .ins _ _ _, _, _, h => by simp [W.alk] at h
  | .str _, .exn _ _, _, _, h => by simp [W.alk] at h
  | .str _, .scr _, _, _, h => by simp [W.alk] at h
  | .tup _, .non, _, _, h => by simp [W.alk] at h
  | .tup _, .bl _, _, _, h => by simp [W.alk] at h
  | .tup _, .int _, _, _, h => by simp [W.alk] at h
  | .tup _, .str _, _, _, h => by simp [W.alk] at h
  | .tup _, .lst _, _, _, h => by simp [W.alk] at h
  | .tup _, .dct _ _, _, _, h => by simp [W.alk] at h
  | .tup _, .ins _ _ _, _, _, h => by simp [W.alk] at h
  | .tup _, .exn _ _, _, _, h => by simp [W.alk] at h
  | .tup _, .scr _, _, _, h => by simp [W.alk] at h
  | .lst _, .non, _, _, h => by simp [W.alk] at h
  | .lst _, .bl _, _, _, h => by simp [W.alk] at h
  | .lst _, .int _, _, _, h => by simp [W.alk] at h
  | .lst _, .str _, _, _, h => by simp [W.alk] at h
  | .lst _, .tup _, _, _, h => by simp [W.alk] at h
  | .lst _, .dct _ _, _, _, h => by simp [W.alk] at h
  | .lst _, .ins _ _ _, _, _, h => by simp [W.alk] at h
  | .lst _, .exn _ _, _, _, h => by simp [W.alk] at h
  | .lst _, .scr _, _, _, h => by simp [W.alk] at h
  | .dct _ _, b, _, _, h => by cases b <;> simp [W.alk] at h
  | .ins _ _ _, b, _, _, h => by cases b <;> simp [W.alk] at h
  | .exn _ _, b, _, _, h => by cases b <;> simp [W.alk] at h
  | .scr _, b, _, _, h => by cases b <;> simp [W.alk] at h
theorem dt_lts : ∀ {a b : List W}, W.lays a = true → W.lays b = true → W.alks a b = true → PyProof.Rows.lexLt PyProof.Rows.itemOrd (PySem.W.keyToksAll (a.map dt)) (PySem.W.keyToksAll (b.map dt)) = W.lts a b
  | [], [], _, _, _ => by simp [PySem.W.keyToksAll, W.lts, PyProof.Rows.lex_irrefl]
  | [], _ :: _, _, _, _ => by simp [PySem.W.keyToksAll, W.lts]; rfl
  | _ :: _, [], _, _, _ => by simp [PySem.W.keyToksAll, W.lts]; rfl
  | x :: xs, y :: ys, h1, h2, h => by
    simp only [W.lays, W.alks, Bool.and_eq_true] at h1 h2 h
    rw [List.map_cons, List.map_cons, PySem.W.dataLt_cons (dt_alike h1.1 h2.1 h.1), dt_eqv h1.1 h2.1 h.1, dt_lts h1.2 h2.2 h.2, dt_lt h1.1 h2.1 h.1, W.lts]
end
/-! ### sorted(xs) -/
structure SortOkP (ws : List W) : Prop where
  dat : ∀ a ∈ ws, a.isDat = true
  alk : ∀ a ∈ ws, ∀ b ∈ ws, W.alk a b = true
  kind : (∀ a ∈ ws, ∃ x r, a = .tup (x :: r)) ∨ ∀ a ∈ ws, ∀ l, a ≠ .tup l
theorem sortOk_p {ws : List W} (h : sortOk ws = true) : SortOkP ws := by
  simp only [sortOk, Bool.and_eq_true, Bool.or_eq_true, List.all_eq_true] at h
  refine ⟨h.1.1, h.1.2, ?_⟩
  rcases h.2 with q | q
  · left
    intro a m
    have := q a m
    split at this
    · exact ⟨_, _, rfl⟩
    · cases this
  · right
    intro a m l e
    have := q a m
    rw [e] at this
    cases this
theorem isDat_p {a : W} (h : a.isDat = true) : a.lay = true ∧ a.dp ≤ 64 := by
  simpa [W.isDat] using h
theorem SortOkP.alike {ws : List W} (h : SortOkP ws) : PySem.W.AllAlike (ws.map dt) := by
  intro d hd d' hd'
  obtain ⟨a, ha, rfl⟩ := List.mem_map.mp hd
  obtain ⟨b, hb, rfl⟩ := List.mem_map.mp hd'
  exact dt_alike (isDat_p (h.dat a ha)).1 (isDat_p (h.dat b hb)).1 (h.alk a ha b hb)
theorem SortOkP.sortable {ws : List W} (h : SortOkP ws) : PySem.W.Sortable (ws.map dt) := by
  rcases h.kind with q | q
  · left
    intro d hd
    obtain ⟨a, ha, rfl⟩ := List.mem_map.mp hd
    obtain ⟨x, r, rfl⟩ := q a ha
    refine ⟨dt x, r.map dt, ?_⟩
    rw [dt_tup (isDat_p (h.dat _ ha)).1]
    rfl
  · right
    intro d hd
    obtain ⟨a, ha, rfl⟩ := List.mem_map.mp hd
    have k := h.alk a ha a ha
    have q := q a ha
    have l := (isDat_p (h.dat a ha)).1
    cases a with
    | bl _ => exact ⟨fun e => (by cases e), fun _ e => (by cases e)⟩
    | int _ => exact ⟨fun e => (by cases e), fun _ e => (by cases e)⟩
    | str _ => exact ⟨fun e => (by cases e), fun _ e => (by cases e)⟩
    | lst xs => rw [dt_lst l]; exact ⟨fun e => (by cases e), fun _ e => (by cases e)⟩
    | tup l2 => exact absurd rfl (q l2)
    | _ => simp [W.alk] at k
theorem SortOkP.le {ws : List W} (h : SortOkP ws) : ws.mergeSort (PySem.W.dataLe false dt) = sortW ws := by
  unfold sortW
  refine PySem.W.sort_congr fun a ha b hb => ?_
  rw [PySem.W.dataLe_eq]
  show (!PySem.W.dataLt (dt b) (dt a)) = W.le a b
  rw [dt_lt (isDat_p (h.dat b hb)).1 (isDat_p (h.dat a ha)).1 (h.alk b hb a ha)]
  rfl
section
variable {X : Cx} {ca : Ca} {g : Gd} {bx : Bx} {H : Hp} {pins : List (Addr × Obj)} {σ : L2.St} {s : Shared}
/-- the values of a row, each with what it stands for -/
theorem RWs.each {Z : Addr → Prop} : ∀ {ws : List W} {vs : List V} {us : List Value}, RWs (fx X ca) Z H ws vs → Vals vs us → PySem.W.EachIs (fun (u : Value) (w : W) => ∃ v, RelV v u ∧ RW (fx X ca) Z H w v) us ws
  | _, _, _, .nil, .nil => .nil
  | _, _, _, .cons a t, .cons r q => .cons ⟨_, r, a⟩ (RWs.each t q)
theorem each_RWs {Z : Addr → Prop} : ∀ {us : List Value} {ws : List W}, PySem.W.EachIs (fun (u : Value) (w : W) => ∃ v, RelV v u ∧ RW (fx X ca) Z H w v) us ws → ∃ vs, RWs (fx X ca) Z H ws vs ∧ Vals vs us
  | _, _, .nil => ⟨[], .nil, .nil⟩
  | _, _, .cons ⟨v, r, a⟩ t => by
    obtain ⟨vs, h1, h2⟩ := each_RWs t
    exact ⟨v :: vs, .cons a h1, .cons r h2⟩
theorem each_reads {Z : Addr → Prop} (I : Inv X pins σ H s) : ∀ {us : List Value} {ws : List W}, (∀ w ∈ ws, w.lay = true) → PySem.W.EachIs (fun (u : Value) (w : W) => ∃ v, RelV v u ∧ RW (fx X ca) Z H w v) us ws → PySem.W.EachIs (fun v b => ∃ as, Reads s.heap v (dt b) as) us ws
  | _, _, _, .nil => .nil
  | _, _, hl, .cons ⟨v, r, a⟩ t => by
    obtain ⟨as, q, _⟩ := RW.reads I a (toD_lay (hl _ List.mem_cons_self)) r
    exact .cons ⟨as, q⟩ (each_reads I (fun w m => hl w (List.mem_cons_of_mem _ m)) t)
theorem c_sorted {m : Bool} (hu : X.A.units + 66 < cLine) : CallR X (.builtin "sorted") fun vs H Q => tO (fx X ca) (opSorted m) vs H Q := by
  intro pins s σ H xs us Q I r h
  obtain ⟨g, bx, r1, v, rfl, b, h1, p⟩ := tO_one h fun rs bx h => by
    unfold opSorted
    split
    · simp at h
    · rfl
  simp only [opSorted] at p
  cases e : (itL bx r1).bind AM.vals with
  | none => rw [e] at p; exact p.elim
  | some ws =>
    rw [e] at p
    simp only at p
    split at p
    · rename_i ok
      have ok := sortOk_p ok
      rw [Option.bind_eq_some_iff] at e
      obtain ⟨xs, e1, e2⟩ := e
      obtain ⟨a, vs, rfl, hs, hl, rr⟩ := h1.lst b e1
      have rw_ := rr.vals e2
      obtain ⟨u, rfl, rx⟩ := vals1 r
      obtain rfl : u = Value.ref a := rx
      obtain ⟨_, its, n, rv, hob⟩ := I.hok a _ hs
      have each := RWs.each rw_ rv
      have er := each_reads I (fun w m => (isDat_p (ok.dat w m)).1) each
      have hlen : ws.length ≤ sizeLine := by rw [rw_.length]; exact hl
      refine PySem.W.sorted_data (bs := ws) (enc := dt) ⟨_, hob, rfl, n, rfl⟩ each er ok.alike ok.sortable hlen (fun w m => ?_) fun out h2 h3 => ?_
      · have := dt_depth (isDat_p (ok.dat w m)).1
        have := (isDat_p (ok.dat w m)).2
        omega
      · rw [ok.le] at h3
        obtain ⟨vs2, k1, k2⟩ := each_RWs h3
        obtain ⟨ep, he'⟩ := PyProof.Rows.sortedAll_at s.heap its out.toArray
        have l2 : vs2.length ≤ sizeLine := by rw [k2.length, h2]; exact hlen
        obtain ⟨_, new⟩ := mkL_ok b (RRs.of k1) p
        exact ⟨.ref _, upd H (s.heap.objs.size + 1) (.lst vs2), I.laid (t' := s.toks) (fun _ _ => PyProof.Rows.sortedAll_old) (Nat.le_succ _) ⟨l2, out, ep, k2, he'⟩, rfl, new _ (I.hok.fresh (Nat.le_succ _))⟩
    · exact p.elim
theorem noX_sorted {m : Bool} : NoX (opSorted m) := by
  intro rs bx w bx' h
  unfold opSorted at h
  split at h
  · split at h
    · split at h
      · unfold mkL at h
        split at h
        · split at h
          · cases h
          · split at h <;> cases h
        · cases h
      · cases h
    · cases h
  · cases h
end
end AM
/-! text AmV1 -/
set_option Elab.async false
set_option linter.all false
set_option maxRecDepth 100000
set_option maxHeartbeats 2000000
/-! AmV1: dict comprehensions. -/
namespace AM
open PySem PySem.Spec PyProof.Rows L2

/-! ### pairs put one behind the other -/
theorem pairO_snoc : ∀ {rs : List R} {ks : List W} {vs : List R} {k : W} {r : R}, pairO rs = some (ks, vs) → pairO (rs ++ [.v k, r]) = some (ks ++ [k], vs ++ [r])
  | [], ks, vs, k, r, h => by simp [pairO] at h; obtain ⟨rfl, rfl⟩ := h; rfl
  | [_], _, _, _, _, h => by simp [pairO] at h
  | .v k0 :: r0 :: rs, ks, vs, k, r, h => by
    simp only [pairO, Option.map_eq_some_iff, Prod.mk.injEq] at h
    obtain ⟨⟨a, b⟩, h1, rfl, rfl⟩ := h
    have := pairO_snoc (k := k) (r := r) h1
    simp [pairO, this]
  | .r _ :: _ :: _, _, _, _, _, h => by simp [pairO] at h
  | .clo _ _ :: _ :: _, _, _, _, _, h => by simp [pairO] at h
theorem pairO_app : ∀ {rs ts : List R} {p : List W × List R}, pairO (rs ++ ts) = some p → rs.length % 2 = 0 → ∃ a b, pairO rs = some a ∧ pairO ts = some b ∧ p = (a.1 ++ b.1, a.2 ++ b.2)
  | [], ts, p, h, _ => ⟨([], []), p, rfl, h, rfl⟩
  | [_], _, _, _, h => by simp at h
  | .v k0 :: r0 :: rs, ts, p, h, hl => by
    simp only [List.cons_append, pairO, Option.map_eq_some_iff] at h
    obtain ⟨q, h1, rfl⟩ := h
    obtain ⟨a, b, e1, e2, e3⟩ := pairO_app h1 (by simp at hl; omega)
    refine ⟨(k0 :: a.1, r0 :: a.2), b, by simp [pairO, e1], e2, ?_⟩
    rw [e3]
    rfl
  | .r _ :: _ :: _, _, _, h, _ => by simp [pairO] at h
  | .clo _ _ :: _ :: _, _, _, h, _ => by simp [pairO] at h
theorem pairO_len : ∀ {rs : List R} {ks : List W} {vs : List R}, pairO rs = some (ks, vs) → rs.length = 2 * ks.length ∧ vs.length = ks.length
  | [], ks, vs, h => by simp [pairO] at h; obtain ⟨rfl, rfl⟩ := h; simp
  | [_], _, _, h => by simp [pairO] at h
  | .v k0 :: r0 :: rs, ks, vs, h => by
    simp only [pairO, Option.map_eq_some_iff, Prod.mk.injEq] at h
    obtain ⟨⟨a, b⟩, h1, rfl, rfl⟩ := h
    have := pairO_len h1
    simp
    omega
  | .r _ :: _ :: _, _, _, h => by simp [pairO] at h
  | .clo _ _ :: _ :: _, _, _, h => by simp [pairO] at h
theorem dMergeK_snoc : ∀ {ks l : List W} {k : W}, dMergeK ks (l ++ [k]) = dSetK (dMergeK ks l) k
  | _, [], _ => rfl
  | ks, x :: l, k => dMergeK_snoc (ks := dSetK ks x) (l := l)
theorem dMergeV_snoc {α : Type} : ∀ {l : List W} {ks : List W} {rs vs : List α} {k : W} {r : α}, vs.length = l.length → dMergeV ks rs (l ++ [k]) (vs ++ [r]) = dSetV (dMergeK ks l) (dMergeV ks rs l vs) k r
  | [], _, _, vs, _, _, h => by
    have : vs = [] := List.eq_nil_of_length_eq_zero h
    subst this
    rfl
  | x :: l, _, _, [], _, _, h => by simp at h
  | x :: l, ks, rs, v :: vs, k, r, h => by
    show dMergeV (dSetK ks x) (dSetV ks rs x v) (l ++ [k]) (vs ++ [r]) = _
    rw [dMergeV_snoc (by simpa using h)]
    rfl
theorem dSetK_head : ∀ {ks : List W} {k x : W}, ks.head? = some x → (dSetK ks k).head? = some x
  | [], _, _, h => by simp at h
  | y :: r, k, x, h => by
    simp at h
    subst h
    simp only [dSetK]
    split <;> rfl
theorem dMergeK_head : ∀ {l ks : List W} {x : W}, ks.head? = some x → (dMergeK ks l).head? = some x
  | [], _, _, h => h
  | y :: l, ks, x, h => dMergeK_head (l := l) (ks := dSetK ks y) (dSetK_head h)
theorem dMerge_head {x : W} {l : List W} : (dMergeK [] (x :: l)).head? = some x := dMergeK_head (l := l) (ks := [x]) rfl
theorem keyFor_head {ks ks' : List W} {k : W} (h : keyFor ks k = true) (e : ∀ x, ks'.head? = some x → ks.head? = some x) : keyFor ks' k = true := by
  unfold keyFor at *
  rw [Bool.and_eq_true] at *
  refine ⟨h.1, ?_⟩
  cases ks' with
  | nil => rfl
  | cons y r =>
    have := e y rfl
    cases ks with
    | nil => simp at this
    | cons z t =>
      simp at this
      subst this
      exact h.2
theorem len_dMergeK : ∀ {l ks : List W}, (dMergeK ks l).length ≤ ks.length + l.length
  | [], _ => Nat.le_refl _
  | x :: l, ks => by
    have h1 := len_dMergeK (l := l) (ks := dSetK ks x)
    have h2 := len_dSetK (k := x) (ks := ks)
    simp only [List.length_cons]
    show (dMergeK (dSetK ks x) l).length ≤ _
    omega
theorem DAt.mono {F : Fx} {Z Z' : Addr → Prop} {H H' : Hp} {a : Addr} {ks : List W} {xv : List V} {o : Obj} (h : DAt F Z H a ks xv o) (hz : ∀ a, Z a → Z' a) (hh : ∀ a, Z a → H' a = H a) : DAt F Z' H' a ks xv o := by
  obtain ⟨es, ep, e1, e2⟩ := h.dat
  exact ⟨h.sm, h.ex, ⟨es, ep, e1, e2.mono hz hh⟩, h.len, h.nd, h.kind⟩
/-- the dict that was filled is the answer -/
theorem fillD_ok {F : Fx} {g g0 : Gd} {bx : Bx} {H H0 : Hp} {D : Addr} {m : Bool} {ks : List W} {rs : List R} {xv : List V} {o : Obj} {Q : VK} (b : BxOk F g bx H) (x : Ext g0 H0 g H) (h0 : H0 D = none) (ou : Out F g D) (hD : H D = some (pinO D o)) (DD : DAt F g.Z H D ks xv o) (r : RRs F g H rs xv) (p : PostO F g0 H0 Q (mkD m ks rs bx)) : Q (.ref D) H := by
  have zd : ∀ a, g.Z a → a ≠ D := fun a z e => ou.z (e ▸ z)
  obtain ⟨x1, b1, k1⟩ := b.agree (H' := fun a => if a = D then none else H a) x h0 ou (fun a n => by simp [n])
  have p1 : PostO F g (fun a => if a = D then none else H a) Q (mkD m ks rs bx) := by
    cases e : mkD m ks rs bx with
    | ok r bx' => rw [e] at p; exact fun g' H' v e' b' q => p g' H' v (x1.trans e') b' q
    | exc w bx' => rw [e] at p; exact p.elim
    | stuck => rw [e] at p; exact p.elim
  have q := mkD_ok (p := D) (o := o) b1 (by simp) (DD.mono (fun _ z => z) fun a z => by simp [zd a z]) (r.agree k1) p1
  have e : upd (fun a => if a = D then none else H a) D (pinO D o) = H := by
    funext a
    by_cases z : a = D
    · subst z; rw [upd_same, hD]
    · rw [upd_ne z]; simp [z]
  rw [e] at q
  exact q

theorem noX_mkD (m : Bool) (ks : List W) (rs : List R) (bx : Bx) (w : W) (bx' : Bx) : mkD m ks rs bx ≠ .exc w bx' := by
  intro h
  unfold mkD at h
  split at h
  · split at h
    · cases h
    · split at h <;> cases h
  · cases h
/-- where the filling stands -/
structure DInv (F : Fx) (g1 : Gd) (H1 : Hp) (D : Addr) (en : En) (σ : L2.St) (ke ve : E) (t : Tg) (ifs : List E) (gd : Option (Nat × Box)) (rs : List R) (bx2 : Bx) (left : List AM.It) (H : Hp) : Prop where
  ex : ∃ g' bx' rs0 ks0 vs0 xv zs o, Ext g1 H1 g' H ∧ BxOk F g' bx' H ∧ Out F g' D ∧ EnOk F g' en σ H ∧ H D = some (pinO D o) ∧ pairO rs0 = some (ks0, vs0) ∧ DAt F g'.Z H D (dMergeK [] ks0) xv o ∧ RRs F g' H (dMergeV [] [] ks0 vs0) xv ∧
    lcTurns (dcGo ke ve []) t ifs gd en left bx' = some (zs, bx2) ∧ rs = rs0 ++ zs
theorem dc_sound {F : Fx} {Wx : WX} {m : Bool} {own : List Nat} {t : Tg} {i : I} {ifs : List E} {ke ve : E} {σ : L2.St} {H : Hp} {Q : VK} (hi : ifs.length ≤ 1) (ht : ∀ j ∈ tgS t, j ∈ own) (h : tM F Wx (eDc m own [⟨t, i, ifs⟩] ke ve) σ H Q) :
    tDcG F (tI F Wx i) (tG F t) (tTs F ifs) (tM F W0 ke) (tM F W0 ve) own σ H Q := by
  obtain ⟨g, en, bx, a, b, p⟩ := h
  replace p : PostR F g σ H Wx Q (match (match i (wipeE en own) bx with
      | .ok xs gd bx' => lcTurns (dcGo ke ve []) t ifs gd (wipeE en own) xs bx'
      | _ => none) with
    | some (rs, bx') => (match pairO rs with
      | some (ks, vs) => if ks.length ≤ SL ∧ ks.all (fun k => keyFor ks k) then mkD m (dMergeK [] ks) (dMergeV [] [] ks vs) bx' else .stuck
      | none => .stuck)
    | none => .stuck) := p
  refine ⟨g, wipeE en own, bx, a.wipe1 own, b, ?_⟩
  cases e : i (wipeE en own) bx with
  | stuck => rw [e] at p; exact p.elim
  | exc w bx' => rw [e] at p; exact p.elim
  | ok xs gd bx1 =>
    rw [e] at p
    simp only at p ⊢
    intro g1 H1 J x1 b1 jo D hD hsm
    cases e2 : lcTurns (dcGo ke ve []) t ifs gd (wipeE en own) xs bx1 with
    | none => rw [e2] at p; exact p.elim
    | some z =>
      obtain ⟨rs, bx2⟩ := z
      rw [e2] at p
      simp only at p
      cases e3 : pairO rs with
      | none => rw [e3] at p; exact p.elim
      | some pq =>
        obtain ⟨ks, vs⟩ := pq
        rw [e3] at p
        simp only at p
        split at p
        · rename_i hc
          obtain ⟨hlen, hall⟩ := hc
          have hall : ∀ k ∈ ks, keyFor ks k = true := fun k hk => List.all_eq_true.mp hall k hk
          have p1 : PostO F g1 H1 Q (mkD m (dMergeK [] ks) (dMergeV [] [] ks vs) bx2) := by
            have p := PostR.ext x1 p
            cases e4 : mkD m (dMergeK [] ks) (dMergeV [] [] ks vs) bx2 with
            | ok r bx' => rw [e4] at p; exact p
            | exc w bx' => exact absurd e4 (noX_mkD _ _ _ _ _ _)
            | stuck => rw [e4] at p; exact p
          refine ⟨fun i n H => n + i = xs.length ∧ DInv F g1 H1 D (wipeE en own) (wipe σ own) ke ve t ifs gd rs bx2 (xs.drop i) H, ⟨xs.length, rfl, ?_⟩, ?_⟩
          · obtain ⟨y1, y2, y3⟩ := b1.agree (H' := upd H1 D (pinO D emptyD)) (Ext.refl g1 H1) hD (b1.out hD) fun a n => upd_ne n
            exact ⟨g1, bx1, [], [], [], [], rs, emptyD, y1, y2, b1.out hD, ((a.wipe2 own).mono x1).agree y3, upd_same, rfl, emptyD_at hsm, .nil, e2, rfl⟩
          · intro i n H2 ⟨hn, g2, bx', rs0, ks0, vs0, xv, zs, o, x2, b2, o2, a2, hD2, ep, DD, r2, et, er⟩
            have sD : (H2 D).isSome := by rw [hD2]; rfl
            by_cases hi2 : i < xs.length
            · right
              have hd : xs.drop i = xs[i] :: xs.drop (i + 1) := List.drop_eq_getElem_cons hi2
              rw [hd] at et
              simp only [lcTurns] at et
              split at et
              · rename_i gd1
                refine ⟨jo.go i g2 H2 bx' x2 b2 gd1 hi2, DInv F g1 H1 D (wipeE en own) (wipe σ own) ke ve t ifs gd rs bx2 (xs.drop (i + 1)), fun H' q => ⟨n - 1, by omega, by omega, q⟩, fun v H3 y => ?_⟩
                obtain ⟨g3, x3, b3, ri⟩ := jo.yld i g2 H2 bx' v H3 xs[i] x2 b2 gd1 (List.getElem?_eq_getElem hi2) y
                split at et
                · rename_i en' q
                  refine ⟨g3, wipeE en own, bx', _, en', a2.mono x3, b3, ri, q, fun σ' a' sm => ⟨sm.wiped ht, ?_⟩⟩
                  have skip : ∀ {g' : Gd} {H' : Hp} {bx4 : Bx}, Ext g3 H3 g' H' → BxOk F g' bx4 H' → lcTurns (dcGo ke ve []) t ifs gd (wipeE en own) (xs.drop (i + 1)) bx4 = some (zs, bx2) → DInv F g1 H1 D (wipeE en own) (wipe σ own) ke ve t ifs gd rs bx2 (xs.drop (i + 1)) H' := fun {g' H' bx4} x4 b4 et => by
                    have x24 := x3.trans x4
                    obtain ⟨o4, d4⟩ := o2.later sD (fun ps e => by rw [hD2] at e; cases e) x24
                    exact ⟨g', bx4, rs0, ks0, vs0, xv, zs, o, x2.trans x24, b4, o4, a2.mono x24, d4.trans hD2, ep, DD.mono x24.z fun a z => x24.zk a z, r2.mono x24, et, er⟩
                  have main : ∀ {g' : Gd} {H' : Hp} {bx4 : Bx}, Ext g3 H3 g' H' → BxOk F g' bx4 H' → (match dcGo ke ve [] en' bx4 with
                      | some (ys, bx2) => match lcTurns (dcGo ke ve []) t ifs gd (wipeE en own) (xs.drop (i + 1)) bx2 with
                        | some (zs, bx3) => some (ys ++ zs, bx3)
                        | none => none
                      | none => none) = some (zs, bx2) → tM F W0 ke σ' H' fun y H4 => tM F W0 ve σ' H4 fun z H5 => Sto F D y z H5 (DInv F g1 H1 D (wipeE en own) (wipe σ own) ke ve t ifs gd rs bx2 (xs.drop (i + 1))) := fun {g' H' bx4} x4 b4 et => by
                    refine ⟨g', en', bx4, a'.mono x4, b4, ?_⟩
                    simp only [dcGo] at et
                    cases e5 : ke en' bx4 with
                    | ok k bx5 =>
                      rw [e5] at et
                      simp only at et
                      intro g5 H5 y x5 b5 r5
                      refine ⟨g5, en', bx5, (a'.mono x4).mono x5, b5, ?_⟩
                      cases e6 : ve en' bx5 with
                      | ok r bx6 =>
                        rw [e6] at et
                        simp only at et
                        split at et
                        · rename_i zs' bx7 e7
                          cases et
                          intro g6 H6 z x6 b6 r6
                          have x26 := x3.trans (x4.trans (x5.trans x6))
                          obtain ⟨o6, d6⟩ := o2.later sD (fun ps e => by rw [hD2] at e; cases e) x26
                          have hD6 := d6.trans hD2
                          have pe : pairO (rs0 ++ ([k, r] ++ zs')) = some (ks, vs) := by rw [← er]; exact e3
                          obtain ⟨pa, pb, h1, h2, h3⟩ := pairO_app pe (by rw [(pairO_len ep).1]; omega)
                          rw [ep] at h1
                          cases h1
                          obtain ⟨kw, rfl⟩ : ∃ kw, k = .v kw := by
                            cases k with
                            | v kw => exact ⟨kw, rfl⟩
                            | r _ => simp [pairO] at h2
                            | clo _ _ => simp [pairO] at h2
                          simp only [List.cons_append, List.nil_append, pairO, Option.map_eq_some_iff] at h2
                          obtain ⟨pc, h4, rfl⟩ := h2
                          have hks : ks = ks0 ++ kw :: pc.1 := congrArg Prod.fst h3
                          have rk : RW F g6.Z H6 kw y := by
                            cases r5 with | v r5 => exact r5.mono x6.z fun a z => x6.zk a z
                          have kf : keyFor (dMergeK [] ks0) kw = true := by
                            refine keyFor_head (hall kw (by rw [hks]; simp)) fun x hx => ?_
                            cases ks0 with
                            | nil => simp [dMergeK] at hx
                            | cons k0 l =>
                              rw [dMerge_head] at hx
                              rw [hks]
                              simpa using hx
                          have hll : (dMergeK [] ks0).length < sizeLine := by
                            have q1 := len_dMergeK (l := ks0) (ks := [])
                            rw [hks] at hlen
                            simp at hlen q1
                            rw [SL_eq] at hlen
                            omega
                          have D6 := DD.mono (Z' := g6.Z) (H' := H6) x26.z fun a z => x26.zk a z
                          refine ⟨g6.Z, dMergeK [] ks0, xv, o, kw, hD6, D6, kf, rk, hll, fun o' nw => ?_⟩
                          obtain ⟨y1, y2, y3⟩ := b6.agree (H' := upd H6 D (pinO D o')) (x2.trans x26) hD o6 fun a n => upd_ne n
                          have zd : ∀ a, g6.Z a → a ≠ D := fun a z e => o6.z (e ▸ z)
                          obtain ⟨es', ep', d1, d2⟩ := nw.dat
                          have lv := (pairO_len ep).2
                          refine ⟨g6, bx6, rs0 ++ [.v kw, r], ks0 ++ [kw], vs0 ++ [r], dSetV (dMergeK [] ks0) xv kw z, zs', o', y1, y2, o6, (a2.mono x26).agree y3, upd_same, pairO_snoc ep, ⟨hsm, nw.ex, ⟨es', ep', d1, ?_⟩, ?_, ?_, ?_⟩, ?_, e7, by rw [er]; simp⟩
                          · rw [dMergeK_snoc]
                            exact d2.mono (fun _ z => z) fun a z => upd_ne (zd a z)
                          · rw [dMergeK_snoc]
                            have := len_dSetK (k := kw) (ks := dMergeK [] ks0)
                            omega
                          · rw [dMergeK_snoc]
                            exact nd_dSetK D6.nd
                          · rw [dMergeK_snoc]
                            exact D6.kind.set kf
                          · rw [dMergeV_snoc lv]
                            have ll : (dMergeK [] ks0).length = (dMergeV [] [] ks0 vs0).length := by
                              have q1 := r2.length
                              obtain ⟨es, epp, _, q3⟩ := DD.dat
                              have q4 := q3.lens
                              omega
                            exact RRs.agree y3 (RRs.dSet ll (r2.mono x26) r6)
                        · cases et
                      | exc w bx6 => rw [e6] at et; cases et
                      | stuck => rw [e6] at et; cases et
                    | exc w bx5 => rw [e5] at et; cases et
                    | stuck => rw [e5] at et; cases et
                  match ifs, hi, et with
                  | [], _, et =>
                    simp only [testsO] at et
                    simp only [tTs, tYes, if_true]
                    exact main (Ext.refl g3 H3) b3 et
                  | [c], _, et =>
                    simp only [testsO] at et
                    show tMT F W0 c σ' H3 _
                    refine ⟨g3, en', bx', a', b3, ?_⟩
                    cases e4 : c en' bx' with
                    | ok r bx4 =>
                      rw [e4] at et
                      intro g4 H4 v4 x4 b4 r4
                      cases r with
                      | v w =>
                        cases w with
                        | bl tt =>
                          cases r4 with | v r4 =>
                          cases r4
                          refine ⟨tt, rfl, ?_⟩
                          cases tt with
                          | true =>
                            rw [if_pos rfl]
                            exact main x4 b4 et
                          | false =>
                            rw [if_neg Bool.false_ne_true]
                            exact skip x4 b4 et
                        | _ => cases et
                      | r _ => cases et
                      | clo _ _ => cases et
                    | exc w bx4 => rw [e4] at et; cases et
                    | stuck => rw [e4] at et; cases et
                · cases et
              · cases et
            · left
              have hd : xs.drop i = [] := List.drop_eq_nil_of_le (by omega)
              rw [hd] at et
              simp only [lcTurns] at et
              split at et
              · rename_i gd1
                cases et
                rw [List.append_nil] at er
                subst er
                rw [e3] at ep
                cases ep
                exact ⟨jo.stop i g2 H2 _ x2 b2 gd1 (by omega), fillD_ok b2 x2 hD o2 hD2 DD r2 p1⟩
              · cases et
        · exact p.elim

section
variable {X : Cx} {ca : Ca} {m : Bool} {kx vx tg iter : Expr} {ifs : List Expr} {scope : Scope} {own : List (Str × Nat)} {pos : Pos} {t : Tg} {mi : I} {mk mv : E} {ms : List E}
theorem se_dc (hu : X.A.units + 10 < cLine) (hc : X.calm = true) (hN : X.N.Nodup) (hi : SI X ca mi tg iter) (ok : BlkOk X.N X.env.scope scope own) (hg : Blk X ca scope fun X' => SG X' ca t tg) (ht : Blk X ca scope fun X' => STs X' ca ms ifs) (hk : Blk X ca scope fun X' => SE X' ca mk kx) (hv : Blk X ca scope fun X' => SE X' ca mv vx)
    (hs : ∀ x, foldedSetIterable iter X.env x = pure x) (ho : ∀ j ∈ tgS t, j ∈ own.map (·.2)) : SE X ca (eDc m (own.map (·.2)) [⟨t, mi, ms⟩] mk mv) (.DictComp kx vx [⟨tg, iter, ifs, 0⟩] scope pos) := ⟨fun Wx tk => by
  refine ⟨fun pins s σ H Q I h => ?_⟩
  rw [arm_eval_DictComp]
  refine dc_gen (ca := ca) hu hc hN I (hi.pi Wx tk) ok (fun s H C cl fp => (hg.at_ s H C cl fp).pg) (fun s H C cl fp => (ht.at_ s H C cl fp).pts (takes0 _)) (fun s H C cl fp => (hk.at_ s H C cl fp).pe W0 (takes0 _)) (fun s H C cl fp => (hv.at_ s H C cl fp).pe W0 (takes0 _)) hs
    (dc_sound (F := fx X ca) (ht.at_ X.s_0 X.H_0 0 [] []).len ho h) fun D C s' mm H' I' q hn f => ⟨mm, hn, fun h'' sb => ?_⟩
  obtain ⟨f0, f1, f2, f3, f4, f5⟩ := f
  exact ⟨.ref D, H', I'.turned (t' := s'.toks) (fun b o hb e => (sb.2 b hb).trans e) f0 f1 f3 f4 f5, rfl, q⟩⟩
/-- name = {..} on one line -/
theorem ss_setDc {i : Nat} {y : Str} {py spos : Pos} (hu : X.A.units + 10 < cLine) (hc : X.calm = true) (hN : X.N.Nodup) (hy : X.N[i]? = some y) (hyl : X.env.scope.names.lookup y = some .local) (hsw : swapsWith (.DictComp kx vx [⟨tg, iter, ifs, 0⟩] scope pos) (some (.Name y py)) spos.line X.env = pure true)
    (hi : SI X ca mi tg iter) (ok : BlkOk X.N X.env.scope scope own) (hg : Blk X ca scope fun X' => SG X' ca t tg) (ht : Blk X ca scope fun X' => STs X' ca ms ifs) (hk : Blk X ca scope fun X' => SE X' ca mk kx) (hv : Blk X ca scope fun X' => SE X' ca mv vx)
    (hs : ∀ x, foldedSetIterable iter X.env x = pure x) (ho : ∀ j ∈ tgS t, j ∈ own.map (·.2)) : SS X ca (cAsg (.nm i) (eDc m (own.map (·.2)) [⟨t, mi, ms⟩] mk mv)) (.Assign [.Name y py] (.DictComp kx vx [⟨tg, iter, ifs, 0⟩] scope pos) spos) := ⟨fun Wx tk => by
  refine ⟨fun pins s σ H D I h => ?_⟩
  rw [exec_Assign_Name_used _ _ _ _ hsw]
  refine wpAny_bind (wpAny_standAt (wpAny_bind ?_))
  have h2 : tM (fx X ca) Wx (eDc m (own.map (·.2)) [⟨t, mi, ms⟩] mk mv) σ H (fun x H1 => gName i x σ H1 D.nx) := tM_imp (tS_cE h) fun v H1 ⟨g, en, bx, r, a, b, rr, p⟩ => by
    replace p : PostC (fx X ca) g H1 Wx D (match (if i < en.length then some (en.set i (some r)) else none) with
      | some en' => .nx en' bx
      | none => .stuck) := p
    split at p
    · rename_i en' q
      split at q
      · cases q
        exact p g _ H1 (Ext.refl g H1) b (a.set rr)
      · cases q
    · exact p.elim
  show wpAny _ X.A (do let _ ← comprehension (.DictComp kx vx [⟨tg, iter, ifs, 0⟩] scope pos) scope X.env (firstIterPos [⟨tg, iter, ifs, 0⟩] pos) newDict false (eval iter X.env) (some (assign (.Name y py) X.env))) _ _ s
  refine wpAny_bind (thn (dc_gen (ca := ca) (Qf := fun _ s' => SP X pins D .next s') hu hc hN I (hi.pi Wx tk) ok (fun s H C cl fp => (hg.at_ s H C cl fp).pg) (fun s H C cl fp => (ht.at_ s H C cl fp).pts (takes0 _)) (fun s H C cl fp => (hk.at_ s H C cl fp).pe W0 (takes0 _)) (fun s H C cl fp => (hv.at_ s H C cl fp).pe W0 (takes0 _)) hs
    (dc_sound (F := fx X ca) (ht.at_ X.s_0 X.H_0 0 [] []).len ho h2) fun L C s' mm H' I' q hn f => ?_) fun _ s' hq => wpAny_pure (wpAny_pure hq))
  show wpAny _ _ (assign (.Name y py) X.env (.ref L)) _ _ _
  refine wpAny_assign_Name (store_ok2 (v := V.ref L) I' hN hy (.inl hyl) rfl (fun s2 I2 ⟨a, sb, ha⟩ => ?_) (.inr hyl))
  obtain ⟨f0, f1, f2, f3, f4, f5⟩ := f
  have haC : C ≠ a := by
    rcases ha with z | z
    · rw [z]; exact f1
    · exact fun e => f4 y a z e.symm
  refine ⟨mm, hn.sameBut sb haC, fun h3 sb3 => ?_⟩
  exact ⟨_, H', I2.turned (t' := s2.toks) (fun b o hb e => (sb3.2 b hb).trans e) f0 f1 f3 f4 f5, q⟩⟩
end
section
variable {P : Program} {w : World} {K : PySem.W.Frag} {mg : Str → Option Value} {base : Heap} {ca : Ca} {k i : Nat} {N : List Str} {sc : Scope} {fs : Str → Bool} {X : Cx} {m : Bool} {kx vx tg iter : Expr} {ifs : List Expr} {scope : Scope} {own : List (Str × Nat)} {pos spos py : Pos} {t : Tg} {mi : I} {mk mv : E} {ms : List E} {y : Str}
theorem v_dc (c : Con P w K mg base k N sc fs X) (hi : SI X ca mi tg iter) (ok : blkC N sc scope own = true)
    (hg : ∀ X', Con P w K mg base k N (relS scope sc) (fun x => scope.names.lookup x == some .cell) X' → SG X' ca t tg) (ht : ∀ X', Con P w K mg base k N (relS scope sc) (fun x => scope.names.lookup x == some .cell) X' → STs X' ca ms ifs)
    (hk : ∀ X', Con P w K mg base k N (relS scope sc) (fun x => scope.names.lookup x == some .cell) X' → SE X' ca mk kx) (hv : ∀ X', Con P w K mg base k N (relS scope sc) (fun x => scope.names.lookup x == some .cell) X' → SE X' ca mv vx)
    (ho : (tgS t).all (fun j => decide (j ∈ own.map (·.2))) = true) (hs : ∀ x, foldedSetIterable iter X.env x = pure x := by intro _; rfl) : SE X ca (eDc m (own.map (·.2)) [⟨t, mi, ms⟩] mk mv) (.DictComp kx vx [⟨tg, iter, ifs, 0⟩] scope pos) :=
  se_dc c.u10 c.calm c.ndX hi (blkOk_by (by rw [c.names, c.sco]; exact ok)) ⟨fun s H C cl fp => hg _ (c.blk scope s H C cl fp)⟩ ⟨fun s H C cl fp => ht _ (c.blk scope s H C cl fp)⟩ ⟨fun s H C cl fp => hk _ (c.blk scope s H C cl fp)⟩ ⟨fun s H C cl fp => hv _ (c.blk scope s H C cl fp)⟩ hs (by simpa using ho)
theorem v_setDc (c : Con P w K mg base k N sc fs X) (hy : locB N sc (fun _ => false) i y = true) (hsw : swapsWith (.DictComp kx vx [⟨tg, iter, ifs, 0⟩] scope pos) (some (.Name y py)) spos.line X.env = pure true) (hi : SI X ca mi tg iter) (ok : blkC N sc scope own = true)
    (hg : ∀ X', Con P w K mg base k N (relS scope sc) (fun x => scope.names.lookup x == some .cell) X' → SG X' ca t tg) (ht : ∀ X', Con P w K mg base k N (relS scope sc) (fun x => scope.names.lookup x == some .cell) X' → STs X' ca ms ifs)
    (hk : ∀ X', Con P w K mg base k N (relS scope sc) (fun x => scope.names.lookup x == some .cell) X' → SE X' ca mk kx) (hv : ∀ X', Con P w K mg base k N (relS scope sc) (fun x => scope.names.lookup x == some .cell) X' → SE X' ca mv vx)
    (ho : (tgS t).all (fun j => decide (j ∈ own.map (·.2))) = true) (hs : ∀ x, foldedSetIterable iter X.env x = pure x := by intro _; rfl) : SS X ca (cAsg (.nm i) (eDc m (own.map (·.2)) [⟨t, mi, ms⟩] mk mv)) (.Assign [.Name y py] (.DictComp kx vx [⟨tg, iter, ifs, 0⟩] scope pos) spos) := by
  have hl : X.N[i]? = some y ∧ X.env.scope.names.lookup y = some .local := by
    rw [c.names, c.sco]
    simp only [locB, Bool.and_eq_true, decide_eq_true_eq] at hy
    refine ⟨hy.1, ?_⟩
    have h2 := hy.2
    split at h2
    · assumption
    · cases h2
    · cases h2
  exact ss_setDc c.u10 c.calm c.ndX hl.1 hl.2 hsw hi (blkOk_by (by rw [c.names, c.sco]; exact ok)) ⟨fun s H C cl fp => hg _ (c.blk scope s H C cl fp)⟩ ⟨fun s H C cl fp => ht _ (c.blk scope s H C cl fp)⟩ ⟨fun s H C cl fp => hk _ (c.blk scope s H C cl fp)⟩ ⟨fun s H C cl fp => hv _ (c.blk scope s H C cl fp)⟩ hs (by simpa using ho)
end
end AM
/-! text AmV2 -/
set_option Elab.async false
set_option linter.all false
set_option maxRecDepth 100000
set_option maxHeartbeats 2000000
/-! AmV2: comprehensions of any number of clauses. -/
namespace AM
open PySem PySem.Spec PyProof.Rows L2

/-- a clause's tests, in order -/
abbrev tstS (ifs : List Expr) (env : Env) : Sem Bool := forIn ifs true fun c r => if r = true then (isTrue c env (eval c env) >>= fun ok => pure (ForInStep.yield ok)) else pure (ForInStep.yield r)
section
variable {prog : Program} {w : World} {A : Around} {R : Result → Shared → Prop} {gs : List Comprehension} {g g1 : Comprehension} {i : Nat} {it acc : Value} {env : Env} {I : Nat → Shared → Prop}
/-- a turn of the loop of the i-th clause of the comprehension e; act: what follows the store and the tests -/
def TurnOk (prog : Program) (w : World) (A : Around) (R : Result → Shared → Prop) (g : Comprehension) (it : Value) (env : Env) (I : Nat → Shared → Prop) (act : Nat → Shared → Prop) : Prop := ∀ n s, I n s → wpAny (model prog w) A (pyNext it) (fun r s1 => match r with
    | none => R (.ok .next) s1
    | some v => wpAny (model prog w) A (letOwnedTupleGo g.target it v) (fun _ s2 => wpAny (model prog w) A (assign g.target env v) (fun _ s3 => wpAny (model prog w) A (tstS g.ifs env) (fun ok s4 => if ok = true then act n s4 else ∃ m, m < n ∧ I m s4)
      (notedBy (model prog w) A env fun e s' => R (.error e) s') s3) (notedBy (model prog w) A env fun e s' => R (.error e) s') s2) (notedBy (model prog w) A env fun e s' => R (.error e) s') s1) (notedBy (model prog w) A env fun e s' => R (.error e) s') s
/-- the next clause's walk begins -/
def ActMid (prog : Program) (w : World) (A : Around) (R : Result → Shared → Prop) (e : Expr) (i : Nat) (g1 : Comprehension) (acc : Value) (env : Env) (I : Nat → Shared → Prop) : Nat → Shared → Prop := fun n s4 => wpAny (model prog w) A (eval g1.iter env) (fun x s5 => wpAny (model prog w) A (pyIter x) (fun it1 s6 =>
    codeAny (model prog w) A (.compStart e (i + 1) it1 acc env) (fun r s' => match r with
      | .ok _ => ∃ m, m < n ∧ I m s'
      | .error _ => False) s6) (notedBy (model prog w) A env fun e s' => R (.error e) s') s5) (notedBy (model prog w) A env fun e s' => R (.error e) s') s4
def ActL (prog : Program) (w : World) (A : Around) (R : Result → Shared → Prop) (elt : Expr) (acc : Value) (env : Env) (I : Nat → Shared → Prop) : Nat → Shared → Prop := fun n s4 => wpAny (model prog w) A (eval elt env) (fun x s5 =>
    wpAny (model prog w) A (call (.builtin "list.append") [acc, x]) (fun _ s6 => ∃ m, m < n ∧ I m s6) (notedBy (model prog w) A env fun e s' => R (.error e) s') s5) (notedBy (model prog w) A env fun e s' => R (.error e) s') s4
def ActD (prog : Program) (w : World) (A : Around) (R : Result → Shared → Prop) (kx vx : Expr) (D : Addr) (env : Env) (I : Nat → Shared → Prop) : Nat → Shared → Prop := fun n s4 => wpAny (model prog w) A (eval kx env) (fun kv s5 => wpAny (model prog w) A (eval vx env) (fun vv s6 =>
    wpAny (model prog w) A (dictSet D kv vv) (fun _ s7 => ∃ m, m < n ∧ I m s7) (notedBy (model prog w) A env fun e s' => R (.error e) s') s6) (notedBy (model prog w) A env fun e s' => R (.error e) s') s5) (notedBy (model prog w) A env fun e s' => R (.error e) s') s4
variable {elt kx vx : Expr} {sc : Scope} {pos : Pos} {D : Addr} {n : Nat} {s : Shared}
theorem loopL_last (h0 : gs[i]? = some g) (h1 : gs[i + 1]? = none) (ha : g.is_async = 0) (turn : TurnOk prog w A R g it env I (ActL prog w A R elt acc env I)) (h : I n s) : codeAny (model prog w) A (.compLoop (.ListComp elt gs sc pos) i it acc env) R s := by
  refine codeAny_loop rfl I (fun n s hI => ?_) n h
  show wpAny _ A ((compTurn (.ListComp elt gs sc pos) i it acc env).onRaise (fun x => do noteFrame x env; theTreesLotGoes x)) _ _ s
  refine wpAny_noted ?_
  unfold compTurn
  simp only [h0, h1, ha]
  refine wpAny_bind (wpAny_standAt (wpAny_bind (wpAny_mono (turn n s hI) (fun r s1 q1 => ?_) fun _ _ x => x)))
  cases r with
  | none => exact wpAny_pure q1
  | some v =>
    refine wpAny_bind (wpAny_mono q1 (fun _ s2 q2 => ?_) fun _ _ x => x)
    refine wpAny_bind (wpAny_mono q2 (fun _ s3 q3 => wpAny_bind (wpAny_mono q3 (fun ok s4 q4 => ?_) fun _ _ x => x)) fun _ _ x => x)
    cases ok with
    | false => exact wpAny_pure ⟨rfl, q4⟩
    | true => exact wpAny_bind (wpAny_bind (wpAny_mono q4 (fun x s5 q5 => wpAny_bind (wpAny_mono q5 (fun _ s6 q6 => wpAny_pure (wpAny_pure ⟨rfl, q6⟩)) fun _ _ x => x)) fun _ _ x => x))
theorem loopD_last (h0 : gs[i]? = some g) (h1 : gs[i + 1]? = none) (ha : g.is_async = 0) (turn : TurnOk prog w A R g it env I (ActD prog w A R kx vx D env I)) (h : I n s) : codeAny (model prog w) A (.compLoop (.DictComp kx vx gs sc pos) i it (.ref D) env) R s := by
  refine codeAny_loop rfl I (fun n s hI => ?_) n h
  show wpAny _ A ((compTurn (.DictComp kx vx gs sc pos) i it (.ref D) env).onRaise (fun x => do noteFrame x env; theTreesLotGoes x)) _ _ s
  refine wpAny_noted ?_
  unfold compTurn
  simp only [h0, h1, ha]
  refine wpAny_bind (wpAny_standAt (wpAny_bind (wpAny_mono (turn n s hI) (fun r s1 q1 => ?_) fun _ _ x => x)))
  cases r with
  | none => exact wpAny_pure q1
  | some v =>
    refine wpAny_bind (wpAny_mono q1 (fun _ s2 q2 => ?_) fun _ _ x => x)
    refine wpAny_bind (wpAny_mono q2 (fun _ s3 q3 => wpAny_bind (wpAny_mono q3 (fun ok s4 q4 => ?_) fun _ _ x => x)) fun _ _ x => x)
    cases ok with
    | false => exact wpAny_pure ⟨rfl, q4⟩
    | true => exact wpAny_bind (wpAny_bind (wpAny_mono q4 (fun kv s5 q5 => wpAny_bind (wpAny_holding (wpAny_mono q5 (fun vv s6 q6 => wpAny_bind (wpAny_standAt (wpAny_holding (wpAny_mono q6 (fun _ s7 q7 => wpAny_pure ⟨rfl, q7⟩) fun _ _ x => x)))) fun _ _ x => x))) fun _ _ x => x))
theorem loopL_mid (h0 : gs[i]? = some g) (h1 : gs[i + 1]? = some g1) (ha : g.is_async = 0) (ha1 : g1.is_async = 0) (hs : ∀ x, foldedSetIterable g1.iter env x = pure x) (turn : TurnOk prog w A R g it env I (ActMid prog w A R (.ListComp elt gs sc pos) i g1 (acc) env I)) (h : I n s) : codeAny (model prog w) A (.compLoop (.ListComp elt gs sc pos) i it (acc) env) R s := by
  refine codeAny_loop rfl I (fun n s hI => ?_) n h
  show wpAny _ A ((compTurn (.ListComp elt gs sc pos) i it (acc) env).onRaise (fun x => do noteFrame x env; theTreesLotGoes x)) _ _ s
  refine wpAny_noted ?_
  unfold compTurn
  simp only [h0, h1, ha, ha1]
  refine wpAny_bind (wpAny_standAt (wpAny_bind (wpAny_mono (turn n s hI) (fun r s1 q1 => ?_) fun _ _ x => x)))
  cases r with
  | none => exact wpAny_pure q1
  | some v =>
    refine wpAny_bind (wpAny_mono q1 (fun _ s2 q2 => ?_) fun _ _ x => x)
    refine wpAny_bind (wpAny_mono q2 (fun _ s3 q3 => wpAny_bind (wpAny_mono q3 (fun ok s4 q4 => ?_) fun _ _ x => x)) fun _ _ x => x)
    cases ok with
    | false => exact wpAny_pure ⟨rfl, q4⟩
    | true =>
      refine wpAny_bind (wpAny_mono q4 (fun x s5 q5 => ?_) fun _ _ x => x)
      refine wpAny_bind (wpAny_standAt (wpAny_bind (wpAny_of_eq (hs x) (wpAny_bind (wpAny_holding (wpAny_mono q5 (fun it1 s6 q6 => ?_) fun _ _ x => x))))))
      refine wpAny_bind (wpAny_runOwn ?_)
      rw [Around.mark_none]
      refine codeAny_mono q6 fun r s' hr => ?_
      cases r with
      | ok f => first | exact wpAny_pure ⟨rfl, hr⟩ | exact wpAny_bind (wpAny_pure (wpAny_pure ⟨rfl, hr⟩))
      | error e => exact hr.elim
theorem loopD_mid (h0 : gs[i]? = some g) (h1 : gs[i + 1]? = some g1) (ha : g.is_async = 0) (ha1 : g1.is_async = 0) (hs : ∀ x, foldedSetIterable g1.iter env x = pure x) (turn : TurnOk prog w A R g it env I (ActMid prog w A R (.DictComp kx vx gs sc pos) i g1 (acc) env I)) (h : I n s) : codeAny (model prog w) A (.compLoop (.DictComp kx vx gs sc pos) i it (acc) env) R s := by
  refine codeAny_loop rfl I (fun n s hI => ?_) n h
  show wpAny _ A ((compTurn (.DictComp kx vx gs sc pos) i it (acc) env).onRaise (fun x => do noteFrame x env; theTreesLotGoes x)) _ _ s
  refine wpAny_noted ?_
  unfold compTurn
  simp only [h0, h1, ha, ha1]
  refine wpAny_bind (wpAny_standAt (wpAny_bind (wpAny_mono (turn n s hI) (fun r s1 q1 => ?_) fun _ _ x => x)))
  cases r with
  | none => exact wpAny_pure q1
  | some v =>
    refine wpAny_bind (wpAny_mono q1 (fun _ s2 q2 => ?_) fun _ _ x => x)
    refine wpAny_bind (wpAny_mono q2 (fun _ s3 q3 => wpAny_bind (wpAny_mono q3 (fun ok s4 q4 => ?_) fun _ _ x => x)) fun _ _ x => x)
    cases ok with
    | false => exact wpAny_pure ⟨rfl, q4⟩
    | true =>
      refine wpAny_bind (wpAny_mono q4 (fun x s5 q5 => ?_) fun _ _ x => x)
      refine wpAny_bind (wpAny_standAt (wpAny_bind (wpAny_of_eq (hs x) (wpAny_bind (wpAny_holding (wpAny_mono q5 (fun it1 s6 q6 => ?_) fun _ _ x => x))))))
      refine wpAny_bind (wpAny_runOwn ?_)
      rw [Around.mark_none]
      refine codeAny_mono q6 fun r s' hr => ?_
      cases r with
      | ok f => first | exact wpAny_pure ⟨rfl, hr⟩ | exact wpAny_bind (wpAny_pure (wpAny_pure ⟨rfl, hr⟩))
      | error e => exact hr.elim
theorem startL (h0 : gs[i]? = some g) (ha : g.is_async = 0) (q0 : codeAny (model prog w) A (.compLoop (.ListComp elt gs sc pos) i it acc env) R s) (q : wpAny (model prog w) A (pyIter it) (fun it' s' => codeAny (model prog w) A (.compLoop (.ListComp elt gs sc pos) i it' acc env) R s') (notedBy (model prog w) A env fun x s' => R (.error x) s') s) :
    codeAny (model prog w) A (.compStart (.ListComp elt gs sc pos) i it acc env) R s := by
  refine codeAny_of_tree ?_
  show wpAny _ _ ((compStart (.ListComp elt gs sc pos) i it acc env).onRaise (fun x => do noteFrame x env; standAt theWindowsPlace)) _ _ s
  refine wpAny_notedAt ?_
  unfold compStart
  simp only [clausesOf, h0, ha, Option.elim]
  show wpAny _ _ (ask >>= _) _ _ s
  refine wpAny_bind (wpAny_askSetting (wpAny_ite ?_))
  split
  · first | exact wpAny_bind (wpAny_pure (wpAny_pure (And.intro rfl q0))) | exact wpAny_pure (And.intro rfl q0)
  · first
      | exact wpAny_bind (wpAny_rule (wpAny_bind (wpAny_standAt (wpAny_bind (wpAny_mono q (fun it' s' h' => wpAny_pure (And.intro rfl h')) fun _ _ x => x)))))
      | (refine wpAny_bind (wpAny_rule ?_); show wpAny _ _ (standAt g.iter.pos >>= _) _ _ s; exact wpAny_bind (wpAny_standAt (wpAny_bind (wpAny_mono q (fun it' s' h' => wpAny_pure (And.intro rfl h')) fun _ _ x => x))))
theorem startD (h0 : gs[i]? = some g) (ha : g.is_async = 0) (q0 : codeAny (model prog w) A (.compLoop (.DictComp kx vx gs sc pos) i it acc env) R s) (q : wpAny (model prog w) A (pyIter it) (fun it' s' => codeAny (model prog w) A (.compLoop (.DictComp kx vx gs sc pos) i it' acc env) R s') (notedBy (model prog w) A env fun x s' => R (.error x) s') s) :
    codeAny (model prog w) A (.compStart (.DictComp kx vx gs sc pos) i it acc env) R s := by
  refine codeAny_of_tree ?_
  show wpAny _ _ ((compStart (.DictComp kx vx gs sc pos) i it acc env).onRaise (fun x => do noteFrame x env; standAt theWindowsPlace)) _ _ s
  refine wpAny_notedAt ?_
  unfold compStart
  simp only [clausesOf, h0, ha, Option.elim]
  show wpAny _ _ (ask >>= _) _ _ s
  refine wpAny_bind (wpAny_askSetting (wpAny_ite ?_))
  split
  · first | exact wpAny_bind (wpAny_pure (wpAny_pure (And.intro rfl q0))) | exact wpAny_pure (And.intro rfl q0)
  · first
      | exact wpAny_bind (wpAny_rule (wpAny_bind (wpAny_standAt (wpAny_bind (wpAny_mono q (fun it' s' h' => wpAny_pure (And.intro rfl h')) fun _ _ x => x)))))
      | (refine wpAny_bind (wpAny_rule ?_); show wpAny _ _ (standAt g.iter.pos >>= _) _ _ s; exact wpAny_bind (wpAny_standAt (wpAny_bind (wpAny_mono q (fun it' s' h' => wpAny_pure (And.intro rfl h')) fun _ _ x => x))))
end
end AM
/-! text AmT2 -/
set_option Elab.async false
set_option linter.all false
set_option maxRecDepth 100000
set_option maxHeartbeats 2000000
/-! AmT2: sets of keys (ints and texts, or tuples nested), made by adding. -/
namespace AM
open PySem PySem.Spec PyProof.Rows L2

/-- x is the key k in h; tp: a tuple, else an int or a text -/
structure KV (h : Heap) (tp : Bool) (k : NestedKey) (x : Value) : Prop where
  is : NestedIs h k x
  dp : k.depth ≤ 8
  so : (tp = true ∧ ∃ b, x = .ref b) ∨ (tp = false ∧ ((∃ i t, k = .num i ∧ x = .int i t) ∨ ∃ y t, k = .text y ∧ x = .str y t))
/-- a key without tuples, as the dicts' keys are -/
def kk : NestedKey → Key
  | .num i => .inl i
  | .text y => .inr y
  | _ => .inl 0
section
variable {P : Program} {w : World} {A : Around} {E : Value → Shared → Prop} {s : Shared} {h h' : Heap} {tp : Bool} {k k' : NestedKey} {x : Value}
theorem KV.keep (K : KV h tp k x) (hk : ∀ a o vs n, h.get? a = some o → o.data = .seq vs n → h'.get? a = some o) : KV h' tp k x := ⟨NestedIs.at hk k x K.is, K.dp, K.so⟩
theorem KV.beside {a : Addr} {o : Obj} {es : Array (Int × Value)} {ep : Nat} {t : SetTable} (K : KV h tp k x) (ho : h.get? a = some o) (hd : o.data = .set es ep t) (sb : Heap.SameBut a h h') : KV h' tp k x := by
  refine K.keep fun b ob vs n hb hs => (sb.2 b fun e => ?_).trans hb
  rw [e, ho] at hb
  rw [← Option.some.inj hb, hd] at hs
  cases hs
theorem KV.mix (K : KV h false k x) : (mixKind P w).is (kk k) x = true ∧ (mixKind P w).hash (kk k) = k.hash w ∧ x.scannable = true := by
  rcases K.so with ⟨c, _⟩ | ⟨_, ⟨i, t, rfl, rfl⟩ | ⟨y, t, rfl, rfl⟩⟩
  · cases c
  · exact ⟨keyIs_int i t, rfl, rfl⟩
  · exact ⟨keyIs_str y t, rfl, rfl⟩
theorem KV.kk_inj {x' : Value} (K : KV h false k x) (K' : KV h' false k' x') (e : kk k = kk k') : k = k' := by
  rcases K.so with ⟨c, _⟩ | ⟨_, ⟨i, t, rfl, _⟩ | ⟨y, t, rfl, _⟩⟩
  · cases c
  · rcases K'.so with ⟨c, _⟩ | ⟨_, ⟨j, u, rfl, _⟩ | ⟨z, u, rfl, _⟩⟩
    · cases c
    · exact congrArg NestedKey.num (Sum.inl.inj e)
    · cases e
  · rcases K'.so with ⟨c, _⟩ | ⟨_, ⟨j, u, rfl, _⟩ | ⟨z, u, rfl, _⟩⟩
    · cases c
    · cases e
    · exact congrArg NestedKey.text (Sum.inr.inj e)

/-! ### asked of keys -/
mutual
theorem cls_key : ∀ (k : NestedKey) (v : Value) (n : Nat) (s : Shared) (Q : Bool → Shared → Prop), NestedIs s.heap k v → k.depth ≤ n → Q false s → wpAny (model P w) A (ofAClassStatement n v) Q E s
  | .none, _, n, s, Q, x, _, q => by cases x; cases n <;> exact wpAny_pure q
  | .num i, _, n, s, Q, x, _, q => by cases x <;> cases n <;> exact wpAny_pure q
  | .text y, _, n, s, Q, x, _, q => by cases x; cases n <;> exact wpAny_pure q
  | .tup ks, _, 0, s, Q, x, d, q => by simp [NestedKey.depth] at d
  | .tup ks, _, n + 1, s, Q, x, d, q => by
    cases x with
    | @tup a o vs c ks hg hc hd hk =>
      have hT : s.TypeIs (.ref a) "tuple" := ⟨o, hg, hc⟩
      simp only [NestedKey.depth] at d
      unfold ofAClassStatement
      refine wpAny_bind (wpAny_typeOf hT ?_)
      dsimp only
      simp only [show (("tuple" : String) == "tuple") = true from by decide, if_true, Bool.not_true, Bool.false_eq_true, if_false]
      try refine wpAny_bind (wpAny_pure ?_)
      try simp only [Bool.not_true, Bool.false_eq_true, if_false]
      refine wpAny_bind (m := seqItems? (.ref a)) (wpAny_seqItems hg hd ?_)
      dsimp only
      refine wpAny_bind ?_
      rw [← Array.forIn_toList]
      refine cls_keys ks vs.toList n s _ hk (by omega) ?_
      exact wpAny_pure q
theorem cls_keys : ∀ (ks : List NestedKey) (vs : List Value) (n : Nat) (s : Shared) (Q : Option Bool × Unit → Shared → Prop), NestedAll s.heap ks vs → NestedKey.depthAll ks ≤ n → Q (none, ()) s →
    wpAny (model P w) A (forIn vs ((none, ()) : Option Bool × Unit) fun y r => do if (← ofAClassStatement n y) = true then pure (ForInStep.done (some true, ())) else pure (ForInStep.yield (none, ()))) Q E s
  | [], _, n, s, Q, x, _, q => by cases x; exact wpAny_pure q
  | k :: ks, _, n, s, Q, x, d, q => by
    cases x with
    | cons x1 x2 =>
      simp only [NestedKey.depthAll] at d
      rw [List.forIn_cons]
      refine wpAny_bind (wpAny_bind (cls_key k _ n s _ x1 (by omega) ?_))
      simp only [Bool.false_eq_true, if_false]
      exact wpAny_pure (cls_keys ks _ n s Q x2 (by omega) q)
end
theorem hbv_key : ∀ (n : Nat) (k : NestedKey) (v : Value) (s : Shared) (Q : Bool → Shared → Prop), NestedIs s.heap k v → (∀ b, Q b s) → wpAny (model P w) A (hashByValue n v) Q E s
  | n, .none, _, s, Q, x, q => by cases x; cases n <;> exact wpAny_pure (q _)
  | n, .num i, _, s, Q, x, q => by cases x <;> cases n <;> exact wpAny_pure (q _)
  | n, .text y, _, s, Q, x, q => by cases x; cases n <;> exact wpAny_pure (q _)
  | 0, .tup ks, _, s, Q, x, q => by cases x; exact wpAny_pure (q _)
  | n + 1, .tup ks, _, s, Q, x, q => by
    cases x with
    | @tup a o vs c ks hg hc hd hk =>
      unfold hashByValue
      refine wpAny_bind (wpAny_specialOf (T := "tuple") ⟨o, hg, hc⟩ F.slot_tuple_hash.lookup ?_)
      refine wpAny_bind (m := seqItems? (.ref a)) (wpAny_seqItems hg hd ?_)
      refine wpAny_bind ?_
      rw [← Array.forIn_toList]
      have all : ∀ {ks : List NestedKey} {vs : List Value}, NestedAll s.heap ks vs → ∀ v ∈ vs, ∃ k, NestedIs s.heap k v := fun {ks vs} y => by
        induction vs generalizing ks with
        | nil => intro v m; cases m
        | cons u r ih =>
          cases y with
          | cons y1 y2 =>
            intro v m
            rcases List.mem_cons.mp m with e | m
            · rw [e]; exact ⟨_, y1⟩
            · exact ih y2 v m
      refine wpAny_forIn_list _ (fun l r s' => r.1 = none ∧ s' = s ∧ ∀ v ∈ l, ∃ k, NestedIs s.heap k v) _ ?_ ?_ _ _ ⟨rfl, rfl, all hk⟩
      · rintro v l r s' ⟨h1, rfl, h3⟩
        obtain ⟨k, hv⟩ := h3 v List.mem_cons_self
        refine wpAny_bind (hbv_key n k v s' _ hv fun b => ?_)
        cases b
        · exact wpAny_pure (wpAny_pure (q _))
        · exact wpAny_bind (wpAny_pure (wpAny_pure ⟨rfl, rfl, fun v m => h3 v (List.mem_cons_of_mem _ m)⟩))
      · rintro ⟨r1, r2⟩ s' ⟨h1, rfl, _⟩
        obtain rfl : r1 = none := h1
        exact wpAny_pure (q _)
/-- a search among keys shows nothing -/
theorem seen_key (K : KV s.heap tp k x) {ys : List Value} (hy : ∀ y ∈ ys, ∃ k, KV s.heap tp k y) {Q : Bool → Shared → Prop} (q : Q false s) : wpAny (model P w) A (searchCouldBeSeen x ys) Q E s := by
  have quiet : ∀ {k : NestedKey} {y : Value} {Q : Bool → Shared → Prop}, KV s.heap tp k y → Q true s → wpAny (model P w) A (eqIsQuiet 8 y) Q E s := fun K q => quiet_key _ _ 8 s K.is K.dp _ _ _ q
  have cls : ∀ {k : NestedKey} {y : Value} {Q : Bool → Shared → Prop}, KV s.heap tp k y → Q false s → wpAny (model P w) A (ofAClassStatement 8 y) Q E s := fun K q => cls_key _ _ 8 s _ K.is K.dp q
  unfold searchCouldBeSeen
  refine wpAny_bind ?_
  refine wpAny_forIn_list _ (fun l r s' => r.1 = none ∧ s' = s ∧ ∀ y ∈ l, ∃ k, KV s.heap tp k y) _ ?_ ?_ _ _ ⟨rfl, rfl, hy⟩
  · rintro y l r s' ⟨h1, rfl, h3⟩
    obtain ⟨k', K'⟩ := h3 y List.mem_cons_self
    have more : ∀ y ∈ l, ∃ k, KV s'.heap tp k y := fun y m => h3 y (List.mem_cons_of_mem _ m)
    dsimp only
    generalize (_ || carriedByValue x && carriedByValue y) = b
    cases b
    · refine wp_if_neg (by decide) ?_
      refine wpAny_bind (quiet K ?_)
      simp only [Bool.not_true, Bool.false_eq_true, if_false]
      refine wpAny_bind (quiet K' ?_)
      simp only [Bool.not_true, Bool.false_eq_true, if_false]
      refine wpAny_bind (cls K ?_)
      simp only [Bool.false_eq_true, if_false]
      refine wpAny_bind (cls K' ?_)
      simp only [Bool.false_eq_true, if_false]
      exact wpAny_pure ⟨rfl, rfl, more⟩
    · exact wp_if_pos rfl (wpAny_pure ⟨rfl, rfl, more⟩)
  · rintro ⟨r1, r2⟩ s' ⟨h1, rfl, _⟩
    obtain rfl : r1 = none := h1
    exact wpAny_pure q
end
end AM
/-! text AmT3 -/
set_option Elab.async false
set_option linter.all false
set_option maxRecDepth 100000
set_option maxHeartbeats 2000000
/-! AmT3: the set of keys; a key sought, a key added. -/
namespace AM
open PySem PySem.Spec PyProof.Rows L2

/-- an entry -/
abbrev rowK (w : World) (p : NestedKey × Value) : Int × Value := (p.1.hash w, p.2)
abbrev hsK (w : World) (L : List (NestedKey × Value)) : List Int := L.map fun p => p.1.hash w
/-- the set at a: its entries L, in the table's order -/
structure SetW (w : World) (h : Heap) (a : Addr) (tp : Bool) (L : List (NestedKey × Value)) (es : Array (Int × Value)) (ep : Nat) (t : SetTable) : Prop where
  ob : ∃ o, h.get? a = some o ∧ o.ExactSet ∧ o.data = .set es ep t
  rows : es.toList = L.map (rowK w)
  nd : (L.map Prod.fst).Nodup
  kv : ∀ p ∈ L, KV h tp p.1 p.2
  led : w.params.followText "set-order" = true ∨ t.led = true
  few : L.length < 64
  fits : t.fits es.size = true
  ris : Ris t.place.toList
  tab : tp = true → L2.TabOk t (hsK w L) ∧ L.length * 5 < t.mask * 3
section
variable {P : Program} {w : World} {A : Around} {E : Value → Shared → Prop} {s : Shared} {h h' : Heap} {tp : Bool} {k k' : NestedKey} {x : Value} {a : Addr} {L : List (NestedKey × Value)} {es : Array (Int × Value)} {ep : Nat} {t : SetTable}
theorem SetW.size (S : SetW w h a tp L es ep t) : es.size = L.length := by
  rw [← Array.length_toList, S.rows, List.length_map]
theorem SetW.at (S : SetW w h a tp L es ep t) {i : Nat} {p : NestedKey × Value} (e : L[i]? = some p) : es[i]? = some (rowK w p) := by
  rw [← Array.getElem?_toList, S.rows, List.getElem?_map, e]; rfl
theorem SetW.keep (S : SetW w h a tp L es ep t) (ha : ∀ o, h.get? a = some o → h'.get? a = some o) (hk : ∀ p ∈ L, KV h' tp p.1 p.2) : SetW w h' a tp L es ep t := by
  obtain ⟨o, e, r⟩ := S.ob
  exact { S with ob := ⟨o, ha o e, r⟩, kv := hk }
theorem setW_new (tp : Bool) (e : h.get? a = some { cls := .type "set", dict := none, data := .set #[] 0 (.fresh 0 0 (!w.params.followText "set-order")) }) : SetW w h a tp [] #[] 0 (.fresh 0 0 (!w.params.followText "set-order")) where
  ob := ⟨_, e, ⟨rfl, rfl, rfl⟩, rfl⟩
  rows := rfl
  nd := .nil
  kv := fun _ m => nomatch m
  led := by cases c : w.params.followText "set-order" <;> simp [SetTable.fresh]
  few := by decide
  fits := rfl
  ris := .nil
  tab := fun _ => ⟨⟨.nil, rfl, rfl, .inl rfl, fun _ m => (by cases m), fun i h j e => (by simp at e)⟩, by show 0 * 5 < 7 * 3; decide⟩
/-- no dummy is met on a way that begins without -/
theorem nth_dm (m : Nat) : ∀ (c : Nat) (p : SetTable.Probe), p.dummy = none → (nth m p c).dummy = none
  | 0, _, e => e
  | c + 1, p, e => nth_dm m c (adv m p) (by unfold adv; split <;> exact e)

/-- from the c-th step of the way on: the key is there, or the way's first free slot is met -/
theorem seek (S : SetW w s.heap a true L es ep t) (K : KV s.heap true k x) (hu : A.units + 8 < cLine) {n : Nat} (n1 : n < 10 * SetTable.turns t.mask) (n2 : way t.mask (k.hash w) n ∉ t.place.toList)
    (n3 : ∀ c, c < n → way t.mask (k.hash w) c ∈ t.place.toList) {Q : SetFound → Shared → Prop} (yes : k ∈ L.map Prod.fst → Q (.there none) s) (no : k ∉ L.map Prod.fst → Q (.free (way t.mask (k.hash w) n) false) s) :
    ∀ (f c : Nat) (st : Option SetTable.Probe), st.getD (t.probeStart (k.hash w)) = nth t.mask (t.probeStart (k.hash w)) c → c ≤ n → n - c < f →
      (∀ (i : Nat) (p : NestedKey × Value), L[i]? = some p → p.1 = k → ∃ d, c ≤ d ∧ d < n ∧ t.place.toList[i]? = some (way t.mask (k.hash w) d)) → wpAny (model P w) A (setSearchFrom a x (k.hash w) true f st) Q E s
  | 0, _, _, _, _, h0, _ => absurd h0 (Nat.not_lt_zero _)
  | f + 1, c, st, hst, hc, hf, hw => by
    obtain ⟨o, ho, hx, hd⟩ := S.ob
    have T := (S.tab rfl).1
    rw [setSearchFrom_succ]
    refine wpAny_bind (wpAny_setState_of ho hd S.fits ?_)
    dsimp only
    refine wp_if_neg (by unfold SetTable.gaveWay; rw [mask_odd T.mok]; decide) ?_
    try refine wpAny_bind (wpAny_pure ?_)
    have jj : ∀ q, (nth t.mask (nth t.mask (t.probeStart (k.hash w)) c) q).j = way t.mask (k.hash w) (c + q) := fun q => congrArg SetTable.Probe.j (nth_add t.mask c (t.probeStart (k.hash w)) q).symm
    have met := go_spec t T.ris T.dm (fun i => (es[i]?.map (·.1)).getD 0) (k.hash w) (10 * SetTable.turns t.mask) (n - c) _ (nth_dm t.mask c (t.probeStart (k.hash w)) rfl) (by omega)
      (fun q m => by rw [jj]; exact n3 _ (by omega)) (by rw [jj, Nat.add_sub_cancel' hc]; exact n2)
    rw [← hst] at met
    have hsh : ∀ {i : Nat} {p : NestedKey × Value}, L[i]? = some p → (es[i]?.map (·.1)).getD 0 = p.1.hash w := fun e => by rw [S.at e]; rfl
    rcases met with ⟨q, i, m1, m2, m3, m4, m5⟩ | ⟨m4, m5⟩
    · have pr : t.probe (fun i => (es[i]?.map (·.1)).getD 0) (k.hash w) (st.getD (t.probeStart (k.hash w))) = some (.candidate (way t.mask (k.hash w) (c + q)) i (nth t.mask (t.probeStart (k.hash w)) (c + (q + 1)))) := by
        rw [← jj, nth_add, ← hst]; exact m5
      rw [pr]
      dsimp only
      rw [hst, jj] at m2
      have il : i < L.length := by
        have b1 := (List.getElem?_eq_some_iff.mp m2).1
        have b2 := T.sz
        rw [Array.length_toList] at b1
        rw [List.length_map] at b2
        omega
      obtain ⟨p, hp⟩ : ∃ p, L[i]? = some p := ⟨_, List.getElem?_eq_getElem il⟩
      have pm := List.mem_of_getElem? hp
      have here : t.slot (way t.mask (k.hash w) (c + q)) = .live i := slot_live T.ris m2
      have tail : wpAny (model P w) A (searchRest a x (k.hash w) true f es t (way t.mask (k.hash w) (c + q)) i (nth t.mask (t.probeStart (k.hash w)) (c + (q + 1)))) Q E s := by
        unfold searchRest
        rw [S.at hp]
        dsimp only
        refine wpAny_bind (wpAny_holding (eqAt_key p.1 k A s _ _ (S.kv p pm).is K.is (by have := (S.kv p pm).dp; omega) _ _ _ _ ?_))
        refine wpAny_bind (wpAny_setState_of ho hd S.fits ?_)
        dsimp only
        rw [← NestedKey.decide_eq]
        by_cases e : p.1 = k
        · exact wp_if_pos (by simp [e]) (wpAny_pure (yes (List.mem_map.mpr ⟨p, pm, e⟩)))
        · refine wp_if_neg (by simp [e]) ?_
          try refine wpAny_bind (wpAny_pure ?_)
          rw [sameMem]
          dsimp only
          simp only [if_true, here, S.at hp]
          obtain ⟨b, hb⟩ : ∃ b, p.2 = .ref b := by
            rcases (S.kv p pm).so with ⟨_, z⟩ | ⟨z, _⟩
            · exact z
            · cases z
          rw [hb]
          refine wpAny_bind (wpAny_isSame_ref_self (wpAny_bind (wpAny_pure ?_)))
          simp only [if_true]
          refine wp_if_neg (by simp [e]) ?_
          refine seek S K hu n1 n2 n3 yes no f (c + (q + 1)) _ rfl (by omega) (by omega) fun i' p' e1 e2 => ?_
          obtain ⟨d, d1, d2, d3⟩ := hw i' p' e1 e2
          refine ⟨d, ?_, d2, d3⟩
          rcases Nat.lt_trichotomy d (c + q) with z | z | z
          · refine absurd ((hsh e1).trans (by rw [e2])) (m4 (d - c) i' (by omega) ?_)
            rw [hst, jj, Nat.add_sub_cancel' d1]; exact d3
          · subst z
            have := (slot_live T.ris d3).symm.trans here
            injection this with this
            subst this
            rw [hp] at e1
            exact absurd ((congrArg Prod.fst (Option.some.inj e1)).trans e2) e
          · omega
      cases hl : t.led with
      | true =>
        refine wp_if_neg (by decide) ?_
        try refine wpAny_bind (wpAny_pure ?_)
        exact tail
      | false =>
        refine wp_if_pos (by decide) ?_
        refine wpAny_bind (seen_key K (fun y m => ?_) ?_)
        · obtain ⟨e, me, rfl⟩ := List.mem_map.mp m
          have me : e ∈ es := by simp at me; exact me.1
          have me2 : e ∈ es.toList := by simpa using me
          rw [S.rows] at me2
          obtain ⟨p2, z1, rfl⟩ := List.mem_map.mp me2
          exact ⟨p2.1, S.kv p2 z1⟩
        · refine wp_if_neg (by decide) ?_
          try refine wpAny_bind (wpAny_pure ?_)
          exact tail
    · have pr : t.probe (fun i => (es[i]?.map (·.1)).getD 0) (k.hash w) (st.getD (t.probeStart (k.hash w))) = some (.empty (way t.mask (k.hash w) n) none) := by
        have e := jj (n - c)
        rw [Nat.add_sub_cancel' hc] at e
        rw [← e, ← hst]; exact m5
      rw [pr]
      dsimp only
      refine wpAny_pure (no fun m => ?_)
      obtain ⟨p, z1, z2⟩ := List.mem_map.mp m
      obtain ⟨i, z3⟩ := List.mem_iff_getElem?.mp z1
      obtain ⟨d, d1, d2, d3⟩ := hw i p z3 z2
      refine absurd ((hsh z3).trans (by rw [z2])) (m4 (d - c) i (by omega) ?_)
      rw [hst, jj, Nat.add_sub_cancel' d1]; exact d3
/-- as adding asks -/
theorem seek_all (S : SetW w s.heap a true L es ep t) (K : KV s.heap true k x) (hu : A.units + 8 < cLine) {Q : SetFound → Shared → Prop} (yes : k ∈ L.map Prod.fst → Q (.there none) s)
    (no : ∀ n, k ∉ L.map Prod.fst → way t.mask (k.hash w) n ∉ t.place.toList → (∀ c, c < n → way t.mask (k.hash w) c ∈ t.place.toList) → Q (.free (way t.mask (k.hash w) n) false) s) :
    wpAny (model P w) A (setSearch a x (k.hash w) true) Q E s := by
  have T := (S.tab rfl).1
  have rm := (S.tab rfl).2
  obtain ⟨n, n1, n2, n3⟩ := T.first (by rw [List.length_map]; omega) (k.hash w)
  have small : n < 100000 := by
    have : SetTable.turns t.mask ≤ 142 := by unfold SetTable.turns; rcases T.mok with e | e | e <;> omega
    omega
  refine seek S K hu n1 n2 n3 yes (fun z => no n z n2 n3) 100000 0 none rfl (Nat.zero_le _) small fun i p e1 e2 => ?_
  have e3 : (hsK w L)[i]? = some (k.hash w) := by rw [List.getElem?_map, e1, ← e2]; rfl
  have il : i < t.place.toList.length := by
    have := (List.getElem?_eq_some_iff.mp e3).1
    rw [Array.length_toList, T.sz]; exact this
  obtain ⟨d, d1, d2⟩ := T.before n2 e3 (List.getElem?_eq_getElem il)
  exact ⟨d, Nat.zero_le _, d1, by rw [d2]; exact List.getElem?_eq_getElem il⟩
end
end AM
/-! text AmT4 -/
set_option Elab.async false
set_option linter.all false
set_option maxRecDepth 100000
set_option maxHeartbeats 2000000
/-! AmT4: a key added. -/
namespace AM
open PySem PySem.Spec PyProof.Rows L2
section
variable {P : Program} {w : World} {A : Around} {E : Value → Shared → Prop} {s : Shared} {h h' : Heap} {tp : Bool} {k k' : NestedKey} {x : Value} {a : Addr} {L : List (NestedKey × Value)} {es : Array (Int × Value)} {ep : Nat} {t : SetTable}
/-- entries taken in another order -/
theorem pick_rows {es : Array (Int × Value)} (hr : es.toList = L.map (rowK w)) {ix : Array Nat} (pm : ix.toList.Perm (List.range L.length)) :
    ∃ M, (ix.filterMap (es[·]?)).toList = M.map (rowK w) ∧ M.Perm L ∧ hsK w M = ix.toList.map fun i => (es.map (·.1)).getD i 0 := by
  refine ⟨ix.toList.filterMap (L[·]?), ?_, ?_, ?_⟩
  · rw [Array.toList_filterMap, List.map_filterMap]
    congr 1
    funext i
    rw [← Array.getElem?_toList, hr, List.getElem?_map]
  · refine (pm.filterMap _).trans (List.Perm.of_eq ?_)
    exact PySem.List.filterMap_getElem?_range_length L
  · have : ∀ l : List Nat, (∀ i ∈ l, i < L.length) → hsK w (l.filterMap (L[·]?)) = l.map fun i => (es.map (·.1)).getD i 0 := by
      intro l
      induction l with
      | nil => intro _; rfl
      | cons i l ih =>
        intro hl
        have il := hl i List.mem_cons_self
        have e : es[i]? = some (rowK w L[i]) := by rw [← Array.getElem?_toList, hr, List.getElem?_map, List.getElem?_eq_getElem il]; rfl
        rw [List.filterMap_cons_some (List.getElem?_eq_getElem il), List.map_cons, ← ih fun j m => hl j (List.mem_cons_of_mem _ m)]
        show L[i].1.hash w :: _ = _
        congr 1
        simp [Array.getD_eq_getD_getElem?, e]
    exact this _ fun i m => List.mem_range.mp (pm.mem_iff.mp m)
/-- the table laid anew -/
theorem relay_key {o : Obj} (ho : s.heap.get? a = some o) (hx : o.ExactSet) (hd : o.data = .set es ep t) (hr : es.toList = L.map (rowK w)) (ft : t.fits es.size = true) (nd : (L.map Prod.fst).Nodup) (kv : ∀ p ∈ L, KV s.heap true p.1 p.2)
    (ld : w.params.followText "set-order" = true ∨ t.led = true) (few : L.length < 64) {n M : Nat} (hM : SetTable.sizeAbove n = M + 1) (mk : MaskOk M) (rm : L.length * 5 < M * 3) {Q : Unit → Shared → Prop}
    (q : ∀ h' L' es' ep' t', Heap.SameBut a s.heap h' → SetW w h' a true L' es' ep' t' → L'.Perm L → Q () { s with heap := h' }) : wpAny (model P w) A (setRelay a n) Q E s := by
  have sz : es.size = L.length := by rw [← Array.length_toList, hr, List.length_map]
  have mb : M ≤ 127 := by rcases mk with e | e | e <;> omega
  obtain ⟨t', ix, e1, e2, e3, e4, e5, _, e7⟩ := relaid_ok t (hs := es.map (·.1)) (wanted := n) (M := M) (by omega) mk (by rw [Array.size_map, sz]; omega)
  rw [Array.size_map, sz] at e2
  obtain ⟨L', r1, r2, r3⟩ := pick_rows hr e2
  rw [← r3] at e3
  have sz' : (ix.filterMap (es[·]?)).size = L.length := by rw [← Array.length_toList, r1, List.length_map, r2.length_eq]
  rw [setRelay_eq]
  refine wpAny_bind (wpAny_setState_of ho hd ft ?_)
  dsimp only
  refine wp_if_neg (by rw [sizeLine_eq]; omega) ?_
  try refine wpAny_bind (wpAny_pure ?_)
  rw [e1]
  dsimp only
  refine wpAny_bind ?_
  refine wp_if_neg (by simp [sz', sz]) ?_
  try refine wpAny_bind (wpAny_pure ?_)
  refine wpAny_pure ?_
  dsimp only
  have sb : Heap.SameBut a s.heap (s.heap.update a (Obj.putSet (ix.filterMap (es[·]?)) t')) := Heap.SameBut.update ..
  refine wpAny_storeSet_of ho hd (q _ L' (ix.filterMap (es[·]?)) (ep + 1) t' sb ?_ r2) (by rw [sz', sizeLine_eq]; omega)
  refine ⟨⟨_, store_at ho hd, ⟨hx.1, hx.2.1, hx.2.2⟩, rfl⟩, r1, (r2.map _).nodup_iff.mpr nd, fun p m => (kv p (r2.mem_iff.mp m)).beside ho hd sb, by rw [e5]; exact ld, by rw [r2.length_eq]; exact few, ?_, e3.ris, fun _ => ⟨e3, by rw [r2.length_eq, e4]; exact rm⟩⟩
  have e8 := e3.sz
  rw [List.length_map, r2.length_eq] at e8
  unfold SetTable.fits SetTable.fill
  rw [e7, Bool.and_eq_true, beq_iff_eq, decide_eq_true_eq, sz', e8, e4]
  exact ⟨rfl, by show L.length + 0 ≤ M; omega⟩
/-- a tuple added -/
theorem add_tup (S : SetW w s.heap a true L es ep t) (K : KV s.heap true k x) (hu : A.units + 8 < cLine) (room : L.length + 1 < 64) {Q : Bool → Shared → Prop}
    (q : ∀ b h' L' es' ep' t', Heap.SameBut a s.heap h' → SetW w h' a true L' es' ep' t' → (k ∈ L.map Prod.fst → L' = L) → (k ∉ L.map Prod.fst → L'.Perm ((k, x) :: L)) → Q b { s with heap := h' }) :
    wpAny (model P w) A (setAddHashed a x (k.hash w)) Q E s := by
  obtain ⟨o, ho, hx, hd⟩ := S.ob
  have T := (S.tab rfl).1
  have rm := (S.tab rfl).2
  have sz := S.size
  obtain ⟨b, rfl⟩ : ∃ b, x = .ref b := by
    rcases K.so with ⟨_, z⟩ | ⟨z, _⟩
    · exact z
    · cases z
  unfold setAddHashed
  refine wpAny_holding ?_
  rw [show (100000 : Nat) = 99999 + 1 from rfl, setAddHashedIn_succ]
  refine wpAny_bind (wpAny_setState_of ho hd S.fits ?_)
  dsimp only
  refine wp_if_neg (by simp [byScan, Value.scannable]) ?_
  try refine wpAny_bind (wpAny_pure ?_)
  refine wpAny_bind (seek_all S K hu (fun m => ?_) fun n m n2 n3 => ?_)
  · exact wpAny_pure (q false s.heap L es ep t (Heap.SameBut.refl a s.heap) S (fun _ => rfl) fun z => absurd m z)
  dsimp only
  refine wpAny_bind (wpAny_setState_of ho hd S.fits ?_)
  dsimp only
  obtain ⟨p1, p2, p3, p4, p5, p6, p7, p8, p9⟩ := T.put n2 n3
  generalize t.put (way t.mask (k.hash w) n) = pt at p1 p3 p4 p5 p6 p7 p8 p9 ⊢
  obtain ⟨t1, c⟩ := pt
  dsimp only at p1 p3 p4 p5 p6 p7 p8 p9 ⊢
  subst p1
  generalize SetTable.below t.place (way t.mask (k.hash w) n) = c at p2 p3 ⊢
  have pm : (L.take c ++ (k, Value.ref b) :: L.drop c).Perm ((k, Value.ref b) :: L) := by
    refine List.perm_middle.trans ?_
    rw [List.take_append_drop]
  have hin : (SetTable.insertAt es c (k.hash w, Value.ref b)).toList = (L.take c ++ (k, Value.ref b) :: L.drop c).map (rowK w) := by
    rw [SetTable.toList_insertAt, S.rows, List.map_append, List.map_cons, List.map_take, List.map_drop]
  have hh : (hsK w L).take c ++ k.hash w :: (hsK w L).drop c = hsK w (L.take c ++ (k, Value.ref b) :: L.drop c) := by
    rw [hsK, hsK, List.map_append, List.map_cons, List.map_take, List.map_drop]
  rw [hh] at p3
  generalize L.take c ++ (k, Value.ref b) :: L.drop c = L1 at pm hin p3
  have len : L1.length = L.length + 1 := pm.length_eq
  generalize SetTable.insertAt es c (k.hash w, Value.ref b) = es1 at hin ⊢
  have sz1 : es1.size = L.length + 1 := by rw [← Array.length_toList, hin, List.length_map, len]
  have nd1 : (L1.map Prod.fst).Nodup := (pm.map Prod.fst).nodup_iff.mpr (List.nodup_cons.mpr ⟨m, S.nd⟩)
  have ld1 : w.params.followText "set-order" = true ∨ t1.led = true := by rw [p5]; exact S.led
  have T1 := p3
  have sp := T1.sz
  rw [List.length_map, len] at sp
  -- what follows, whatever `plain` says
  have rest : ∀ t2 : SetTable, t2.place = t1.place → t2.dummies = t1.dummies → t2.mask = t1.mask → t2.led = t1.led → L2.TabOk t2 (hsK w L1) → wpAny (model P w) A (do
      storeSet a es1 t2
      if (!false && t2.tooFull) = true then do
          setRelay a (SetTable.grown (es.size + 1))
          pure true
        else pure true) Q E s := by
    intro t2 f1 f2 f3 f4 T2
    refine wpAny_bind (wpAny_storeSet_of ho hd ?_ (by rw [sz1, sizeLine_eq]; omega))
    have sb : Heap.SameBut a s.heap (s.heap.update a (Obj.putSet es1 t2)) := Heap.SameBut.update ..
    have ho1 := store_at (es' := es1) (t' := t2) ho hd
    generalize s.heap.update a (Obj.putSet es1 t2) = h1 at sb ho1 ⊢
    have kv1 : ∀ p ∈ L1, KV h1 true p.1 p.2 := fun p z => by
      rcases List.mem_cons.mp (pm.mem_iff.mp z) with e | z
      · rw [e]; exact K.beside ho hd sb
      · exact (S.kv p z).beside ho hd sb
    have fill2 : t2.fill = L.length + 1 := by
      unfold SetTable.fill
      rw [T2.sz, T2.dm, List.length_map, len]
      rfl
    have ft : t2.fits es1.size = true := by
      unfold SetTable.fits
      rw [fill2, Bool.and_eq_true, beq_iff_eq, decide_eq_true_eq, sz1, f1, sp, f3, p4]
      exact ⟨rfl, by omega⟩
    cases hf : t2.tooFull with
    | true =>
      simp only [Bool.not_false, Bool.and_self, if_true]
      refine wpAny_bind ?_
      have hf : (L.length + 1) * 5 ≥ t.mask * 3 := by
        unfold SetTable.tooFull at hf
        rw [decide_eq_true_eq, fill2, f3, p4] at hf
        exact hf
      have two : ∃ M, SetTable.sizeAbove (SetTable.grown (es.size + 1)) = M + 1 ∧ MaskOk M ∧ L1.length * 5 < M * 3 := by
        rw [sz, len]
        rcases T.mok with e | e | e
        · have : L.length = 4 := by omega
          exact ⟨31, by rw [this]; exact size_20, .inr (.inl rfl), by omega⟩
        · have : L.length = 18 := by omega
          exact ⟨127, by rw [this]; exact size_76, .inr (.inr rfl), by omega⟩
        · omega
      obtain ⟨M, w1, w2, w3⟩ := two
      refine relay_key (s := { s with heap := h1 }) ho1 ⟨hx.1, hx.2.1, hx.2.2⟩ rfl hin ft nd1 kv1 (by rw [f4]; exact ld1) (by omega) w1 w2 w3 fun h2 L2 es2 ep2 t3 sb2 S2 pm2 => ?_
      exact wpAny_pure (q true h2 L2 es2 ep2 t3 (sb.trans sb2) S2 (fun z => absurd z m) fun _ => pm2.trans pm)
    | false =>
      simp only [Bool.and_false, Bool.false_eq_true, if_false]
      refine wpAny_pure (q true h1 L1 es1 (ep + 1) t2 sb ⟨⟨_, ho1, ⟨hx.1, hx.2.1, hx.2.2⟩, rfl⟩, hin, nd1, kv1, by rw [f4]; exact ld1, by omega, ft, T2.ris, fun _ => ⟨T2, ?_⟩⟩ (fun z => absurd z m) fun _ => pm)
      unfold SetTable.tooFull at hf
      rw [decide_eq_false_iff_not, fill2] at hf
      omega
  by_cases pl : t1.plain = true
  · first
      | (refine wpAny_bind ?_; refine wp_if_pos pl ?_; refine hbv_key 8 k _ s _ K.is fun v => ?_)
      | refine wp_if_pos pl (wpAny_bind (hbv_key 8 k _ s _ K.is fun v => ?_))
    cases v with
    | true => exact rest t1 rfl rfl rfl rfl T1
    | false => exact rest { t1 with plain := false } rfl rfl rfl rfl ⟨T1.ris, T1.dm, T1.sz, T1.mok, T1.bd, T1.reach⟩
  · first
      | (refine wpAny_bind ?_; refine wp_if_neg pl ?_; refine wpAny_pure ?_)
      | refine wp_if_neg pl (wpAny_bind (wpAny_pure ?_))
    exact rest t1 rfl rfl rfl rfl T1
end
end AM
/-! text AmT5 -/
set_option Elab.async false
set_option linter.all false
set_option maxRecDepth 100000
set_option maxHeartbeats 2000000
/-! AmT5: an int or a text added; the adding of a whole row. -/
namespace AM
open PySem PySem.Spec PyProof.Rows L2
theorem perm_map_inv {α β : Type} {f : α → β} {l m : List β} (p : l.Perm m) : ∀ M : List α, m = M.map f → ∃ N : List α, N.Perm M ∧ l = N.map f := by
  induction p with
  | nil => intro M e; exact ⟨M, .rfl, e⟩
  | @cons y l m p ih =>
    intro M e
    cases M with
    | nil => cases e
    | cons u M =>
      injection e with e1 e2
      obtain ⟨N, n1, n2⟩ := ih M e2
      exact ⟨u :: N, n1.cons u, by rw [List.map_cons, ← e1, ← n2]⟩
  | swap y z l =>
    intro M e
    match M, e with
    | u :: v :: M, e =>
      injection e with e1 e2
      injection e2 with e2 e3
      exact ⟨v :: u :: M, .swap u v M, by rw [List.map_cons, List.map_cons, ← e1, ← e2, ← e3]⟩
  | trans p q ih1 ih2 =>
    intro M e
    obtain ⟨N, n1, n2⟩ := ih2 M e
    obtain ⟨N', n3, n4⟩ := ih1 N n2
    exact ⟨N', n3.trans n1, n4⟩
section
variable {P : Program} {w : World} {A : Around} {E : Value → Shared → Prop} {s : Shared} {h h' : Heap} {tp : Bool} {k k' : NestedKey} {x : Value} {a : Addr} {L : List (NestedKey × Value)} {es : Array (Int × Value)} {ep : Nat} {t : SetTable}
theorem SetW.elems (S : SetW w h a false L es ep t) : ElemsOf (mixKind P w) es.toList := fun e m => by
  rw [S.rows] at m
  obtain ⟨p, h1, rfl⟩ := List.mem_map.mp m
  obtain ⟨h2, h3, h4⟩ := (S.kv p h1).mix (P := P) (w := w)
  exact ⟨⟨kk p.1, h2, h3.symm⟩, h4⟩
/-- which entry a scan finds -/
theorem SetW.found (S : SetW w h a false L es ep t) (K : KV h' false k x) : (es.toList.findIdx? fun e => (mixKind P w).is (kk k) e.2).isSome = true ↔ k ∈ L.map Prod.fst := by
  rw [List.findIdx?_isSome, S.rows, List.any_map, List.any_eq_true, List.mem_map]
  constructor
  · rintro ⟨p, m, e⟩
    have h2 := ((S.kv p m).mix (P := P) (w := w)).1
    exact ⟨p, m, (S.kv p m).kk_inj K ((mixKind P w).inj _ _ _ h2 e)⟩
  · rintro ⟨p, m, rfl⟩
    exact ⟨p, m, ((S.kv p m).mix (P := P) (w := w)).1⟩
/-- what follows an adding -/
theorem tail_scal {gw : Bool → Sem Unit} (hg : ∀ (b : Bool) (s : Shared) (Q : Unit → Shared → Prop), Q () s → wpAny (model P w) A (gw b) Q E s) {o : Obj} (ho : s.heap.get? a = some o) (hx : o.ExactSet) (hd : o.data = .set es ep t)
    {es1 : Array (Int × Value)} {t1 : SetTable} (hr : es1.toList = L.map (rowK w)) (nd : (L.map Prod.fst).Nodup) (kv : ∀ p ∈ L, KV s.heap false p.1 p.2) (few : L.length < 64) (ft : t1.fits es1.size = true) (ri : Ris t1.place.toList)
    (ld : w.params.followText "set-order" = true ∨ t1.led = true) {d : Bool} {Q : Option Bool → Shared → Prop} (q : ∀ h' (L' : List (NestedKey × Value)) es' ep' t', Heap.SameBut a s.heap h' → SetW w h' a false L' es' ep' t' → L'.Perm L → Q (some true) { s with heap := h' }) :
    wpAny (model P w) A (do
        storeSet a es1 t1
        if (!d && t1.tooFull) = true then do
            gw (relayAll t1 es1 (SetTable.grown es1.size)).2.2
            storeSet a (relayAll t1 es1 (SetTable.grown es1.size)).1 (relayAll t1 es1 (SetTable.grown es1.size)).2.1
            pure (some true)
          else pure (some true)) Q E s := by
  have sz : es1.size = L.length := by rw [← Array.length_toList, hr, List.length_map]
  refine wpAny_bind (wpAny_storeSet_of ho hd ?_ (by rw [sz, sizeLine_eq]; omega))
  have sb : Heap.SameBut a s.heap (s.heap.update a (Obj.putSet es1 t1)) := Heap.SameBut.update ..
  have ho1 := store_at (es' := es1) (t' := t1) ho hd
  generalize s.heap.update a (Obj.putSet es1 t1) = h1 at sb ho1 ⊢
  have kv1 : ∀ p ∈ L, KV h1 false p.1 p.2 := fun p m => (kv p m).beside ho hd sb
  split
  · have pm := relayAll_perm t1 es1 (SetTable.grown es1.size)
    have f2 := relayAll_fits t1 es1 (SetTable.grown es1.size)
    have r2 := relayAll_ris t1 es1 (SetTable.grown es1.size)
    have l2 := relayAll_led t1 es1 (SetTable.grown es1.size)
    generalize relayAll t1 es1 (SetTable.grown es1.size) = z at pm f2 r2 l2 ⊢
    obtain ⟨es2, t2, gave⟩ := z
    dsimp only at pm f2 r2 l2 ⊢
    obtain ⟨N, n1, n2⟩ := perm_map_inv pm L hr
    have sz2 : es2.size = L.length := by rw [← Array.length_toList, n2, List.length_map, n1.length_eq]
    refine wpAny_bind (hg _ _ _ ?_)
    refine wpAny_bind (wpAny_storeSet_of ho1 rfl ?_ (by rw [sz2, sizeLine_eq]; omega))
    have sb2 : Heap.SameBut a h1 (h1.update a (Obj.putSet es2 t2)) := Heap.SameBut.update ..
    exact wpAny_pure (q _ N es2 (ep + 1 + 1) t2 (sb.trans sb2) ⟨⟨_, store_at ho1 rfl, hx, rfl⟩, n2, (n1.map _).nodup_iff.mpr nd, fun p m => (kv1 p (n1.mem_iff.mp m)).beside ho1 rfl sb2, by rw [l2]; exact ld, by rw [n1.length_eq]; exact few, f2, r2, fun z => nomatch z⟩ n1)
  · exact wpAny_pure (q _ L es1 (ep + 1) t1 sb ⟨⟨_, ho1, hx, rfl⟩, hr, nd, kv1, ld, few, ft, ri, fun z => nomatch z⟩ .rfl)
/-- an int or a text added -/
theorem add_scal (S : SetW w s.heap a false L es ep t) (K : KV s.heap false k x) (room : L.length + 1 < 64) {Q : Bool → Shared → Prop}
    (q : ∀ b h' (L' : List (NestedKey × Value)) es' ep' t', Heap.SameBut a s.heap h' → SetW w h' a false L' es' ep' t' → (k ∈ L.map Prod.fst → L' = L) → (k ∉ L.map Prod.fst → L'.Perm ((k, x) :: L)) → Q b { s with heap := h' }) :
    wpAny (model P w) A (setAddHashed a x (k.hash w)) Q E s := by
  obtain ⟨o, ho, hx, hd⟩ := S.ob
  obtain ⟨k1, k2, k3⟩ := K.mix (P := P) (w := w)
  have el := S.elems (P := P)
  have sz := S.size
  rw [← k2]
  unfold setAddHashed setAddHashedIn
  refine wpAny_holding (wpAny_bind (wpAny_setState_of ho hd S.fits ?_))
  dsimp only
  rw [byScan_of k3 (by rw [sz]; show L.length < 4096; omega) el]
  simp only [↓reduceIte]
  unfold setAddByScan
  refine wpAny_bind (wpAny_bind (wpAny_rule (wpAny_bind (wpAny_setScan_of k1 ho hd S.fits el ?_))))
  have fd := S.found (P := P) K
  cases e : es.toList.findIdx? fun e => (mixKind P w).is (kk k) e.2 with
  | some j =>
    rw [e] at fd
    have m := fd.mp rfl
    exact wpAny_pure (wpAny_pure (q false s.heap L es ep t (Heap.SameBut.refl a s.heap) S (fun _ => rfl) fun z => absurd m z))
  | none =>
    rw [e] at fd
    have m : k ∉ L.map Prod.fst := fun z => nomatch fd.mpr z
    dsimp only
    have gw : ∀ (b : Bool) (s : Shared) (Q : Unit → Shared → Prop), Q () s → wpAny (model P w) A (match b with | true => rule "set.scan.the-table-gave-way" | false => pure ()) Q E s := fun b s Q z => by
      cases b
      · exact wpAny_pure z
      · exact wpAny_rule z
    have pm := layNew_perm t es ((mixKind P w).hash (kk k)) x
    have f1 := layNew_fits t es ((mixKind P w).hash (kk k)) x
    have r1 := layNew_ris t es ((mixKind P w).hash (kk k)) x S.ris
    have l1 := layNew_led t es ((mixKind P w).hash (kk k)) x
    generalize layNew t es ((mixKind P w).hash (kk k)) x = z at pm f1 r1 l1 ⊢
    obtain ⟨es1, t1, d, gave⟩ := z
    dsimp only at pm f1 r1 l1 ⊢
    obtain ⟨N, n1, n2⟩ := perm_map_inv (f := rowK w) pm (L ++ [(k, x)]) (by rw [Array.toList_push, S.rows, List.map_append, k2]; rfl)
    have n3 : N.Perm ((k, x) :: L) := n1.trans (List.perm_append_singleton _ _)
    have kv1 : ∀ p ∈ N, KV s.heap false p.1 p.2 := fun p z => by
      rcases List.mem_cons.mp (n3.mem_iff.mp z) with e | z
      · rw [e]; exact K
      · exact S.kv p z
    have nd1 : (N.map Prod.fst).Nodup := (n3.map Prod.fst).nodup_iff.mpr (List.nodup_cons.mpr ⟨m, S.nd⟩)
    have few : N.length < 64 := by rw [n3.length_eq, List.length_cons]; exact room
    have ld : w.params.followText "set-order" = true ∨ t1.led = true := by rw [l1]; exact S.led
    have fin : ∀ h' (L' : List (NestedKey × Value)) es' ep' t', Heap.SameBut a s.heap h' → SetW w h' a false L' es' ep' t' → L'.Perm N → Q true { s with heap := h' } := fun h' L' es' ep' t' sb S' p => q true h' L' es' ep' t' sb S' (fun z => absurd z m) fun _ => p.trans n3
    refine wpAny_bind (gw _ _ _ ?_)
    split
    · refine wpAny_bind ?_
      rw [hashByValue_scannable 8 k3]
      refine wpAny_pure ?_
      refine tail_scal (fun b s Q z => ?_) ho hx hd n2 nd1 kv1 few ?_ ?_ ?_ fun h' L' es' ep' t' sb S' p => wpAny_pure (fin h' L' es' ep' t' sb S' p)
      · exact gw b s Q z
      · split <;> exact f1
      · split <;> exact r1
      · split <;> exact ld
    · refine wpAny_bind (wpAny_pure ?_)
      simp only [↓reduceIte]
      exact tail_scal gw ho hx hd n2 nd1 kv1 few f1 r1 ld fun h' L' es' ep' t' sb S' p => wpAny_pure (fin h' L' es' ep' t' sb S' p)
/-- a key added -/
theorem add_key (S : SetW w s.heap a tp L es ep t) (K : KV s.heap tp k x) (hu : A.units + 8 < cLine) (room : L.length + 1 < 64) {Q : Bool → Shared → Prop}
    (q : ∀ b h' (L' : List (NestedKey × Value)) es' ep' t', Heap.SameBut a s.heap h' → SetW w h' a tp L' es' ep' t' → (k ∈ L.map Prod.fst → L' = L) → (k ∉ L.map Prod.fst → L'.Perm ((k, x) :: L)) → Q b { s with heap := h' }) :
    wpAny (model P w) A (setAddHashed a x (k.hash w)) Q E s := by
  cases tp
  · exact add_scal S K room q
  · exact add_tup S K hu room q
end
end AM
/-! text AmT6 -/
set_option Elab.async false
set_option linter.all false
set_option maxRecDepth 100000
set_option maxHeartbeats 3200000
/-! AmT6: set(xs). -/
namespace AM
open PySem PySem.Spec PyProof.Rows L2
/-- L holds each key of ks once -/
structure Cov (ks L : List (NestedKey × Value)) : Prop where
  sub : ∀ p ∈ L, p ∈ ks
  all : ∀ p ∈ ks, p.1 ∈ L.map Prod.fst
section
variable {P : Program} {w : World} {A : Around} {E : Value → Shared → Prop} {s : Shared} {tp : Bool} {ks L : List (NestedKey × Value)}
theorem Cov.same {p : NestedKey × Value} (c : Cov ks L) (m : p.1 ∈ L.map Prod.fst) : Cov (ks ++ [p]) L := by
  refine ⟨fun q z => List.mem_append_left _ (c.sub q z), fun q z => ?_⟩
  rcases List.mem_append.mp z with z | z
  · exact c.all q z
  · rw [List.mem_singleton.mp z]; exact m
theorem Cov.push {p : NestedKey × Value} {M : List (NestedKey × Value)} (c : Cov ks L) (pm : M.Perm (p :: L)) : Cov (ks ++ [p]) M := by
  refine ⟨fun q z => ?_, fun q z => (pm.map Prod.fst).mem_iff.mpr ?_⟩
  · rcases List.mem_cons.mp (pm.mem_iff.mp z) with e | z
    · rw [e]; exact List.mem_append_right _ List.mem_cons_self
    · exact List.mem_append_left _ (c.sub q z)
  · rcases List.mem_append.mp z with z | z
    · exact List.mem_cons_of_mem _ (c.all q z)
    · rw [List.mem_singleton.mp z]; exact List.mem_cons_self
/-- set.update's loop over a list -/
theorem fill_loop {I l D : Addr} {St : Nat → Shared → Prop} {R : Result → Shared → Prop} {Pv : Nat → Value → Prop} (W : WalksS P w A.in1 I [I, l] [I] (fun a b => b = a) ks.length Pv St) (hv : ∀ i v, Pv i v → ∃ p, ks[i]? = some p ∧ v = p.2) (dI : D ≠ I) (dl : D ≠ l) (few : ks.length < 64)
    {h0 : Heap} (kv : ∀ p ∈ ks, KV h0 tp p.1 p.2) (nD : h0.get? D = none) (nI : h0.get? I = none) (hu : A.units + 9 < cLine) :
    ∀ (m i : Nat) (s : Shared) (L : List (NestedKey × Value)) es ep t, ks.length - i = m → i ≤ ks.length → St i s → (∀ b o, h0.get? b = some o → s.heap.get? b = some o) → SetW w s.heap D tp L es ep t → Cov (ks.take i) L → L.length ≤ i →
      (∀ s' (L : List (NestedKey × Value)) es ep t, Moved [D, I] (fun a b => b = a) s s' → SetW w s'.heap D tp L es ep t → Cov ks L → (∀ b o, h0.get? b = some o → s'.heap.get? b = some o) → R (.ok (.ret .none)) s') →
      codeAny (model P w) A (.builtin "set.update.loop" ⟨[.ref D, .ref I], []⟩) R s := by
  have stay : ∀ {s s' : Shared}, Moved [I] (fun a b => b = a) s s' → (∀ b o, h0.get? b = some o → s.heap.get? b = some o) → ∀ b o, h0.get? b = some o → s'.heap.get? b = some o := fun mv k0 b o e =>
    mv.heap b o (fun z => by rw [List.mem_singleton.mp z, nI] at e; cases e) (k0 b o e)
  have hD : D ∉ [I] := fun z => dI (List.mem_singleton.mp z)
  have sub2 : ∀ b ∈ [I], b ∈ [D, I] := fun b z => List.mem_cons_of_mem _ z
  have kvs : ∀ {h : Heap}, (∀ b o, h0.get? b = some o → h.get? b = some o) → ∀ p ∈ ks, KV h tp p.1 p.2 := fun k0 p z => (kv p z).keep fun b o _ _ e _ => k0 b o e
  intro m
  induction m with
  | zero =>
    intro i s L es ep t e1 e2 st k0 S c le fin
    have ei : i = ks.length := by omega
    subst ei
    refine codeAny_builtin F.entry_set_update_loop ?_
    rw [Around.under_plainId F.plain_set_update_loop _]
    refine wpAny_bind (m := pyNext (.ref I)) (W.done s _ _ st fun s' mv => ?_)
    rw [List.take_length] at c
    refine wpAny_pure (fin s' L es ep t (mv.mono sub2) (S.keep (fun o e => mv.heap D o hD e) fun p z => kvs (stay mv k0) p (c.sub p z)) c (stay mv k0))
  | succ m ih =>
    intro i s L es ep t e1 e2 st k0 S c le fin
    refine codeAny_builtin F.entry_set_update_loop ?_
    rw [Around.under_plainId F.plain_set_update_loop _]
    refine wpAny_bind (m := pyNext (.ref I)) (W.item i s _ _ (by omega) st fun v s' pv st' mv => ?_)
    obtain ⟨p, hp, rfl⟩ := hv i v pv
    have k1 := stay mv k0
    have K := kvs k1 p (List.mem_of_getElem? hp)
    have S1 : SetW w s'.heap D tp L es ep t := S.keep (fun o e => mv.heap D o hD e) fun q z => kvs k1 q (List.mem_of_mem_take (c.sub q z))
    refine wpAny_bind (m := holding [p.2] (setAdd D p.2)) (wpAny_holding ?_)
    unfold setAdd
    have hd := K.dp
    refine wpAny_holding (wpAny_bind (pyHash_key p.1 p.2 _ _ _ K.is (show A.units + 1 + p.1.depth < cLine by omega) ?_))
    refine add_key (s := { s' with toks := s'.toks + p.1.draws }) S1 K (show A.units + 1 + 8 < cLine by omega) (by omega) fun b h' L' es' ep' t' sb S2 c1 c2 => ?_
    have k2 : ∀ b o, h0.get? b = some o → h'.get? b = some o := fun b o e => (sb.2 b fun z => by rw [z, nD] at e; cases e).trans (k1 b o e)
    have et : ks.take (i + 1) = ks.take i ++ [p] := by rw [List.take_succ, hp]; rfl
    have c' : Cov (ks.take (i + 1)) L' ∧ L'.length ≤ i + 1 := by
      rw [et]
      by_cases z : p.1 ∈ L.map Prod.fst
      · rw [c1 z]; exact ⟨c.same z, by omega⟩
      · exact ⟨c.push (c2 z), by rw [(c2 z).length_eq, List.length_cons]; omega⟩
    refine wpAny_pure ⟨plainId_quiet F.plain_set_update_loop _, ih (i + 1) _ L' es' ep' t' (by omega) (by omega) (W.frame _ s' _ _ st' (Nat.le_add_right _ _) fun b z o e => ?_) k2 S2 c'.1 c'.2 fun s2 L2 es2 ep2 t2 mv2 S3 c3 k3 => ?_⟩
    · refine (sb.2 b fun y => ?_).trans e
      subst y
      simp at z
      rcases z with z | z
      · exact dI z
      · exact dl z
    · refine fin s2 L2 es2 ep2 t2 (Moved.trans (fun _ _ _ a b => b.trans a) ((mv.mono sub2).then_heap (Nat.le_add_right _ _) fun b o nb e => ?_) mv2) S3 c3 k3
      exact (sb.2 b fun y => nb (by rw [y]; exact List.mem_cons_self)).trans e
end
end AM
/-! text AmT7 -/
set_option Elab.async false
set_option linter.all false
set_option maxRecDepth 100000
set_option maxHeartbeats 3200000
/-! AmT7: set(xs), called. -/
namespace AM
open PySem PySem.Spec PyProof.Rows L2
/-- an empty set, as the model makes it -/
abbrev noSet (w : World) : Obj := { cls := .type "set", dict := none, data := .set #[] 0 (.fresh 0 0 (!w.params.followText "set-order")) }
section
variable {P : Program} {w : World} {A : Around} {E : Value → Shared → Prop} {s : Shared} {tp : Bool}
theorem above_none {h : Heap} {b : Addr} (z : h.objs.size ≤ b) : h.get? b = none := by
  cases e : h.get? b with
  | none => rfl
  | some o => exact absurd (Heap.lt_size e) (Nat.not_lt.mpr z)
theorem call_set_keys {l : Addr} {items : Array Value} (ks : List (NestedKey × Value)) {Q : Value → Shared → Prop} (hh : A.handled = none) (hl : s.heap.IsList l items) (hit : items.toList = ks.map Prod.snd) (kv : ∀ p ∈ ks, KV s.heap tp p.1 p.2)
    (few : ks.length < 64) (hu : A.units + 16 < cLine)
    (q : ∀ (h' : Heap) (tk : Nat) (L : List (NestedKey × Value)) es ep t, SetW w h' s.heap.objs.size tp L es ep t → Cov ks L → (∀ b o, s.heap.get? b = some o → h'.get? b = some o) → Q (.ref s.heap.objs.size) { s with heap := h', toks := tk }) :
    wpAny (model P w) A (call (.type "set") [.ref l]) Q E s := by
  have isz : items.size = ks.length := by rw [← Array.length_toList, hit, List.length_map]
  obtain ⟨c0, c1, mro⟩ := F.called_set.mro
  have m1 := F.called_set.made
  have m2 := F.called_set.sub
  have m3 := F.called_set.notType
  have m4 := F.called_set.canCreate
  have m5 := F.typeCall_set_1 (.ref l)
  refine wpAny_call (codeAny_of_tree (wpAny_pure ⟨Code.quiet_builtin _ (by decide +kernel), codeAny_builtin F.entry_type_call ?_⟩))
  rw [Around.under_plain (weight_type_call_type "set" [.ref l] []) rfl]
  repeat (any_goals (first | assumption | wp_step))
  refine codeAny_mono (code_set_led1 (.ref l) (E := E) (Q₁ := fun v s1 => v = .ref s.heap.objs.size ∧ s1 = { s with heap := s.heap.push (noSet w) }) ⟨rfl, rfl⟩) fun r s1 hr => ?_
  match r, hr with
  | .error e, hr => exact hr
  | .ok (.ret v), hr =>
    obtain ⟨rfl, rfl⟩ := hr
    have hS : (s.heap.push (noSet w)).get? s.heap.objs.size = some (noSet w) := Heap.get?_push_size _ rfl
    have hT : Shared.TypeIs { s with heap := s.heap.push (noSet w) } (.ref s.heap.objs.size) "set" := ⟨_, hS, rfl⟩
    have i1 := F.called_set.init.lookup
    have i2 := F.called_set.init.bind (.ref s.heap.objs.size)
    repeat (any_goals (first | assumption | wp_step))
    refine codeAny_mono (codeAny_call_builtin (R := wants (fun r s2 => r = .none ∧ ∃ h' tk, ∃ L : List (NestedKey × Value), ∃ es ep t, s2 = { s with heap := h', toks := tk } ∧ SetW w h' s.heap.objs.size tp L es ep t ∧ Cov ks L ∧
        ∀ b o, s.heap.get? b = some o → h'.get? b = some o) E) F.called_set.init.plain F.entry_set_init (check_set_init_1 hT ?_)) fun r2 s2 hr2 => ?_
    · obtain ⟨⟨ocls, odict, odata, oslots⟩, ol, oc, n, od⟩ := hl
      simp only at oc od
      subst oc od
      have ol1 : (s.heap.push (noSet w)).get? l = some { cls := .type "list", dict := odict, data := .seq items n, slots := oslots } := Heap.get?_push_of_some _ ol
      have l1 : (s.heap.push (noSet w)).IsList l items := ⟨_, ol1, rfl, n, rfl⟩
      have j1 := F.sub_list_set
      have j2 := F.sub_list_frozenset
      have j3 : (Value.type "list" == Value.type "dict") = false := by decide
      unfold Builtin.«set.__init__» noKeywords Builtin.Frozenset.updateFrom
      generalize hPI : pyIter = PI
      wp_walk
      subst hPI
      refine wpAny_pyIter_list l1 (wpAny_bind (wpAny_runValue ?_))
      have ll : l < s.heap.objs.size := Heap.lt_size ol
      have z1 : (s.heap.push (noSet w)).objs.size = s.heap.objs.size + 1 := Heap.size_push ..
      have hc : A.in1.in1.in1.handled = none := by simp [hh]
      have ne : l ≠ (s.heap.push (noSet w)).objs.size := by rw [z1]; exact Nat.ne_of_lt (Nat.lt_succ_of_lt ll)
      have W0 := (Walks.list (prog := P) (w := w) hc (s.heap.push (noSet w)).objs.size l ne items).toS
      rw [isz] at W0
      refine fill_loop (ks := ks) W0 (fun i v e => ?_) ?_ (Nat.ne_of_gt ll) few (h0 := s.heap) kv (above_none (Nat.le_refl _)) (above_none (by rw [z1]; exact Nat.le_succ _)) (show A.units + 1 + 1 + 9 < cLine by omega) ks.length 0 _ [] #[] 0 _ rfl (Nat.zero_le _)
        ⟨⟨_, Heap.get?_push_size _ rfl, rfl, rfl⟩, l1.push _⟩ (fun b o e => Heap.get?_push_of_some _ (Heap.get?_push_of_some _ e)) (setW_new tp (Heap.get?_push_of_some _ hS)) ⟨fun _ m => (by cases m), fun _ m => (by cases m)⟩ (Nat.zero_le _) fun s' L es ep t mv S c k => ?_
      · have e2 : items.toList[i]? = some v := by rw [Array.getElem?_toList]; exact e
        rw [hit, List.getElem?_map, Option.map_eq_some_iff] at e2
        obtain ⟨p, p1, p2⟩ := e2
        exact ⟨p, p1, p2.symm⟩
      · rw [z1]; exact Nat.ne_of_lt (Nat.lt_succ_self _)
      · obtain ⟨h', gs', dr', tk', os'⟩ := s'
        obtain rfl : gs' = s.gens := mv.gens
        obtain rfl : dr' = s.drawn := mv.drawn
        obtain rfl : os' = s.os := mv.os
        exact wpAny_pure (wpAny_pure ⟨rfl, h', tk', L, es, ep, t, rfl, S, c, k⟩)
    · match r2, hr2 with
      | .error e, hr2 => exact hr2
      | .ok (.ret v), hr2 =>
        obtain ⟨rfl, h', tk, L, es, ep, t, rfl, S, c, k⟩ := hr2
        repeat (any_goals (first | assumption | wp_step))
        exact q _ _ _ _ _ _ S c k
      | .ok .next, hr2 => exact hr2.elim
end
end AM
/-! text AmT8 -/
set_option Elab.async false
set_option linter.all false
set_option maxRecDepth 100000
set_option maxHeartbeats 2000000
/-! AmT8: set(xs) as a call; sorted(set(xs)), len(set(xs)). -/
namespace AM
open PySem PySem.Spec PyProof.Rows L2

/-! ### keys in order -/
mutual
theorem peq_key : ∀ (a b : W) (n m : NestedKey), nk a = some n → nk b = some m → W.pyeq a b = true → a = b
  | .int i, .int j, _, _, _, _, h => by simp [W.pyeq] at h; rw [h]
  | .str x, .str y, _, _, _, _, h => by simp [W.pyeq] at h; rw [h]
  | .tup xs, .tup ys, _, _, h1, h2, h => by
    simp only [nk, Option.map_eq_some_iff] at h1 h2
    obtain ⟨ns, e1, _⟩ := h1
    obtain ⟨ms, e2, _⟩ := h2
    rw [peq_keys xs ys ns ms e1 e2 (by simpa [W.pyeq] using h)]
  | .int _, .str _, _, _, _, _, h => by simp [W.pyeq] at h
  | .int _, .tup _, _, _, _, _, h => by simp [W.pyeq] at h
  | .str _, .int _, _, _, _, _, h => by simp [W.pyeq] at h
  | .str _, .tup _, _, _, _, _, h => by simp [W.pyeq] at h
  | .tup _, .int _, _, _, _, _, h => by simp [W.pyeq] at h
  | .tup _, .str _, _, _, _, _, h => by simp [W.pyeq] at h
  | .non, _, _, _, h1, _, _ | .bl _, _, _, _, h1, _, _ | .lst _, _, _, _, h1, _, _ | .dct _ _, _, _, _, h1, _, _ | .scr _, _, _, _, h1, _, _ | .exn _ _, _, _, _, h1, _, _ | .ins _ _ _, _, _, _, h1, _, _ => by simp [nk] at h1
  | .int _, .non, _, _, _, h2, _ | .int _, .bl _, _, _, _, h2, _ | .int _, .lst _, _, _, _, h2, _ | .int _, .dct _ _, _, _, _, h2, _ | .int _, .scr _, _, _, _, h2, _ | .int _, .exn _ _, _, _, _, h2, _ | .int _, .ins _ _ _, _, _, _, h2, _ => by simp [nk] at h2
  | .str _, .non, _, _, _, h2, _ | .str _, .bl _, _, _, _, h2, _ | .str _, .lst _, _, _, _, h2, _ | .str _, .dct _ _, _, _, _, h2, _ | .str _, .scr _, _, _, _, h2, _ | .str _, .exn _ _, _, _, _, h2, _ | .str _, .ins _ _ _, _, _, _, h2, _ => by simp [nk] at h2
  | .tup _, .non, _, _, _, h2, _ | .tup _, .bl _, _, _, _, h2, _ | .tup _, .lst _, _, _, _, h2, _ | .tup _, .dct _ _, _, _, _, h2, _ | .tup _, .scr _, _, _, _, h2, _ | .tup _, .exn _ _, _, _, _, h2, _ | .tup _, .ins _ _ _, _, _, _, h2, _ => by simp [nk] at h2
theorem peq_keys : ∀ (a b : List W) (n m : List NestedKey), nks a = some n → nks b = some m → W.pyeqs a b = true → a = b
  | [], [], _, _, _, _, _ => rfl
  | [], _ :: _, _, _, _, _, h => by simp [W.pyeqs] at h
  | _ :: _, [], _, _, _, _, h => by simp [W.pyeqs] at h
  | x :: xs, y :: ys, _, _, h1, h2, h => by
    simp only [W.pyeqs, Bool.and_eq_true] at h
    simp only [nks] at h1 h2
    split at h1
    · split at h2
      · rename_i e1 e2 _ _ _ _ e3 e4
        rw [peq_key x y _ _ e1 e3 h.1, peq_keys xs ys _ _ e2 e4 h.2]
      · cases h2
    · cases h1
end
mutual
theorem self_key : ∀ (a : W) (n : NestedKey), nk a = some n → W.pyeq a a = true
  | .int i, _, _ => by simp [W.pyeq]
  | .str x, _, _ => by simp [W.pyeq]
  | .tup xs, _, h => by
    simp only [nk, Option.map_eq_some_iff] at h
    obtain ⟨ns, e1, _⟩ := h
    simpa [W.pyeq] using self_keys xs ns e1
  | .non, _, h1 | .bl _, _, h1 | .lst _, _, h1 | .dct _ _, _, h1 | .scr _, _, h1 | .exn _ _, _, h1 | .ins _ _ _, _, h1 => by simp [nk] at h1
theorem self_keys : ∀ (a : List W) (n : List NestedKey), nks a = some n → W.pyeqs a a = true
  | [], _, _ => rfl
  | x :: xs, _, h => by
    simp only [nks] at h
    split at h
    · rename_i e1 e2
      simp [W.pyeqs, self_key x _ e1, self_keys xs _ e2]
    · cases h
end
mutual
theorem tri_key : ∀ (a b : W) (n m : NestedKey), nk a = some n → nk b = some m → W.alk a b = true → W.lt a b = false → W.lt b a = false → a = b
  | .int i, .int j, _, _, _, _, _, h, k => by
    simp only [W.lt, decide_eq_false_iff_not] at h k
    rw [show i = j by omega]
  | .str x, .str y, _, _, _, _, _, h, k => by
    simp only [W.lt, decide_eq_false_iff_not] at h k
    have e := List.le_antisymm (List.not_lt.mp k) (List.not_lt.mp h)
    cases x
    cases y
    simp only at e
    rw [Array.ext' e]
  | .tup xs, .tup ys, _, _, h1, h2, a, h, k => by
    simp only [nk, Option.map_eq_some_iff] at h1 h2
    obtain ⟨ns, e1, _⟩ := h1
    obtain ⟨ms, e2, _⟩ := h2
    rw [tri_keys xs ys ns ms e1 e2 (by simpa [W.alk] using a) (by simpa [W.lt] using h) (by simpa [W.lt] using k)]
  | .int _, .str _, _, _, _, _, h, _, _ => by simp [W.alk] at h
  | .int _, .tup _, _, _, _, _, h, _, _ => by simp [W.alk] at h
  | .str _, .int _, _, _, _, _, h, _, _ => by simp [W.alk] at h
  | .str _, .tup _, _, _, _, _, h, _, _ => by simp [W.alk] at h
  | .tup _, .int _, _, _, _, _, h, _, _ => by simp [W.alk] at h
  | .tup _, .str _, _, _, _, _, h, _, _ => by simp [W.alk] at h
  | .non, _, _, _, h1, _, _, _, _ | .bl _, _, _, _, h1, _, _, _, _ | .lst _, _, _, _, h1, _, _, _, _ | .dct _ _, _, _, _, h1, _, _, _, _ | .scr _, _, _, _, h1, _, _, _, _ | .exn _ _, _, _, _, h1, _, _, _, _ | .ins _ _ _, _, _, _, h1, _, _, _, _ => by simp [nk] at h1
  | .int _, .non, _, _, _, h2, _, _, _ | .int _, .bl _, _, _, _, h2, _, _, _ | .int _, .lst _, _, _, _, h2, _, _, _ | .int _, .dct _ _, _, _, _, h2, _, _, _ | .int _, .scr _, _, _, _, h2, _, _, _ | .int _, .exn _ _, _, _, _, h2, _, _, _ | .int _, .ins _ _ _, _, _, _, h2, _, _, _ => by simp [nk] at h2
  | .str _, .non, _, _, _, h2, _, _, _ | .str _, .bl _, _, _, _, h2, _, _, _ | .str _, .lst _, _, _, _, h2, _, _, _ | .str _, .dct _ _, _, _, _, h2, _, _, _ | .str _, .scr _, _, _, _, h2, _, _, _ | .str _, .exn _ _, _, _, _, h2, _, _, _ | .str _, .ins _ _ _, _, _, _, h2, _, _, _ => by simp [nk] at h2
  | .tup _, .non, _, _, _, h2, _, _, _ | .tup _, .bl _, _, _, _, h2, _, _, _ | .tup _, .lst _, _, _, _, h2, _, _, _ | .tup _, .dct _ _, _, _, _, h2, _, _, _ | .tup _, .scr _, _, _, _, h2, _, _, _ | .tup _, .exn _ _, _, _, _, h2, _, _, _ | .tup _, .ins _ _ _, _, _, _, h2, _, _, _ => by simp [nk] at h2
theorem tri_keys : ∀ (a b : List W) (n m : List NestedKey), nks a = some n → nks b = some m → W.alks a b = true → W.lts a b = false → W.lts b a = false → a = b
  | [], [], _, _, _, _, _, _, _ => rfl
  | [], _ :: _, _, _, _, _, _, h, _ => by simp [W.lts] at h
  | _ :: _, [], _, _, _, _, _, _, h => by simp [W.lts] at h
  | x :: xs, y :: ys, _, _, h1, h2, a, h, k => by
    simp only [W.alks, Bool.and_eq_true] at a
    simp only [nks] at h1 h2
    split at h1
    · split at h2
      · rename_i e1 e2 _ _ _ _ e3 e4
        simp only [W.lts] at h k
        have e : x = y := by
          cases p : W.pyeq x y with
          | true => exact peq_key x y _ _ e1 e3 p
          | false =>
            cases q : W.pyeq y x with
            | true => exact (peq_key y x _ _ e3 e1 q).symm
            | false =>
              rw [p] at h
              rw [q] at k
              exact tri_key x y _ _ e1 e3 a.1 (by simpa using h) (by simpa using k)
        subst e
        cases p : W.pyeq x x with
        | true =>
          rw [p] at h k
          rw [tri_keys xs ys _ _ e2 e4 a.2 (by simpa using h) (by simpa using k)]
        | false =>
          exfalso
          have := self_key x _ e1
          rw [p] at this
          cases this
      · cases h2
    · cases h1
end
end AM
/-! text AmT9 -/
set_option Elab.async false
set_option linter.all false
set_option maxRecDepth 100000
set_option maxHeartbeats 2000000
/-! AmT9: sorted(set(xs)), len(set(xs)). -/
namespace AM
open PySem PySem.Spec PyProof.Rows L2

theorem mem_firsts {x : W} : ∀ {l acc : List W}, x ∈ firsts acc l ↔ x ∈ acc ∨ x ∈ l
  | [], acc => by simp [firsts]
  | y :: r, acc => by
    rw [firsts, mem_firsts]
    by_cases h : y ∈ acc
    · rw [if_pos h, List.mem_cons]
      constructor
      · exact fun a => a.imp id .inr
      · rintro (a | rfl | a)
        · exact .inl a
        · exact .inl h
        · exact .inr a
    · rw [if_neg h, List.mem_append, List.mem_singleton, List.mem_cons, or_assoc]
theorem nodup_firsts : ∀ {l acc : List W}, acc.Nodup → (firsts acc l).Nodup
  | [], _, h => h
  | y :: r, acc, h => by
    rw [firsts]
    refine nodup_firsts ?_
    by_cases q : y ∈ acc
    · rw [if_pos q]; exact h
    · rw [if_neg q]
      exact List.nodup_append.mpr ⟨h, by simp, fun a m b n e => by rw [List.mem_singleton.mp n] at e; exact q (e ▸ m)⟩
theorem SortOkP.sub {ws ls : List W} (h : SortOkP ws) (s : ∀ w ∈ ls, w ∈ ws) : SortOkP ls :=
  ⟨fun a m => h.dat a (s a m), fun a m b n => h.alk a (s a m) b (s b n), h.kind.imp (fun k a m => k a (s a m)) fun k a m => k a (s a m)⟩
/-- a row of keys without repeats is sorted in one way -/
theorem sort_one {ls ms : List W} (ok : SortOkP ls) (key : ∀ w ∈ ls, ∃ n, nk w = some n) (pm : ms.Perm ls) : sortW ms = sortW ls := by
  have ok' : SortOkP ms := ok.sub fun w m => pm.mem_iff.mp m
  rw [← ok.le, ← ok'.le]
  have T := PySem.W.sortLe_total (PyProof.Rows.listOrd PyProof.Rows.itemOrd) false fun b : W => PySem.W.keyToks (dt b)
  refine List.Perm.eq_of_pairwise (le := fun a b => PySem.W.dataLe false dt a b = true) (fun a b ma mb h k => ?_) (PySem.W.sort_pairwise T ms) (PySem.W.sort_pairwise T ls) ((List.mergeSort_perm ..).trans (pm.trans (List.mergeSort_perm ..).symm))
  have ma : a ∈ ls := pm.mem_iff.mp ((List.mergeSort_perm ..).mem_iff.mp ma)
  have mb : b ∈ ls := (List.mergeSort_perm ..).mem_iff.mp mb
  rw [PySem.W.dataLe_eq] at h k
  have la := (isDat_p (ok.dat a ma)).1
  have lb := (isDat_p (ok.dat b mb)).1
  have h : (!PySem.W.dataLt (dt b) (dt a)) = true := h
  have k : (!PySem.W.dataLt (dt a) (dt b)) = true := k
  rw [dt_lt lb la (ok.alk b mb a ma)] at h
  rw [dt_lt la lb (ok.alk a ma b mb)] at k
  obtain ⟨n, e⟩ := key a ma
  obtain ⟨m, f⟩ := key b mb
  exact tri_key a b n m e f (ok.alk a ma b mb) (by simpa using k) (by simpa using h)
mutual
/-- a key has no lists -/
theorem nil_reads {h : Heap} : ∀ {w : W} {n : NestedKey} {d : PyData} {u : Value} {as : List Addr}, nk w = some n → w.toD = some d → Reads h u d as → as = []
  | .int i, _, _, _, _, _, e, r => by simp only [W.toD, Option.some.injEq] at e; subst e; cases r; rfl
  | .str i, _, _, _, _, _, e, r => by simp only [W.toD, Option.some.injEq] at e; subst e; cases r; rfl
  | .tup xs, _, _, _, _, k, e, r => by
    simp only [nk, W.toD, Option.map_eq_some_iff] at k e
    obtain ⟨ns, k, _⟩ := k
    obtain ⟨ds, e, rfl⟩ := e
    cases r with
    | tuple _ _ _ r => exact nil_readsAll k e r
  | .non, _, _, _, _, h1, _, _ | .bl _, _, _, _, _, h1, _, _ | .lst _, _, _, _, _, h1, _, _ | .dct _ _, _, _, _, _, h1, _, _ | .scr _, _, _, _, _, h1, _, _ | .exn _ _, _, _, _, _, h1, _, _ | .ins _ _ _, _, _, _, _, h1, _, _ => by simp [nk] at h1
theorem nil_readsAll {h : Heap} : ∀ {w : List W} {n : List NestedKey} {d : List PyData} {u : List Value} {as : List Addr}, nks w = some n → W.toDs w = some d → ReadsAll h u d as → as = []
  | [], _, _, _, _, _, e, r => by simp only [W.toDs, Option.some.injEq] at e; subst e; cases r; rfl
  | x :: xs, _, _, _, _, k, e, r => by
    simp only [nks] at k
    simp only [W.toDs] at e
    split at k
    · rename_i k1 k2
      split at e
      · rename_i e1 e2
        simp only [Option.some.injEq] at e
        subst e
        cases r with
        | cons r1 r2 => rw [nil_reads k1 e1 r1, nil_readsAll k2 e2 r2]; rfl
      · cases e
    · cases k
end
/-- the set that stands at a, its entries L -/
def setO (w : World) (a : Addr) (tp : Bool) (L : List (NestedKey × Value)) : HO := .ext fun h => ∃ h0 es ep t, SetW w h0 a tp L es ep t ∧ ∀ o, h0.get? a = some o → h.get? a = some o
/-- an entry's value -/
def EK (F : Fx) (tp : Bool) (Z : Addr → Prop) (H : Hp) (p : NestedKey × Value) (w : W) : Prop := nk w = some p.1 ∧ w.isT = tp ∧ keyB w = true ∧ ∃ v, RelV v p.2 ∧ RW F Z H w v
/-- set(x) -/
def rSet (F : Fx) : List V → Hp → VK → Prop := fun vs H Q => ∃ g bx r v ws, vs = [v] ∧ BxOk F g bx H ∧ RR F g H r v ∧ (itL bx r).bind vals = some ws ∧ ws.length < 64 ∧ setOk ws = true ∧
  ∀ b tp L ls, H b = none → PySem.W.EachIs (EK F tp g.Z H) L ls → ls.Perm (firsts [] ws) → Q (.ref b) (upd H b (setO F.w b tp L))
section
variable {X : Cx} {ca : Ca} {H : Hp} {pins : List (Addr × Obj)} {σ : L2.St} {s : Shared} {Z : Addr → Prop}
theorem EK.kv (I : Inv X pins σ H s) {tp : Bool} {p : NestedKey × Value} {w : W} (e : EK (fx X ca) tp Z H p w) : AM.KV s.heap tp p.1 p.2 := by
  obtain ⟨e1, e2, e3, v, r, x⟩ := e
  obtain ⟨n, f1, f2⟩ := keyB_nk e3
  obtain rfl : n = p.1 := Option.some.inj (f1.symm.trans e1)
  refine ⟨x.nested I f1 r, f2, ?_⟩
  subst e2
  obtain ⟨k, u⟩ := p
  cases w <;> first | (simp [nk] at f1; done) | skip
  · simp only [nk, Option.some.injEq] at f1
    cases x
    obtain ⟨t, rfl⟩ := r
    exact .inr ⟨rfl, .inl ⟨_, t, f1.symm, rfl⟩⟩
  · simp only [nk, Option.some.injEq] at f1
    cases x
    obtain ⟨t, rfl⟩ := r
    exact .inr ⟨rfl, .inr ⟨_, t, f1.symm, rfl⟩⟩
  · obtain ⟨b, rfl⟩ := key_ref x rfl
    cases r
    exact .inl ⟨rfl, b, rfl⟩
end
end AM
/-! text AmTa -/
set_option Elab.async false
set_option linter.all false
set_option maxRecDepth 100000
set_option maxHeartbeats 2000000
/-! AmTa: set(xs), sorted(set), len(set) as calls. -/
namespace AM
open PySem PySem.Spec PyProof.Rows L2
theorem each_zip {α β : Type} {T : α → β → Prop} : ∀ {as : List α} {bs : List β}, PySem.W.EachIs T as bs → ∃ zs : List (α × β), as = zs.map Prod.fst ∧ bs = zs.map Prod.snd ∧ ∀ p ∈ zs, T p.1 p.2
  | _, _, .nil => ⟨[], rfl, rfl, fun _ m => nomatch m⟩
  | a :: _, b :: _, .cons h t => by
    obtain ⟨zs, rfl, rfl, q⟩ := each_zip t
    exact ⟨(a, b) :: zs, rfl, rfl, fun p m => by
      rcases List.mem_cons.mp m with e | m
      · rw [e]; exact h
      · exact q p m⟩
/-- the first row in another order -/
theorem each_perm {α β : Type} {T : α → β → Prop} {as ms : List α} {bs : List β} (e : PySem.W.EachIs T as bs) (pm : ms.Perm as) : ∃ ns, PySem.W.EachIs T ms ns ∧ ns.Perm bs := by
  obtain ⟨zs, rfl, rfl, q⟩ := each_zip e
  obtain ⟨ys, p, rfl⟩ := perm_map_inv pm zs rfl
  exact ⟨ys.map Prod.snd, PySem.W.EachIs.of fun y m => q y (p.mem_iff.mp m), p.map _⟩
theorem each_choose {α β : Type} {T : α → β → Prop} {bs : List β} : ∀ {as : List α}, (∀ a ∈ as, ∃ b, b ∈ bs ∧ T a b) → ∃ cs, PySem.W.EachIs T as cs ∧ ∀ c ∈ cs, c ∈ bs
  | [], _ => ⟨[], .nil, fun _ m => nomatch m⟩
  | a :: as, h => by
    obtain ⟨b, m, t⟩ := h a List.mem_cons_self
    obtain ⟨cs, e, q⟩ := each_choose fun a m => h a (List.mem_cons_of_mem _ m)
    exact ⟨b :: cs, .cons t e, fun c n => by
      rcases List.mem_cons.mp n with e | n
      · rw [e]; exact m
      · exact q c n⟩
theorem each_get {α β : Type} {T : α → β → Prop} {as : List α} {bs : List β} (e : PySem.W.EachIs T as bs) : ∀ b ∈ bs, ∃ a ∈ as, T a b := by
  obtain ⟨zs, rfl, rfl, q⟩ := each_zip e
  intro b m
  obtain ⟨p, y, rfl⟩ := List.mem_map.mp m
  exact ⟨p.1, List.mem_map.mpr ⟨p, y, rfl⟩, q p y⟩
theorem setOk_kind {ws : List W} (h : setOk ws = true) : ∃ tp, ∀ w ∈ ws, keyB w = true ∧ w.isT = tp := by
  unfold setOk at h
  rw [List.all_eq_true] at h
  cases ws with
  | nil => exact ⟨true, fun w m => nomatch m⟩
  | cons x r =>
    refine ⟨x.isT, fun w m => ?_⟩
    have := h w m
    simp only [keyFor, Bool.and_eq_true, beq_iff_eq] at this
    exact ⟨this.1, this.2.symm⟩
/-- sorted(set) -/
def rSortS (F : Fx) (m : Bool) : List V → Hp → VK → Prop := fun vs H Q => ∃ g bx b tp L ls, vs = [.ref b] ∧ H b = some (setO F.w b tp L) ∧ BxOk F g bx H ∧ PySem.W.EachIs (EK F tp g.Z H) L ls ∧ SortOkP ls ∧ PostO F g H Q (mkL m ((sortW ls).map .v) bx)
/-- len(set) -/
def rLenS (F : Fx) : List V → Hp → VK → Prop := fun vs H Q => ∃ b tp L, vs = [.ref b] ∧ H b = some (setO F.w b tp L) ∧ Q (.int L.length) H
section
variable {X : Cx} {ca : Ca} {H : Hp} {pins : List (Addr × Obj)} {σ : L2.St} {s : Shared} {Z : Addr → Prop}
theorem each_EK {tp : Bool} : ∀ {us : List Value} {ws : List W}, PySem.W.EachIs (fun (u : Value) (w : W) => ∃ v, RelV v u ∧ RW (fx X ca) Z H w v) us ws → (∀ w ∈ ws, keyB w = true ∧ w.isT = tp) → ∃ ks, us = ks.map Prod.snd ∧ PySem.W.EachIs (EK (fx X ca) tp Z H) ks ws
  | _, _, .nil, _ => ⟨[], rfl, .nil⟩
  | u :: _, w :: _, .cons h t, k => by
    obtain ⟨ks, rfl, e⟩ := each_EK t fun w m => k w (List.mem_cons_of_mem _ m)
    obtain ⟨k1, k2⟩ := k w List.mem_cons_self
    obtain ⟨n, n1, n2⟩ := keyB_nk k1
    exact ⟨(n, u) :: ks, rfl, .cons ⟨n1, k2, k1, h⟩ e⟩
theorem each_nks {F : Fx} {tp : Bool} : ∀ {L : List (NestedKey × Value)} {ls : List W}, PySem.W.EachIs (EK F tp Z H) L ls → ls.map nk = (L.map Prod.fst).map some
  | _, _, .nil => rfl
  | _, _, .cons h t => by rw [List.map_cons, h.1, each_nks t]; rfl
theorem c_set (hc : X.calm = true) (hu : X.A.units + 20 < cLine) : CallR X (.type "set") (rSet (fx X ca)) := by
  intro pins s σ H xs us Q I r h
  obtain ⟨g, bx, r0, v, ws, rfl, b, rr, e, few, ok, q⟩ := h
  rw [Option.bind_eq_some_iff] at e
  obtain ⟨rs, e1, e2⟩ := e
  obtain ⟨a, vs, rfl, hs, hl, rrs⟩ := rr.lst b e1
  have rw_ := rrs.vals e2
  obtain ⟨u, rfl, rx⟩ := vals1 r
  obtain rfl : u = Value.ref a := rx
  obtain ⟨_, its, n, rv, hob⟩ := I.hok a _ hs
  obtain ⟨tp, kind⟩ := setOk_kind ok
  obtain ⟨ks, k1, k2⟩ := each_EK (RWs.each rw_ rv) kind
  have kv : ∀ p ∈ ks, AM.KV s.heap tp p.1 p.2 := fun p m => by
    obtain ⟨w, _, e⟩ := k2.left p m
    exact e.kv I
  refine call_set_keys ks (I.ok.hd hc) ⟨_, hob, rfl, n, rfl⟩ (by simpa using k1) kv (by rw [k2.length]; exact few) (by omega) fun h' tk L es ep t S c k => ?_
  have hn : H s.heap.objs.size = none := I.hok.fresh (Nat.le_refl _)
  obtain ⟨ls, l1, l2⟩ := each_choose (bs := ws) fun p m => k2.left p (c.sub p m)
  refine ⟨.ref _, upd H s.heap.objs.size (setO X.w s.heap.objs.size tp L), I.laid (t' := tk) k (Nat.le_refl _) ⟨⟨h', es, ep, t, S, fun o e => e⟩, ?_, fun h1 h2 p z => ?_⟩, rfl, q _ tp L ls hn l1 ?_⟩
  · obtain ⟨o, ho, _⟩ := S.ob
    exact ⟨o, ho⟩
  · obtain ⟨h0, es, ep, t, S, y⟩ := p
    exact ⟨h0, es, ep, t, S, fun o e => z o (y o e)⟩
  · have nd : (ls.map nk).Nodup := by
      rw [each_nks l1]
      exact List.Pairwise.map some (fun a b n e => n (Option.some.inj e)) S.nd
    refine (List.perm_ext_iff_of_nodup (nodup_of_map nd) (nodup_firsts List.nodup_nil)).mpr fun w => ?_
    rw [mem_firsts]
    constructor
    · exact fun m => .inr (l2 w m)
    · rintro (m | m)
      · cases m
      · obtain ⟨p, p1, p2⟩ := each_get k2 w m
        obtain ⟨p', q1, q2⟩ := List.mem_map.mp (c.all p p1)
        obtain ⟨w', m', q3⟩ := l1.left p' q1
        have : w' = w := nk_inj _ _ _ q3.1 (by rw [q2]; exact p2.1)
        exact this ▸ m'
theorem c_lenSet : CallR X (.builtin "len") (rLenS (fx X ca)) := by
  intro pins s σ H xs us Q I r h
  obtain ⟨b, tp, L, rfl, hb, q⟩ := h
  obtain ⟨u, rfl, rx⟩ := vals1 r
  obtain rfl : u = Value.ref b := rx
  obtain ⟨⟨h0, es, ep, t, S, k⟩, _⟩ := I.hok b _ hb
  obtain ⟨o, ho, hx, hd⟩ := S.ob
  have sz := S.size
  have few := S.few
  refine call_len_set (k o ho) hx hd S.fits (by rw [sz]; omega) ⟨.int L.length, H, I.tok _, ⟨_, by rw [sz]⟩, q⟩
theorem c_sortSet {m : Bool} (hc : X.calm = true) (hu : X.A.units + 80 < cLine) : CallR X (.builtin "sorted") (rSortS (fx X ca) m) := by
  intro pins s σ H xs us Q I r h
  obtain ⟨g, bx, b, tp, L, ls, rfl, hb, bo, el, ok, p⟩ := h
  obtain ⟨u, rfl, rx⟩ := vals1 r
  obtain rfl : u = Value.ref b := rx
  obtain ⟨⟨h0, es, ep, t, S0, k⟩, _⟩ := I.hok b _ hb
  have S : SetW X.w s.heap b tp L es ep t := S0.keep k fun p m => by
    obtain ⟨w, _, e⟩ := el.left p m
    exact e.kv I
  obtain ⟨o, ho, hx, hd⟩ := S.ob
  have sz := S.size
  have few := S.few
  refine Calls.call_function_entry kind_sorted plain_sorted entry_sorted (args_sorted1 _) ?_
  unfold Builtin.«sorted»
  refine wpAny_bind (m := checkCount "sorted" 1 1 _) (wpAny_pure ?_)
  refine wpAny_bind (collect_set (A := X.A.in1) (I.ok.hd hc) ⟨o, ho, hx.1, hd⟩ S.fits (by rw [sz]; show L.length < 4096; omega) S.ris S.led fun s1 vs k1 hz g1 o1 pm => ?_)
  rw [S.rows, List.map_map] at pm
  obtain ⟨M, m1, rfl⟩ := perm_map_inv pm L rfl
  obtain ⟨ms, e1, e2⟩ := each_perm el m1
  have ok' : SortOkP ms := ok.sub fun w m => e2.mem_iff.mp m
  have key : ∀ w ∈ ls, ∃ n, nk w = some n := fun w m => by
    obtain ⟨p, _, q⟩ := each_get el w m
    exact ⟨p.1, q.1⟩
  have one : sortW ms = sortW ls := sort_one ok key e2
  have len : M.length < 64 := by rw [m1.length_eq]; exact few
  have fold : ∀ M : List (NestedKey × Value), M.map ((fun x => x.2) ∘ rowK X.w) = M.map Prod.snd := fun M => rfl
  rw [fold]
  refine wpAny_bind (wpAny_newList ?_ (by rw [sizeLine_eq]; simp; omega))
  have at1 : (s1.heap.push (seqObj "list" (M.map Prod.snd).toArray 0)).get? s1.heap.objs.size = some (seqObj "list" (M.map Prod.snd).toArray 0) := Heap.get?_push_size _ rfl
  have up : ∀ c o, s.heap.get? c = some o → (s1.heap.push (seqObj "list" (M.map Prod.snd).toArray 0)).get? c = some o := fun c o e => Heap.get?_push_of_some _ (k1 c o e)
  have each : PySem.W.EachIs (fun (u : Value) (w : W) => ∃ v, RelV v u ∧ RW (fx X ca) g.Z H w v) (M.map Prod.snd) ms := by
    obtain ⟨zs, rfl, rfl, q⟩ := each_zip e1
    rw [List.map_map]
    have : ∀ zs : List ((NestedKey × Value) × W), (∀ p ∈ zs, EK (fx X ca) tp g.Z H p.1 p.2) → PySem.W.EachIs (fun (u : Value) (w : W) => ∃ v, RelV v u ∧ RW (fx X ca) g.Z H w v) (zs.map (Prod.snd ∘ Prod.fst)) (zs.map Prod.snd) := by
      intro zs
      induction zs with
      | nil => exact fun _ => .nil
      | cons z r ih => exact fun q => .cons (q z List.mem_cons_self).2.2.2 (ih fun p m => q p (List.mem_cons_of_mem _ m))
    exact this zs q
  have reads : PySem.W.EachIs (fun v w => ∃ as, Reads (s1.heap.push (seqObj "list" (M.map Prod.snd).toArray 0)) v (dt w) as ∧ s1.heap.objs.size ∉ as) (M.map Prod.snd) ms := by
    obtain ⟨zs, z1, rfl, q⟩ := each_zip each
    rw [z1] at up ⊢
    refine PySem.W.EachIs.of fun z m => ?_
    obtain ⟨v, r, x⟩ := q z m
    have mem : z.2 ∈ ls := e2.mem_iff.mp (List.mem_map.mpr ⟨z, m, rfl⟩)
    have lay := toD_lay (isDat_p (ok.dat _ mem)).1
    obtain ⟨as, y, _⟩ := RW.reads I x lay r
    obtain ⟨n, e⟩ := key _ mem
    refine ⟨as, PyProof.Rows.Reads.keeps up y, ?_⟩
    rw [nil_reads e lay y]
    exact List.not_mem_nil
  refine wpAny_bind (wpAny_holding (PySem.W.list_sort_data (s := { s1 with heap := s1.heap.push (seqObj "list" (M.map Prod.snd).toArray 0) }) at1 each reads ok'.alike ok'.sortable (by rw [← e1.length, sizeLine_eq]; omega) (fun w m => ?_) fun out h2 h3 => ?_))
  · have d1 := dt_depth (isDat_p (ok'.dat w m)).1
    have d2 := (isDat_p (ok'.dat w m)).2
    show X.A.units + 1 + 1 + (dt w).depth < cLine
    omega
  rw [ok'.le, one] at h3
  obtain ⟨vs2, r1, r2⟩ := each_RWs h3
  obtain ⟨_, new⟩ := mkL_ok bo (RRs.of r1) p
  obtain ⟨c, hc2⟩ := sortedHeap_at (vs := M.map Prod.snd) (out := out.toArray) at1
  have hn : H s1.heap.objs.size = none := I.hok.fresh hz
  have olds : ∀ c o, s.heap.get? c = some o → (sortedHeap (s1.heap.push (seqObj "list" (M.map Prod.snd).toArray 0)) s1.heap.objs.size (M.map Prod.snd) out.toArray).get? c = some o := fun c o e => by
    have lt := Heap.lt_size (k1 c o e)
    rw [sortedHeap_old (Nat.ne_of_lt lt) (by rw [size_push']; exact Nat.lt_succ_of_lt lt)]
    exact up c o e
  have l2 : vs2.length ≤ sizeLine := by rw [r2.length, h2, ← e1.length, sizeLine_eq]; omega
  have J : Inv X pins σ (upd H s1.heap.objs.size (.lst vs2)) { s with heap := sortedHeap (s1.heap.push (seqObj "list" (M.map Prod.snd).toArray 0)) s1.heap.objs.size (M.map Prod.snd) out.toArray, gens := s1.gens, drawn := s1.drawn, toks := s1.toks } :=
    I.call (ch := []) (Un.laid olds hz hn) (I.hok.laid olds hz ⟨l2, out, c, r2, hc2⟩) (by rw [g1]; exact I.bare) (fun _ z => nomatch z)
  obtain ⟨sh, sg, sd, st, so⟩ := s1
  obtain rfl : so = s.os := o1
  exact wpAny_pure ⟨_, rfl, .ref _, _, J, rfl, new _ hn⟩
end
end AM
/-! text AmTb -/
set_option Elab.async false
set_option linter.all false
set_option maxRecDepth 100000
set_option maxHeartbeats 2000000
/-! AmTb: sorted(set(x)), len(set(x)) as expressions. -/
namespace AM
open PySem PySem.Spec PyProof.Rows L2
theorem noX_sset {m : Bool} : NoX (opSSet m) := by
  intro rs bx w bx' h
  unfold opSSet at h
  split at h
  · split at h
    · split at h
      · unfold mkL at h
        split at h
        · split at h
          · cases h
          · split at h <;> cases h
        · cases h
      · cases h
    · cases h
  · cases h
theorem noX_lset : NoX opLSet := by
  intro rs bx w bx' h
  unfold opLSet at h
  split at h
  · split at h
    · split at h <;> cases h
    · cases h
  · cases h
theorem EK.mono {F : Fx} {g g' : Gd} {H H' : Hp} {tp : Bool} (x : Ext g H g' H') : ∀ {L : List (NestedKey × Value)} {ls : List W}, PySem.W.EachIs (EK F tp g.Z H) L ls → PySem.W.EachIs (EK F tp g'.Z H') L ls
  | _, _, .nil => .nil
  | _, _, .cons ⟨a, b, c, v, r, y⟩ t => .cons ⟨a, b, c, v, r, y.mono x.z fun _ z => x.zk _ z⟩ (EK.mono x t)
theorem PostO.later {F : Fx} {g g' : Gd} {H H' : Hp} {Q : VK} {r : Res} (x : Ext g H g' H') (p : PostO F g H Q r) : PostO F g' H' Q r := by
  cases r with
  | ok r bx => exact fun g2 H2 v e b q => p g2 H2 v (x.trans e) b q
  | exc w bx => exact p.elim
  | stuck => exact p.elim
theorem chain_sset {F : Fx} {m : Bool} {vs : List V} {H : Hp} {Q : VK} (h : tO F (opSSet m) vs H Q) : rSet F vs H fun x H2 => rSortS F m [x] H2 Q := by
  obtain ⟨g, bx, r, v, rfl, b, h1, p⟩ := tO_one h fun rs bx h => by
    unfold opSSet
    split
    · simp at h
    · rfl
  simp only [opSSet] at p
  cases e : (itL bx r).bind AM.vals with
  | none => rw [e] at p; exact p.elim
  | some ws =>
    rw [e] at p
    simp only at p
    split at p
    · rename_i ok
      simp only [Bool.and_eq_true, decide_eq_true_eq] at ok
      refine ⟨g, bx, r, v, ws, rfl, b, h1, e, ok.1.1, ok.1.2, fun a tp L ls hn el pm => ?_⟩
      obtain ⟨x, b'⟩ := b.frozen (o := setO F.w a tp L) hn
      have so := sortOk_p ok.2
      have sf : SortOkP (firsts [] ws) := so.sub fun w m => by
        rw [mem_firsts] at m
        exact m.resolve_left (by simp)
      have sl : SortOkP ls := sf.sub fun w m => pm.mem_iff.mp m
      have key : ∀ w ∈ firsts [] ws, ∃ n, nk w = some n := fun w m => by
        obtain ⟨p, _, q⟩ := each_get el w (pm.mem_iff.mpr m)
        exact ⟨p.1, q.1⟩
      refine ⟨g.froze a, bx, a, tp, L, ls, rfl, upd_same, b', EK.mono x el, sl, ?_⟩
      rw [sort_one sf key pm]
      exact p.later x
    · exact p.elim
theorem chain_lset {F : Fx} {vs : List V} {H : Hp} {Q : VK} (h : tO F opLSet vs H Q) : rSet F vs H fun x H2 => rLenS F [x] H2 Q := by
  obtain ⟨g, bx, r, v, rfl, b, h1, p⟩ := tO_one h fun rs bx h => by
    unfold opLSet
    split
    · simp at h
    · rfl
  simp only [opLSet] at p
  cases e : (itL bx r).bind AM.vals with
  | none => rw [e] at p; exact p.elim
  | some ws =>
    rw [e] at p
    simp only at p
    split at p
    · rename_i ok
      simp only [Bool.and_eq_true, decide_eq_true_eq] at ok
      refine ⟨g, bx, r, v, ws, rfl, b, h1, e, ok.1, ok.2, fun a tp L ls hn el pm => ?_⟩
      obtain ⟨x, b'⟩ := b.frozen (o := setO F.w a tp L) hn
      refine ⟨a, tp, L, rfl, upd_same, ?_⟩
      have := p _ _ (.int (firsts [] ws).length) x b' (.v (.int _))
      rw [el.length, pm.length_eq]
      exact this
    · exact p.elim
section
variable {X : Cx} {ca : Ca} {e : Expr} {es : List Expr} {as : List (Bool × E)} {x y : Str} {p p2 q pos : Pos} {f : Op} {id : String} {rO : List V → Hp → VK → Prop}
/-- f(set(..)) -/
theorem se_set (n : NoX f) (hs : CallR X (.type "set") (rSet (fx X ca))) (hc : CallR X (.builtin id) rO) (ch : ∀ vs H Q, tO (fx X ca) f vs H Q → rSet (fx X ca) vs H fun x H2 => rO [x] H2 Q)
    (hg : Gl X x) (hm : X.mg x = none) (hv : bootBuiltins x = some (.builtin id)) (hn : x ≠ "__name__") (hdb : (x == ("__debug__" : Str)) = false) (hg2 : Gl X "set") (hm2 : X.mg "set" = none)
    (he : starEach (e :: es) X.env = (false, eval e X.env) :: starEach es X.env) (hpl : (backTo q (starEach es X.env)).any (·.1) = false) (ha : SA X ca as (e :: es)) :
    SE X ca (eArgs as fun xs _ bx => f xs bx) (.Call (.Name x p) [.Call (.Name "set" p2) (e :: es) [] q] [] pos) := ⟨fun Wx tk => by
  have inner := pe_callTy hs hg2 hm2 PyProof.Rows.boot_set (ha.all (k := fun xs _ bx => f xs bx) tk (t := fun σ H Q => ∃ Q0, tM (fx X ca) Wx (eArgs as fun xs _ bx => f xs bx) σ H Q0 ∧ ∀ xs H1, tK (fx X ca) Wx (fun xs _ bx => f xs bx) xs σ H1 Q0 → Q xs H1) fun σ H Q x => x) (p := p2) (by decide) (by decide) he hpl
  refine PE.imp (pe_callB hc hg hm hv (pa_cons inner pa_nil) hn hdb) fun σ H Q h => ?_
  exact ⟨Q, h, fun xs H1 z => ch _ _ _ (tK_op n z)⟩⟩
end
section
variable {P : Program} {w : World} {K : PySem.W.Frag} {mg : Str → Option Value} {base : Heap} {k : Nat} {N : List Str} {sc : Scope} {fs : Str → Bool} {X : Cx} {ca : Ca} {e : Expr} {es : List Expr} {as : List (Bool × E)} {p p2 q pos : Pos}
theorem Con.u80 (c : Con P w K mg base k N sc fs X) : X.A.units + 80 < cLine := by have := c.rm.r.un; omega
theorem v_sset {m : Bool} (c : Con P w K mg base k N sc fs X) (g1 : glB sc "sorted" = true) (h1 : mg "sorted" = none) (g2 : glB sc "set" = true) (h2 : mg "set" = none) (ha : SA X ca as (e :: es))
    (hs : starEach (e :: es) X.env = (false, eval e X.env) :: starEach es X.env := by rfl) (hpl : (backTo q (starEach es X.env)).any (·.1) = false := by rfl) : SE X ca (eArgs as fun xs _ bx => opSSet m xs bx) (.Call (.Name "sorted" p) [.Call (.Name "set" p2) (e :: es) [] q] [] pos) :=
  se_set noX_sset (c_set c.calm (Nat.lt_of_le_of_lt (by omega) c.u80)) (c_sortSet c.calm c.u80) (fun _ _ _ => chain_sset) (c.gl g1) (by rw [c.glo]; exact h1) (by decide) (by decide) (by decide) (c.gl g2) (by rw [c.glo]; exact h2) hs hpl ha
theorem v_lset (c : Con P w K mg base k N sc fs X) (g1 : glB sc "len" = true) (h1 : mg "len" = none) (g2 : glB sc "set" = true) (h2 : mg "set" = none) (ha : SA X ca as (e :: es))
    (hs : starEach (e :: es) X.env = (false, eval e X.env) :: starEach es X.env := by rfl) (hpl : (backTo q (starEach es X.env)).any (·.1) = false := by rfl) : SE X ca (eArgs as fun xs _ bx => opLSet xs bx) (.Call (.Name "len" p) [.Call (.Name "set" p2) (e :: es) [] q] [] pos) :=
  se_set noX_lset (c_set c.calm (Nat.lt_of_le_of_lt (by omega) c.u80)) c_lenSet (fun _ _ _ => chain_lset) (c.gl g1) (by rw [c.glo]; exact h1) (by decide) (by decide) (by decide) (c.gl g2) (by rw [c.glo]; exact h2) hs hpl ha
end
end AM
/-! text AmL1 -/
set_option Elab.async false
set_option linter.all false
set_option maxRecDepth 100000
set_option maxHeartbeats 2000000
/-! AmL1: a lambda made: the table of its maker's code object grows. -/
namespace AM
open PySem PySem.Spec PyProof.Rows L2

/-- behind the making of a lambda: nothing has changed, or a code object is new -/
inductive Lam1 (g : Gd) (H : Hp) (P : Addr) (q : Str) : Gd → Hp → Prop
  | hit : Lam1 g H P q g H
  | new {ps : Array Value} {c : Addr} {a b : Value} : H P = some (.tbl ps) → TriplesOk (ps ++ #[a, b, .ref c]).toList → H c = none →
      (∀ (pos : Pos) (cv : Value), codeAmong pos (ps ++ #[a, b, .ref c]).toList = some cv → codeAmong pos ps.toList = some cv ∨ cv = .ref c) →
      Lam1 g H P q (g.froze c) (upd (upd H P (.tbl (ps ++ #[a, b, .ref c]))) c (LamX.CodeO c q))
theorem Lam1.ok {F : Fx} {g g1 : Gd} {bx : Bx} {H H1 : Hp} {P : Addr} {q : Str} (l : Lam1 g H P q g1 H1) (b : BxOk F g bx H) (m : (P, q) ∈ F.ca.T) (u : ∀ p ∈ F.ca.T, p.1 = P → p.2 = q) : Ext g H g1 H1 ∧ BxOk F g1 bx H1 := by
  cases l with
  | hit => exact ⟨Ext.refl g H, b⟩
  | @new ps c a d hP ht hc hcm =>
    have tP := b.tabs _ m
    have zP : ¬ g.Z P := tP.2
    have nP : P ∉ g.al := fun z => b.noTbl z ps hP
    have Pc : P ≠ c := fun e => by rw [← e, hP] at hc; cases hc
    have at_ : ∀ x, x ≠ P → x ≠ c → upd (upd H P (.tbl (ps ++ #[a, d, .ref c]))) c (LamX.CodeO c q) x = H x := fun x h1 h2 => by rw [upd_ne h2, upd_ne h1]
    have nc : ∀ x, (H x).isSome → x ≠ c := fun x y e => by rw [e, hc] at y; cases y
    have zs : ∀ x, g.Z x → upd (upd H P (.tbl (ps ++ #[a, d, .ref c]))) c (LamX.CodeO c q) x = H x := fun x z => at_ x (fun e => zP (e ▸ z)) (nc x (b.trk x z))
    have x : Ext g H (g.froze c) (upd (upd H P (.tbl (ps ++ #[a, d, .ref c]))) c (LamX.CodeO c q)) := by
      refine ⟨fun _ z => .inl z, fun x z => z.imp id fun e => by rw [e]; exact hc, ⟨[], by simp [Gd.froze], by simp⟩, zs, fun x y _ nt => at_ x (fun e => nt ps (by rw [e]; exact hP)) (nc x y), fun x y => ?_⟩
      by_cases e : x = P
      · rw [e, upd_ne Pc, upd_same]; rfl
      · rw [at_ x e (nc x y)]; exact y
    refine ⟨x, b.len, b.nd, fun n y bb e1 e2 => (b.at_ n y bb e1 e2).mono x ?_, fun y my z => ?_, fun y z => ?_, fun p mp => ?_⟩
    · have my := List.mem_of_getElem? e1
      exact at_ y (fun e => nP (e ▸ my)) (nc y (b.alsome my))
    · rcases z with z | z
      · exact b.free y my z
      · exact nc y (b.alsome my) z
    · rcases z with z | z
      · rw [zs y z]; exact b.trk y z
      · rw [z, upd_same]; rfl
    · by_cases e : p.1 = P
      · have e2 := u p mp e
        rw [e, e2]
        obtain ⟨⟨ps', h1, h2, h3⟩, h4⟩ := tP
        rw [hP] at h1
        cases h1
        refine ⟨⟨_, by rw [upd_ne Pc, upd_same], ht, fun pos cv hv => ?_⟩, fun z => z.elim zP Pc⟩
        rcases hcm pos cv hv with y | y
        · obtain ⟨c0, e3, e4, e5⟩ := h3 pos cv y
          exact ⟨c0, e3, (zs c0 e5).trans e4, .inl e5⟩
        · exact ⟨c, y, upd_same, .inr rfl⟩
      · obtain ⟨ps', e3⟩ := (b.tabs p mp).at
        have ec := nc p.1 (by rw [e3]; rfl)
        exact (b.tabs p mp).stay (at_ p.1 e ec) (fun _ z => .inl z) (fun z => z.resolve_right ec) zs
section
variable {X : Cx} {pins : List (Addr × Obj)} {σ : L2.St} {H : Hp} {s : Shared} {F : Fx} {g : Gd} {bx : Bx}
/-- the lambda is made -/
theorem lam_new {c P : Addr} {params : Arguments} {body : Expr} {scope : Scope} {pos : Pos} {E : Value → Shared → Prop} {Q : Value → Shared → Prop} (I : Inv X pins σ H s) (TB : LamX.TabB X.base X.mg c P) (hcode : X.env.code = .ref c)
    (b : BxOk F g bx H) (m : (P, X.env.qual ++ "<lambda>") ∈ F.ca.T) (hdef : defaultsOf params X.env = ([], [])) (hfree : ∀ y ∈ scope.names, y.2 = .free → ∃ c, X.env.cells.lookup y.1 = some c)
    (h : ∀ (f c' : Addr) (pm ctv : Value) (g1 : Gd) (H1 : Hp) (s' : Shared), Inv X pins σ H1 s' → Lam1 g H P (X.env.qual ++ "<lambda>") g1 H1 →
      s'.heap.get? f = some (PySem.W.kla_obj "<lambda>" (X.env.qual ++ "<lambda>") params body scope (cloFrom X.env.cells scope.names []) pm c' ctv) → H1 f = none → f ∉ frs X.stack → H1 c' = some (LamX.CodeO c' (X.env.qual ++ "<lambda>")) → g1.Z c' → Q (.ref f) s') :
    wpAny (model X.prog X.w) X.A (eval (.Lambda params body scope pos) X.env) Q E s := by
  obtain ⟨⟨ps, hP, ht, told⟩, _⟩ := b.tabs _ m
  have atP : s.heap.get? P = some { cls := .none, data := .fields ps } := I.hok P _ hP
  have bm : s.heap.BuiltinsAt X.mg P := TB.bm.keeps I.bk
  have fresh : ∀ f, s.heap.objs.size ≤ f → f ∉ frs X.stack := fun f le z => by
    rcases List.mem_cons.mp (I.stkSub _ z) with e | e
    · exact absurd I.lt (by rw [← e]; exact Nat.not_lt.mpr le)
    · exact I.nofs le e
  refine PySem.W.kla_eval hdef ?_
  cases q : codeAmong pos ps.toList with
  | some cv =>
    obtain ⟨c', rfl, known, z⟩ := told pos cv q
    refine PySem.W.kla_makeFunctionHit (mg := X.mg) (c := c) (P := P) (ps := ps) (closure_ok hfree) I.ok.glob (I.mod.glob.keeps I.bk) hcode (TB.code.keeps I.bk) atP ht q bm fun ctv h' tk up le => ?_
    exact h h'.objs.size c' _ ctv g H _ (I.kept fun d o e => Heap.get?_push_of_some _ (up d o e)) .hit (Heap.get?_push_size _ rfl) (I.hok.fresh le) (fresh _ le) known z
  | none =>
    refine PySem.W.kla_makeFunction (mg := X.mg) (c := c) (P := P) (ps := ps) (closure_ok hfree) I.ok.glob (I.mod.glob.keeps I.bk) hcode (TB.code.keeps I.bk) atP ht q TB.gP bm fun c' ctv h' tk up ge lt rec tb => ?_
    obtain ⟨c2, oc, vs, t, e2, o1, o2, o3⟩ := rec
    cases e2
    have le : s.heap.objs.size ≤ h'.objs.size := Nat.le_trans ge (Nat.le_of_lt lt)
    have nC : H c' = none := I.hok.fresh ge
    have J := LamX.inv_table (t' := tk) (more := #[rawInt pos.line, rawInt pos.col, .ref c']) (h' := h'.push (PySem.W.kla_obj "<lambda>" (X.env.qual ++ "<lambda>") params body scope (cloFrom X.env.cells scope.names []) ((X.mg "__name__").getD .none) c' ctv)) I hP
      (fun d o hd e => Heap.get?_push_of_some _ (up d o hd e)) (Heap.get?_push_of_some _ tb) ge ⟨oc, vs, t, Heap.get?_push_of_some _ o1, o2, o3⟩
    have n1 : h'.objs.size ≠ c' := Nat.ne_of_gt lt
    have n2 : h'.objs.size ≠ P := Nat.ne_of_gt (Nat.lt_of_lt_of_le (Heap.lt_size atP) le)
    have eL : (ps ++ #[rawInt pos.line, rawInt pos.col, .ref c']).toList = ps.toList ++ [rawInt pos.line, rawInt pos.col, .ref c'] := by simp
    refine h h'.objs.size c' _ ctv (g.froze c') _ _ J (.new hP (by rw [eL]; exact PySem.TriplesOk_snoc _ _ _ _ ht) nC fun pos' cv hv => ?_) (Heap.get?_push_size _ rfl) ?_ (fresh _ le) upd_same (.inr rfl)
    · rw [eL] at hv
      exact LamX.among_app _ ht hv
    · rw [upd_ne n1, upd_ne n2]
      exact I.hok.fresh le
end
end AM
/-! text AmL2 -/
set_option Elab.async false
set_option linter.all false
set_option maxRecDepth 100000
set_option maxHeartbeats 2000000
/-! AmL2: the def that got the lambda calls it. -/
namespace AM
open PySem PySem.Spec PyProof.Rows L2
section
variable {X : Cx} {pins : List (Addr × Obj)} {σ : L2.St} {H HZ : Hp} {s s1 : Shared}
/-- a() in a try of the def that stands at ga: a is the lambda at f, made in X -/
theorem act_pe {Eg : XK} {Ng : List Str} {x a : Str} {sg scope : Scope} {ga f c' : Addr} {cdg pm ctv : Value} {params : Arguments} {body : Expr} {k : Nat} {pn : List (Addr × Obj)} {xe : Value → Shared → Prop} {W : WX} {tb : XK → TE} {p1 p2 : Pos}
    (I : Inv X pins σ H s) (L : LamX.LamS X.env.scope scope) (hf : s.heap.get? f = some (PySem.W.kla_obj "<lambda>" (X.env.qual ++ "<lambda>") params body scope (cloFrom X.env.cells scope.names []) pm c' ctv)) (hn : H f = none) (hs : f ∉ frs X.stack)
    (hb : bindArgs (PySem.W.kla_fn "<lambda>" (X.env.qual ++ "<lambda>") params body scope (cloFrom X.env.cells scope.names []) pm (.ref c') ctv) ⟨[], []⟩ = pure [])
    (tk : Takes ((cxOf (L2.CX X.prog X.w) X.prog X.w X.K X.mg X.base Ng x sg ga cdg X.A X.stack s H Eg).tr pn xe) W) (hr : Rm (k + 1) (X.A.deeper (envOfC x sg s.heap.objs.size ga cdg)))
    (hbody : ∀ (A : Around) (outer : List Env) (s : Shared) (H : Hp) (E : XK), Rm k (A.deeper (LamX.lamEnv X scope s.heap.objs.size f c')) → PE (LamX.lamCx X A outer s H E scope f c') body (tb E))
    (hN : Ng[0]? = some a) (hv : Vis sg a) (hd : (a == ("__debug__" : Str)) = false) (hcd : (a == ("__classdict__" : Str)) = false) :
    PE ((cxOf (L2.CX X.prog X.w) X.prog X.w X.K X.mg X.base Ng x sg ga cdg X.A X.stack s H Eg).tr pn xe) (.Call (.Name a p1) [] [] p2)
      (fun σZ HZ Q => σZ[0]? = some (some (.ref f)) ∧ HZ c' = some (LamX.CodeO c' (X.env.qual ++ "<lambda>")) ∧ ∃ E : XK, (∀ cls d H', E cls d H' → W cls d σZ H') ∧ tb E σ HZ Q) := by
  refine ⟨fun pinsZ sZ σZ HZ Q IZ ⟨z0, zc, E, hW, zt⟩ => ?_⟩
  refine wpAny_Call_Name_kw (thn ((pe_var (pos := p1) (i := 0) hN hv hd hcd).run pinsZ sZ σZ HZ (fun v H1 => v = .ref f ∧ H1 = HZ) IZ ⟨.ref f, z0, rfl, rfl⟩) fun u s1 ⟨v, H1, I1, r1, e1, e2⟩ => ?_)
  subst e1
  subst e2
  obtain rfl : u = Value.ref f := r1
  have atf : s1.heap.get? f = some (PySem.W.kla_obj "<lambda>" (X.env.qual ++ "<lambda>") params body scope (cloFrom X.env.cells scope.names []) pm c' ctv) := I1.base.keep f _ hf hn hs (fun z => nomatch (show f ∈ ([] : List Addr) from z))
  refine PySem.W.callWith_F0 ⟨_, _, _, _, atf⟩ ?_
  obtain ⟨⟨oc, vs, t, o1, o2, o3⟩, _, _⟩ := I1.hok c' _ zc
  have un : Un (frs X.stack) [] H H1 s.heap s1.heap := I1.base
  have main : codeAny (model X.prog X.w) (X.A.deeper (envOfC x sg s.heap.objs.size ga cdg)) (.call (.ref f) ⟨[], []⟩) (CR (L2.CX X.prog X.w) (envOfC x sg s.heap.objs.size ga cdg :: X.stack) X.prog X.w H1 s1 Q E) s1 := by
    refine PySem.W.kla_callFunE hr.r.depth atf rfl L.co L.gen rfl ⟨c', oc, vs, t, rfl, o1, o2, o3⟩ ?_
    rw [hb]
    refine wpAny_pure (wpAny_newFunctionEnv (fun y m => (L.own y m).2) (fun y m => absurd m (by simp)) (fun h1 ns sb => ⟨I1.nolimit.fresh _ sb, ?_⟩) L.kind)
    show codeAny _ _ (.expr body (LamX.lamEnv X scope s1.heap.objs.size f c')) _ _
    have J : Inv (LamX.lamCx X (X.A.deeper (envOfC x sg s.heap.objs.size ga cdg)) (envOfC x sg s.heap.objs.size ga cdg :: X.stack) s1 H1 E scope f c') [] σ H1 { s1 with heap := h1, toks := s1.toks + ([] : List (Str × Value)).length } :=
      LamX.lam_start2 I L I1.env0 hr.r.hd un ns fun b o e => sb.extBut b o (Nat.ne_of_lt (Heap.lt_size e)) (Heap.get?_push_of_some _ e)
    exact PySem.W.kla_codeExpr (wpAny_mono ((hbody _ _ s1 H1 E (hr.deeper _)).run [] _ _ H1 Q J zt) (fun v s2 ⟨w', H', J', rv, q⟩ => ⟨w', H', J'.os, J'.bare, J'.base, J'.hok, rv, q⟩) fun _ _ q => q)
  refine wpAny_call (codeAny_mono main fun r s2 q => ?_)
  rcases r with e | (_ | _ | _ | v)
  · exact tk e s2 (XE.of_call I1 hW q)
  · exact q.elim
  · exact q.elim
  · exact q.elim
  · exact I1.after q
end
end AM
/-! text AmL3 -/
set_option Elab.async false
set_option linter.all false
set_option maxRecDepth 100000
set_option maxHeartbeats 2000000
/-! AmL3: f(lambda: e), where f tries what it got. -/
namespace AM
open PySem PySem.Spec PyProof.Rows L2

/-- what is known of the call of the lambda, in the try of the def that got it -/
def ActOk (X : Cx) (a : Str) (f c' : Addr) (q : Str) (tl : XK → Hp → VK → Prop) : Prop := ∀ (W : WX) (pn : List (Addr × Obj)) (xe : Value → Shared → Prop) (p1 p2 : Pos), Takes (X.tr pn xe) W →
  PE (X.tr pn xe) (.Call (.Name a p1) [] [] p2) (fun σZ HZ Q => σZ[0]? = some (some (.ref f)) ∧ HZ c' = some (LamX.CodeO c' q) ∧ ∃ E : XK, (∀ cls d H', E cls d H' → W cls d σZ H') ∧ tl E HZ Q)
def tW (F : Fx) (N : List Str) (f c' : Addr) (q : Str) (tl : XK → Hp → VK → Prop) (G : (Bx → Res) → Bx → Res) (EX : XK) : TS := fun D σ H => ∃ Q : VK, D = { nx := fun _ H' => Q .non H', rt := Q } ∧ σ = L2.start N [V.ref f] ∧ H c' = some (LamX.CodeO c' q) ∧
  ∃ g bx act, BxOk F g bx H ∧ g.Z c' ∧ (∀ (E : XK) (Q' : VK), PostR F g [] H (fun c d _ H' => E c d H') Q' (act bx) → tl E H Q') ∧ PostR F g [] H (fun c d _ H' => EX c d H') Q (G act bx)
/-- the def x that tries what it got -/
structure WordOk (P : Program) (w : World) (K : PySem.W.Frag) (mg : Str → Option Value) (base : Heap) (ca : Ca) (k : Nat) (G : (Bx → Res) → Bx → Res) (x : Str) : Prop where
  ex : ∃ (fa : Addr) (fd : FuncData) (args : Arguments) (body : List Stmt) (sc : Scope) (N : List Str) (a : Str), FunD K x x args body sc [] [] fa fd ∧ mg x = some (.ref fa) ∧ FnScope N [a] sc ∧ N[0]? = some a ∧ Vis sc a ∧ nmB a = true ∧
    (∀ (kV doc pm : Value) (an : Option Addr) (cdv ct : Value) (us : List Value), us.length = [a].length → bindArgs (PySem.W.fnOf x x args body sc .none kV doc pm an cdv ct) ⟨us, []⟩ = pure ([a].zip us)) ∧
    ∀ (X : Cx) (f c' : Addr) (q : Str) (tl : XK → Hp → VK → Prop) (EX : XK), Con P w K mg base k N sc (fun _ => true) X → Sta X → ActOk X a f c' q tl → Takes X (fun c d _ H => EX c d H) → PSs X body (tW (fx X ca) N f c' q tl G EX)
/-- what the making of a lambda asks of the maker -/
structure LamC (ca : Ca) (X : Cx) : Prop where
  ex : ∃ c P, LamX.TabB X.base X.mg c P ∧ X.env.code = .ref c ∧ (P, X.env.qual ++ "<lambda>") ∈ ca.T ∧ ∀ p ∈ ca.T, p.1 = P → p.2 = X.env.qual ++ "<lambda>"
theorem PostR.any {F : Fx} {g : Gd} {H : Hp} {σ σ' : L2.St} {E : XK} {Q : VK} {r : Res} (h : PostR F g σ H (fun c d _ H' => E c d H') Q r) : PostR F g σ' H (fun c d _ H' => E c d H') Q r := by
  cases r <;> exact h
theorem seq_post {F : Fx} {g : Gd} {H : Hp} {Wx : WX} {D : Ends} {c c1 : C} {cs : List C} {en : En} {bx : Bx} (p : PostC F g H Wx D (cSeq (c :: c1 :: cs) en bx)) : PostC F g H Wx { D with nx := tS F Wx (cSeq (c1 :: cs)) D } (c en bx) := by
  replace p : PostC F g H Wx D (match c en bx with
    | .nx en' bx' => cSeq (c1 :: cs) en' bx'
    | x => x) := p
  cases q : c en bx with
  | nx en' bx' =>
    rw [q] at p
    exact fun g' σ' H' e' b' a' => ⟨g', en', bx', a', b', PostC.ext e' p⟩
  | ct en' bx' => rw [q] at p; exact p
  | rt r bx' => rw [q] at p; exact p
  | exc w en' bx' => rw [q] at p; exact p
  | stuck => rw [q] at p; exact p
theorem end_post {F : Fx} {g : Gd} {H : Hp} {EX : XK} {Q : VK} {r : Ct} (p : PostR F g [] H (fun c d _ H' => EX c d H') Q (endR r)) : PostC F g H (fun c d _ H' => EX c d H') { nx := fun _ H' => Q .non H', rt := Q } r := by
  cases r with
  | nx en bx => exact fun g' σ' H' x b _ => p g' H' .non x b (.v .non)
  | ct en bx => exact p.elim
  | rt r bx => exact p
  | exc w en bx => exact fun g' σ' H' c d x b _ => p g' H' c d x b
  | stuck => exact p.elim
section
variable {P : Program} {w : World} {K : PySem.W.Frag} {mg : Str → Option Value} {base : Heap} {ca : Ca} {k : Nat} {N : List Str} {sc : Scope} {X : Cx} {T : Tab} {x y n a : Str} {c i i1 kk : Nat} {suite rest : List Stmt} {b₀ r₀ : Stmt} {py pp spos p1 p2 p3 np pos' pos : Pos} {ch rc : C}
/-- the body of such a def -/
theorem word_body {f c' : Addr} {q : Str} {tl : XK → Hp → VK → Prop} {EX : XK} (co : Con P w K mg base k N sc (fun _ => true) X) (S : Sta X) (act : ActOk X a f c' q tl) (tk : Takes X (fun c d _ H => EX c d H)) (n0 : i1 ≠ 0) (hy : locB N sc (fun _ => true) i1 y = true) (hi : locB N sc (fun _ => false) i n = true)
    (g : glB sc x = true) (hx : mg x = some (.ref (ca c))) (hm : ∀ d, d < T.n → T.exc d = true → PySem.W.exmOne K (.ref (ca d)) (.ref (ca c)) = some (T.sub d c)) (hh : ∀ X', Lk N sc (fun _ => true) X' → SSs X' ca ch (b₀ :: suite)) (hr : SSs X ca rc (r₀ :: rest)) :
    PSs X (.Assign [.Name y py] (.Constant .none kk pp) spos :: .Try [.Expr (.Call (.Name a p1) [] [] p2) p3] [.ExceptHandler (some (.Name x np)) (some n) (b₀ :: suite) pos'] [] [] pos :: r₀ :: rest)
      (tW (fx X ca) N f c' q tl (wordF T c i i1 N.length ch rc) EX) := by
  obtain ⟨l1, l2, l3⟩ := co.loc hy
  have g2 := g
  simp only [glB, Bool.and_eq_true] at g2
  have li : X.N[i]? = some n ∧ X.env.kindOf n = some .local := by
    show X.N[i]? = some n ∧ X.env.scope.names.lookup n = _
    rw [co.names, co.sco]
    simp only [locB, Bool.and_eq_true, decide_eq_true_eq] at hi
    refine ⟨hi.1, ?_⟩
    have h2 := hi.2
    split at h2
    · assumption
    · cases h2
    · cases h2
  have ps1 : PS X (.Assign [.Name y py] (.Constant .none kk pp) spos) (tAsg (tC .non) (gName i1)) := ps_set co.ndX l1 l2 pe_non (by rfl) l3
  have ps2 := ps_catch (X := X) (x := x) (n := n) (c := .ref (ca c)) (i := i) (np := np) (pos := pos) (pos' := pos') (body := [.Expr (.Call (.Name a p1) [] [] p2) p3]) (suite := suite) (b₀ := b₀) (Wout := fun c d _ H => EX c d H) (ts := fun _ _ _ => tS (fx X ca) W0 ch)
    (tb := fun Wb D σ H => σ[0]? = some (some (V.ref f)) ∧ H c' = some (LamX.CodeO c' q) ∧ ∃ E : XK, (∀ cls d H', E cls d H' → Wb cls d σ H') ∧ tl E H (fun _ H1 => D.nx σ H1))
    S co.ndX li.1 li.2 ⟨co.gl g, (nmB_ok g2.2).1, .inl (by rw [co.glo]; exact hx)⟩ tk (fun Wb pn xe tb _ => PSs.imp (pss_one (ps_expr (act Wb pn xe p1 p2 tb))) fun D σ H h => h) fun ad C d pn => (hh (X.suite ad pn) ⟨co.names, co.nd, co.sco, co.fns⟩).ps W0 (takes0 _)
  refine PSs.imp (pss_cons ps1 (pss_cons ps2 (hr.ps _ tk))) fun D σ H ⟨Q, eD, eσ, hc, g, bx, ac, b, zc, ha, p⟩ => ?_
  subst eD
  subst eσ
  have len : i1 < N.length := by
    rw [co.names] at l1
    exact (List.getElem?_eq_some_iff.mp l1).1
  have e1 : EnOk (fx X ca) g ((List.replicate N.length none).set i1 (some (.v .non))) ((L2.start N [V.ref f]).set i1 (some .non)) H := by
    refine ⟨by simp [L2.start]; omega, fun j r e => ?_⟩
    by_cases z : j = i1
    · subst z
      rw [List.getElem?_set_self (by simpa using len)] at e
      cases e
      refine ⟨.non, ?_, .v .non⟩
      rw [List.getElem?_set_self (by simp [L2.start]; omega)]
    · rw [List.getElem?_set_ne (Ne.symm z), List.getElem?_replicate] at e
      split at e <;> cases e
  have p4 := try_post (F := fx X ca) (hm := fun d h1 h2 => (congrArg (fun K => PySem.W.exmOne K (.ref (ca d)) (.ref (ca c))) co.frag).trans (hm d h1 h2)) (seq_post (end_post p))
  refine ⟨?_, hc, fun cls d H' => wCatch X.K (.ref (ca c)) i (fun _ _ _ => tS (fx X ca) W0 ch) (fun c d _ H => EX c d H) _ cls d ((L2.start N [V.ref f]).set i1 (some .non)) H', fun _ _ _ h => h, ha _ _ ?_⟩
  · rw [List.getElem?_set_ne n0]
    rfl
  · replace p4 : PostC (fx X ca) g H _ _ (match ac bx with
      | .ok r b => .nx ((List.replicate N.length none).set i1 (some (.v .non))) b
      | .exc w b => .exc w ((List.replicate N.length none).set i1 (some (.v .non))) b
      | .stuck => .stuck) := p4
    cases e : ac bx with
    | ok r b2 => rw [e] at p4; exact fun g' H' v x' b' _ => p4 g' _ H' x' b' (e1.mono x')
    | exc w b2 => rw [e] at p4; exact fun g' H' cls d x' b' xr => p4 g' _ H' cls d x' b' (e1.mono x') xr
    | stuck => rw [e] at p4; exact p4.elim
end
end AM
/-! text AmL4 -/
set_option Elab.async false
set_option linter.all false
set_option maxRecDepth 100000
set_option maxHeartbeats 2000000
/-! AmL4: f(lambda: e). -/
namespace AM
open PySem PySem.Spec PyProof.Rows L2
section
variable {P : Program} {w : World} {K : PySem.W.Frag} {mg : Str → Option Value} {base : Heap} {ca : Ca} {k : Nat} {N : List Str} {sc scope : Scope} {fs : Str → Bool} {X : Cx} {x : Str} {G : (Bx → Res) → Bx → Res} {m : E} {params : Arguments} {body : Expr} {p lpos pos : Pos}
theorem Con.down {j : Nat} (c : Con P w K mg base k N sc fs X) (h : j ≤ k) : Con P w K mg base j N sc fs X := ⟨c.prog, c.wd, c.frag, c.glo, c.bs, c.rm.mono h, c.calm, c.names, c.nd, c.sco, c.fns⟩
theorem v_word (c : Con P w K mg base (k + 2) N sc fs X) (W : WordOk P w K mg base ca (k + 1) G x) (M : LamC ca X) (g : glB sc x = true) (L : LamX.lamSB sc scope = true) (hb : ∀ X', Con P w K mg base k N scope (fun _ => false) X' → SE X' ca m body)
    (hdef : defaultsOf params X.env = ([], []) := by rfl) (hbind : ∀ (q : Str) (cl : List (Str × Addr)) (pm cv ctv : Value), bindArgs (PySem.W.kla_fn "<lambda>" q params body scope cl pm cv ctv) ⟨[], []⟩ = pure [] := by intro _ _ _ _ _; rfl) :
    SE X ca (eWord G m) (.Call (.Name x p) [.Lambda params body scope lpos] [] pos) := ⟨fun Wx tk => ⟨fun pins s σ H Q I ⟨ge, en, bx, a, b, pq⟩ => by
  obtain ⟨fa, fd, args, wb, ws, wN, an, D, hmx, S, wN0, wv, wnm, wbind, wbody⟩ := W.ex
  obtain ⟨cd, P0, TB, hcode, hmT, hu⟩ := M.ex
  have L' : LamX.LamS X.env.scope scope := by rw [c.sco]; exact LamX.lamS_by L
  have pq : PostR (fx X ca) ge σ H Wx Q (G (fun b => m en b) bx) := PostR.settle b pq
  have g2 := g
  simp only [glB, Bool.and_eq_true] at g2
  refine wpAny_Call_Name_kw (ld_glob I (c.gl g) (by rw [c.glo]; exact hmx) ?_ (nmB_ok g2.2).1)
  refine PySem.W.callWith_K (h₀ := X.base) I.ok.mod.kin (by rw [c.frag]; exact D.kp) ?_ (by rfl) (by rfl)
  show wpAny _ _ (spliced ((false, eval (.Lambda params body scope lpos) X.env) :: backTo pos (starEach [] X.env))) _ _ s
  refine Calls.spliced_cons (lam_new I TB hcode b hmT hdef (L'.has I.ok) fun f c' pm' ctv g1 H1 s' I1 l hf hn hfr hc zc => ?_)
  refine Calls.spliced_nil ⟨I1.kIn, ?_⟩
  obtain ⟨x1, b1⟩ := l.ok b hmT hu
  obtain ⟨oc, od, dV, kV, doc, pm, ann, cdv, ct, osl, rfl, lk, hcd, _, _⟩ := D.ex
  have lens : [V.ref f].length = [an].length := rfl
  have main : codeAny (model X.prog X.w) X.A (.call (.ref fa) ⟨[.ref f], []⟩) (CR (L2.CX X.prog X.w) X.stack X.prog X.w H1 s' Q fun cls d H' => Wx cls d σ H') s' := by
    have hbd := D.bindsN (ps := [an]) wbind
    rw [← c.frag] at hbd lk hcd
    refine LamX.run_ofS (N := wN) (ps := [an]) (us := [.ref f]) (vs := [V.ref f]) lk hcd S c.rm.r I1.env0 (hbd s' [.ref f] I1.kIn rfl) (.cons rfl .nil) rfl fun _ => ?_
    have rmZ : Rm (k + 1) (X.A.deeper (envOfC x ws s'.heap.objs.size fa cdv)) := c.rm.deeper _
    refine ⟨_, wbody (cxOf (L2.CX X.prog X.w) X.prog X.w X.K X.mg X.base wN x ws fa cdv X.A X.stack s' H1 fun cls d H' => Wx cls d σ H') f c' (X.env.qual ++ "<lambda>") (fun E H' Q' => tM (fx X ca) (fun cls d _ H' => E cls d H') m σ H' Q') (fun cls d H' => Wx cls d σ H')
      ⟨c.prog, c.wd, c.frag, c.glo, c.bs, rmZ, rfl, rfl, S.nd, rfl, rfl⟩ ⟨passes_of rfl, rfl, rfl, rfl⟩ (fun W pn xe p1 p2 tkW => ?_) (takes_of rfl rfl rfl rfl), ?_⟩
    · exact act_pe (tb := fun E σ' H' Q' => tM (fx X ca) (fun cls d _ H' => E cls d H') m σ' H' Q') I1 L' hf hn hfr (hbind _ _ _ _ _) tkW rmZ (fun A outer s2 H2 E rm2 => (hb (LamX.lamCx X A outer s2 H2 E scope f c') ⟨c.prog, c.wd, c.frag, c.glo, c.bs, rm2, rfl, c.names, c.nd, rfl, rfl⟩).pe _ (takes_of rfl rfl rfl rfl)) wN0 wv (nmB_ok wnm).1 (nmB_ok wnm).2.1
    · refine ⟨Q, rfl, rfl, hc, g1, bx, fun b => m en b, b1, zc, fun E Q' h => ⟨g1, en, bx, a.mono x1, b1, h.any⟩, ?_⟩
      have p2 := PostR.ext x1 pq
      generalize G (fun b => m en b) bx = r at p2
      cases r <;> exact p2
  refine wpAny_call (codeAny_mono main fun r s2 q => ?_)
  have z := back_ok tk I1 (fun _ _ _ q => q) q
  rcases r with e | (v | _ | _ | _) <;> first | exact z | exact z.elim | (exact I1.after q)⟩⟩
end
end AM
/-! text AmL5 -/
set_option Elab.async false
set_option linter.all false
set_option maxRecDepth 100000
set_option maxHeartbeats 2000000
/-! AmL5: a def with lambdas in it. -/
namespace AM
open PySem PySem.Spec PyProof.Rows L2
/-- the name that the code objects of x's lambdas bear -/
def lamQ (x : Str) : Str := x ++ ".<locals>." ++ "<lambda>"
/-- the table of x's code object is known -/
structure TabF (K : PySem.W.Frag) (mg : Str → Option Value) (base : Heap) (ca : Ca) (x : Str) : Prop where
  ex : ∀ (fa : Addr) (fd : FuncData) (oc : Value) (od : Option Addr) (osl : Array (Option Value)), mg x = some (.ref fa) → K.lookup fa = some ⟨oc, od, .func fd, osl⟩ → ∃ c P, fd.code = .ref c ∧ LamX.TabB base mg c P ∧ (P, lamQ x) ∈ ca.T ∧ ∀ p ∈ ca.T, p.1 = P → p.2 = lamQ x
section
variable {P : Program} {w : World} {K : PySem.W.Frag} {mg : Str → Option Value} {base : Heap} {ca : Ca} {k n f : Nat} {F : Fn} {x : Str} {N ps : List Str} {sc : Scope}
theorem def_okL {args : Arguments} {body : List Stmt} {fa : Addr} {fd : FuncData} {c : C} {m : Nat} (D : FunD K x x args body sc [] [] fa fd) (hm : mg x = some (.ref fa)) (S : FnScope N ps sc) (hN : N.length = m) (hps : ps.length = n) (hF : F f = runF n m c) (M : TabF K mg base ca x)
    (hbind : ∀ (kV doc pm : Value) (an : Option Addr) (cdv ct : Value) (us : List Value), us.length = ps.length → bindArgs (PySem.W.fnOf x x args body sc .none kV doc pm an cdv ct) ⟨us, []⟩ = pure (ps.zip us))
    (hb : ∀ X, Con P w K mg base k N sc (fun _ => true) X → LamC ca X → Sta X → SSs X ca c body) : FunOk P w K mg base ca (k + 1) (F f) n x := by
  rw [hF]
  refine ⟨runF_st, fa, fd, ps, hps, ?_, hm, D.kp, D.bindsN hbind⟩
  obtain ⟨oc, od, dV, kV, doc, pm, an, cdv, ct, osl, rfl, lk, hcd, _, _⟩ := D.ex
  refine fng_of lk hcd S (fun vs H Q E h => h.1.trans hps.symm) fun A outer s H vs Q E hr hM hsp => ?_
  have lam : LamC ca (cxOf (L2.CX P w) P w K mg base N x sc fa cdv A outer s H E) := by
    obtain ⟨c0, P0, h1, h2, h3, h4⟩ := M.ex fa _ _ _ _ hm lk
    exact ⟨c0, P0, h2, h1, h3, h4⟩
  have tk : Takes (cxOf (L2.CX P w) P w K mg base N x sc fa cdv A outer s H E) fun cls d _ H => E cls d H := takes_of rfl rfl rfl rfl
  refine ⟨_, (hb _ ⟨rfl, rfl, rfl, rfl, rfl, hr, rfl, rfl, S.nd, rfl, rfl⟩ lam ⟨passes_of rfl, rfl, rfl, rfl⟩).ps _ tk, ?_⟩
  obtain ⟨hl, g, bx, rs, b, rr, p⟩ := hsp
  have hl2 : rs.length = n := rr.length.trans hl
  refine ⟨g, _, bx, start_ok rr N, b, end_post ?_⟩
  unfold runF at p
  rw [if_pos hl2, ← hN] at p
  unfold run at p
  cases e : c (rs.map some ++ List.replicate (N.length - rs.length) none) bx with
  | nx en' bx' => rw [e] at p; exact p
  | rt r bx' => rw [e] at p; exact p
  | ct en' bx' => rw [e] at p; exact p
  | exc w en' bx' => rw [e] at p; exact p
  | stuck => rw [e] at p; exact p
end
end AM
/-! text AmL6 -/
set_option Elab.async false
set_option linter.all false
set_option maxRecDepth 100000
set_option maxHeartbeats 2000000
/-! AmL6: a, b = x, y; a, b, c = x, y, z; a tuple's names from one value; calls without arguments. -/
namespace AM
open PySem PySem.Spec PyProof.Rows L2
section
variable {F : Fx} {Wx : WX} {D : Ends} {σ : L2.St} {H : Hp}
/-- with answers at hand -/
def tSV (F : Fx) (Wx : WX) (k : List R → C) (vs : List V) : TS := fun D σ H => ∃ g en bx rs, EnOk F g en σ H ∧ BxOk F g bx H ∧ RRs F g H rs vs ∧ PostC F g H Wx D (k rs en bx)
theorem tSV_cE {m : E} {k : List R → R → C} {vs : List V} (h : tSV F Wx (fun rs => cE m (k rs)) vs D σ H) : tM F Wx m σ H fun v H1 => ∃ g en bx rs r, EnOk F g en σ H1 ∧ BxOk F g bx H1 ∧ RRs F g H1 rs vs ∧ RR F g H1 r v ∧ PostC F g H1 Wx D (k rs r en bx) := by
  obtain ⟨g, en, bx, rs, a, b, rr, c⟩ := h
  refine ⟨g, en, bx, a, b, ?_⟩
  replace c : PostC F g H Wx D (match m en bx with
    | .ok r bx' => k rs r en bx'
    | .exc w bx' => .exc w en bx'
    | .stuck => .stuck) := c
  cases e : m en bx with
  | ok r bx' =>
    rw [e] at c
    exact fun g' H' v e' b' r' => ⟨g', en, bx', rs, r, a.mono e', b', rr.mono e', r', c.ext e'⟩
  | exc w bx' =>
    rw [e] at c
    exact fun g' H' cls d e' b' x => c g' σ H' cls d e' b' (a.mono e') x
  | stuck => rw [e] at c; exact c.elim
end
section
variable {P : Program} {w : World} {K : PySem.W.Frag} {mg : Str → Option Value} {base : Heap} {ca : Ca} {k i j l n f : Nat} {N : List Str} {sc : Scope} {fs : Str → Bool} {X : Cx} {x y z : Str} {a b d : Expr} {ma mb md : E} {px py pz pt pt2 pos p : Pos} {kt k2 : Nat} {F : Fn}
theorem loc_of (c : Con P w K mg base k N sc fs X) (h : locB N sc (fun _ => false) i x = true) : X.N[i]? = some x ∧ X.env.scope.names.lookup x = some .local := by
  rw [c.names, c.sco]
  simp only [locB, Bool.and_eq_true, decide_eq_true_eq] at h
  refine ⟨h.1, ?_⟩
  have h2 := h.2
  split at h2
  · assumption
  · cases h2
  · cases h2
theorem v_par (c : Con P w K mg base k N sc fs X) (h1 : locB N sc (fun _ => false) i x = true) (h2 : locB N sc (fun _ => false) j y = true) (ij : i ≠ j) (ha : SE X ca ma a) (hb : SE X ca mb b)
    (hw : swappedStores [.Tuple [.Name x px, .Name y py] kt pt] (.Tuple [a, b] k2 pt2) X.env = pure (some [x, y])) (hs : swapsWithSole [.Tuple [.Name x px, .Name y py] kt pt] (.Tuple [a, b] k2 pt2) pos.line X.env = pure false := by rfl)
    (s1 : starEach [a, b] X.env = (false, eval a X.env) :: starEach [b] X.env := by rfl) (s2 : starEach [b] X.env = (false, eval b X.env) :: starEach [] X.env := by rfl) :
    SS X ca (cPar i j ma mb) (.Assign [.Tuple [.Name x px, .Name y py] kt pt] (.Tuple [a, b] k2 pt2) pos) := ⟨fun Wx tk => by
  obtain ⟨n1, l1⟩ := loc_of c h1
  obtain ⟨n2, l2⟩ := loc_of c h2
  refine PS.imp (ps_par c.calm c.ndX n1 n2 ij l1 l2 (pa_cons (ha.pe Wx tk) (pa_cons (hb.pe Wx tk) pa_nil s2) s1) hw hs) fun D σ H h => ?_
  have h : tSV (fx X ca) Wx (fun _ => cE ma fun x => cE mb fun y en bx => if i ≠ j ∧ i < en.length ∧ j < en.length then .nx ((en.set i (some x)).set j (some y)) bx else .stuck) [] D σ H := by
    obtain ⟨g, en, bx, a, b, p⟩ := h
    exact ⟨g, en, bx, [], a, b, .nil, p⟩
  refine tM_imp (tSV_cE h) fun v H1 ⟨g, en, bx, rs, r, a, b, _, r1, p⟩ => ?_
  have h2 : tSV (fx X ca) Wx (fun rs => cE mb fun y en bx => if i ≠ j ∧ i < en.length ∧ j < en.length then .nx ((en.set i (some (rs.headD (.v .non)))).set j (some y)) bx else .stuck) [v] D σ H1 := ⟨g, en, bx, [r], a, b, .cons r1 .nil, p⟩
  refine tM_imp (tSV_cE h2) fun v2 H2 ⟨g, en, bx, rs, r, a, b, rr, r2, p⟩ => ⟨v, v2, rfl, ?_⟩
  cases rr with | cons q1 q2 =>
  split at p
  · exact p g _ H2 (Ext.refl g H2) b ((a.set q1).set r2)
  · exact p.elim⟩
theorem v_par3 (c : Con P w K mg base k N sc fs X) (h1 : locB N sc (fun _ => false) i x = true) (h2 : locB N sc (fun _ => false) j y = true) (h3 : locB N sc (fun _ => false) l z = true) (ij : i ≠ j) (il : i ≠ l) (jl : j ≠ l) (ha : SE X ca ma a) (hb : SE X ca mb b) (hd : SE X ca md d)
    (hw : swappedStores [.Tuple [.Name x px, .Name y py, .Name z pz] kt pt] (.Tuple [a, b, d] k2 pt2) X.env = pure (some [x, y, z])) (hs : swapsWithSole [.Tuple [.Name x px, .Name y py, .Name z pz] kt pt] (.Tuple [a, b, d] k2 pt2) pos.line X.env = pure false := by rfl)
    (s1 : starEach [a, b, d] X.env = (false, eval a X.env) :: starEach [b, d] X.env := by rfl) (s2 : starEach [b, d] X.env = (false, eval b X.env) :: starEach [d] X.env := by rfl) (s3 : starEach [d] X.env = (false, eval d X.env) :: starEach [] X.env := by rfl) :
    SS X ca (cPar3 i j l ma mb md) (.Assign [.Tuple [.Name x px, .Name y py, .Name z pz] kt pt] (.Tuple [a, b, d] k2 pt2) pos) := ⟨fun Wx tk => by
  obtain ⟨n1, l1⟩ := loc_of c h1
  obtain ⟨n2, l2⟩ := loc_of c h2
  obtain ⟨n3, l3⟩ := loc_of c h3
  refine PS.imp (L2.ps_par3 c.calm c.ndX n1 n2 n3 ij il jl l1 l2 l3 (pa_cons (ha.pe Wx tk) (pa_cons (hb.pe Wx tk) (pa_cons (hd.pe Wx tk) pa_nil s3) s2) s1) hw hs) fun D σ H h => ?_
  obtain ⟨ok, hok⟩ : ∃ ok : En → Prop, ok = fun en => (i ≠ j ∧ i ≠ l ∧ j ≠ l) ∧ i < en.length ∧ j < en.length ∧ l < en.length := ⟨_, rfl⟩
  have h : tSV (fx X ca) Wx (fun _ => cE ma fun x => cE mb fun y => cE md fun z en bx => if (i ≠ j ∧ i ≠ l ∧ j ≠ l) ∧ i < en.length ∧ j < en.length ∧ l < en.length then .nx (((en.set i (some x)).set j (some y)).set l (some z)) bx else .stuck) [] D σ H := by
    obtain ⟨g, en, bx, a, b, p⟩ := h
    exact ⟨g, en, bx, [], a, b, .nil, p⟩
  refine tM_imp (tSV_cE h) fun v H1 ⟨g, en, bx, rs, r, a, b, _, r1, p⟩ => ?_
  have h2 : tSV (fx X ca) Wx (fun rs => cE mb fun y => cE md fun z en bx => if (i ≠ j ∧ i ≠ l ∧ j ≠ l) ∧ i < en.length ∧ j < en.length ∧ l < en.length then .nx (((en.set i (some (rs.headD (.v .non)))).set j (some y)).set l (some z)) bx else .stuck) [v] D σ H1 := ⟨g, en, bx, [r], a, b, .cons r1 .nil, p⟩
  refine tM_imp (tSV_cE h2) fun v2 H2 ⟨g, en, bx, rs, r, a, b, rr, r2, p⟩ => ?_
  have h3 : tSV (fx X ca) Wx (fun rs => cE md fun z en bx => if (i ≠ j ∧ i ≠ l ∧ j ≠ l) ∧ i < en.length ∧ j < en.length ∧ l < en.length then .nx (((en.set i (some (rs.headD (.v .non)))).set j (some (rs.tail.headD (.v .non)))).set l (some z)) bx else .stuck) [v, v2] D σ H2 := by
    cases rr with | cons q1 q2 =>
    cases q2
    exact ⟨g, en, bx, [_, r], a, b, .cons q1 (.cons r2 .nil), p⟩
  refine tM_imp (tSV_cE h3) fun v3 H3 ⟨g, en, bx, rs, r, a, b, rr, r3, p⟩ => ⟨v, v2, v3, rfl, ?_⟩
  cases rr with | cons q1 q2 =>
  cases q2 with | cons q2 q3 =>
  split at p
  · exact p g _ H3 (Ext.refl g H3) b (((a.set q1).set q2).set r3)
  · exact p.elim⟩
end
end AM
/-! text AmL7 -/
set_option Elab.async false
set_option linter.all false
set_option maxRecDepth 100000
set_option maxHeartbeats 2000000
/-! AmL7: the key (len(p), p) of a tuple p, by a lambda. -/
namespace AM
open PySem PySem.Spec PyProof.Rows L2
section
variable {X : Cx} {pins : List (Addr × Obj)} {σ : L2.St} {H : Hp} {s : Shared} {k : Nat} {A : Around}
/-- lambda a: (len(a), a), called -/
theorem key_call {f c' b : Addr} {lq a : Str} {params : Arguments} {scope : Scope} {pm ctv : Value} {q1 q2 q3 q4 q5 : Pos} {kq : Nat} {items : Array Value} {Q : Value → Shared → Prop} {E : Value → Shared → Prop} (I : Inv X pins σ H s) (hA : A.frames = some X.stack) (hr : Rm k A) (hd : A.handled = none)
    (hf : s.heap.get? f = some (PySem.W.kla_obj "<lambda>" lq params (.Tuple [.Call (.Name "len" q1) [.Name a q2] [] q3, .Name a q4] kq q5) scope [] pm c' ctv)) (hc : H c' = some (LamX.CodeO c' lq)) (S : FnScope [a] [a] scope) (ga : scope.names.lookup a = some .local) (gl : scope.names.lookup ("len" : Str) = some .globalImplicit) (hm : X.mg "len" = none)
    (na : (a == ("__debug__" : Str)) = false) (hb : bindArgs (PySem.W.kla_fn "<lambda>" lq params (.Tuple [.Call (.Name "len" q1) [.Name a q2] [] q3, .Name a q4] kq q5) scope [] pm (.ref c') ctv) ⟨[.ref b], []⟩ = pure ([a].zip [.ref b]))
    (ht : IsTup s.heap b items) (fit : items.size ≤ sizeLine)
    (q : ∀ (h' : Heap) (tk : Nat) (t : Tok), (∀ d o, s.heap.get? d = some o → h'.get? d = some o) → h'.get? h'.objs.size = none → Q (.ref h'.objs.size) { s with heap := h'.push { cls := .type "tuple", data := .seq #[.int items.size t, .ref b] }, toks := tk }) :
    wpAny (model X.prog X.w) A (call (.ref f) [.ref b]) Q E s := by
  have e0 : Env0 X.prog X.w X.K X.mg X.base A X.stack s H := by
    have e := I.env0
    exact ⟨hA, e.mod, e.bs, e.bsz, e.funs, e.frf, e.hok, e.bare⟩
  obtain ⟨⟨oc, vs, t, o1, o2, o3⟩, _, _⟩ := I.hok c' _ hc
  have kinds : ∀ y ∈ [a].zip [Value.ref b], scope.names.lookup y.1 = some .local ∨ (scope.names.lookup y.1 = some .cell ∧ ((cellsFrom (s.heap.objs.size + 1) scope.names []).lookup y.1).isSome = true) := fun y m => by
    simp at m
    subst m
    exact .inl ga
  refine wpAny_call (PySem.W.kla_callFunE hr.r.depth hf rfl S.co S.gen rfl ⟨c', oc, vs, t, rfl, o1, o2, o3⟩ ?_)
  rw [hb]
  refine wpAny_pure (wpAny_newFunctionEnv_cells S.kind kinds fun env he s1 x => ?_)
  subst he
  refine ⟨I.nolimit.keeps x.toInCall.keep, ?_⟩
  have J : Inv (cxOf (L2.CX X.prog X.w) X.prog X.w X.K X.mg X.base [a] lq scope f (.ref c') A X.stack s H fun _ _ _ => False) [] (L2.start [a] [V.ref b]) H s1 := inv_start S hd e0 rfl (.cons rfl .nil) x
  obtain ⟨h1, tk1, rfl, up⟩ := x.done
  have ldA : ∀ {tk : Nat} {p : Pos} {Q : Value → Shared → Prop} {E : Value → Shared → Prop}, Q (.ref b) { s with heap := h1, toks := tk } → wpAny (model X.prog X.w) (A.deeper (envOfC lq scope s.heap.objs.size f (.ref c'))) (eval (.Name a p) (envOfC lq scope s.heap.objs.size f (.ref c'))) Q E { s with heap := h1, toks := tk } := fun {tk p Q E} fin => by
    obtain ⟨m, hn, hl⟩ := J.loc
    obtain ⟨u, r, l⟩ := hl 0 a (.ref b) rfl rfl (.inl ga)
    obtain rfl : u = Value.ref b := r
    rcases l with ⟨hk, hm⟩ | ⟨hk, _⟩
    · exact wpAny_Name (wpAny_loadName_local (J.tok tk).ok.kind hk hn hm fin) na
    · rcases hk with hk | hk <;> · rw [show scope.names.lookup a = _ from hk] at ga; cases ga
  refine PySem.W.kla_codeExpr ?_
  refine wpAny_Tuple_spliced (PyProof.Rows.args_cons ?_)
  refine Call_ (ld_blt J gl hm PySem.boot_len ?_)
  refine PyProof.Rows.callWith_builtin1 (PyProof.Rows.args_cons (ldA (PyProof.Rows.args_nil ?_)))
  have ht1 : IsTup h1 b items := by
    obtain ⟨o, h, r⟩ := ht
    exact ⟨o, up b o h, r⟩
  refine len_tuple ht1 (by rw [sizeLine_eq] at fit; omega) ?_
  refine PyProof.Rows.args_cons (ldA (PyProof.Rows.args_nil ⟨by rw [sizeLine_eq]; show 2 ≤ 16777216; decide, ?_⟩))
  exact q h1 _ _ up (I.hok.fresh (Nat.le_refl _) |> fun _ => by
    cases z : h1.get? h1.objs.size with
    | none => rfl
    | some o => exact absurd (Heap.lt_size z) (Nat.lt_irrefl _))
end
end AM
/-! text AmL8 -/
set_option Elab.async false
set_option linter.all false
set_option maxRecDepth 100000
set_option maxHeartbeats 400000
/-! AmL8: sorted(xs, key=lambda p: (len(p), p)). -/
namespace AM
open PySem PySem.Spec PyProof.Rows L2
theorem noX_sortLen {m : Bool} : NoX (opSortLen m) := by
  intro rs bx w bx' h
  unfold opSortLen at h
  split at h
  · split at h
    · split at h
      · unfold mkL at h
        split at h
        · split at h
          · cases h
          · split at h <;> cases h
        · cases h
      · cases h
    · cases h
  · cases h
theorem sortLen_eq {ws : List W} (ok : SortOkP (ws.map keyW)) : ws.mergeSort (PySem.W.dataLe false fun w => dt (keyW w)) = sortLen ws := by
  unfold sortLen
  refine PySem.W.sort_congr fun a ha b hb => ?_
  rw [PySem.W.dataLe_eq]
  have ma : keyW a ∈ ws.map keyW := List.mem_map.mpr ⟨a, ha, rfl⟩
  have mb : keyW b ∈ ws.map keyW := List.mem_map.mpr ⟨b, hb, rfl⟩
  show (!PySem.W.dataLt (dt (keyW b)) (dt (keyW a))) = W.le (keyW a) (keyW b)
  rw [dt_lt (isDat_p (ok.dat _ mb)).1 (isDat_p (ok.dat _ ma)).1 (ok.alk _ mb _ ma)]
  rfl
theorem Lam1.at_ {g g1 : Gd} {H H1 : Hp} {P : Addr} {q : Str} {a : Addr} (l : Lam1 g H P q g1 H1) (h : (H a).isSome) (nt : ∀ ps, H a ≠ some (.tbl ps)) : H1 a = H a := by
  cases l with
  | hit => rfl
  | @new ps c _ _ hP _ hc _ =>
    have n1 : a ≠ c := fun e => by rw [e, hc] at h; cases h
    have n2 : a ≠ P := fun e => nt ps (by rw [e]; exact hP)
    rw [upd_ne n1, upd_ne n2]
section
variable {P : Program} {w : World} {K : PySem.W.Frag} {mg : Str → Option Value} {base : Heap} {ca : Ca} {k : Nat} {N : List Str} {sc scope : Scope} {fs : Str → Bool} {X : Cx} {a : Str} {me : E} {m : Bool} {params : Arguments} {e : Expr} {p lpos kpos pos q1 q2 q3 q4 q5 : Pos} {kq : Nat}
theorem v_sortLen (c : Con P w K mg base (k + 2) N sc fs X) (M : LamC ca X) (g : glB sc "sorted" = true) (hm : mg "sorted" = none) (hl : mg "len" = none) (S : FnScope [a] [a] scope) (ga : scope.names.lookup a = some .local) (gl : scope.names.lookup ("len" : Str) = some .globalImplicit) (na : (a == ("__debug__" : Str)) = false)
    (hfr : ∀ y ∈ scope.names, y.2 ≠ .free) (hcl : ∀ cells, cloFrom cells scope.names [] = []) (he : SE X ca me e)
    (hdef : defaultsOf params X.env = ([], []) := by rfl) (hb : ∀ (q : Str) (pm cv ctv u : Value), bindArgs (PySem.W.kla_fn "<lambda>" q params (.Tuple [.Call (.Name "len" q1) [.Name a q2] [] q3, .Name a q4] kq q5) scope [] pm cv ctv) ⟨[u], []⟩ = pure ([a].zip [u]) := by intro _ _ _ _ _; rfl)
    (h1 : starEach [e] X.env = (false, eval e X.env) :: starEach [] X.env := by rfl) :
    SE X ca (eArgs [(false, me)] fun xs _ bx => opSortLen m xs bx) (.Call (.Name "sorted" p) [e] [⟨some "key", .Lambda params (.Tuple [.Call (.Name "len" q1) [.Name a q2] [] q3, .Name a q4] kq q5) scope lpos, kpos⟩] pos) := ⟨fun Wx tk => ⟨fun pins s σ H Q I h => by
  obtain ⟨cd, P0, TB, hcode, hmT, hu⟩ := M.ex
  have pa := (v_cons he sa_nil h1).all (k := fun xs _ bx => opSortLen m xs bx) tk (t := fun σ H Q => ∃ Q0, tM (fx X ca) Wx (eArgs [(false, me)] fun xs _ bx => opSortLen m xs bx) σ H Q0 ∧ ∀ xs H1, tK (fx X ca) Wx (fun xs _ bx => opSortLen m xs bx) xs σ H1 Q0 → Q xs H1) fun σ H Q x => x
  refine wpAny_Call_Name_kw (ld_blt I (c.gl g) (by rw [c.glo]; exact hm) PyProof.Rows.boot_sorted ?_ (by decide) (by decide))
  refine PyProof.Rows.callWith_kw (thn (pa.run pos pins s σ H (fun vs H1 => tO (fx X ca) (opSortLen m) vs H1 Q) I ⟨Q, h, fun xs H1 z => tK_op noX_sortLen z⟩) fun us s1 ⟨vs, H1, I1, r1, qq⟩ => ?_) (by rw [h1]; rfl) (by rw [h1]; rfl) (by rfl) (by rfl)
  obtain ⟨ge, bx, r, v, rfl, b, hr, pq⟩ := tO_one qq fun rs bx h => by
    unfold opSortLen
    split
    · simp at h
    · rfl
  simp only [opSortLen] at pq
  cases e0 : (itL bx r).bind AM.vals with
  | none => rw [e0] at pq; exact pq.elim
  | some ws =>
    rw [e0] at pq
    simp only at pq
    split at pq
    · rename_i ok
      rw [Bool.and_eq_true, List.all_eq_true] at ok
      obtain ⟨okT, ok⟩ := ok
      have ok := sortOk_p ok
      rw [Option.bind_eq_some_iff] at e0
      obtain ⟨xs, e1, e2⟩ := e0
      obtain ⟨al, vs, rfl, hs, hlen, rr⟩ := hr.lst b e1
      have rw_ := rr.vals e2
      obtain ⟨u, rfl, rx⟩ := vals1 r1
      obtain rfl : u = Value.ref al := rx
      show wpAny _ _ (evalAll [do let v ← eval (.Lambda params (.Tuple [.Call (.Name "len" q1) [.Name a q2] [] q3, .Name a q4] kq q5) scope lpos) X.env; standAt pos; pure v]) _ _ s1
      refine wpAny_evalAll_cons (wpAny_bind (lam_new I1 TB hcode b hmT hdef (fun y hy e => absurd e (hfr y hy)) fun f c' pm' ctv g1 H2 s2 I2 l hf hn hsf hc zc => wpAny_bind (wpAny_standAt (wpAny_pure (wpAny_evalAll_nil ?_)))))
      obtain ⟨x1, b1⟩ := l.ok b hmT hu
      rw [hcl] at hf
      have rw2 : RWs (fx X ca) g1.Z H2 ws vs := rw_.mono x1.z fun a z => x1.zk a z
      have hs2 : H2 al = some (.lst vs) := (l.at_ (by rw [hs]; rfl) fun ps z => by rw [hs] at z; cases z).trans hs
      obtain ⟨_, its, n, rv, hob⟩ := I2.hok al _ hs2
      have each := RWs.each (X := X) rw2 rv
      have hL : ws.length ≤ sizeLine := by rw [rw_.length]; exact hlen
      show wpAny _ _ (call (.builtin "sorted") [.ref al] [(Str.ofString "key", .ref f)]) _ _ s2
      have key : ∀ w ∈ ws, ∃ ts, w = .tup ts ∧ ∃ n, nk w = some n := fun w mw => by
        have z := okT w mw
        rw [Bool.and_eq_true] at z
        obtain ⟨n, e, _⟩ := keyB_nk z.1
        cases w <;> simp [W.isT] at z
        exact ⟨_, rfl, n, e⟩
      refine PySem.W.sorted_key_data (b := false) (bs := ws) (fun w => dt (keyW w)) ⟨_, hob, rfl, n, rfl⟩ each ?_ ?_ hL (fun w mw => ?_) (PyProof.Rows.ksk_s1 _ _) (fun _ => PyProof.Rows.ksk_l1 _ _) (fun _ => PyProof.Rows.ksk_t1 _ _) (fun u w ⟨x, rx, rw⟩ mw hh tk' up => ?_) fun out cc h' tk' kp nn hD ln eo => ?_
      · rw [show ws.map (fun w => dt (keyW w)) = (ws.map keyW).map dt from by rw [List.map_map]; rfl]
        exact ok.alike
      · rw [show ws.map (fun w => dt (keyW w)) = (ws.map keyW).map dt from by rw [List.map_map]; rfl]
        exact ok.sortable
      · have d0 := isDat_p (ok.dat _ (List.mem_map.mpr ⟨w, mw, rfl⟩))
        have d1 := dt_depth d0.1
        have d2 := c.rm.r.un
        omega
      · obtain ⟨ts, rfl, nn, en⟩ := key w mw
        have I3 : Inv X pins σ H2 { s2 with heap := hh, toks := tk' } := I2.kept up
        have dk := isDat_p (ok.dat _ (List.mem_map.mpr ⟨.tup ts, mw, rfl⟩))
        have lk : W.lay (.tup [.int ts.length, .tup ts]) = true := dk.1
        have lw : W.lay (.tup ts) = true := by
          simp only [W.lay, W.lays, Bool.and_eq_true] at lk ⊢
          exact lk.2.1
        obtain ⟨as, rd, _⟩ := RW.reads I3 rw (toD_lay lw) rx
        have z0 := nil_reads en (toD_lay lw) rd
        subst z0
        cases rw with
        | @tup _ ba vt pt lt rt =>
          obtain rfl : u = Value.ref ba := rx
          obtain ⟨ii, ri, pi, zi⟩ := I3.tuple (RW.sqT (F := fx X ca) pt)
          have hlen2 : ii.toArray.size = ts.length := by rw [List.size_toArray, ← ri.length, ← rt.length]
          refine key_call (k := k) I3 I3.env0.in1.in1.frames ⟨c.rm.r.in1.in1, c.rm.gd⟩ (I3.ok.hd c.calm) (up _ _ hf) hc S ga gl (by rw [c.glo]; exact hl) na (hb _ _ _ _ _) pi (by rw [hlen2, rt.length]; exact lt) fun h3 tk3 tt up3 n3 => ?_
          refine ⟨_, tk3, rfl, fun d o e => Heap.get?_push_of_some _ (up3 d o e), ?_⟩
          show Reads _ _ (dt (.tup [.int ts.length, .tup ts])) []
          rw [dt_tup (by simpa [W.lay] using lk)]
          have r2 := PyProof.Rows.Reads.keeps (fun d o e => Heap.get?_push_of_some { cls := .type "tuple", data := .seq #[.int ii.toArray.size tt, .ref ba] } (up3 d o e)) rd
          refine .tuple (Heap.get?_push_size _ rfl) rfl rfl ?_
          show ReadsAll _ [.int ii.toArray.size tt, .ref ba] [dt (.int ts.length), dt (.tup ts)] ([] ++ ([] ++ []))
          rw [hlen2]
          exact .cons (.int _ _) (.cons (by rw [hlen2] at r2; exact r2) .nil)
      · rw [sortLen_eq ok] at eo
        obtain ⟨vs2, k1, k2⟩ := each_RWs eo
        have l2 : vs2.length ≤ sizeLine := by rw [k2.length, ln]; exact hL
        obtain ⟨_, new⟩ := mkL_ok b1 (RRs.of k1) (PostO.later x1 pq)
        exact ⟨.ref _, upd H2 (s2.heap.objs.size + 1) (.lst vs2), I2.laid (t' := tk') kp (Nat.le_succ _) ⟨l2, out, cc, k2, hD⟩, rfl, new _ (I2.hok.fresh (Nat.le_succ _))⟩
    · exact pq.elim⟩⟩
end
end AM
/-! text AmL9 -/
set_option Elab.async false
set_option linter.all false
set_option maxRecDepth 100000
set_option maxHeartbeats 1000000
/-! AmL9: rules by the context: methods of lists, calls without arguments, sorted, targets. -/
namespace AM
open PySem PySem.Spec PyProof.Rows L2
section
variable {X : Cx} {ca : Ca} {k f : Nat} {Fm : Fn} {x : Str} {p pos : Pos} {keep : Bool}
/-- x() -/
theorem se_call0 (h : CallF X ca k Fm f 0 x) (hr : Rm k X.A) (hg : Gl X x) (hdb : (x == ("__debug__" : Str)) = false) : SE X ca (eArgs [] fun xs _ bx => opCall Fm f keep xs bx) (.Call (.Name x p) [] [] pos) := ⟨fun Wx tk => ⟨fun pins s σ H Q I ⟨g, en, bx, a, b, pp⟩ => by
  obtain ⟨fa, fd, ps, hps, F, hm, hk, hb⟩ := h.ex
  refine wpAny_Call_Name_kw (ld_glob I hg hm ?_ hdb)
  have pq : PostR (fx X ca) g σ H Wx Q (opCall Fm f keep [] bx) := pp
  exact PySem.W.callWith_K0 I.kIn hk (run_g F hr hb tk I .nil ⟨rfl, g, bx, [], b, .nil, (PostR.call b pq).e⟩)⟩⟩
end
section
variable {P : Program} {w : World} {K : PySem.W.Frag} {mg : Str → Option Value} {base : Heap} {ca : Ca} {k f i : Nat} {N : List Str} {sc : Scope} {fs : Str → Bool} {X : Cx} {x : Str} {o e a : Expr} {mo me m : E} {md : Bool} {F : Fn} {t : Tg} {p apos cpos pos : Pos}
theorem Con.sw {v : Expr} {tg : Option Expr} {l : Nat} {r : Sem Bool} (c : Con P w K mg base k N sc fs X) (h : swapsWith v tg l (envOfC "" sc 0 0 .none) = r) : swapsWith v tg l X.env = r := by
  have e : X.env.scope = (envOfC "" sc 0 0 .none).scope := c.sco
  rw [← h]
  unfold swapsWith Env.blockKind Env.kindOf
  rw [e]
theorem Con.st {ts : List Expr} {v : Expr} {r : Sem (Option (List Str))} (c : Con P w K mg base k N sc fs X) (h : swappedStores ts v (envOfC "" sc 0 0 .none) = r) : swappedStores ts v X.env = r := by
  have e : X.env.scope = (envOfC "" sc 0 0 .none).scope := c.sco
  rw [← h]
  unfold swappedStores Env.blockKind Env.kindOf
  rw [e]
theorem v_call0 {keep : Bool} (c : Con P w K mg base k N sc fs X) (h : FunOk P w K mg base ca k (F f) 0 x) (g : glB sc x = true) : SE X ca (eArgs [] fun xs _ bx => opCall F f keep xs bx) (.Call (.Name x p) [] [] pos) := by
  have g2 := g
  simp only [glB, Bool.and_eq_true] at g2
  exact se_call0 (h.call c) c.rm (c.gl g) (nmB_ok g2.2).1
theorem v_append (ho : SE X ca mo o) (he : SE X ca me e) (hbase : attributeBase o "append" X.env (eval o X.env) = eval o X.env := by rfl)
    (hfew : ((backTo cpos (starEach [e] X.env)).all (fun x => !x.1) && (backToKw cpos (keywordEach [] X.env)).all (fun x => x.1.isSome) && decide ([e].length + ([] : List Keyword).length + (if ([] : List Keyword).isEmpty then 0 else 1) < 30)) = true := by rfl) (hline : (apos.endLine == cpos.line) = true := by rfl)
    (hs : starEach [e] X.env = (false, eval e X.env) :: starEach [] X.env := by rfl) : SE X ca (eMt false mo [(false, me)] opAppend) (.Call (.Attribute o "append" apos) [e] [] cpos) :=
  se_mt F.plainAttrs_list F.slot_list_append (by rfl) rfl noX_append mo_append ho (v_cons he sa_nil hs) hbase hfew hline hs (by rfl)
theorem v_extend (hc : X.calm = true) (ho : SE X ca mo o) (he : SE X ca me e) (hm : MtO X ca "list.extend" opExtend) (hbase : attributeBase o "extend" X.env (eval o X.env) = eval o X.env := by rfl)
    (hfew : ((backTo cpos (starEach [e] X.env)).all (fun x => !x.1) && (backToKw cpos (keywordEach [] X.env)).all (fun x => x.1.isSome) && decide ([e].length + ([] : List Keyword).length + (if ([] : List Keyword).isEmpty then 0 else 1) < 30)) = true := by rfl) (hline : (apos.endLine == cpos.line) = true := by rfl)
    (hs : starEach [e] X.env = (false, eval e X.env) :: starEach [] X.env := by rfl) : SE X ca (eMt false mo [(false, me)] opExtend) (.Call (.Attribute o "extend" apos) [e] [] cpos) :=
  se_mt F.plainAttrs_list F.slot_list_extend (by rfl) rfl noX_extend hm ho (v_cons he sa_nil hs) hbase hfew hline hs (by rfl)
theorem v_popAt (ho : SE X ca mo o) (he : SE X ca me e) (hbase : attributeBase o "pop" X.env (eval o X.env) = eval o X.env := by rfl)
    (hfew : ((backTo cpos (starEach [e] X.env)).all (fun x => !x.1) && (backToKw cpos (keywordEach [] X.env)).all (fun x => x.1.isSome) && decide ([e].length + ([] : List Keyword).length + (if ([] : List Keyword).isEmpty then 0 else 1) < 30)) = true := by rfl) (hline : (apos.endLine == cpos.line) = true := by rfl)
    (hs : starEach [e] X.env = (false, eval e X.env) :: starEach [] X.env := by rfl) : SE X ca (eMt false mo [(false, me)] opPopAt) (.Call (.Attribute o "pop" apos) [e] [] cpos) :=
  se_mt F.plainAttrs_list F.slot_list_pop (by rfl) rfl noX_popAt mo_popAt ho (v_cons he sa_nil hs) hbase hfew hline hs (by rfl)
theorem v_pop (ho : SE X ca mo o) (hbase : attributeBase o "pop" X.env (eval o X.env) = eval o X.env := by rfl) (hline : (apos.endLine == cpos.line) = true := by rfl) : SE X ca (eMt false mo [] opPop) (.Call (.Attribute o "pop" apos) [] [] cpos) :=
  se_mt0 F.plainAttrs_list F.slot_list_pop (by rfl) rfl noX_pop mo_pop ho hbase hline
theorem v_sorted (c : Con P w K mg base k N sc fs X) (g : glB sc "sorted" = true) (hm : mg "sorted" = none) (he : SE X ca me e) (hs : starEach [e] X.env = (false, eval e X.env) :: starEach [] X.env := by rfl) : SE X ca (eArgs [(false, me)] fun xs _ bx => opSorted md xs bx) (.Call (.Name "sorted" p) [e] [] pos) :=
  v_fn c noX_sorted (c_sorted c.u66) g hm PyProof.Rows.boot_sorted (v_cons he sa_nil hs) hs (by rfl)
end
end AM
/-! text AmLa -/
set_option Elab.async false
set_option linter.all false
set_option maxRecDepth 100000
set_option maxHeartbeats 400000
/-! AmLa: {}. -/
namespace AM
open PySem PySem.Spec PyProof.Rows L2
theorem noX_dct0 (m : Bool) (bx : Bx) (w : W) (bx' : Bx) : mkD m [] [] bx ≠ .exc w bx' := noX_mkD m [] [] bx w bx'
/-- {} -/
theorem se_dct0 {m : Bool} {X : Cx} {ca : Ca} {pos : Pos} : SE X ca (eDct m []) (.Dict [] [] pos) := ⟨fun Wx tk => ⟨fun pins s σ H Q I ⟨g, en, bx, a, b, p⟩ => by
  have p : PostR (fx X ca) g σ H Wx Q (mkD m [] [] bx) := p
  have po : PostO (fx X ca) g H Q (mkD m [] [] bx) := by
    cases e : mkD m [] [] bx with
    | ok r bx' => rw [e] at p; exact p
    | exc w bx' => exact absurd e (noX_dct0 m bx w bx')
    | stuck => rw [e] at p; exact p
  have hn : H s.heap.objs.size = none := I.hok.fresh (Nat.le_refl _)
  have big : sysModules < s.heap.objs.size := I.big
  have D : DAt (fx X ca) g.Z H s.heap.objs.size [] [] { cls := .type "dict", data := .dict #[] } :=
    ⟨beq_eq_false_iff_ne.mpr (Ne.symm (Nat.ne_of_lt big)), ⟨rfl, rfl, rfl⟩, ⟨#[], 0, rfl, .nil⟩, Nat.zero_le _, .nil, ⟨fun k m => (by cases m), .inl fun k m => (by cases m)⟩⟩
  have new := mkD_ok b hn D .nil po
  refine wpAny_Dict_empty ⟨.ref s.heap.objs.size, _, I.laid (a := s.heap.objs.size) (o := pinO s.heap.objs.size { cls := .type "dict", data := .dict #[] }) (t' := s.toks) (fun _ _ q => Heap.get?_push_of_some _ q) (Nat.le_refl _) ⟨Heap.get?_push_size _ rfl, ⟨_, Heap.get?_push_size _ rfl⟩, fun h1 h2 q k => k _ q⟩, rfl, new⟩⟩⟩
end AM
/-! text AmH -/
set_option Elab.async false
set_option linter.all false
set_option maxRecDepth 100000
set_option maxHeartbeats 2000000
/-! AmH: what the head tells. -/
namespace AM
open PySem PySem.Spec PyProof.Rows L2
/-- what is reached from the module's names, the row of modules, the statics -/
def frM (n : Nat) (g : Addr → Option Obj) : PySem.W.Frag := He.frG g ((sysModules :: cStatics :: He.asD g n).filter fun a => match g a with
  | some o => !decide (o.cls = .none)
  | none => true)
/-- a class's own __init__ that speaks of super(): the class, the qualified name, parameters, body, scope -/
structure X1D where
  x : Str
  qual : Str
  params : Arguments
  body : List Stmt
  scope : Scope
abbrev FnC : Type := Option (Str × Arguments × FuncBody × Scope × Addr × List Str × Value × Addr)
def fnC (K : PySem.W.Frag) (x : Str) : FnC := match K.lookup (He.ma K (He.ga K x) "__init__") with
  | some ⟨_, _, .func fd, _⟩ => some (fd.qualname, fd.params, fd.body, fd.scope, fd.globals, fd.closure.map (·.1), fd.defaults, fd.builtins)
  | _ => none
def X1D.val (d : X1D) : FnC := some (d.qual, d.params, .stmts d.body, d.scope, mainGlobals, ["__class__"], .none, builtinsNs)
abbrev AlM : Type := He.AlD × (Bool × List FnC)
def obsM (n : Nat) (fa : List He.Fa) (fn : List He.DefD) (fc : List X1D) (ex : PySem.W.Frag → Bool) (g : Addr → Option Obj) : AlM := (He.obsD fa fn (frM n g), ex (frM n g), fc.map fun d => fnC (frM n g) d.x)
def hookM (n : Nat) (fa : List He.Fa) (fn : List He.DefD) (fc : List X1D) (ex : PySem.W.Frag → Bool) : PySem.W.Hook where
  α := AlM
  obs := fun s => obsM n fa fn fc ex s.heap.get?
  val := fun _ => (He.valD fn, true, fc.map X1D.val)
  says := fun _ h => ∃ K : PySem.W.Frag, K.In h ∧ He.SaysD fa fn K ∧ ex K = true ∧ ∀ d ∈ fc, fnC K d.x = d.val
  of := fun _ _ e => ⟨_, He.frG_in, congrArg (fun z : AlM => z.1) e, congrArg (fun z : AlM => z.2.1) e, fun d hd => by
    have z := congrArg (fun z : AlM => z.2.2) e
    obtain ⟨i, hi, hx⟩ := List.mem_iff_getElem.mp hd
    have z2 := congrArg (fun l : List FnC => l[i]?) z
    simp only [obsM, List.getElem?_map, List.getElem?_eq_getElem hi, hx, Option.map_some, Option.some.injEq] at z2
    exact z2⟩
  keeps := fun _ _ _ ⟨K, hK, c⟩ k => ⟨K, PySem.W.Frag.In.keeps hK k, c⟩
theorem obsM_eq {n : Nat} {fa : List He.Fa} {fn : List He.DefD} {fc : List X1D} {ex : PySem.W.Frag → Bool} {g : Addr → Option Obj} {s : Shared} (h : ∀ a, g a = s.heap.get? a) : obsM n fa fn fc ex g = (hookM n fa fn fc ex).obs s := by
  have e : g = s.heap.get? := funext h
  rw [e] <;> rfl
/-! ### the classes' table, looked through -/
def clsB (K : PySem.W.Frag) (C : Addr) : Bool := PySem.W.plainGet K C Str.empty && (PySem.W.hasDictIn K C && (PySem.W.plainOver K C && decide (PySem.W.findIn K (.ref C) "__setattr__" = some (some (.builtin "object.__setattr__")))))
def comB (K : PySem.W.Frag) (C : Addr) : Bool := decide (PySem.W.findIn K (.ref C) "__class__" = some (some (.builtin "object.__class__"))) && (decide (PySem.W.specialIn K (.builtin "object.__class__") "__get__" = some (some (.builtin "getset_descriptor.__get__"))) &&
  (decide (PySem.W.takesIn K (.builtin "object.__class__") = some true) && decide (PySem.W.mroIn K C (.type "object") = some true)))
def excB (K : PySem.W.Frag) (C : Addr) : Bool := decide (PySem.W.findIn K (.ref C) "__getattribute__" = some (some (.builtin "BaseException.__getattribute__"))) && (decide (PySem.W.findIn K (.ref C) "__getattr__" = some none) &&
  (decide (PySem.W.subIn K (.ref C) (.type "BaseException") = some true) && (PySem.W.hasDictIn K C && comB K C)))
theorem ba2 {a b : Bool} (h : (a && b) = true) : a = true ∧ b = true := Bool.and_eq_true_iff.mp h
theorem excB_ok {K : PySem.W.Frag} {C : Addr} (h : excB K C = true) : ExcC K C := by
  obtain ⟨h1, h⟩ := ba2 h
  obtain ⟨h2, h⟩ := ba2 h
  obtain ⟨h3, h⟩ := ba2 h
  obtain ⟨h4, h⟩ := ba2 h
  obtain ⟨h5, h⟩ := ba2 h
  obtain ⟨h6, h⟩ := ba2 h
  obtain ⟨h7, h8⟩ := ba2 h
  exact ⟨of_decide_eq_true h1, of_decide_eq_true h2, of_decide_eq_true h3, h4, of_decide_eq_true h5, of_decide_eq_true h6, of_decide_eq_true h7, of_decide_eq_true h8⟩
theorem clsIB_ok {K : PySem.W.Frag} {C : Addr} (h : (clsB K C && comB K C) = true) : ClsI K C := by
  obtain ⟨h0, h⟩ := ba2 h
  obtain ⟨h1, h0⟩ := ba2 h0
  obtain ⟨h2, h0⟩ := ba2 h0
  obtain ⟨h3, h4⟩ := ba2 h0
  obtain ⟨h5, h⟩ := ba2 h
  obtain ⟨h6, h⟩ := ba2 h
  obtain ⟨h7, h8⟩ := ba2 h
  exact ⟨⟨h1, h2, h3, of_decide_eq_true h4⟩, of_decide_eq_true h5, of_decide_eq_true h6, of_decide_eq_true h7, of_decide_eq_true h8⟩
def tyAll : List Ty := [.int, .bool, .str, .tuple, .list, .dict]
theorem tyAll_all (t : Ty) : t ∈ tyAll := by cases t <;> decide
def tabB (K : PySem.W.Frag) (ca : Ca) (T : Tab) : Bool := (List.range T.n).all fun c => (if T.exc c then excB K (ca c) else (clsB K (ca c) && comB K (ca c))) &&
  (((List.range T.n).all fun d => decide (PySem.W.kitOne K (.ref (ca d)) (.ref (ca c)) = some (T.sub d c))) && ((tyNames.all fun nm => decide (PySem.W.kitOne K (.type nm) (.ref (ca c)) = some false)) &&
    ((tyAll.all fun t => decide (PySem.W.kitOne K (.ref (ca c)) (.type (tyN t)) = some false)) && decide (PySem.W.kitOne K (.ref (ca c)) (.type "ValueError") = some (T.exc c)))))
theorem tabB_ok {K : PySem.W.Frag} {ca : Ca} {T : Tab} (h : tabB K ca T = true) : TabOk K ca T := by
  have key : ∀ c, c < T.n → (if T.exc c then excB K (ca c) else (clsB K (ca c) && comB K (ca c))) = true ∧ (∀ d, d < T.n → PySem.W.kitOne K (.ref (ca d)) (.ref (ca c)) = some (T.sub d c)) ∧ (∀ nm ∈ tyNames, PySem.W.kitOne K (.type nm) (.ref (ca c)) = some false) ∧
      (∀ t, PySem.W.kitOne K (.ref (ca c)) (.type (tyN t)) = some false) ∧ PySem.W.kitOne K (.ref (ca c)) (.type "ValueError") = some (T.exc c) := fun c hc => by
    have q := List.all_eq_true.mp h c (List.mem_range.mpr hc)
    obtain ⟨h1, q⟩ := ba2 q
    obtain ⟨h2, q⟩ := ba2 q
    obtain ⟨h3, q⟩ := ba2 q
    obtain ⟨h4, h5⟩ := ba2 q
    exact ⟨h1, fun d hd => of_decide_eq_true (List.all_eq_true.mp h2 d (List.mem_range.mpr hd)), fun nm m => of_decide_eq_true (List.all_eq_true.mp h3 nm m), fun t => of_decide_eq_true (List.all_eq_true.mp h4 t (tyAll_all t)), of_decide_eq_true h5⟩
  refine ⟨fun c hc e => ?_, fun c hc e => ?_, fun c d hc hd => (key c hc).2.1 d hd, fun c nm hc m => (key c hc).2.2.1 nm m, fun c t hc => (key c hc).2.2.2.1 t, fun c hc => (key c hc).2.2.2.2⟩
  · have z := (key c hc).1
    rw [e] at z
    exact clsIB_ok z
  · have z := (key c hc).1
    rw [e] at z
    exact excB_ok z
/-- the row of modules stands -/
def sysB (K : PySem.W.Frag) : Bool := match K.lookup sysModules with
  | some o => decide (o.cls ≠ .type "list")
  | none => false
theorem sysB_ok {K : PySem.W.Frag} (h : sysB K = true) : ∃ o, K.lookup sysModules = some o ∧ o.cls ≠ .type "list" := by
  unfold sysB at h
  cases e : K.lookup sysModules with
  | none => rw [e] at h; cases h
  | some o => rw [e] at h; exact ⟨o, rfl, of_decide_eq_true h⟩
def lnB (K : PySem.W.Frag) (C : Addr) : Bool := L2.xfB K C && decide (PySem.W.findIn K (.ref C) "line" = some none)
theorem lnB_ok {K : PySem.W.Frag} {C : Addr} (h : lnB K C = true) : XfC K C ∧ PySem.W.findIn K (.ref C) "line" = some none := by
  obtain ⟨h1, h2⟩ := ba2 h
  exact ⟨L2.xfB_ok h1, of_decide_eq_true h2⟩
theorem exc0_ok {K : PySem.W.Frag} {x : Str} (c : (He.Fa.exc x).ok K = true) : ExC0 K (He.ga K x) := by
  obtain ⟨h1, h2, h3, h4⟩ := He.exc_ok c
  exact ⟨h1, h2, h3, h4⟩
/-! ### tables of code objects -/
/-- the table of x's code object, by its place in K -/
def lamP (K : PySem.W.Frag) (x : Str) : Option Addr := match K.lookup (He.ga K x) with
  | some ⟨_, _, .func fd, _⟩ => match fd.code with
    | .ref c => match K.lookup c with
      | some ⟨_, _, .fields (vs : Array Value), _⟩ => match (vs[11]? : Option Value) with
        | some (Value.ref P) => if (K.lookup P).isNone then some P else none
        | _ => none
      | _ => none
    | _ => none
  | _ => none
def lamsB (K : PySem.W.Frag) (lams : List Str) : Bool := lams.all (fun x => (lamP K x).isSome) && decide ((lams.map (lamP K)).Nodup)
/-- what stands of a def with lambdas -/
structure LamAt (K : PySem.W.Frag) (mg : Str → Option Value) (h : Heap) (x : Str) (c P : Addr) : Prop where
  hd : PySem.W.CodeHd h c P
  tb : h.get? P = some { cls := .none, data := .fields #[] }
  nk : K.lookup P = none
  fn : ∀ (fa : Addr) (fd : FuncData) (oc : Value) (od : Option Addr) (osl : Array (Option Value)), mg x = some (.ref fa) → K.lookup fa = some ⟨oc, od, .func fd, osl⟩ → fd.code = .ref c
theorem lam_at {K : PySem.W.Frag} {mg : Str → Option Value} {h : Heap} {x : Str} {P : Addr} (KX : K.In h) (e : lamP K x = some P) (hm : mg x = some (.ref (He.ga K x)))
    (tab : ∃ a o fd c P', mg x = some (.ref a) ∧ h.get? a = some o ∧ o.data = .func fd ∧ fd.code = .ref c ∧ h.IsCode c P' #[] ∧ h.TableAt c P' #[]) : ∃ c, LamAt K mg h x c P := by
  obtain ⟨a, o, fd, c, P', t1, t2, t3, t4, t5, t6⟩ := tab
  rw [hm] at t1
  cases t1
  unfold lamP at e
  split at e
  · rename_i oc od fd' osl lk
    have g1 := KX _ _ lk
    rw [t2] at g1
    cases g1
    cases t3
    rw [t4] at e
    simp only at e
    split at e
    · rename_i e1 dd vs sl lc
      have g2 := KX _ _ lc
      split at e
      · rename_i P2 hv
        split at e
        · rename_i hn
          cases e
          obtain ⟨⟨oc2, vc, e1', _, e3, e4⟩, hP⟩ := id t6
          rw [g2] at e1'
          cases e1'
          cases e3
          rw [hv] at e4
          cases e4
          refine ⟨c, .of t5 t6, hP, Option.isNone_iff_eq_none.mp hn, fun fa fd2 oc3 od3 osl3 q1 q2 => ?_⟩
          rw [hm] at q1
          cases q1
          rw [lk] at q2
          cases q2
          exact t4
        · cases e
      · cases e
    · cases e
  · cases e
theorem inj_map {α β : Type} {f : α → β} : ∀ {l : List α}, (l.map f).Nodup → ∀ {x y : α}, x ∈ l → y ∈ l → f x = f y → x = y
  | [], _, _, _, m, _, _ => nomatch m
  | a :: l, h, x, y, mx, my, e => by
    rw [List.map_cons, List.nodup_cons] at h
    rcases List.mem_cons.mp mx with ex | mx <;> rcases List.mem_cons.mp my with ey | my
    · rw [ex, ey]
    · rw [ex] at e
      exact absurd (List.mem_map.mpr ⟨y, my, e.symm⟩) h.1
    · rw [ey] at e
      exact absurd (List.mem_map.mpr ⟨x, mx, e⟩) h.1
    · exact inj_map h.2 mx my e
/-- the tables, each with its name -/
def lamT (K : PySem.W.Frag) (lams : List Str) : List (Addr × Str) := lams.filterMap fun x => (lamP K x).map fun P => (P, lamQ x)
theorem mem_lamT {K : PySem.W.Frag} {lams : List Str} {p : Addr × Str} : p ∈ lamT K lams ↔ ∃ x ∈ lams, lamP K x = some p.1 ∧ p.2 = lamQ x := by
  unfold lamT
  rw [List.mem_filterMap]
  constructor
  · rintro ⟨x, m, e⟩
    rw [Option.map_eq_some_iff] at e
    obtain ⟨P, e1, rfl⟩ := e
    exact ⟨x, m, e1, rfl⟩
  · rintro ⟨x, m, e1, e2⟩
    exact ⟨x, m, by rw [e1]; cases p; simp at e2 ⊢; exact e2.symm⟩
theorem choose_cs {K : PySem.W.Frag} {mg : Str → Option Value} {h : Heap} : ∀ {lams : List Str}, (∀ x ∈ lams, ∃ c P, lamP K x = some P ∧ LamAt K mg h x c P) → ∃ cs : List (Addr × Addr), (∀ p ∈ cs, ∃ x ∈ lams, lamP K x = some p.2 ∧ LamAt K mg h x p.1 p.2) ∧ ∀ x ∈ lams, ∃ p ∈ cs, lamP K x = some p.2 ∧ LamAt K mg h x p.1 p.2
  | [], _ => ⟨[], fun _ m => (by cases m), fun _ m => (by cases m)⟩
  | x :: l, H => by
    obtain ⟨c, P, e, A⟩ := H x List.mem_cons_self
    obtain ⟨cs, h1, h2⟩ := choose_cs fun y m => H y (List.mem_cons_of_mem _ m)
    refine ⟨(c, P) :: cs, fun p m => ?_, fun y m => ?_⟩
    · rcases List.mem_cons.mp m with z | m
      · rw [z]; exact ⟨x, List.mem_cons_self, e, A⟩
      · obtain ⟨y, my, q⟩ := h1 p m
        exact ⟨y, List.mem_cons_of_mem _ my, q⟩
    · rcases List.mem_cons.mp m with z | m
      · rw [z]; exact ⟨(c, P), List.mem_cons_self, e, A⟩
      · obtain ⟨p, mp, q⟩ := h2 y m
        exact ⟨p, List.mem_cons_of_mem _ mp, q⟩
theorem walk_M {l : PySem.W.OpenLaw} {n : Nat} {q : Program} {loose : List Str} {XP : (Str → Option Value) → Heap → Prop} {YP : World → Heap → Prop} {d : DefRec} (lams : List Str)
    (hn : l.most = some n) (hn2 : n ≤ sizeLine) (hdf : d.params.defaults = []) (hrec : ∀ x ∈ lams, ∃ e ∈ recsOf q, e.name = x)
    (F : ∀ (w : World) (mg : Str → Option Value) (h : Heap), YP w h → h.Ns mainGlobals mg → ∃ (K : PySem.W.Frag) (at_ : Nat → Addr) (k : Nat) (Fm : List R → Bx → Res), K.In h ∧ k ≤ 45 ∧ lamsB K lams = true ∧ (∀ x ∈ lams, mg x = some (.ref (He.ga K x))) ∧
      (∀ ns : List Int, ns.length ≤ n → ∃ bx, Fm [scrR ns] [] = .ok (.v (.bl true)) bx) ∧
      ∀ base : Heap, K.In base → base.Ns mainGlobals mg → (∀ x ∈ lams, TabF K mg base ⟨at_, lamT K lams⟩ x) → FunOk l.prog w K mg base ⟨at_, lamT K lams⟩ k Fm 1 d.name) :
    PySem.W.WalkO q loose XP YP l.row.toRowW d [] (fun f vs => PySem.call f vs) := by
  refine Att.attach_call hn hdf fun w s₀ s₁ mg mb fa o pm cd doc a vs ns G Y ho hd hcd hmg hobj hints hlen hg => ?_
  obtain ⟨K, at_, k, Fm, KX, hk, hL, hM, hF, hO⟩ := F w mg _ Y G.T.g
  unfold lamsB at hL
  rw [Bool.and_eq_true, List.all_eq_true, decide_eq_true_eq] at hL
  obtain ⟨cs, h1, h2⟩ := choose_cs (K := K) (mg := mg) (h := s₁.heap) (lams := lams) fun x m => by
    obtain ⟨P, e⟩ := Option.isSome_iff_exists.mp (hL.1 x m)
    obtain ⟨dr, md, rfl⟩ := hrec x m
    obtain ⟨c, A⟩ := lam_at KX e (hM _ m) (G.T.tab dr md)
    exact ⟨c, P, e, A⟩
  refine law_end (ca := ⟨at_, lamT K lams⟩) (cs := cs) KX G.T.g G.T.b G.T.builtins G.T.nolimit hg (fun p m => ?_) (fun p m => ?_) (fun p m => ?_) (fun p m => ?_) G.T.bmain hobj hints (Nat.le_trans hlen hn2) hk (fun base KB NB TB => hO base KB NB fun x m => ⟨fun fa fd oc od osl q1 q2 => ?_⟩) hmg (hF ns hlen)
  · obtain ⟨x, _, _, A⟩ := h1 p m; exact A.tb
  · obtain ⟨x, _, _, A⟩ := h1 p m; exact A.nk
  · obtain ⟨x, _, _, A⟩ := h1 p m; exact A.hd
  · obtain ⟨x, mx, e1, e2⟩ := mem_lamT.mp m
    obtain ⟨p', mp, e3, _⟩ := h2 x mx
    rw [e1] at e3
    exact ⟨p', mp, (Option.some.inj e3).symm⟩
  · obtain ⟨p, mp, e, A⟩ := h2 x m
    refine ⟨p.1, p.2, A.fn fa fd oc od osl q1 q2, TB p mp, mem_lamT.mpr ⟨x, m, e, rfl⟩, fun p' m' e' => ?_⟩
    obtain ⟨y, my, e1, e2⟩ := mem_lamT.mp m'
    rw [e', ← e] at e1
    rw [e2, inj_map hL.2 my m e1]
end AM
/-! text AmY -/
set_option Elab.async false
set_option linter.all false
set_option maxRecDepth 100000
set_option maxHeartbeats 4000000
/-! AmY: an own error whose __init__ says super().__init__(f'..{line}') and self.line = line. -/
namespace AM
open PySem PySem.Spec PyProof.Rows L2

/-- the body's frame -/
abbrev x1env (q : Str) (scope : Scope) (L f cda cc : Addr) : Env := PySem.W.ksEnv q scope L f (.ref cda) cc
def x1cx (P : Program) (w : World) (K : PySem.W.Frag) (mg : Str → Option Value) (base : Heap) (q : Str) (scope : Scope) (f cda cc : Addr) (A : Around) (outer : List Env) (s : Shared) (H : Hp) : Cx where
  prog := P
  w := w
  K := K
  mg := mg
  base := base
  A := A.deeper (x1env q scope s.heap.objs.size f cda cc)
  N := ["self", "line"]
  s_0 := s
  H_0 := H
  env := x1env q scope s.heap.objs.size f cda cc
  outer := outer
  stack := x1env q scope s.heap.objs.size f cda cc :: outer
  ex := []
  calm := true
  fn := fun _ => false
  pn := []
  xe := fun _ _ => False
/-- what the written part tells -/
structure X1F (P : Program) (K : PySem.W.Frag) (mg : Str → Option Value) (C fI cc cda : Addr) (params : Arguments) (body : List Stmt) (scope : Scope) (q : Str) : Prop where
  t : OexC K C
  init : PySem.W.findIn K (.ref C) "__init__" = some (some (.ref fI))
  tyI : PySem.W.typeIn K (.ref fI) = some (.type "function")
  lk : ∃ oc od kV doc pm an ct osl nm, K.lookup fI = some ⟨oc, od, .func (PySem.W.ksFn nm q params body scope .none kV doc pm an (.ref cda) ct cc), osl⟩
  cd : PySem.W.codeIn K (.ref cda) q = true
  file : ∃ ccl cdd vs ccs file tf, K.lookup cda = some ⟨ccl, cdd, .fields vs, ccs⟩ ∧ vs[2]? = some (.str file tf) ∧ ((P.main.file : Str) == file) = true
  cell : ∃ cl cld csl, K.lookup cc = some ⟨cl, cld, .cell (some (.ref C)), csl⟩
  sup : mg "super" = none
  tp : PySem.W.nsIn K cStatics "thirdparty.any" = some none
  sin : PySem.W.ks_superIn K C C "__init__" = some (some (.builtin "ValueError.__init__"))
  top : (P.main.scope.names.lookup ("super" : Str)).isSome = false
  mro : PySem.W.mroIn K C (.ref C) = some true
  sub : PySem.W.subIn K (.ref C) (.type "ValueError") = some true
  line : PySem.W.findIn K (.ref C) "line" = some none
/-- the scope of the body -/
structure X1S (scope : Scope) : Prop where
  kind : scope.kind = .function
  co : scope.isCoroutine = false
  gen : scope.isGenerator = false
  self : scope.names.lookup ("self" : Str) = some .local
  line : scope.names.lookup ("line" : Str) = some .local
  cls : scope.names.lookup ("__class__" : Str) = some .free
  sup : scope.names.lookup ("super" : Str) = some .globalImplicit
  nocell : ∀ x ∈ scope.names, x.2 ≠ .cell
  one : ∀ y, scope.names.lookup y = some .free → y = "__class__"
section
variable {P : Program} {w : World} {K : PySem.W.Frag} {mg : Str → Option Value} {base : Heap} {q : Str} {scope : Scope} {f cda cc C : Addr} {A : Around} {outer : List Env} {s : Shared} {H : Hp} {h₀ : Heap} {a : Addr} {i : Int} {t : Tok} {params : Arguments} {body : List Stmt}
theorem cells1 {x : Str} {c : Addr} (h : List.lookup x [(("__class__" : Str), cc)] = some c) : x = "__class__" ∧ c = cc := by
  by_cases e : x = "__class__"
  · subst e
    simp [List.lookup] at h
    exact ⟨rfl, h.symm⟩
  · have e2 : (x == ("__class__" : Str)) = false := by simpa using e
    simp [List.lookup, e2] at h
theorem x1_inv (F : X1F P K mg C f cc cda params body scope q) (S : X1S scope) (hd : A.handled = none) (e0 : Env0 P w K mg base A outer s H) {n : Nat}
    (hn : h₀.Ns s.heap.objs.size (fun x => ([(("self" : Str), Value.ref a), ("line", .int i t)]).reverse.lookup x)) (hk : ∀ b o, s.heap.get? b = some o → h₀.get? b = some o) :
    Inv (x1cx P w K mg base q scope f cda cc A outer s H) [] [some (.ref a), some (.int i)] H { s with heap := h₀, toks := s.toks + n } := by
  obtain ⟨cl, cld, csl, hcc⟩ := F.cell
  have hbase : base.get? cc = some ⟨cl, cld, .cell (some (.ref C)), csl⟩ := e0.mod.kin _ _ hcc
  obtain ⟨hs, hHc⟩ := e0.bs _ _ hbase
  have noA : ∀ b : Addr, b ∉ (x1cx P w K mg base q scope f cda cc A outer s H).ex := fun b z => absurd (show b ∈ ([] : List Addr) from z) (by simp)
  refine ⟨⟨e0.mod, S.kind, rfl, rfl, Nat.le_refl _, fun y z c h1 h2 => ?_, fun y hy => ?_, fun y c h _ => ?_, fun _ => hd, Around.frames_deeper e0.frames, .inr ⟨rfl, rfl⟩, fun b z => absurd z (noA b), e0.bs, e0.bsz, fun b _ _ => noA b, fun b z => absurd z (noA b), e0.funs, e0.frf⟩,
    rfl, e0.bare, Un.kept hk, ⟨_, hn, fun j y v h1 h2 h3 => ?_⟩, fun y c h => ?_, e0.hok.fresh (Nat.le_refl _), fun y c h => ?_, fun p hp => absurd (show p ∈ ([] : List (Addr × Obj)) from hp) (by simp), e0.hok.kept hk, rfl⟩
  · rw [(cells1 h1).1, (cells1 h2).1]
  · have hy : scope.names.lookup y = some .cell ∨ scope.names.lookup y = some .free := hy
    rcases hy with hy | hy
    · exact absurd rfl (S.nocell _ (PySem.mem_of_lookup hy))
    · have := S.one y hy
      subst this
      exact ⟨cc, by first | rfl | simp [x1cx]⟩
  · cases h
  · have h1 : ([("self" : Str), "line"])[j]? = some y := h1
    match j, h1, h2 with
    | 0, h1, h2 =>
      simp at h1 h2
      subst h1
      subst h2
      exact ⟨.ref a, rfl, .inl ⟨S.self, by rfl⟩⟩
    | 1, h1, h2 =>
      simp at h1 h2
      subst h1
      subst h2
      exact ⟨.int i t, ⟨t, rfl⟩, .inl ⟨S.line, by rfl⟩⟩
    | j + 2, h1, h2 => simp at h1
  · obtain ⟨rfl, rfl⟩ := cells1 h
    exact ⟨_, _, hk _ _ hs, rfl⟩
  · obtain ⟨rfl, rfl⟩ := cells1 h
    exact hHc

/-- self stands as an error in the making -/
theorem x1_at {X : Cx} {pins : List (Addr × Obj)} {σ : L2.St} (I : Inv X pins σ H s) (ea : H a = some (exo a C none)) : ∃ t1 : Addr, PySem.W.InstAt s.heap a ({ cls := .ref C, dict := none, data := .fields #[.ref t1, .none, .none, .none, .bool false, .none] } : Obj) C none := by
  obtain ⟨t1, ho⟩ := exo_at I.hok ea
  exact ⟨t1, ho, rfl, rfl, trivial⟩
/-- super() in the body -/
theorem x1_super {pins : List (Addr × Obj)} {σ : L2.St} {s1 : Shared} {H1 : Hp} {p0 p1 : Pos} {whole : Sem Value} {Q : Value → Shared → Prop} (F : X1F P K mg C f cc cda params body scope q) (S : X1S scope) (hpar : ∃ ar : Arg, (params.posonlyargs ++ params.args).head? = some ar ∧ ar.arg = ("self" : Str))
    (hσ : σ[0]? = some (some (.ref a))) (I : Inv (x1cx P w K mg base q scope f cda cc A outer s H) pins σ H1 s1) (ea : H1 a = some (exo a C none))
    (h : ∀ so h', Inv (x1cx P w K mg base q scope f cda cc A outer s H) pins σ H1 { s1 with heap := h' } → h'.get? so = some (PySem.W.ks_superObj C a C) → Q (.ref so) { s1 with heap := h' }) :
    _root_.PySem.wpAt (model P w) (x1cx P w K mg base q scope f cda cc A outer s H).A (.func body (x1env q scope s.heap.objs.size f cda cc)) (attributeBase (.Call (.Name "super" p0) [] [] p1) "__init__" (x1env q scope s.heap.objs.size f cda cc) whole) Q (fun _ _ => False) s1 := by
  obtain ⟨ar, har, hself⟩ := hpar
  obtain ⟨oc, od, kV, doc, pm, an, ct, osl, nm, hlk⟩ := F.lk
  obtain ⟨ccl, cdd, vs, ccs, file, tf, hcda, hvs, hfile⟩ := F.file
  obtain ⟨cl, cld, csl, hcc⟩ := F.cell
  have KX : K.In s1.heap := I.kIn
  have hm : PySem.W.mroIn K C (.ref C) = some true := F.mro
  obtain ⟨t1, IA⟩ := x1_at I ea
  obtain ⟨mb, hb1, hb2⟩ := I.mod.blt
  obtain ⟨m, hns, hloc⟩ := I.loc
  obtain ⟨u, ru, hu⟩ := hloc 0 "self" (.ref a) rfl hσ (.inl S.self)
  obtain rfl : u = Value.ref a := ru
  have hu : m "self" = some (.ref a) := by
    rcases hu with hu | ⟨hu, _⟩
    · exact hu.2
    · rcases hu with hu | hu
      · exact absurd (S.self.symm.trans hu) (by decide)
      · exact absurd (S.self.symm.trans hu) (by decide)
  obtain ⟨nmC, qC, NC, bs, bm, sn, sub, ab, col, dd, k0, k1, k2, k3, k5, hC, hbm⟩ := F.t.cls
  refine ks_wpAt_super_base (env := x1env q scope s.heap.objs.size f cda cc) S.sup S.cls (by rfl) rfl (KX _ _ hlk) rfl har rfl (KX _ _ hcda) rfl hvs hfile F.top ?_
  refine PySem.W.ks_loadName_global S.kind S.sup (PySem.Calls.loadGlobal_builtin (env := x1env q scope s.heap.objs.size f cda cc) (I.mod.glob.keeps I.bk) F.sup (hb1.keeps I.bk) ((hb2 "super" (by decide)).trans (by first | rfl | kernel_rfl)) ⟨rfl, ?_⟩)
  refine wpAny_loadName_free (c := cc) S.kind S.cls (by rfl) ⟨_, KX _ _ hcc, rfl⟩ ?_
  refine wpAny_loadName_local S.kind (by rw [hself]; exact S.self) hns (by rw [hself]; exact hu) ?_
  obtain ⟨hp, g, d, tk, os⟩ := s1
  refine ks_wpAny_isType_cls (KX _ _ hC) rfl ⟨rfl, ?_⟩
  refine ks_wpAny_call_super (KX _ _ hC) rfl IA.at_ IA.cls (fun c e => by cases e) (PySem.W.looks_mroIn KX hm) (fun h' e k => ?_)
  exact h _ _ (I.kept (t' := tk) k) e

/-- super().__init__, bound -/
theorem x1_meth {X : Cx} {pins : List (Addr × Obj)} {σ : L2.St} {s1 : Shared} {H1 : Hp} {so : Addr} {pl : Sem Bool} {Q : Value × List Value → Shared → Prop} {E : Value → Shared → Prop} (F : X1F P X.K mg C f cc cda params body scope q) (I : Inv X pins σ H1 s1) (ea : H1 a = some (exo a C none)) (hso : s1.heap.get? so = some (PySem.W.ks_superObj C a C))
    (h : ∀ u h' tk, Inv X (pins ++ [(u, PySem.W.kxs_mw "ValueError.__init__" a)]) σ H1 { s1 with heap := h', toks := tk } → Q (.ref u, []) { s1 with heap := h', toks := tk }) :
    wpAny (model X.prog X.w) A (getMethod (.ref so) "__init__" pl) Q E s1 := by
  obtain ⟨t1, IA⟩ := x1_at I ea
  have KX : X.K.In s1.heap := I.kIn
  have hI : PySem.W.Looks (model X.prog X.w) s1.heap (isInstance (.ref a) (.type "ValueError")) true := IA.type.andThen (PySem.W.looks_subIn KX F.sub)
  have hm := F.sin
  cases hc : PySem.W.clsIn X.K C with
  | none => unfold PySem.W.ks_superIn at hm; rw [hc] at hm; cases hm
  | some cd =>
    unfold PySem.W.ks_superIn at hm
    rw [hc] at hm
    obtain ⟨hp, g, d, tk, os⟩ := s1
    refine PySem.W.kxs_getMethod PySem.W.kxs_ValueError hso (PySem.W.looks_opaque KX F.tp) (l₀ := cd.mro) ?_ rfl KX hm hI (PySem.W.ks_ne KX IA hc) (by rfl) ?_
    · exact fun A Q E s k q => wpAny_bind ((PySem.W.looks_clsIn KX hc) A _ E s k (wpAny_pure q))
    · have k : ∀ b o, hp.get? b = some o → (hp.push (PySem.W.kxs_mw "ValueError.__init__" a)).get? b = some o := fun b o e => Heap.get?_push_of_some _ e
      have J := I.kept (t' := tk + 1) k
      have hu : (hp.push (PySem.W.kxs_mw "ValueError.__init__" a)).get? hp.objs.size = some (PySem.W.kxs_mw "ValueError.__init__" a) := Heap.get?_push_at rfl rfl
      refine h _ _ _ (J.pins_of fun p hp' => ?_)
      rcases List.mem_append.mp hp' with z | z
      · exact J.pin p (List.mem_append_right _ z)
      · rw [List.mem_singleton] at z
        subst z
        refine ⟨hu, I.hok.fresh (Nat.le_refl _), Nat.ne_of_gt I.lt, I.nofs (Nat.le_refl _), fun v z => ?_⟩
        cases z
/-- .. called -/
theorem x1_call {X : Cx} {pins : List (Addr × Obj)} {σ : L2.St} {s1 : Shared} {H1 : Hp} {u : Addr} {us : List Value} {Q : Value → Shared → Prop} {E : Value → Shared → Prop} (T : OexC X.K C) (I : Inv X pins σ H1 s1) (ea : H1 a = some (exo a C none)) (hu : s1.heap.get? u = some (PySem.W.kxs_mw "ValueError.__init__" a)) (hl : us.length ≤ sizeLine)
    (h : ∀ s', Inv X pins σ H1 s' → Q .none s') : wpAny (model X.prog X.w) A (call (.ref u) us) Q E s1 := by
  obtain ⟨nm, q, N, bs, bm, sn, sub, ab, col, dd, k0, k1, k2, k3, k5, hC, hbm⟩ := T.cls
  obtain ⟨t1, ho⟩ := exo_at I.hok ea
  have KX : X.K.In s1.heap := I.kIn
  obtain ⟨hp, g, d, tk, os⟩ := s1
  refine wpAny_call (codeAny_of_tree ?_)
  show wpAny _ A.in1 (callAny (.ref u) ⟨us, []⟩) _ _ _
  simp only [callAny]
  refine wpAny_bind (wpAny_load hu ?_)
  simp only [PySem.W.kxs_mw, show (Value.type "method-wrapper" == Value.type "method" || Value.type "method-wrapper" == Value.type "builtin_function_or_method" || Value.type "method-wrapper" == Value.type "method-wrapper") = true by decide, if_true]
  refine PySem.W.KFB.if_so (by decide) ?_
  refine wpAny_bind (PySem.W.check_bound_init PySem.F.excBase_ValueError.toExcCallFacts (KX _ _ hC) ho rfl ?_)
  refine wpAny_bind (wpAny_pure (wpAny_pure ?_))
  refine ⟨plainId_quiet PySem.F.excBase_ValueError.init.plain _, codeAny_builtin PySem.F.excBase_ValueError.initEntry ?_⟩
  refine PySem.W.exc_init_tree (cls := .ref C) (t0 := t1) (dv := none) (c2 := .none) (c3 := .none) (b4 := .bool false) ho hl fun h' k hx ht => ?_
  have J := I.write (t' := tk) (x := a) (e := a) (o := exo a C none) (by rw [ea]; exact True.intro) (.inl rfl) k ⟨_, hx⟩ (exo_ok hx)
  have eu : upd H1 a (exo a C none) = H1 := by
    funext b
    by_cases hb : b = a
    · rw [hb, upd_same, ea]
    · rw [upd_ne hb]
  rw [eu] at J
  exact h _ J
/-- the statement super().__init__(e) -/
theorem x1_first {σ : L2.St} {s1 : Shared} {H1 : Hp} {e : Expr} {te : TE} {p0 p1 p2 p7 p8 : Pos} (F : X1F P K mg C f cc cda params body scope q) (S : X1S scope) (hpar : ∃ ar : Arg, (params.posonlyargs ++ params.args).head? = some ar ∧ ar.arg = ("self" : Str))
    (hσ : σ[0]? = some (some (.ref a))) (he : PE (x1cx P w K mg base q scope f cda cc A outer s H) e te) (ht : te σ H1 fun _ H2 => H2 = H1) (I : Inv (x1cx P w K mg base q scope f cda cc A outer s H) [] σ H1 s1) (ea : H1 a = some (exo a C none))
    (hs : starEach [e] (x1env q scope s.heap.objs.size f cda cc) = (false, eval e (x1env q scope s.heap.objs.size f cda cc)) :: starEach [] (x1env q scope s.heap.objs.size f cda cc)) (pl : Sem Bool)
    (hev : eval (.Call (.Attribute (.Call (.Name "super" p0) [] [] p1) "__init__" p2) [e] [] p7) (x1env q scope s.heap.objs.size f cda cc) = (do
      let ov ← attributeBase (.Call (.Name "super" p0) [] [] p1) "__init__" (x1env q scope s.heap.objs.size f cda cc) (eval (.Call (.Name "super" p0) [] [] p1) (x1env q scope s.heap.objs.size f cda cc))
      standAt p2.atName
      let (g, first) ← holding [ov] (getMethod ov "__init__" pl)
      callWith p7 g first (backTo p7 (starEach [e] (x1env q scope s.heap.objs.size f cda cc))) []))
    (hi : interactive (x1env q scope s.heap.objs.size f cda cc) = false) (hsw : swapsWith (.Call (.Attribute (.Call (.Name "super" p0) [] [] p1) "__init__" p2) [e] [] p7) none p8.line (x1env q scope s.heap.objs.size f cda cc) = pure false) :
    _root_.PySem.wpAt (model P w) (x1cx P w K mg base q scope f cda cc A outer s H).A (.func body (x1env q scope s.heap.objs.size f cda cc)) (exec (.Expr (.Call (.Attribute (.Call (.Name "super" p0) [] [] p1) "__init__" p2) [e] [] p7) p8) (x1env q scope s.heap.objs.size f cda cc))
      (fun fl s' => fl = .next ∧ Inv (x1cx P w K mg base q scope f cda cc A outer s H) [] σ H1 s') (fun _ _ => False) s1 := by
  refine ks_wpAt_Expr_any (ks_wpAt_MethodCall (pl := pl) (x1_super F S hpar hσ I ea fun so h' I2 hso => ?_) hev) hi hsw
  refine x1_meth (X := x1cx P w K mg base q scope f cda cc A outer s H) (mg := mg) F I2 ea hso fun u h2 tk I3 => ?_
  refine PySem.W.kxs_callWith (i := "ValueError.__init__") (x := a) (by rw [hs]; rfl) ?_
  rw [hs]
  refine PySem.Calls.evalArgs_plain (Calls.spliced_cons (thn (he.run _ _ σ H1 _ I3 ht) fun v s3 ⟨x, H2, I4, r, e2⟩ => ?_))
  subst e2
  refine Calls.spliced_nil ⟨(I4.pin (u, _) (by simp)).1, ?_⟩
  exact x1_call (X := x1cx P w K mg base q scope f cda cc A outer s H) F.t I4 ea (I4.pin (u, _) (by simp)).1 (by rw [sizeLine_eq]; simp) fun s' J => ⟨rfl, J.pins_of fun p hp => absurd hp (by simp)⟩

/-- what the body leaves -/
def X1R (P : Program) (w : World) (C : Addr) (outer : List Env) (s : Shared) (H : Hp) (a : Addr) (i : Int) (r : Result) (s' : Shared) : Prop := r = .ok (.ret .none) ∧ ∃ (dx : Addr) (H' : Hp), H dx = none ∧ dx ≠ a ∧ H' = upd (upd H dx (exd dx [(("line" : Str), .int i)])) a (exo a C (some dx)) ∧
  s'.os = s.os ∧ AllBare s'.gens ∧ Un (frs outer) [] H H' s.heap s'.heap ∧ HOk P w H' s'.heap
def x1body (z : Str) (p0 p1 p2 p3 p4 p5 p6 p7 p8 p9 p10 p11 p12 : Pos) : List Stmt := [.Expr (.Call (.Attribute (.Call (.Name "super" p0) [] [] p1) "__init__" p2) [.JoinedStr [.Constant (.str z) 0 p3, .FormattedValue (.Name "line" p4) (-1) none p5] p6] [] p7) p8,
  .Assign [.Attribute (.Name "self" p9) "line" p10] (.Name "line" p11) p12]

def x1sc : Scope := { kind := .function, names := [(("self" : Str), .local), (("line" : Str), .local), (("__class__" : Str), .free), (("super" : Str), .globalImplicit)], isGenerator := false, isCoroutine := false, more := [] }
theorem x1s : X1S x1sc := ⟨rfl, rfl, rfl, rfl, rfl, rfl, rfl, by decide +kernel, fun y h => by
  have z := PySem.mem_of_lookup h
  simp [x1sc] at z
  exact z⟩
/-- the call's tree, at these positions -/
def X1T (z : Str) (p0 p1 p2 p3 p4 p5 p6 p7 : Pos) : Prop := ∀ (q : Str) (L f cda cc : Addr), ∃ pl : Sem Bool, eval (.Call (.Attribute (.Call (.Name "super" p0) [] [] p1) "__init__" p2) [.JoinedStr [.Constant (.str z) 0 p3, .FormattedValue (.Name "line" p4) (-1) none p5] p6] [] p7) (x1env q x1sc L f cda cc) = (do
      let ov ← attributeBase (.Call (.Name "super" p0) [] [] p1) "__init__" (x1env q x1sc L f cda cc) (eval (.Call (.Name "super" p0) [] [] p1) (x1env q x1sc L f cda cc))
      standAt p2.atName
      let (g, first) ← holding [ov] (getMethod ov "__init__" pl)
      callWith p7 g first (backTo p7 (starEach [.JoinedStr [.Constant (.str z) 0 p3, .FormattedValue (.Name "line" p4) (-1) none p5] p6] (x1env q x1sc L f cda cc))) [])
theorem x1_run {z : Str} {p0 p1 p2 p3 p4 p5 p6 p7 p8 p9 p10 p11 p12 : Pos} {args : Args} (F : X1F P K mg C f cc cda params (x1body z p0 p1 p2 p3 p4 p5 p6 p7 p8 p9 p10 p11 p12) x1sc q) (hz : z.length ≤ 100) (hpar : ∃ ar : Arg, (params.posonlyargs ++ params.args).head? = some ar ∧ ar.arg = ("self" : Str))
    (hT : X1T z p0 p1 p2 p3 p4 p5 p6 p7) (hi : i.natAbs.log2 < 1920) (hd : A.handled = none) (hroom : A.depth < recursionLimit) (e0 : Env0 P w K mg base A outer s H) (ea : H a = some (exo a C none))
    (hb : ∀ nm kV doc pm an ct, bindArgs (PySem.W.ksFn nm q params (x1body z p0 p1 p2 p3 p4 p5 p6 p7 p8 p9 p10 p11 p12) x1sc .none kV doc pm an (.ref cda) ct cc) args = pure [(("self" : Str), .ref a), ("line", .int i t)]) :
    codeAny (model P w) A (.call (.ref f) args) (X1R P w C outer s H a i) s := by
  obtain ⟨oc, od, kV, doc, pm, an, ct, osl, nm, hlk⟩ := F.lk
  have KX : K.In s.heap := e0.mod.kin.keeps fun b o e => (e0.bs b o e).1
  have lim : s.heap.NoLimit := e0.mod.nolimit.keeps fun b o e => (e0.bs b o e).1
  refine ks_codeAny_call_defAt (fd := PySem.W.ksFn nm q params (x1body z p0 p1 p2 p3 p4 p5 p6 p7 p8 p9 p10 p11 p12) x1sc .none kV doc pm an (.ref cda) ct cc) (body := x1body z p0 p1 p2 p3 p4 p5 p6 p7 p8 p9 p10 p11 p12) (binds := [(("self" : Str), .ref a), ("line", .int i t)])
    hroom (KX _ _ hlk) rfl lim (PySem.W.codeRec_of KX F.cd) rfl (.of_eq (hb _ _ _ _ _ _)) x1s.nocell (fun x hx => ?_) (fun h₀ hns hk => ?_) x1s.co x1s.gen x1s.kind
  · rcases List.mem_cons.mp hx with rfl | hx
    · exact x1s.self
    · rw [List.mem_singleton] at hx
      subst hx
      exact x1s.line
  have I := x1_inv (w := w) (n := [(("self" : Str), Value.ref a), (("line" : Str), Value.int i t)].length) F x1s hd e0 hns hk
  show _root_.PySem.wpAt (model P w) (x1cx P w K mg base q x1sc f cda cc A outer s H).A (.func (x1body z p0 p1 p2 p3 p4 p5 p6 p7 p8 p9 p10 p11 p12) (x1env q x1sc s.heap.objs.size f cda cc)) (execs (x1body z p0 p1 p2 p3 p4 p5 p6 p7 p8 p9 p10 p11 p12) (x1env q x1sc s.heap.objs.size f cda cc)) _ _ _
  obtain ⟨pl, hev⟩ := hT q s.heap.objs.size f cda cc
  have vline : PE (x1cx P w K mg base q x1sc f cda cc A outer s H) (.Name "line" p4) (tVar 1) := pe_var rfl (.inl x1s.line) (by rfl) (by rfl)
  have vtext := pe_joined (pos := p6) (.cons (pe_str (X := x1cx P w K mg base q x1sc f cda cc A outer s H) (x := z) (j := 0) (pos := p3)) (.cons (pe_fmt (pos := p5) vline) .nil))
  refine ks_wpAt_execs_cons (ks_wpAt_mono (x1_first F x1s hpar rfl vtext ?_ I ea (by rfl) pl hev I.quiet (by rfl)) (fun fl s2 h2 => ?_) fun _ _ x => x.elim)
  · refine ⟨z, rfl, ?_, ?_⟩
    · rw [strLen_append, sizeLine_eq]
      have : (Str.empty : Str).length = 0 := rfl
      omega
    · refine ⟨.int i, rfl, .inr ⟨i, rfl, hi, ?_⟩⟩
      refine ⟨_, rfl, ?_, rfl⟩
      rw [strLen_append, strLen_append, sizeLine_eq]
      have e0 : (Str.empty : Str).length = 0 := rfl
      have e1 := int_text_length_le (k := 1920) (by decide) hi
      have e2 : (Str.ofString (toString i)).length = (toString i).length := PySem.ofString_length _
      omega
  · obtain ⟨rfl, I2⟩ := h2
    refine wpAt_of_wpAny ?_
    have st := ps_ost (X := x1cx P w K mg base q x1sc f cda cc A outer s H) (o := .Name "self" p9) (f := "line") (e := .Name "line" p11) (p' := p10) (pos := p12) (pe_var (i := 0) rfl (.inl x1s.self) (by rfl) (by rfl)) (pe_var (i := 1) rfl (.inl x1s.line) (by rfl) (by rfl)) (by rfl)
    have all := pss_one st
    refine wpAny_mono (all.run [] s2 _ H { nx := fun _ H' => ∃ dx, H dx = none ∧ dx ≠ a ∧ H' = upd (upd H dx (exd dx [(("line" : Str), .int i)])) a (exo a C (some dx)), rt := fun _ _ => False } I2 ?_) (fun fl s3 h3 => ?_) fun _ _ x => x.elim
    · refine ⟨.int i, rfl, .ref a, rfl, a, C, rfl, F.t, F.line, .inl ⟨ea, fun dx h1 h2 => ⟨dx, h1, h2, rfl⟩⟩⟩
    · rcases fl with _ | _ | _ | u
      · obtain ⟨σ1, H1, J, dx, q1, q2, q3⟩ := h3
        exact ⟨rfl, dx, H1, q1, q2, q3, J.os, J.bare, J.base, J.hok⟩
      · exact h3.elim fun _ z => z.elim fun _ z => z.2.elim
      · exact h3.elim fun _ z => z.elim fun _ z => z.2.elim
      · obtain ⟨_, _, _, _, _, q⟩ := h3
        exact q.elim
end
end AM
/-! text AmY2 -/
set_option Elab.async false
set_option linter.all false
set_option maxRecDepth 100000
set_option maxHeartbeats 4000000
/-! AmY2: such an error made, by position and by name. -/
namespace AM
open PySem PySem.Spec PyProof.Rows L2
section
variable {X : Cx} {pins : List (Addr × Obj)} {σ : L2.St} {s s1 : Shared} {H : Hp} {Q : VK} {C f cc cda : Addr} {params : Arguments} {z q : Str} {i : Int} {t : Tok} {k : Nat}
/-- an error made is landed as a tracked value -/
theorem mk_landed {Q1 : XK} {u : Value} (hu : MkP X pins σ Q1 u s1) (h : ∀ cls d H1, Q1 cls d H1 → ∃ C, cls = .ref C ∧ ∀ a, H1 a = none → Q (.ref a) (upd H1 a (exnO a C d))) : EP X pins σ Q u s1 := by
  obtain ⟨a, oe, vs, sI, H1, cls, d, rfl, J, k, hne, ha, hz, hd, h1, na, os, ag, r, q0⟩ := hu
  obtain ⟨C, rfl, q⟩ := h _ _ _ q0
  have J2 := J.laidN (t' := s1.toks) (o := exnO a C d) k hne na (exn_ok ha hz.1 hz.2 hd)
  exact ⟨.ref a, _, J2.landed (B := s1.heap) (s' := s1) (fun _ _ e _ => e) (fun _ _ e => e) (fun b o e _ => ⟨o.slots, e⟩) os ag, rfl, q a na⟩
/-- behind the body -/
theorem x1_back (T : OexC X.K C) {hp hp2 : Heap} {g : Array GenState} {dr dr' : Drawn} {tk tk' : Nat} {os : OsState} (I1 : Inv X pins σ H ⟨hp, g, dr, tk, os⟩) (kk : ∀ b o, hp.get? b = some o → hp2.get? b = some o) {r : Result} {s' : Shared}
    (h : X1R X.prog X.w C X.stack ⟨hp2, g, dr', tk', os⟩ (upd H (hp.objs.size + 1) (exo (hp.objs.size + 1) C none)) (hp.objs.size + 1) i r s')
    (hq : ∀ a d, H a = none → H d = none → d ≠ a → Q (.ref a) (upd (upd H d (.xd [(("line" : Str), .int i)])) a (exnO a C (some d)))) : r = .ok (.ret .none) ∧ EP X pins σ Q (.ref (hp.objs.size + 1)) s' := by
  obtain ⟨rfl, dx, H', hdx, hne, rfl, e1, e2, e3, e4⟩ := h
  have na : H (hp.objs.size + 1) = none := I1.hok.fresh (Nat.le_succ _)
  have hd : H dx = none := by rw [upd_ne hne] at hdx; exact hdx
  obtain ⟨h2, g2, d2, t2, os'⟩ := s'
  have eqh : upd (del (upd (upd (upd H (hp.objs.size + 1) (exo (hp.objs.size + 1) C none)) dx (exd dx [(("line" : Str), .int i)])) (hp.objs.size + 1) (exo (hp.objs.size + 1) C (some dx))) (hp.objs.size + 1)) dx (.xd [(("line" : Str), .int i)]) = upd H dx (.xd [(("line" : Str), .int i)]) := by
    funext b
    by_cases hb : b = dx
    · subst hb; rw [upd_same, upd_same]
    · rw [upd_ne hb, upd_ne hb]
      by_cases hb2 : b = hp.objs.size + 1
      · subst hb2; rw [del_same, na]
      · rw [del_ne hb2, upd_ne hb2, upd_ne hb, upd_ne hb2]
  have M := mk_end (d2 := d2) (t2 := t2) (Q := fun cls d H1 => cls = .ref C ∧ d = some dx ∧ H1 = upd H dx (.xd [(("line" : Str), .int i)])) (raises_own T.exC T.tyC) I1 (Nat.le_succ _) kk e3 e4 e1 e2 upd_same (by rw [upd_ne hne]; exact upd_same) hd ⟨rfl, rfl, eqh⟩
  refine ⟨rfl, mk_landed M ?_⟩
  rintro cls d H1 ⟨rfl, rfl, rfl⟩
  refine ⟨C, rfl, fun a n => ?_⟩
  by_cases e : a = dx
  · subst e
    rw [upd_same] at n
    cases n
  · rw [upd_ne e] at n
    exact hq a dx n hd (Ne.symm e)
theorem x1_make {p0 p1 p2 p3 p4 p5 p6 p7 p8 p9 p10 p11 p12 : Pos} (F : X1F X.prog X.K X.mg C f cc cda params (x1body z p0 p1 p2 p3 p4 p5 p6 p7 p8 p9 p10 p11 p12) x1sc q) (hz : z.length ≤ 100) (hpar : ∃ ar : Arg, (params.posonlyargs ++ params.args).head? = some ar ∧ ar.arg = ("self" : Str))
    (hT : X1T z p0 p1 p2 p3 p4 p5 p6 p7) (rm : Rm (k + 1) X.A) (hb : ∀ a nm kV doc pm an ct, bindArgs (PySem.W.ksFn nm q params (x1body z p0 p1 p2 p3 p4 p5 p6 p7 p8 p9 p10 p11 p12) x1sc .none kV doc pm an (.ref cda) ct cc) ⟨[.ref a, .int i t], []⟩ = pure [(("self" : Str), .ref a), ("line", .int i t)])
    (hi : i.natAbs.log2 < 1920) (I1 : Inv X pins σ H s)
    (hq : ∀ a d, H a = none → H d = none → d ≠ a → Q (.ref a) (upd (upd H d (.xd [(("line" : Str), .int i)])) a (exnO a C (some d)))) : wpAny (model X.prog X.w) X.A (call (.ref C) [.int i t]) (EP X pins σ Q) X.xe s := by
  obtain ⟨nm, qn, N, bs, bm, sn, sub, ab, col, dd, k0, k1, k2, k3, k5, hC, hbm⟩ := F.t.cls
  obtain ⟨hp, g, dr, tk, os⟩ := s
  have kk : ∀ b o, hp.get? b = some o → ((hp.push (PySem.W.kdv_tup [Value.int i t])).push (PySem.HandSPX.excO C hp.objs.size)).get? b = some o := fun b o e => Heap.get?_push_of_some _ (Heap.get?_push_of_some _ e)
  have hget : ((hp.push (PySem.W.kdv_tup [Value.int i t])).push (PySem.HandSPX.excO C hp.objs.size)).get? (hp.objs.size + 1) = some (PySem.HandSPX.excO C hp.objs.size) := by heap_get
  have I2 : Inv X pins σ (upd H (hp.objs.size + 1) (exo (hp.objs.size + 1) C none)) ⟨(hp.push (PySem.W.kdv_tup [Value.int i t])).push (PySem.HandSPX.excO C hp.objs.size), g, dr, tk, os⟩ :=
    I1.laid (t' := tk) kk (Nat.le_succ _) (exo_ok hget)
  have rm2 := rm.make C [Value.int i t] []
  refine wpAny_call (PySem.HandSPX.call_own PySem.F.excBase_ValueError (fun Y => PySem.HandSPX.refsVE_contains Y bm hbm) (I1.kIn _ _ hC) (PySem.W.looks_findIn I1.kIn F.init) (fun self => PySem.W.bind_fn I1.kIn self F.tyI) (by rw [sizeLine_eq]; simp)
    (codeAny_mono (x1_run F hz hpar hT hi rm2.r.hd rm2.r.depth (I2.env0.make C _ []) upd_same (fun nm kV doc pm an ct => hb _ nm kV doc pm an ct)) fun r s' h' => ?_))
  obtain ⟨rfl, z⟩ := x1_back F.t I1 kk h' hq
  exact ⟨rfl, z⟩
end
end AM
/-! text AmY3 -/
set_option Elab.async false
set_option linter.all false
set_option maxRecDepth 100000
set_option maxHeartbeats 4000000
/-! AmY3: .. made by name. -/
namespace PySem.AMX
open PySem.Calls PySem.HandSPX PyProof.Rows PySem.W
section
variable {prog : Program} {w : World} {M : Model} {A : Around} {E : Value → Shared → Prop} {R : Result → Shared → Prop} {h : Heap} {g : Array GenState} {d : Drawn} {t : Nat} {os : OsState}
variable {nm q : Str} {C N : Addr} {bs bm bmB : List Value} {hdct : Bool} {sn : List Str} {sub : List Value} {ab : Bool} {col : Option Bool} {dd : Option Addr} {k0 k1 k2 k3 k5 : Option Value} {B newId initId : String} {x : Str} {v : Value}
theorem kw_newchk (F : ExcBaseFacts B newId initId bmB) (hT : ∀ X : String, bm.contains (.type X) = bmB.contains (.type X)) (hC : h.get? C = some (excClassObj nm q C N bs bm hdct sn sub ab col dd k0 k1 k2 k3 k5 newId)) {Q : Unit → Shared → Prop}
    (goal : Q () ⟨h, g, d, t, os⟩) : wpAny M A (checkBuiltinCall newId ⟨[.ref C], [(x, v)]⟩) Q E ⟨h, g, d, t, os⟩ := by
  have inB : (Value.ref C :: bm).contains (.type B) = true := by rw [List.contains_cons, hT, F.hasB, Bool.or_true]
  have star := F.noStar
  simp only [checkBuiltinCall, F.newKind, F.newSplit, F.newRow]
  repeat (first | refine wpAny_loadPart_at hC ?_ | (refine wpAny_isSubtype_exc hC ?_; rw [inB]) | refine wpAny_staticBase_exc hC ?_ | refine wpAny_madeBy_exc hC ?_ | simp only [bne_self_eq_false, Bool.false_eq_true, if_false] | wp_step)
  exact goal
theorem kw_new (F : ExcBaseFacts B newId initId bmB) (hT : ∀ X : String, bm.contains (.type X) = bmB.contains (.type X)) (hC : h.get? C = some (excClassObj nm q C N bs bm hdct sn sub ab col dd k0 k1 k2 k3 k5 newId))
    (goal : R (.ok (.ret (.ref (h.objs.size + 1)))) ⟨(h.push (W.kdv_tup [])).push (excO C h.objs.size), g, d, t, os⟩) : codeAny (model prog w) A (.builtin newId ⟨[.ref C], [(x, v)]⟩) R ⟨h, g, d, t, os⟩ := by
  have ends_ := F.ends
  have inB : (Value.ref C :: bm).contains (.type B) = true := by rw [List.contains_cons, hT, F.hasB, Bool.or_true]
  have inA : (Value.ref C :: bm).contains (.type "AttributeError") = false := by rw [List.contains_cons, hT, F.noAttr]; rfl
  have inN : (Value.ref C :: bm).contains (.type "NameError") = false := by rw [List.contains_cons, hT, F.noName]; rfl
  refine codeAny_builtinAt F.entry ?_
  unfold Builtin.«BaseException.__new__»
  refine wpAt_bind ?_
  show wpAt _ _ _ (stack >>= _) _ _ _
  refine wpAt_bind (wpAt_stack fun p below => wpAt_of_wpAny ?_)
  wp_walk
  refine wpAt_of_wpAny ?_
  rw [F.owner]
  repeat (first | with_reducible refine wpAny_madeHere_exc F.canon hC ?_ | with_reducible refine wpAny_loadPart_at hC ?_ | (with_reducible refine wpAny_isSubtype_exc hC ?_; first | rw [inB] | rw [inA] | rw [inN]) | wp_step)
  show R _ _
  rw [Heap.size_push]
  exact goal
theorem kw_tcall (F : ExcBaseFacts B newId initId bmB) (hT : ∀ X : String, bm.contains (.type X) = bmB.contains (.type X)) {fI : Addr} {Q : Fin → Shared → Prop} (hC : h.get? C = some (excClassObj nm q C N bs bm hdct sn sub ab col dd k0 k1 k2 k3 k5 newId))
    (look : W.Looks (model prog w) h (typeLookup (.ref C) "__init__") (some (.ref fI))) (bnd : ∀ self, W.Looks (model prog w) h (bindSpecial (.ref fI) self) (.ref fI, [self]))
    (goal : codeAny (model prog w) A (.call (.ref fI) ⟨[.ref (h.objs.size + 1)], [(x, v)]⟩) (fun r s' => match r with | .ok (.ret u) => u = .none ∧ Q (.done (.ret (.ref (h.objs.size + 1)))) s' | .ok _ => False | .error e => E e s') ⟨(h.push (W.kdv_tup [])).push (excO C h.objs.size), g, d, t, os⟩) :
    wpAny (model prog w) A (Builtin.«type.__call__» ⟨[.ref C], [(x, v)]⟩) Q E ⟨h, g, d, t, os⟩ := by
  repeat (first | with_reducible refine wpAny_loadPart_at hC ?_ | with_reducible refine wpAny_madeBy_exc hC ?_ | wp_step)
  refine codeAny_call_builtin_code (Code.quiet_builtin _ F.quiet) (kw_newchk F hT hC ?_)
  refine kw_new F hT hC ?_
  show wpAny _ _ _ _ _ _
  have up : ∀ b o, h.get? b = some o → ((h.push (W.kdv_tup [])).push (excO C h.objs.size)).get? b = some o := fun b o e => Heap.get?_push_of_some _ (Heap.get?_push_of_some _ e)
  have hC2 := up _ _ hC
  have made : ((h.push (W.kdv_tup [])).push (excO C h.objs.size)).get? (h.objs.size + 1) = some (excO C h.objs.size) := by heap_get
  have inC : (Value.ref C :: bm).contains (.ref C) = true := by simp
  have l2 := look.keeps up
  have b2 := (bnd (.ref (h.objs.size + 1))).keeps up
  unfold isInstance
  repeat (first | with_reducible refine wpAny_loadPart_at made ?_ | (with_reducible refine wpAny_isSubtype_exc hC2 ?_; rw [inC]) | wp_step)
  show wpAny _ _ (typeLookup (.ref C) _) _ _ _
  refine l2.at ?_
  refine wpAny_holding (wpAny_bind (b2.at ?_))
  refine wpAny_bind (wpAny_call (codeAny_mono goal fun r s' z => ?_))
  rcases r with e | (u | _ | _ | _) <;> first | exact z | exact z.elim | skip
  obtain ⟨rfl, z⟩ := z
  first
    | exact wpAny_pure (wpAny_pure z)
    | (wp_walk; exact z)
theorem kw_chk {Q : Unit → Shared → Prop} (hC : h.get? C = some (excClassObj nm q C N bs bm hdct sn sub ab col dd k0 k1 k2 k3 k5 newId)) (goal : Q () ⟨h, g, d, t, os⟩) : wpAny M A (checkBuiltinCall "type.__call__" ⟨[.ref C], [(x, v)]⟩) Q E ⟨h, g, d, t, os⟩ := by
  have tsub := tc_sub
  have hTy : (⟨h, g, d, t, os⟩ : Shared).TypeIs (.ref C) "type" := ⟨_, hC, rfl⟩
  simp only [checkBuiltinCall, tc_kind, tc_split]
  repeat (any_goals (first | assumption | with_reducible refine wpAny_loadPart_at hC ?_ | with_reducible refine wpAny_onRaise ?_ | with_reducible refine wpAny_map ?_ | wp_step))
theorem kw_call (F : ExcBaseFacts B newId initId bmB) (hT : ∀ X : String, bm.contains (.type X) = bmB.contains (.type X)) {fI : Addr} (hC : h.get? C = some (excClassObj nm q C N bs bm hdct sn sub ab col dd k0 k1 k2 k3 k5 newId))
    (look : W.Looks (model prog w) h (typeLookup (.ref C) "__init__") (some (.ref fI))) (bnd : ∀ self, W.Looks (model prog w) h (bindSpecial (.ref fI) self) (.ref fI, [self]))
    (goal : codeAny (model prog w) (A.under (.builtin "type.__call__" ⟨[.ref C], [(x, v)]⟩)) (.call (.ref fI) ⟨[.ref (h.objs.size + 1)], [(x, v)]⟩) (W.InitBack (h.objs.size + 1) R) ⟨(h.push (W.kdv_tup [])).push (excO C h.objs.size), g, d, t, os⟩) :
    codeAny (model prog w) A (.call (.ref C) ⟨[], [(x, v)]⟩) R ⟨h, g, d, t, os⟩ := by
  have tlook := tc_lookup
  have tbind := tc_bind (.ref C)
  have hTy : (⟨h, g, d, t, os⟩ : Shared).TypeIs (.ref C) "type" := ⟨_, hC, rfl⟩
  refine codeAny_of_tree ?_
  show wpAny _ _ (callAny (.ref C) _) _ _ _
  repeat (any_goals (first | assumption | with_reducible refine wpAny_loadPart_at hC ?_ | wp_step))
  refine ⟨rfl, ?_⟩
  refine codeAny_call_builtin_at (Code.quiet_builtin _ (by decide +kernel)) entry_typeCall (kw_chk hC (kw_tcall F hT hC look bnd ?_))
  refine codeAny_mono goal fun r s' z => ?_
  rcases r with e | (u | _ | _ | _) <;> exact z
end
end PySem.AMX
namespace AM
open PySem PySem.Spec PyProof.Rows L2
section
variable {X : Cx} {pins : List (Addr × Obj)} {σ : L2.St} {s : Shared} {H : Hp} {Q : VK} {C f cc cda : Addr} {params : Arguments} {z q : Str} {i : Int} {t : Tok} {k : Nat}
theorem x1_makeK {p0 p1 p2 p3 p4 p5 p6 p7 p8 p9 p10 p11 p12 : Pos} (F : X1F X.prog X.K X.mg C f cc cda params (x1body z p0 p1 p2 p3 p4 p5 p6 p7 p8 p9 p10 p11 p12) x1sc q) (hz : z.length ≤ 100) (hpar : ∃ ar : Arg, (params.posonlyargs ++ params.args).head? = some ar ∧ ar.arg = ("self" : Str))
    (hT : X1T z p0 p1 p2 p3 p4 p5 p6 p7) (rm : Rm (k + 1) X.A) (hb : ∀ a nm kV doc pm an ct, bindArgs (PySem.W.ksFn nm q params (x1body z p0 p1 p2 p3 p4 p5 p6 p7 p8 p9 p10 p11 p12) x1sc .none kV doc pm an (.ref cda) ct cc) ⟨[.ref a], [(("line" : Str), .int i t)]⟩ = pure [(("self" : Str), .ref a), ("line", .int i t)])
    (hi : i.natAbs.log2 < 1920) (I1 : Inv X pins σ H s)
    (hq : ∀ a d, H a = none → H d = none → d ≠ a → Q (.ref a) (upd (upd H d (.xd [(("line" : Str), .int i)])) a (exnO a C (some d)))) : wpAny (model X.prog X.w) X.A (call (.ref C) [] [(("line" : Str), .int i t)]) (EP X pins σ Q) X.xe s := by
  obtain ⟨nm, qn, N, bs, bm, sn, sub, ab, col, dd, k0, k1, k2, k3, k5, hC, hbm⟩ := F.t.cls
  obtain ⟨hp, g, dr, tk, os⟩ := s
  have kk : ∀ b o, hp.get? b = some o → ((hp.push (PySem.W.kdv_tup [])).push (PySem.HandSPX.excO C hp.objs.size)).get? b = some o := fun b o e => Heap.get?_push_of_some _ (Heap.get?_push_of_some _ e)
  have hget : ((hp.push (PySem.W.kdv_tup [])).push (PySem.HandSPX.excO C hp.objs.size)).get? (hp.objs.size + 1) = some (PySem.HandSPX.excO C hp.objs.size) := by heap_get
  have I2 : Inv X pins σ (upd H (hp.objs.size + 1) (exo (hp.objs.size + 1) C none)) ⟨(hp.push (PySem.W.kdv_tup [])).push (PySem.HandSPX.excO C hp.objs.size), g, dr, tk, os⟩ := I1.laid (t' := tk) kk (Nat.le_succ _) (exo_ok hget)
  have rm2 := rm.make C [] [(("line" : Str), .int i t)]
  refine wpAny_call (PySem.AMX.kw_call PySem.F.excBase_ValueError (fun Y => PySem.HandSPX.refsVE_contains Y bm hbm) (I1.kIn _ _ hC) (PySem.W.looks_findIn I1.kIn F.init) (fun self => PySem.W.bind_fn I1.kIn self F.tyI)
    (codeAny_mono (x1_run F hz hpar hT hi rm2.r.hd rm2.r.depth (I2.env0.make C _ _) upd_same (fun nm kV doc pm an ct => hb _ nm kV doc pm an ct)) fun r s' h' => ?_))
  obtain ⟨rfl, z⟩ := x1_back F.t I1 kk h' hq
  exact ⟨rfl, z⟩
end
/-! ### read off the written part -/
def oexB (K : PySem.W.Frag) (C : Addr) : Bool := (match K.lookup C with
  | some ⟨.type "type", _, .cls cd, sl⟩ => (match cd.mro, sl.toList with
    | .ref D :: bm, [_, _, _, _, some (.builtin n), _] => decide (D = C) && (decide (n = "ValueError.__new__") && (!cd.hasDel && (cd.hasDict && PySem.HandSPX.refsVE bm)))
    | _, _ => false)
  | _ => false) && (decide (PySem.W.findIn K (.ref C) "__setattr__" = some (some (.builtin "object.__setattr__"))) && (decide (PySem.W.subIn K (.ref C) (.type "BaseException") = some true) && (decide (PySem.W.typeIn K (.ref C) = some (.type "type")) && PySem.W.keepIn K (.ref C))))
theorem oexB_ok {K : PySem.W.Frag} {C : Addr} (h : oexB K C = true) : OexC K C := by
  obtain ⟨h1, h⟩ := ba2 h
  obtain ⟨h2, h⟩ := ba2 h
  obtain ⟨h3, h⟩ := ba2 h
  obtain ⟨h4, h5⟩ := ba2 h
  refine ⟨?_, of_decide_eq_true h2, of_decide_eq_true h3, of_decide_eq_true h4, h5⟩
  split at h1
  · rename_i dd cd sl look
    split at h1
    · rename_i D bm k0 k1 k2 k3 n k5 mro slots
      obtain ⟨c1, h1⟩ := ba2 h1
      obtain ⟨c2, h1⟩ := ba2 h1
      obtain ⟨c3, h1⟩ := ba2 h1
      obtain ⟨c4, c5⟩ := ba2 h1
      have c1 := of_decide_eq_true c1
      have c2 := of_decide_eq_true c2
      subst c1
      subst c2
      obtain ⟨nm, bs, m, ns, qn, hd, sn, sub, ab, col, del⟩ := cd
      dsimp only at mro c3 c4
      subst mro
      subst c4
      have c3 : del = false := by simpa using c3
      subst c3
      have es : sl = #[k0, k1, k2, k3, some (.builtin "ValueError.__new__"), k5] := by
        apply Array.ext'
        rw [slots]
      subst es
      exact ⟨nm, qn, ns, bs, bm, sn, sub, ab, col, dd, k0, k1, k2, k3, k5, look, c5⟩
    · cases h1
  · cases h1
def x1B (K : PySem.W.Frag) (d : X1D) (file : Str) : Bool := oexB K (He.ga K d.x) && (decide (PySem.W.findIn K (.ref (He.ga K d.x)) "__init__" = some (some (.ref (He.ma K (He.ga K d.x) "__init__")))) && (decide (PySem.W.typeIn K (.ref (He.ma K (He.ga K d.x) "__init__")) = some (.type "function")) &&
  ((match K.lookup (He.ma K (He.ga K d.x) "__init__") with
    | some ⟨_, _, .func fd, _⟩ => (match fd.closure, fd.code with
      | [(_, cc)], .ref cda => (match K.lookup cc with
        | some ⟨_, _, .cell (some (.ref D)), _⟩ => decide (D = He.ga K d.x)
        | _ => false) && (PySem.W.codeIn K (.ref cda) d.qual && (match K.lookup cda with
        | some ⟨_, _, .fields vs, _⟩ => (match (vs[2]? : Option Value) with
          | some (Value.str fl _) => decide (file = fl)
          | _ => false)
        | _ => false))
      | _, _ => false)
    | _ => false) &&
  (decide (PySem.W.nsIn K cStatics "thirdparty.any" = some none) && (decide (PySem.W.ks_superIn K (He.ga K d.x) (He.ga K d.x) "__init__" = some (some (.builtin "ValueError.__init__"))) && (decide (PySem.W.mroIn K (He.ga K d.x) (.ref (He.ga K d.x)) = some true) &&
  (decide (PySem.W.subIn K (.ref (He.ga K d.x)) (.type "ValueError") = some true) && decide (PySem.W.findIn K (.ref (He.ga K d.x)) "line" = some none))))))))
theorem x1F_of {P : Program} {K : PySem.W.Frag} {mg : Str → Option Value} {d : X1D} {file : Str} (e : fnC K d.x = d.val) (b : x1B K d file = true) (hf : P.main.file = file) (top : (P.main.scope.names.lookup ("super" : Str)).isSome = false) (sup : mg "super" = none) :
    ∃ cc cda, X1F P K mg (He.ga K d.x) (He.ma K (He.ga K d.x) "__init__") cc cda d.params d.body d.scope d.qual := by
  obtain ⟨b1, b⟩ := ba2 b
  obtain ⟨b2, b⟩ := ba2 b
  obtain ⟨b3, b⟩ := ba2 b
  obtain ⟨b4, b⟩ := ba2 b
  obtain ⟨b5, b⟩ := ba2 b
  obtain ⟨b6, b⟩ := ba2 b
  obtain ⟨b7, b⟩ := ba2 b
  obtain ⟨b8, b9⟩ := ba2 b
  unfold fnC at e
  cases lk : K.lookup (He.ma K (He.ga K d.x) "__init__") with
  | none => rw [lk] at b4; cases b4
  | some o =>
    obtain ⟨oc, od, dt, osl⟩ := o
    rw [lk] at b4 e
    cases dt with
    | func fd =>
      obtain ⟨n1, n2, n3, n4, n5, n6, n7, n8, n9, n10, n11, n12, n13, n14, n15⟩ := fd
      have e2 : (some (n2, n3, n4, n5, n6, n7.map (·.1), n8, n15) : FnC) = (some (d.qual, d.params, .stmts d.body, d.scope, mainGlobals, ["__class__"], .none, builtinsNs) : FnC) := e
      simp only [Option.some.injEq, Prod.mk.injEq] at e2
      obtain ⟨g2, g3, g4, g5, g6, g7, g8, g9⟩ := e2
      subst g2 g3 g4 g5 g6 g8 g9
      rcases n7 with _ | ⟨⟨nm, cc⟩, _ | ⟨_, _⟩⟩
      · cases n13 <;> cases b4
      · obtain ⟨cda, rfl⟩ : ∃ cda, n13 = .ref cda := by
          cases n13 with
          | ref a => exact ⟨a, rfl⟩
          | _ => cases b4
        simp only [List.map_cons, List.map_nil, List.cons.injEq, and_true] at g7
        subst g7
        obtain ⟨c1, b4⟩ := ba2 b4
        obtain ⟨c2, c3⟩ := ba2 b4
        refine ⟨cc, cda, oexB_ok b1, of_decide_eq_true b2, of_decide_eq_true b3, ⟨oc, od, _, _, _, _, _, osl, _, lk⟩, c2, ?_, ?_, sup, of_decide_eq_true b5, of_decide_eq_true b6, top, of_decide_eq_true b7, of_decide_eq_true b8, of_decide_eq_true b9⟩
        · cases l3 : K.lookup cda with
          | none => rw [l3] at c3; cases c3
          | some o3 =>
            obtain ⟨x1, x2, x3, x4⟩ := o3
            rw [l3] at c3
            cases x3 with
            | fields vs =>
              simp only at c3
              split at c3
              · rename_i fl tk hv
                have c3 := of_decide_eq_true c3
                exact ⟨x1, x2, vs, x4, fl, tk, rfl, hv, by rw [hf, c3]; simp⟩
              · cases c3
            | _ => cases c3
        · cases l3 : K.lookup cc with
          | none => rw [l3] at c1; cases c1
          | some o3 =>
            obtain ⟨x1, x2, x3, x4⟩ := o3
            rw [l3] at c1
            cases x3 with
            | cell v =>
              split at c1
              · rename_i c v D heq
                cases heq
                have c1 := of_decide_eq_true c1
                subst c1
                exact ⟨_, _, _, rfl⟩
              · cases c1
            | _ => cases c1
      · cases n13 <;> cases b4
    | _ => cases b4
end AM
namespace AM
open PySem PySem.Spec PyProof.Rows L2
/-- the j-th statement of a class's body -/
def clsDef (st : Stmt) (j : Nat) : Stmt := match st with
  | .ClassDef _ _ _ body _ _ _ _ _ _ _ => body.getD j (.Pass ⟨0, 0, 0, 0⟩)
  | _ => .Pass ⟨0, 0, 0, 0⟩
/-- what the text of such an __init__ must be -/
structure X1Text (d : X1D) : Prop where
  body : ∃ z p0 p1 p2 p3 p4 p5 p6 p7 p8 p9 p10 p11 p12, d.body = x1body z p0 p1 p2 p3 p4 p5 p6 p7 p8 p9 p10 p11 p12 ∧ z.length ≤ 100 ∧ X1T z p0 p1 p2 p3 p4 p5 p6 p7
  scope : d.scope = x1sc
  par : ∃ ar : Arg, (d.params.posonlyargs ++ d.params.args).head? = some ar ∧ ar.arg = ("self" : Str)
  bind : ∀ q b sc cda cc a i t nm kV doc pm an ct, bindArgs (PySem.W.ksFn nm q d.params b sc .none kV doc pm an (.ref cda) ct cc) ⟨[.ref a, .int i t], []⟩ = pure [(("self" : Str), Value.ref a), ("line", .int i t)]
  bindK : ∀ q b sc cda cc a i t nm kV doc pm an ct, bindArgs (PySem.W.ksFn nm q d.params b sc .none kV doc pm an (.ref cda) ct cc) ⟨[.ref a], [(("line" : Str), .int i t)]⟩ = pure [(("self" : Str), Value.ref a), ("line", .int i t)]
theorem x1_both {P : Program} {w : World} {K : PySem.W.Frag} {mg : Str → Option Value} {base : Heap} {C f cc cda : Addr} {d : X1D} (F : X1F P K mg C f cc cda d.params d.body d.scope d.qual) (T : X1Text d) : X1Ok P w K mg base C ∧ X1OkK P w K mg base C "line" := by
  obtain ⟨z, p0, p1, p2, p3, p4, p5, p6, p7, p8, p9, p10, p11, p12, hb, hz, hT⟩ := T.body
  have hs := T.scope
  have kp := F.t.kC
  refine ⟨⟨kp, ?_⟩, kp, ?_⟩
  · intro X k N sc fs c pins σ s H i t Q hi I hq
    obtain ⟨c1, c2, c3, c4, c5, rm, _, _, _, _, _⟩ := c
    subst c1 c3 c4
    rw [hb, hs] at F
    exact x1_make F hz T.par hT rm (fun a nm kV doc pm an ct => T.bind _ _ _ _ _ _ _ _ _ _ _ _ _ _) hi I hq
  · intro X k N sc fs c pins σ s H i t Q hi I hq
    obtain ⟨c1, c2, c3, c4, c5, rm, _, _, _, _, _⟩ := c
    subst c1 c3 c4
    rw [hb, hs] at F
    exact x1_makeK F hz T.par hT rm (fun a nm kV doc pm an ct => T.bindK _ _ _ _ _ _ _ _ _ _ _ _ _ _) hi I hq
end AM
/-! text AmH2 -/
set_option Elab.async false
set_option linter.all false
set_option maxRecDepth 100000
set_option maxHeartbeats 400000
/-! AmH2: constants of the module; the catching of classes. -/
namespace AM
open PySem PySem.Spec PyProof.Rows L2
section
variable {K : PySem.W.Frag} {mg : Str → Option Value} {h : Heap} {ca : Ca} {x : Str}
theorem con_int {i : Int} (X : K.In h) (G : h.Ns mainGlobals mg) (c : (He.Fa.int x i).ok K = true) : ConstOk K mg ca x (.int i) := by
  obtain ⟨t, e⟩ := He.int_ok X G c
  exact ⟨.int i, _, e, ⟨t, rfl⟩, fun _ _ _ _ => .int i⟩
theorem con_str {z : Str} (X : K.In h) (G : h.Ns mainGlobals mg) (c : (He.Fa.str x z).ok K = true) : ConstOk K mg ca x (.str z) := by
  obtain ⟨t, e⟩ := He.str_ok X G c
  exact ⟨.str z, _, e, ⟨t, rfl⟩, fun _ _ _ _ => .str z⟩
theorem rws_strs {F : Fx} {Z : Addr → Prop} {H : Hp} {v : He.Dv → V} (hv : ∀ z, v (.str z) = .str z) : ∀ zs : List Str, RWs F Z H (zs.map W.str) ((zs.map He.Dv.str).map v)
  | [] => .nil
  | z :: zs => by
    rw [List.map_cons, List.map_cons, List.map_cons, hv]
    exact .cons (.str z) (rws_strs hv zs)
/-- a tuple of texts -/
theorem con_strs {zs : List Str} (X : K.In h) (G : h.Ns mainGlobals mg) (c : (He.Fa.glo x).ok K = true) (t : He.tupB K x (zs.map He.Dv.str) = true) (hl : zs.length ≤ sizeLine) : ConstOk K mg ca x (.tup (zs.map W.str)) :=
  ⟨.ref (He.ga K x), _, He.glo_ok X G c, rfl, fun P w Z H => .tup (.inr (He.tupB_ok t fun _ => none)) (by simpa using hl) (rws_strs (fun _ => rfl) zs)⟩
end
/-- what an except of the class c catches -/
def exmB (K : PySem.W.Frag) (ca : Nat → Addr) (T : Tab) (c : Nat) : Bool := (List.range T.n).all fun d => !T.exc d || decide (PySem.W.exmOne K (.ref (ca d)) (.ref (ca c)) = some (T.sub d c))
theorem exmB_ok {K : PySem.W.Frag} {ca : Nat → Addr} {T : Tab} {c : Nat} (h : exmB K ca T c = true) : ∀ d, d < T.n → T.exc d = true → PySem.W.exmOne K (.ref (ca d)) (.ref (ca c)) = some (T.sub d c) := fun d hd e => by
  have q := List.all_eq_true.mp h d (List.mem_range.mpr hd)
  rw [e] at q
  simpa using q
end AM
/-! text K01m -/
set_option Elab.async false
set_option linter.all false
set_option maxRecDepth 100000
set_option maxHeartbeats 4000000
namespace AM.K01
open PySem
def T : Tab := ⟨fun _ _ => none, fun _ _ => none, fun d c => match d with
  | 0 => decide (c ∈ ([0] : List Nat))
  | 1 => decide (c ∈ ([1, 0] : List Nat))
  | _ => false, 2, fun c => decide (c ∈ ([0, 1] : List Nat))⟩
def c_LETTERS : W := .str "abcdefghijklmnopqrstuvwxyz"
def c_RESERVED : W := .tup [.str "then", .str "or", .str "more"]
def c_MOST_LETTERS : W := .int 8
def N11 : List Str := ["_law_act", "_law_caught", "e"]
def G11 (F : Fn) : (Bx → Res) → Bx → Res := wordF T 0 2 1 3 (cSeq [cAsg (.nm 1) (eVar 2)]) (cSeq [cIf (eOp [eVar 1, eC .non] (opCmp .isN)) (cSeq [cRet (eC (.str ""))]) (cPass),
    cRet (eIf (eAnd [eOp [eVar 1] (opIsC T 1), eOp [eVar 1] (opIsVE T)]) (eC (.str "path")) (eC (.str "odd")))])
def N0 : List Str := ["thing", "letter"]
def b0 (F : Fn) : C := cSeq [cIf (eOr [eNot (eOp [eVar 0] (opIsTy T .str)), eNot (eChain .le .le (eC (.int 1)) (eFn [(false, eVar 0)] opLen) (eC c_MOST_LETTERS)), eOp [eVar 0, eC c_RESERVED] (opCmp .isin)]) (cSeq [cRet (eC (.bl false))]) (cPass),
    cRet (eFn [(false, eLc false [1] [⟨.nm 1, iPlain (eVar 0), []⟩] (eOp [eVar 1, eC c_LETTERS] (opCmp .isin)))] opAll)]
def N1 : List Str := ["thing", "name"]
def b1 (F : Fn) : C := cSeq [cRet (eAnd [eOp [eVar 0] (opIsTy T .tuple), eOp [eFn [(false, eVar 0)] opLen, eC (.int 1)] (opCmp .ge), eFn [(false, eLc false [1] [⟨.nm 1, iPlain (eVar 0), []⟩] (eFn [(false, eVar 1)] (opCall F 0 false)))] opAll])]
def N2 : List Str := ["thing"]
def b2 (F : Fn) : C := cSeq [cIf (eNot (eFn [(false, eVar 0)] (opCall F 1 false))) (cSeq [cRaise 1 (eC (.str "a path is a tuple of at least one name"))]) (cPass)]
def N3 : List Str := ["path", "other"]
def b3 (F : Fn) : C := cSeq [cRet (eIf (eOp [eCut false (eVar 0) none (some (eFn [(false, eVar 1)] opLen)), eVar 1] (opCmp .eq)) (eCut false (eVar 0) (some (eFn [(false, eVar 1)] opLen)) none) (eC .non))]
def N4 : List Str := ["path", "other"]
def b4 (F : Fn) : C := cSeq [cExp (eFn [(false, eVar 0)] (opCall F 2 false)),
    cExp (eFn [(false, eVar 1)] (opCall F 2 false)),
    cRet (eFn [(false, eVar 0), (false, eVar 1)] (opCall F 3 false))]
def N5 : List Str := ["paths", "found", "path"]
def b5 (F : Fn) : C := cSeq [cAsg (.nm 1) (eDc false [2] [⟨.nm 2, iPlain (eVar 0), []⟩] (eVar 2) (eC (.bl true))),
    cRet (eFn [(false, eFn [(false, eVar 1)] (opList false))] (opSortLen true))]
def N6 : List Str := ["paths", "path"]
def b6 (F : Fn) : C := cSeq [cIf (eOr [eNot (eOp [eVar 0] (opIsTy T .list)), eNot (eFn [(false, eLc false [1] [⟨.nm 1, iPlain (eVar 0), []⟩] (eFn [(false, eVar 1)] (opCall F 1 false)))] opAll)]) (cSeq [cRaise 1 (eC (.str "the object is not a list of paths"))]) (cPass),
    cRet (eFn [(false, eVar 0)] (opCall F 5 true))]
def N7 : List Str := ["_law_script"]
def b7 (F : Fn) : C := cSeq [cRet (eLst true [(false, eFn [(false, eCut false (eVar 0) none (some (eC (.int 60))))] (opList false)), (false, eC (.int 0)), (false, eC (.int 0))])]
def N8 : List Str := ["_law_pen_here", "_law_index", "_law_cell_here", "_law_some_here", "_law_more", "_law_high"]
def b8 (F : Fn) : C := cSeq [cAsg (.nm 1) (eOp [eVar 0, eC (.int 1)] opIdx),
    cSet (eVar 0) (eC (.int 1)) (eOp [eVar 1, eC (.int 1)] (opBin .add false)),
    cAsg (.nm 2) (eOp [eOp [eVar 1, eC (.int 1051)] (opBin .mul false), eC (.int 53)] (opBin .add false)),
    cIf (eOp [eOp [eVar 0, eC (.int 0)] opIdx, eLst false []] (opCmp .ne)) (cSeq [cAsg (.nm 2) (eOp [eOp [eVar 0, eC (.int 0)] opIdx, eOp [eFn [(false, eVar 1)] opInt, eFn [(false, eOp [eVar 0, eC (.int 0)] opIdx)] opLen] (opBin .mod false)] opIdx)]) (cPass),
    cIf (eAnd [eOp [eVar 1, eFn [(false, eOp [eVar 0, eC (.int 0)] opIdx)] opLen] (opCmp .lt), eOp [eVar 2, eOp [eC (.int 10), eC (.int 18)] (opBin .pow false)] (opCmp .ge)]) (cSeq [cRet (eVar 2)]) (cPass),
    cAsg (.nm 3) (eOp [eFn [(false, eOp [eOp [eOp [eFn [(false, eVar 2)] opInt, eC (.int 2147483587)] (opBin .mod false), eOp [eVar 1, eC (.int 30103)] (opBin .mul false)] (opBin .add false), eC (.int 79)] (opBin .add false))] opInt, eC (.int 2147483587)] (opBin .mod false)),
    cAsg (.nm 4) (eOp [eFn [(false, eOp [eOp [eOp [eVar 3, eVar 3] (opBin .mul false), eOp [eVar 1, eC (.int 70039)] (opBin .mul false)] (opBin .add false), eC (.int 61)] (opBin .add false))] opInt, eC (.int 2147483563)] (opBin .mod false)),
    cAsg (.nm 5) (eOp [eFn [(false, eOp [eOp [eOp [eVar 4, eVar 4] (opBin .mul false), eVar 3] (opBin .add false), eOp [eOp [eVar 1, eVar 1] (opBin .mul false), eC (.int 37)] (opBin .mul false)] (opBin .add false))] opInt, eC (.int 2147483549)] (opBin .mod false)),
    cRet (eOp [eOp [eOp [eOp [eVar 5, eC (.int 2147483587)] (opBin .mul false), eVar 4] (opBin .add false), eC (.int 2147483563)] (opBin .mul false), eVar 3] (opBin .add false))]
def N9 : List Str := ["_law_pen_here", "_law_under", "_law_digit"]
def b9 (F : Fn) : C := cSeq [cIf (eOp [eOp [eVar 0, eC (.int 2)] opIdx, eVar 1] (opCmp .lt)) (cSeq [cSet (eVar 0) (eC (.int 2)) (eFn [(false, eVar 0)] (opCall F 8 false))]) (cPass),
    cAsg (.nm 2) (eOp [eFn [(false, eOp [eVar 0, eC (.int 2)] opIdx)] opInt, eVar 1] (opBin .mod false)),
    cSet (eVar 0) (eC (.int 2)) (eOp [eOp [eVar 0, eC (.int 2)] opIdx, eVar 1] (opBin .fdiv false)),
    cRet (eVar 2)]
def N10 : List Str := ["_law_pen_here", "_law_pool", "_law_most", "_law_rest", "_law_turn"]
def b10 (F : Fn) : C := cSeq [cAsg (.nm 3) (eFn [(false, eVar 1)] (opList true)),
    cRet (eLc false [4] [⟨.nm 4, iRange1 (eFn [(false, eVar 0), (false, eOp [eFn [(false, eVar 2), (false, eFn [(false, eVar 3)] opLen)] opMin2, eC (.int 1)] (opBin .add false))] (opCall F 9 false)), []⟩] (eMt false (eVar 3) [(false, eFn [(false, eVar 0), (false, eFn [(false, eVar 3)] opLen)] (opCall F 9 false))] opPopAt))]
def N12 : List Str := ["_law_thing", "_law_sign"]
def b12 (F : Fn) : C := cSeq [cIf (eOr [eNot (eOp [eVar 0] (opIsTy T .str)), eNot (eChain .le .le (eC (.int 1)) (eFn [(false, eVar 0)] opLen) (eC (.int 8))), eOp [eVar 0, eTup [(false, eC (.str "then")), (false, eC (.str "or")), (false, eC (.str "more"))]] (opCmp .isin)]) (cSeq [cRet (eC (.bl false))]) (cPass),
    cRet (eFn [(false, eLc false [1] [⟨.nm 1, iPlain (eVar 0), []⟩] (eOp [eVar 1, eC (.str "abcdefghijklmnopqrstuvwxyz")] (opCmp .isin)))] opAll)]
def N13 : List Str := ["_law_thing", "_law_one"]
def b13 (F : Fn) : C := cSeq [cRet (eAnd [eOp [eVar 0] (opIsTy T .tuple), eOp [eFn [(false, eVar 0)] opLen, eC (.int 0)] (opCmp .gt), eFn [(false, eLc false [1] [⟨.nm 1, iPlain (eVar 0), []⟩] (eFn [(false, eVar 1)] (opCall F 12 false)))] opAll])]
def N14 : List Str := ["_law_pen_here", "_law_odd_here"]
def b14 (F : Fn) : C := cSeq [cAsg (.nm 1) (eLst false [(false, eC (.str "")), (false, eC (.str "abcdefghi")), (false, eC (.str "A")), (false, eC (.str "aB")), (false, eC (.str "a1")), (false, eC (.str "7")), (false, eC (.str "then")), (false, eC (.str "or")), (false, eC (.str "more")), (false, eC (.str "a b")), (false, eC (.str "a_")), (false, eC (.str "a\n")), (false, eC .non), (false, eC (.int 1)), (false, eC (.bl true)), (false, eTup [(false, eC (.str "a"))]), (false, eTup [])]),
    cAsg (.nm 1) (eOp [eVar 1, eLst false [(false, eLst false []), (false, eDct false []), (false, eLst false [(false, eC (.str "a"))]), (false, eOp [eC (.int 10), eC (.int 39)] (opBin .pow false)), (false, eC (.str "thens")), (false, eC (.str "orb")), (false, eC (.str "mor")), (false, eC (.str "abcdefgh")), (false, eC (.str "y")), (false, eC (.str "within")), (false, eC (.str "void")), (false, eC (.str "all")), (false, eC (.str "up")), (false, eC (.str "next"))]] (opBin .add false)),
    cRet (eOp [eVar 1, eFn [(false, eVar 0), (false, eC (.int 31))] (opCall F 9 false)] opIdx)]
def N15 : List Str := ["_law_pen_here", "_law_size", "_law_turn"]
def b15 (F : Fn) : C := cSeq [cAsg (.nm 1) (eOp [eC (.int 1), eFn [(false, eVar 0), (false, eOp [eLst false [(false, eC (.int 2)), (false, eC (.int 3)), (false, eC (.int 4))], eFn [(false, eVar 0), (false, eC (.int 3))] (opCall F 9 false)] opIdx)] (opCall F 9 false)] (opBin .add false)),
    cRet (eFn [(false, eLc false [2] [⟨.nm 2, iRange1 (eVar 1), []⟩] (eOp [eLst false [(false, eC (.str "a")), (false, eC (.str "b")), (false, eC (.str "up")), (false, eC (.str "next"))], eFn [(false, eVar 0), (false, eC (.int 4))] (opCall F 9 false)] opIdx))] opTuple)]
def N16 : List Str := ["_law_pen_here", "_law_one", "_law_spot", "_law_road"]
def b16 (F : Fn) : C := cSeq [cPar 2 3 (eFn [(false, eVar 0), (false, eFn [(false, eVar 1)] opLen)] (opCall F 9 false)) (eFn [(false, eVar 0), (false, eC (.int 4))] (opCall F 9 false)),
    cIf (eOp [eVar 3, eC (.int 0)] (opCmp .eq)) (cSeq [cRet (eOp [eLst false [(false, eTup []), (false, eFn [(false, eVar 1)] (opList false)), (false, eC .non), (false, eC (.str "up")), (false, eDct false []), (false, eC (.int 0)), (false, eTup [(false, eVar 1)]), (false, eLst false [(false, eVar 1)]), (false, eOp [eVar 1, eTup [(false, eTup [])]] (opBin .add false))], eFn [(false, eVar 0), (false, eC (.int 9))] (opCall F 9 false)] opIdx)]) (cPass),
    cRet (eOp [eOp [eCut false (eVar 1) none (some (eVar 2)), eTup [(false, eFn [(false, eVar 0)] (opCall F 14 false))]] (opBin .add false), eCut false (eVar 1) (some (eOp [eVar 2, eFn [(false, eOp [eVar 3, eC (.int 1)] (opCmp .gt))] opInt] (opBin .add false))) none] (opBin .add false))]
def N17 : List Str := ["_law_pen_here", "_law_one", "_law_two", "_law_first", "_law_second", "_law_due", "_law_bent_here", "_law_seen"]
def b17 (F : Fn) : C := cSeq [cAsg (.tp [(.nm 1), (.nm 2)]) (eTup [(false, eFn [(false, eVar 0)] (opCall F 15 false)), (false, eFn [(false, eVar 0)] (opCall F 15 false))]),
    cIf (eOp [eFn [(false, eVar 0), (false, eC (.int 2))] (opCall F 9 false), eC (.int 0)] (opCmp .eq)) (cSeq [cAsg (.nm 2) (eCut false (eVar 1) none (some (eOp [eC (.int 1), eFn [(false, eVar 0), (false, eFn [(false, eVar 1)] opLen)] (opCall F 9 false)] (opBin .add false))))]) (cPass),
    cFor (.tp [(.nm 3), (.nm 4)]) (iPlain (eTup [(false, eTup [(false, eVar 1), (false, eVar 2)]), (false, eTup [(false, eVar 2), (false, eVar 1)]), (false, eTup [(false, eVar 1), (false, eVar 1)]), (false, eTup [(false, eOp [eVar 1, eVar 2] (opBin .add false)), (false, eVar 1)])])) (cSeq [cAsg (.nm 5) (eIf (eOp [eCut false (eVar 3) none (some (eFn [(false, eVar 4)] opLen)), eVar 4] (opCmp .eq)) (eCut false (eVar 3) (some (eFn [(false, eVar 4)] opLen)) none) (eC .non)),
    cIf (eOp [eFn [(false, eFn [(false, eVar 3), (false, eVar 4)] (opCall F 4 false))] opRepr, eFn [(false, eVar 5)] opRepr] (opCmp .ne)) (cSeq [cRet (eC (.bl false))]) (cPass)]),
    cAsg (.nm 6) (eFn [(false, eVar 0), (false, eVar 1)] (opCall F 16 false)),
    cAsg (.nm 5) (eIf (eFn [(false, eVar 6)] (opCall F 13 false)) (eC (.str "")) (eC (.str "path"))),
    cAsg (.nm 7) (eFn [(false, eVar 6)] opRepr),
    cIf (eOp [eWord (G11 F) (eFn [(false, eVar 6), (false, eVar 2)] (opCall F 4 false)), eVar 5] (opCmp .ne)) (cSeq [cRet (eC (.bl false))]) (cPass),
    cIf (eOp [eWord (G11 F) (eFn [(false, eVar 2), (false, eVar 6)] (opCall F 4 false)), eVar 5] (opCmp .ne)) (cSeq [cRet (eC (.bl false))]) (cPass),
    cRet (eAnd [eOp [eFn [(false, eFn [(false, eVar 6)] (opCall F 1 false))] opRepr, eFn [(false, eOp [eVar 5, eC (.str "")] (opCmp .eq))] opRepr] (opCmp .eq), eOp [eFn [(false, eVar 6)] opRepr, eVar 7] (opCmp .eq)])]
def N18 : List Str := ["_law_pen_here", "_law_lot", "_law_due", "_law_seen", "_law_again", "_law_found", "_law_bent_here", "_law_things", "_law_thing", "_law_is_fine", "_law_turn", "_law_one", "_law_way_here"]
def b18 (F : Fn) : C := cSeq [cAsg (.nm 1) (eLc false [10] [⟨.nm 10, iRange1 (eFn [(false, eVar 0), (false, eC (.int 7))] (opCall F 9 false)), []⟩] (eFn [(false, eVar 0)] (opCall F 15 false))),
    cAsg (.nm 1) (eOp [eVar 1, eFn [(false, eVar 0), (false, eVar 1), (false, eC (.int 3))] (opCall F 10 false)] (opBin .add false)),
    cPar 2 3 (eFn [(false, eVar 1)] (opSSet false)) (eFn [(false, eVar 1)] opRepr),
    cAsg (.nm 2) (eLc false [11] [⟨.nm 11, iPlain (eFn [(false, eLc false [12] [⟨.nm 12, iPlain (eVar 2), []⟩] (eTup [(false, eFn [(false, eVar 12)] opLen), (false, eVar 12)]))] (opSorted false)), []⟩] (eOp [eVar 11, eC (.int 1)] opIdx)),
    cFor (.nm 4) (iRange1 (eC (.int 2))) (cSeq [cAsg (.nm 5) (eFn [(false, eVar 1)] (opCall F 6 true)),
    cIf (eOr [eOp [eFn [(false, eVar 5)] opRepr, eFn [(false, eVar 2)] opRepr] (opCmp .ne), eOp [eFn [(false, eVar 1)] opRepr, eVar 3] (opCmp .ne)]) (cSeq [cRet (eC (.bl false))]) (cPass),
    cExp (eMt false (eVar 5) [(false, eC .non)] opAppend)]),
    cAsg (.nm 6) (eFn [(false, eVar 0), (false, eFn [(false, eVar 0)] (opCall F 15 false))] (opCall F 16 false)),
    cAsg (.nm 7) (eLst false [(false, eC .non), (false, eFn [(false, eVar 1)] opTuple), (false, eDct false []), (false, eC (.str "up")), (false, eC (.int 0)), (false, eOp [eVar 1, eLst false [(false, eVar 6)]] (opBin .add false)), (false, eOp [eLst false [(false, eVar 6)], eVar 1] (opBin .add false)), (false, eLst false [(false, eC .non)]), (false, eOp [eOp [eCut false (eVar 1) none (some (eC (.int 1))), eLst false [(false, eVar 6)]] (opBin .add false), eVar 1] (opBin .add false))]),
    cFor (.nm 8) (iPlain (eOp [eVar 7, eLst false [(false, eLst false [(false, eTup [(false, eC (.str "up"))]), (false, eVar 6), (false, eTup [(false, eC (.str "up"))])])]] (opBin .add false))) (cSeq [cPar 9 3 (eAnd [eOp [eVar 8] (opIsTy T .list), eFn [(false, eLc false [11] [⟨.nm 11, iPlain (eVar 8), []⟩] (eFn [(false, eVar 11)] (opCall F 13 false)))] opAll]) (eFn [(false, eVar 8)] opRepr),
    cIf (eOr [eOp [eWord (G11 F) (eFn [(false, eVar 8)] (opCall F 6 true)), eIf (eVar 9) (eC (.str "")) (eC (.str "path"))] (opCmp .ne), eOp [eFn [(false, eVar 8)] opRepr, eVar 3] (opCmp .ne)]) (cSeq [cRet (eC (.bl false))]) (cPass)]),
    cRet (eC (.bl true))]
def N19 : List Str := ["_law_sign", "_law_signs", "_law_words_here", "_law_word_here"]
def b19 (F : Fn) : C := cSeq [cFor (.nm 0) (iPlain (eC (.str "abcdefghijklmnopqrstuvwxyz"))) (cSeq [cIf (eOp [eFn [(false, eLst false [(false, eFn [(false, eVar 0)] (opCall F 0 false)), (false, eFn [(false, eOp [eOp [eC (.str "x"), eVar 0] (opBin .add false), eC (.str "x")] (opBin .add false))] (opCall F 0 false)), (false, eFn [(false, eTup [(false, eVar 0)])] (opCall F 1 false))])] opRepr, eC (.str "[True, True, True]")] (opCmp .ne)) (cSeq [cRet (eC (.bl false))]) (cPass)]),
    cAsg (.nm 1) (eC (.str " !#$&'()*+,-./0123456789:;<=>?@ABCDEFGHIJKLMNOPQRSTUVWXYZ[]^_{|}~\t\n")),
    cFor (.nm 0) (iPlain (eOp [eVar 1, eC (.str "\"")] (opBin .add false))) (cSeq [cIf (eOp [eFn [(false, eLst false [(false, eFn [(false, eVar 0)] (opCall F 0 false)), (false, eFn [(false, eOp [eC (.str "a"), eVar 0] (opBin .add false))] (opCall F 0 false)), (false, eFn [(false, eOp [eVar 0, eC (.str "a")] (opBin .add false))] (opCall F 0 false))])] opRepr, eC (.str "[False, False, False]")] (opCmp .ne)) (cSeq [cRet (eC (.bl false))]) (cPass)]),
    cAsg (.nm 2) (eLst false [(false, eC (.str "step")), (false, eC (.str "none")), (false, eC (.str "things")), (false, eC (.str "job")), (false, eC (.str "quick")), (false, eC (.str "open"))]),
    cRet (eOp [eFn [(false, eLc false [3] [⟨.nm 3, iPlain (eVar 2), []⟩] (eFn [(false, eVar 3)] (opCall F 0 false)))] opRepr, eFn [(false, eOp [eLst false [(false, eC (.bl true))], eC (.int 6)] (opBin .mul false))] opRepr] (opCmp .eq))]
def N20 : List Str := ["_law_script", "_law_pen_here", "_law_turn", "_law_thing"]
def b20 (F : Fn) : C := cSeq [cAsg (.nm 1) (eFn [(false, eVar 0)] (opCall F 7 true)),
    cIf (eNot (eFn [] (opCall F 19 false))) (cSeq [cRet (eC (.bl false))]) (cPass),
    cFor (.nm 2) (iRange1 (eC (.int 8))) (cSeq [cAsg (.nm 3) (eFn [(false, eVar 1)] (opCall F 14 false)),
    cIf (eOr [eOp [eFn [(false, eFn [(false, eVar 3)] (opCall F 0 false))] opRepr, eFn [(false, eFn [(false, eVar 3)] (opCall F 12 false))] opRepr] (opCmp .ne), eOp [eFn [(false, eFn [(false, eTup [(false, eVar 3)])] (opCall F 1 false))] opRepr, eFn [(false, eFn [(false, eVar 3)] (opCall F 12 false))] opRepr] (opCmp .ne)]) (cSeq [cRet (eC (.bl false))]) (cPass),
    cIf (eOr [eNot (eFn [(false, eVar 1)] (opCall F 17 false)), eNot (eFn [(false, eVar 1)] (opCall F 18 false))]) (cSeq [cRet (eC (.bl false))]) (cPass)]),
    cRet (eC (.bl true))]
def fns : Nat → Fn
  | 0 => fun _ _ _ => .stuck
  | d + 1 => fun f => match f with
    | 0 => runF 1 2 (b0 (fns d))
    | 1 => runF 1 2 (b1 (fns d))
    | 2 => runF 1 1 (b2 (fns d))
    | 3 => runF 2 2 (b3 (fns d))
    | 4 => runF 2 2 (b4 (fns d))
    | 5 => runF 1 3 (b5 (fns d))
    | 6 => runF 1 2 (b6 (fns d))
    | 7 => runF 1 1 (b7 (fns d))
    | 8 => runF 1 6 (b8 (fns d))
    | 9 => runF 2 3 (b9 (fns d))
    | 10 => runF 3 5 (b10 (fns d))
    | 12 => runF 1 2 (b12 (fns d))
    | 13 => runF 1 2 (b13 (fns d))
    | 14 => runF 1 2 (b14 (fns d))
    | 15 => runF 1 3 (b15 (fns d))
    | 16 => runF 2 4 (b16 (fns d))
    | 17 => runF 1 8 (b17 (fns d))
    | 18 => runF 1 13 (b18 (fns d))
    | 19 => runF 0 4 (b19 (fns d))
    | 20 => runF 1 4 (b20 (fns d))
    | _ => fun _ _ => .stuck
end AM.K01
/-! text K01g -/
set_option Elab.async false
set_option linter.all false
set_option maxRecDepth 100000
set_option maxHeartbeats 4000000
namespace AM.K01
open PySem PySem.Spec PyProof.Rows L2
def top (i : Nat) : Stmt := PySem.Challenge.pw_rootpaths_k01_names_and_paths.main.body.getD i (.Pass ⟨0, 0, 0, 0⟩)
structure Gl0 (P : Program) (w : World) (K : PySem.W.Frag) (mg : Str → Option Value) (base : Heap) (ca : Ca) : Prop where
  tab : TabOk K ca T
  sys : ∃ o, K.lookup sysModules = some o ∧ o.cls ≠ .type "list"
  f_ValueError : mg "ValueError" = none
  f_all : mg "all" = none
  f_int : mg "int" = none
  f_isinstance : mg "isinstance" = none
  f_len : mg "len" = none
  f_list : mg "list" = none
  f_min : mg "min" = none
  f_range : mg "range" = none
  f_repr : mg "repr" = none
  f_set : mg "set" = none
  f_sorted : mg "sorted" = none
  f_str : mg "str" = none
  f_tuple : mg "tuple" = none
  k_PathError : mg "PathError" = some (.ref (ca 0))
  k_InvalidPath : mg "InvalidPath" = some (.ref (ca 1))
  e_InvalidPath : ExC0 K (ca 1)
  g_LETTERS : ConstOk K mg ca "LETTERS" c_LETTERS
  g_RESERVED : ConstOk K mg ca "RESERVED" c_RESERVED
  g_MOST_LETTERS : ConstOk K mg ca "MOST_LETTERS" c_MOST_LETTERS
  xm_PathError : ∀ d, d < T.n → T.exc d = true → PySem.W.exmOne K (.ref (ca d)) (.ref (ca 0)) = some (T.sub d 0)
  t_ordered : TabF K mg base ca "ordered"
  t__law_rests_right : TabF K mg base ca "_law_rests_right"
  t__law_orders_right : TabF K mg base ca "_law_orders_right"
structure Fs (P : Program) (w : World) (K : PySem.W.Frag) (mg : Str → Option Value) (base : Heap) (ca : Ca) (k : Nat) (F : Fn) : Prop where
  f0 : FunOk P w K mg base ca k (F 0) 1 "is_name"
  f1 : FunOk P w K mg base ca k (F 1) 1 "is_path"
  f2 : FunOk P w K mg base ca k (F 2) 1 "check_path"
  f3 : FunOk P w K mg base ca k (F 3) 2 "rest_of"
  f4 : FunOk P w K mg base ca k (F 4) 2 "rest_behind"
  f5 : FunOk P w K mg base ca k (F 5) 1 "ordered"
  f6 : FunOk P w K mg base ca k (F 6) 1 "in_order"
  f7 : FunOk P w K mg base ca k (F 7) 1 "_law_pen"
  f8 : FunOk P w K mg base ca k (F 8) 1 "_law_next"
  f9 : FunOk P w K mg base ca k (F 9) 2 "_law_draw"
  f10 : FunOk P w K mg base ca k (F 10) 3 "_law_some"
  f12 : FunOk P w K mg base ca k (F 12) 1 "_law_is_word"
  f13 : FunOk P w K mg base ca k (F 13) 1 "_law_is_way"
  f14 : FunOk P w K mg base ca k (F 14) 1 "_law_odd"
  f15 : FunOk P w K mg base ca k (F 15) 1 "_law_way"
  f16 : FunOk P w K mg base ca k (F 16) 2 "_law_bent"
  f17 : FunOk P w K mg base ca k (F 17) 1 "_law_rests_right"
  f18 : FunOk P w K mg base ca k (F 18) 1 "_law_orders_right"
  f19 : FunOk P w K mg base ca k (F 19) 0 "_law_letters_right"
  f20 : FunOk P w K mg base ca k (F 20) 1 "law"
section
variable {P : Program} {w : World} {K : PySem.W.Frag} {mg : Str → Option Value} {base : Heap} {ca : Ca} {k : Nat} {F : Fn} {X : Cx}
structure Ds (K : PySem.W.Frag) (mg : Str → Option Value) : Prop where
  d0 : ∃ fa fd, FunD K "is_name" "is_name" (defArgs (top 7)) (defBody (top 7)) (defScope (top 7)) [] [] fa fd ∧ mg "is_name" = some (.ref fa)
  d1 : ∃ fa fd, FunD K "is_path" "is_path" (defArgs (top 8)) (defBody (top 8)) (defScope (top 8)) [] [] fa fd ∧ mg "is_path" = some (.ref fa)
  d2 : ∃ fa fd, FunD K "check_path" "check_path" (defArgs (top 9)) (defBody (top 9)) (defScope (top 9)) [] [] fa fd ∧ mg "check_path" = some (.ref fa)
  d3 : ∃ fa fd, FunD K "rest_of" "rest_of" (defArgs (top 10)) (defBody (top 10)) (defScope (top 10)) [] [] fa fd ∧ mg "rest_of" = some (.ref fa)
  d4 : ∃ fa fd, FunD K "rest_behind" "rest_behind" (defArgs (top 11)) (defBody (top 11)) (defScope (top 11)) [] [] fa fd ∧ mg "rest_behind" = some (.ref fa)
  d5 : ∃ fa fd, FunD K "ordered" "ordered" (defArgs (top 12)) (defBody (top 12)) (defScope (top 12)) [] [] fa fd ∧ mg "ordered" = some (.ref fa)
  d6 : ∃ fa fd, FunD K "in_order" "in_order" (defArgs (top 13)) (defBody (top 13)) (defScope (top 13)) [] [] fa fd ∧ mg "in_order" = some (.ref fa)
  d7 : ∃ fa fd, FunD K "_law_pen" "_law_pen" (defArgs (top 15)) (defBody (top 15)) (defScope (top 15)) [] [] fa fd ∧ mg "_law_pen" = some (.ref fa)
  d8 : ∃ fa fd, FunD K "_law_next" "_law_next" (defArgs (top 16)) (defBody (top 16)) (defScope (top 16)) [] [] fa fd ∧ mg "_law_next" = some (.ref fa)
  d9 : ∃ fa fd, FunD K "_law_draw" "_law_draw" (defArgs (top 17)) (defBody (top 17)) (defScope (top 17)) [] [] fa fd ∧ mg "_law_draw" = some (.ref fa)
  d10 : ∃ fa fd, FunD K "_law_some" "_law_some" (defArgs (top 18)) (defBody (top 18)) (defScope (top 18)) [] [] fa fd ∧ mg "_law_some" = some (.ref fa)
  d11 : ∃ fa fd, FunD K "_law_word" "_law_word" (defArgs (top 19)) (defBody (top 19)) (defScope (top 19)) [] [] fa fd ∧ mg "_law_word" = some (.ref fa)
  d12 : ∃ fa fd, FunD K "_law_is_word" "_law_is_word" (defArgs (top 20)) (defBody (top 20)) (defScope (top 20)) [] [] fa fd ∧ mg "_law_is_word" = some (.ref fa)
  d13 : ∃ fa fd, FunD K "_law_is_way" "_law_is_way" (defArgs (top 21)) (defBody (top 21)) (defScope (top 21)) [] [] fa fd ∧ mg "_law_is_way" = some (.ref fa)
  d14 : ∃ fa fd, FunD K "_law_odd" "_law_odd" (defArgs (top 22)) (defBody (top 22)) (defScope (top 22)) [] [] fa fd ∧ mg "_law_odd" = some (.ref fa)
  d15 : ∃ fa fd, FunD K "_law_way" "_law_way" (defArgs (top 23)) (defBody (top 23)) (defScope (top 23)) [] [] fa fd ∧ mg "_law_way" = some (.ref fa)
  d16 : ∃ fa fd, FunD K "_law_bent" "_law_bent" (defArgs (top 24)) (defBody (top 24)) (defScope (top 24)) [] [] fa fd ∧ mg "_law_bent" = some (.ref fa)
  d17 : ∃ fa fd, FunD K "_law_rests_right" "_law_rests_right" (defArgs (top 25)) (defBody (top 25)) (defScope (top 25)) [] [] fa fd ∧ mg "_law_rests_right" = some (.ref fa)
  d18 : ∃ fa fd, FunD K "_law_orders_right" "_law_orders_right" (defArgs (top 26)) (defBody (top 26)) (defScope (top 26)) [] [] fa fd ∧ mg "_law_orders_right" = some (.ref fa)
  d19 : ∃ fa fd, FunD K "_law_letters_right" "_law_letters_right" (defArgs (top 27)) (defBody (top 27)) (defScope (top 27)) [] [] fa fd ∧ mg "_law_letters_right" = some (.ref fa)
  d20 : ∃ fa fd, FunD K "law" "law" (defArgs (top 28)) (defBody (top 28)) (defScope (top 28)) [] [] fa fd ∧ mg "law" = some (.ref fa)
theorem sc0 : FnScope N0 ["thing"] (defScope (top 7)) := ⟨rfl, rfl, rfl, by decide +kernel, rfl, by decide +kernel, by decide +kernel⟩
theorem sc1 : FnScope N1 ["thing"] (defScope (top 8)) := ⟨rfl, rfl, rfl, by decide +kernel, rfl, by decide +kernel, by decide +kernel⟩
theorem sc2 : FnScope N2 ["thing"] (defScope (top 9)) := ⟨rfl, rfl, rfl, by decide +kernel, rfl, by decide +kernel, by decide +kernel⟩
theorem sc3 : FnScope N3 ["path", "other"] (defScope (top 10)) := ⟨rfl, rfl, rfl, by decide +kernel, rfl, by decide +kernel, by decide +kernel⟩
theorem sc4 : FnScope N4 ["path", "other"] (defScope (top 11)) := ⟨rfl, rfl, rfl, by decide +kernel, rfl, by decide +kernel, by decide +kernel⟩
theorem sc5 : FnScope N5 ["paths"] (defScope (top 12)) := ⟨rfl, rfl, rfl, by decide +kernel, rfl, by decide +kernel, by decide +kernel⟩
theorem sc6 : FnScope N6 ["paths"] (defScope (top 13)) := ⟨rfl, rfl, rfl, by decide +kernel, rfl, by decide +kernel, by decide +kernel⟩
theorem sc7 : FnScope N7 ["_law_script"] (defScope (top 15)) := ⟨rfl, rfl, rfl, by decide +kernel, rfl, by decide +kernel, by decide +kernel⟩
theorem sc8 : FnScope N8 ["_law_pen_here"] (defScope (top 16)) := ⟨rfl, rfl, rfl, by decide +kernel, rfl, by decide +kernel, by decide +kernel⟩
theorem sc9 : FnScope N9 ["_law_pen_here", "_law_under"] (defScope (top 17)) := ⟨rfl, rfl, rfl, by decide +kernel, rfl, by decide +kernel, by decide +kernel⟩
theorem sc10 : FnScope N10 ["_law_pen_here", "_law_pool", "_law_most"] (defScope (top 18)) := ⟨rfl, rfl, rfl, by decide +kernel, rfl, by decide +kernel, by decide +kernel⟩
theorem sc11 : FnScope N11 ["_law_act"] (defScope (top 19)) := ⟨rfl, rfl, rfl, by decide +kernel, rfl, by decide +kernel, by decide +kernel⟩
theorem sc12 : FnScope N12 ["_law_thing"] (defScope (top 20)) := ⟨rfl, rfl, rfl, by decide +kernel, rfl, by decide +kernel, by decide +kernel⟩
theorem sc13 : FnScope N13 ["_law_thing"] (defScope (top 21)) := ⟨rfl, rfl, rfl, by decide +kernel, rfl, by decide +kernel, by decide +kernel⟩
theorem sc14 : FnScope N14 ["_law_pen_here"] (defScope (top 22)) := ⟨rfl, rfl, rfl, by decide +kernel, rfl, by decide +kernel, by decide +kernel⟩
theorem sc15 : FnScope N15 ["_law_pen_here"] (defScope (top 23)) := ⟨rfl, rfl, rfl, by decide +kernel, rfl, by decide +kernel, by decide +kernel⟩
theorem sc16 : FnScope N16 ["_law_pen_here", "_law_one"] (defScope (top 24)) := ⟨rfl, rfl, rfl, by decide +kernel, rfl, by decide +kernel, by decide +kernel⟩
theorem sc17 : FnScope N17 ["_law_pen_here"] (defScope (top 25)) := ⟨rfl, rfl, rfl, by decide +kernel, rfl, by decide +kernel, by decide +kernel⟩
theorem sc18 : FnScope N18 ["_law_pen_here"] (defScope (top 26)) := ⟨rfl, rfl, rfl, by decide +kernel, rfl, by decide +kernel, by decide +kernel⟩
theorem sc19 : FnScope N19 [] (defScope (top 27)) := ⟨rfl, rfl, rfl, by decide +kernel, rfl, by decide +kernel, by decide +kernel⟩
theorem sc20 : FnScope N20 ["_law_script"] (defScope (top 28)) := ⟨rfl, rfl, rfl, by decide +kernel, rfl, by decide +kernel, by decide +kernel⟩
theorem w11 (D : Ds K mg) (G : Gl0 P w K mg base ca) : WordOk P w K mg base ca k (G11 F) "_law_word" :=
  ⟨let ⟨fa, fd, h, e⟩ := D.d11; ⟨fa, fd, defArgs (top 19), defBody (top 19), defScope (top 19), N11, "_law_act", h, e, sc11, rfl, .inl rfl, by decide +kernel, fun _ _ _ _ _ _ us hl => match us, hl with | [_], _ => rfl, fun X f c' q tl EX c S act tk => word_body c S act tk (by decide) rfl rfl rfl G.k_PathError G.xm_PathError (fun X' L => (sss_one (l_set L rfl (l_var L rfl)))) (sss_cons (ss_if (v_tcmp c rfl (v_var c rfl) se_non (nomark _)) (sss_one (ss_ret se_str)) sss_nil)
    (sss_one (ss_ret (se_if (sw_and (v_val (v_isC c G.tab 1 rfl G.f_isinstance rfl G.k_InvalidPath (v_var c rfl))) (v_wand1 (v_val (v_isVE c G.tab rfl G.f_isinstance rfl G.f_ValueError PyProof.Rows.Boot.«ValueError» (v_var c rfl))))).st se_str se_str))))⟩⟩
theorem s0 (D : Ds K mg) (G : Gl0 P w K mg base ca) (A : Fs P w K mg base ca k F) (c2 : Con P w K mg base (k + 2) N0 (defScope (top 7)) (fun _ => true) X) (hp : PassesOwn (model X.prog X.w) X.A X.env X.xe) : SSs X ca (b0 F) (defBody (top 7)) := by
  have c := c2.down (Nat.le_add_right k 2)
  exact (sss_cons (ss_if (sw_or (st_not (v_val (v_isTy c G.tab .str rfl G.f_isinstance rfl G.f_str boot_str (v_var c rfl)))) (sw_or (st_not (v_tchain c rfl rfl se_int (v_fn c noX_len c_len rfl G.f_len boot_len (v_cons (v_var c rfl) sa_nil)) (v_con c G.g_MOST_LETTERS rfl))) (v_wor1 (v_tcmp c rfl (v_var c rfl) (v_con c G.g_RESERVED rfl) rfl)))).st (sss_one (ss_ret se_bl)) sss_nil)
    (sss_one (ss_ret (v_fn c noX_all (c_all c.calm) rfl G.f_all boot_all (v_cons (v_lc (own := [("letter", 1)]) c (si_plain (v_var c rfl)) rfl (fun X' c' => (v_name c' rfl)) (fun X' c' => .nil) (fun X' c' => (v_cmp c' rfl (v_var c' rfl) (v_con c' G.g_LETTERS rfl) rfl)) rfl) sa_nil)))))
theorem s1 (D : Ds K mg) (G : Gl0 P w K mg base ca) (A : Fs P w K mg base ca k F) (c2 : Con P w K mg base (k + 2) N1 (defScope (top 8)) (fun _ => true) X) (hp : PassesOwn (model X.prog X.w) X.A X.env X.xe) : SSs X ca (b1 F) (defBody (top 8)) := by
  have c := c2.down (Nat.le_add_right k 2)
  exact (sss_one (ss_ret (se_and (v_isTy c G.tab .tuple rfl G.f_isinstance rfl G.f_tuple boot_tuple (v_var c rfl)) (se_and (v_cmp c rfl (v_fn c noX_len c_len rfl G.f_len boot_len (v_cons (v_var c rfl) sa_nil)) se_int (nomark _)) (v_and1 (v_fn c noX_all (c_all c.calm) rfl G.f_all boot_all (v_cons (v_lc (own := [("name", 1)]) c (si_plain (v_var c rfl)) rfl (fun X' c' => (v_name c' rfl)) (fun X' c' => .nil) (fun X' c' => (v_call c' A.f0 rfl (v_cons (v_var c' rfl) sa_nil))) rfl) sa_nil)))))))
theorem s2 (D : Ds K mg) (G : Gl0 P w K mg base ca) (A : Fs P w K mg base ca k F) (c2 : Con P w K mg base (k + 2) N2 (defScope (top 9)) (fun _ => true) X) (hp : PassesOwn (model X.prog X.w) X.A X.env X.xe) : SSs X ca (b2 F) (defBody (top 9)) := by
  have c := c2.down (Nat.le_add_right k 2)
  exact (sss_one (ss_if (st_not (v_val (v_call c A.f1 rfl (v_cons (v_var c rfl) sa_nil)))) (sss_one (v_raise c G.e_InvalidPath G.k_InvalidPath rfl se_str)) sss_nil))
theorem s3 (D : Ds K mg) (G : Gl0 P w K mg base ca) (A : Fs P w K mg base ca k F) (c2 : Con P w K mg base (k + 2) N3 (defScope (top 10)) (fun _ => true) X) (hp : PassesOwn (model X.prog X.w) X.A X.env X.xe) : SSs X ca (b3 F) (defBody (top 10)) := by
  have c := c2.down (Nat.le_add_right k 2)
  exact (sss_one (ss_ret (se_if (v_tcmp c rfl (se_cut (v_var c rfl) .no (.yes (v_fn c noX_len c_len rfl G.f_len boot_len (v_cons (v_var c rfl) sa_nil)))) (v_var c rfl) (nomark _)) (se_cut (v_var c rfl) (.yes (v_fn c noX_len c_len rfl G.f_len boot_len (v_cons (v_var c rfl) sa_nil))) .no) se_non)))
theorem s4 (D : Ds K mg) (G : Gl0 P w K mg base ca) (A : Fs P w K mg base ca k F) (c2 : Con P w K mg base (k + 2) N4 (defScope (top 11)) (fun _ => true) X) (hp : PassesOwn (model X.prog X.w) X.A X.env X.xe) : SSs X ca (b4 F) (defBody (top 11)) := by
  have c := c2.down (Nat.le_add_right k 2)
  exact (sss_cons (v_exp (v_call c A.f2 rfl (v_cons (v_var c rfl) sa_nil)))
    (sss_cons (v_exp (v_call c A.f2 rfl (v_cons (v_var c rfl) sa_nil)))
    (sss_one (ss_ret (v_call c A.f3 rfl (v_cons (v_var c rfl) (v_cons (v_var c rfl) sa_nil)))))))
theorem s5 (D : Ds K mg) (G : Gl0 P w K mg base ca) (A : Fs P w K mg base ca k F) (c2 : Con P w K mg base (k + 2) N5 (defScope (top 12)) (fun _ => true) X) (hp : PassesOwn (model X.prog X.w) X.A X.env X.xe) (hl : LamC ca X) : SSs X ca (b5 F) (defBody (top 12)) := by
  have c := c2.down (Nat.le_add_right k 2)
  exact (sss_cons (v_setDc (own := [("path", 2)]) c rfl (c.sw (by rfl)) (si_plain (v_var c rfl)) rfl (fun X' c' => (v_name c' rfl)) (fun X' c' => .nil) (fun X' c' => (v_var c' rfl)) (fun X' c' => se_bl) rfl)
    (sss_one (ss_ret (v_sortLen c2 hl rfl G.f_sorted G.f_len ⟨rfl, rfl, rfl, by decide +kernel, rfl, by decide +kernel, by decide +kernel⟩ rfl rfl rfl (by decide) (fun _ => rfl) (v_ty c (noX_list _) (c_list c.calm) rfl G.f_list boot_list (v_cons (v_var c rfl) sa_nil))))))
theorem s6 (D : Ds K mg) (G : Gl0 P w K mg base ca) (A : Fs P w K mg base ca k F) (c2 : Con P w K mg base (k + 2) N6 (defScope (top 13)) (fun _ => true) X) (hp : PassesOwn (model X.prog X.w) X.A X.env X.xe) : SSs X ca (b6 F) (defBody (top 13)) := by
  have c := c2.down (Nat.le_add_right k 2)
  exact (sss_cons (ss_if (sw_or (st_not (v_val (v_isTy c G.tab .list rfl G.f_isinstance rfl G.f_list boot_list (v_var c rfl)))) (v_wor1 (st_not (v_val (v_fn c noX_all (c_all c.calm) rfl G.f_all boot_all (v_cons (v_lc (own := [("path", 1)]) c (si_plain (v_var c rfl)) rfl (fun X' c' => (v_name c' rfl)) (fun X' c' => .nil) (fun X' c' => (v_call c' A.f1 rfl (v_cons (v_var c' rfl) sa_nil))) rfl) sa_nil)))))).st (sss_one (v_raise c G.e_InvalidPath G.k_InvalidPath rfl se_str)) sss_nil)
    (sss_one (ss_ret (v_call c A.f5 rfl (v_cons (v_var c rfl) sa_nil)))))
theorem s7 (D : Ds K mg) (G : Gl0 P w K mg base ca) (A : Fs P w K mg base ca k F) (c2 : Con P w K mg base (k + 2) N7 (defScope (top 15)) (fun _ => true) X) (hp : PassesOwn (model X.prog X.w) X.A X.env X.xe) : SSs X ca (b7 F) (defBody (top 15)) := by
  have c := c2.down (Nat.le_add_right k 2)
  exact (sss_one (ss_ret (se_lst (v_cons (v_ty c (noX_list _) (c_list c.calm) rfl G.f_list boot_list (v_cons (se_cut (v_var c rfl) .no (.yes se_int)) sa_nil)) (v_cons se_int (v_cons se_int sa_nil))))))
theorem s8 (D : Ds K mg) (G : Gl0 P w K mg base ca) (A : Fs P w K mg base ca k F) (c2 : Con P w K mg base (k + 2) N8 (defScope (top 16)) (fun _ => true) X) (hp : PassesOwn (model X.prog X.w) X.A X.env X.xe) : SSs X ca (b8 F) (defBody (top 16)) := by
  have c := c2.down (Nat.le_add_right k 2)
  exact (sss_cons (v_set c rfl (v_idx c (v_var c rfl) se_int))
    (sss_cons (v_setItem c (v_var c rfl) se_int (se_bin rfl (v_var c rfl) se_int))
    (sss_cons (v_set c rfl (se_bin rfl (se_bin rfl (v_var c rfl) se_int) se_int))
    (sss_cons (ss_if (v_tcmp c rfl (v_idx c (v_var c rfl) se_int) (se_lst sa_nil) (nomark _)) (sss_one (v_set c rfl (v_idx c (v_idx c (v_var c rfl) se_int) (se_bin rfl (v_ty c noX_int c_int rfl G.f_int boot_int (v_cons (v_var c rfl) sa_nil)) (v_fn c noX_len c_len rfl G.f_len boot_len (v_cons (v_idx c (v_var c rfl) se_int) sa_nil)))))) sss_nil)
    (sss_cons (ss_if (sw_and (v_tcmp c rfl (v_var c rfl) (v_fn c noX_len c_len rfl G.f_len boot_len (v_cons (v_idx c (v_var c rfl) se_int) sa_nil)) (nomark _)) (v_wand1 (v_tcmp c rfl (v_var c rfl) (se_bin rfl se_int se_int) (nomark _)))).st (sss_one (ss_ret (v_var c rfl))) sss_nil)
    (sss_cons (v_set c rfl (se_bin rfl (v_ty c noX_int c_int rfl G.f_int boot_int (v_cons (se_bin rfl (se_bin rfl (se_bin rfl (v_ty c noX_int c_int rfl G.f_int boot_int (v_cons (v_var c rfl) sa_nil)) se_int) (se_bin rfl (v_var c rfl) se_int)) se_int) sa_nil)) se_int))
    (sss_cons (v_set c rfl (se_bin rfl (v_ty c noX_int c_int rfl G.f_int boot_int (v_cons (se_bin rfl (se_bin rfl (se_bin rfl (v_var c rfl) (v_var c rfl)) (se_bin rfl (v_var c rfl) se_int)) se_int) sa_nil)) se_int))
    (sss_cons (v_set c rfl (se_bin rfl (v_ty c noX_int c_int rfl G.f_int boot_int (v_cons (se_bin rfl (se_bin rfl (se_bin rfl (v_var c rfl) (v_var c rfl)) (v_var c rfl)) (se_bin rfl (se_bin rfl (v_var c rfl) (v_var c rfl)) se_int)) sa_nil)) se_int))
    (sss_one (ss_ret (se_bin rfl (se_bin rfl (se_bin rfl (se_bin rfl (v_var c rfl) se_int) (v_var c rfl)) se_int) (v_var c rfl))))))))))))
theorem s9 (D : Ds K mg) (G : Gl0 P w K mg base ca) (A : Fs P w K mg base ca k F) (c2 : Con P w K mg base (k + 2) N9 (defScope (top 17)) (fun _ => true) X) (hp : PassesOwn (model X.prog X.w) X.A X.env X.xe) : SSs X ca (b9 F) (defBody (top 17)) := by
  have c := c2.down (Nat.le_add_right k 2)
  exact (sss_cons (ss_if (v_tcmp c rfl (v_idx c (v_var c rfl) se_int) (v_var c rfl) (nomark _)) (sss_one (v_setItem c (v_var c rfl) se_int (v_call c A.f8 rfl (v_cons (v_var c rfl) sa_nil)))) sss_nil)
    (sss_cons (v_set c rfl (se_bin rfl (v_ty c noX_int c_int rfl G.f_int boot_int (v_cons (v_idx c (v_var c rfl) se_int) sa_nil)) (v_var c rfl)))
    (sss_cons (v_setItem c (v_var c rfl) se_int (se_bin rfl (v_idx c (v_var c rfl) se_int) (v_var c rfl)))
    (sss_one (ss_ret (v_var c rfl))))))
theorem s10 (D : Ds K mg) (G : Gl0 P w K mg base ca) (A : Fs P w K mg base ca k F) (c2 : Con P w K mg base (k + 2) N10 (defScope (top 18)) (fun _ => true) X) (hp : PassesOwn (model X.prog X.w) X.A X.env X.xe) : SSs X ca (b10 F) (defBody (top 18)) := by
  have c := c2.down (Nat.le_add_right k 2)
  exact (sss_cons (v_set c rfl (v_ty c (noX_list _) (c_list c.calm) rfl G.f_list boot_list (v_cons (v_var c rfl) sa_nil)))
    (sss_one (ss_ret (v_lc (own := [("_law_turn", 4)]) c (v_range1 c rfl G.f_range (v_call c A.f9 rfl (v_cons (v_var c rfl) (v_cons (se_bin rfl (v_fn c noX_min2 (c_min2 c.calm) rfl G.f_min boot_min (v_cons (v_var c rfl) (v_cons (v_fn c noX_len c_len rfl G.f_len boot_len (v_cons (v_var c rfl) sa_nil)) sa_nil))) se_int) sa_nil)))) rfl (fun X' c' => (v_name c' rfl)) (fun X' c' => .nil) (fun X' c' => (v_popAt (v_var c' rfl) (v_call c' A.f9 rfl (v_cons (v_var c' rfl) (v_cons (v_fn c' noX_len c_len rfl G.f_len boot_len (v_cons (v_var c' rfl) sa_nil)) sa_nil))))) rfl))))
theorem s12 (D : Ds K mg) (G : Gl0 P w K mg base ca) (A : Fs P w K mg base ca k F) (c2 : Con P w K mg base (k + 2) N12 (defScope (top 20)) (fun _ => true) X) (hp : PassesOwn (model X.prog X.w) X.A X.env X.xe) : SSs X ca (b12 F) (defBody (top 20)) := by
  have c := c2.down (Nat.le_add_right k 2)
  exact (sss_cons (ss_if (sw_or (st_not (v_val (v_isTy c G.tab .str rfl G.f_isinstance rfl G.f_str boot_str (v_var c rfl)))) (sw_or (st_not (v_tchain c rfl rfl se_int (v_fn c noX_len c_len rfl G.f_len boot_len (v_cons (v_var c rfl) sa_nil)) se_int)) (v_wor1 (v_tcmp c rfl (v_var c rfl) (se_tup (v_cons se_str (v_cons se_str (v_cons se_str sa_nil)))) rfl)))).st (sss_one (ss_ret se_bl)) sss_nil)
    (sss_one (ss_ret (v_fn c noX_all (c_all c.calm) rfl G.f_all boot_all (v_cons (v_lc (own := [("_law_sign", 1)]) c (si_plain (v_var c rfl)) rfl (fun X' c' => (v_name c' rfl)) (fun X' c' => .nil) (fun X' c' => (v_cmp c' rfl (v_var c' rfl) se_str rfl)) rfl) sa_nil)))))
theorem s13 (D : Ds K mg) (G : Gl0 P w K mg base ca) (A : Fs P w K mg base ca k F) (c2 : Con P w K mg base (k + 2) N13 (defScope (top 21)) (fun _ => true) X) (hp : PassesOwn (model X.prog X.w) X.A X.env X.xe) : SSs X ca (b13 F) (defBody (top 21)) := by
  have c := c2.down (Nat.le_add_right k 2)
  exact (sss_one (ss_ret (se_and (v_isTy c G.tab .tuple rfl G.f_isinstance rfl G.f_tuple boot_tuple (v_var c rfl)) (se_and (v_cmp c rfl (v_fn c noX_len c_len rfl G.f_len boot_len (v_cons (v_var c rfl) sa_nil)) se_int (nomark _)) (v_and1 (v_fn c noX_all (c_all c.calm) rfl G.f_all boot_all (v_cons (v_lc (own := [("_law_one", 1)]) c (si_plain (v_var c rfl)) rfl (fun X' c' => (v_name c' rfl)) (fun X' c' => .nil) (fun X' c' => (v_call c' A.f12 rfl (v_cons (v_var c' rfl) sa_nil))) rfl) sa_nil)))))))
theorem s14 (D : Ds K mg) (G : Gl0 P w K mg base ca) (A : Fs P w K mg base ca k F) (c2 : Con P w K mg base (k + 2) N14 (defScope (top 22)) (fun _ => true) X) (hp : PassesOwn (model X.prog X.w) X.A X.env X.xe) : SSs X ca (b14 F) (defBody (top 22)) := by
  have c := c2.down (Nat.le_add_right k 2)
  exact (sss_cons (v_set c rfl (se_lst (v_cons se_str (v_cons se_str (v_cons se_str (v_cons se_str (v_cons se_str (v_cons se_str (v_cons se_str (v_cons se_str (v_cons se_str (v_cons se_str (v_cons se_str (v_cons se_str (v_cons se_non (v_cons se_int (v_cons se_bl (v_cons (se_tup (v_cons se_str sa_nil)) (v_cons (se_tup sa_nil) sa_nil)))))))))))))))))))
    (sss_cons (v_set c rfl (se_bin rfl (v_var c rfl) (se_lst (v_cons (se_lst sa_nil) (v_cons se_dct0 (v_cons (se_lst (v_cons se_str sa_nil)) (v_cons (se_bin rfl se_int se_int) (v_cons se_str (v_cons se_str (v_cons se_str (v_cons se_str (v_cons se_str (v_cons se_str (v_cons se_str (v_cons se_str (v_cons se_str (v_cons se_str sa_nil)))))))))))))))))
    (sss_one (ss_ret (v_idx c (v_var c rfl) (v_call c A.f9 rfl (v_cons (v_var c rfl) (v_cons se_int sa_nil))))))))
theorem s15 (D : Ds K mg) (G : Gl0 P w K mg base ca) (A : Fs P w K mg base ca k F) (c2 : Con P w K mg base (k + 2) N15 (defScope (top 23)) (fun _ => true) X) (hp : PassesOwn (model X.prog X.w) X.A X.env X.xe) : SSs X ca (b15 F) (defBody (top 23)) := by
  have c := c2.down (Nat.le_add_right k 2)
  exact (sss_cons (v_set c rfl (se_bin rfl se_int (v_call c A.f9 rfl (v_cons (v_var c rfl) (v_cons (v_idx c (se_lst (v_cons se_int (v_cons se_int (v_cons se_int sa_nil)))) (v_call c A.f9 rfl (v_cons (v_var c rfl) (v_cons se_int sa_nil)))) sa_nil)))))
    (sss_one (ss_ret (v_ty c noX_tuple c_tuple rfl G.f_tuple boot_tuple (v_cons (v_lc (own := [("_law_turn", 2)]) c (v_range1 c rfl G.f_range (v_var c rfl)) rfl (fun X' c' => (v_name c' rfl)) (fun X' c' => .nil) (fun X' c' => (v_idx c' (se_lst (v_cons se_str (v_cons se_str (v_cons se_str (v_cons se_str sa_nil))))) (v_call c' A.f9 rfl (v_cons (v_var c' rfl) (v_cons se_int sa_nil))))) rfl) sa_nil)))))
theorem s16 (D : Ds K mg) (G : Gl0 P w K mg base ca) (A : Fs P w K mg base ca k F) (c2 : Con P w K mg base (k + 2) N16 (defScope (top 24)) (fun _ => true) X) (hp : PassesOwn (model X.prog X.w) X.A X.env X.xe) : SSs X ca (b16 F) (defBody (top 24)) := by
  have c := c2.down (Nat.le_add_right k 2)
  exact (sss_cons (v_par c rfl rfl (by decide) (v_call c A.f9 rfl (v_cons (v_var c rfl) (v_cons (v_fn c noX_len c_len rfl G.f_len boot_len (v_cons (v_var c rfl) sa_nil)) sa_nil))) (v_call c A.f9 rfl (v_cons (v_var c rfl) (v_cons se_int sa_nil))) (c.st (by rfl)))
    (sss_cons (ss_if (v_tcmp c rfl (v_var c rfl) se_int (nomark _)) (sss_one (ss_ret (v_idx c (se_lst (v_cons (se_tup sa_nil) (v_cons (v_ty c (noX_list _) (c_list c.calm) rfl G.f_list boot_list (v_cons (v_var c rfl) sa_nil)) (v_cons se_non (v_cons se_str (v_cons se_dct0 (v_cons se_int (v_cons (se_tup (v_cons (v_var c rfl) sa_nil)) (v_cons (se_lst (v_cons (v_var c rfl) sa_nil)) (v_cons (se_bin rfl (v_var c rfl) (se_tup (v_cons (se_tup sa_nil) sa_nil))) sa_nil)))))))))) (v_call c A.f9 rfl (v_cons (v_var c rfl) (v_cons se_int sa_nil)))))) sss_nil)
    (sss_one (ss_ret (se_bin rfl (se_bin rfl (se_cut (v_var c rfl) .no (.yes (v_var c rfl))) (se_tup (v_cons (v_call c A.f14 rfl (v_cons (v_var c rfl) sa_nil)) sa_nil))) (se_cut (v_var c rfl) (.yes (se_bin rfl (v_var c rfl) (v_ty c noX_int c_int rfl G.f_int boot_int (v_cons (v_cmp c rfl (v_var c rfl) se_int (nomark _)) sa_nil)))) .no))))))
theorem s17 (D : Ds K mg) (G : Gl0 P w K mg base ca) (A : Fs P w K mg base ca k F) (c2 : Con P w K mg base (k + 2) N17 (defScope (top 25)) (fun _ => true) X) (hp : PassesOwn (model X.prog X.w) X.A X.env X.xe) (hl : LamC ca X) : SSs X ca (b17 F) (defBody (top 25)) := by
  have c := c2.down (Nat.le_add_right k 2)
  exact (sss_cons (v_asg (hw := c.st (by rfl)) (se_tup (v_cons (v_call c A.f15 rfl (v_cons (v_var c rfl) sa_nil)) (v_cons (v_call c A.f15 rfl (v_cons (v_var c rfl) sa_nil)) sa_nil))) (v_gtup c (v_gcons (v_name c rfl) (v_gcons (v_name c rfl) sgs_nil))))
    (sss_cons (ss_if (v_tcmp c rfl (v_call c A.f9 rfl (v_cons (v_var c rfl) (v_cons se_int sa_nil))) se_int (nomark _)) (sss_one (v_set c rfl (se_cut (v_var c rfl) .no (.yes (se_bin rfl se_int (v_call c A.f9 rfl (v_cons (v_var c rfl) (v_cons (v_fn c noX_len c_len rfl G.f_len boot_len (v_cons (v_var c rfl) sa_nil)) sa_nil)))))))) sss_nil)
    (sss_cons (v_for c hp (si_plain (se_tup (v_cons (se_tup (v_cons (v_var c rfl) (v_cons (v_var c rfl) sa_nil))) (v_cons (se_tup (v_cons (v_var c rfl) (v_cons (v_var c rfl) sa_nil))) (v_cons (se_tup (v_cons (v_var c rfl) (v_cons (v_var c rfl) sa_nil))) (v_cons (se_tup (v_cons (se_bin rfl (v_var c rfl) (v_var c rfl)) (v_cons (v_var c rfl) sa_nil))) sa_nil)))))) (v_gtup c (v_gcons (v_name c rfl) (v_gcons (v_name c rfl) sgs_nil))) (sss_cons (v_set c rfl (se_if (v_tcmp c rfl (se_cut (v_var c rfl) .no (.yes (v_fn c noX_len c_len rfl G.f_len boot_len (v_cons (v_var c rfl) sa_nil)))) (v_var c rfl) (nomark _)) (se_cut (v_var c rfl) (.yes (v_fn c noX_len c_len rfl G.f_len boot_len (v_cons (v_var c rfl) sa_nil))) .no) se_non))
    (sss_one (ss_if (v_tcmp c rfl (v_fn c noX_repr (c_repr c.rm.gd c.u64 (by rw [c.frag]; exact G.sys)) rfl G.f_repr boot_repr (v_cons (v_call c A.f4 rfl (v_cons (v_var c rfl) (v_cons (v_var c rfl) sa_nil))) sa_nil)) (v_fn c noX_repr (c_repr c.rm.gd c.u64 (by rw [c.frag]; exact G.sys)) rfl G.f_repr boot_repr (v_cons (v_var c rfl) sa_nil)) (nomark _)) (sss_one (ss_ret se_bl)) sss_nil))))
    (sss_cons (v_set c rfl (v_call c A.f16 rfl (v_cons (v_var c rfl) (v_cons (v_var c rfl) sa_nil))))
    (sss_cons (v_set c rfl (se_if (v_val (v_call c A.f13 rfl (v_cons (v_var c rfl) sa_nil))) se_str se_str))
    (sss_cons (v_set c rfl (v_fn c noX_repr (c_repr c.rm.gd c.u64 (by rw [c.frag]; exact G.sys)) rfl G.f_repr boot_repr (v_cons (v_var c rfl) sa_nil)))
    (sss_cons (ss_if (v_tcmp c rfl (v_word c2 (w11 D G) hl rfl rfl (fun X' c' => (v_call c' A.f4 rfl (v_cons (v_var c' rfl) (v_cons (v_var c' rfl) sa_nil))))) (v_var c rfl) (nomark _)) (sss_one (ss_ret se_bl)) sss_nil)
    (sss_cons (ss_if (v_tcmp c rfl (v_word c2 (w11 D G) hl rfl rfl (fun X' c' => (v_call c' A.f4 rfl (v_cons (v_var c' rfl) (v_cons (v_var c' rfl) sa_nil))))) (v_var c rfl) (nomark _)) (sss_one (ss_ret se_bl)) sss_nil)
    (sss_one (ss_ret (se_and (v_cmp c rfl (v_fn c noX_repr (c_repr c.rm.gd c.u64 (by rw [c.frag]; exact G.sys)) rfl G.f_repr boot_repr (v_cons (v_call c A.f1 rfl (v_cons (v_var c rfl) sa_nil)) sa_nil)) (v_fn c noX_repr (c_repr c.rm.gd c.u64 (by rw [c.frag]; exact G.sys)) rfl G.f_repr boot_repr (v_cons (v_cmp c rfl (v_var c rfl) se_str (nomark _)) sa_nil)) (nomark _)) (v_and1 (v_cmp c rfl (v_fn c noX_repr (c_repr c.rm.gd c.u64 (by rw [c.frag]; exact G.sys)) rfl G.f_repr boot_repr (v_cons (v_var c rfl) sa_nil)) (v_var c rfl) (nomark _))))))))))))))
theorem s18 (D : Ds K mg) (G : Gl0 P w K mg base ca) (A : Fs P w K mg base ca k F) (c2 : Con P w K mg base (k + 2) N18 (defScope (top 26)) (fun _ => true) X) (hp : PassesOwn (model X.prog X.w) X.A X.env X.xe) (hl : LamC ca X) : SSs X ca (b18 F) (defBody (top 26)) := by
  have c := c2.down (Nat.le_add_right k 2)
  exact (sss_cons (v_setLc (own := [("_law_turn", 10)]) c rfl (c.sw (by rfl)) (v_range1 c rfl G.f_range (v_call c A.f9 rfl (v_cons (v_var c rfl) (v_cons se_int sa_nil)))) rfl (fun X' c' => (v_name c' rfl)) (fun X' c' => .nil) (fun X' c' => (v_call c' A.f15 rfl (v_cons (v_var c' rfl) sa_nil))) rfl)
    (sss_cons (v_set c rfl (se_bin rfl (v_var c rfl) (v_call c A.f10 rfl (v_cons (v_var c rfl) (v_cons (v_var c rfl) (v_cons se_int sa_nil))))))
    (sss_cons (v_par c rfl rfl (by decide) (v_sset c rfl G.f_sorted rfl G.f_set (v_cons (v_var c rfl) sa_nil)) (v_fn c noX_repr (c_repr c.rm.gd c.u64 (by rw [c.frag]; exact G.sys)) rfl G.f_repr boot_repr (v_cons (v_var c rfl) sa_nil)) (c.st (by rfl)))
    (sss_cons (v_setLc (own := [("_law_one", 11)]) c rfl (c.sw (by rfl)) (si_plain (v_sorted c rfl G.f_sorted (v_lc (own := [("_law_way_here", 12)]) c (si_plain (v_var c rfl)) rfl (fun X' c' => (v_name c' rfl)) (fun X' c' => .nil) (fun X' c' => (se_tup (v_cons (v_fn c' noX_len c_len rfl G.f_len boot_len (v_cons (v_var c' rfl) sa_nil)) (v_cons (v_var c' rfl) sa_nil)))) rfl))) rfl (fun X' c' => (v_name c' rfl)) (fun X' c' => .nil) (fun X' c' => (v_idx c' (v_var c' rfl) se_int)) rfl)
    (sss_cons (v_for c hp (v_range1 c rfl G.f_range se_int) (v_name c rfl) (sss_cons (v_set c rfl (v_call c A.f6 rfl (v_cons (v_var c rfl) sa_nil)))
    (sss_cons (ss_if (sw_or (v_tcmp c rfl (v_fn c noX_repr (c_repr c.rm.gd c.u64 (by rw [c.frag]; exact G.sys)) rfl G.f_repr boot_repr (v_cons (v_var c rfl) sa_nil)) (v_fn c noX_repr (c_repr c.rm.gd c.u64 (by rw [c.frag]; exact G.sys)) rfl G.f_repr boot_repr (v_cons (v_var c rfl) sa_nil)) (nomark _)) (v_wor1 (v_tcmp c rfl (v_fn c noX_repr (c_repr c.rm.gd c.u64 (by rw [c.frag]; exact G.sys)) rfl G.f_repr boot_repr (v_cons (v_var c rfl) sa_nil)) (v_var c rfl) (nomark _)))).st (sss_one (ss_ret se_bl)) sss_nil)
    (sss_one (v_exp (v_append (v_var c rfl) se_non))))))
    (sss_cons (v_set c rfl (v_call c A.f16 rfl (v_cons (v_var c rfl) (v_cons (v_call c A.f15 rfl (v_cons (v_var c rfl) sa_nil)) sa_nil))))
    (sss_cons (v_set c rfl (se_lst (v_cons se_non (v_cons (v_ty c noX_tuple c_tuple rfl G.f_tuple boot_tuple (v_cons (v_var c rfl) sa_nil)) (v_cons se_dct0 (v_cons se_str (v_cons se_int (v_cons (se_bin rfl (v_var c rfl) (se_lst (v_cons (v_var c rfl) sa_nil))) (v_cons (se_bin rfl (se_lst (v_cons (v_var c rfl) sa_nil)) (v_var c rfl)) (v_cons (se_lst (v_cons se_non sa_nil)) (v_cons (se_bin rfl (se_bin rfl (se_cut (v_var c rfl) .no (.yes se_int)) (se_lst (v_cons (v_var c rfl) sa_nil))) (v_var c rfl)) sa_nil)))))))))))
    (sss_cons (v_for c hp (si_plain (se_bin rfl (v_var c rfl) (se_lst (v_cons (se_lst (v_cons (se_tup (v_cons se_str sa_nil)) (v_cons (v_var c rfl) (v_cons (se_tup (v_cons se_str sa_nil)) sa_nil)))) sa_nil)))) (v_name c rfl) (sss_cons (v_par c rfl rfl (by decide) (se_and (v_isTy c G.tab .list rfl G.f_isinstance rfl G.f_list boot_list (v_var c rfl)) (v_and1 (v_fn c noX_all (c_all c.calm) rfl G.f_all boot_all (v_cons (v_lc (own := [("_law_one", 11)]) c (si_plain (v_var c rfl)) rfl (fun X' c' => (v_name c' rfl)) (fun X' c' => .nil) (fun X' c' => (v_call c' A.f13 rfl (v_cons (v_var c' rfl) sa_nil))) rfl) sa_nil)))) (v_fn c noX_repr (c_repr c.rm.gd c.u64 (by rw [c.frag]; exact G.sys)) rfl G.f_repr boot_repr (v_cons (v_var c rfl) sa_nil)) (c.st (by rfl)))
    (sss_one (ss_if (sw_or (v_tcmp c rfl (v_word c2 (w11 D G) hl rfl rfl (fun X' c' => (v_call c' A.f6 rfl (v_cons (v_var c' rfl) sa_nil)))) (se_if (v_val (v_var c rfl)) se_str se_str) (nomark _)) (v_wor1 (v_tcmp c rfl (v_fn c noX_repr (c_repr c.rm.gd c.u64 (by rw [c.frag]; exact G.sys)) rfl G.f_repr boot_repr (v_cons (v_var c rfl) sa_nil)) (v_var c rfl) (nomark _)))).st (sss_one (ss_ret se_bl)) sss_nil))))
    (sss_one (ss_ret se_bl))))))))))
theorem s19 (D : Ds K mg) (G : Gl0 P w K mg base ca) (A : Fs P w K mg base ca k F) (c2 : Con P w K mg base (k + 2) N19 (defScope (top 27)) (fun _ => true) X) (hp : PassesOwn (model X.prog X.w) X.A X.env X.xe) : SSs X ca (b19 F) (defBody (top 27)) := by
  have c := c2.down (Nat.le_add_right k 2)
  exact (sss_cons (v_for c hp (si_plain se_str) (v_name c rfl) (sss_one (ss_if (v_tcmp c rfl (v_fn c noX_repr (c_repr c.rm.gd c.u64 (by rw [c.frag]; exact G.sys)) rfl G.f_repr boot_repr (v_cons (se_lst (v_cons (v_call c A.f0 rfl (v_cons (v_var c rfl) sa_nil)) (v_cons (v_call c A.f0 rfl (v_cons (se_bin rfl (se_bin rfl se_str (v_var c rfl)) se_str) sa_nil)) (v_cons (v_call c A.f1 rfl (v_cons (se_tup (v_cons (v_var c rfl) sa_nil)) sa_nil)) sa_nil)))) sa_nil)) se_str (nomark _)) (sss_one (ss_ret se_bl)) sss_nil)))
    (sss_cons (v_set c rfl se_str)
    (sss_cons (v_for c hp (si_plain (se_bin rfl (v_var c rfl) se_str)) (v_name c rfl) (sss_one (ss_if (v_tcmp c rfl (v_fn c noX_repr (c_repr c.rm.gd c.u64 (by rw [c.frag]; exact G.sys)) rfl G.f_repr boot_repr (v_cons (se_lst (v_cons (v_call c A.f0 rfl (v_cons (v_var c rfl) sa_nil)) (v_cons (v_call c A.f0 rfl (v_cons (se_bin rfl se_str (v_var c rfl)) sa_nil)) (v_cons (v_call c A.f0 rfl (v_cons (se_bin rfl (v_var c rfl) se_str) sa_nil)) sa_nil)))) sa_nil)) se_str (nomark _)) (sss_one (ss_ret se_bl)) sss_nil)))
    (sss_cons (v_set c rfl (se_lst (v_cons se_str (v_cons se_str (v_cons se_str (v_cons se_str (v_cons se_str (v_cons se_str sa_nil))))))))
    (sss_one (ss_ret (v_cmp c rfl (v_fn c noX_repr (c_repr c.rm.gd c.u64 (by rw [c.frag]; exact G.sys)) rfl G.f_repr boot_repr (v_cons (v_lc (own := [("_law_word_here", 3)]) c (si_plain (v_var c rfl)) rfl (fun X' c' => (v_name c' rfl)) (fun X' c' => .nil) (fun X' c' => (v_call c' A.f0 rfl (v_cons (v_var c' rfl) sa_nil))) rfl) sa_nil)) (v_fn c noX_repr (c_repr c.rm.gd c.u64 (by rw [c.frag]; exact G.sys)) rfl G.f_repr boot_repr (v_cons (se_bin rfl (se_lst (v_cons se_bl sa_nil)) se_int) sa_nil)) (nomark _))))))))
theorem s20 (D : Ds K mg) (G : Gl0 P w K mg base ca) (A : Fs P w K mg base ca k F) (c2 : Con P w K mg base (k + 2) N20 (defScope (top 28)) (fun _ => true) X) (hp : PassesOwn (model X.prog X.w) X.A X.env X.xe) : SSs X ca (b20 F) (defBody (top 28)) := by
  have c := c2.down (Nat.le_add_right k 2)
  exact (sss_cons (v_set c rfl (v_call c A.f7 rfl (v_cons (v_var c rfl) sa_nil)))
    (sss_cons (ss_if (st_not (v_val (v_call0 c A.f19 rfl))) (sss_one (ss_ret se_bl)) sss_nil)
    (sss_cons (v_for c hp (v_range1 c rfl G.f_range se_int) (v_name c rfl) (sss_cons (v_set c rfl (v_call c A.f14 rfl (v_cons (v_var c rfl) sa_nil)))
    (sss_cons (ss_if (sw_or (v_tcmp c rfl (v_fn c noX_repr (c_repr c.rm.gd c.u64 (by rw [c.frag]; exact G.sys)) rfl G.f_repr boot_repr (v_cons (v_call c A.f0 rfl (v_cons (v_var c rfl) sa_nil)) sa_nil)) (v_fn c noX_repr (c_repr c.rm.gd c.u64 (by rw [c.frag]; exact G.sys)) rfl G.f_repr boot_repr (v_cons (v_call c A.f12 rfl (v_cons (v_var c rfl) sa_nil)) sa_nil)) (nomark _)) (v_wor1 (v_tcmp c rfl (v_fn c noX_repr (c_repr c.rm.gd c.u64 (by rw [c.frag]; exact G.sys)) rfl G.f_repr boot_repr (v_cons (v_call c A.f1 rfl (v_cons (se_tup (v_cons (v_var c rfl) sa_nil)) sa_nil)) sa_nil)) (v_fn c noX_repr (c_repr c.rm.gd c.u64 (by rw [c.frag]; exact G.sys)) rfl G.f_repr boot_repr (v_cons (v_call c A.f12 rfl (v_cons (v_var c rfl) sa_nil)) sa_nil)) (nomark _)))).st (sss_one (ss_ret se_bl)) sss_nil)
    (sss_one (ss_if (sw_or (st_not (v_val (v_call c A.f17 rfl (v_cons (v_var c rfl) sa_nil)))) (v_wor1 (st_not (v_val (v_call c A.f18 rfl (v_cons (v_var c rfl) sa_nil)))))).st (sss_one (ss_ret se_bl)) sss_nil)))))
    (sss_one (ss_ret se_bl)))))
theorem all (D : Ds K mg) (G : Gl0 P w K mg base ca) : ∀ k, Fs P w K mg base ca (3 * k) (fns k)
  | 0 => ⟨let ⟨_, _, h, e⟩ := D.d0; fun0 (ps := ["thing"]) (fun _ _ => rfl) h e rfl (fun _ _ _ _ _ _ us hl => match us, hl with | [_], _ => rfl),
    let ⟨_, _, h, e⟩ := D.d1; fun0 (ps := ["thing"]) (fun _ _ => rfl) h e rfl (fun _ _ _ _ _ _ us hl => match us, hl with | [_], _ => rfl),
    let ⟨_, _, h, e⟩ := D.d2; fun0 (ps := ["thing"]) (fun _ _ => rfl) h e rfl (fun _ _ _ _ _ _ us hl => match us, hl with | [_], _ => rfl),
    let ⟨_, _, h, e⟩ := D.d3; fun0 (ps := ["path", "other"]) (fun _ _ => rfl) h e rfl (fun _ _ _ _ _ _ us hl => match us, hl with | [_, _], _ => rfl),
    let ⟨_, _, h, e⟩ := D.d4; fun0 (ps := ["path", "other"]) (fun _ _ => rfl) h e rfl (fun _ _ _ _ _ _ us hl => match us, hl with | [_, _], _ => rfl),
    let ⟨_, _, h, e⟩ := D.d5; fun0 (ps := ["paths"]) (fun _ _ => rfl) h e rfl (fun _ _ _ _ _ _ us hl => match us, hl with | [_], _ => rfl),
    let ⟨_, _, h, e⟩ := D.d6; fun0 (ps := ["paths"]) (fun _ _ => rfl) h e rfl (fun _ _ _ _ _ _ us hl => match us, hl with | [_], _ => rfl),
    let ⟨_, _, h, e⟩ := D.d7; fun0 (ps := ["_law_script"]) (fun _ _ => rfl) h e rfl (fun _ _ _ _ _ _ us hl => match us, hl with | [_], _ => rfl),
    let ⟨_, _, h, e⟩ := D.d8; fun0 (ps := ["_law_pen_here"]) (fun _ _ => rfl) h e rfl (fun _ _ _ _ _ _ us hl => match us, hl with | [_], _ => rfl),
    let ⟨_, _, h, e⟩ := D.d9; fun0 (ps := ["_law_pen_here", "_law_under"]) (fun _ _ => rfl) h e rfl (fun _ _ _ _ _ _ us hl => match us, hl with | [_, _], _ => rfl),
    let ⟨_, _, h, e⟩ := D.d10; fun0 (ps := ["_law_pen_here", "_law_pool", "_law_most"]) (fun _ _ => rfl) h e rfl (fun _ _ _ _ _ _ us hl => match us, hl with | [_, _, _], _ => rfl),
    let ⟨_, _, h, e⟩ := D.d12; fun0 (ps := ["_law_thing"]) (fun _ _ => rfl) h e rfl (fun _ _ _ _ _ _ us hl => match us, hl with | [_], _ => rfl),
    let ⟨_, _, h, e⟩ := D.d13; fun0 (ps := ["_law_thing"]) (fun _ _ => rfl) h e rfl (fun _ _ _ _ _ _ us hl => match us, hl with | [_], _ => rfl),
    let ⟨_, _, h, e⟩ := D.d14; fun0 (ps := ["_law_pen_here"]) (fun _ _ => rfl) h e rfl (fun _ _ _ _ _ _ us hl => match us, hl with | [_], _ => rfl),
    let ⟨_, _, h, e⟩ := D.d15; fun0 (ps := ["_law_pen_here"]) (fun _ _ => rfl) h e rfl (fun _ _ _ _ _ _ us hl => match us, hl with | [_], _ => rfl),
    let ⟨_, _, h, e⟩ := D.d16; fun0 (ps := ["_law_pen_here", "_law_one"]) (fun _ _ => rfl) h e rfl (fun _ _ _ _ _ _ us hl => match us, hl with | [_, _], _ => rfl),
    let ⟨_, _, h, e⟩ := D.d17; fun0 (ps := ["_law_pen_here"]) (fun _ _ => rfl) h e rfl (fun _ _ _ _ _ _ us hl => match us, hl with | [_], _ => rfl),
    let ⟨_, _, h, e⟩ := D.d18; fun0 (ps := ["_law_pen_here"]) (fun _ _ => rfl) h e rfl (fun _ _ _ _ _ _ us hl => match us, hl with | [_], _ => rfl),
    let ⟨_, _, h, e⟩ := D.d19; fun0 (ps := []) (fun _ _ => rfl) h e rfl (fun _ _ _ _ _ _ us hl => match us, hl with | [], _ => rfl),
    let ⟨_, _, h, e⟩ := D.d20; fun0 (ps := ["_law_script"]) (fun _ _ => rfl) h e rfl (fun _ _ _ _ _ _ us hl => match us, hl with | [_], _ => rfl)⟩
  | k + 1 => ⟨let ⟨_, _, h, e⟩ := D.d0; def_ok (k := 3 * k + 2) (F := fns (k + 1)) h e sc0 rfl rfl rfl (fun _ _ _ _ _ _ us hl => match us, hl with | [_], _ => rfl) fun _ c hp => s0 D G (all D G k) c hp,
    let ⟨_, _, h, e⟩ := D.d1; def_ok (k := 3 * k + 2) (F := fns (k + 1)) h e sc1 rfl rfl rfl (fun _ _ _ _ _ _ us hl => match us, hl with | [_], _ => rfl) fun _ c hp => s1 D G (all D G k) c hp,
    let ⟨_, _, h, e⟩ := D.d2; def_ok (k := 3 * k + 2) (F := fns (k + 1)) h e sc2 rfl rfl rfl (fun _ _ _ _ _ _ us hl => match us, hl with | [_], _ => rfl) fun _ c hp => s2 D G (all D G k) c hp,
    let ⟨_, _, h, e⟩ := D.d3; def_ok (k := 3 * k + 2) (F := fns (k + 1)) h e sc3 rfl rfl rfl (fun _ _ _ _ _ _ us hl => match us, hl with | [_, _], _ => rfl) fun _ c hp => s3 D G (all D G k) c hp,
    let ⟨_, _, h, e⟩ := D.d4; def_ok (k := 3 * k + 2) (F := fns (k + 1)) h e sc4 rfl rfl rfl (fun _ _ _ _ _ _ us hl => match us, hl with | [_, _], _ => rfl) fun _ c hp => s4 D G (all D G k) c hp,
    let ⟨_, _, h, e⟩ := D.d5; def_okL (k := 3 * k + 2) (F := fns (k + 1)) h e sc5 rfl rfl rfl G.t_ordered (fun _ _ _ _ _ _ us hl => match us, hl with | [_], _ => rfl) fun _ c hl S => s5 D G (all D G k) c S.pass hl,
    let ⟨_, _, h, e⟩ := D.d6; def_ok (k := 3 * k + 2) (F := fns (k + 1)) h e sc6 rfl rfl rfl (fun _ _ _ _ _ _ us hl => match us, hl with | [_], _ => rfl) fun _ c hp => s6 D G (all D G k) c hp,
    let ⟨_, _, h, e⟩ := D.d7; def_ok (k := 3 * k + 2) (F := fns (k + 1)) h e sc7 rfl rfl rfl (fun _ _ _ _ _ _ us hl => match us, hl with | [_], _ => rfl) fun _ c hp => s7 D G (all D G k) c hp,
    let ⟨_, _, h, e⟩ := D.d8; def_ok (k := 3 * k + 2) (F := fns (k + 1)) h e sc8 rfl rfl rfl (fun _ _ _ _ _ _ us hl => match us, hl with | [_], _ => rfl) fun _ c hp => s8 D G (all D G k) c hp,
    let ⟨_, _, h, e⟩ := D.d9; def_ok (k := 3 * k + 2) (F := fns (k + 1)) h e sc9 rfl rfl rfl (fun _ _ _ _ _ _ us hl => match us, hl with | [_, _], _ => rfl) fun _ c hp => s9 D G (all D G k) c hp,
    let ⟨_, _, h, e⟩ := D.d10; def_ok (k := 3 * k + 2) (F := fns (k + 1)) h e sc10 rfl rfl rfl (fun _ _ _ _ _ _ us hl => match us, hl with | [_, _, _], _ => rfl) fun _ c hp => s10 D G (all D G k) c hp,
    let ⟨_, _, h, e⟩ := D.d12; def_ok (k := 3 * k + 2) (F := fns (k + 1)) h e sc12 rfl rfl rfl (fun _ _ _ _ _ _ us hl => match us, hl with | [_], _ => rfl) fun _ c hp => s12 D G (all D G k) c hp,
    let ⟨_, _, h, e⟩ := D.d13; def_ok (k := 3 * k + 2) (F := fns (k + 1)) h e sc13 rfl rfl rfl (fun _ _ _ _ _ _ us hl => match us, hl with | [_], _ => rfl) fun _ c hp => s13 D G (all D G k) c hp,
    let ⟨_, _, h, e⟩ := D.d14; def_ok (k := 3 * k + 2) (F := fns (k + 1)) h e sc14 rfl rfl rfl (fun _ _ _ _ _ _ us hl => match us, hl with | [_], _ => rfl) fun _ c hp => s14 D G (all D G k) c hp,
    let ⟨_, _, h, e⟩ := D.d15; def_ok (k := 3 * k + 2) (F := fns (k + 1)) h e sc15 rfl rfl rfl (fun _ _ _ _ _ _ us hl => match us, hl with | [_], _ => rfl) fun _ c hp => s15 D G (all D G k) c hp,
    let ⟨_, _, h, e⟩ := D.d16; def_ok (k := 3 * k + 2) (F := fns (k + 1)) h e sc16 rfl rfl rfl (fun _ _ _ _ _ _ us hl => match us, hl with | [_, _], _ => rfl) fun _ c hp => s16 D G (all D G k) c hp,
    let ⟨_, _, h, e⟩ := D.d17; def_okL (k := 3 * k + 2) (F := fns (k + 1)) h e sc17 rfl rfl rfl G.t__law_rests_right (fun _ _ _ _ _ _ us hl => match us, hl with | [_], _ => rfl) fun _ c hl S => s17 D G (all D G k) c S.pass hl,
    let ⟨_, _, h, e⟩ := D.d18; def_okL (k := 3 * k + 2) (F := fns (k + 1)) h e sc18 rfl rfl rfl G.t__law_orders_right (fun _ _ _ _ _ _ us hl => match us, hl with | [_], _ => rfl) fun _ c hl S => s18 D G (all D G k) c S.pass hl,
    let ⟨_, _, h, e⟩ := D.d19; def_ok (k := 3 * k + 2) (F := fns (k + 1)) h e sc19 rfl rfl rfl (fun _ _ _ _ _ _ us hl => match us, hl with | [], _ => rfl) fun _ c hp => s19 D G (all D G k) c hp,
    let ⟨_, _, h, e⟩ := D.d20; def_ok (k := 3 * k + 2) (F := fns (k + 1)) h e sc20 rfl rfl rfl (fun _ _ _ _ _ _ us hl => match us, hl with | [_], _ => rfl) fun _ c hp => s20 D G (all D G k) c hp⟩
end
end AM.K01
/-! text K01h -/
set_option Elab.async false
set_option linter.all false
set_option maxRecDepth 100000
set_option maxHeartbeats 0
namespace AM.K01
open PySem PySem.Spec PyProof.Rows L2
def cn : List Str := ["PathError", "InvalidPath"]
def lams : List Str := ["ordered", "_law_rests_right", "_law_orders_right"]
def caK (K : PySem.W.Frag) : Ca := ⟨fun n => He.ga K (cn.getD n ""), lamT K lams⟩
def dfs : List He.DefD := [⟨("is_name", none), "is_name", "is_name", defArgs (top 7), defBody (top 7), defScope (top 7), [], []⟩,
  ⟨("is_path", none), "is_path", "is_path", defArgs (top 8), defBody (top 8), defScope (top 8), [], []⟩,
  ⟨("check_path", none), "check_path", "check_path", defArgs (top 9), defBody (top 9), defScope (top 9), [], []⟩,
  ⟨("rest_of", none), "rest_of", "rest_of", defArgs (top 10), defBody (top 10), defScope (top 10), [], []⟩,
  ⟨("rest_behind", none), "rest_behind", "rest_behind", defArgs (top 11), defBody (top 11), defScope (top 11), [], []⟩,
  ⟨("ordered", none), "ordered", "ordered", defArgs (top 12), defBody (top 12), defScope (top 12), [], []⟩,
  ⟨("in_order", none), "in_order", "in_order", defArgs (top 13), defBody (top 13), defScope (top 13), [], []⟩,
  ⟨("_law_pen", none), "_law_pen", "_law_pen", defArgs (top 15), defBody (top 15), defScope (top 15), [], []⟩,
  ⟨("_law_next", none), "_law_next", "_law_next", defArgs (top 16), defBody (top 16), defScope (top 16), [], []⟩,
  ⟨("_law_draw", none), "_law_draw", "_law_draw", defArgs (top 17), defBody (top 17), defScope (top 17), [], []⟩,
  ⟨("_law_some", none), "_law_some", "_law_some", defArgs (top 18), defBody (top 18), defScope (top 18), [], []⟩,
  ⟨("_law_word", none), "_law_word", "_law_word", defArgs (top 19), defBody (top 19), defScope (top 19), [], []⟩,
  ⟨("_law_is_word", none), "_law_is_word", "_law_is_word", defArgs (top 20), defBody (top 20), defScope (top 20), [], []⟩,
  ⟨("_law_is_way", none), "_law_is_way", "_law_is_way", defArgs (top 21), defBody (top 21), defScope (top 21), [], []⟩,
  ⟨("_law_odd", none), "_law_odd", "_law_odd", defArgs (top 22), defBody (top 22), defScope (top 22), [], []⟩,
  ⟨("_law_way", none), "_law_way", "_law_way", defArgs (top 23), defBody (top 23), defScope (top 23), [], []⟩,
  ⟨("_law_bent", none), "_law_bent", "_law_bent", defArgs (top 24), defBody (top 24), defScope (top 24), [], []⟩,
  ⟨("_law_rests_right", none), "_law_rests_right", "_law_rests_right", defArgs (top 25), defBody (top 25), defScope (top 25), [], []⟩,
  ⟨("_law_orders_right", none), "_law_orders_right", "_law_orders_right", defArgs (top 26), defBody (top 26), defScope (top 26), [], []⟩,
  ⟨("_law_letters_right", none), "_law_letters_right", "_law_letters_right", defArgs (top 27), defBody (top 27), defScope (top 27), [], []⟩,
  ⟨("law", none), "law", "law", defArgs (top 28), defBody (top 28), defScope (top 28), [], []⟩]
def fas : List He.Fa := [.glo "is_name", .glo "is_path", .glo "check_path", .glo "rest_of", .glo "rest_behind", .glo "ordered", .glo "in_order", .glo "_law_pen", .glo "_law_next", .glo "_law_draw", .glo "_law_some", .glo "_law_word", .glo "_law_is_word", .glo "_law_is_way", .glo "_law_odd", .glo "_law_way", .glo "_law_bent", .glo "_law_rests_right", .glo "_law_orders_right", .glo "_law_letters_right", .glo "law", .glo "PathError", .glo "InvalidPath", .free "ValueError", .free "all", .free "int", .free "isinstance", .free "len", .free "list", .free "min", .free "range", .free "repr", .free "set", .free "sorted", .free "str", .free "tuple", .exc "InvalidPath", .str "LETTERS" "abcdefghijklmnopqrstuvwxyz", .glo "RESERVED", .int "MOST_LETTERS" 8]
def xds : List X1D := []
def ex (K : PySem.W.Frag) : Bool := tabB K (caK K) T && sysB K && lamsB K lams && exmB K (caK K) T 0 && He.tupB K "RESERVED" ((["then", "or", "more"] : List Str).map He.Dv.str)
abbrev rowL : PySem.W.OpenRow := PySem.W.OpenLaw.row PySem.Challenge.rw_rootpaths_k01_names_and_paths
abbrev hk : PySem.W.Hook := hookM 4 fas dfs xds ex
def ob (s : PySem.W.SharedT) : AlM := obsM 4 fas dfs xds ex (HandSHeadRun.getT s)
theorem ob_eq (s : PySem.W.SharedT) : ob s = hk.obs s.abs := obsM_eq (HandSHeadRun.getT_eq s)
abbrev tops : List Nat := [12, 25, 26, 28]
def loose : List Str := ["PathError", "InvalidPath", "LETTERS", "RESERVED", "MOST_LETTERS", "is_name", "is_path", "check_path", "rest_of", "rest_behind", "in_order", "_law_pen", "_law_next", "_law_draw", "_law_some", "_law_word", "_law_is_word", "_law_is_way", "_law_odd", "_law_way", "_law_bent", "_law_letters_right"]
theorem run (w : World) : HandSHeadRun.RunEq rowL (PySem.W.view rowL.prog tops) hk ob 30000 loose w := by
  intro os
  kernel_rfl
theorem inF {K : PySem.W.Frag} (c : He.SaysD fas dfs K) {f : He.Fa} (h : f ∈ fas) : f.ok K = true := by
  obtain ⟨i, hi, e⟩ := List.mem_iff_getElem.mp h
  exact c.fact i (f := f) (by rw [List.getElem?_eq_getElem hi, e])
theorem ds {K : PySem.W.Frag} {mg : Str → Option Value} {h : Heap} (X : K.In h) (G : h.Ns mainGlobals mg) (c : He.SaysD fas dfs K) : Ds K mg := by
  have key : ∀ (i : Nat) (d : He.DefD), dfs[i]? = some d → d.at_ = (d.name, none) → d.qual = d.name → d.dfl = [] → d.kwd = [] → (He.Fa.glo d.name) ∈ fas → ∃ fa fd, FunD K d.name d.name d.params d.body d.scope [] [] fa fd ∧ mg d.name = some (.ref fa) := fun i d h1 h2 h3 h4 h5 h6 => by
    obtain ⟨fd, F⟩ := c.def_ i h1
    rw [h3, h2] at F
    refine ⟨_, fd, ?_, He.glo_ok X G (inF c h6)⟩
    have e1 : d.dvs K = [] := by unfold He.DefD.dvs; rw [h4]; rfl
    have e2 : d.kws K = [] := by unfold He.DefD.kws; rw [h5]; rfl
    rw [e1, e2] at F
    exact F
  exact ⟨key 0 _ rfl rfl rfl rfl rfl (by simp [fas]), key 1 _ rfl rfl rfl rfl rfl (by simp [fas]), key 2 _ rfl rfl rfl rfl rfl (by simp [fas]), key 3 _ rfl rfl rfl rfl rfl (by simp [fas]), key 4 _ rfl rfl rfl rfl rfl (by simp [fas]), key 5 _ rfl rfl rfl rfl rfl (by simp [fas]), key 6 _ rfl rfl rfl rfl rfl (by simp [fas]), key 7 _ rfl rfl rfl rfl rfl (by simp [fas]), key 8 _ rfl rfl rfl rfl rfl (by simp [fas]), key 9 _ rfl rfl rfl rfl rfl (by simp [fas]), key 10 _ rfl rfl rfl rfl rfl (by simp [fas]), key 11 _ rfl rfl rfl rfl rfl (by simp [fas]), key 12 _ rfl rfl rfl rfl rfl (by simp [fas]), key 13 _ rfl rfl rfl rfl rfl (by simp [fas]), key 14 _ rfl rfl rfl rfl rfl (by simp [fas]), key 15 _ rfl rfl rfl rfl rfl (by simp [fas]), key 16 _ rfl rfl rfl rfl rfl (by simp [fas]), key 17 _ rfl rfl rfl rfl rfl (by simp [fas]), key 18 _ rfl rfl rfl rfl rfl (by simp [fas]), key 19 _ rfl rfl rfl rfl rfl (by simp [fas]), key 20 _ rfl rfl rfl rfl rfl (by simp [fas])⟩
theorem gl {P : Program} {w : World} {K : PySem.W.Frag} {mg : Str → Option Value} {h base : Heap} (hP : P = PySem.Challenge.pw_rootpaths_k01_names_and_paths) (X : K.In h) (G : h.Ns mainGlobals mg) (c : He.SaysD fas dfs K) (e : ex K = true) (hx : ∀ d ∈ xds, fnC K d.x = d.val) (hT : ∀ x ∈ lams, TabF K mg base (caK K) x) : Gl0 P w K mg base (caK K) := by
  obtain ⟨e, h4⟩ := ba2 e
  obtain ⟨e, h3⟩ := ba2 e
  obtain ⟨e, h2⟩ := ba2 e
  obtain ⟨e, h1⟩ := ba2 e
  have h0 := e
  exact ⟨tabB_ok h0,
    sysB_ok h1,
    He.free_ok X G (inF c (f := .free "ValueError") (by simp [fas])),
    He.free_ok X G (inF c (f := .free "all") (by simp [fas])),
    He.free_ok X G (inF c (f := .free "int") (by simp [fas])),
    He.free_ok X G (inF c (f := .free "isinstance") (by simp [fas])),
    He.free_ok X G (inF c (f := .free "len") (by simp [fas])),
    He.free_ok X G (inF c (f := .free "list") (by simp [fas])),
    He.free_ok X G (inF c (f := .free "min") (by simp [fas])),
    He.free_ok X G (inF c (f := .free "range") (by simp [fas])),
    He.free_ok X G (inF c (f := .free "repr") (by simp [fas])),
    He.free_ok X G (inF c (f := .free "set") (by simp [fas])),
    He.free_ok X G (inF c (f := .free "sorted") (by simp [fas])),
    He.free_ok X G (inF c (f := .free "str") (by simp [fas])),
    He.free_ok X G (inF c (f := .free "tuple") (by simp [fas])),
    He.glo_ok X G (inF c (f := .glo "PathError") (by simp [fas])),
    He.glo_ok X G (inF c (f := .glo "InvalidPath") (by simp [fas])),
    exc0_ok (inF c (f := .exc "InvalidPath") (by simp [fas])),
    con_str X G (inF c (f := .str "LETTERS" "abcdefghijklmnopqrstuvwxyz") (by simp [fas])),
    con_strs (zs := (["then", "or", "more"] : List Str)) X G (inF c (f := .glo "RESERVED") (by simp [fas])) h4 (by rw [PySem.sizeLine_eq]; decide),
    con_int X G (inF c (f := .int "MOST_LETTERS" 8) (by simp [fas])),
    exmB_ok h3,
    hT _ (by simp [lams]),
    hT _ (by simp [lams]),
    hT _ (by simp [lams])⟩
end AM.K01
/-! text AmP -/
set_option Elab.async false
set_option linter.all false
set_option maxRecDepth 100000
/-! AmP: a calculus of wishes over the machine's meanings, for the plain laws. -/
namespace AM
open PySem

/-- the answer is one of Q's, or an error of X's -/
@[irreducible] def wR (X : W → Bx → Prop) (Q : R → Bx → Prop) : Res → Prop
  | .ok r b => Q r b
  | .exc w b => X w b
  | .stuck => False
/-- no error -/
abbrev nX : W → Bx → Prop := fun _ _ => False
section
variable {X : W → Bx → Prop} {Q : R → Bx → Prop}
theorem wR_ok {r : R} {b : Bx} : wR X Q (.ok r b) ↔ Q r b := by unfold wR; exact Iff.rfl
theorem wR_exc {w : W} {b : Bx} : wR X Q (.exc w b) ↔ X w b := by unfold wR; exact Iff.rfl
theorem wR_st : wR X Q .stuck ↔ False := by unfold wR; exact Iff.rfl
end
def wE (X : W → Bx → Prop) (m : E) (en : En) (bx : Bx) (Q : R → Bx → Prop) : Prop := wR X Q (m en bx)
/-- a statement's ways: on, back, the next turn, an error -/
structure Dz where
  nx : En → Bx → Prop
  rt : R → Bx → Prop
  ct : En → Bx → Prop := fun _ _ => False
  xc : En → W → Bx → Prop := fun _ _ _ => False
@[irreducible] def wT (D : Dz) : Ct → Prop
  | .nx en b => D.nx en b
  | .rt r b => D.rt r b
  | .ct en b => D.ct en b
  | .exc w en b => D.xc en w b
  | .stuck => False
section
variable {D : Dz} {e : En} {r : R} {b : Bx} {w : W}
theorem wT_nx : wT D (.nx e b) ↔ D.nx e b := by unfold wT; exact Iff.rfl
theorem wT_rt : wT D (.rt r b) ↔ D.rt r b := by unfold wT; exact Iff.rfl
theorem wT_ct : wT D (.ct e b) ↔ D.ct e b := by unfold wT; exact Iff.rfl
theorem wT_exc : wT D (.exc w e b) ↔ D.xc e w b := by unfold wT; exact Iff.rfl
theorem wT_st : wT D .stuck ↔ False := by unfold wT; exact Iff.rfl
end
def wC (c : C) (en : En) (bx : Bx) (D : Dz) : Prop := wT D (c en bx)
section
variable {m : E} {en : En} {bx : Bx} {X X' : W → Bx → Prop} {Q Q' : R → Bx → Prop} {k : R → E} {D D' : Dz} {c : C}
theorem wR_post {x : Res} (h : ∀ r b, Q r b ↔ Q' r b) : wR X Q x ↔ wR X Q' x := by
  cases x <;> simp only [wR_ok, wR_exc, wR_st, h]
theorem wE_post (h : ∀ r b, Q r b ↔ Q' r b) : wE X m en bx Q ↔ wE X m en bx Q' := wR_post h
theorem wR_imp2 {x : Res} (h : wR X Q x) (kx : ∀ w b, X w b → X' w b) (k : ∀ r b, Q r b → Q' r b) : wR X' Q' x := by
  cases x with
  | ok r b => exact wR_ok.mpr (k r b (wR_ok.mp h))
  | exc w b => exact wR_exc.mpr (kx w b (wR_exc.mp h))
  | stuck => exact (wR_st.mp h).elim
theorem wR_imp {x : Res} (h : wR X Q x) (k : ∀ r b, Q r b → Q' r b) : wR X Q' x := wR_imp2 h (fun _ _ h => h) k
theorem wE_mono (h : wE X m en bx Q) (k : ∀ r b, Q r b → Q' r b) : wE X m en bx Q' := wR_imp h k
theorem wE_mono2 (h : wE X m en bx Q) (kx : ∀ w b, X w b → X' w b) (k : ∀ r b, Q r b → Q' r b) : wE X' m en bx Q' := wR_imp2 h kx k
theorem wR_of {x : Res} {r : R} {b : Bx} (h : x = .ok r b) : wR X Q x ↔ Q r b := by rw [h]; exact wR_ok
theorem wR_ofx {x : Res} {w : W} {b : Bx} (h : x = .exc w b) : wR X Q x ↔ X w b := by rw [h]; exact wR_exc
theorem wR_get {x : Res} (h : wR nX Q x) : ∃ r b, x = .ok r b ∧ Q r b := by
  cases x with
  | ok r b => exact ⟨r, b, rfl, wR_ok.mp h⟩
  | exc _ _ => exact (wR_exc.mp h).elim
  | stuck => exact (wR_st.mp h).elim
theorem wR_getx {x : Res} (h : wR X (fun _ _ => False) x) : ∃ w b, x = .exc w b ∧ X w b := by
  cases x with
  | ok r b => exact (wR_ok.mp h).elim
  | exc w b => exact ⟨w, b, rfl, wR_exc.mp h⟩
  | stuck => exact (wR_st.mp h).elim
theorem wR_eq {x : Res} {r : R} {b : Bx} (h : wR nX (fun r' b' => r' = r ∧ b' = b) x) : x = .ok r b := by
  obtain ⟨r', b', e, rfl, rfl⟩ := wR_get h
  exact e
theorem wR_eqx {x : Res} {w : W} {b : Bx} (h : wR (fun w' b' => w' = w ∧ b' = b) (fun _ _ => False) x) : x = .exc w b := by
  obtain ⟨r', b', e, rfl, rfl⟩ := wR_getx h
  exact e
theorem wT_imp {x : Ct} (h : wT D x) (kn : ∀ e b, D.nx e b → D'.nx e b) (kr : ∀ r b, D.rt r b → D'.rt r b) (kc : ∀ e b, D.ct e b → D'.ct e b) (kx : ∀ e w b, D.xc e w b → D'.xc e w b := by exact fun _ _ _ h => h) : wT D' x := by
  cases x with
  | nx e b => exact wT_nx.mpr (kn _ _ (wT_nx.mp h))
  | rt r b => exact wT_rt.mpr (kr _ _ (wT_rt.mp h))
  | ct e b => exact wT_ct.mpr (kc _ _ (wT_ct.mp h))
  | exc _ _ _ => exact wT_exc.mpr (kx _ _ _ (wT_exc.mp h))
  | stuck => exact (wT_st.mp h).elim
theorem wC_mono (h : wC c en bx D) (kn : ∀ e b, D.nx e b → D'.nx e b) (kr : ∀ r b, D.rt r b → D'.rt r b) (kc : ∀ e b, D.ct e b → D'.ct e b) (kx : ∀ e w b, D.xc e w b → D'.xc e w b := by exact fun _ _ _ h => h) : wC c en bx D' := wT_imp h kn kr kc kx
theorem wE_of {r : R} {b : Bx} (h : m en bx = .ok r b) : wE X m en bx Q ↔ Q r b := by
  unfold wE
  rw [h]
  exact wR_ok
theorem wE_bind : wE X (eBind m k) en bx Q ↔ wE X m en bx fun r b => wE X (k r) en b Q := by
  unfold wE eBind
  cases m en bx <;> simp only [wR_ok, wR_exc, wR_st]
theorem wE_var {i : Nat} {r : R} (h : en[i]? = some (some r)) : wE X (eVar i) en bx Q ↔ Q r bx := by
  unfold wE eVar
  rw [h]; exact wR_ok
theorem wE_C {w : W} : wE X (eC w) en bx Q ↔ Q (.v w) bx := wR_ok
theorem wE_args0 {kk : List R → E} : wE X (eArgs [] kk) en bx Q ↔ wE X (kk []) en bx Q := Iff.rfl
theorem wE_argsN {kk : List R → E} : wE X (eArgs [] kk) en bx Q ↔ wR X Q (kk [] en bx) := Iff.rfl
theorem wE_args {a : E} {as : List (Bool × E)} {kk : List R → E} : wE X (eArgs ((false, a) :: as) kk) en bx Q ↔ wE X a en bx fun x b => wE X (eArgs as fun xs => kk (x :: xs)) en b Q := wE_bind
/-- a star's items -/
def wS (bx : Bx) (x : R) (P : List R → Prop) : Prop := match itS bx x with
  | some ys => P ys
  | none => False
theorem wE_star {a : E} {as : List (Bool × E)} {kk : List R → E} : wE X (eArgs ((true, a) :: as) kk) en bx Q ↔ wE X a en bx fun x b => wS b x fun ys => wE X (eArgs as fun xs => kk (ys ++ xs)) en b Q :=
  wE_bind.trans (wE_post fun r b => by
    unfold wE wS
    simp only
    cases itS b r with
    | none => exact wR_st
    | some ys => exact Iff.rfl)
theorem wE_all0 {kk : List R → E} : wE X (eAll [] kk) en bx Q ↔ wE X (kk []) en bx Q := Iff.rfl
theorem wE_all {a : E} {as : List E} {kk : List R → E} : wE X (eAll (a :: as) kk) en bx Q ↔ wE X a en bx fun x b => wE X (eAll as fun xs => kk (x :: xs)) en b Q := wE_bind
theorem wC_cE {kk : R → C} : wC (cE m kk) en bx D ↔ wE (D.xc en) m en bx fun r b => wC (kk r) en b D := by
  unfold wC wE cE
  cases m en bx <;> simp only [wR_ok, wR_exc, wR_st, wT_exc, wT_st]
theorem wC_seq1 {c : C} : wC (cSeq [c]) en bx D ↔ wC c en bx D := Iff.rfl
theorem wC_seq {c d : C} {cs : List C} : wC (cSeq (c :: d :: cs)) en bx D ↔ wC c en bx { D with nx := fun en' b => wC (cSeq (d :: cs)) en' b D } := by
  unfold wC
  show wT D (match c en bx with | .nx en' bx' => cSeq (d :: cs) en' bx' | x => x) ↔ _
  cases c en bx <;> simp only [wT_nx, wT_rt, wT_ct, wT_exc, wT_st]
theorem wC_ret : wC (cRet m) en bx D ↔ wE (D.xc en) m en bx D.rt := wC_cE.trans (wE_post fun _ _ => wT_rt)
theorem wC_retN : wC cRetN en bx D ↔ D.rt (.v .non) bx := wT_rt
theorem wC_exp : wC (cExp m) en bx D ↔ wE (D.xc en) m en bx fun _ b => D.nx en b := wC_cE.trans (wE_post fun _ _ => wT_nx)
theorem wC_cont : wC cCont en bx D ↔ D.ct en bx := wT_ct
theorem wC_pass : wC cPass en bx D ↔ D.nx en bx := wT_nx
theorem wC_asg {i : Nat} (h : i < en.length) : wC (cAsg (.nm i) m) en bx D ↔ wE (D.xc en) m en bx fun r b => D.nx (en.set i (some r)) b :=
  wC_cE.trans (wE_post fun r b => by
    unfold wC
    simp only [asg, if_pos h]
    exact wT_nx)
def wB (P : Bool → Prop) : R → Prop
  | .v (.bl c) => P c
  | _ => False
theorem wB_bl {P : Bool → Prop} {c : Bool} : wB P (.v (.bl c)) ↔ P c := Iff.rfl
theorem wB_ex {P : Bool → Prop} {r : R} : (∃ c, r = .v (.bl c) ∧ P c) ↔ wB P r := by
  constructor
  · rintro ⟨c, rfl, h⟩
    exact h
  · intro h
    cases r with
    | v w =>
      cases w with
      | bl c => exact ⟨c, rfl, h⟩
      | _ => exact h.elim
    | r _ => exact h.elim
    | clo _ _ => exact h.elim
/-- by a bool -/
theorem bool_E {r : R} {kk : Bool → E} {P : Bool → Prop} (h : ∀ c, wE X (kk c) en bx Q ↔ P c) : wE X (match r with | .v (.bl b) => kk b | _ => fun _ _ => .stuck) en bx Q ↔ wB P r := by
  cases r with
  | v w =>
    cases w with
    | bl c => exact h c
    | _ => exact wR_st
  | r _ => exact wR_st
  | clo _ _ => exact wR_st
theorem bool_C {r : R} {kk : Bool → C} {P : Bool → Prop} (h : ∀ c, wC (kk c) en bx D ↔ P c) : wC (match r with | .v (.bl b) => kk b | _ => fun _ _ => .stuck) en bx D ↔ wB P r := by
  cases r with
  | v w =>
    cases w with
    | bl c => exact h c
    | _ => exact wT_st
  | r _ => exact wT_st
  | clo _ _ => exact wT_st
theorem wE_bool {kk : Bool → E} : wE X (eBool m kk) en bx Q ↔ wE X m en bx fun r b1 => wB (fun c => wE X (kk c) en b1 Q) r := wE_bind.trans (wE_post fun _ _ => bool_E fun _ => Iff.rfl)
theorem wC_ifB {t : E} {a b : C} : wC (cIf t a b) en bx D ↔ wE (D.xc en) t en bx fun r b' => wB (fun c => (c = true → wC a en b' D) ∧ (c = false → wC b en b' D)) r :=
  wC_cE.trans (wE_post fun r b' => bool_C fun c => by cases c <;> simp)
theorem wE_not {a : E} : wE X (eNot a) en bx Q ↔ wE X a en bx fun r b1 => wB (fun c => Q (.v (.bl (!c))) b1) r := wE_bind.trans (wE_post fun _ _ => bool_E fun _ => wE_C)
theorem wE_and1 {a : E} : wE X (eAnd [a]) en bx Q ↔ wE X a en bx Q := Iff.rfl
theorem wE_or1 {a : E} : wE X (eOr [a]) en bx Q ↔ wE X a en bx Q := Iff.rfl
theorem wE_andB {a b : E} {l : List E} : wE X (eAnd (a :: b :: l)) en bx Q ↔ wE X a en bx fun r b1 => wB (fun c => (c = true → wE X (eAnd (b :: l)) en b1 Q) ∧ (c = false → Q (.v (.bl false)) b1)) r :=
  wE_bind.trans (wE_post fun _ _ => bool_E fun c => by cases c <;> simp [wE_C])
theorem wE_orB {a b : E} {l : List E} : wE X (eOr (a :: b :: l)) en bx Q ↔ wE X a en bx fun r b1 => wB (fun c => (c = true → Q (.v (.bl true)) b1) ∧ (c = false → wE X (eOr (b :: l)) en b1 Q)) r :=
  wE_bind.trans (wE_post fun _ _ => bool_E fun c => by cases c <;> simp [wE_C])
theorem wE_if {t a b : E} : wE X (eIf t a b) en bx Q ↔ wE X t en bx fun r b1 => wB (fun c => (c = true → wE X a en b1 Q) ∧ (c = false → wE X b en b1 Q)) r :=
  wE_bind.trans (wE_post fun _ _ => bool_E fun c => by cases c <;> simp)
theorem wE_chain {o1 o2 : Cop} {a b d : E} : wE X (eChain o1 o2 a b d) en bx Q ↔ wE X a en bx fun x b1 => wE X b en b1 fun y b2 => wR X (fun r b3 => wB (fun t => (t = true → wE X d en b3 fun z b4 => wR X Q (opCmp o2 [y, z] b4)) ∧ (t = false → Q (.v (.bl false)) b3)) r) (opCmp o1 [x, y] b2) :=
  wE_bind.trans (wE_post fun x b1 => wE_bind.trans (wE_post fun y b2 => wE_bind.trans (wR_post fun r b3 => bool_E fun t => by
    cases t with
    | true => simp; exact wE_bind
    | false => simp [wE_C])))
variable {a b o i e : E} {f : Op}
theorem wE_op1 : wE X (eOp [a] f) en bx Q ↔ wE X a en bx fun x b => wR X Q (f [x] b) := wE_bind
theorem wE_op2 : wE X (eOp [a, b] f) en bx Q ↔ wE X a en bx fun x b1 => wE X b en b1 fun y b2 => wR X Q (f [x, y] b2) := wE_bind.trans (wE_post fun _ _ => wE_bind)
theorem wE_op3 : wE X (eOp [a, b, e] f) en bx Q ↔ wE X a en bx fun x b1 => wE X b en b1 fun y b2 => wE X e en b2 fun z b3 => wR X Q (f [x, y, z] b3) := wE_bind.trans (wE_post fun _ _ => wE_op2 (f := fun xs => f (_ :: xs)))
theorem wE_fn0 : wE X (eFn [] f) en bx Q ↔ wR X Q (f [] bx) := Iff.rfl
theorem wE_fn1 : wE X (eFn [(false, a)] f) en bx Q ↔ wE X a en bx fun x b => wR X Q (f [x] b) := wE_bind
theorem wE_fn2 : wE X (eFn [(false, a), (false, b)] f) en bx Q ↔ wE X a en bx fun x b1 => wE X b en b1 fun y b2 => wR X Q (f [x, y] b2) := wE_op2
theorem wE_fn3 : wE X (eFn [(false, a), (false, b), (false, e)] f) en bx Q ↔ wE X a en bx fun x b1 => wE X b en b1 fun y b2 => wE X e en b2 fun z b3 => wR X Q (f [x, y, z] b3) := wE_op3
theorem wE_lst {m : Bool} {as : List (Bool × E)} : wE X (eLst m as) en bx Q ↔ wE X (eArgs as fun xs _ bx => mkL m xs bx) en bx Q := Iff.rfl
theorem wE_tup {as : List (Bool × E)} : wE X (eTup as) en bx Q ↔ wE X (eArgs as fun xs _ bx => mkT xs bx) en bx Q := Iff.rfl
theorem wE_lst0 : wE X (eLst false []) en bx Q ↔ Q (.v (.lst [])) bx := by
  show wR X Q (mkL false [] bx) ↔ _
  have : mkL false [] bx = .ok (.v (.lst [])) bx := by simp [mkL, vals, mapO, SL]
  rw [this]; exact wR_ok
theorem wE_tup0 : wE X (eTup []) en bx Q ↔ Q (.v (.tup [])) bx := by
  show wR X Q (mkT [] bx) ↔ _
  have : mkT [] bx = .ok (.v (.tup [])) bx := by simp [mkT, vals, mapO, SL]
  rw [this]; exact wR_ok
/-- the ends of a slice -/
def wI (P : Int → Prop) : R → Prop
  | .v (.int i) => P i
  | _ => False
theorem wI_int {P : Int → Prop} {i : Int} : wI P (.v (.int i)) ↔ P i := Iff.rfl
theorem part_E {kk : Option Int → E} : wE X (ePart (some m) kk) en bx Q ↔ wE X m en bx fun r b => wI (fun i => wE X (kk (some i)) en b Q) r :=
  wE_bind.trans (wE_post fun r b => by
    cases r with
    | v w =>
      cases w with
      | int i => exact Iff.rfl
      | _ => exact wR_st
    | r _ => exact wR_st
    | clo _ _ => exact wR_st)
theorem part_0 {kk : Option Int → E} : wE X (ePart none kk) en bx Q ↔ wE X (kk none) en bx Q := Iff.rfl
theorem wE_cutA {m : Bool} : wE X (eCut m a none none) en bx Q ↔ wE X a en bx fun x b1 => wR X Q (cutR m x none none b1) := wE_bind
theorem wE_cutL {m : Bool} : wE X (eCut m a (some e) none) en bx Q ↔ wE X a en bx fun x b1 => wE X e en b1 fun r b2 => wI (fun i => wR X Q (cutR m x (some i) none b2)) r := wE_bind.trans (wE_post fun _ _ => part_E)
theorem wE_cutR {m : Bool} : wE X (eCut m a none (some e)) en bx Q ↔ wE X a en bx fun x b1 => wE X e en b1 fun r b2 => wI (fun i => wR X Q (cutR m x none (some i) b2)) r := wE_bind.trans (wE_post fun _ _ => part_0.trans part_E)
theorem wE_cutB {m : Bool} : wE X (eCut m a (some e) (some o)) en bx Q ↔ wE X a en bx fun x b1 => wE X e en b1 fun r b2 => wI (fun i => wE X o en b2 fun r3 b3 => wI (fun j => wR X Q (cutR m x (some i) (some j) b3)) r3) r :=
  wE_bind.trans (wE_post fun x b1 => part_E.trans (wE_post fun r b2 => by
    cases r with
    | v w =>
      cases w with
      | int i => exact part_E
      | _ => exact Iff.rfl
    | r _ => exact Iff.rfl
    | clo _ _ => exact Iff.rfl))
theorem wC_set : wC (cSet o i e) en bx D ↔ wE (D.xc en) e en bx fun y b1 => wE (D.xc en) o en b1 fun x b2 => wE (D.xc en) i en b2 fun k b3 => ∃ b4, setR y x k b3 = some b4 ∧ D.nx en b4 :=
  wC_cE.trans (wE_post fun y b1 => wC_cE.trans (wE_post fun x b2 => wC_cE.trans (wE_post fun k b3 => by
    show wT D (match setR y x k b3 with | some b4 => .nx en b4 | none => .stuck) ↔ _
    cases e2 : setR y x k b3 with
    | none => exact ⟨fun h => (wT_st.mp h).elim, fun ⟨_, h, _⟩ => by simp at h⟩
    | some b4 => exact ⟨fun h => ⟨b4, rfl, wT_nx.mp h⟩, fun ⟨b5, h, z⟩ => by
        cases h
        exact wT_nx.mpr z⟩)))
/-- targets in a row -/
theorem wC_asgT {ts : List Tg} : wC (cAsg (.tp ts) m) en bx D ↔ wE (D.xc en) m en bx fun r b => ∃ en', asg (.tp ts) (.one r) en b = some en' ∧ D.nx en' b :=
  wC_cE.trans (wE_post fun r b => by
    show wT D (match asg (.tp ts) (.one r) en b with | some en' => .nx en' b | none => .stuck) ↔ _
    cases e2 : asg (.tp ts) (.one r) en b with
    | none => exact ⟨fun h => (wT_st.mp h).elim, fun ⟨_, h, _⟩ => by simp at h⟩
    | some b4 => exact ⟨fun h => ⟨b4, rfl, wT_nx.mp h⟩, fun ⟨b5, h, z⟩ => by
        cases h
        exact wT_nx.mpr z⟩)
theorem wC_par {i j : Nat} (h : i ≠ j ∧ i < en.length ∧ j < en.length) : wC (cPar i j a b) en bx D ↔ wE (D.xc en) a en bx fun x b1 => wE (D.xc en) b en b1 fun y b2 => D.nx ((en.set i (some x)).set j (some y)) b2 :=
  wC_cE.trans (wE_post fun x b1 => wC_cE.trans (wE_post fun y b2 => by
    unfold wC
    simp only [if_pos h]
    exact wT_nx))
theorem wC_for {tg : Tg} {it : I} {body : C} {xs : List It} {g : Option (Nat × Box)} {b1 : Bx} (hit : it en bx = .ok xs g b1) : wC (cFor tg it body) en bx D ↔ wC (forGo tg body g xs) en b1 D := by
  unfold wC cFor
  rw [hit]
/-- a loop over what is at hand, the guard's box not touched: an invariant by the number of turns gone -/
theorem forGo_inv {tg : Tg} {body : C} {g : Option (Nat × Box)} (J : Nat → En → Bx → Prop) (hg : ∀ n en b, J n en b → guarded b g = true) : ∀ (xs : List It) (n : Nat) (en : En) (bx : Bx), J n en bx →
    (∀ (j : Nat) (x : It) (en : En) (b : Bx), xs[j]? = some x → J (n + j) en b → ∃ en', asg tg x en b = some en' ∧ wC body en' b { nx := J (n + j + 1), rt := D.rt, ct := J (n + j + 1), xc := D.xc }) →
    (∀ en b, J (n + xs.length) en b → D.nx en b) → wC (forGo tg body g xs) en bx D
  | [], n, en, bx, h0, _, hD => by
    unfold wC forGo
    rw [if_pos (hg n en bx h0)]
    exact wT_nx.mpr (hD en bx h0)
  | x :: xs, n, en, bx, h0, hs, hD => by
    obtain ⟨en', h1, h2⟩ := hs 0 x en bx rfl h0
    unfold wC forGo
    rw [if_pos (hg n en bx h0), h1]
    have rec_ : ∀ en2 b2, J (n + 1) en2 b2 → wC (forGo tg body g xs) en2 b2 D := fun en2 b2 h => forGo_inv J hg xs (n + 1) en2 b2 h (fun j y e b hj hJ => by
      have := hs (j + 1) y e b (by simpa using hj) (by rw [show n + (j + 1) = n + 1 + j by omega]; exact hJ)
      rw [show n + (j + 1) + 1 = n + 1 + j + 1 by omega] at this
      exact this) fun e b hJ => hD e b (by rw [show n + (x :: xs).length = n + 1 + xs.length by simp; omega]; exact hJ)
    unfold wC at h2
    show wT D (match body en' bx with | .nx en2 bx2 => forGo tg body g xs en2 bx2 | .ct en2 bx2 => forGo tg body g xs en2 bx2 | r => r)
    cases e : body en' bx with
    | nx en2 b2 => rw [e] at h2; exact rec_ en2 b2 (wT_nx.mp h2)
    | ct en2 b2 => rw [e] at h2; exact rec_ en2 b2 (wT_ct.mp h2)
    | rt r b2 =>
      rw [e] at h2
      have h3 := wT_rt.mp h2
      exact wT_rt.mpr h3
    | exc en2 w b2 =>
      rw [e] at h2
      have h3 := wT_exc.mp h2
      exact wT_exc.mpr h3
    | stuck => rw [e] at h2; exact (wT_st.mp h2).elim
theorem wC_run {n m : Nat} {c : C} {rs : List R} {Q : R → Bx → Prop} (hl : rs.length = n) (h : wC c (rs.map some ++ List.replicate (m - rs.length) none) bx { nx := fun _ b => Q (.v .non) b, rt := Q, xc := fun _ w b => X w b }) : wR X Q (runF n m c rs bx) := by
  unfold runF run
  rw [if_pos hl]
  unfold wC at h
  cases e : c (rs.map some ++ List.replicate (m - rs.length) none) bx with
  | rt r b => rw [e] at h; exact wR_ok.mpr (wT_rt.mp h)
  | nx _ _ => rw [e] at h; exact wR_ok.mpr (wT_nx.mp h)
  | ct _ _ => rw [e] at h; exact (wT_ct.mp h).elim
  | exc _ _ _ => rw [e] at h; exact wR_exc.mpr (wT_exc.mp h)
  | stuck => rw [e] at h; exact (wT_st.mp h).elim
end
/-! ### the pen: box n holds the script's row, the count, the number left -/
def penB (xs : List W) (i v : Int) : Box := .lst [.v (.lst xs), .v (.int i), .v (.int v)]
section
variable {bx : Bx} {n : Nat} {xs : List W} {i v : Int}
theorem pen0 (h : bx[n]? = some (penB xs i v)) : opIdx [.r n, .v (.int 0)] bx = .ok (.v (.lst xs)) bx := by
  simp [opIdx, dcO, itS, itL, h, penB, atW]
theorem pen1 (h : bx[n]? = some (penB xs i v)) : opIdx [.r n, .v (.int 1)] bx = .ok (.v (.int i)) bx := by
  simp [opIdx, dcO, itS, itL, h, penB, atW]
theorem pen2 (h : bx[n]? = some (penB xs i v)) : opIdx [.r n, .v (.int 2)] bx = .ok (.v (.int v)) bx := by
  simp [opIdx, dcO, itS, itL, h, penB, atW]
theorem penSet1 {j : Int} (h : bx[n]? = some (penB xs i v)) : setR (.v (.int j)) (.r n) (.v (.int 1)) bx = some (bx.set n (penB xs j v)) := by
  simp [setR, h, penB, atW]
theorem penSet2 {j : Int} (h : bx[n]? = some (penB xs i v)) : setR (.v (.int j)) (.r n) (.v (.int 2)) bx = some (bx.set n (penB xs i j)) := by
  simp [setR, h, penB, atW]
end
end AM
/-! text AmP2 -/
set_option Elab.async false
set_option linter.all false
set_option maxRecDepth 100000
namespace AM
open PySem
theorem lays_ints (ns : List Int) : W.lays (ns.map W.int) = true := by
  induction ns with
  | nil => rfl
  | cons a t ih => simp [W.lays, W.lay, ih]
theorem dps_ints (ns : List Int) : W.dps (ns.map W.int) ≤ 1 := by
  induction ns with
  | nil => simp [W.dps]
  | cons a t ih => simp [W.dps, W.dp]; omega
theorem isDat_ints (ns : List Int) : (W.lst (ns.map W.int)).isDat = true := by
  have := dps_ints ns
  simp [W.isDat, W.lay, lays_ints, W.dp]
  omega
def nextB : C := cSeq [cAsg (.nm 1) (eOp [eVar 0, eC (.int 1)] opIdx),
    cSet (eVar 0) (eC (.int 1)) (eOp [eVar 1, eC (.int 1)] (opBin .add false)),
    cAsg (.nm 2) (eOp [eOp [eVar 1, eC (.int 1051)] (opBin .mul false), eC (.int 53)] (opBin .add false)),
    cIf (eOp [eOp [eVar 0, eC (.int 0)] opIdx, eLst false []] (opCmp .ne)) (cSeq [cAsg (.nm 2) (eOp [eOp [eVar 0, eC (.int 0)] opIdx, eOp [eFn [(false, eVar 1)] opInt, eFn [(false, eOp [eVar 0, eC (.int 0)] opIdx)] opLen] (opBin .mod false)] opIdx)]) (cPass),
    cIf (eAnd [eOp [eVar 1, eFn [(false, eOp [eVar 0, eC (.int 0)] opIdx)] opLen] (opCmp .lt), eOp [eVar 2, eOp [eC (.int 10), eC (.int 18)] (opBin .pow false)] (opCmp .ge)]) (cSeq [cRet (eVar 2)]) (cPass),
    cAsg (.nm 3) (eOp [eFn [(false, eOp [eOp [eOp [eFn [(false, eVar 2)] opInt, eC (.int 2147483587)] (opBin .mod false), eOp [eVar 1, eC (.int 30103)] (opBin .mul false)] (opBin .add false), eC (.int 79)] (opBin .add false))] opInt, eC (.int 2147483587)] (opBin .mod false)),
    cAsg (.nm 4) (eOp [eFn [(false, eOp [eOp [eOp [eVar 3, eVar 3] (opBin .mul false), eOp [eVar 1, eC (.int 70039)] (opBin .mul false)] (opBin .add false), eC (.int 61)] (opBin .add false))] opInt, eC (.int 2147483563)] (opBin .mod false)),
    cAsg (.nm 5) (eOp [eFn [(false, eOp [eOp [eOp [eVar 4, eVar 4] (opBin .mul false), eVar 3] (opBin .add false), eOp [eOp [eVar 1, eVar 1] (opBin .mul false), eC (.int 37)] (opBin .mul false)] (opBin .add false))] opInt, eC (.int 2147483549)] (opBin .mod false)),
    cRet (eOp [eOp [eOp [eOp [eVar 5, eC (.int 2147483587)] (opBin .mul false), eVar 4] (opBin .add false), eC (.int 2147483563)] (opBin .mul false), eVar 3] (opBin .add false))]
def drawB (F : Fn) (nx : Nat) : C := cSeq [cIf (eOp [eOp [eVar 0, eC (.int 2)] opIdx, eVar 1] (opCmp .lt)) (cSeq [cSet (eVar 0) (eC (.int 2)) (eFn [(false, eVar 0)] (opCall F nx false))]) (cPass),
    cAsg (.nm 2) (eOp [eFn [(false, eOp [eVar 0, eC (.int 2)] opIdx)] opInt, eVar 1] (opBin .mod false)),
    cSet (eVar 0) (eC (.int 2)) (eOp [eOp [eVar 0, eC (.int 2)] opIdx, eVar 1] (opBin .fdiv false)),
    cRet (eVar 2)]
section
variable {bx : Bx} {i j : Int}
theorem opl_add {m : Bool} : opBin .add m [.v (.int i), .v (.int j)] bx = .ok (.v (.int (i + j))) bx := rfl
theorem opl_mul {m : Bool} (h : (i64 i || i64 j) = true) : opBin .mul m [.v (.int i), .v (.int j)] bx = .ok (.v (.int (i * j))) bx := by
  show (if (i64 i || i64 j) = true then Res.ok (.v (.int (i * j))) bx else .stuck) = _
  rw [if_pos h]
theorem opl_mod {m : Bool} (h : 0 < j) : opBin .mod m [.v (.int i), .v (.int j)] bx = .ok (.v (.int (i % j))) bx := by
  show (match (if 0 < j then some (i % j) else none) with | some k => Res.ok (.v (.int k)) bx | none => .stuck) = _
  rw [if_pos h]
theorem opl_fdiv {m : Bool} (h : 0 < j ∧ j < 1073741824) : opBin .fdiv m [.v (.int i), .v (.int j)] bx = .ok (.v (.int (i / j))) bx := by
  show (match (if 0 < j ∧ j < 1073741824 then some (i / j) else none) with | some k => Res.ok (.v (.int k)) bx | none => .stuck) = _
  rw [if_pos h]
theorem opl_int : opInt [.v (.int i)] bx = .ok (.v (.int i)) bx := rfl
theorem opl_lt : opCmp .lt [.v (.int i), .v (.int j)] bx = .ok (.v (.bl (decide (i < j)))) bx := rfl
theorem opl_ge : opCmp .ge [.v (.int i), .v (.int j)] bx = .ok (.v (.bl (decide (j ≤ i)))) bx := rfl
theorem opl_lenI {ns : List Int} : opLen [.v (.lst (ns.map W.int))] bx = .ok (.v (.int ns.length)) bx := by
  simp [opLen, lenO, itS, itL]
theorem opl_atI {ns : List Int} (h0 : 0 ≤ j) (h1 : j < ns.length) : ∃ k, k ∈ ns ∧ opIdx [.v (.lst (ns.map W.int)), .v (.int j)] bx = .ok (.v (.int k)) bx := by
  have hl : j.toNat < ns.length := by omega
  refine ⟨ns[j.toNat], List.getElem_mem hl, ?_⟩
  simp [opIdx, dcO, itS, itL, atW, h0, h1, List.getElem?_eq_getElem hl]
theorem opl_neE {ns : List Int} : opCmp .ne [.v (.lst (ns.map W.int)), .v (.lst [])] bx = .ok (.v (.bl (decide (ns ≠ [])))) bx := by
  have h2 : (W.lst ([] : List W)).isDat = true := isDat_ints []
  simp [opCmp, cmpB, eqR, view, eqW, isDat_ints, h2, okO, okB]
  cases ns <;> simp [W.pyeq, W.pyeqs]
end
end AM
/-! text AmP3 -/
set_option Elab.async false
set_option linter.all false
set_option maxRecDepth 100000
set_option maxHeartbeats 1000000
namespace AM
open PySem
section
variable {bx : Bx} {n : Nat} {ns : List Int} {i v : Int}
theorem i64_of {k : Int} (h0 : 0 ≤ k) (h : k < 2 ^ 64) : i64 k = true := by
  unfold i64
  simp
  omega
theorem opl_pow18 {m : Bool} : opBin .pow m [.v (.int 10), .v (.int 18)] bx = .ok (.v (.int (10 ^ 18))) bx := by
  simp [opBin, binR, arR, arI, i64]
/-- the mixing of a cell -/
def nextT : C := cSeq [cIf (eAnd [eOp [eVar 1, eFn [(false, eOp [eVar 0, eC (.int 0)] opIdx)] opLen] (opCmp .lt), eOp [eVar 2, eOp [eC (.int 10), eC (.int 18)] (opBin .pow false)] (opCmp .ge)]) (cSeq [cRet (eVar 2)]) (cPass),
    cAsg (.nm 3) (eOp [eFn [(false, eOp [eOp [eOp [eFn [(false, eVar 2)] opInt, eC (.int 2147483587)] (opBin .mod false), eOp [eVar 1, eC (.int 30103)] (opBin .mul false)] (opBin .add false), eC (.int 79)] (opBin .add false))] opInt, eC (.int 2147483587)] (opBin .mod false)),
    cAsg (.nm 4) (eOp [eFn [(false, eOp [eOp [eOp [eVar 3, eVar 3] (opBin .mul false), eOp [eVar 1, eC (.int 70039)] (opBin .mul false)] (opBin .add false), eC (.int 61)] (opBin .add false))] opInt, eC (.int 2147483563)] (opBin .mod false)),
    cAsg (.nm 5) (eOp [eFn [(false, eOp [eOp [eOp [eVar 4, eVar 4] (opBin .mul false), eVar 3] (opBin .add false), eOp [eOp [eVar 1, eVar 1] (opBin .mul false), eC (.int 37)] (opBin .mul false)] (opBin .add false))] opInt, eC (.int 2147483549)] (opBin .mod false)),
    cRet (eOp [eOp [eOp [eOp [eVar 5, eC (.int 2147483587)] (opBin .mul false), eVar 4] (opBin .add false), eC (.int 2147483563)] (opBin .mul false), eVar 3] (opBin .add false))]
theorem i64c {a b : Int} (h : i64 b = true) : (i64 a || i64 b) = true := by rw [h]; simp
theorem i64l {a b : Int} (h : i64 a = true) : (i64 a || i64 b) = true := by rw [h]; simp
theorem modlt {a b : Int} (hb : 0 < b) (hb2 : b < 2 ^ 64) : i64 (a % b) = true := i64_of (Int.emod_nonneg a (by omega)) (Int.lt_trans (Int.emod_lt_of_pos a hb) hb2)
theorem nextT_ok {c0 : Int} {i' : Int} (g : bx[n]? = some (penB (ns.map W.int) i' v)) (h0 : 0 ≤ i) (h1 : i < 2 ^ 62) :
    wC nextT [some (.r n), some (.v (.int i)), some (.v (.int c0)), none, none, none] bx { nx := fun _ _ => False, rt := fun r b => ∃ k : Int, 0 ≤ k ∧ r = .v (.int k) ∧ b = bx } := by
  have k1 : i64 30103 = true := by decide
  have k2 : i64 70039 = true := by decide
  have k3 : i64 37 = true := by decide
  have k4 : i64 2147483587 = true := by decide
  have k5 : i64 2147483563 = true := by decide
  have k6 : ∀ a : Int, i64 (a % 2147483587) = true := fun a => modlt (by decide) (by decide)
  have k7 : ∀ a : Int, i64 (a % 2147483563) = true := fun a => modlt (by decide) (by decide)
  have k8 : i64 i = true := i64_of h0 (by omega)
  unfold nextT
  simp [wC_seq, wC_seq1, wC_ret, wC_pass, wE_lst0, opl_neE, wE_andB, wE_and1, wB_bl, opl_int, opl_pow18, opl_lenI, opl_lt, opl_ge, wC_asg, wC_set, wE_op1, wE_op2, wE_fn1, wE_C, wR_ok, wE_var, opl_add, opl_mul, opl_mod, k1, k2, k3, k4, k5, k6, k7, k8, pen0 g, wC_ifB]
  have key : ∀ a b c : Int, 0 ≤ (a % 2147483549 * 2147483587 + b % 2147483563) * 2147483563 + c % 2147483587 := fun a b c => by
    have q1 := Int.emod_nonneg a (show (2147483549 : Int) ≠ 0 by decide)
    have q2 := Int.emod_nonneg b (show (2147483563 : Int) ≠ 0 by decide)
    have q3 := Int.emod_nonneg c (show (2147483587 : Int) ≠ 0 by decide)
    omega
  exact ⟨fun _ => ⟨fun h => by omega, fun _ => key _ _ _⟩, fun _ => key _ _ _⟩
theorem next_ok (h : bx[n]? = some (penB (ns.map W.int) i v)) (h0 : 0 ≤ i) (h1 : i < 2 ^ 62) :
    wC nextB [some (.r n), none, none, none, none, none] bx { nx := fun _ _ => False, rt := fun r b => ∃ k : Int, 0 ≤ k ∧ r = .v (.int k) ∧ b = bx.set n (penB (ns.map W.int) (i + 1) v) } := by
  have hl : n < bx.length := by
    rw [List.getElem?_eq_some_iff] at h
    exact h.1
  have g : (bx.set n (penB (ns.map W.int) (i + 1) v))[n]? = some (penB (ns.map W.int) (i + 1) v) := by rw [List.getElem?_set_self hl]
  have e : nextB = cSeq (cAsg (.nm 1) (eOp [eVar 0, eC (.int 1)] opIdx) :: cSet (eVar 0) (eC (.int 1)) (eOp [eVar 1, eC (.int 1)] (opBin .add false)) :: cAsg (.nm 2) (eOp [eOp [eVar 1, eC (.int 1051)] (opBin .mul false), eC (.int 53)] (opBin .add false)) ::
    cIf (eOp [eOp [eVar 0, eC (.int 0)] opIdx, eLst false []] (opCmp .ne)) (cSeq [cAsg (.nm 2) (eOp [eOp [eVar 0, eC (.int 0)] opIdx, eOp [eFn [(false, eVar 1)] opInt, eFn [(false, eOp [eVar 0, eC (.int 0)] opIdx)] opLen] (opBin .mod false)] opIdx)]) (cPass) :: [nextT]) := rfl
  rw [e]
  have m1 : i64 1051 = true := by decide
  have tail : ∀ c0 : Int, wC nextT [some (.r n), some (.v (.int i)), some (.v (.int c0)), none, none, none] (bx.set n (penB (ns.map W.int) (i + 1) v)) { nx := fun _ _ => False, rt := fun r b => ∃ k : Int, 0 ≤ k ∧ r = .v (.int k) ∧ b = bx.set n (penB (ns.map W.int) (i + 1) v) } := fun c0 => nextT_ok g h0 h1
  simp [wC_seq, wC_seq1, wC_pass, wE_lst0, opl_neE, wB_bl, opl_int, opl_lenI, wC_asg, wC_set, wE_op1, wE_op2, wE_fn1, wE_C, wR_ok, wE_var, opl_add, opl_mul, m1, pen1 h, penSet1 h, pen0 g, wC_ifB]
  refine ⟨fun hn => ?_, fun _ => tail _⟩
  have hp : (0 : Int) < ns.length := by
    have := List.length_pos_iff.mpr hn
    omega
  rw [opl_mod hp, wR_ok]
  obtain ⟨k, _, e⟩ := opl_atI (bx := bx.set n (penB (ns.map W.int) (i + 1) v)) (Int.emod_nonneg i (by omega)) (Int.emod_lt_of_pos i hp)
  rw [e, wR_ok]
  exact tail k
/-- the next draw's number, left in a call -/
theorem next_run (h : bx[n]? = some (penB (ns.map W.int) i v)) (h0 : 0 ≤ i) (h1 : i < 2 ^ 62) : ∃ k : Int, 0 ≤ k ∧ runF 1 6 nextB [.r n] bx = .ok (.v (.int k)) (bx.set n (penB (ns.map W.int) (i + 1) v)) := by
  have z := next_ok h h0 h1
  obtain ⟨r, b, e, k, hk, rfl, rfl⟩ := wR_get (wC_run (n := 1) (m := 6) (c := nextB) (rs := [.r n]) (bx := bx) (Q := fun r b => ∃ k : Int, 0 ≤ k ∧ r = .v (.int k) ∧ b = bx.set n (penB (ns.map W.int) (i + 1) v)) rfl (wC_mono z (fun _ _ h => h.elim) (fun _ _ h => h) (fun _ _ h => h.elim)))
  exact ⟨k, hk, e⟩
theorem backOk_set {b' : Box} (hb : boxLt bx.length b' = true) : ∀ (m : Nat) (l : Bx) (n : Nat), boxLt m b' = true → backOk m l (l.set n b') = true
  | m, [], n, _ => rfl
  | m, a :: l, 0, h => by
    have rfl_ : ∀ l : Bx, backOk m l l = true := fun l => by
      induction l with
      | nil => rfl
      | cons a t ih => simp [backOk, ih]
    simp [backOk, h, rfl_]
  | m, a :: l, n + 1, h => by simp [backOk, backOk_set hb m l n h]
theorem settle_pen {k : Int} {j u : Int} (hl : n < bx.length) : settle bx (.ok (.v (.int k)) (bx.set n (penB (ns.map W.int) j u))) = .ok (.v (.int k)) (bx.set n (penB (ns.map W.int) j u)) := by
  have hb : ∀ m, boxLt m (penB (ns.map W.int) j u) = true := fun m => by simp [boxLt, penB, refLt]
  unfold settle
  have e : backOk bx.length bx (bx.set n (penB (ns.map W.int) j u)) = true := backOk_set (bx := bx) (hb _) _ _ _ (hb _)
  simp [viewF, e, List.take_of_length_le]
def DrawP (bx : Bx) (n : Nat) (ns : List Int) (i u : Int) (r : R) (b : Bx) : Prop := ∃ (k j v' : Int), 0 ≤ k ∧ k < u ∧ i ≤ j ∧ j ≤ i + 1 ∧ 0 ≤ v' ∧ r = .v (.int k) ∧ b = bx.set n (penB (ns.map W.int) j v')
/-- a digit drawn: 0 up to under, the pen stays a pen -/
theorem draw_run {F : Fn} {nx : Nat} {u : Int} (hF : F nx = runF 1 6 nextB) (h : bx[n]? = some (penB (ns.map W.int) i v)) (h0 : 0 ≤ i) (h1 : i < 2 ^ 62) (hv : 0 ≤ v) (u0 : 0 < u) (u1 : u < 1073741824) :
    ∃ (k j v' : Int), 0 ≤ k ∧ k < u ∧ i ≤ j ∧ j ≤ i + 1 ∧ 0 ≤ v' ∧ runF 2 3 (drawB F nx) [.r n, .v (.int u)] bx = .ok (.v (.int k)) (bx.set n (penB (ns.map W.int) j v')) := by
  have hl : n < bx.length := by
    rw [List.getElem?_eq_some_iff] at h
    exact h.1
  -- behind the refill
  let tailB : C := cSeq [cAsg (.nm 2) (eOp [eFn [(false, eOp [eVar 0, eC (.int 2)] opIdx)] opInt, eVar 1] (opBin .mod false)), cSet (eVar 0) (eC (.int 2)) (eOp [eOp [eVar 0, eC (.int 2)] opIdx, eVar 1] (opBin .fdiv false)), cRet (eVar 2)]
  have tail : ∀ (j x : Int) (b : Bx), b[n]? = some (penB (ns.map W.int) j x) → 0 ≤ x → wC tailB [some (.r n), some (.v (.int u)), none] b { nx := fun _ _ => False, rt := fun r b2 => r = .v (.int (x % u)) ∧ b2 = b.set n (penB (ns.map W.int) j (x / u)) } := fun j x b hb hx => by
    show wC (cSeq _) _ _ _
    simp [wC_seq, wC_seq1, wC_ret, opl_int, wC_asg, wC_set, wE_op1, wE_op2, wE_fn1, wE_C, wR_ok, wE_var, opl_mod u0, opl_fdiv ⟨u0, u1⟩, pen2 hb, penSet2 hb]
  have all : wC (drawB F nx) [some (.r n), some (.v (.int u)), none] bx { nx := fun _ _ => False, rt := DrawP bx n ns i u } := by
    have e : drawB F nx = cSeq [cIf (eOp [eOp [eVar 0, eC (.int 2)] opIdx, eVar 1] (opCmp .lt)) (cSeq [cSet (eVar 0) (eC (.int 2)) (eFn [(false, eVar 0)] (opCall F nx false))]) (cPass), tailB] := rfl
    rw [e]
    have wk : ∀ (j x : Int), 0 ≤ x → i ≤ j → j ≤ i + 1 → ∀ b, b[n]? = some (penB (ns.map W.int) j x) → (∀ q, b.set n q = bx.set n q) → wC tailB [some (.r n), some (.v (.int u)), none] b { nx := fun _ _ => False, rt := DrawP bx n ns i u } := fun j x hx hj1 hj2 b hb hs => by
      refine wC_mono (tail j x b hb hx) (fun _ _ h => h.elim) ?_ (fun _ _ h => h.elim)
      rintro r b2 ⟨rfl, rfl⟩
      exact ⟨_, j, _, Int.emod_nonneg _ (by omega), Int.emod_lt_of_pos _ u0, hj1, hj2, Int.ediv_nonneg hx (by omega), rfl, hs _⟩
    obtain ⟨k, hk, ek⟩ := next_run h h0 h1
    have ec : opCall F nx false [.r n] bx = .ok (.v (.int k)) (bx.set n (penB (ns.map W.int) (i + 1) v)) := by
      show settle bx (F nx [.r n] bx) = _
      rw [hF, ek]
      exact settle_pen hl
    have g : (bx.set n (penB (ns.map W.int) (i + 1) v))[n]? = some (penB (ns.map W.int) (i + 1) v) := by rw [List.getElem?_set_self hl]
    simp [wC_seq, wC_seq1, wC_pass, wB_bl, opl_lt, wC_set, wE_op1, wE_op2, wE_fn1, wE_C, wR_ok, wE_var, pen2 h, wC_ifB, ec, penSet2 g]
    exact ⟨fun _ => wk (i + 1) k hk (by omega) (by omega) _ (by rw [List.getElem?_set_self hl]) (fun q => by simp), fun _ => wk i v hv (by omega) (by omega) _ h (fun q => rfl)⟩
  obtain ⟨r, b, e, k, j, v', a1, a2, a3, a4, a5, rfl, rfl⟩ := wR_get (wC_run (n := 2) (m := 3) (c := drawB F nx) (rs := [.r n, .v (.int u)]) (bx := bx) (Q := DrawP bx n ns i u) rfl (wC_mono all (fun _ _ h => h.elim) (fun _ _ h => h) (fun _ _ h => h.elim)))
  exact ⟨k, j, v', a1, a2, a3, a4, a5, e⟩
theorem mkL_v {ws : List W} (h : ws.length ≤ SL) : mkL false (ws.map .v) bx = .ok (.v (.lst ws)) bx := by
  have e : vals (ws.map R.v) = some ws := by
    clear h
    induction ws with
    | nil => rfl
    | cons a t ih =>
      have ih : mapO valO (t.map R.v) = some t := ih
      show (match valO (R.v a) with | some y => (mapO valO (t.map R.v)).map (y :: ·) | none => none) = _
      rw [ih]; rfl
  unfold mkL
  rw [if_pos (by simpa using h), e]; rfl
theorem opl_addL {a b : List W} (h : a.length + b.length ≤ SL) : opBin .add false [.v (.lst a), .v (.lst b)] bx = .ok (.v (.lst (a ++ b))) bx := by
  show mkL false (a.map .v ++ b.map .v) bx = _
  rw [← List.map_append]
  exact mkL_v (by simpa using h)
theorem opl_addLn {a b : List W} (h : a.length + b.length < 16777217) : opBin .add false [.v (.lst a), .v (.lst b)] bx = .ok (.v (.lst (a ++ b))) bx := opl_addL (Nat.le_of_lt_succ h)
end
end AM
/-! text AmP4 -/
set_option Elab.async false
set_option linter.all false
set_option maxRecDepth 100000
/-! AmP4: comprehensions in the calculus. -/
namespace AM
open PySem
section
variable {bx : Bx} {en : En}
/-- [elt for x in xs], nothing changed on the way -/
theorem lc_one {elt : E} {it : I} {i : Nat} {xs : List W} {f : W → W} (hit : it en bx = .ok (xs.map fun x => .one (.v x)) none bx) (hi : i < en.length) (he : ∀ x ∈ xs, elt (en.set i (some (.v x))) bx = .ok (.v (f x)) bx) :
    lcGo elt [⟨.nm i, it, []⟩] en bx = some (xs.map (fun x => R.v (f x)), bx) := by
  have turns : ∀ ys : List W, (∀ x ∈ ys, elt (en.set i (some (.v x))) bx = .ok (.v (f x)) bx) → lcTurns (lcGo elt []) (.nm i) [] none en (ys.map fun x => .one (.v x)) bx = some (ys.map (fun x => R.v (f x)), bx) := fun ys => by
    induction ys with
    | nil => intro _; rfl
    | cons y t ih =>
      intro h
      have h1 := h y List.mem_cons_self
      have h2 := ih fun x m => h x (List.mem_cons_of_mem _ m)
      have ha : asg (.nm i) (.one (.v y)) en bx = some (en.set i (some (.v y))) := by
        simp [asg, hi]
      rw [List.map_cons]
      unfold lcTurns
      simp only [guarded, if_true, ha, testsO]
      have hb : lcGo elt [] (en.set i (some (.v y))) bx = some ([.v (f y)], bx) := by
        unfold lcGo
        rw [h1]
      rw [hb]
      simp only [h2]
      rfl
  unfold lcGo
  simp only [hit]
  exact turns xs he
theorem eLc_one {elt : E} {it : I} {i : Nat} {own : List Nat} {xs : List W} {f : W → W} (hit : it (wipeE en own) bx = .ok (xs.map fun x => .one (.v x)) none bx) (hi : i < (wipeE en own).length) (hl : xs.length ≤ SL) (he : ∀ x ∈ xs, elt ((wipeE en own).set i (some (.v x))) bx = .ok (.v (f x)) bx) :
    eLc false own [⟨.nm i, it, []⟩] elt en bx = .ok (.v (.lst (xs.map f))) bx := by
  unfold eLc
  rw [lc_one hit hi he]
  have := mkL_v (bx := bx) (ws := xs.map f) (by simpa using hl)
  rw [List.map_map] at this
  exact this
end
end AM
/-! text AmP5 -/
set_option Elab.async false
set_option linter.all false
set_option maxRecDepth 100000
/-! AmP5: the pen is made. -/
namespace AM
open PySem
theorem vals_W (ws : List W) : vals (ws.map R.v) = some ws := by
  induction ws with
  | nil => rfl
  | cons a t ih =>
    have ih : mapO valO (t.map R.v) = some t := ih
    show (match valO (R.v a) with | some y => (mapO valO (t.map R.v)).map (y :: ·) | none => none) = _
    rw [ih]; rfl
theorem cut60 {α : Type} (ns : List α) : cutL none (some 60) ns = ns.take 60 := by
  show (ns.take (cutAt 60 ns.length)).drop 0 = _
  rw [List.drop_zero]
  unfold cutAt
  simp
def penC : C := cSeq [cRet (eLst true [(false, eFn [(false, eCut false (eVar 0) none (some (eC (.int 60))))] (opList false)), (false, eC (.int 0)), (false, eC (.int 0))])]
def scrW (ns : List Int) : R := .v (.scr (ns.map W.int))
theorem pen_made (ns : List Int) (h : ns.length ≤ 63) : runF 1 1 penC [scrW ns] [] = .ok (.r 0) [penB ((ns.take 60).map W.int) 0 0] := by
  have hs : (ns.take 60).length ≤ SL := by unfold SL; simp; omega
  have e1 : cutR false (scrW ns) none (some 60) [] = .ok (.v (.lst ((ns.take 60).map W.int))) [] := by
    show mkL false (cutL none (some 60) ((ns.map W.int).map .v)) [] = _
    rw [cut60]
    unfold mkL
    rw [← List.map_take, ← List.map_take, if_pos (by simpa using hs), vals_W]; rfl
  have e2 : opList false [.v (.lst ((ns.take 60).map W.int))] [] = .ok (.v (.lst ((ns.take 60).map W.int))) [] := by
    show mkL false (((ns.take 60).map W.int).map .v) [] = _
    unfold mkL
    rw [if_pos (by simpa using hs), vals_W]; rfl
  have e3 : ∀ en, eFn [(false, eCut false (eVar 0) none (some (eC (.int 60))))] (opList false) (some (scrW ns) :: en) [] = .ok (.v (.lst ((ns.take 60).map W.int))) [] := fun en => by
    show (match cutR false (scrW ns) none (some 60) [] with | .ok r bx' => opList false [r] bx' | .exc w bx' => .exc w bx' | .stuck => .stuck) = _
    rw [e1]; exact e2
  unfold runF run penC
  rw [if_pos (show [scrW ns].length = 1 from rfl)]
  show (match (cSeq [cRet (eLst true [(false, eFn [(false, eCut false (eVar 0) none (some (eC (.int 60))))] (opList false)), (false, eC (.int 0)), (false, eC (.int 0))])]) [some (scrW ns)] [] with
    | .nx _ bx' => Res.ok (.v .non) bx' | .rt r bx' => .ok r bx' | .exc w _ bx' => .exc w bx' | _ => .stuck) = _
  have e4 : (eLst true [(false, eFn [(false, eCut false (eVar 0) none (some (eC (.int 60))))] (opList false)), (false, eC (.int 0)), (false, eC (.int 0))]) [some (scrW ns)] [] = .ok (.r 0) [penB ((ns.take 60).map W.int) 0 0] := by
    show (match eFn [(false, eCut false (eVar 0) none (some (eC (.int 60))))] (opList false) [some (scrW ns)] [] with | .ok r bx' => mkL true [r, .v (.int 0), .v (.int 0)] bx' | .exc w bx' => .exc w bx' | .stuck => .stuck) = _
    rw [e3]; rfl
  show (match (match (eLst true [(false, eFn [(false, eCut false (eVar 0) none (some (eC (.int 60))))] (opList false)), (false, eC (.int 0)), (false, eC (.int 0))]) [some (scrW ns)] [] with | .ok r bx' => Ct.rt r bx' | .exc w bx' => .exc w [some (scrW ns)] bx' | .stuck => .stuck) with
    | .nx _ bx' => Res.ok (.v .non) bx' | .rt r bx' => .ok r bx' | .exc w _ bx' => .exc w bx' | _ => .stuck) = _
  rw [e4]
end AM
/-! text AmP6 -/
set_option Elab.async false
set_option linter.all false
set_option maxRecDepth 100000
/-! AmP6: good data, and their repr. -/
namespace AM
open PySem
/-- a text of true code points -/
def okc (s : Str) : Bool := s.cps.toList.all fun c => decide (c < 0x110000)
theorem okc_iff {s : Str} : okc s = true ↔ ∀ c ∈ s.cps.toList, c < 0x110000 := by
  unfold okc
  rw [List.all_eq_true]
  simp only [decide_eq_true_eq]
theorem okc_app {a b : Str} (ha : okc a = true) (hb : okc b = true) : okc (a ++ b) = true := by
  rw [okc_iff] at *
  intro c hc
  have e : (a ++ b).cps.toList = a.cps.toList ++ b.cps.toList := by
    show (a.cps ++ b.cps).toList = _
    simp
  rw [e, List.mem_append] at hc
  exact hc.elim (ha c) (hb c)
theorem char_lt (c : Char) : c.toNat < 0x110000 := by
  have h := c.valid
  simp only [UInt32.isValidChar, Nat.isValidChar] at h
  show c.val.toNat < _
  omega
theorem okc_string (s : String) : okc (s : Str) = true := by
  rw [okc_iff, Str.ofString_eq_toList]
  intro c hc
  simp at hc
  obtain ⟨a, _, rfl⟩ := hc
  exact char_lt a
theorem reprChar_ok {q c : Nat} (hq : q < 0x110000) (hc : c < 0x110000) : ∀ d ∈ Builtin.Str.reprChar q c, d < 0x110000 := by
  have hex : ∀ w : Nat, ∀ d ∈ (List.replicate (w - ((Nat.toDigits 16 c).map Char.toNat).length) 48 ++ (Nat.toDigits 16 c).map Char.toNat), d < 0x110000 := fun w d hd => by
    rw [List.mem_append] at hd
    rcases hd with hd | hd
    · rw [List.mem_replicate] at hd
      omega
    · rw [List.mem_map] at hd
      obtain ⟨a, _, rfl⟩ := hd
      exact char_lt a
  intro d hd
  unfold Builtin.Str.reprChar at hd
  simp only at hd
  split at hd
  · simp at hd; omega
  split at hd
  · simp at hd; omega
  split at hd
  · simp at hd; omega
  split at hd
  · simp at hd; omega
  split at hd
  · simp at hd; omega
  split at hd
  · rw [List.mem_append] at hd
    rcases hd with hd | hd
    · simp at hd; omega
    · exact hex 2 d hd
  split at hd
  · rw [List.mem_append] at hd
    rcases hd with hd | hd
    · simp at hd; omega
    · exact hex 4 d hd
  · rw [List.mem_append] at hd
    rcases hd with hd | hd
    · simp at hd; omega
    · exact hex 8 d hd
theorem okc_repr {x : Str} (h : okc x = true) : okc (reprText x) = true := by
  rw [okc_iff] at *
  have hq : reprQuote x < 0x110000 := by
    unfold reprQuote
    split <;> omega
  have key : ∀ (l : List Nat) (acc : Array Nat), (∀ c ∈ l, c < 0x110000) → (∀ c ∈ acc.toList, c < 0x110000) → ∀ c ∈ (l.foldl (fun out c => out ++ (Builtin.Str.reprChar (reprQuote x) c).toArray) acc).toList, c < 0x110000 := fun l => by
    induction l with
    | nil => exact fun acc _ h => h
    | cons a t ih =>
      intro acc hl ha
      rw [List.foldl_cons]
      refine ih _ (fun c m => hl c (List.mem_cons_of_mem _ m)) fun c m => ?_
      simp at m
      rcases m with m | m
      · exact ha c (by simpa using m)
      · exact reprChar_ok hq (hl a List.mem_cons_self) c m
  intro c hc
  unfold reprText at hc
  simp only [Array.toList_push, List.mem_append, List.mem_singleton] at hc
  rcases hc with hc | hc
  · rw [← Array.foldl_toList] at hc
    exact key x.cps.toList _ h (by intro c hc; simp at hc; omega) c hc
  · rw [hc]; exact hq
theorem okc_join {sep : Str} (hs : okc sep = true) : ∀ {ts : List Str}, (∀ t ∈ ts, okc t = true) → okc (Str.join sep ts) = true
  | [], _ => rfl
  | [t], h => h t List.mem_cons_self
  | t :: u :: r, h => okc_app (okc_app (h t List.mem_cons_self) hs) (okc_join hs fun x m => h x (List.mem_cons_of_mem _ m))
theorem okc_from : ∀ {ts : List Str} {k : Nat} {acc : Str}, okc acc = true → (∀ t ∈ ts, okc t = true) → okc (textFrom k acc ts) = true
  | [], _, _, h, _ => h
  | t :: ts, k, acc, h, ht => by
    unfold textFrom
    exact okc_from (okc_app (okc_app h (okc_string _)) (ht t List.mem_cons_self)) fun x m => ht x (List.mem_cons_of_mem _ m)
theorem okc_list {ts : List Str} (h : ∀ t ∈ ts, okc t = true) : okc (listText ts) = true := okc_app (okc_from (okc_string _) h) (okc_string _)
theorem okc_tuple {ts : List Str} (h : ∀ t ∈ ts, okc t = true) : okc (tupleText ts) = true := okc_app (okc_app (okc_string _) (okc_join (okc_string _) h)) (okc_string _)
theorem okc_dict {ts : List Str} (h : ∀ t ∈ ts, okc t = true) : okc (dictText ts) = true := okc_app (okc_app (okc_string _) (okc_join (okc_string _) h)) (okc_string _)
theorem okc_int (i : Int) : okc (PyData.shown (.int i)) = true := okc_string _

mutual
/-- good data: true texts, ints whose text is short -/
def W.gd : W → Bool
  | .non | .bl _ => true
  | .int i => decide (i.natAbs.log2 < 1920) && decide ((PyData.shown (.int i)).length ≤ 50)
  | .str s => okc s
  | .tup xs => W.gds xs
  | .lst xs => W.gds xs
  | .dct ks vs => W.gds ks && W.gds vs && decide (ks.length = vs.length)
  | _ => false
def W.gds : List W → Bool
  | [] => true
  | x :: r => W.gd x && W.gds r
end
mutual
/-- how large -/
def W.bk : W → Nat
  | .str s => s.cps.size
  | .tup xs => W.bks xs
  | .lst xs => W.bks xs
  | .dct ks vs => W.bks ks + W.bks vs
  | _ => 0
def W.bks : List W → Nat
  | [] => 0
  | x :: r => W.bk x + 1 + W.bks r
end
mutual
/-- how deep, dicts too -/
def W.dq : W → Nat
  | .tup xs => W.dqs xs + 1
  | .lst xs => W.dqs xs + 1
  | .dct ks vs => max (W.dqs ks) (W.dqs vs) + 1
  | _ => 0
def W.dqs : List W → Nat
  | [] => 0
  | x :: r => max (W.dq x) (W.dqs r)
end
/-- what is shown of a good one -/
structure Sh (x : W) (d : PyData) : Prop where
  eq : x.toD = some d
  sh : d.showable = true
  lv : d.leavesShort 50 = true
  bk : d.bulk = x.bk
  dp : d.depth = x.dq
  ok : okc d.shown = true
structure Shs (xs : List W) (ds : List PyData) : Prop where
  eq : W.toDs xs = some ds
  sh : PyData.showableAll ds = true
  lv : PyData.leavesShortAll 50 ds = true
  bk : PyData.bulkAll ds = W.bks xs
  dp : PyData.depthAll ds = W.dqs xs
  ok : ∀ t ∈ PyData.shownAll ds, okc t = true
theorem shs_len {xs : List W} : ∀ {ds : List PyData}, W.toDs xs = some ds → ds.length = xs.length := by
  induction xs with
  | nil => intro ds h; simp [W.toDs] at h; subst h; rfl
  | cons x r ih =>
    intro ds h
    simp only [W.toDs] at h
    split at h
    · rename_i a b e1 e2
      cases h
      simp [ih e2]
    · cases h
theorem zip_kv : ∀ {ds es : List PyData}, ds.length = es.length →
    (PyData.showableAll ds = true → PyData.showableAll es = true → PyData.showableKv (ds.zip es) = true) ∧ (PyData.leavesShortAll 50 ds = true → PyData.leavesShortAll 50 es = true → PyData.leavesShortKv 50 (ds.zip es) = true) ∧
    PyData.bulkKv (ds.zip es) = PyData.bulkAll ds + PyData.bulkAll es ∧ PyData.depthKv (ds.zip es) = max (PyData.depthAll ds) (PyData.depthAll es) ∧
    ((∀ t ∈ PyData.shownAll ds, okc t = true) → (∀ t ∈ PyData.shownAll es, okc t = true) → ∀ t ∈ PyData.shownKv (ds.zip es), okc t = true)
  | [], [], _ => by refine ⟨fun _ _ => by simp [PyData.showableKv], fun _ _ => by simp [PyData.leavesShortKv], by simp [PyData.bulkKv, PyData.bulkAll], by simp [PyData.depthKv, PyData.depthAll], fun _ _ t h => by simp [PyData.shownKv] at h⟩
  | a :: ds, b :: es, h => by
    obtain ⟨h1, h2, h3, h4, h5⟩ := zip_kv (ds := ds) (es := es) (by simpa using h)
    refine ⟨fun x y => ?_, fun x y => ?_, ?_, ?_, fun x y t ht => ?_⟩
    · simp only [PyData.showableAll, Bool.and_eq_true] at x y
      simp [PyData.showableKv, x.1, y.1, h1 x.2 y.2]
    · simp only [PyData.leavesShortAll, Bool.and_eq_true] at x y
      simp [PyData.leavesShortKv, x.1, y.1, h2 x.2 y.2]
    · simp only [List.zip_cons_cons, PyData.bulkKv, PyData.bulkAll, h3]; omega
    · simp only [List.zip_cons_cons, PyData.depthKv, PyData.depthAll, h4]; omega
    · simp only [PyData.shownAll, List.mem_cons] at x y
      simp only [List.zip_cons_cons, PyData.shownKv, List.mem_cons] at ht
      rcases ht with rfl | ht
      · exact okc_app (okc_app (x _ (.inl rfl)) (okc_string _)) (y _ (.inl rfl))
      · exact h5 (fun t m => x t (.inr m)) (fun t m => y t (.inr m)) t ht
  | [], _ :: _, h => by simp at h
  | _ :: _, [], h => by simp at h
mutual
theorem shows : ∀ (x : W), x.gd = true → ∃ d, Sh x d
  | .non, _ => ⟨.none, rfl, rfl, rfl, rfl, rfl, okc_string _⟩
  | .bl b, _ => ⟨.bool b, rfl, rfl, rfl, rfl, rfl, by cases b <;> exact okc_string _⟩
  | .int i, h => by
    simp only [W.gd, Bool.and_eq_true, decide_eq_true_eq] at h
    exact ⟨.int i, rfl, by simp [PyData.showable, h.1], by simp [PyData.leavesShort, h.2], by simp [PyData.bulk, W.bk], by simp [PyData.depth, W.dq], okc_int i⟩
  | .str s, h => by
    simp only [W.gd] at h
    refine ⟨.str s, rfl, rfl, ?_, by simp [PyData.bulk, W.bk], by simp [PyData.depth, W.dq], by simp only [PyData.shown]; exact okc_repr h⟩
    rw [okc_iff] at h
    simp only [PyData.leavesShort, List.all_eq_true, decide_eq_true_eq]
    intro c hc
    have := h c hc
    omega
  | .tup xs, h => by
    obtain ⟨ds, a⟩ := showss xs (by simpa [W.gd] using h)
    exact ⟨.tuple ds, by simp [W.toD, a.eq], by simp [PyData.showable, a.sh], by simp [PyData.leavesShort, a.lv], by simp [PyData.bulk, W.bk, a.bk], by simp [PyData.depth, W.dq, a.dp], by simp only [PyData.shown]; exact okc_tuple a.ok⟩
  | .lst xs, h => by
    obtain ⟨ds, a⟩ := showss xs (by simpa [W.gd] using h)
    exact ⟨.list ds, by simp [W.toD, a.eq], by simp [PyData.showable, a.sh], by simp [PyData.leavesShort, a.lv], by simp [PyData.bulk, W.bk, a.bk], by simp [PyData.depth, W.dq, a.dp], by simp only [PyData.shown]; exact okc_list a.ok⟩
  | .dct ks vs, h => by
    simp only [W.gd, Bool.and_eq_true, decide_eq_true_eq] at h
    obtain ⟨ds, a⟩ := showss ks h.1.1
    obtain ⟨es, b⟩ := showss vs h.1.2
    obtain ⟨h1, h2, h3, h4, h5⟩ := zip_kv (ds := ds) (es := es) (by rw [shs_len a.eq, shs_len b.eq]; exact h.2)
    exact ⟨.dict (ds.zip es), by simp [W.toD, a.eq, b.eq], by simp [PyData.showable, h1 a.sh b.sh], by simp [PyData.leavesShort, h2 a.lv b.lv], by simp [PyData.bulk, W.bk, h3, a.bk, b.bk], by simp [PyData.depth, W.dq, h4, a.dp, b.dp], by simp only [PyData.shown]; exact okc_dict (h5 a.ok b.ok)⟩
  | .ins _ _ _, h => by simp [W.gd] at h
  | .exn _ _, h => by simp [W.gd] at h
  | .scr _, h => by simp [W.gd] at h
theorem showss : ∀ (xs : List W), W.gds xs = true → ∃ ds, Shs xs ds
  | [], _ => ⟨[], rfl, rfl, rfl, rfl, rfl, fun _ h => by simp [PyData.shownAll] at h⟩
  | x :: r, h => by
    simp only [W.gds, Bool.and_eq_true] at h
    obtain ⟨d, a⟩ := shows x h.1
    obtain ⟨ds, b⟩ := showss r h.2
    refine ⟨d :: ds, by simp [W.toDs, a.eq, b.eq], by simp [PyData.showableAll, a.sh, b.sh], by simp [PyData.leavesShortAll, a.lv, b.lv], by simp [PyData.bulkAll, W.bks, a.bk, b.bk], by simp [PyData.depthAll, W.dqs, a.dp, b.dp], fun t ht => ?_⟩
    simp only [PyData.shownAll, List.mem_cons] at ht
    rcases ht with rfl | ht
    · exact a.ok
    · exact b.ok t ht
end
/-- good, and not too large -/
structure Good (x : W) : Prop where
  gd : x.gd = true
  bk : x.bk ≤ 100000
  dq : x.dq ≤ 40
/-- the text of a value -/
def reprS (x : W) : Str := match x.toD with
  | some d => d.shown
  | none => Str.empty
theorem repr_good {x : W} (h : Good x) : (∀ bx, opRepr [.v x] bx = .ok (.v (.str (reprS x))) bx) ∧ okc (reprS x) = true ∧ (reprS x).length ≤ 5500000 := by
  obtain ⟨d, a⟩ := shows x h.gd
  have e : reprS x = d.shown := by unfold reprS; rw [a.eq]
  have l := PyData.shown_le_bulk 50 (by decide) d a.lv
  have l2 : d.shown.length ≤ 5500000 := by
    have := h.bk
    rw [a.bk] at l
    omega
  refine ⟨fun bx => ?_, by rw [e]; exact a.ok, by rw [e]; exact l2⟩
  show (match (some x).bind W.toD with
    | some d => if d.showable = true ∧ d.shown.length ≤ SL ∧ d.depth ≤ 60 then Res.ok (.v (.str d.shown)) bx else .stuck
    | none => .stuck) = _
  simp only [Option.bind_some, a.eq, e]
  rw [if_pos ⟨a.sh, by unfold SL; omega, by rw [a.dp]; have := h.dq; omega⟩]
theorem okc_lay {s : Str} (h : okc s = true) : (W.str s).isDat = true := by
  unfold okc at h
  simp [W.isDat, W.lay, W.dp]
  simpa using h
theorem eq_str {a b : Str} (ha : okc a = true) (hb : okc b = true) (bx : Bx) : opCmp .eq [.v (.str a), .v (.str b)] bx = .ok (.v (.bl (decide (a = b)))) bx := by
  simp only [opCmp, cmpB, eqR, view, eqW, okc_lay ha, okc_lay hb, Bool.and_self, if_true, okO, okB, W.pyeq]
  congr 3
theorem ne_str {a b : Str} (ha : okc a = true) (hb : okc b = true) (bx : Bx) : opCmp .ne [.v (.str a), .v (.str b)] bx = .ok (.v (.bl (!decide (a = b)))) bx := by
  simp only [opCmp, cmpB, eqR, view, eqW, okc_lay ha, okc_lay hb, Bool.and_self, if_true, okO, okB, W.pyeq, Option.map_some]
  congr 3
end AM
/-! text AmP7 -/
set_option Elab.async false
set_option linter.all false
set_option maxRecDepth 100000
/-! AmP7: the order of keys; sorting; each once. -/
namespace AM
open PySem
mutual
/-- ints, texts, tuples of these -/
def W.isK : W → Bool
  | .int _ | .str _ => true
  | .tup xs => W.isKs xs
  | _ => false
def W.isKs : List W → Bool
  | [] => true
  | x :: r => W.isK x && W.isKs r
end
mutual
/-- their order: ints, texts, tuples -/
def W.klt : W → W → Bool
  | .int i, .int j => decide (i < j)
  | .int _, .str _ => true
  | .int _, .tup _ => true
  | .str x, .str y => decide (x.cps.toList < y.cps.toList)
  | .str _, .tup _ => true
  | .tup xs, .tup ys => W.klts xs ys
  | _, _ => false
def W.klts : List W → List W → Bool
  | [], _ :: _ => true
  | x :: xs, y :: ys => if W.eqb x y then W.klts xs ys else W.klt x y
  | _, [] => false
end
theorem str_ext {x y : Str} (h : x.cps.toList = y.cps.toList) : x = y := by
  cases x; cases y
  simp at h
  rw [h]
mutual
theorem klt_irr : ∀ a : W, W.klt a a = false
  | .non => rfl
  | .bl _ => rfl
  | .int i => by simp [W.klt]
  | .str s => by simp [W.klt, List.lt_irrefl]
  | .tup xs => by simp [W.klt, klts_irr xs]
  | .lst _ => rfl
  | .dct _ _ => rfl
  | .ins _ _ _ => rfl
  | .exn _ _ => rfl
  | .scr _ => rfl
theorem klts_irr : ∀ a : List W, W.klts a a = false
  | [] => rfl
  | x :: r => by
    have e : W.eqb x x = true := (W.eqb_ok x x).mpr rfl
    simp [W.klts, e, klts_irr r]
end
theorem eqb_dec (x y : W) : W.eqb x y = decide (x = y) := by
  cases h : W.eqb x y with
  | true => simp [(W.eqb_ok x y).mp h]
  | false =>
    have : x ≠ y := fun e => by
      rw [(W.eqb_ok x y).mpr e] at h
      cases h
    simp [this]
mutual
theorem klt_tri : ∀ (a b : W), a.isK = true → b.isK = true → a ≠ b → W.klt a b = false → W.klt b a = true
  | .int i, b, _, hb, n, h => by
    cases b <;> simp_all [W.klt, W.isK] ; omega
  | .str s, b, _, hb, n, h => by
    cases b with
    | str t =>
      simp only [W.klt, decide_eq_false_iff_not, decide_eq_true_eq] at *
      have h1 : t.cps.toList ≤ s.cps.toList := List.not_lt.mp h
      apply Classical.byContradiction
      intro h2
      have h3 : s.cps.toList ≤ t.cps.toList := List.not_lt.mp h2
      exact n (by rw [str_ext (List.le_antisymm h3 h1)])
    | int _ => rfl
    | tup _ => simp [W.klt] at h
    | _ => simp [W.isK] at hb
  | .tup xs, b, ha, hb, n, h => by
    cases b with
    | tup ys =>
      simp only [W.klt] at *
      exact klts_tri xs ys (by simpa [W.isK] using ha) (by simpa [W.isK] using hb) (fun e => n (by rw [e])) h
    | int _ => rfl
    | str _ => rfl
    | _ => simp [W.isK] at hb
  | .non, _, h, _, _, _ => by simp [W.isK] at h
  | .bl _, _, h, _, _, _ => by simp [W.isK] at h
  | .lst _, _, h, _, _, _ => by simp [W.isK] at h
  | .dct _ _, _, h, _, _, _ => by simp [W.isK] at h
  | .ins _ _ _, _, h, _, _, _ => by simp [W.isK] at h
  | .exn _ _, _, h, _, _, _ => by simp [W.isK] at h
  | .scr _, _, h, _, _, _ => by simp [W.isK] at h
theorem klts_tri : ∀ (a b : List W), W.isKs a = true → W.isKs b = true → a ≠ b → W.klts a b = false → W.klts b a = true
  | [], [], _, _, n, _ => absurd rfl n
  | [], _ :: _, _, _, _, h => by simp [W.klts] at h
  | _ :: _, [], _, _, _, _ => rfl
  | x :: xs, y :: ys, ha, hb, n, h => by
    simp only [W.isKs, Bool.and_eq_true] at ha hb
    simp only [W.klts, eqb_dec] at h ⊢
    by_cases e : x = y
    · subst e
      simp only [decide_true, if_true] at h ⊢
      exact klts_tri xs ys ha.2 hb.2 (fun z => n (by rw [z])) h
    · simp only [e, Ne.symm e, decide_false, Bool.false_eq_true, if_false] at h ⊢
      exact klt_tri x y ha.1 hb.1 e h
end
mutual
theorem klt_trans : ∀ (a b c : W), W.klt a b = true → W.klt b c = true → W.klt a c = true
  | .int i, b, c, h1, h2 => by
    cases b <;> cases c <;> simp_all [W.klt] ; omega
  | .str s, b, c, h1, h2 => by
    cases b <;> cases c <;> simp_all [W.klt]
    exact List.lt_trans h1 h2
  | .tup xs, b, c, h1, h2 => by
    cases b <;> cases c <;> simp_all [W.klt]
    exact klts_trans xs _ _ h1 h2
  | .non, b, _, h, _ => by cases b <;> simp [W.klt] at h
  | .bl _, b, _, h, _ => by cases b <;> simp [W.klt] at h
  | .lst _, b, _, h, _ => by cases b <;> simp [W.klt] at h
  | .dct _ _, b, _, h, _ => by cases b <;> simp [W.klt] at h
  | .ins _ _ _, b, _, h, _ => by cases b <;> simp [W.klt] at h
  | .exn _ _, b, _, h, _ => by cases b <;> simp [W.klt] at h
  | .scr _, b, _, h, _ => by cases b <;> simp [W.klt] at h
theorem klts_trans : ∀ (a b c : List W), W.klts a b = true → W.klts b c = true → W.klts a c = true
  | [], b, c, h1, h2 => by
    cases b with
    | nil => simp [W.klts] at h1
    | cons _ _ =>
      cases c with
      | nil => simp [W.klts] at h2
      | cons _ _ => rfl
  | x :: xs, b, c, h1, h2 => by
    cases b with
    | nil => simp [W.klts] at h1
    | cons y ys =>
      cases c with
      | nil => simp [W.klts] at h2
      | cons z zs =>
        simp only [W.klts, eqb_dec] at h1 h2 ⊢
        by_cases e1 : x = y
        · subst e1
          by_cases e2 : x = z
          · subst e2
            simp only [decide_true, if_true] at h1 h2 ⊢
            exact klts_trans xs ys zs h1 h2
          · simp only [e2, decide_true, decide_false, Bool.false_eq_true, if_false, if_true] at h1 h2 ⊢
            exact h2
        · by_cases e2 : y = z
          · subst e2
            simp only [e1, decide_false, Bool.false_eq_true, if_false] at h1 ⊢
            exact h1
          · simp only [e1, e2, decide_false, Bool.false_eq_true, if_false] at h1 h2
            have h3 := klt_trans x y z h1 h2
            by_cases e3 : x = z
            · subst e3
              rw [klt_irr] at h3
              cases h3
            · simp only [e3, decide_false, Bool.false_eq_true, if_false]
              exact h3
end
theorem klt_asym {a b : W} (h : W.klt a b = true) : W.klt b a = false := by
  cases e : W.klt b a with
  | false => rfl
  | true =>
    have := klt_trans a b a h e
    rw [klt_irr] at this
    cases this
mutual
theorem pyeq_k : ∀ (a b : W), a.isK = true → b.isK = true → W.pyeq a b = W.eqb a b
  | .int i, b, _, hb => by
    cases b <;> simp_all [W.pyeq, W.eqb, W.isK] <;> rfl
  | .str s, b, _, hb => by
    cases b <;> simp_all [W.pyeq, W.eqb, W.isK] <;> rfl
  | .tup xs, b, ha, hb => by
    cases b with
    | tup ys =>
      simp only [W.pyeq, W.eqb]
      exact pyeqs_k xs ys (by simpa [W.isK] using ha) (by simpa [W.isK] using hb)
    | int _ => rfl
    | str _ => rfl
    | _ => simp [W.isK] at hb
  | .non, _, h, _ => by simp [W.isK] at h
  | .bl _, _, h, _ => by simp [W.isK] at h
  | .lst _, _, h, _ => by simp [W.isK] at h
  | .dct _ _, _, h, _ => by simp [W.isK] at h
  | .ins _ _ _, _, h, _ => by simp [W.isK] at h
  | .exn _ _, _, h, _ => by simp [W.isK] at h
  | .scr _, _, h, _ => by simp [W.isK] at h
theorem pyeqs_k : ∀ (a b : List W), W.isKs a = true → W.isKs b = true → W.pyeqs a b = W.eqbs a b
  | [], [], _, _ => rfl
  | [], _ :: _, _, _ => rfl
  | _ :: _, [], _, _ => rfl
  | x :: xs, y :: ys, ha, hb => by
    simp only [W.isKs, Bool.and_eq_true] at ha hb
    simp only [W.pyeqs, W.eqbs, pyeq_k x y ha.1 hb.1, pyeqs_k xs ys ha.2 hb.2]
end
mutual
theorem lt_k : ∀ (a b : W), a.isK = true → b.isK = true → W.alk a b = true → W.lt a b = W.klt a b
  | .int i, b, _, hb, h => by cases b <;> simp_all [W.alk, W.lt, W.klt]
  | .str s, b, _, hb, h => by cases b <;> simp_all [W.alk, W.lt, W.klt]
  | .tup xs, b, ha, hb, h => by
    cases b with
    | tup ys =>
      simp only [W.lt, W.klt]
      exact lts_k xs ys (by simpa [W.isK] using ha) (by simpa [W.isK] using hb) (by simpa [W.alk] using h)
    | _ => simp [W.alk] at h
  | .non, _, h, _, _ => by simp [W.isK] at h
  | .bl _, _, h, _, _ => by simp [W.isK] at h
  | .lst _, _, h, _, _ => by simp [W.isK] at h
  | .dct _ _, _, h, _, _ => by simp [W.isK] at h
  | .ins _ _ _, _, h, _, _ => by simp [W.isK] at h
  | .exn _ _, _, h, _, _ => by simp [W.isK] at h
  | .scr _, _, h, _, _ => by simp [W.isK] at h
theorem lts_k : ∀ (a b : List W), W.isKs a = true → W.isKs b = true → W.alks a b = true → W.lts a b = W.klts a b
  | [], [], _, _, _ => rfl
  | [], _ :: _, _, _, _ => rfl
  | _ :: _, [], _, _, _ => rfl
  | x :: xs, y :: ys, ha, hb, h => by
    simp only [W.isKs, Bool.and_eq_true] at ha hb
    simp only [W.alks, Bool.and_eq_true] at h
    simp only [W.lts, W.klts, pyeq_k x y ha.1 hb.1, lts_k xs ys ha.2 hb.2 h.2, lt_k x y ha.1 hb.1 h.1]
end
def W.kle (a b : W) : Bool := !W.klt b a
/-- sorted strictly -/
def Asc (l : List W) : Prop := l.Pairwise fun a b => W.klt a b = true
theorem kle_trans (a b c : W) (ha : a.isK = true) (hb : b.isK = true) (hc : c.isK = true) (h1 : W.kle a b = true) (h2 : W.kle b c = true) : W.kle a c = true := by
  unfold W.kle at *
  simp only [Bool.not_eq_true'] at *
  by_cases e : a = c
  · subst e; exact klt_irr a
  · cases z : W.klt c a with
    | false => rfl
    | true =>
      by_cases e2 : b = c
      · subst e2; rw [h1] at z; cases z
      · have := klt_tri c b hc hb (Ne.symm e2) h2
        have := klt_trans b c a this z
        rw [h1] at this; cases this
theorem Asc.nodup {l : List W} (h : Asc l) : l.Nodup := h.imp fun {a b} q e => by
  subst e
  rw [klt_irr] at q
  cases q
theorem Asc.ext {l m : List W} (h : Asc l) (k : Asc m) (e : ∀ x, x ∈ l ↔ x ∈ m) : l = m := by
  have p : l.Perm m := (List.perm_ext_iff_of_nodup h.nodup k.nodup).mpr e
  exact p.eq_of_pairwise (fun a b _ _ h1 h2 => by rw [klt_asym h1] at h2; cases h2) h k
/-- rows that sort: keys, alike -/
def Alike (l : List W) : Prop := (∀ a ∈ l, a.isK = true) ∧ ∀ a ∈ l, ∀ b ∈ l, W.alk a b = true
/-- the sorted row, of keys alike, each once -/
theorem sort_is_asc {ws : List W} (h : Alike ws) (n : ws.Nodup) : Asc (sortW ws) ∧ ∀ x, x ∈ sortW ws ↔ x ∈ ws := by
  have p2 : (sortW ws).Perm ws := List.mergeSort_perm _ _
  have e2 : sortW ws = ws.mergeSort fun a b => if a.isK then (if b.isK then W.kle a b else true) else !b.isK := by
    have t := List.map_mergeSort (f := fun a : W => a) (r := W.le) (s := fun a b => if a.isK then (if b.isK then W.kle a b else true) else !b.isK) (l := ws) (fun a ha b hb => by
      simp only [h.1 a ha, h.1 b hb, if_true]
      unfold W.le W.kle
      rw [lt_k b a (h.1 b hb) (h.1 a ha) (h.2 b hb a ha)])
    rw [List.map_id', List.map_id'] at t
    exact t
  have q := List.pairwise_mergeSort (le := fun a b => if a.isK then (if b.isK then W.kle a b else true) else !b.isK) (fun a b c h1 h2 => by
    cases ha : a.isK <;> cases hb : b.isK <;> cases hc : c.isK <;> simp_all
    exact kle_trans a b c ha hb hc h1 h2) (fun a b => by
    cases ha : a.isK <;> cases hb : b.isK <;> simp_all [W.kle]
    cases z : W.klt b a with
    | false => simp
    | true => simp [klt_asym z]) ws
  rw [← e2] at q
  have nd : (sortW ws).Nodup := p2.nodup_iff.mpr n
  refine ⟨(q.and nd).imp_of_mem fun {a b} ha hb z => ?_, fun x => p2.mem_iff⟩
  have ha := h.1 a (p2.mem_iff.mp ha)
  have hb := h.1 b (p2.mem_iff.mp hb)
  obtain ⟨z, ne⟩ := z
  simp only [ha, hb, if_true] at z
  unfold W.kle at z
  simp only [Bool.not_eq_true'] at z
  exact klt_tri b a hb ha (Ne.symm ne) z
theorem sort_asc {ws l : List W} (h : Alike ws) (e : ∀ x, x ∈ l ↔ x ∈ ws) (n : ws.Nodup) (a : Asc l) : sortW ws = l := by
  obtain ⟨h1, h2⟩ := sort_is_asc h n
  exact h1.ext a fun x => (h2 x).trans (e x).symm
/-! ### each once -/
theorem firsts_mem {x : W} : ∀ {l acc : List W}, x ∈ firsts acc l ↔ x ∈ acc ∨ x ∈ l
  | [], acc => by simp [firsts]
  | y :: r, acc => by
    rw [firsts, firsts_mem]
    split
    · rename_i h
      constructor
      · rintro (q | q)
        · exact .inl q
        · exact .inr (List.mem_cons_of_mem _ q)
      · rintro (q | q)
        · exact .inl q
        · rcases List.mem_cons.mp q with q | q
          · exact .inl (q ▸ h)
          · exact .inr q
    · simp only [List.mem_append, List.mem_cons, List.not_mem_nil, or_false]
      constructor
      · rintro ((q | q) | q)
        · exact .inl q
        · exact .inr (.inl q)
        · exact .inr (.inr q)
      · rintro (q | q | q)
        · exact .inl (.inl q)
        · exact .inl (.inr q)
        · exact .inr q
theorem firsts_nodup : ∀ {l acc : List W}, acc.Nodup → (firsts acc l).Nodup
  | [], _, h => h
  | y :: r, acc, h => by
    rw [firsts]
    refine firsts_nodup ?_
    split
    · exact h
    · rename_i n
      rw [List.nodup_append]
      refine ⟨h, by simp, fun a ha b hb => ?_⟩
      rw [List.mem_singleton] at hb
      subst hb
      exact fun e => n (e ▸ ha)
theorem setK_eq (ks : List W) (k : W) : dSetK ks k = if k ∈ ks then ks else ks ++ [k] := by
  induction ks with
  | nil => simp [dSetK]
  | cons a t ih =>
    rw [dSetK]
    by_cases e : a = k
    · simp [e]
    · rw [if_neg e, ih]
      by_cases h : k ∈ t
      · simp [h]
      · simp [h, Ne.symm e]
theorem mergeK_eq : ∀ (l acc : List W), dMergeK acc l = firsts acc l
  | [], _ => rfl
  | k :: l, acc => by
    rw [dMergeK, firsts, mergeK_eq l, setK_eq]
end AM
/-! text AmP8 -/
set_option Elab.async false
set_option linter.all false
set_option maxRecDepth 100000
/-! AmP8: further rules: calls, comprehensions, sorting by length. -/
namespace AM
open PySem
section
variable {bx : Bx} {en : En} {F : Fn} {f : Nat} {xs : List R}
theorem backOk_rfl : ∀ (m : Nat) (l : Bx), backOk m l l = true := fun m l => by
  induction l with
  | nil => rfl
  | cons a t ih => simp [backOk, ih]
theorem settle_val {w : W} : settle bx (.ok (.v w) bx) = .ok (.v w) bx := by
  simp [settle, viewF, backOk_rfl]
theorem settle_exc {w : W} : settle bx (.exc w bx) = .exc w bx := by
  simp [settle, backOk_rfl]
/-- a call that changes nothing -/
theorem call_v {w : W} (h : F f xs bx = .ok (.v w) bx) : opCall F f false xs bx = .ok (.v w) bx := by
  show settle bx (F f xs bx) = _
  rw [h]; exact settle_val
theorem call_x {w : W} (h : F f xs bx = .exc w bx) : opCall F f false xs bx = .exc w bx := by
  show settle bx (F f xs bx) = _
  rw [h]; exact settle_exc
theorem call_k {keep : Bool} (h : keep = true) : opCall F f keep xs bx = F f xs bx := by rw [h]; rfl
/-- the pen's box may have changed -/
theorem settle_p {w : W} {p p' : Box} {rest : Bx} (h : ∀ m, boxLt m p' = true) : settle (p :: rest) (.ok (.v w) (p' :: rest)) = .ok (.v w) (p' :: rest) := by
  simp [settle, viewF, backOk, h, backOk_rfl]
theorem call_p {w : W} {p p' : Box} {rest : Bx} (h : ∀ m, boxLt m p' = true) (e : F f xs (p :: rest) = .ok (.v w) (p' :: rest)) : opCall F f false xs (p :: rest) = .ok (.v w) (p' :: rest) := by
  show settle _ (F f xs _) = _
  rw [e]; exact settle_p h
theorem boolsO_map (bs : List Bool) : boolsO ((bs.map W.bl).map R.v) = some bs := by
  induction bs with
  | nil => rfl
  | cons a t ih =>
    simp only [List.map_cons, boolsO, ih, Option.map_some]
theorem opAll_l {bs : List Bool} : opAll [.v (.lst (bs.map .bl))] bx = .ok (.v (.bl (bs.all id))) bx := by
  show (match boolsO ((bs.map W.bl).map R.v) with | some bs => okB (bs.all id) bx | none => .stuck) = _
  rw [boolsO_map]; rfl
theorem opAny_l {bs : List Bool} : opAny [.v (.lst (bs.map .bl))] bx = .ok (.v (.bl (bs.any id))) bx := by
  show (match boolsO ((bs.map W.bl).map R.v) with | some bs => okB (bs.any id) bx | none => .stuck) = _
  rw [boolsO_map]; rfl
/-- all([test for x in xs]) and any -/
theorem all_lc {elt : E} {it : I} {i : Nat} {own : List Nat} {ys : List W} {g : W → Bool} (hit : it (wipeE en own) bx = .ok (ys.map fun x => .one (.v x)) none bx) (hi : i < (wipeE en own).length) (hl : ys.length ≤ SL) (he : ∀ x ∈ ys, elt ((wipeE en own).set i (some (.v x))) bx = .ok (.v (.bl (g x))) bx) :
    eFn [(false, eLc false own [⟨.nm i, it, []⟩] elt)] opAll en bx = .ok (.v (.bl (ys.all g))) bx := by
  have h1 := eLc_one (f := fun x => W.bl (g x)) hit hi hl he
  show (match eLc false own [⟨.nm i, it, []⟩] elt en bx with | .ok r bx' => opAll [r] bx' | .exc w bx' => .exc w bx' | .stuck => .stuck) = _
  rw [h1]
  show opAll [.v (.lst (ys.map fun x => W.bl (g x)))] bx = _
  have e : (ys.map fun x => W.bl (g x)) = (ys.map g).map W.bl := by simp
  rw [e, opAll_l]
  simp [List.all_map, Function.comp_def]
theorem any_lc {elt : E} {it : I} {i : Nat} {own : List Nat} {ys : List W} {g : W → Bool} (hit : it (wipeE en own) bx = .ok (ys.map fun x => .one (.v x)) none bx) (hi : i < (wipeE en own).length) (hl : ys.length ≤ SL) (he : ∀ x ∈ ys, elt ((wipeE en own).set i (some (.v x))) bx = .ok (.v (.bl (g x))) bx) :
    eFn [(false, eLc false own [⟨.nm i, it, []⟩] elt)] opAny en bx = .ok (.v (.bl (ys.any g))) bx := by
  have h1 := eLc_one (f := fun x => W.bl (g x)) hit hi hl he
  show (match eLc false own [⟨.nm i, it, []⟩] elt en bx with | .ok r bx' => opAny [r] bx' | .exc w bx' => .exc w bx' | .stuck => .stuck) = _
  rw [h1]
  show opAny [.v (.lst (ys.map fun x => W.bl (g x)))] bx = _
  have e : (ys.map fun x => W.bl (g x)) = (ys.map g).map W.bl := by simp
  rw [e, opAny_l]
  simp [List.any_map, Function.comp_def]
/-- what a name's value gives to walk -/
theorem it_str {i : Nat} {s : Str} (h : en[i]? = some (some (.v (.str s)))) : iPlain (eVar i) en bx = .ok ((s.cps.toList.map fun c => W.str ⟨#[c]⟩).map fun x => .one (.v x)) none bx := by
  have e : eVar i en bx = .ok (.v (.str s)) bx := by unfold eVar; rw [h]
  unfold iPlain iBind
  rw [e]
  simp
theorem it_of {m : E} {x : R} {ys : List W} (h : m en bx = .ok x bx) (e : (x = .v (.lst ys)) ∨ x = .v (.tup ys)) : iPlain m en bx = .ok (ys.map fun x => .one (.v x)) none bx := by
  unfold iPlain iBind
  rw [h]
  rcases e with e | e <;> subst e <;> simp [itS, itL, guardOf]
theorem eVar_of {i : Nat} {r : R} (h : en[i]? = some (some r)) : eVar i en bx = .ok r bx := by unfold eVar; rw [h]
end
/-! ### parts of good data -/
theorem gds_all {xs : List W} : W.gds xs = true ↔ ∀ x ∈ xs, x.gd = true := by
  induction xs with
  | nil => simp [W.gds]
  | cons a t ih => simp [W.gds, ih]
theorem bks_mem {xs : List W} {x : W} (h : x ∈ xs) : x.bk + 1 ≤ W.bks xs := by
  induction xs with
  | nil => cases h
  | cons a t ih =>
    rcases List.mem_cons.mp h with h | h
    · subst h; simp only [W.bks]; omega
    · have := ih h; simp only [W.bks]; omega
theorem bks_len (xs : List W) : xs.length ≤ W.bks xs := by
  induction xs with
  | nil => simp [W.bks]
  | cons a t ih => simp only [W.bks, List.length_cons]; omega
theorem dqs_mem {xs : List W} {x : W} (h : x ∈ xs) : x.dq ≤ W.dqs xs := by
  induction xs with
  | nil => cases h
  | cons a t ih =>
    rcases List.mem_cons.mp h with h | h
    · subst h; simp only [W.dqs]; omega
    · have := ih h; simp only [W.dqs]; omega
theorem Good.tup_mem {xs : List W} (h : Good (.tup xs)) {x : W} (m : x ∈ xs) : Good x := by
  refine ⟨gds_all.mp (by simpa [W.gd] using h.gd) x m, ?_, ?_⟩
  · have := h.bk; have := bks_mem m; simp only [W.bk] at *; omega
  · have := h.dq; have := dqs_mem m; simp only [W.dq] at *; omega
theorem Good.lst_mem {xs : List W} (h : Good (.lst xs)) {x : W} (m : x ∈ xs) : Good x := by
  refine ⟨gds_all.mp (by simpa [W.gd] using h.gd) x m, ?_, ?_⟩
  · have := h.bk; have := bks_mem m; simp only [W.bk] at *; omega
  · have := h.dq; have := dqs_mem m; simp only [W.dq] at *; omega
theorem Good.str {s : Str} (h : Good (.str s)) : okc s = true ∧ s.cps.size ≤ 100000 := ⟨h.gd, h.bk⟩
theorem Good.tup_len {xs : List W} (h : Good (.tup xs)) : xs.length ≤ 100000 := by
  have := h.bk; have := bks_len xs; simp only [W.bk] at *; omega
theorem Good.lst_len {xs : List W} (h : Good (.lst xs)) : xs.length ≤ 100000 := by
  have := h.bk; have := bks_len xs; simp only [W.bk] at *; omega
/-! ### sorting by length -/
theorem sortLen_keys {ws : List W} : (sortLen ws).map keyW = sortW (ws.map keyW) := List.map_mergeSort (fun _ _ _ _ => rfl)
def sndW : W → W
  | .tup [_, x] => x
  | w => w
theorem snd_key {x : W} (h : x.isT = true) : sndW (keyW x) = x := by
  cases x <;> simp_all [W.isT, keyW, sndW]
theorem keys_inj : ∀ {a b : List W}, (∀ x ∈ a, x.isT = true) → (∀ x ∈ b, x.isT = true) → a.map keyW = b.map keyW → a = b := fun {a b} ha hb h => by
  have h2 := congrArg (List.map sndW) h
  simp only [List.map_map] at h2
  have e : ∀ l : List W, (∀ x ∈ l, x.isT = true) → l.map (sndW ∘ keyW) = l := fun l hl => by
    conv => rhs; rw [← List.map_id l]
    exact List.map_congr_left fun x m => snd_key (hl x m)
  rwa [e a ha, e b hb] at h2
/-- rows of the same members, sorted by length -/
theorem sortLen_ext {a b : List W} (ta : ∀ x ∈ a, x.isT = true) (al : Alike (a.map keyW)) (na : a.Nodup) (nb : b.Nodup) (h : ∀ x, x ∈ a ↔ x ∈ b) : sortLen a = sortLen b := by
  have p : a.Perm b := (List.perm_ext_iff_of_nodup na nb).mpr h
  have tb : ∀ x ∈ b, x.isT = true := fun x m => ta x ((h x).mpr m)
  have ps : ∀ l : List W, (sortLen l).Perm l := fun l => List.mergeSort_perm _ _
  have nk : ∀ l : List W, (∀ x ∈ l, x.isT = true) → l.Nodup → (l.map keyW).Nodup := fun l hl hn => by
    refine List.Pairwise.map _ (R := fun x y => x ≠ y ∧ x.isT = true ∧ y.isT = true) ?_ (hn.imp_of_mem fun {x y} mx my ne => ⟨ne, hl x mx, hl y my⟩)
    rintro x y ⟨ne, hx, hy⟩ e
    exact ne (by rw [← snd_key hx, e, snd_key hy])
  refine keys_inj (fun x m => ta x ((ps a).mem_iff.mp m)) (fun x m => tb x ((ps b).mem_iff.mp m)) ?_
  rw [sortLen_keys, sortLen_keys]
  have pk : (a.map keyW).Perm (b.map keyW) := p.map _
  have alb : Alike (b.map keyW) := ⟨fun x m => al.1 x (pk.mem_iff.mpr m), fun x m y m' => al.2 x (pk.mem_iff.mpr m) y (pk.mem_iff.mpr m')⟩
  obtain ⟨h1, h2⟩ := sort_is_asc alb (nk b tb nb)
  exact sort_asc al (fun x => (h2 x).trans pk.mem_iff.symm) (nk a ta na) h1
end AM
/-! text AmPv -/
set_option Elab.async false
set_option linter.all false
/-! AmPv (printed by mkvars.py): slots of typed frames. -/
namespace AM
open PySem
section
variable {x0 x1 x2 x3 x4 x5 x6 x7 x8 x9 x10 x11 x12 x13 x14 x15 x16 x17 x18 x19 x20 x21 x22 x23 x24 : Option R} {r : R} {e : En} {bx : Bx} {Q : R → Bx → Prop} {X : W → Bx → Prop} {m : E} {D : Dz}
theorem wE_v0 : wE X (eVar 0) (some r :: e) bx Q ↔ Q r bx := wE_var rfl
theorem wC_a0 : wC (cAsg (.nm 0) m) (x0 :: e) bx D ↔ wE (D.xc (x0 :: e)) m (x0 :: e) bx fun r b => D.nx (some r :: e) b := wC_asg (by simp)
theorem ev_v0 : eVar 0 (some r :: e) bx = .ok r bx := rfl
theorem wE_v1 : wE X (eVar 1) (x0 :: some r :: e) bx Q ↔ Q r bx := wE_var rfl
theorem wC_a1 : wC (cAsg (.nm 1) m) (x0 :: x1 :: e) bx D ↔ wE (D.xc (x0 :: x1 :: e)) m (x0 :: x1 :: e) bx fun r b => D.nx (x0 :: some r :: e) b := wC_asg (by simp)
theorem ev_v1 : eVar 1 (x0 :: some r :: e) bx = .ok r bx := rfl
theorem wE_v2 : wE X (eVar 2) (x0 :: x1 :: some r :: e) bx Q ↔ Q r bx := wE_var rfl
theorem wC_a2 : wC (cAsg (.nm 2) m) (x0 :: x1 :: x2 :: e) bx D ↔ wE (D.xc (x0 :: x1 :: x2 :: e)) m (x0 :: x1 :: x2 :: e) bx fun r b => D.nx (x0 :: x1 :: some r :: e) b := wC_asg (by simp)
theorem ev_v2 : eVar 2 (x0 :: x1 :: some r :: e) bx = .ok r bx := rfl
theorem wE_v3 : wE X (eVar 3) (x0 :: x1 :: x2 :: some r :: e) bx Q ↔ Q r bx := wE_var rfl
theorem wC_a3 : wC (cAsg (.nm 3) m) (x0 :: x1 :: x2 :: x3 :: e) bx D ↔ wE (D.xc (x0 :: x1 :: x2 :: x3 :: e)) m (x0 :: x1 :: x2 :: x3 :: e) bx fun r b => D.nx (x0 :: x1 :: x2 :: some r :: e) b := wC_asg (by simp)
theorem ev_v3 : eVar 3 (x0 :: x1 :: x2 :: some r :: e) bx = .ok r bx := rfl
theorem wE_v4 : wE X (eVar 4) (x0 :: x1 :: x2 :: x3 :: some r :: e) bx Q ↔ Q r bx := wE_var rfl
theorem wC_a4 : wC (cAsg (.nm 4) m) (x0 :: x1 :: x2 :: x3 :: x4 :: e) bx D ↔ wE (D.xc (x0 :: x1 :: x2 :: x3 :: x4 :: e)) m (x0 :: x1 :: x2 :: x3 :: x4 :: e) bx fun r b => D.nx (x0 :: x1 :: x2 :: x3 :: some r :: e) b := wC_asg (by simp)
theorem ev_v4 : eVar 4 (x0 :: x1 :: x2 :: x3 :: some r :: e) bx = .ok r bx := rfl
theorem wE_v5 : wE X (eVar 5) (x0 :: x1 :: x2 :: x3 :: x4 :: some r :: e) bx Q ↔ Q r bx := wE_var rfl
theorem wC_a5 : wC (cAsg (.nm 5) m) (x0 :: x1 :: x2 :: x3 :: x4 :: x5 :: e) bx D ↔ wE (D.xc (x0 :: x1 :: x2 :: x3 :: x4 :: x5 :: e)) m (x0 :: x1 :: x2 :: x3 :: x4 :: x5 :: e) bx fun r b => D.nx (x0 :: x1 :: x2 :: x3 :: x4 :: some r :: e) b := wC_asg (by simp)
theorem ev_v5 : eVar 5 (x0 :: x1 :: x2 :: x3 :: x4 :: some r :: e) bx = .ok r bx := rfl
theorem wE_v6 : wE X (eVar 6) (x0 :: x1 :: x2 :: x3 :: x4 :: x5 :: some r :: e) bx Q ↔ Q r bx := wE_var rfl
theorem wC_a6 : wC (cAsg (.nm 6) m) (x0 :: x1 :: x2 :: x3 :: x4 :: x5 :: x6 :: e) bx D ↔ wE (D.xc (x0 :: x1 :: x2 :: x3 :: x4 :: x5 :: x6 :: e)) m (x0 :: x1 :: x2 :: x3 :: x4 :: x5 :: x6 :: e) bx fun r b => D.nx (x0 :: x1 :: x2 :: x3 :: x4 :: x5 :: some r :: e) b := wC_asg (by simp)
theorem ev_v6 : eVar 6 (x0 :: x1 :: x2 :: x3 :: x4 :: x5 :: some r :: e) bx = .ok r bx := rfl
theorem wE_v7 : wE X (eVar 7) (x0 :: x1 :: x2 :: x3 :: x4 :: x5 :: x6 :: some r :: e) bx Q ↔ Q r bx := wE_var rfl
theorem wC_a7 : wC (cAsg (.nm 7) m) (x0 :: x1 :: x2 :: x3 :: x4 :: x5 :: x6 :: x7 :: e) bx D ↔ wE (D.xc (x0 :: x1 :: x2 :: x3 :: x4 :: x5 :: x6 :: x7 :: e)) m (x0 :: x1 :: x2 :: x3 :: x4 :: x5 :: x6 :: x7 :: e) bx fun r b => D.nx (x0 :: x1 :: x2 :: x3 :: x4 :: x5 :: x6 :: some r :: e) b := wC_asg (by simp)
theorem ev_v7 : eVar 7 (x0 :: x1 :: x2 :: x3 :: x4 :: x5 :: x6 :: some r :: e) bx = .ok r bx := rfl
theorem wE_v8 : wE X (eVar 8) (x0 :: x1 :: x2 :: x3 :: x4 :: x5 :: x6 :: x7 :: some r :: e) bx Q ↔ Q r bx := wE_var rfl
theorem wC_a8 : wC (cAsg (.nm 8) m) (x0 :: x1 :: x2 :: x3 :: x4 :: x5 :: x6 :: x7 :: x8 :: e) bx D ↔ wE (D.xc (x0 :: x1 :: x2 :: x3 :: x4 :: x5 :: x6 :: x7 :: x8 :: e)) m (x0 :: x1 :: x2 :: x3 :: x4 :: x5 :: x6 :: x7 :: x8 :: e) bx fun r b => D.nx (x0 :: x1 :: x2 :: x3 :: x4 :: x5 :: x6 :: x7 :: some r :: e) b := wC_asg (by simp)
theorem ev_v8 : eVar 8 (x0 :: x1 :: x2 :: x3 :: x4 :: x5 :: x6 :: x7 :: some r :: e) bx = .ok r bx := rfl
theorem wE_v9 : wE X (eVar 9) (x0 :: x1 :: x2 :: x3 :: x4 :: x5 :: x6 :: x7 :: x8 :: some r :: e) bx Q ↔ Q r bx := wE_var rfl
theorem wC_a9 : wC (cAsg (.nm 9) m) (x0 :: x1 :: x2 :: x3 :: x4 :: x5 :: x6 :: x7 :: x8 :: x9 :: e) bx D ↔ wE (D.xc (x0 :: x1 :: x2 :: x3 :: x4 :: x5 :: x6 :: x7 :: x8 :: x9 :: e)) m (x0 :: x1 :: x2 :: x3 :: x4 :: x5 :: x6 :: x7 :: x8 :: x9 :: e) bx fun r b => D.nx (x0 :: x1 :: x2 :: x3 :: x4 :: x5 :: x6 :: x7 :: x8 :: some r :: e) b := wC_asg (by simp)
theorem ev_v9 : eVar 9 (x0 :: x1 :: x2 :: x3 :: x4 :: x5 :: x6 :: x7 :: x8 :: some r :: e) bx = .ok r bx := rfl
theorem wE_v10 : wE X (eVar 10) (x0 :: x1 :: x2 :: x3 :: x4 :: x5 :: x6 :: x7 :: x8 :: x9 :: some r :: e) bx Q ↔ Q r bx := wE_var rfl
theorem wC_a10 : wC (cAsg (.nm 10) m) (x0 :: x1 :: x2 :: x3 :: x4 :: x5 :: x6 :: x7 :: x8 :: x9 :: x10 :: e) bx D ↔ wE (D.xc (x0 :: x1 :: x2 :: x3 :: x4 :: x5 :: x6 :: x7 :: x8 :: x9 :: x10 :: e)) m (x0 :: x1 :: x2 :: x3 :: x4 :: x5 :: x6 :: x7 :: x8 :: x9 :: x10 :: e) bx fun r b => D.nx (x0 :: x1 :: x2 :: x3 :: x4 :: x5 :: x6 :: x7 :: x8 :: x9 :: some r :: e) b := wC_asg (by simp)
theorem ev_v10 : eVar 10 (x0 :: x1 :: x2 :: x3 :: x4 :: x5 :: x6 :: x7 :: x8 :: x9 :: some r :: e) bx = .ok r bx := rfl
theorem wE_v11 : wE X (eVar 11) (x0 :: x1 :: x2 :: x3 :: x4 :: x5 :: x6 :: x7 :: x8 :: x9 :: x10 :: some r :: e) bx Q ↔ Q r bx := wE_var rfl
theorem wC_a11 : wC (cAsg (.nm 11) m) (x0 :: x1 :: x2 :: x3 :: x4 :: x5 :: x6 :: x7 :: x8 :: x9 :: x10 :: x11 :: e) bx D ↔ wE (D.xc (x0 :: x1 :: x2 :: x3 :: x4 :: x5 :: x6 :: x7 :: x8 :: x9 :: x10 :: x11 :: e)) m (x0 :: x1 :: x2 :: x3 :: x4 :: x5 :: x6 :: x7 :: x8 :: x9 :: x10 :: x11 :: e) bx fun r b => D.nx (x0 :: x1 :: x2 :: x3 :: x4 :: x5 :: x6 :: x7 :: x8 :: x9 :: x10 :: some r :: e) b := wC_asg (by simp)
theorem ev_v11 : eVar 11 (x0 :: x1 :: x2 :: x3 :: x4 :: x5 :: x6 :: x7 :: x8 :: x9 :: x10 :: some r :: e) bx = .ok r bx := rfl
theorem wE_v12 : wE X (eVar 12) (x0 :: x1 :: x2 :: x3 :: x4 :: x5 :: x6 :: x7 :: x8 :: x9 :: x10 :: x11 :: some r :: e) bx Q ↔ Q r bx := wE_var rfl
theorem wC_a12 : wC (cAsg (.nm 12) m) (x0 :: x1 :: x2 :: x3 :: x4 :: x5 :: x6 :: x7 :: x8 :: x9 :: x10 :: x11 :: x12 :: e) bx D ↔ wE (D.xc (x0 :: x1 :: x2 :: x3 :: x4 :: x5 :: x6 :: x7 :: x8 :: x9 :: x10 :: x11 :: x12 :: e)) m (x0 :: x1 :: x2 :: x3 :: x4 :: x5 :: x6 :: x7 :: x8 :: x9 :: x10 :: x11 :: x12 :: e) bx fun r b => D.nx (x0 :: x1 :: x2 :: x3 :: x4 :: x5 :: x6 :: x7 :: x8 :: x9 :: x10 :: x11 :: some r :: e) b := wC_asg (by simp)
theorem ev_v12 : eVar 12 (x0 :: x1 :: x2 :: x3 :: x4 :: x5 :: x6 :: x7 :: x8 :: x9 :: x10 :: x11 :: some r :: e) bx = .ok r bx := rfl
theorem wE_v13 : wE X (eVar 13) (x0 :: x1 :: x2 :: x3 :: x4 :: x5 :: x6 :: x7 :: x8 :: x9 :: x10 :: x11 :: x12 :: some r :: e) bx Q ↔ Q r bx := wE_var rfl
theorem wC_a13 : wC (cAsg (.nm 13) m) (x0 :: x1 :: x2 :: x3 :: x4 :: x5 :: x6 :: x7 :: x8 :: x9 :: x10 :: x11 :: x12 :: x13 :: e) bx D ↔ wE (D.xc (x0 :: x1 :: x2 :: x3 :: x4 :: x5 :: x6 :: x7 :: x8 :: x9 :: x10 :: x11 :: x12 :: x13 :: e)) m (x0 :: x1 :: x2 :: x3 :: x4 :: x5 :: x6 :: x7 :: x8 :: x9 :: x10 :: x11 :: x12 :: x13 :: e) bx fun r b => D.nx (x0 :: x1 :: x2 :: x3 :: x4 :: x5 :: x6 :: x7 :: x8 :: x9 :: x10 :: x11 :: x12 :: some r :: e) b := wC_asg (by simp)
theorem ev_v13 : eVar 13 (x0 :: x1 :: x2 :: x3 :: x4 :: x5 :: x6 :: x7 :: x8 :: x9 :: x10 :: x11 :: x12 :: some r :: e) bx = .ok r bx := rfl
theorem wE_v14 : wE X (eVar 14) (x0 :: x1 :: x2 :: x3 :: x4 :: x5 :: x6 :: x7 :: x8 :: x9 :: x10 :: x11 :: x12 :: x13 :: some r :: e) bx Q ↔ Q r bx := wE_var rfl
theorem wC_a14 : wC (cAsg (.nm 14) m) (x0 :: x1 :: x2 :: x3 :: x4 :: x5 :: x6 :: x7 :: x8 :: x9 :: x10 :: x11 :: x12 :: x13 :: x14 :: e) bx D ↔ wE (D.xc (x0 :: x1 :: x2 :: x3 :: x4 :: x5 :: x6 :: x7 :: x8 :: x9 :: x10 :: x11 :: x12 :: x13 :: x14 :: e)) m (x0 :: x1 :: x2 :: x3 :: x4 :: x5 :: x6 :: x7 :: x8 :: x9 :: x10 :: x11 :: x12 :: x13 :: x14 :: e) bx fun r b => D.nx (x0 :: x1 :: x2 :: x3 :: x4 :: x5 :: x6 :: x7 :: x8 :: x9 :: x10 :: x11 :: x12 :: x13 :: some r :: e) b := wC_asg (by simp)
theorem ev_v14 : eVar 14 (x0 :: x1 :: x2 :: x3 :: x4 :: x5 :: x6 :: x7 :: x8 :: x9 :: x10 :: x11 :: x12 :: x13 :: some r :: e) bx = .ok r bx := rfl
theorem wE_v15 : wE X (eVar 15) (x0 :: x1 :: x2 :: x3 :: x4 :: x5 :: x6 :: x7 :: x8 :: x9 :: x10 :: x11 :: x12 :: x13 :: x14 :: some r :: e) bx Q ↔ Q r bx := wE_var rfl
theorem wC_a15 : wC (cAsg (.nm 15) m) (x0 :: x1 :: x2 :: x3 :: x4 :: x5 :: x6 :: x7 :: x8 :: x9 :: x10 :: x11 :: x12 :: x13 :: x14 :: x15 :: e) bx D ↔ wE (D.xc (x0 :: x1 :: x2 :: x3 :: x4 :: x5 :: x6 :: x7 :: x8 :: x9 :: x10 :: x11 :: x12 :: x13 :: x14 :: x15 :: e)) m (x0 :: x1 :: x2 :: x3 :: x4 :: x5 :: x6 :: x7 :: x8 :: x9 :: x10 :: x11 :: x12 :: x13 :: x14 :: x15 :: e) bx fun r b => D.nx (x0 :: x1 :: x2 :: x3 :: x4 :: x5 :: x6 :: x7 :: x8 :: x9 :: x10 :: x11 :: x12 :: x13 :: x14 :: some r :: e) b := wC_asg (by simp)
theorem ev_v15 : eVar 15 (x0 :: x1 :: x2 :: x3 :: x4 :: x5 :: x6 :: x7 :: x8 :: x9 :: x10 :: x11 :: x12 :: x13 :: x14 :: some r :: e) bx = .ok r bx := rfl
theorem wE_v16 : wE X (eVar 16) (x0 :: x1 :: x2 :: x3 :: x4 :: x5 :: x6 :: x7 :: x8 :: x9 :: x10 :: x11 :: x12 :: x13 :: x14 :: x15 :: some r :: e) bx Q ↔ Q r bx := wE_var rfl
theorem wC_a16 : wC (cAsg (.nm 16) m) (x0 :: x1 :: x2 :: x3 :: x4 :: x5 :: x6 :: x7 :: x8 :: x9 :: x10 :: x11 :: x12 :: x13 :: x14 :: x15 :: x16 :: e) bx D ↔ wE (D.xc (x0 :: x1 :: x2 :: x3 :: x4 :: x5 :: x6 :: x7 :: x8 :: x9 :: x10 :: x11 :: x12 :: x13 :: x14 :: x15 :: x16 :: e)) m (x0 :: x1 :: x2 :: x3 :: x4 :: x5 :: x6 :: x7 :: x8 :: x9 :: x10 :: x11 :: x12 :: x13 :: x14 :: x15 :: x16 :: e) bx fun r b => D.nx (x0 :: x1 :: x2 :: x3 :: x4 :: x5 :: x6 :: x7 :: x8 :: x9 :: x10 :: x11 :: x12 :: x13 :: x14 :: x15 :: some r :: e) b := wC_asg (by simp)
theorem ev_v16 : eVar 16 (x0 :: x1 :: x2 :: x3 :: x4 :: x5 :: x6 :: x7 :: x8 :: x9 :: x10 :: x11 :: x12 :: x13 :: x14 :: x15 :: some r :: e) bx = .ok r bx := rfl
theorem wE_v17 : wE X (eVar 17) (x0 :: x1 :: x2 :: x3 :: x4 :: x5 :: x6 :: x7 :: x8 :: x9 :: x10 :: x11 :: x12 :: x13 :: x14 :: x15 :: x16 :: some r :: e) bx Q ↔ Q r bx := wE_var rfl
theorem wC_a17 : wC (cAsg (.nm 17) m) (x0 :: x1 :: x2 :: x3 :: x4 :: x5 :: x6 :: x7 :: x8 :: x9 :: x10 :: x11 :: x12 :: x13 :: x14 :: x15 :: x16 :: x17 :: e) bx D ↔ wE (D.xc (x0 :: x1 :: x2 :: x3 :: x4 :: x5 :: x6 :: x7 :: x8 :: x9 :: x10 :: x11 :: x12 :: x13 :: x14 :: x15 :: x16 :: x17 :: e)) m (x0 :: x1 :: x2 :: x3 :: x4 :: x5 :: x6 :: x7 :: x8 :: x9 :: x10 :: x11 :: x12 :: x13 :: x14 :: x15 :: x16 :: x17 :: e) bx fun r b => D.nx (x0 :: x1 :: x2 :: x3 :: x4 :: x5 :: x6 :: x7 :: x8 :: x9 :: x10 :: x11 :: x12 :: x13 :: x14 :: x15 :: x16 :: some r :: e) b := wC_asg (by simp)
theorem ev_v17 : eVar 17 (x0 :: x1 :: x2 :: x3 :: x4 :: x5 :: x6 :: x7 :: x8 :: x9 :: x10 :: x11 :: x12 :: x13 :: x14 :: x15 :: x16 :: some r :: e) bx = .ok r bx := rfl
theorem wE_v18 : wE X (eVar 18) (x0 :: x1 :: x2 :: x3 :: x4 :: x5 :: x6 :: x7 :: x8 :: x9 :: x10 :: x11 :: x12 :: x13 :: x14 :: x15 :: x16 :: x17 :: some r :: e) bx Q ↔ Q r bx := wE_var rfl
theorem wC_a18 : wC (cAsg (.nm 18) m) (x0 :: x1 :: x2 :: x3 :: x4 :: x5 :: x6 :: x7 :: x8 :: x9 :: x10 :: x11 :: x12 :: x13 :: x14 :: x15 :: x16 :: x17 :: x18 :: e) bx D ↔ wE (D.xc (x0 :: x1 :: x2 :: x3 :: x4 :: x5 :: x6 :: x7 :: x8 :: x9 :: x10 :: x11 :: x12 :: x13 :: x14 :: x15 :: x16 :: x17 :: x18 :: e)) m (x0 :: x1 :: x2 :: x3 :: x4 :: x5 :: x6 :: x7 :: x8 :: x9 :: x10 :: x11 :: x12 :: x13 :: x14 :: x15 :: x16 :: x17 :: x18 :: e) bx fun r b => D.nx (x0 :: x1 :: x2 :: x3 :: x4 :: x5 :: x6 :: x7 :: x8 :: x9 :: x10 :: x11 :: x12 :: x13 :: x14 :: x15 :: x16 :: x17 :: some r :: e) b := wC_asg (by simp)
theorem ev_v18 : eVar 18 (x0 :: x1 :: x2 :: x3 :: x4 :: x5 :: x6 :: x7 :: x8 :: x9 :: x10 :: x11 :: x12 :: x13 :: x14 :: x15 :: x16 :: x17 :: some r :: e) bx = .ok r bx := rfl
theorem wE_v19 : wE X (eVar 19) (x0 :: x1 :: x2 :: x3 :: x4 :: x5 :: x6 :: x7 :: x8 :: x9 :: x10 :: x11 :: x12 :: x13 :: x14 :: x15 :: x16 :: x17 :: x18 :: some r :: e) bx Q ↔ Q r bx := wE_var rfl
theorem wC_a19 : wC (cAsg (.nm 19) m) (x0 :: x1 :: x2 :: x3 :: x4 :: x5 :: x6 :: x7 :: x8 :: x9 :: x10 :: x11 :: x12 :: x13 :: x14 :: x15 :: x16 :: x17 :: x18 :: x19 :: e) bx D ↔ wE (D.xc (x0 :: x1 :: x2 :: x3 :: x4 :: x5 :: x6 :: x7 :: x8 :: x9 :: x10 :: x11 :: x12 :: x13 :: x14 :: x15 :: x16 :: x17 :: x18 :: x19 :: e)) m (x0 :: x1 :: x2 :: x3 :: x4 :: x5 :: x6 :: x7 :: x8 :: x9 :: x10 :: x11 :: x12 :: x13 :: x14 :: x15 :: x16 :: x17 :: x18 :: x19 :: e) bx fun r b => D.nx (x0 :: x1 :: x2 :: x3 :: x4 :: x5 :: x6 :: x7 :: x8 :: x9 :: x10 :: x11 :: x12 :: x13 :: x14 :: x15 :: x16 :: x17 :: x18 :: some r :: e) b := wC_asg (by simp)
theorem ev_v19 : eVar 19 (x0 :: x1 :: x2 :: x3 :: x4 :: x5 :: x6 :: x7 :: x8 :: x9 :: x10 :: x11 :: x12 :: x13 :: x14 :: x15 :: x16 :: x17 :: x18 :: some r :: e) bx = .ok r bx := rfl
theorem wE_v20 : wE X (eVar 20) (x0 :: x1 :: x2 :: x3 :: x4 :: x5 :: x6 :: x7 :: x8 :: x9 :: x10 :: x11 :: x12 :: x13 :: x14 :: x15 :: x16 :: x17 :: x18 :: x19 :: some r :: e) bx Q ↔ Q r bx := wE_var rfl
theorem wC_a20 : wC (cAsg (.nm 20) m) (x0 :: x1 :: x2 :: x3 :: x4 :: x5 :: x6 :: x7 :: x8 :: x9 :: x10 :: x11 :: x12 :: x13 :: x14 :: x15 :: x16 :: x17 :: x18 :: x19 :: x20 :: e) bx D ↔ wE (D.xc (x0 :: x1 :: x2 :: x3 :: x4 :: x5 :: x6 :: x7 :: x8 :: x9 :: x10 :: x11 :: x12 :: x13 :: x14 :: x15 :: x16 :: x17 :: x18 :: x19 :: x20 :: e)) m (x0 :: x1 :: x2 :: x3 :: x4 :: x5 :: x6 :: x7 :: x8 :: x9 :: x10 :: x11 :: x12 :: x13 :: x14 :: x15 :: x16 :: x17 :: x18 :: x19 :: x20 :: e) bx fun r b => D.nx (x0 :: x1 :: x2 :: x3 :: x4 :: x5 :: x6 :: x7 :: x8 :: x9 :: x10 :: x11 :: x12 :: x13 :: x14 :: x15 :: x16 :: x17 :: x18 :: x19 :: some r :: e) b := wC_asg (by simp)
theorem ev_v20 : eVar 20 (x0 :: x1 :: x2 :: x3 :: x4 :: x5 :: x6 :: x7 :: x8 :: x9 :: x10 :: x11 :: x12 :: x13 :: x14 :: x15 :: x16 :: x17 :: x18 :: x19 :: some r :: e) bx = .ok r bx := rfl
theorem wE_v21 : wE X (eVar 21) (x0 :: x1 :: x2 :: x3 :: x4 :: x5 :: x6 :: x7 :: x8 :: x9 :: x10 :: x11 :: x12 :: x13 :: x14 :: x15 :: x16 :: x17 :: x18 :: x19 :: x20 :: some r :: e) bx Q ↔ Q r bx := wE_var rfl
theorem wC_a21 : wC (cAsg (.nm 21) m) (x0 :: x1 :: x2 :: x3 :: x4 :: x5 :: x6 :: x7 :: x8 :: x9 :: x10 :: x11 :: x12 :: x13 :: x14 :: x15 :: x16 :: x17 :: x18 :: x19 :: x20 :: x21 :: e) bx D ↔ wE (D.xc (x0 :: x1 :: x2 :: x3 :: x4 :: x5 :: x6 :: x7 :: x8 :: x9 :: x10 :: x11 :: x12 :: x13 :: x14 :: x15 :: x16 :: x17 :: x18 :: x19 :: x20 :: x21 :: e)) m (x0 :: x1 :: x2 :: x3 :: x4 :: x5 :: x6 :: x7 :: x8 :: x9 :: x10 :: x11 :: x12 :: x13 :: x14 :: x15 :: x16 :: x17 :: x18 :: x19 :: x20 :: x21 :: e) bx fun r b => D.nx (x0 :: x1 :: x2 :: x3 :: x4 :: x5 :: x6 :: x7 :: x8 :: x9 :: x10 :: x11 :: x12 :: x13 :: x14 :: x15 :: x16 :: x17 :: x18 :: x19 :: x20 :: some r :: e) b := wC_asg (by simp)
theorem ev_v21 : eVar 21 (x0 :: x1 :: x2 :: x3 :: x4 :: x5 :: x6 :: x7 :: x8 :: x9 :: x10 :: x11 :: x12 :: x13 :: x14 :: x15 :: x16 :: x17 :: x18 :: x19 :: x20 :: some r :: e) bx = .ok r bx := rfl
theorem wE_v22 : wE X (eVar 22) (x0 :: x1 :: x2 :: x3 :: x4 :: x5 :: x6 :: x7 :: x8 :: x9 :: x10 :: x11 :: x12 :: x13 :: x14 :: x15 :: x16 :: x17 :: x18 :: x19 :: x20 :: x21 :: some r :: e) bx Q ↔ Q r bx := wE_var rfl
theorem wC_a22 : wC (cAsg (.nm 22) m) (x0 :: x1 :: x2 :: x3 :: x4 :: x5 :: x6 :: x7 :: x8 :: x9 :: x10 :: x11 :: x12 :: x13 :: x14 :: x15 :: x16 :: x17 :: x18 :: x19 :: x20 :: x21 :: x22 :: e) bx D ↔ wE (D.xc (x0 :: x1 :: x2 :: x3 :: x4 :: x5 :: x6 :: x7 :: x8 :: x9 :: x10 :: x11 :: x12 :: x13 :: x14 :: x15 :: x16 :: x17 :: x18 :: x19 :: x20 :: x21 :: x22 :: e)) m (x0 :: x1 :: x2 :: x3 :: x4 :: x5 :: x6 :: x7 :: x8 :: x9 :: x10 :: x11 :: x12 :: x13 :: x14 :: x15 :: x16 :: x17 :: x18 :: x19 :: x20 :: x21 :: x22 :: e) bx fun r b => D.nx (x0 :: x1 :: x2 :: x3 :: x4 :: x5 :: x6 :: x7 :: x8 :: x9 :: x10 :: x11 :: x12 :: x13 :: x14 :: x15 :: x16 :: x17 :: x18 :: x19 :: x20 :: x21 :: some r :: e) b := wC_asg (by simp)
theorem ev_v22 : eVar 22 (x0 :: x1 :: x2 :: x3 :: x4 :: x5 :: x6 :: x7 :: x8 :: x9 :: x10 :: x11 :: x12 :: x13 :: x14 :: x15 :: x16 :: x17 :: x18 :: x19 :: x20 :: x21 :: some r :: e) bx = .ok r bx := rfl
theorem wE_v23 : wE X (eVar 23) (x0 :: x1 :: x2 :: x3 :: x4 :: x5 :: x6 :: x7 :: x8 :: x9 :: x10 :: x11 :: x12 :: x13 :: x14 :: x15 :: x16 :: x17 :: x18 :: x19 :: x20 :: x21 :: x22 :: some r :: e) bx Q ↔ Q r bx := wE_var rfl
theorem wC_a23 : wC (cAsg (.nm 23) m) (x0 :: x1 :: x2 :: x3 :: x4 :: x5 :: x6 :: x7 :: x8 :: x9 :: x10 :: x11 :: x12 :: x13 :: x14 :: x15 :: x16 :: x17 :: x18 :: x19 :: x20 :: x21 :: x22 :: x23 :: e) bx D ↔ wE (D.xc (x0 :: x1 :: x2 :: x3 :: x4 :: x5 :: x6 :: x7 :: x8 :: x9 :: x10 :: x11 :: x12 :: x13 :: x14 :: x15 :: x16 :: x17 :: x18 :: x19 :: x20 :: x21 :: x22 :: x23 :: e)) m (x0 :: x1 :: x2 :: x3 :: x4 :: x5 :: x6 :: x7 :: x8 :: x9 :: x10 :: x11 :: x12 :: x13 :: x14 :: x15 :: x16 :: x17 :: x18 :: x19 :: x20 :: x21 :: x22 :: x23 :: e) bx fun r b => D.nx (x0 :: x1 :: x2 :: x3 :: x4 :: x5 :: x6 :: x7 :: x8 :: x9 :: x10 :: x11 :: x12 :: x13 :: x14 :: x15 :: x16 :: x17 :: x18 :: x19 :: x20 :: x21 :: x22 :: some r :: e) b := wC_asg (by simp)
theorem ev_v23 : eVar 23 (x0 :: x1 :: x2 :: x3 :: x4 :: x5 :: x6 :: x7 :: x8 :: x9 :: x10 :: x11 :: x12 :: x13 :: x14 :: x15 :: x16 :: x17 :: x18 :: x19 :: x20 :: x21 :: x22 :: some r :: e) bx = .ok r bx := rfl
theorem wE_v24 : wE X (eVar 24) (x0 :: x1 :: x2 :: x3 :: x4 :: x5 :: x6 :: x7 :: x8 :: x9 :: x10 :: x11 :: x12 :: x13 :: x14 :: x15 :: x16 :: x17 :: x18 :: x19 :: x20 :: x21 :: x22 :: x23 :: some r :: e) bx Q ↔ Q r bx := wE_var rfl
theorem wC_a24 : wC (cAsg (.nm 24) m) (x0 :: x1 :: x2 :: x3 :: x4 :: x5 :: x6 :: x7 :: x8 :: x9 :: x10 :: x11 :: x12 :: x13 :: x14 :: x15 :: x16 :: x17 :: x18 :: x19 :: x20 :: x21 :: x22 :: x23 :: x24 :: e) bx D ↔ wE (D.xc (x0 :: x1 :: x2 :: x3 :: x4 :: x5 :: x6 :: x7 :: x8 :: x9 :: x10 :: x11 :: x12 :: x13 :: x14 :: x15 :: x16 :: x17 :: x18 :: x19 :: x20 :: x21 :: x22 :: x23 :: x24 :: e)) m (x0 :: x1 :: x2 :: x3 :: x4 :: x5 :: x6 :: x7 :: x8 :: x9 :: x10 :: x11 :: x12 :: x13 :: x14 :: x15 :: x16 :: x17 :: x18 :: x19 :: x20 :: x21 :: x22 :: x23 :: x24 :: e) bx fun r b => D.nx (x0 :: x1 :: x2 :: x3 :: x4 :: x5 :: x6 :: x7 :: x8 :: x9 :: x10 :: x11 :: x12 :: x13 :: x14 :: x15 :: x16 :: x17 :: x18 :: x19 :: x20 :: x21 :: x22 :: x23 :: some r :: e) b := wC_asg (by simp)
theorem ev_v24 : eVar 24 (x0 :: x1 :: x2 :: x3 :: x4 :: x5 :: x6 :: x7 :: x8 :: x9 :: x10 :: x11 :: x12 :: x13 :: x14 :: x15 :: x16 :: x17 :: x18 :: x19 :: x20 :: x21 :: x22 :: x23 :: some r :: e) bx = .ok r bx := rfl
end
end AM
/-! text AmP9 -/
set_option Elab.async false
set_option linter.all false
set_option maxRecDepth 100000
/-! AmP9: operations on typed values; names and paths as the program tells them. -/
namespace AM
open PySem
def letters : List Nat := [97,98,99,100,101,102,103,104,105,106,107,108,109,110,111,112,113,114,115,116,117,118,119,120,121,122]
def resv : List Str := ["then", "or", "more"]
def nameS (s : Str) : Bool := decide (1 ≤ s.length) && decide (s.length ≤ 8) && !decide (s ∈ resv) && s.cps.toList.all fun c => decide (c ∈ letters)
/-- is it a name -/
def nameB : W → Bool
  | .str s => nameS s
  | _ => false
/-- is it a path -/
def pathB : W → Bool
  | .tup xs => decide (1 ≤ xs.length) && xs.all nameB
  | _ => false
def tyB : W → Ty → Bool
  | .bl _, .bool => true
  | .bl _, .int => true
  | .int _, .int => true
  | .str _, .str => true
  | .tup _, .tuple => true
  | .lst _, .list => true
  | .dct _ _, .dict => true
  | _, _ => false
section
variable {bx : Bx} {T : Tab}
theorem isTy_run {t : Ty} {x : W} (h : x.gd = true) : opIsTy T t [.v x] bx = .ok (.v (.bl (tyB x t))) bx := by
  cases x <;> first | (cases t <;> rfl) | (simp [W.gd] at h)
theorem in_letters {c : Nat} : opCmp .isin [.v (.str ⟨#[c]⟩), .v (.str "abcdefghijklmnopqrstuvwxyz")] bx = .ok (.v (.bl (decide (c ∈ letters)))) bx := by
  have e : (Str.ofString "abcdefghijklmnopqrstuvwxyz").cps.toList = letters := by decide +kernel
  simp only [opCmp, cmpB, inR, e]
  rfl
theorem in_resv {s : Str} (h : okc s = true) : opCmp .isin [.v (.str s), .v (.tup [.str "then", .str "or", .str "more"])] bx = .ok (.v (.bl (decide (s ∈ resv)))) bx := by
  have e1 : W.lays [.str "then", .str "or", .str "more"] = true := by decide +kernel
  have e2 : (W.str s).isDat = true := okc_lay h
  have e3 : ∀ a : Str, W.pyeq (.str a) (.str s) = decide (s = a) := fun a => by
    simp only [W.pyeq]
    rw [Bool.eq_iff_iff, beq_iff_eq, decide_eq_true_eq, eq_comm]
  have e4 : (List.map R.v [W.str "then", .str "or", .str "more"]) = [.v (.str "then"), .v (.str "or"), .v (.str "more")] := rfl
  have e6 : ∀ a b c : Str, decide (s ∈ [a, b, c]) = (decide (s = a) || (decide (s = b) || (decide (s = c) || false))) := fun a b c => by
    rw [Bool.eq_iff_iff]
    simp only [List.mem_cons, List.not_mem_nil, or_false, Bool.or_eq_true, decide_eq_true_eq, Bool.or_false]
  have e5 : decide (s ∈ resv) = _ := e6 _ _ _
  simp only [opCmp, cmpB, inR, dcO, itS, view, e4, mapO, Option.map_some, Option.bind_some, e1, e2, Bool.and_self, if_true, List.any_cons, List.any_nil, e3, okO, okB, e5]
theorem len_str {s : Str} (h : s.cps.size ≤ 100000) : opLen [.v (.str s)] bx = .ok (.v (.int s.length)) bx := by
  have : s.length ≤ SL := by unfold SL; show s.cps.size ≤ _; omega
  simp [opLen, lenO, this]
theorem len_tup {xs : List W} : opLen [.v (.tup xs)] bx = .ok (.v (.int xs.length)) bx := by
  simp [opLen, lenO, itS]
theorem len_lst {xs : List W} : opLen [.v (.lst xs)] bx = .ok (.v (.int xs.length)) bx := by
  simp [opLen, lenO, itS, itL]
theorem opl_le {i j : Int} : opCmp .le [.v (.int i), .v (.int j)] bx = .ok (.v (.bl (decide (i ≤ j)))) bx := rfl
theorem opl_gt {i j : Int} : opCmp .gt [.v (.int i), .v (.int j)] bx = .ok (.v (.bl (decide (j < i)))) bx := rfl
end
end AM
/-! text AmPn -/
set_option Elab.async false
set_option linter.all false
set_option maxRecDepth 100000
set_option maxHeartbeats 2000000
/-! AmPn: what tells names and paths. -/
namespace AM
open PySem
section
variable {bx : Bx} {F : Fn} {T : Tab} {k : Nat}
def nameC (T : Tab) (mx re le : E) : C := cSeq [cIf (eOr [eNot (eOp [eVar 0] (opIsTy T .str)), eNot (eChain .le .le (eC (.int 1)) (eFn [(false, eVar 0)] opLen) mx), eOp [eVar 0, re] (opCmp .isin)]) (cSeq [cRet (eC (.bl false))]) (cPass),
    cRet (eFn [(false, eLc false [1] [⟨.nm 1, iPlain (eVar 0), []⟩] (eOp [eVar 1, le] (opCmp .isin)))] opAll)]
theorem name_ok {re : E} {x : W} (hre : ∀ X en Q, wE X re en bx Q ↔ Q (.v (.tup [.str "then", .str "or", .str "more"])) bx) (h : Good x) :
    runF 1 2 (nameC T (eC (.int 8)) re (eC (.str "abcdefghijklmnopqrstuvwxyz"))) [.v x] bx = .ok (.v (.bl (nameB x))) bx := by
  refine wR_eq (wC_run rfl ?_)
  show wC (nameC T (eC (.int 8)) re (eC (.str "abcdefghijklmnopqrstuvwxyz"))) [some (.v x), none] bx _
  unfold nameC
  by_cases hs : ∃ s, x = .str s
  · obtain ⟨s, rfl⟩ := hs
    obtain ⟨h1, h2⟩ := h.str
    have al := all_lc (bx := bx) (en := [some (.v (.str s)), none]) (elt := eOp [eVar 1, eC (.str "abcdefghijklmnopqrstuvwxyz")] (opCmp .isin)) (i := 1) (own := [1]) (g := fun x => match x with | .str t => t.cps.toList.all fun c => decide (c ∈ letters) | _ => false)
      (it_str (i := 0) (s := s) rfl) (by simp [wipeE]) (by simp; unfold SL; omega) (fun x hx => by
        simp only [List.mem_map] at hx
        obtain ⟨c, _, rfl⟩ := hx
        refine wR_eq ?_
        show wE _ _ [some (.v (.str s)), some (.v (.str ⟨#[c]⟩))] bx _
        rw [wE_op2, wE_v1, wE_C, in_letters, wR_ok]
        simp)
    have al2 : ∀ X Q, wE X (eFn [(false, eLc false [1] [⟨.nm 1, iPlain (eVar 0), []⟩] (eOp [eVar 1, eC (.str "abcdefghijklmnopqrstuvwxyz")] (opCmp .isin)))] opAll) [some (.v (.str s)), none] bx Q ↔ Q _ bx := fun X Q => wE_of al
    generalize eFn [(false, eLc false [1] [⟨.nm 1, iPlain (eVar 0), []⟩] (eOp [eVar 1, eC (.str "abcdefghijklmnopqrstuvwxyz")] (opCmp .isin)))] opAll = me at al2
    simp only [wC_seq, wC_seq1, wC_ifB, wE_orB, wE_or1, wE_not, wE_op1, wE_op2, wE_v0, isTy_run (x := .str s) h1, wR_ok, wB_bl, wE_chain, wE_fn1, len_str h2, opl_le, wE_C, hre, in_resv h1, wC_ret, wC_pass, al2]
    have e0 : nameB (.str s) = nameS s := rfl
    simp only [e0, nameS, List.all_map, Function.comp_def, tyB]
    by_cases a1 : 1 ≤ s.length <;> by_cases a2 : s.length ≤ 8 <;> by_cases a3 : s ∈ resv <;> simp [a1, a2, a3] <;> (try omega)
  · have e1 : tyB x .str = false := by cases x <;> first | rfl | exact absurd ⟨_, rfl⟩ hs
    have e2 : nameB x = false := by cases x <;> first | rfl | exact absurd ⟨_, rfl⟩ hs
    simp only [wC_seq, wC_seq1, wC_ifB, wE_orB, wE_or1, wE_not, wE_op1, wE_op2, wE_v0, isTy_run h.gd, wR_ok, wB_bl, wC_ret, wE_C, e1, e2]
    simp
def pathC (T : Tab) (F : Fn) (k : Nat) (o : Cop) (i : Int) : C := cSeq [cRet (eAnd [eOp [eVar 0] (opIsTy T .tuple), eOp [eFn [(false, eVar 0)] opLen, eC (.int i)] (opCmp o), eFn [(false, eLc false [1] [⟨.nm 1, iPlain (eVar 0), []⟩] (eFn [(false, eVar 1)] (opCall F k false)))] opAll])]
theorem path_ok {o : Cop} {i : Int} {x : W} (ho : (o = .ge ∧ i = 1) ∨ (o = .gt ∧ i = 0)) (hF : ∀ x bx, Good x → F k [.v x] bx = .ok (.v (.bl (nameB x))) bx) (h : Good x) :
    runF 1 2 (pathC T F k o i) [.v x] bx = .ok (.v (.bl (pathB x))) bx := by
  refine wR_eq (wC_run rfl ?_)
  show wC (pathC T F k o i) [some (.v x), none] bx _
  unfold pathC
  by_cases hs : ∃ xs, x = .tup xs
  · obtain ⟨xs, rfl⟩ := hs
    have hl := h.tup_len
    have al := all_lc (bx := bx) (en := [some (.v (.tup xs)), none]) (elt := eFn [(false, eVar 1)] (opCall F k false)) (i := 1) (own := [1]) (g := nameB)
      (it_of (m := eVar 0) (eVar_of (i := 0) rfl) (.inr rfl)) (by simp [wipeE]) (by unfold SL; omega) (fun x hx => by
        refine wR_eq ?_
        show wE _ _ [some (.v (.tup xs)), some (.v x)] bx _
        rw [wE_fn1, wE_v1, call_v (hF _ _ (h.tup_mem hx)), wR_ok]
        simp)
    have al2 : ∀ X Q, wE X (eFn [(false, eLc false [1] [⟨.nm 1, iPlain (eVar 0), []⟩] (eFn [(false, eVar 1)] (opCall F k false)))] opAll) [some (.v (.tup xs)), none] bx Q ↔ Q _ bx := fun X Q => wE_of al
    generalize eFn [(false, eLc false [1] [⟨.nm 1, iPlain (eVar 0), []⟩] (eFn [(false, eVar 1)] (opCall F k false)))] opAll = me at al2
    have e0 : pathB (.tup xs) = (decide (1 ≤ xs.length) && xs.all nameB) := rfl
    rcases ho with ⟨rfl, rfl⟩ | ⟨rfl, rfl⟩
    · simp only [wC_seq1, wE_andB, wE_and1, wE_op1, wE_op2, wE_v0, isTy_run (x := .tup xs) h.gd, wR_ok, wB_bl, wE_fn1, len_tup, opl_ge, wE_C, wC_ret, al2, e0, tyB]
      by_cases a : 1 ≤ xs.length <;> simp [a] <;> (try omega)
    · simp only [wC_seq1, wE_andB, wE_and1, wE_op1, wE_op2, wE_v0, isTy_run (x := .tup xs) h.gd, wR_ok, wB_bl, wE_fn1, len_tup, opl_gt, wE_C, wC_ret, al2, e0, tyB]
      have e3 : decide ((0 : Int) < (xs.length : Int)) = decide (1 ≤ xs.length) := by
        rw [Bool.eq_iff_iff, decide_eq_true_eq, decide_eq_true_eq]; omega
      rw [e3]
      cases decide (1 ≤ xs.length) <;> simp
  · have e1 : tyB x .tuple = false := by cases x <;> first | rfl | exact absurd ⟨_, rfl⟩ hs
    have e2 : pathB x = false := by cases x <;> first | rfl | exact absurd ⟨_, rfl⟩ hs
    simp only [wC_seq1, wE_andB, wE_and1, wE_op1, wE_op2, wE_v0, isTy_run h.gd, wR_ok, wB_bl, wC_ret, wE_C, e1, e2]
    simp
end
end AM
/-! text AmPp -/
set_option Elab.async false
set_option linter.all false
set_option maxRecDepth 100000
set_option maxHeartbeats 1000000
/-! AmPp: the pen with draws left; comprehensions that draw; what is dropped behind a call. -/
namespace AM
open PySem
/-- the pen, n draws left -/
def Pen (ns : List Int) (n : Nat) (p : Box) : Prop := ∃ i v : Int, 0 ≤ i ∧ i + n ≤ 4611686018427387904 ∧ 0 ≤ v ∧ p = penB (ns.map W.int) i v
section
variable {ns : List Int} {n m : Nat} {p p' : Box} {rest : Bx} {F : Fn} {f : Nat}
theorem Pen.mono (h : Pen ns n p) (l : m ≤ n) : Pen ns m p := by
  obtain ⟨i, v, a, b, c, d⟩ := h
  exact ⟨i, v, a, by omega, c, d⟩
theorem Pen.lt (h : Pen ns n p) (k : Nat) : boxLt k p = true := by
  obtain ⟨i, v, _, _, _, rfl⟩ := h
  simp [boxLt, penB, refLt]
/-- what draws -/
def Draws (F : Fn) (f : Nat) : Prop := ∀ (ns : List Int) (n : Nat) (p : Box) (rest : Bx) (u : Int), Pen ns (n + 1) p → 0 < u → u < 1073741824 → ∃ (d : Int) (p' : Box), opCall F f false [.r 0, .v (.int u)] (p :: rest) = .ok (.v (.int d)) (p' :: rest) ∧ 0 ≤ d ∧ d < u ∧ Pen ns n p'
theorem draws_of {F' : Fn} {nx : Nat} (hF : F f = runF 2 3 (drawB F' nx)) (hF' : F' nx = runF 1 6 nextB) : Draws F f := by
  intro ns n p rest u hp u0 u1
  obtain ⟨i, v, a, b, c, rfl⟩ := hp
  obtain ⟨k, j, v', a1, a2, a3, a4, a5, e⟩ := draw_run (F := F') (nx := nx) (n := 0) (bx := penB (ns.map W.int) i v :: rest) hF' rfl a (by omega) c u0 u1
  refine ⟨k, penB (ns.map W.int) j v', ?_, a1, a2, ⟨j, v', by omega, by omega, a5, rfl⟩⟩
  refine call_p (fun m => by simp [boxLt, penB, refLt]) ?_
  rw [hF]; exact e
/-- a call that draws -/
def Calls1 (F : Fn) (f : Nat) (xs : List R) (c : Nat) (P : W → Prop) : Prop := ∀ (ns : List Int) (n : Nat) (p : Box) (rest : Bx), Pen ns (n + c) p → ∃ (w : W) (p' : Box), opCall F f false xs (p :: rest) = .ok (.v w) (p' :: rest) ∧ P w ∧ Pen ns n p'
/-- the turns of a clause, by an invariant of the boxes; P of what comes -/
theorem lcT_inv {elt : E} {i : Nat} {en : En} (J : Nat → Bx → Prop) (P : W → Prop) (hi : i < en.length) : ∀ (xs : List W) (k : Nat) (bx : Bx), J k bx →
    (∀ (j : Nat) (x : W) (bx : Bx), xs[j]? = some x → J (k + j) bx → ∃ (w : W) (bx' : Bx), elt (en.set i (some (.v x))) bx = .ok (.v w) bx' ∧ P w ∧ J (k + j + 1) bx') →
    ∃ (ws : List W) (bx' : Bx), lcTurns (lcGo elt []) (.nm i) [] none en (xs.map fun x => .one (.v x)) bx = some (ws.map R.v, bx') ∧ ws.length = xs.length ∧ (∀ w ∈ ws, P w) ∧ J (k + xs.length) bx'
  | [], k, bx, h, _ => ⟨[], bx, rfl, rfl, fun _ m => (by cases m), h⟩
  | x :: xs, k, bx, h, st => by
    obtain ⟨w, b1, e1, p1, j1⟩ := st 0 x bx rfl h
    obtain ⟨ws, b2, e2, l2, p2, j2⟩ := lcT_inv J P hi xs (k + 1) b1 j1 fun j y b hj hJ => by
      obtain ⟨w', b', q1, q2, q3⟩ := st (j + 1) y b (by simpa using hj) (by rw [show k + (j + 1) = k + 1 + j by omega]; exact hJ)
      exact ⟨w', b', q1, q2, by rw [show k + 1 + j + 1 = k + (j + 1) + 1 by omega]; exact q3⟩
    refine ⟨w :: ws, b2, ?_, by simp [l2], fun y m => ?_, by rw [show k + (x :: xs).length = k + 1 + xs.length by simp; omega]; exact j2⟩
    · have ha : asg (.nm i) (.one (.v x)) en bx = some (en.set i (some (.v x))) := by simp [asg, hi]
      have hb : lcGo elt [] (en.set i (some (.v x))) bx = some ([.v w], b1) := by
        unfold lcGo
        rw [e1]
      rw [List.map_cons]
      unfold lcTurns
      simp only [guarded, if_true, ha, testsO, hb, e2]
      rfl
    · rcases List.mem_cons.mp m with m | m
      · exact m ▸ p1
      · exact p2 y m
/-- [e for x in xs], e changing boxes -/
theorem eLc_inv {elt : E} {it : I} {i : Nat} {en : En} {own : List Nat} {xs : List W} {bx b0 : Bx} (J : Nat → Bx → Prop) (P : W → Prop) (hit : it (wipeE en own) bx = .ok (xs.map fun x => .one (.v x)) none b0) (hi : i < (wipeE en own).length) (hl : xs.length ≤ SL) (h0 : J 0 b0)
    (st : ∀ (j : Nat) (x : W) (bx : Bx), xs[j]? = some x → J j bx → ∃ (w : W) (bx' : Bx), elt ((wipeE en own).set i (some (.v x))) bx = .ok (.v w) bx' ∧ P w ∧ J (j + 1) bx') :
    ∃ (ws : List W) (bx' : Bx), eLc false own [⟨.nm i, it, []⟩] elt en bx = .ok (.v (.lst ws)) bx' ∧ ws.length = xs.length ∧ (∀ w ∈ ws, P w) ∧ J xs.length bx' := by
  obtain ⟨ws, b', e, l, q, j⟩ := lcT_inv J P hi xs 0 b0 h0 fun j x b hj hJ => by
    have := st j x b hj (by simpa using hJ)
    simpa using this
  refine ⟨ws, b', ?_, l, q, by simpa using j⟩
  unfold eLc lcGo
  simp only [hit, e]
  exact mkL_v (by rw [l]; exact hl)
theorem rangeI_map (k : Nat) : rangeI 0 (k : Int) = ((List.range k).map fun j => W.int (j : Nat)).map fun x => It.one (.v x) := by
  unfold rangeI
  simp
theorem it_range {m : E} {en : En} {bx bx' : Bx} {k : Nat} (h : m en bx = .ok (.v (.int k)) bx') (hk : k < 1000000) : iRange1 m en bx = .ok (((List.range k).map fun j => W.int (j : Nat)).map fun x => It.one (.v x)) none bx' := by
  unfold iRange1 iBind
  rw [h]
  simp only [range1K]
  rw [if_pos (by omega), rangeI_map]
/-! ### what is dropped behind a call -/
theorem backOk_app (m : Nat) (l junk : Bx) : backOk m l (l ++ junk) = true := by
  induction l with
  | nil => rfl
  | cons a t ih => simp [backOk, ih]
theorem settle_junk {w : W} {bx junk : Bx} : settle bx (.ok (.v w) (bx ++ junk)) = .ok (.v w) bx := by
  simp [settle, viewF, backOk_app]
theorem settle_junkx {w : W} {bx junk : Bx} : settle bx (.exc w (bx ++ junk)) = .exc w bx := by
  simp [settle, backOk_app]
theorem settle_pj {w : W} {junk : Bx} (h : ∀ m, boxLt m p' = true) : settle (p :: rest) (.ok (.v w) (p' :: (rest ++ junk))) = .ok (.v w) (p' :: rest) := by
  simp [settle, viewF, backOk, h, backOk_app]
/-- a new box as the answer -/
theorem settle_box {bx : Bx} {ws : List W} : settle bx (.ok (.r bx.length) (bx ++ [.lst (ws.map .v)])) = .ok (.v (.lst ws)) bx := by
  have e : mapO (viewF bx.length (bx ++ [.lst (ws.map .v)]) 8) (ws.map R.v) = some ws := by
    generalize bx ++ [.lst (ws.map R.v)] = b
    induction ws with
    | nil => rfl
    | cons a t ih => simp [mapO, viewF, ih]
  simp [settle, viewF, e, backOk_app]
/-! ### keys -/
mutual
theorem lay_k : ∀ x : W, x.isK = true → x.gd = true → x.lay = true
  | .int _, _, _ => rfl
  | .str s, _, h => by
    simp only [W.gd, okc] at h
    simp only [W.lay, ← Array.all_toList]
    exact h
  | .tup xs, h, g => by
    simp only [W.lay]
    exact lays_k xs (by simpa [W.isK] using h) (by simpa [W.gd] using g)
  | .non, h, _ => by simp [W.isK] at h
  | .bl _, h, _ => by simp [W.isK] at h
  | .lst _, h, _ => by simp [W.isK] at h
  | .dct _ _, h, _ => by simp [W.isK] at h
  | .ins _ _ _, h, _ => by simp [W.isK] at h
  | .exn _ _, h, _ => by simp [W.isK] at h
  | .scr _, h, _ => by simp [W.isK] at h
theorem lays_k : ∀ x : List W, W.isKs x = true → W.gds x = true → W.lays x = true
  | [], _, _ => rfl
  | x :: r, h, g => by
    simp only [W.isKs, W.gds, W.lays, Bool.and_eq_true] at *
    exact ⟨lay_k x h.1 g.1, lays_k r h.2 g.2⟩
end
mutual
theorem dp_dq : ∀ x : W, x.dp ≤ x.dq
  | .tup xs => by simp only [W.dp, W.dq]; have := dps_dqs xs; omega
  | .lst xs => by simp only [W.dp, W.dq]; have := dps_dqs xs; omega
  | .non => by simp [W.dp]
  | .bl _ => by simp [W.dp]
  | .int _ => by simp [W.dp]
  | .str _ => by simp [W.dp]
  | .dct _ _ => by simp [W.dp]
  | .ins _ _ _ => by simp [W.dp]
  | .exn _ _ => by simp [W.dp]
  | .scr _ => by simp [W.dp]
theorem dps_dqs : ∀ x : List W, W.dps x ≤ W.dqs x
  | [] => by simp [W.dps]
  | x :: r => by
    simp only [W.dps, W.dqs]
    have := dp_dq x
    have := dps_dqs r
    omega
end
theorem dat_k {x : W} (h : x.isK = true) (g : Good x) : x.isDat = true := by
  unfold W.isDat
  rw [lay_k x h g.gd, Bool.true_and, decide_eq_true_eq]
  have := dp_dq x
  have := g.dq
  omega
theorem eq_k {a b : W} (ka : a.isK = true) (kb : b.isK = true) (ga : Good a) (gb : Good b) (bx : Bx) : opCmp .eq [.v a, .v b] bx = .ok (.v (.bl (decide (a = b)))) bx := by
  simp only [opCmp, cmpB, eqR, view, eqW, dat_k ka ga, dat_k kb gb, Bool.and_self, if_true, okO, okB, pyeq_k a b ka kb, eqb_dec]
theorem ne_k {a b : W} (ka : a.isK = true) (kb : b.isK = true) (ga : Good a) (gb : Good b) (bx : Bx) : opCmp .ne [.v a, .v b] bx = .ok (.v (.bl (!decide (a = b)))) bx := by
  simp only [opCmp, cmpB, eqR, view, eqW, dat_k ka ga, dat_k kb gb, Bool.and_self, if_true, okO, okB, pyeq_k a b ka kb, eqb_dec, Option.map_some]
theorem isKs_all {xs : List W} : W.isKs xs = true ↔ ∀ x ∈ xs, x.isK = true := by
  induction xs with
  | nil => simp [W.isKs]
  | cons a t ih => simp [W.isKs, ih]
theorem name_str {x : W} (h : nameB x = true) : ∃ s, x = .str s ∧ nameS s = true := by
  cases x <;> simp [nameB] at h
  exact ⟨_, rfl, h⟩
theorem name_isK {x : W} (h : nameB x = true) : x.isK = true := by
  obtain ⟨s, rfl, _⟩ := name_str h
  rfl
/-- a path's parts -/
theorem path_parts {x : W} (h : pathB x = true) : ∃ xs, x = .tup xs ∧ 1 ≤ xs.length ∧ ∀ y ∈ xs, nameB y = true := by
  cases x <;> simp [pathB] at h
  exact ⟨_, rfl, h⟩
theorem path_isK {x : W} (h : pathB x = true) : x.isK = true := by
  obtain ⟨xs, rfl, _, h2⟩ := path_parts h
  simp only [W.isK]
  exact isKs_all.mpr fun y m => name_isK (h2 y m)
theorem keys_str {xs : List W} (h : ∀ y ∈ xs, nameB y = true) : W.keys xs = some 0 := by
  induction xs with
  | nil => rfl
  | cons a t ih =>
    obtain ⟨s, rfl, _⟩ := name_str (h a List.mem_cons_self)
    simp [W.keys, W.key, ih fun y m => h y (List.mem_cons_of_mem _ m)]
theorem path_key {x : W} (h : pathB x = true) : keyB x = true ∧ x.isT = true := by
  obtain ⟨xs, rfl, _, h2⟩ := path_parts h
  simp [keyB, W.key, keys_str h2, W.isT]
theorem path_alk {x y : W} (h : pathB x = true) (k : pathB y = true) : W.alk x y = true := by
  obtain ⟨xs, rfl, -, h2⟩ := path_parts h
  obtain ⟨ys, rfl, -, k2⟩ := path_parts k
  simp only [W.alk]
  clear h k
  induction xs generalizing ys with
  | nil => rfl
  | cons a t ih =>
    cases ys with
    | nil => rfl
    | cons b u =>
      obtain ⟨s, rfl, _⟩ := name_str (h2 a List.mem_cons_self)
      obtain ⟨s', rfl, _⟩ := name_str (k2 b List.mem_cons_self)
      simp [W.alks, W.alk, ih (fun y m => h2 y (List.mem_cons_of_mem _ m)) u fun y m => k2 y (List.mem_cons_of_mem _ m)]
theorem keyFor_allP {ws : List W} (h : ∀ x ∈ ws, keyB x = true ∧ x.isT = true) : ws.all (fun k => keyFor ws k) = true := by
  rw [List.all_eq_true]
  intro x m
  unfold keyFor
  cases ws with
  | nil => cases m
  | cons a t => simp [(h x m).1, (h x m).2, (h a List.mem_cons_self).2]
end
end AM
/-! text AmPx -/
set_option Elab.async false
set_option linter.all false
set_option maxRecDepth 100000
set_option maxHeartbeats 1000000
/-! AmPx: errors raised and caught; slices; dict comprehensions; further ends. -/
namespace AM
open PySem
section
variable {D : Dz} {en : En} {bx : Bx} {X : W → Bx → Prop} {Q : R → Bx → Prop} {T : Tab}
theorem wC_raise {c : Nat} {s : Str} : wC (cRaise c (eC (.str s))) en bx D ↔ D.xc en (.exn c []) bx := wC_cE.trans (wE_C.trans wT_exc)
/-- behind a try -/
def wX (T : Tab) (c i : Nat) (h : C) (D : Dz) : En → W → Bx → Prop
  | en1, .exn d l, b1 => (d < T.n ∧ T.exc d = true ∧ i < en1.length) ∧ (if T.sub d c then wC h (en1.set i (some (.v (.exn d l)))) b1 { nx := fun en2 b2 => D.nx (en2.set i none) b2, rt := D.rt, ct := fun en2 b2 => D.ct (en2.set i none) b2 } else D.xc en1 (.exn d l) b1)
  | _, _, _ => False
theorem wC_try {b h : C} {c i : Nat} (w : wC b en bx { D with xc := wX T c i h D }) : wC (cTry T b c i h) en bx D := by
  unfold wC at w
  show wT D (match b en bx with
  | .exc (.exn d l) en1 bx1 => if d < T.n ∧ T.exc d = true ∧ i < en1.length then (if T.sub d c then (match h (en1.set i (some (.v (.exn d l)))) bx1 with
      | .nx en2 bx2 => .nx (en2.set i none) bx2
      | .ct en2 bx2 => .ct (en2.set i none) bx2
      | .exc _ _ _ => .stuck
      | r => r) else .exc (.exn d l) en1 bx1) else .stuck
  | r => r)
  cases e : b en bx with
  | nx e1 b1 => rw [e] at w; have w := wT_nx.mp w; exact wT_nx.mpr w
  | rt e1 b1 => rw [e] at w; have w := wT_rt.mp w; exact wT_rt.mpr w
  | ct e1 b1 => rw [e] at w; have w := wT_ct.mp w; exact wT_ct.mpr w
  | stuck => rw [e] at w; exact (wT_st.mp w).elim
  | exc w1 en1 b1 =>
    rw [e] at w
    have w := wT_exc.mp w
    cases w1 with
    | exn d l =>
      obtain ⟨w2, w3⟩ := w
      simp only [if_pos w2]
      by_cases hs : T.sub d c = true
      · rw [if_pos hs] at w3 ⊢
        unfold wC at w3
        cases e2 : h (en1.set i (some (.v (.exn d l)))) b1 with
        | nx e1 b1 => rw [e2] at w3; have w3 := wT_nx.mp w3; exact wT_nx.mpr w3
        | rt e1 b1 => rw [e2] at w3; have w3 := wT_rt.mp w3; exact wT_rt.mpr w3
        | ct e1 b1 => rw [e2] at w3; have w3 := wT_ct.mp w3; exact wT_ct.mpr w3
        | stuck => rw [e2] at w3; exact (wT_st.mp w3).elim
        | exc _ _ _ => rw [e2] at w3; exact (wT_exc.mp w3).elim
      · rw [if_neg hs] at w3 ⊢
        exact wT_exc.mpr w3
    | _ => exact w.elim
theorem wC_end {c : C} (h : wC c en bx { nx := fun _ b => Q (.v .non) b, rt := Q, xc := fun _ w b => X w b }) : wR X Q (endR (c en bx)) := by
  unfold wC at h
  cases e : c en bx with
  | rt r b => rw [e] at h; exact wR_ok.mpr (wT_rt.mp h)
  | nx _ _ => rw [e] at h; exact wR_ok.mpr (wT_nx.mp h)
  | ct _ _ => rw [e] at h; exact (wT_ct.mp h).elim
  | exc _ _ _ => rw [e] at h; exact wR_exc.mpr (wT_exc.mp h)
  | stuck => rw [e] at h; exact (wT_st.mp h).elim
/-- a body that raises -/
theorem wC_runx {n m : Nat} {c : C} {rs : List R} (hl : rs.length = n) (h : wC c (rs.map some ++ List.replicate (m - rs.length) none) bx { nx := fun _ _ => False, rt := fun _ _ => False, xc := fun _ w b => X w b }) : wR X (fun _ _ => False) (runF n m c rs bx) := wC_run hl h
/-! ### slices -/
theorem cut_take {α : Type} (n : Nat) (xs : List α) : cutL none (some (n : Int)) xs = xs.take n := by
  show (xs.take (cutAt n xs.length)).drop 0 = _
  rw [List.drop_zero]
  unfold cutAt
  rw [if_pos (by omega), Int.toNat_natCast, List.take_eq_take_iff]
  omega
theorem cut_drop {α : Type} (n : Nat) (xs : List α) : cutL (some (n : Int)) none xs = xs.drop n := by
  show (xs.take xs.length).drop (cutAt n xs.length) = _
  rw [List.take_length]
  unfold cutAt
  rw [if_pos (by omega), Int.toNat_natCast]
  by_cases h : n ≤ xs.length
  · rw [Nat.min_eq_left h]
  · rw [Nat.min_eq_right (by omega), List.drop_length, List.drop_eq_nil_of_le (by omega)]
theorem cut_tt {m : Bool} {ws : List W} {n : Nat} : cutR m (.v (.tup ws)) none (some (n : Int)) bx = .ok (.v (.tup (ws.take n))) bx := by
  show Res.ok (.v (.tup (cutL none (some (n : Int)) ws))) bx = _
  rw [cut_take]
theorem cut_td {m : Bool} {ws : List W} {n : Nat} : cutR m (.v (.tup ws)) (some (n : Int)) none bx = .ok (.v (.tup (ws.drop n))) bx := by
  show Res.ok (.v (.tup (cutL (some (n : Int)) none ws))) bx = _
  rw [cut_drop]
theorem cut_lt {ws : List W} {n : Nat} (h : ws.length ≤ SL) : cutR false (.v (.lst ws)) none (some (n : Int)) bx = .ok (.v (.lst (ws.take n))) bx := by
  show mkL false (cutL none (some (n : Int)) (ws.map .v)) bx = _
  rw [cut_take, ← List.map_take]
  exact mkL_v (by rw [List.length_take]; omega)
theorem cut_ld {ws : List W} {n : Nat} (h : ws.length ≤ SL) : cutR false (.v (.lst ws)) (some (n : Int)) none bx = .ok (.v (.lst (ws.drop n))) bx := by
  show mkL false (cutL (some (n : Int)) none (ws.map .v)) bx = _
  rw [cut_drop, ← List.map_drop]
  exact mkL_v (by rw [List.length_drop]; omega)
theorem opl_addT {m : Bool} {a b : List W} (h : a.length + b.length ≤ SL) : opBin .add m [.v (.tup a), .v (.tup b)] bx = .ok (.v (.tup (a ++ b))) bx := by
  show (if a.length + b.length ≤ SL then Res.ok (.v (.tup (a ++ b))) bx else .stuck) = _
  rw [if_pos h]
/-! ### {f(x): g(x) for x in xs} -/
theorem pairO_map : ∀ (ps : List (W × W)), pairO (ps.flatMap fun p => [R.v p.1, R.v p.2]) = some (ps.map (·.1), ps.map fun p => R.v p.2)
  | [] => rfl
  | p :: ps => by
    show pairO (R.v p.1 :: R.v p.2 :: ps.flatMap fun p => [R.v p.1, R.v p.2]) = _
    simp only [pairO, pairO_map ps, Option.map_some, List.map_cons]
theorem dc_one {ke ve : E} {it : I} {i : Nat} {xs : List W} {f g : W → W} (hit : it en bx = .ok (xs.map fun x => .one (.v x)) none bx) (hi : i < en.length) (hk : ∀ x ∈ xs, ke (en.set i (some (.v x))) bx = .ok (.v (f x)) bx) (hv : ∀ x ∈ xs, ve (en.set i (some (.v x))) bx = .ok (.v (g x)) bx) :
    dcGo ke ve [⟨.nm i, it, []⟩] en bx = some ((xs.map fun x => (f x, g x)).flatMap fun p => [R.v p.1, R.v p.2], bx) := by
  have turns : ∀ ys : List W, (∀ x ∈ ys, x ∈ xs) → lcTurns (dcGo ke ve []) (.nm i) [] none en (ys.map fun x => .one (.v x)) bx = some ((ys.map fun x => (f x, g x)).flatMap fun p => [R.v p.1, R.v p.2], bx) := fun ys => by
    induction ys with
    | nil => intro _; rfl
    | cons y t ih =>
      intro h
      have h2 := ih fun x m => h x (List.mem_cons_of_mem _ m)
      have ha : asg (.nm i) (.one (.v y)) en bx = some (en.set i (some (.v y))) := by simp [asg, hi]
      rw [List.map_cons]
      unfold lcTurns
      simp only [guarded, if_true, ha, testsO]
      have hb : dcGo ke ve [] (en.set i (some (.v y))) bx = some ([.v (f y), .v (g y)], bx) := by
        unfold dcGo
        rw [hk y (h y List.mem_cons_self)]
        simp only [hv y (h y List.mem_cons_self)]
      rw [hb]
      simp only [h2]
      rfl
  unfold dcGo
  simp only [hit]
  exact turns xs fun _ h => h
/-- the values of a dict that is made so -/
def dVals : List W → List W → List W → List W → List W := dMergeV
theorem mergeV_v : ∀ (ks : List W) (vs : List W) (acc accv : List W), dMergeV acc (accv.map R.v) ks (vs.map R.v) = (dMergeV acc accv ks vs).map R.v
  | [], vs, acc, accv => by simp [dMergeV]
  | _ :: _, [], acc, accv => by simp [dMergeV]
  | k :: ks, v :: vs, acc, accv => by
    have setV : ∀ (ks : List W) (rs : List W), dSetV ks (rs.map R.v) k (R.v v) = (dSetV ks rs k v).map R.v := fun ks => by
      induction ks with
      | nil => intro rs; simp [dSetV]
      | cons a t ih =>
        intro rs
        cases rs with
        | nil => simp [dSetV]
        | cons r rs =>
          simp only [List.map_cons, dSetV]
          split
          · simp
          · simp [ih]
    simp only [List.map_cons, dMergeV]
    rw [setV, mergeV_v ks vs]
theorem eDc_one {ke ve : E} {it : I} {i : Nat} {own : List Nat} {xs : List W} {f g : W → W} (hit : it (wipeE en own) bx = .ok (xs.map fun x => .one (.v x)) none bx) (hi : i < (wipeE en own).length) (hl : xs.length ≤ SL)
    (hkey : (xs.map f).all (fun k => keyFor (xs.map f) k) = true) (hk : ∀ x ∈ xs, ke ((wipeE en own).set i (some (.v x))) bx = .ok (.v (f x)) bx) (hv : ∀ x ∈ xs, ve ((wipeE en own).set i (some (.v x))) bx = .ok (.v (g x)) bx) (m : Bool) :
    eDc m own [⟨.nm i, it, []⟩] ke ve en bx = mkD m (dMergeK [] (xs.map f)) ((dMergeV [] [] (xs.map f) (xs.map g)).map R.v) bx := by
  unfold eDc
  rw [dc_one hit hi hk hv]
  simp only [pairO_map, List.map_map, Function.comp_def]
  have e : (xs.map fun x => f x) = xs.map f := rfl
  have e2 : (xs.map fun x => R.v (g x)) = (xs.map g).map R.v := by simp
  rw [e2]
  rw [if_pos ⟨by simpa using hl, hkey⟩]
  have := mergeV_v (xs.map f) (xs.map g) [] []
  simp only [List.map_nil] at this
  rw [this]
theorem firsts_len : ∀ (l acc : List W), (firsts acc l).length ≤ acc.length + l.length
  | [], acc => by simp [firsts]
  | y :: r, acc => by
    rw [firsts]
    have := firsts_len r (if y ∈ acc then acc else acc ++ [y])
    have h2 : (if y ∈ acc then acc else acc ++ [y]).length ≤ acc.length + 1 := by split <;> simp
    simp only [List.length_cons]
    omega
theorem mkD_v {ks vs : List W} (h : ks.length ≤ SL) : mkD false ks (vs.map .v) bx = .ok (.v (.dct ks vs)) bx := by
  unfold mkD
  rw [if_pos h, vals_W]
  rfl
theorem list_dct {ks vs : List W} (h : ks.length ≤ SL) : opList false [.v (.dct ks vs)] bx = .ok (.v (.lst ks)) bx := by
  show mkL false (ks.map .v) bx = _
  exact mkL_v h
theorem list_lst {ws : List W} (h : ws.length ≤ SL) : opList false [.v (.lst ws)] bx = .ok (.v (.lst ws)) bx := mkL_v h
theorem list_tup {ws : List W} (h : ws.length ≤ SL) : opList false [.v (.tup ws)] bx = .ok (.v (.lst ws)) bx := mkL_v h
theorem list_box {ws : List W} (h : ws.length ≤ SL) : opList true [.v (.lst ws)] bx = .ok (.r bx.length) (bx ++ [.lst (ws.map .v)]) := by
  show mkL true (ws.map .v) bx = _
  unfold mkL
  rw [if_pos (by simpa using h)]
  rfl
theorem mkT_v {ws : List W} (h : ws.length ≤ SL) : mkT (ws.map .v) bx = .ok (.v (.tup ws)) bx := by
  unfold mkT
  rw [if_pos (by simpa using h), vals_W]
theorem tuple_lst {ws : List W} (h : ws.length ≤ SL) : opTuple [.v (.lst ws)] bx = .ok (.v (.tup ws)) bx := mkT_v h
end
end AM
/-! text K01p -/
set_option Elab.async false
set_option linter.all false
set_option maxRecDepth 100000
set_option maxHeartbeats 2000000
namespace AM.K01
open PySem AM
/-- the rest of a path behind another one -/
def restW : W → W → W
  | .tup a, .tup b => if a.take b.length = b then .tup (a.drop b.length) else .non
  | _, _ => .non
section
variable {bx : Bx} {F : Fn} {d : Nat}
theorem is_name {x : W} (h : Good x) : fns (d + 1) 0 [.v x] bx = .ok (.v (.bl (nameB x))) bx := name_ok (T := T) (fun X en Q => wE_C) h
theorem law_is_word {x : W} (h : Good x) : fns (d + 1) 12 [.v x] bx = .ok (.v (.bl (nameB x))) bx := name_ok (T := T) (re := eTup [(false, eC (.str "then")), (false, eC (.str "or")), (false, eC (.str "more"))]) (fun X en Q => by
  simp only [wE_tup, wE_args, wE_C, wE_argsN]
  exact wR_ok) h
theorem is_path {x : W} (h : Good x) : fns (d + 2) 1 [.v x] bx = .ok (.v (.bl (pathB x))) bx := path_ok (T := T) (o := .ge) (.inl ⟨rfl, rfl⟩) (fun _ _ g => is_name g) h
theorem law_is_way {x : W} (h : Good x) : fns (d + 2) 13 [.v x] bx = .ok (.v (.bl (pathB x))) bx := path_ok (T := T) (o := .gt) (.inr ⟨rfl, rfl⟩) (fun _ _ g => law_is_word g) h
theorem check_ok {x : W} (h : Good x) (hp : pathB x = true) : fns (d + 3) 2 [.v x] bx = .ok (.v .non) bx := by
  refine wR_eq (wC_run rfl ?_)
  show wC (b2 (fns (d + 2))) [some (.v x)] bx _
  unfold b2
  simp [wC_seq1, wC_ifB, wE_not, wE_fn1, wE_v0, call_v (is_path h), wR_ok, wB_bl, hp, wC_pass]
theorem check_x {x : W} (h : Good x) (hp : pathB x = false) : fns (d + 3) 2 [.v x] bx = .exc (.exn 1 []) bx := by
  refine wR_eqx (wC_runx rfl ?_)
  show wC (b2 (fns (d + 2))) [some (.v x)] bx _
  unfold b2
  simp [wC_seq1, wC_ifB, wE_not, wE_fn1, wE_v0, call_v (is_path h), wR_ok, wB_bl, hp, wC_pass, wC_raise]
theorem rest_of {a b : List W} (ha : Good (.tup a)) (hb : Good (.tup b)) (pa : pathB (.tup a) = true) (pb : pathB (.tup b) = true) : fns (d + 1) 3 [.v (.tup a), .v (.tup b)] bx = .ok (.v (restW (.tup a) (.tup b))) bx := by
  refine wR_eq (wC_run rfl ?_)
  show wC (b3 (fns d)) [some (.v (.tup a)), some (.v (.tup b))] bx _
  unfold b3
  have gt : Good (.tup (a.take b.length)) := by
    have := ha.gd
    have h2 := ha.bk
    have h3 := ha.dq
    simp only [W.gd, W.bk, W.dq] at *
    rw [gds_all] at this
    refine ⟨by simp only [W.gd]; exact gds_all.mpr fun x m => this x (List.mem_of_mem_take m), ?_, ?_⟩
    · have e : ∀ (n : Nat) (l : List W), W.bks (l.take n) ≤ W.bks l := fun n l => by
        induction l generalizing n with
        | nil => simp
        | cons x t ih =>
          cases n with
          | zero => simp [W.bks]
          | succ n => simp only [List.take_succ_cons, W.bks]; have := ih n; omega
      have := e b.length a
      simp only [W.bk]; omega
    · have e : ∀ (n : Nat) (l : List W), W.dqs (l.take n) ≤ W.dqs l := fun n l => by
        induction l generalizing n with
        | nil => simp
        | cons x t ih =>
          cases n with
          | zero => simp [W.dqs]
          | succ n => simp only [List.take_succ_cons, W.dqs]; have := ih n; omega
      have := e b.length a
      simp only [W.dq]; omega
  have kt : (W.tup (a.take b.length)).isK = true := by
    have := path_isK pa
    simp only [W.isK] at *
    exact isKs_all.mpr fun x m => isKs_all.mp this x (List.mem_of_mem_take m)
  have e1 : ∀ bx, opCmp .eq [.v (.tup (a.take b.length)), .v (.tup b)] bx = .ok (.v (.bl (decide (a.take b.length = b)))) bx := fun bx => by
    rw [eq_k kt (path_isK pb) gt hb]
    congr 3
    rw [Bool.eq_iff_iff, decide_eq_true_eq, decide_eq_true_eq, W.tup.injEq]
  simp only [wC_seq1, wC_ret, wE_if, wE_op2, wE_cutR, wE_cutL, wE_v0, wE_v1, wE_fn1, len_tup, wR_ok, wI_int, cut_tt, cut_td, e1, wB_bl, wE_C, restW]
  by_cases h : a.take b.length = b <;> simp [h]
theorem rest_behind {a b : W} (ha : Good a) (hb : Good b) : fns (d + 4) 4 [.v a, .v b] bx = if pathB a = true ∧ pathB b = true then .ok (.v (restW a b)) bx else .exc (.exn 1 []) bx := by
  by_cases pa : pathB a = true
  · by_cases pb : pathB b = true
    · rw [if_pos ⟨pa, pb⟩]
      refine wR_eq (wC_run rfl ?_)
      show wC (b4 (fns (d + 3))) [some (.v a), some (.v b)] bx _
      unfold b4
      obtain ⟨xs, rfl, _⟩ := path_parts pa
      obtain ⟨ys, rfl, _⟩ := path_parts pb
      simp [wC_seq, wC_seq1, wC_exp, wC_ret, wE_fn1, wE_fn2, wE_v0, wE_v1, wR_ok, call_v (check_ok ha pa), call_v (check_ok hb pb), call_v (rest_of ha hb pa pb)]
    · rw [if_neg (fun z => pb z.2)]
      refine wR_eqx (wC_runx rfl ?_)
      show wC (b4 (fns (d + 3))) [some (.v a), some (.v b)] bx _
      unfold b4
      simp [wC_seq, wC_seq1, wC_exp, wC_ret, wE_fn1, wE_fn2, wE_v0, wE_v1, wR_ok, wR_exc, call_v (check_ok ha pa), call_x (check_x hb (Bool.eq_false_iff.mpr pb))]
  · rw [if_neg (fun z => pa z.1)]
    refine wR_eqx (wC_runx rfl ?_)
    show wC (b4 (fns (d + 3))) [some (.v a), some (.v b)] bx _
    unfold b4
    simp [wC_seq, wC_seq1, wC_exp, wC_ret, wE_fn1, wE_fn2, wE_v0, wE_v1, wR_ok, wR_exc, call_x (check_x ha (Bool.eq_false_iff.mpr pa))]
/-- the paths, each once, in order -/
def orderW (ws : List W) : List W := sortLen (firsts [] ws)
theorem alike_keys {ws : List W} (h : ∀ x ∈ ws, pathB x = true) : Alike (ws.map keyW) := by
  refine ⟨fun x m => ?_, fun x m y m' => ?_⟩
  · obtain ⟨a, ma, rfl⟩ := List.mem_map.mp m
    obtain ⟨xs, rfl, _⟩ := path_parts (h a ma)
    have := path_isK (h _ ma)
    simp [keyW, W.isK, W.isKs] at *
    exact this
  · obtain ⟨a, ma, rfl⟩ := List.mem_map.mp m
    obtain ⟨b, mb, rfl⟩ := List.mem_map.mp m'
    have q := path_alk (h a ma) (h b mb)
    obtain ⟨xs, rfl, _⟩ := path_parts (h a ma)
    obtain ⟨ys, rfl, _⟩ := path_parts (h b mb)
    simp [keyW, W.alk, W.alks] at *
    exact q
theorem good_key {xs : List W} (h : Good (.tup xs)) : (keyW (.tup xs)).isK = (W.tup xs).isK ∧ ((W.tup xs).isK = true → (keyW (.tup xs)).isDat = true) := by
  refine ⟨by simp [keyW, W.isK, W.isKs], fun k => ?_⟩
  unfold W.isDat
  have := dp_dq (.tup xs)
  have := h.dq
  simp only [W.dp, W.dq] at *
  simp [keyW, W.lay, W.lays, W.dp, W.dps]
  have := lay_k _ k h.gd
  simp only [W.lay] at this
  exact ⟨this, by omega⟩
theorem sortOk_keys {ws : List W} (g : ∀ x ∈ ws, Good x) (h : ∀ x ∈ ws, pathB x = true) : sortOk (ws.map keyW) = true := by
  have al := alike_keys h
  unfold sortOk
  rw [Bool.and_eq_true, Bool.and_eq_true, Bool.or_eq_true]
  refine ⟨⟨?_, ?_⟩, .inl ?_⟩
  · rw [List.all_eq_true]
    intro x m
    obtain ⟨a, ma, rfl⟩ := List.mem_map.mp m
    obtain ⟨xs, rfl, _⟩ := path_parts (h a ma)
    exact (good_key (g _ ma)).2 (path_isK (h _ ma))
  · rw [List.all_eq_true]
    intro x m
    rw [List.all_eq_true]
    exact fun y m' => al.2 x m y m'
  · rw [List.all_eq_true]
    intro x m
    obtain ⟨a, ma, rfl⟩ := List.mem_map.mp m
    obtain ⟨xs, rfl, _⟩ := path_parts (h a ma)
    rfl
theorem sortLen_run {ws : List W} (hl : ws.length ≤ SL) (g : ∀ x ∈ ws, Good x) (h : ∀ x ∈ ws, pathB x = true) : opSortLen true [.v (.lst ws)] bx = .ok (.r bx.length) (bx ++ [.lst ((sortLen ws).map .v)]) := by
  show (match vals (ws.map R.v) with
    | some ws => if ws.all (fun w => keyB w && w.isT) && sortOk (ws.map keyW) then mkL true ((sortLen ws).map .v) bx else .stuck
    | none => .stuck) = _
  rw [vals_W]
  have e1 : ws.all (fun w => keyB w && w.isT) = true := by
    rw [List.all_eq_true]
    intro x m
    rw [(path_key (h x m)).1, (path_key (h x m)).2]; rfl
  simp only [e1, sortOk_keys g h, Bool.and_self, if_true]
  unfold mkL
  rw [if_pos]
  · rfl
  · rw [List.length_map]
    have : (sortLen ws).length = ws.length := (List.mergeSort_perm _ _).length_eq
    omega
theorem ordered_ok {ws : List W} (hl : ws.length ≤ 100000) (g : ∀ x ∈ ws, Good x) (h : ∀ x ∈ ws, pathB x = true) : fns (d + 1) 5 [.v (.lst ws)] bx = .ok (.r bx.length) (bx ++ [.lst ((orderW ws).map .v)]) := by
  have key : wR nX (fun r b => r = .r bx.length ∧ b = bx ++ [.lst ((orderW ws).map .v)]) (fns (d + 1) 5 [.v (.lst ws)] bx) := by
    refine wC_run rfl ?_
    show wC (b5 (fns d)) [some (.v (.lst ws)), none, none] bx _
    unfold b5
    have e1 : ∀ m, eDc m [2] [⟨.nm 2, iPlain (eVar 0), []⟩] (eVar 2) (eC (.bl true)) [some (.v (.lst ws)), none, none] bx = _ := eDc_one (f := fun x => x) (g := fun _ => .bl true) (it_of (m := eVar 0) (eVar_of (i := 0) rfl) (.inl rfl)) (by simp [wipeE]) (by unfold SL; omega)
      (by rw [List.map_id']; exact keyFor_allP fun x m => path_key (h x m)) (fun x m => rfl) (fun x m => rfl)
    have el : (firsts [] ws).length ≤ ws.length := by simpa using firsts_len ws []
    simp only [List.map_id', mergeK_eq] at e1
    have e2 := e1 false
    rw [mkD_v (by unfold SL; omega)] at e2
    simp only [wC_seq, wC_seq1, wC_a1, wE_of e2, wC_ret, wE_fn1, wE_v1, list_dct (Nat.le_trans el (by unfold SL; omega : ws.length ≤ SL)), wR_ok]
    have mem : ∀ x ∈ firsts [] ws, x ∈ ws := fun x m => by simpa using firsts_mem.mp m
    rw [sortLen_run (by unfold SL; omega) (fun x m => g x (mem x m)) (fun x m => h x (mem x m)), wR_ok]
    exact ⟨rfl, rfl⟩
  exact (by
    obtain ⟨r, b, e, rfl, rfl⟩ := wR_get key
    exact e)
/-- a list of paths -/
def waysB : W → Bool
  | .lst ws => ws.all pathB
  | _ => false
theorem in_order_ok {ws : List W} (g : Good (.lst ws)) (h : waysB (.lst ws) = true) : fns (d + 4) 6 [.v (.lst ws)] bx = .ok (.r bx.length) (bx ++ [.lst ((orderW ws).map .v)]) := by
  have h1 : ∀ x ∈ ws, pathB x = true := List.all_eq_true.mp h
  have key : wR nX (fun r b => r = .r bx.length ∧ b = bx ++ [.lst ((orderW ws).map .v)]) (fns (d + 4) 6 [.v (.lst ws)] bx) := by
    refine wC_run rfl ?_
    show wC (b6 (fns (d + 3))) [some (.v (.lst ws)), none] bx _
    unfold b6
    have al := all_lc (bx := bx) (en := [some (.v (.lst ws)), none]) (elt := eFn [(false, eVar 1)] (opCall (fns (d + 3)) 1 false)) (i := 1) (own := [1]) (g := pathB)
      (it_of (m := eVar 0) (eVar_of (i := 0) rfl) (.inl rfl)) (by simp [wipeE]) (by have := g.lst_len; unfold SL; omega) (fun x hx => by
        refine wR_eq ?_
        show wE _ _ [some (.v (.lst ws)), some (.v x)] bx _
        rw [wE_fn1, wE_v1, call_v (is_path (g.lst_mem hx)), wR_ok]
        simp)
    have h2 : ws.all pathB = true := h
    rw [h2] at al
    have al2 : ∀ X Q, wE X (eFn [(false, eLc false [1] [⟨.nm 1, iPlain (eVar 0), []⟩] (eFn [(false, eVar 1)] (opCall (fns (d + 3)) 1 false)))] opAll) [some (.v (.lst ws)), none] bx Q ↔ Q _ bx := fun X Q => wE_of al
    generalize eFn [(false, eLc false [1] [⟨.nm 1, iPlain (eVar 0), []⟩] (eFn [(false, eVar 1)] (opCall (fns (d + 3)) 1 false)))] opAll = me at al2
    simp only [wC_seq, wC_seq1, wC_ifB, wE_orB, wE_or1, wE_not, wE_op1, wE_v0, isTy_run g.gd, wR_ok, wB_bl, al2, wC_pass, wC_ret, wE_fn1, call_k (F := fns (d + 3)) (f := 5) rfl, ordered_ok (d := d + 2) g.lst_len (fun x m => g.lst_mem m) h1, tyB]
    simp
  obtain ⟨r, b, e, rfl, rfl⟩ := wR_get key
  exact e
theorem in_order_x {x : W} (g : Good x) (h : waysB x = false) : fns (d + 4) 6 [.v x] bx = .exc (.exn 1 []) bx := by
  refine wR_eqx (wC_runx rfl ?_)
  show wC (b6 (fns (d + 3))) [some (.v x), none] bx _
  unfold b6
  by_cases hs : ∃ ws, x = .lst ws
  · obtain ⟨ws, rfl⟩ := hs
    have al := all_lc (bx := bx) (en := [some (.v (.lst ws)), none]) (elt := eFn [(false, eVar 1)] (opCall (fns (d + 3)) 1 false)) (i := 1) (own := [1]) (g := pathB)
      (it_of (m := eVar 0) (eVar_of (i := 0) rfl) (.inl rfl)) (by simp [wipeE]) (by have := g.lst_len; unfold SL; omega) (fun x hx => by
        refine wR_eq ?_
        show wE _ _ [some (.v (.lst ws)), some (.v x)] bx _
        rw [wE_fn1, wE_v1, call_v (is_path (g.lst_mem hx)), wR_ok]
        simp)
    have h2 : ws.all pathB = false := h
    rw [h2] at al
    have al2 : ∀ X Q, wE X (eFn [(false, eLc false [1] [⟨.nm 1, iPlain (eVar 0), []⟩] (eFn [(false, eVar 1)] (opCall (fns (d + 3)) 1 false)))] opAll) [some (.v (.lst ws)), none] bx Q ↔ Q _ bx := fun X Q => wE_of al
    generalize eFn [(false, eLc false [1] [⟨.nm 1, iPlain (eVar 0), []⟩] (eFn [(false, eVar 1)] (opCall (fns (d + 3)) 1 false)))] opAll = me at al2
    simp only [wC_seq, wC_seq1, wC_ifB, wE_orB, wE_or1, wE_not, wE_op1, wE_v0, isTy_run g.gd, wR_ok, wB_bl, al2, wC_pass, wC_ret, wE_fn1, tyB, wC_raise]
    simp
  · have e1 : tyB x .list = false := by cases x <;> first | rfl | exact absurd ⟨_, rfl⟩ hs
    simp only [wC_seq, wC_seq1, wC_ifB, wE_orB, wE_or1, wE_not, wE_op1, wE_v0, isTy_run g.gd, wR_ok, wB_bl, wC_raise, e1]
    simp
end
end AM.K01
/-! text K01q -/
set_option Elab.async false
set_option linter.all false
set_option maxRecDepth 100000
set_option maxHeartbeats 2000000
namespace AM.K01
open PySem AM
section
variable {bx : Bx} {F : Fn} {d : Nat} {ns : List Int} {n : Nat} {p : Box} {rest : Bx}
/-! ### the word for an error -/
theorem word_ok {act : Bx → Res} {w : R} {b : Bx} (h : act bx = .ok w b) : G11 F act bx = .ok (.v (.str "")) b := by
  unfold G11 wordF
  refine wR_eq (wC_end ?_)
  show wC _ [none, some (.v .non), none] bx _
  rw [wC_seq]
  refine wC_try ?_
  rw [wC_exp, wE_of (m := fun _ b => act b) h]
  simp [wC_seq, wC_seq1, wC_ifB, wE_op2, wE_v1, wE_C, opCmp, cmpB, isNon, okO, okB, wR_ok, wB_bl, wC_ret]
theorem sub10 : T.sub 1 0 = true := by decide
theorem word_x {act : Bx → Res} {b : Bx} (h : act bx = .exc (.exn 1 []) b) : G11 F act bx = .ok (.v (.str "path")) b := by
  unfold G11 wordF
  refine wR_eq (wC_end ?_)
  show wC _ [none, some (.v .non), none] bx _
  rw [wC_seq]
  refine wC_try ?_
  rw [wC_exp]
  show wR _ _ (act bx)
  rw [h, wR_exc]
  refine ⟨⟨by decide, by decide, by decide⟩, ?_⟩
  rw [if_pos sub10]
  show wC (cSeq [cAsg (.nm 1) (eVar 2)]) [none, some (.v .non), some (.v (.exn 1 []))] b _
  have t1 : ∀ bx, opIsC T 1 [.v (.exn 1 [])] bx = .ok (.v (.bl true)) bx := fun bx => by
    simp [opIsC, typO, T, okB]
  have t2 : ∀ bx, opIsVE T [.v (.exn 1 [])] bx = .ok (.v (.bl true)) bx := fun bx => by
    simp [opIsVE, typO, T, okB]
  simp [wC_seq, wC_seq1, wC_a1, wE_v2, wC_ifB, wE_op1, wE_op2, wE_v1, wE_C, opCmp, cmpB, isNon, okO, okB, wR_ok, wB_bl, wC_ret, wC_pass, wE_if, wE_andB, wE_and1, t1, t2]
/-! ### draws -/
theorem drawsOf : Draws (fns (d + 2)) 9 := draws_of (F' := fns (d + 1)) (nx := 8) rfl rfl
def oddL : List W := [.str "", .str "abcdefghi", .str "A", .str "aB", .str "a1", .str "7", .str "then", .str "or", .str "more", .str "a b", .str "a_", .str "a\n", .non, .int 1, .bl true, .tup [.str "a"], .tup [], .lst [], .dct [] [], .lst [.str "a"], .int (10 ^ 39), .str "thens", .str "orb", .str "mor", .str "abcdefgh", .str "y", .str "within", .str "void", .str "all", .str "up", .str "next"]
def gdB (w : W) : Bool := w.gd && decide (w.bk ≤ 20) && decide (w.dq ≤ 3)
theorem odd_good : oddL.all gdB = true := by decide +kernel
def Small (w : W) : Prop := gdB w = true
theorem idx_lst {ws : List W} {k : Int} (h0 : 0 ≤ k) (h1 : k < ws.length) : ∃ w, w ∈ ws ∧ ∀ bx, opIdx [.v (.lst ws), .v (.int k)] bx = .ok (.v w) bx := by
  have hl : k.toNat < ws.length := by omega
  refine ⟨ws[k.toNat], List.getElem_mem hl, fun bx => ?_⟩
  simp [opIdx, dcO, itS, itL, atW, h0, h1, List.getElem?_eq_getElem hl]
theorem mkLs {ws : List W} (h : ws.length ≤ 1000) : mkL false (ws.map .v) bx = .ok (.v (.lst ws)) bx := mkL_v (by unfold SL; omega)
theorem mkTs {ws : List W} (h : ws.length ≤ 1000) : mkT (ws.map .v) bx = .ok (.v (.tup ws)) bx := mkT_v (by unfold SL; omega)
theorem mk_t0 : mkT [] bx = .ok (.v (.tup [])) bx := mkTs (ws := []) (by decide)
theorem mk_l0 : mkL false [] bx = .ok (.v (.lst [])) bx := mkLs (ws := []) (by decide)
theorem law_odd : Calls1 (fns (d + 3)) 14 [.r 0] 1 Small := by
  intro ns n p rest hp
  obtain ⟨k, p', e, k0, k1, hp'⟩ := drawsOf (d := d) ns n p rest 31 hp (by decide) (by decide)
  have hl : (oddL.length : Int) = 31 := by decide
  obtain ⟨w, mw, ew⟩ := idx_lst (ws := oddL) k0 (by rw [hl]; exact k1)
  refine ⟨w, p', call_p (fun m => hp'.lt m) ?_, List.all_eq_true.mp odd_good w mw, hp'⟩
  refine wR_eq (wC_run rfl ?_)
  show wC (b14 (fns (d + 2))) [some (.r 0), none] (p :: rest) _
  unfold b14
  have l1 : ∀ bx, mkL false [.v (.str ""), .v (.str "abcdefghi"), .v (.str "A"), .v (.str "aB"), .v (.str "a1"), .v (.str "7"), .v (.str "then"), .v (.str "or"), .v (.str "more"), .v (.str "a b"), .v (.str "a_"), .v (.str "a\n"), .v .non, .v (.int 1), .v (.bl true), .v (.tup [.str "a"]), .v (.tup [])] bx = .ok (.v (.lst (oddL.take 17))) bx := fun bx => mkLs (ws := oddL.take 17) (by decide)
  have l2 : ∀ bx, mkL false [.v (.lst []), .v (.dct [] []), .v (.lst [.str "a"]), .v (.int (10 ^ 39)), .v (.str "thens"), .v (.str "orb"), .v (.str "mor"), .v (.str "abcdefgh"), .v (.str "y"), .v (.str "within"), .v (.str "void"), .v (.str "all"), .v (.str "up"), .v (.str "next")] bx = .ok (.v (.lst (oddL.drop 17))) bx := fun bx => mkLs (ws := oddL.drop 17) (by decide)
  have t1 : ∀ bx, mkT [.v (.str "a")] bx = .ok (.v (.tup [.str "a"])) bx := fun bx => mkTs (ws := [.str "a"]) (by decide)
  have t3 : ∀ bx, mkL false [.v (.str "a")] bx = .ok (.v (.lst [.str "a"])) bx := fun bx => mkLs (ws := [.str "a"]) (by decide)
  have pw : ∀ bx, opBin .pow false [.v (.int 10), .v (.int 39)] bx = .ok (.v (.int (10 ^ 39))) bx := fun bx => by simp [opBin, binR, arR, arI, i64]
  have ad : ∀ bx, opBin .add false [.v (.lst (oddL.take 17)), .v (.lst (oddL.drop 17))] bx = .ok (.v (.lst oddL)) bx := fun bx => by
    rw [opl_addL (by decide), List.take_append_drop]
  have d0 : ∀ X en bx Q, wE X (eDct false []) en bx Q ↔ Q (.v (.dct [] [])) bx := fun X en bx Q => by
    refine wE_of ?_
    simp [eDct, eAll, pairO, dMergeK, dMergeV, mkD, SL, vals, mapO]
  generalize h17 : oddL.take 17 = o1 at l1 ad
  generalize h18 : oddL.drop 17 = o2 at l2 ad
  generalize oddL = ol at ew ad
  simp only [wC_seq, wC_seq1, wC_a1, wE_lst, wE_args, wE_argsN, wE_C, wE_tup, mk_t0, mk_l0, wR_ok, t1, t3, l1, d0, wE_op2, pw, l2, wE_v0, wE_v1, ad, wC_ret, wE_fn2, e, ew]
  exact ⟨trivial, trivial⟩
/-- a drawn path -/
def wayL : List Str := ["a", "b", "up", "next"]
def WayW (w : W) : Prop := ∃ l : List W, w = .tup l ∧ 1 ≤ l.length ∧ l.length ≤ 4 ∧ ∀ x ∈ l, x ∈ wayL.map W.str
theorem law_way : Calls1 (fns (d + 3)) 15 [.r 0] 6 WayW := by
  intro ns n p rest hp
  obtain ⟨k, p1, e1, k0, k1, hp1⟩ := drawsOf (d := d) ns (n + 5) p rest 3 hp (by decide) (by decide)
  obtain ⟨u, mu, eu⟩ := idx_lst (ws := [.int 2, .int 3, .int 4]) k0 (by simpa using k1)
  obtain ⟨u, rfl, hu⟩ : ∃ i : Int, u = .int i ∧ 2 ≤ i ∧ i ≤ 4 := by
    simp at mu
    rcases mu with h | h | h <;> exact ⟨_, h, by decide, by decide⟩
  obtain ⟨s, p2, e2, s0, s1, hp2⟩ := drawsOf (d := d) ns (n + 4) p1 rest u hp1 (by omega) (by omega)
  have ml : ∀ bx, mkL false [.v (.int 2), .v (.int 3), .v (.int 4)] bx = .ok (.v (.lst [.int 2, .int 3, .int 4])) bx := fun bx => mkLs (ws := [.int 2, .int 3, .int 4]) (by decide)
  have m4 : ∀ bx, mkL false [.v (.str "a"), .v (.str "b"), .v (.str "up"), .v (.str "next")] bx = .ok (.v (.lst (wayL.map W.str))) bx := fun bx => mkLs (ws := wayL.map W.str) (by decide)
  obtain ⟨sz, hsz, hz⟩ : ∃ z : Nat, (z : Int) = 1 + s ∧ z ≤ 4 := ⟨(1 + s).toNat, by omega, by omega⟩
  obtain ⟨ws, b', e3, l3, q3, j3⟩ := eLc_inv (own := [2]) (i := 2) (it := iRange1 (eVar 1)) (en := [some (.r 0), some (.v (.int sz)), none]) (bx := p2 :: rest) (b0 := p2 :: rest)
    (elt := eOp [eLst false [(false, eC (.str "a")), (false, eC (.str "b")), (false, eC (.str "up")), (false, eC (.str "next"))], eFn [(false, eVar 0), (false, eC (.int 4))] (opCall (fns (d + 2)) 9 false)] opIdx)
    (fun j b => ∃ q, b = q :: rest ∧ Pen ns (n + 4 - j) q) (fun w => w ∈ wayL.map W.str) (it_range (eVar_of (i := 1) rfl) (by omega)) (by simp [wipeE]) (by simp; unfold SL; omega) ⟨p2, rfl, by simpa using hp2⟩ (fun j x b hj ⟨q, hb, hq⟩ => by
      subst hb
      have hj4 : j < sz := by
        have := (List.getElem?_eq_some_iff.mp hj).1
        simpa using this
      obtain ⟨k, p', e, k0, k1, hp'⟩ := drawsOf (d := d) ns (n + 4 - (j + 1)) q rest 4 (hq.mono (by omega)) (by decide) (by decide)
      obtain ⟨w, mw, ew⟩ := idx_lst (ws := wayL.map W.str) k0 (by simpa [wayL] using k1)
      refine ⟨w, p' :: rest, ?_, mw, p', rfl, hp'⟩
      refine wR_eq ?_
      show wE _ _ [some (.r 0), some (.v (.int sz)), some (.v x)] (q :: rest) _
      simp only [wE_op2, wE_lst, wE_args, wE_argsN, wE_C, m4, wR_ok, wE_fn2, wE_v0, e, ew]
      exact ⟨trivial, trivial⟩)
  obtain ⟨q, rfl, hq⟩ := j3
  simp at l3
  have tl : ∀ bx, opTuple [.v (.lst ws)] bx = .ok (.v (.tup ws)) bx := fun bx => tuple_lst (by unfold SL; omega)
  refine ⟨.tup ws, q, call_p (fun m => hq.lt m) ?_, ⟨ws, rfl, by omega, by omega, q3⟩, hq.mono (by simp; omega)⟩
  refine wR_eq (wC_run rfl ?_)
  show wC (b15 (fns (d + 2))) [some (.r 0), none, none] (p :: rest) _
  unfold b15
  simp only [wC_seq, wC_seq1, wC_a1, wE_op2, wE_lst, wE_args, wE_argsN, wE_C, ml, wR_ok, wE_fn2, wE_v0, e1, eu, e2, opl_add, wC_ret, wE_fn1]
  rw [← hsz, wE_of e3, tl, wR_ok]
  exact ⟨rfl, rfl⟩
end
end AM.K01
/-! text K01r -/
set_option Elab.async false
set_option linter.all false
set_option maxRecDepth 100000
set_option maxHeartbeats 2000000
namespace AM.K01
open PySem AM
/-- good and small -/
structure Sm (B D : Nat) (w : W) : Prop where
  gd : w.gd = true
  bk : w.bk ≤ B
  dq : w.dq ≤ D
theorem Sm.good {B D : Nat} {w : W} (h : Sm B D w) (hB : B ≤ 100000 := by omega) (hD : D ≤ 40 := by omega) : Good w := ⟨h.gd, Nat.le_trans h.bk hB, Nat.le_trans h.dq hD⟩
theorem sm_list {B N D : Nat} {ws : List W} (h : ∀ x ∈ ws, x.gd = true ∧ x.bk ≤ B ∧ x.dq ≤ D) (hl : ws.length ≤ N) : W.gds ws = true ∧ W.bks ws ≤ N * (B + 1) ∧ W.dqs ws ≤ D := by
  refine ⟨gds_all.mpr fun x m => (h x m).1, ?_, ?_⟩
  · refine Nat.le_trans ?_ (Nat.mul_le_mul_right (B + 1) hl)
    clear hl
    induction ws with
    | nil => simp [W.bks]
    | cons a t ih =>
      have h1 := (h a List.mem_cons_self).2.1
      have h2 := ih fun x m => h x (List.mem_cons_of_mem _ m)
      simp only [W.bks, List.length_cons, Nat.add_mul, Nat.one_mul] at *
      omega
  · clear hl
    induction ws with
    | nil => simp [W.dqs]
    | cons a t ih =>
      have h1 := (h a List.mem_cons_self).2.2
      have h2 := ih fun x m => h x (List.mem_cons_of_mem _ m)
      simp only [W.dqs]
      omega
theorem sm_lst {B N D : Nat} {ws : List W} (h : ∀ x ∈ ws, x.gd = true ∧ x.bk ≤ B ∧ x.dq ≤ D) (hl : ws.length ≤ N) : Sm (N * (B + 1)) (D + 1) (.lst ws) := by
  obtain ⟨h1, h2, h3⟩ := sm_list h hl
  exact ⟨by simpa [W.gd] using h1, by simpa [W.bk] using h2, by simp only [W.dq]; omega⟩
theorem sm_tup {B N D : Nat} {ws : List W} (h : ∀ x ∈ ws, x.gd = true ∧ x.bk ≤ B ∧ x.dq ≤ D) (hl : ws.length ≤ N) : Sm (N * (B + 1)) (D + 1) (.tup ws) := by
  obtain ⟨h1, h2, h3⟩ := sm_list h hl
  exact ⟨by simpa [W.gd] using h1, by simpa [W.bk] using h2, by simp only [W.dq]; omega⟩
/-- paths of drawn names -/
structure PathP (l : List W) : Prop where
  one : 1 ≤ l.length
  most : l.length ≤ 8
  nm : ∀ x ∈ l, x ∈ wayL.map W.str
theorem wayL_name : ∀ x ∈ wayL.map W.str, nameB x = true ∧ x.gd = true ∧ x.bk ≤ 4 ∧ x.dq = 0 := by
  have h : (wayL.map W.str).all (fun x => nameB x && x.gd && decide (x.bk ≤ 4) && decide (x.dq = 0)) = true := by decide +kernel
  intro x m
  have := List.all_eq_true.mp h x m
  simp only [Bool.and_eq_true, decide_eq_true_eq] at this
  exact ⟨this.1.1.1, this.1.1.2, this.1.2, this.2⟩
theorem PathP.sm {l : List W} (h : PathP l) : Sm 40 8 (.tup l) ∧ W.dqs l = 0 := by
  have := sm_tup (B := 4) (N := 8) (D := 7) (ws := l) (fun x m => by
    obtain ⟨_, a, b, c⟩ := wayL_name x (h.nm x m)
    exact ⟨a, b, by omega⟩) h.most
  refine ⟨⟨this.gd, this.bk, this.dq⟩, ?_⟩
  have hd : ∀ x ∈ l, x.dq = 0 := fun x m => (wayL_name x (h.nm x m)).2.2.2
  clear this h
  induction l with
  | nil => rfl
  | cons a t ih =>
    have h1 := hd a List.mem_cons_self
    have h2 := ih fun x m => hd x (List.mem_cons_of_mem _ m)
    simp only [W.dqs]
    omega
theorem PathP.path {l : List W} (h : PathP l) : pathB (.tup l) = true := by
  show (decide (1 ≤ l.length) && l.all nameB) = true
  rw [Bool.and_eq_true, decide_eq_true_eq, List.all_eq_true]
  exact ⟨h.one, fun x m => (wayL_name x (h.nm x m)).1⟩
theorem WayW.pp {w : W} (h : WayW w) : ∃ l, w = .tup l ∧ PathP l ∧ l.length ≤ 4 := by
  obtain ⟨l, rfl, a, b, c⟩ := h
  exact ⟨l, rfl, ⟨a, by omega, c⟩, b⟩
theorem PathP.drop_sm {l : List W} (h : PathP l) (n : Nat) : Sm 40 8 (.tup (l.drop n)) := by
  have := sm_tup (B := 4) (N := 8) (D := 7) (ws := l.drop n) (fun x m => by
    obtain ⟨_, a, b, c⟩ := wayL_name x (h.nm x (List.mem_of_mem_drop m))
    exact ⟨a, b, by omega⟩) (by rw [List.length_drop]; have := h.most; omega)
  exact this
section
variable {bx : Bx} {F : Fn} {d : Nat} {ns : List Int} {n : Nat} {p : Box} {rest : Bx}
theorem eq_int {i j : Int} : opCmp .eq [.v (.int i), .v (.int j)] bx = .ok (.v (.bl (decide (i = j)))) bx := by
  simp [opCmp, cmpB, eqR, view, eqW, W.isDat, W.lay, W.dp, okO, okB, W.pyeq]
  rfl
/-- a path with a thing changed, or an object that is none -/
theorem law_bent {l : List W} (h : PathP l) (h4 : l.length ≤ 4) : Calls1 (fns (d + 4)) 16 [.r 0, .v (.tup l)] 3 (Sm 400 8) := by
  intro ns n p rest hp
  obtain ⟨k, p1, e1, k0, k1, hp1⟩ := drawsOf (d := d + 1) ns (n + 2) p rest l.length hp (by have := h.one; omega) (by omega)
  obtain ⟨r, p2, e2, r0, r1, hp2⟩ := drawsOf (d := d + 1) ns (n + 1) p1 rest 4 hp1 (by decide) (by decide)
  obtain ⟨s, rfl⟩ : ∃ s : Nat, k = s := ⟨k.toNat, by omega⟩
  have gl := h.sm.1
  have mem : ∀ x ∈ l, x.gd = true ∧ x.bk ≤ 4 ∧ x.dq ≤ 7 := fun x m => by
    obtain ⟨_, a, b, c⟩ := wayL_name x (h.nm x m)
    exact ⟨a, b, by omega⟩
  have lt : (W.tup l).dq ≤ 1 := by simp only [W.dq]; have := h.sm.2; omega
  by_cases hr : r = 0
  · subst hr
    obtain ⟨j, p3, e3, j0, j1, hp3⟩ := drawsOf (d := d + 1) ns n p2 rest 9 hp2 (by decide) (by decide)
    let ol : List W := [.tup [], .lst l, .non, .str "up", .dct [] [], .int 0, .tup [.tup l], .lst [.tup l], .tup (l ++ [.tup []])]
    have hol : (ol.length : Int) = 9 := rfl
    obtain ⟨w, mw, ew⟩ := idx_lst (ws := ol) j0 (by rw [hol]; exact j1)
    have sw : Sm 400 8 w := by
      have s0 : ∀ y ∈ ([.tup [], .non, .str "up", .dct [] [], .int 0] : List W), Sm 400 8 y := by
        have q : ([.tup [], .non, .str "up", .dct [] [], .int 0] : List W).all (fun y => y.gd && decide (y.bk ≤ 400) && decide (y.dq ≤ 8)) = true := by decide +kernel
        intro y m
        have := List.all_eq_true.mp q y m
        simp only [Bool.and_eq_true, decide_eq_true_eq] at this
        exact ⟨this.1.1, this.1.2, this.2⟩
      have sl : Sm 400 8 (.lst l) := by
        have := sm_lst (N := 8) (D := 7) mem h.most
        exact ⟨this.gd, by have := this.bk; omega, this.dq⟩
      have st : ∀ y ∈ [W.tup l], y.gd = true ∧ y.bk ≤ 40 ∧ y.dq ≤ 7 := fun y m => by
        rw [List.mem_singleton] at m
        subst m
        exact ⟨gl.gd, gl.bk, by omega⟩
      have s1 : Sm 400 8 (.tup [.tup l]) := by
        have := sm_tup (N := 1) (D := 7) st (by simp)
        exact ⟨this.gd, by have := this.bk; omega, this.dq⟩
      have s2 : Sm 400 8 (.lst [.tup l]) := by
        have := sm_lst (N := 1) (D := 7) st (by simp)
        exact ⟨this.gd, by have := this.bk; omega, this.dq⟩
      have s3 : Sm 400 8 (.tup (l ++ [.tup []])) := by
        have := sm_tup (B := 4) (N := 9) (D := 7) (ws := l ++ [.tup []]) (fun y m => by
          rcases List.mem_append.mp m with m | m
          · exact mem y m
          · rw [List.mem_singleton] at m
            subst m
            decide) (by simp; have := h.most; omega)
        exact ⟨this.gd, by have := this.bk; omega, this.dq⟩
      simp only [ol, List.mem_cons, List.not_mem_nil, or_false] at mw
      rcases mw with e | e | e | e | e | e | e | e | e
      · subst e; exact s0 _ (by simp)
      · subst e; exact sl
      · subst e; exact s0 _ (by simp)
      · subst e; exact s0 _ (by simp)
      · subst e; exact s0 _ (by simp)
      · subst e; exact s0 _ (by simp)
      · subst e; exact s1
      · subst e; exact s2
      · subst e; exact s3
    refine ⟨w, p3, call_p (fun m => hp3.lt m) ?_, sw, hp3⟩
    refine wR_eq (wC_run rfl ?_)
    show wC (b16 (fns (d + 3))) [some (.r 0), some (.v (.tup l)), none, none] (p :: rest) _
    unfold b16
    have l1 : ∀ bx, opList false [.v (.tup l)] bx = .ok (.v (.lst l)) bx := fun bx => list_tup (by unfold SL; omega)
    have t1 : ∀ bx, mkT [.v (.tup l)] bx = .ok (.v (.tup [.tup l])) bx := fun bx => mkTs (ws := [.tup l]) (by simp)
    have t2 : ∀ bx, mkL false [.v (.tup l)] bx = .ok (.v (.lst [.tup l])) bx := fun bx => mkLs (ws := [.tup l]) (by simp)
    have t3 : ∀ bx, mkT [.v (.tup [])] bx = .ok (.v (.tup [.tup []])) bx := fun bx => mkTs (ws := [.tup []]) (by simp)
    have a1 : ∀ bx, opBin .add false [.v (.tup l), .v (.tup [.tup []])] bx = .ok (.v (.tup (l ++ [.tup []]))) bx := fun bx => opl_addT (by unfold SL; simp; omega)
    have m9 : ∀ bx, mkL false [.v (.tup []), .v (.lst l), .v .non, .v (.str "up"), .v (.dct [] []), .v (.int 0), .v (.tup [.tup l]), .v (.lst [.tup l]), .v (.tup (l ++ [.tup []]))] bx = .ok (.v (.lst ol)) bx := fun bx => mkLs (ws := ol) (by simp [ol])
    have d0 : ∀ X en bx Q, wE X (eDct false []) en bx Q ↔ Q (.v (.dct [] [])) bx := fun X en bx Q => by
      refine wE_of ?_
      simp [eDct, eAll, pairO, dMergeK, dMergeV, mkD, SL, vals, mapO]
    clear_value ol
    rw [wC_seq, wC_par (by simp)]
    simp only [wE_fn2, wE_v0, wE_fn1, wE_v1, len_tup, wR_ok, e1, wE_C, e2]
    show wC _ [some (.r 0), some (.v (.tup l)), some (.v (.int s)), some (.v (.int 0))] (p2 :: rest) _
    simp only [wC_seq, wC_seq1, wC_ifB, wE_op2, wE_v3, wE_C, eq_int, wR_ok, wB_bl, wC_ret, wE_lst, wE_args, wE_argsN, wE_tup, mk_t0, wE_fn1, wE_v1, l1, d0, t1, t2, t3, a1, m9, wE_fn2, wE_v0, e3, ew]
    simp
  · obtain ⟨o, p3, e3, so, hp3⟩ := law_odd (d := d) ns n p2 rest hp2
    simp only [Small, gdB, Bool.and_eq_true, decide_eq_true_eq] at so
    obtain ⟨b, hb⟩ : ∃ b : Nat, (b : Int) = (if decide (1 < r) = true then 1 else 0) := ⟨if decide (1 < r) = true then 1 else 0, by split <;> rfl⟩
    refine ⟨.tup (l.take s ++ [o] ++ l.drop (s + b)), p3, call_p (fun m => hp3.lt m) ?_, ?_, hp3⟩
    · refine wR_eq (wC_run rfl ?_)
      show wC (b16 (fns (d + 3))) [some (.r 0), some (.v (.tup l)), none, none] (p :: rest) _
      unfold b16
      rw [wC_seq, wC_par (by simp)]
      simp only [wE_fn2, wE_v0, wE_fn1, wE_v1, len_tup, wR_ok, e1, wE_C, e2]
      show wC _ [some (.r 0), some (.v (.tup l)), some (.v (.int s)), some (.v (.int r))] (p2 :: rest) _
      have t1 : ∀ bx, mkT [.v o] bx = .ok (.v (.tup [o])) bx := fun bx => mkTs (ws := [o]) (by simp)
      have a1 : ∀ bx, opBin .add false [.v (.tup (l.take s)), .v (.tup [o])] bx = .ok (.v (.tup (l.take s ++ [o]))) bx := fun bx => opl_addT (by unfold SL; simp; omega)
      have a2 : ∀ bx, opBin .add false [.v (.tup (l.take s ++ [o])), .v (.tup (l.drop (s + b)))] bx = .ok (.v (.tup (l.take s ++ [o] ++ l.drop (s + b)))) bx := fun bx => opl_addT (by unfold SL; simp; omega)
      have i1 : ∀ bx, opInt [.v (.bl (decide (1 < r)))] bx = .ok (.v (.int b)) bx := fun bx => by rw [hb]; rfl
      have c1 : ∀ bx, cutR false (.v (.tup l)) (some ((s : Int) + b)) none bx = .ok (.v (.tup (l.drop (s + b)))) bx := fun bx => by
        rw [← Int.natCast_add]; exact cut_td
      simp only [wC_seq, wC_seq1, wC_ifB, wE_op2, wE_v3, wE_C, eq_int, wR_ok, wB_bl, wC_ret, wC_pass, hr, wE_cutR, wE_v1, wE_v2, wI_int, cut_tt, wE_tup, wE_args, wE_argsN, wE_fn1, wE_v0, e3, t1, a1, wE_cutL, opl_gt, i1, opl_add, c1, a2]
      simp
    · have := sm_tup (B := 20) (N := 9) (D := 7) (ws := l.take s ++ [o] ++ l.drop (s + b)) (fun y m => by
        rw [List.mem_append, List.mem_append, List.mem_singleton] at m
        rcases m with (m | m) | m
        · have := mem y (List.mem_of_mem_take m); exact ⟨this.1, by omega, this.2.2⟩
        · subst m; exact ⟨so.1.1, so.1.2, by omega⟩
        · have := mem y (List.mem_of_mem_drop m); exact ⟨this.1, by omega, this.2.2⟩) (by simp; omega)
      exact ⟨this.gd, by have := this.bk; omega, this.dq⟩
end
end AM.K01
/-! text K01s -/
set_option Elab.async false
set_option linter.all false
set_option maxRecDepth 100000
set_option maxHeartbeats 4000000
namespace AM.K01
open PySem AM
section
variable {bx : Bx} {F : Fn} {d : Nat} {ns : List Int} {n : Nat} {p : Box} {rest : Bx} {en : En} {m : E}
theorem eWord_ok {w : R} {junk : Bx} (h : m en bx = .ok w (bx ++ junk)) : eWord (G11 F) m en bx = .ok (.v (.str "")) bx := by
  show settle bx (G11 F (fun b => m en b) bx) = _
  rw [word_ok h]
  exact settle_junk
theorem eWord_x (h : m en bx = .exc (.exn 1 []) bx) : eWord (G11 F) m en bx = .ok (.v (.str "path")) bx := by
  show settle bx (G11 F (fun b => m en b) bx) = _
  rw [word_x h]
  exact settle_val
def wordS (b : Bool) : Str := if b then "" else "path"
theorem okc_word (b : Bool) : okc (wordS b) = true := by cases b <;> exact okc_string _
theorem ne_word {b c : Bool} : opCmp .ne [.v (.str (wordS b)), .v (.str (wordS c))] bx = .ok (.v (.bl (!decide (b = c)))) bx := by
  rw [ne_str (okc_word b) (okc_word c)]
  cases b <;> cases c <;> rfl
theorem ne_self {s : Str} (h : okc s = true) : opCmp .ne [.v (.str s), .v (.str s)] bx = .ok (.v (.bl false)) bx := by
  rw [ne_str h h]; simp
theorem eq_self {s : Str} (h : okc s = true) : opCmp .eq [.v (.str s), .v (.str s)] bx = .ok (.v (.bl true)) bx := by
  rw [eq_str h h]; simp
theorem restW_good {a b : List W} (h : PathP a) : Good (restW (.tup a) (.tup b)) := by
  show Good (if a.take b.length = b then .tup (a.drop b.length) else .non)
  split
  · exact (h.drop_sm _).good
  · exact ⟨rfl, by simp [W.bk], by simp [W.dq]⟩
theorem eq_path {a b : List W} (ha : PathP a) (hb : PathP b) : opCmp .eq [.v (.tup (a.take b.length)), .v (.tup b)] bx = .ok (.v (.bl (decide (a.take b.length = b)))) bx := by
  have g1 : Good (.tup (a.take b.length)) := by
    have := sm_tup (B := 4) (N := 8) (D := 7) (ws := a.take b.length) (fun x m => by
      obtain ⟨_, a, b, c⟩ := wayL_name x (ha.nm x (List.mem_of_mem_take m))
      exact ⟨a, b, by omega⟩) (by rw [List.length_take]; have := ha.most; omega)
    exact this.good
  have k1 : (W.tup (a.take b.length)).isK = true := by
    simp only [W.isK]
    exact isKs_all.mpr fun x m => name_isK (wayL_name x (ha.nm x (List.mem_of_mem_take m))).1
  rw [eq_k k1 (path_isK hb.path) g1 hb.sm.1.good]
  congr 3
  rw [Bool.eq_iff_iff, decide_eq_true_eq, decide_eq_true_eq, W.tup.injEq]
def tailR (F : Fn) : C := cSeq [cAsg (.nm 6) (eFn [(false, eVar 0), (false, eVar 1)] (opCall F 16 false)),
    cAsg (.nm 5) (eIf (eFn [(false, eVar 6)] (opCall F 13 false)) (eC (.str "")) (eC (.str "path"))),
    cAsg (.nm 7) (eFn [(false, eVar 6)] opRepr),
    cIf (eOp [eWord (G11 F) (eFn [(false, eVar 6), (false, eVar 2)] (opCall F 4 false)), eVar 5] (opCmp .ne)) (cSeq [cRet (eC (.bl false))]) (cPass),
    cIf (eOp [eWord (G11 F) (eFn [(false, eVar 2), (false, eVar 6)] (opCall F 4 false)), eVar 5] (opCmp .ne)) (cSeq [cRet (eC (.bl false))]) (cPass),
    cRet (eAnd [eOp [eFn [(false, eFn [(false, eVar 6)] (opCall F 1 false))] opRepr, eFn [(false, eOp [eVar 5, eC (.str "")] (opCmp .eq))] opRepr] (opCmp .eq), eOp [eFn [(false, eVar 6)] opRepr, eVar 7] (opCmp .eq)])]
theorem tailR_ok {a b : List W} {x3 x4 x5 x6 x7 : Option R} (ha : PathP a) (h4 : a.length ≤ 4) (hb : PathP b) (hp : Pen ns (n + 3) p) :
    wC (tailR (fns (d + 5))) [some (.r 0), some (.v (.tup a)), some (.v (.tup b)), x3, x4, x5, x6, x7] (p :: rest) { nx := fun _ _ => False, rt := fun r b => r = .v (.bl true) ∧ ∃ q, b = q :: rest ∧ Pen ns n q } := by
  obtain ⟨w, q, e1, sw, hq⟩ := law_bent (d := d + 1) ha h4 ns n p rest hp
  have gw : Good w := sw.good
  obtain ⟨r1, r2, _⟩ := repr_good gw
  have rb : ∀ c : Bool, (∀ bx, opRepr [.v (.bl c)] bx = .ok (.v (.str (reprS (.bl c)))) bx) ∧ okc (reprS (.bl c)) = true := fun c => by
    obtain ⟨h1, h2, _⟩ := repr_good (x := .bl c) ⟨rfl, by simp [W.bk], by simp [W.dq]⟩
    exact ⟨h1, h2⟩
  have w0 : ∀ bx, opCmp .eq [.v (.str (wordS (pathB w))), .v (.str "")] bx = .ok (.v (.bl (pathB w))) bx := fun bx => by
    have := eq_str (a := wordS (pathB w)) (b := wordS true) (okc_word _) (okc_word _) bx
    rw [show (Str.ofString "") = wordS true from rfl, this]
    cases pathB w <;> rfl
  unfold tailR
  simp only [wC_seq, wC_seq1, wC_a6, wE_fn2, wE_v0, wE_v1, e1, wR_ok, wC_a5, wE_if, wE_fn1, wE_v6, call_v (law_is_way (d := d + 3) gw), wB_bl, wE_C]
  have two : ∀ en bx, en = [some (.r 0), some (.v (.tup a)), some (.v (.tup b)), x3, x4, some (.v (.str (wordS (pathB w)))), some (.v w), some (.v (.str (reprS w)))] → 
      eWord (G11 (fns (d + 5))) (eFn [(false, eVar 6), (false, eVar 2)] (opCall (fns (d + 5)) 4 false)) en bx = .ok (.v (.str (wordS (pathB w)))) bx ∧
      eWord (G11 (fns (d + 5))) (eFn [(false, eVar 2), (false, eVar 6)] (opCall (fns (d + 5)) 4 false)) en bx = .ok (.v (.str (wordS (pathB w)))) bx := fun en bx he => by
    subst he
    have z1 := rest_behind (d := d + 1) (bx := bx) gw hb.sm.1.good
    have z2 := rest_behind (d := d + 1) (bx := bx) hb.sm.1.good gw
    simp only [hb.path, and_true, true_and] at z1 z2
    by_cases pw : pathB w = true
    · rw [if_pos pw] at z1 z2
      rw [pw]
      refine ⟨eWord_ok (junk := []) (w := .v (restW w (.tup b))) (wR_eq ?_), eWord_ok (junk := []) (w := .v (restW (.tup b) w)) (wR_eq ?_)⟩
      · show wE _ _ _ _ _
        rw [wE_fn2, wE_v6, wE_v2, call_v z1, wR_ok, List.append_nil]
        exact ⟨rfl, rfl⟩
      · show wE _ _ _ _ _
        rw [wE_fn2, wE_v2, wE_v6, call_v z2, wR_ok, List.append_nil]
        exact ⟨rfl, rfl⟩
    · rw [if_neg pw] at z1 z2
      have pw : pathB w = false := Bool.eq_false_iff.mpr pw
      rw [pw]
      refine ⟨eWord_x (wR_eqx ?_), eWord_x (wR_eqx ?_)⟩
      · show wE _ _ _ _ _
        rw [wE_fn2, wE_v6, wE_v2, call_x z1, wR_exc]
        exact ⟨rfl, rfl⟩
      · show wE _ _ _ _ _
        rw [wE_fn2, wE_v2, wE_v6, call_x z2, wR_exc]
        exact ⟨rfl, rfl⟩
  have fin : ∀ s : Str, s = wordS (pathB w) → wC (cSeq [cAsg (.nm 7) (eFn [(false, eVar 6)] opRepr),
    cIf (eOp [eWord (G11 (fns (d + 5))) (eFn [(false, eVar 6), (false, eVar 2)] (opCall (fns (d + 5)) 4 false)), eVar 5] (opCmp .ne)) (cSeq [cRet (eC (.bl false))]) (cPass),
    cIf (eOp [eWord (G11 (fns (d + 5))) (eFn [(false, eVar 2), (false, eVar 6)] (opCall (fns (d + 5)) 4 false)), eVar 5] (opCmp .ne)) (cSeq [cRet (eC (.bl false))]) (cPass),
    cRet (eAnd [eOp [eFn [(false, eFn [(false, eVar 6)] (opCall (fns (d + 5)) 1 false))] opRepr, eFn [(false, eOp [eVar 5, eC (.str "")] (opCmp .eq))] opRepr] (opCmp .eq), eOp [eFn [(false, eVar 6)] opRepr, eVar 7] (opCmp .eq)])])
      [some (.r 0), some (.v (.tup a)), some (.v (.tup b)), x3, x4, some (.v (.str s)), some (.v w), x7] (q :: rest) { nx := fun _ _ => False, rt := fun r b => r = .v (.bl true) ∧ ∃ q, b = q :: rest ∧ Pen ns n q } := by
    intro s hs
    subst hs
    obtain ⟨t1, t2⟩ := two _ (q :: rest) rfl
    have e5 : ∀ c bx, opCmp .eq [.v (.str (reprS (.bl c))), .v (.str (reprS (.bl c)))] bx = .ok (.v (.bl true)) bx := fun c bx => eq_self (rb c).2
    have e6 : ∀ bx, opCmp .eq [.v (.str (reprS w)), .v (.str (reprS w))] bx = .ok (.v (.bl true)) bx := fun bx => eq_self r2
    have e7 : ∀ bx, opCmp .ne [.v (.str (wordS (pathB w))), .v (.str (wordS (pathB w)))] bx = .ok (.v (.bl false)) bx := fun bx => ne_self (okc_word _)
    simp only [wC_seq, wC_seq1, wC_a7, wE_fn1, wE_v6, r1, wR_ok, wC_ifB, wE_op2, wE_of t1, wE_of t2, wE_v5, e7, wB_bl, wC_pass, wC_ret, wE_andB, wE_and1, call_v (is_path (d := d + 3) gw), (rb _).1, wE_C, w0, e5, wE_v7, e6]
    simp
    exact hq
  have f1 := fin _ rfl
  cases hw : pathB w
  · rw [hw] at fin
    have := fin "path" rfl
    simp only [wC_seq, wC_seq1] at this
    simp [this]
  · rw [hw] at fin
    have := fin "" rfl
    simp only [wC_seq, wC_seq1] at this
    simp [this]
theorem law_rests : Calls1 (fns (d + 6)) 17 [.r 0] 17 (fun w => w = .bl true) := by
  intro ns n p rest hp
  obtain ⟨w1, p1, e1, h1, hp1⟩ := law_way (d := d + 2) ns (n + 11) p rest hp
  obtain ⟨w2, p2, e2, h2, hp2⟩ := law_way (d := d + 2) ns (n + 5) p1 rest hp1
  obtain ⟨a, rfl, pa, a4⟩ := h1.pp
  obtain ⟨b, rfl, pb, b4⟩ := h2.pp
  obtain ⟨k, p3, e3, k0, k1, hp3⟩ := drawsOf (d := d + 3) ns (n + 4) p2 rest 2 hp2 (by decide) (by decide)
  have main : ∀ (b : List W) (p4 : Box) , PathP b → b.length ≤ 4 → Pen ns (n + 3) p4 → ∀ Q, Q = { nx := fun _ _ => False, rt := fun r bx => r = .v (.bl true) ∧ ∃ q, bx = q :: rest ∧ Pen ns n q : Dz } → wC (cSeq [cFor (.tp [(.nm 3), (.nm 4)]) (iPlain (eTup [(false, eTup [(false, eVar 1), (false, eVar 2)]), (false, eTup [(false, eVar 2), (false, eVar 1)]), (false, eTup [(false, eVar 1), (false, eVar 1)]), (false, eTup [(false, eOp [eVar 1, eVar 2] (opBin .add false)), (false, eVar 1)])])) (cSeq [cAsg (.nm 5) (eIf (eOp [eCut false (eVar 3) none (some (eFn [(false, eVar 4)] opLen)), eVar 4] (opCmp .eq)) (eCut false (eVar 3) (some (eFn [(false, eVar 4)] opLen)) none) (eC .non)),
    cIf (eOp [eFn [(false, eFn [(false, eVar 3), (false, eVar 4)] (opCall (fns (d + 5)) 4 false))] opRepr, eFn [(false, eVar 5)] opRepr] (opCmp .ne)) (cSeq [cRet (eC (.bl false))]) (cPass)]), tailR (fns (d + 5))])
      [some (.r 0), some (.v (.tup a)), some (.v (.tup b)), none, none, none, none, none] (p4 :: rest) Q := by
    intro b p4 pb b4 hp4 Q hQ
    subst hQ
    rw [wC_seq]
    have t2 : ∀ x y bx, mkT [.v x, .v y] bx = .ok (.v (.tup [x, y])) bx := fun x y bx => mkTs (ws := [x, y]) (by simp)
    have t4 : ∀ x y z u bx, mkT [.v x, .v y, .v z, .v u] bx = .ok (.v (.tup [x, y, z, u])) bx := fun x y z u bx => mkTs (ws := [x, y, z, u]) (by simp)
    have ad : ∀ bx, opBin .add false [.v (.tup a), .v (.tup b)] bx = .ok (.v (.tup (a ++ b))) bx := fun bx => opl_addT (by unfold SL; omega)
    have it : (eTup [(false, eTup [(false, eVar 1), (false, eVar 2)]), (false, eTup [(false, eVar 2), (false, eVar 1)]), (false, eTup [(false, eVar 1), (false, eVar 1)]), (false, eTup [(false, eOp [eVar 1, eVar 2] (opBin .add false)), (false, eVar 1)])])
        [some (.r 0), some (.v (.tup a)), some (.v (.tup b)), none, none, none, none, none] (p4 :: rest) = .ok (.v (.tup [.tup [.tup a, .tup b], .tup [.tup b, .tup a], .tup [.tup a, .tup a], .tup [.tup (a ++ b), .tup a]])) (p4 :: rest) := by
      refine wR_eq ?_
      show wE _ _ _ _ _
      simp only [wE_tup, wE_args, wE_argsN, wE_v1, wE_v2, t2, wE_op2, ad, wR_ok, t4]
      exact ⟨trivial, trivial⟩
    rw [wC_for (it_of it (.inr rfl))]
    refine forGo_inv (fun _ en bx => bx = p4 :: rest ∧ ∃ x3 x4 x5, en = [some (.r 0), some (.v (.tup a)), some (.v (.tup b)), x3, x4, x5, none, none]) (fun _ _ _ _ => rfl) _ 0 _ _ ⟨rfl, _, _, _, rfl⟩ ?_ ?_
    · rintro j x en bx hx ⟨rfl, x3, x4, x5, rfl⟩
      have hx := List.mem_of_getElem? hx
      obtain ⟨f, s, rfl, pf, ps⟩ : ∃ f s, x = .one (.v (.tup [.tup f, .tup s])) ∧ PathP f ∧ PathP s := by
        have pab : PathP (a ++ b) := ⟨by simp; have := pa.one; omega, by simp; omega, fun x m => (List.mem_append.mp m).elim (pa.nm x) (pb.nm x)⟩
        simp only [List.map_cons, List.map_nil, List.mem_cons, List.not_mem_nil, or_false] at hx
        rcases hx with h | h | h | h
        · exact ⟨_, _, h, pa, pb⟩
        · exact ⟨_, _, h, pb, pa⟩
        · exact ⟨_, _, h, pa, pa⟩
        · exact ⟨_, _, h, pab, pa⟩
      refine ⟨[some (.r 0), some (.v (.tup a)), some (.v (.tup b)), some (.v (.tup f)), some (.v (.tup s)), x5, none, none], rfl, ?_⟩
      have z := rest_behind (d := d + 1) (bx := p4 :: rest) pf.sm.1.good ps.sm.1.good
      rw [if_pos ⟨pf.path, ps.path⟩] at z
      obtain ⟨r1, r2, _⟩ := repr_good (restW_good (b := s) pf)
      have nes : ∀ bx, opCmp .ne [.v (.str (reprS (restW (.tup f) (.tup s)))), .v (.str (reprS (restW (.tup f) (.tup s))))] bx = .ok (.v (.bl false)) bx := fun bx => ne_self r2
      have fin : ∀ w, w = restW (.tup f) (.tup s) → wC (cSeq [cIf (eOp [eFn [(false, eFn [(false, eVar 3), (false, eVar 4)] (opCall (fns (d + 5)) 4 false))] opRepr, eFn [(false, eVar 5)] opRepr] (opCmp .ne)) (cSeq [cRet (eC (.bl false))]) (cPass)])
          [some (.r 0), some (.v (.tup a)), some (.v (.tup b)), some (.v (.tup f)), some (.v (.tup s)), some (.v w), none, none] (p4 :: rest) { nx := fun en bx => bx = p4 :: rest ∧ ∃ x3 x4 x5, en = [some (.r 0), some (.v (.tup a)), some (.v (.tup b)), x3, x4, x5, none, none], rt := fun r bx => r = .v (.bl true) ∧ ∃ q, bx = q :: rest ∧ Pen ns n q, ct := fun en bx => bx = p4 :: rest ∧ ∃ x3 x4 x5, en = [some (.r 0), some (.v (.tup a)), some (.v (.tup b)), x3, x4, x5, none, none] } := fun w hw => by
        subst hw
        simp only [wC_seq1, wC_ifB, wE_op2, wE_fn1, wE_fn2, wE_v3, wE_v4, wE_v5, call_v z, wR_ok, r1, nes, wB_bl, wC_pass]
        simp
      simp only [wC_seq1] at fin
      simp only [wC_seq, wC_seq1, wC_a5, wE_if, wE_op2, wE_cutR, wE_cutL, wE_v3, wE_v4, wE_fn1, len_tup, wR_ok, wI_int, cut_tt, cut_td, eq_path pf ps, wB_bl, wE_C]
      by_cases hc : f.take s.length = s
      · have := fin (.tup (f.drop s.length)) (by simp [restW, hc])
        simp [hc]
        simpa using this
      · have := fin .non (by simp [restW, hc])
        simp [hc]
        simpa using this
    · rintro en bx ⟨rfl, x3, x4, x5, rfl⟩
      show wC (tailR (fns (d + 5))) _ _ _
      exact wC_mono (tailR_ok (d := d) pa a4 pb hp4) (fun _ _ h => h.elim) (fun _ _ h => h) (fun _ _ h => h.elim)
  have key : wR nX (fun r bx => r = .v (.bl true) ∧ ∃ q, bx = q :: rest ∧ Pen ns n q) (fns (d + 6) 17 [.r 0] (p :: rest)) := by
    refine wC_run rfl ?_
    show wC (b17 (fns (d + 5))) [some (.r 0), none, none, none, none, none, none, none] (p :: rest) _
    have eb : b17 (fns (d + 5)) = cSeq [cAsg (.tp [(.nm 1), (.nm 2)]) (eTup [(false, eFn [(false, eVar 0)] (opCall (fns (d + 5)) 15 false)), (false, eFn [(false, eVar 0)] (opCall (fns (d + 5)) 15 false))]),
        cIf (eOp [eFn [(false, eVar 0), (false, eC (.int 2))] (opCall (fns (d + 5)) 9 false), eC (.int 0)] (opCmp .eq)) (cSeq [cAsg (.nm 2) (eCut false (eVar 1) none (some (eOp [eC (.int 1), eFn [(false, eVar 0), (false, eFn [(false, eVar 1)] opLen)] (opCall (fns (d + 5)) 9 false)] (opBin .add false))))]) (cPass),
        cFor (.tp [(.nm 3), (.nm 4)]) (iPlain (eTup [(false, eTup [(false, eVar 1), (false, eVar 2)]), (false, eTup [(false, eVar 2), (false, eVar 1)]), (false, eTup [(false, eVar 1), (false, eVar 1)]), (false, eTup [(false, eOp [eVar 1, eVar 2] (opBin .add false)), (false, eVar 1)])])) (cSeq [cAsg (.nm 5) (eIf (eOp [eCut false (eVar 3) none (some (eFn [(false, eVar 4)] opLen)), eVar 4] (opCmp .eq)) (eCut false (eVar 3) (some (eFn [(false, eVar 4)] opLen)) none) (eC .non)),
    cIf (eOp [eFn [(false, eFn [(false, eVar 3), (false, eVar 4)] (opCall (fns (d + 5)) 4 false))] opRepr, eFn [(false, eVar 5)] opRepr] (opCmp .ne)) (cSeq [cRet (eC (.bl false))]) (cPass)]),
        cAsg (.nm 6) (eFn [(false, eVar 0), (false, eVar 1)] (opCall (fns (d + 5)) 16 false)),
    cAsg (.nm 5) (eIf (eFn [(false, eVar 6)] (opCall (fns (d + 5)) 13 false)) (eC (.str "")) (eC (.str "path"))),
    cAsg (.nm 7) (eFn [(false, eVar 6)] opRepr),
    cIf (eOp [eWord (G11 (fns (d + 5))) (eFn [(false, eVar 6), (false, eVar 2)] (opCall (fns (d + 5)) 4 false)), eVar 5] (opCmp .ne)) (cSeq [cRet (eC (.bl false))]) (cPass),
    cIf (eOp [eWord (G11 (fns (d + 5))) (eFn [(false, eVar 2), (false, eVar 6)] (opCall (fns (d + 5)) 4 false)), eVar 5] (opCmp .ne)) (cSeq [cRet (eC (.bl false))]) (cPass),
    cRet (eAnd [eOp [eFn [(false, eFn [(false, eVar 6)] (opCall (fns (d + 5)) 1 false))] opRepr, eFn [(false, eOp [eVar 5, eC (.str "")] (opCmp .eq))] opRepr] (opCmp .eq), eOp [eFn [(false, eVar 6)] opRepr, eVar 7] (opCmp .eq)])] := rfl
    rw [eb]
    have t2 : ∀ x y bx, mkT [.v x, .v y] bx = .ok (.v (.tup [x, y])) bx := fun x y bx => mkTs (ws := [x, y]) (by simp)
    rw [wC_seq, wC_asgT]
    simp only [wE_tup, wE_args, wE_argsN, wE_fn1, wE_v0, e1, wR_ok, e2, t2]
    refine ⟨[some (.r 0), some (.v (.tup a)), some (.v (.tup b)), none, none, none, none, none], rfl, ?_⟩
    rw [wC_seq, wC_ifB]
    simp only [wE_op2, wE_fn2, wE_v0, wE_C, e3, wR_ok, eq_int, wB_bl, wC_seq1, wC_a2, wC_pass, wE_cutR, wE_v1, wE_fn1, len_tup, opl_add]
    refine ⟨fun _ => ?_, fun _ => ?_⟩
    · obtain ⟨j, p4, e4, j0, j1, hp4⟩ := drawsOf (d := d + 3) ns (n + 3) p3 rest a.length hp3 (by have := pa.one; omega) (by omega)
      obtain ⟨s, hs⟩ : ∃ s : Nat, (s : Int) = 1 + j := ⟨(1 + j).toNat, by omega⟩
      simp only [e4, wR_ok, opl_add, wI_int]
      rw [← hs, cut_tt, wR_ok]
      have pt : PathP (a.take s) := ⟨by rw [List.length_take]; have := pa.one; omega, by rw [List.length_take]; have := pa.most; omega, fun x m => pa.nm x (List.mem_of_mem_take m)⟩
      have := main (a.take s) p4 pt (by rw [List.length_take]; omega) hp4 _ rfl
      exact wC_mono this (fun _ _ h => h.elim) (fun _ _ h => h) (fun _ _ h => h.elim)
    · have := main b p3 pb b4 (hp3.mono (by omega)) _ rfl
      exact wC_mono this (fun _ _ h => h.elim) (fun _ _ h => h) (fun _ _ h => h.elim)
  obtain ⟨r, b', e, rfl, q, rfl, hq⟩ := wR_get key
  exact ⟨_, q, call_p (fun m => hq.lt m) e, rfl, hq⟩
end
end AM.K01
/-! text AmPy -/
set_option Elab.async false
set_option linter.all false
set_option maxRecDepth 100000
set_option maxHeartbeats 1000000
/-! AmPy: methods in the calculus. -/
namespace AM
open PySem
section
variable {D : Dz} {en : En} {bx : Bx} {X : W → Bx → Prop} {Q : R → Bx → Prop} {o : E} {as : List (Bool × E)} {f : Op}
theorem wE_mtL : wE X (eMt false o as f) en bx Q ↔ wE X o en bx fun x b => (itL b x).isSome = true ∧ wE X (eArgs as fun xs _ bx => f (x :: xs) bx) en b Q := wE_bind.trans (wE_post fun r b => by
  unfold wE
  simp only [Bool.false_eq_true, if_false]
  by_cases h : (itL b r).isSome = true
  · rw [if_pos h]; exact ⟨fun z => ⟨h, z⟩, fun z => z.2⟩
  · rw [if_neg h]; exact ⟨fun z => (wR_st.mp z).elim, fun z => absurd z.1 h⟩)
theorem wE_mtD : wE X (eMt true o as f) en bx Q ↔ wE X o en bx fun x b => (dcO b x).isSome = true ∧ wE X (eArgs as fun xs _ bx => f (x :: xs) bx) en b Q := wE_bind.trans (wE_post fun r b => by
  unfold wE
  simp only [if_true]
  by_cases h : (dcO b r).isSome = true
  · rw [if_pos h]; exact ⟨fun z => ⟨h, z⟩, fun z => z.2⟩
  · rw [if_neg h]; exact ⟨fun z => (wR_st.mp z).elim, fun z => absurd z.1 h⟩)
theorem eraseIdx_mapR (ys : List W) : ∀ t, (ys.map R.v).eraseIdx t = (ys.eraseIdx t).map R.v := by
  induction ys with
  | nil => intro t; simp
  | cons a r ih =>
    intro t
    cases t with
    | zero => simp
    | succ t => simp [ih t]
end
end AM
/-! text K01t -/
set_option Elab.async false
set_option linter.all false
set_option maxRecDepth 100000
set_option maxHeartbeats 4000000
namespace AM.K01
open PySem AM
section
variable {bx : Bx} {F : Fn} {d : Nat} {ns : List Int} {n : Nat} {p : Box} {rest : Bx} {en : En} {m : E}
theorem opl_min {i j : Int} : opMin2 [.v (.int i), .v (.int j)] bx = .ok (.v (.int (if j < i then j else i))) bx := rfl
theorem len_box {ys : List W} {i : Nat} (h : bx[i]? = some (.lst (ys.map .v))) : opLen [.r i] bx = .ok (.v (.int ys.length)) bx := by
  simp [opLen, lenO, itS, itL, h]
/-- up to three items of a pool -/
theorem law_some {ws : List W} (hl : ws.length ≤ 8) (hw : ∀ w ∈ ws, w.gd = true) : Calls1 (fns (d + 3)) 10 [.r 0, .v (.lst ws), .v (.int 3)] 4 (fun w => ∃ us, w = .lst us ∧ us.length ≤ 3 ∧ ∀ u ∈ us, u ∈ ws) := by
  intro ns n p rest hp
  obtain ⟨u, hu⟩ : ∃ u : Nat, (u : Int) = (if (ws.length : Int) < 3 then (ws.length : Int) else 3) := ⟨(if (ws.length : Int) < 3 then (ws.length : Int) else 3).toNat, by split <;> omega⟩
  have hu3 : u ≤ 3 ∧ u ≤ ws.length := by constructor <;> (split at hu <;> omega)
  have hL : (p :: rest ++ [Box.lst (ws.map .v)])[rest.length + 1]? = some (.lst (ws.map .v)) := by simp
  obtain ⟨k, p1, e1, k0, k1, hp1⟩ := drawsOf (d := d) ns (n + 3) p (rest ++ [.lst (ws.map .v)]) (u + 1) hp (by omega) (by omega)
  obtain ⟨s, rfl⟩ : ∃ s : Nat, k = s := ⟨k.toNat, by omega⟩
  let en : En := [some (.r 0), some (.v (.lst ws)), some (.v (.int 3)), some (.r (rest.length + 1)), none]
  have it : iRange1 (eFn [(false, eVar 0), (false, eOp [eFn [(false, eVar 2), (false, eFn [(false, eVar 3)] opLen)] opMin2, eC (.int 1)] (opBin .add false))] (opCall (fns (d + 2)) 9 false)) (wipeE en [4]) (p :: (rest ++ [.lst (ws.map .v)])) = _ := it_range (k := s) (bx' := p1 :: (rest ++ [.lst (ws.map .v)])) (wR_eq (by
    show wE _ _ [some (.r 0), some (.v (.lst ws)), some (.v (.int 3)), some (.r (rest.length + 1)), none] _ _
    have hl2 : ∀ q, opLen [.r (rest.length + 1)] (q :: (rest ++ [.lst (ws.map .v)])) = .ok (.v (.int ws.length)) (q :: (rest ++ [.lst (ws.map .v)])) := fun q => len_box (by simp)
    simp only [wE_fn2, wE_v0, wE_op2, wE_v2, wE_fn1, wE_v3, hl2, wR_ok, opl_min, wE_C, opl_add]
    rw [← hu, e1, wR_ok]
    exact ⟨rfl, rfl⟩)) (by omega)
  obtain ⟨us, b', e3, l3, q3, j3⟩ := eLc_inv (own := [4]) (i := 4) (en := en) (bx := p :: (rest ++ [.lst (ws.map .v)])) (b0 := p1 :: (rest ++ [.lst (ws.map .v)]))
    (elt := eMt false (eVar 3) [(false, eFn [(false, eVar 0), (false, eFn [(false, eVar 3)] opLen)] (opCall (fns (d + 2)) 9 false))] opPopAt)
    (fun j b => ∃ q ys, b = q :: (rest ++ [.lst (ys.map .v)]) ∧ ys.length + j = ws.length ∧ (∀ y ∈ ys, y ∈ ws) ∧ Pen ns (n + 3 - j) q) (fun w => w ∈ ws) it (by simp [wipeE, en]) (by simp; unfold SL; omega) ⟨p1, ws, rfl, rfl, fun _ h => h, hp1⟩ (fun j x b hj ⟨q, ys, hb, hly, hys, hq⟩ => by
      subst hb
      have hjs : j < s := by
        have := (List.getElem?_eq_some_iff.mp hj).1
        simpa using this
      obtain ⟨k, p', e, k0, k1, hp'⟩ := drawsOf (d := d) ns (n + 3 - (j + 1)) q (rest ++ [.lst (ys.map .v)]) ys.length (hq.mono (by omega)) (by omega) (by omega)
      obtain ⟨t, rfl⟩ : ∃ t : Nat, k = t := ⟨k.toNat, by omega⟩
      have ht : t < ys.length := by omega
      refine ⟨ys[t], p' :: (rest ++ [.lst ((ys.eraseIdx t).map .v)]), ?_, hys _ (List.getElem_mem ht), p', ys.eraseIdx t, rfl, by rw [List.length_eraseIdx_of_lt ht]; omega, fun y m => hys y (List.mem_of_mem_eraseIdx m), hp'⟩
      have g1 : (q :: (rest ++ [Box.lst (ys.map .v)]))[rest.length + 1]? = some (.lst (ys.map .v)) := by simp
      have g2 : (p' :: (rest ++ [Box.lst (ys.map .v)]))[rest.length + 1]? = some (.lst (ys.map .v)) := by simp
      have hl2 : opLen [.r (rest.length + 1)] (q :: (rest ++ [.lst (ys.map .v)])) = .ok (.v (.int ys.length)) (q :: (rest ++ [.lst (ys.map .v)])) := len_box g1
      have hpop : opPopAt [.r (rest.length + 1), .v (.int t)] (p' :: (rest ++ [.lst (ys.map .v)])) = .ok (.v ys[t]) (p' :: (rest ++ [.lst ((ys.eraseIdx t).map .v)])) := by
        have i1 : i64 t = true := i64_of (by omega) (by omega)
        have a1 : atW t (ys.map R.v).length = some t := by
          unfold atW
          rw [if_pos (by omega), if_pos (by rw [List.length_map]; omega)]
          simp
        have s1 : (rest ++ [Box.lst (ys.map .v)]).set rest.length (.lst ((ys.eraseIdx t).map .v)) = rest ++ [.lst ((ys.eraseIdx t).map .v)] := by
          rw [List.set_append_right _ _ (Nat.le_refl _)]
          simp
        simp only [opPopAt, boxL, g2, i1, if_true, a1, List.getElem?_map, List.getElem?_eq_getElem ht, Option.map_some]
        rw [if_pos (by omega)]
        unfold putB
        rw [if_pos (by simp)]
        rw [List.set_cons_succ, eraseIdx_mapR, s1]
      have hi : (itL (q :: (rest ++ [.lst (ys.map .v)])) (.r (rest.length + 1))).isSome = true := by simp [itL]
      refine wR_eq ?_
      show wE _ _ [some (.r 0), some (.v (.lst ws)), some (.v (.int 3)), some (.r (rest.length + 1)), some (.v x)] (q :: (rest ++ [.lst (ys.map .v)])) _
      rw [wE_mtL, wE_v3]
      refine ⟨hi, ?_⟩
      simp only [wE_args, wE_argsN, wE_fn2, wE_v0, wE_fn1, wE_v3, hl2, wR_ok, e, hpop]
      exact ⟨trivial, trivial⟩)
  obtain ⟨q, ys, rfl, hly, hys, hq⟩ := j3
  simp at l3
  refine ⟨.lst us, q, ?_, ⟨us, rfl, by omega, q3⟩, hq.mono (by simp; omega)⟩
  have key : fns (d + 3) 10 [.r 0, .v (.lst ws), .v (.int 3)] (p :: rest) = .ok (.v (.lst us)) (q :: (rest ++ [.lst (ys.map .v)])) := by
    refine wR_eq (wC_run rfl ?_)
    show wC (b10 (fns (d + 2))) [some (.r 0), some (.v (.lst ws)), some (.v (.int 3)), none, none] (p :: rest) _
    unfold b10
    have lb : opList true [.v (.lst ws)] (p :: rest) = .ok (.r (rest.length + 1)) (p :: (rest ++ [.lst (ws.map .v)])) := by
      have := list_box (bx := p :: rest) (ws := ws) (by unfold SL; omega)
      simpa using this
    simp only [wC_seq, wC_a3, wE_fn1, wE_v1, lb, wR_ok, wC_seq1, wC_ret]
    rw [wE_of e3]
    exact ⟨rfl, rfl⟩
  show settle _ (fns (d + 3) 10 _ _) = _
  rw [key]
  exact settle_pj fun m => hq.lt m
end
end AM.K01
/-! text K01u -/
set_option Elab.async false
set_option linter.all false
set_option maxRecDepth 100000
set_option maxHeartbeats 4000000
namespace AM.K01
open PySem AM
section
variable {bx : Bx} {F : Fn} {d : Nat} {ns : List Int} {n : Nat} {p : Box} {rest : Bx} {en : En} {m : E}
theorem repr_box {ws : List W} {i : Nat} (h : bx[i]? = some (.lst (ws.map .v))) : opRepr [.r i] bx = opRepr [.v (.lst ws)] bx := by
  have e : ∀ l : List W, mapO (view bx 8) (l.map R.v) = some l := fun l => by
    induction l with
    | nil => rfl
    | cons a t ih => simp [mapO, view, ih]
  have e2 : view bx 9 (.r i) = some (.lst ws) := by
    rw [show (9 : Nat) = 8 + 1 from rfl]
    simp only [view, h, e, Option.map_some]
  have e3 : view bx 9 (.v (.lst ws)) = some (.lst ws) := rfl
  unfold opRepr
  simp only [e2, e3]
/-- rows of paths -/
structure WaysP (ws : List W) : Prop where
  path : ∀ x ∈ ws, pathB x = true
  good : ∀ x ∈ ws, Good x
theorem WaysP.sort {ws : List W} (h : WaysP ws) : sortOk ws = true := by
  unfold sortOk
  rw [Bool.and_eq_true, Bool.and_eq_true, Bool.or_eq_true]
  refine ⟨⟨?_, ?_⟩, .inl ?_⟩
  · rw [List.all_eq_true]
    exact fun x m => dat_k (path_isK (h.path x m)) (h.good x m)
  · rw [List.all_eq_true]
    intro x m
    rw [List.all_eq_true]
    exact fun y m' => path_alk (h.path x m) (h.path y m')
  · rw [List.all_eq_true]
    intro x m
    obtain ⟨xs, rfl, h1, _⟩ := path_parts (h.path x m)
    cases xs with
    | nil => simp at h1
    | cons _ _ => rfl
theorem WaysP.sub {ws vs : List W} (h : WaysP ws) (s : ∀ x ∈ vs, x ∈ ws) : WaysP vs := ⟨fun x m => h.path x (s x m), fun x m => h.good x (s x m)⟩
theorem WaysP.alike {ws : List W} (h : WaysP ws) : Alike ws := ⟨fun x m => path_isK (h.path x m), fun x m y m' => path_alk (h.path x m) (h.path y m')⟩
theorem sset_run {ws : List W} (h : WaysP ws) (hl : ws.length < 64) : opSSet false [.v (.lst ws)] bx = .ok (.v (.lst (sortW (firsts [] ws)))) bx := by
  show (match vals (ws.map R.v) with
    | some ws => if decide (ws.length < 64) && setOk ws && sortOk ws then mkL false ((sortW (firsts [] ws)).map .v) bx else .stuck
    | none => .stuck) = _
  rw [vals_W]
  have e1 : setOk ws = true := keyFor_allP fun x m => path_key (h.path x m)
  have e2 : decide (ws.length < 64) = true := decide_eq_true hl
  simp only [e1, e2, h.sort, Bool.and_self, if_true]
  have := firsts_len ws []
  have l2 : (sortW (firsts [] ws)).length = (firsts [] ws).length := (List.mergeSort_perm _ _).length_eq
  exact mkL_v (by simp at this; unfold SL; omega)
theorem sorted_run {ws : List W} (h : sortOk ws = true) (hl : ws.length ≤ SL) : opSorted false [.v (.lst ws)] bx = .ok (.v (.lst (sortW ws))) bx := by
  show (match vals (ws.map R.v) with
    | some ws => if sortOk ws then mkL false ((sortW ws).map .v) bx else .stuck
    | none => .stuck) = _
  rw [vals_W]
  simp only [h, if_true]
  have l2 : (sortW ws).length = ws.length := (List.mergeSort_perm _ _).length_eq
  exact mkL_v (by omega)
theorem due_eq {ws : List W} (h : WaysP ws) : (sortW ((sortW (firsts [] ws)).map keyW)).map sndW = orderW ws := by
  have hf : WaysP (firsts [] ws) := h.sub fun x m => by simpa using firsts_mem.mp m
  have nf : (firsts [] ws).Nodup := firsts_nodup (l := ws) (acc := []) (by simp)
  obtain ⟨as, ms⟩ := sort_is_asc hf.alike nf
  have hd : WaysP (sortW (firsts [] ws)) := hf.sub fun x m => (ms x).mp m
  have ht : ∀ x ∈ sortW (firsts [] ws), x.isT = true := fun x m => (path_key (hd.path x m)).2
  rw [← sortLen_keys, List.map_map]
  have e : (sortLen (sortW (firsts [] ws))).map (sndW ∘ keyW) = sortLen (sortW (firsts [] ws)) := by
    conv => rhs; rw [← List.map_id (sortLen (sortW (firsts [] ws)))]
    exact List.map_congr_left fun x m => snd_key (ht x ((List.mergeSort_perm _ _).mem_iff.mp m))
  rw [e]
  exact sortLen_ext ht (alike_keys hd.path) as.nodup nf ms
theorem due_run {ws : List W} {en : En} {i j : Nat} (h : WaysP ws) (hl : ws.length ≤ 100) (he : en[2]? = some (some (.v (.lst (sortW (firsts [] ws)))))) (hen : en.length = 13) :
    eLc false [11] [⟨.nm 11, iPlain (eFn [(false, eLc false [12] [⟨.nm 12, iPlain (eVar 2), []⟩] (eTup [(false, eFn [(false, eVar 12)] opLen), (false, eVar 12)]))] (opSorted false)), []⟩] (eOp [eVar 11, eC (.int 1)] opIdx) en bx = .ok (.v (.lst (orderW ws))) bx := by
  have hf : WaysP (firsts [] ws) := h.sub fun x m => by simpa using firsts_mem.mp m
  have nf : (firsts [] ws).Nodup := firsts_nodup (l := ws) (acc := []) (by simp)
  obtain ⟨as, ms⟩ := sort_is_asc hf.alike nf
  have hd : WaysP (sortW (firsts [] ws)) := hf.sub fun x m => (ms x).mp m
  have lf := firsts_len ws []
  have l2 : (sortW (firsts [] ws)).length = (firsts [] ws).length := (List.mergeSort_perm _ _).length_eq
  simp only [List.length_nil] at lf
  rw [← due_eq h]
  generalize hD : sortW (firsts [] ws) = due at *
  have inner : ∀ en : En, en[2]? = some (some (.v (.lst due))) → en.length = 13 → eLc false [12] [⟨.nm 12, iPlain (eVar 2), []⟩] (eTup [(false, eFn [(false, eVar 12)] opLen), (false, eVar 12)]) en bx = .ok (.v (.lst (due.map keyW))) bx := fun en he hen => by
    refine eLc_one (it_of (eVar_of ?_) (.inl rfl)) (by simp [wipeE, hen]) (by unfold SL; omega) fun x m => ?_
    · show (en.set 12 none)[2]? = _
      rw [List.getElem?_set_ne (by decide)]; exact he
    · obtain ⟨xs, rfl, _⟩ := path_parts (hd.path x m)
      refine wR_eq ?_
      show wE _ _ _ _ _
      have v12 : ∀ X Q, wE X (eVar 12) ((wipeE en [12]).set 12 (some (.v (.tup xs)))) bx Q ↔ Q (.v (.tup xs)) bx := fun X Q => wE_var (by
        rw [List.getElem?_set_self (by simp [wipeE, hen])])
      have t2 : mkT [.v (.int xs.length), .v (.tup xs)] bx = .ok (.v (keyW (.tup xs))) bx := mkTs (ws := [.int xs.length, .tup xs]) (by simp)
      simp only [wE_tup, wE_args, wE_argsN, wE_fn1, v12, len_tup, wR_ok, t2]
      exact ⟨trivial, trivial⟩
  have sk : sortOk (due.map keyW) = true := sortOk_keys hd.good hd.path
  have it : iPlain (eFn [(false, eLc false [12] [⟨.nm 12, iPlain (eVar 2), []⟩] (eTup [(false, eFn [(false, eVar 12)] opLen), (false, eVar 12)]))] (opSorted false)) (wipeE en [11]) bx = .ok ((sortW (due.map keyW)).map fun x => .one (.v x)) none bx := by
    refine it_of (x := .v (.lst (sortW (due.map keyW)))) (wR_eq ?_) (.inl rfl)
    show wE _ _ _ _ _
    rw [wE_fn1, wE_of (inner _ (by show (en.set 11 none)[2]? = _; rw [List.getElem?_set_ne (by decide)]; exact he) (by simp [wipeE, hen])), sorted_run sk (by simp; unfold SL; omega), wR_ok]
    exact ⟨rfl, rfl⟩
  have lk : (sortW (due.map keyW)).length = due.length := by
    have l3 : (sortW (due.map keyW)).length = (due.map keyW).length := (List.mergeSort_perm _ _).length_eq
    simpa using l3
  refine eLc_one it (by simp [wipeE, hen]) (by unfold SL; omega) fun x m => ?_
  have m := (List.mergeSort_perm _ _ : (sortW (due.map keyW)).Perm _).mem_iff.mp m
  obtain ⟨a, ma, rfl⟩ := List.mem_map.mp m
  obtain ⟨xs, rfl, _⟩ := path_parts (hd.path a ma)
  refine wR_eq ?_
  show wE _ _ _ _ _
  have v11 : ∀ X Q, wE X (eVar 11) ((wipeE en [11]).set 11 (some (.v (keyW (.tup xs))))) bx Q ↔ Q (.v (keyW (.tup xs))) bx := fun X Q => wE_var (by
    rw [List.getElem?_set_self (by simp [wipeE, hen])])
  have ix : opIdx [.v (keyW (.tup xs)), .v (.int 1)] bx = .ok (.v (sndW (keyW (.tup xs)))) bx := rfl
  rw [wE_op2, v11, wE_C, ix, wR_ok]
  exact ⟨rfl, rfl⟩
end
end AM.K01
/-! text K01v -/
set_option Elab.async false
set_option linter.all false
set_option maxRecDepth 100000
set_option maxHeartbeats 4000000
namespace AM.K01
open PySem AM
section
variable {bx : Bx} {F : Fn} {d : Nat} {ns : List Int} {n : Nat} {p : Box} {rest : Bx} {en : En} {m : E}
def foundB (F : Fn) : C := cSeq [cAsg (.nm 5) (eFn [(false, eVar 1)] (opCall F 6 true)),
    cIf (eOr [eOp [eFn [(false, eVar 5)] opRepr, eFn [(false, eVar 2)] opRepr] (opCmp .ne), eOp [eFn [(false, eVar 1)] opRepr, eVar 3] (opCmp .ne)]) (cSeq [cRet (eC (.bl false))]) (cPass),
    cExp (eMt false (eVar 5) [(false, eC .non)] opAppend)]
theorem WayW.ok {w : W} (h : WayW w) : pathB w = true ∧ Sm 40 8 w := by
  obtain ⟨l, rfl, a, b⟩ := h.pp
  exact ⟨a.path, a.sm.1⟩
theorem found_ok {lot : List W} {x4 x5 x6 x7 x8 x9 x10 x11 x12 : Option R} {junk : Bx} {D : Dz} (hw : WaysP lot) (g : Good (.lst lot)) (hl : lot.length ≤ 100)
    (gd : Good (.lst (orderW lot)))
    (hD : ∀ x5 box, D.nx [some (.r 0), some (.v (.lst lot)), some (.v (.lst (orderW lot))), some (.v (.str (reprS (.lst lot)))), x4, x5, x6, x7, x8, x9, x10, x11, x12] (p :: (rest ++ (junk ++ [box])))) :
    wC (foundB (fns (d + 4))) [some (.r 0), some (.v (.lst lot)), some (.v (.lst (orderW lot))), some (.v (.str (reprS (.lst lot)))), x4, x5, x6, x7, x8, x9, x10, x11, x12] (p :: (rest ++ junk)) D := by
  have hb : waysB (.lst lot) = true := List.all_eq_true.mpr hw.path
  have e1 := in_order_ok (d := d) (bx := p :: (rest ++ junk)) g hb
  have gx : (p :: (rest ++ junk) ++ [Box.lst ((orderW lot).map .v)])[(p :: (rest ++ junk)).length]? = some (.lst ((orderW lot).map .v)) := by
    rw [List.getElem?_append_right (Nat.le_refl _)]; simp
  obtain ⟨r1, r2, _⟩ := repr_good g
  obtain ⟨o1, o2, _⟩ := repr_good gd
  have rb := repr_box gx
  rw [o1] at rb
  generalize hB : p :: (rest ++ junk) = B at *
  have n1 : ∀ bx, opCmp .ne [.v (.str (reprS (.lst (orderW lot)))), .v (.str (reprS (.lst (orderW lot))))] bx = .ok (.v (.bl false)) bx := fun bx => ne_self o2
  have n2 : ∀ bx, opCmp .ne [.v (.str (reprS (.lst lot))), .v (.str (reprS (.lst lot)))] bx = .ok (.v (.bl false)) bx := fun bx => ne_self r2
  have hi : (itL (B ++ [.lst ((orderW lot).map .v)]) (.r B.length)).isSome = true := by simp [itL]
  have lo : (orderW lot).length ≤ lot.length := by
    have h1 := firsts_len lot []
    have h2 : (orderW lot).length = (firsts [] lot).length := (List.mergeSort_perm _ _).length_eq
    simp only [List.length_nil] at h1
    omega
  have ap : opAppend [.r B.length, .v .non] (B ++ [.lst ((orderW lot).map .v)]) = .ok (.v .non) (B ++ [.lst ((orderW lot).map .v ++ [.v .non])]) := by
    simp only [opAppend, boxL, gx]
    rw [if_pos (by simp; unfold SL; omega)]
    unfold putB
    rw [if_pos (by simp), List.set_append_right _ _ (Nat.le_refl _)]
    simp
  unfold foundB
  simp only [wC_seq, wC_seq1, wC_a5, wE_fn1, wE_v1, call_k (F := fns (d + 4)) (f := 6) rfl, e1, wR_ok, wC_ifB, wE_orB, wE_or1, wE_op2, wE_v5, rb, wE_v2, o1, n1, wB_bl, r1, wE_v3, n2, wC_pass, wC_exp, wE_mtL, hi, wE_args, wE_argsN, wE_C, ap]
  have := hD (some (.r B.length)) (.lst ((orderW lot).map .v ++ [.v .non]))
  rw [← hB] at *
  simpa using this
/-- the last loop's turn -/
def thingB (F : Fn) : C := cSeq [cPar 9 3 (eAnd [eOp [eVar 8] (opIsTy T .list), eFn [(false, eLc false [11] [⟨.nm 11, iPlain (eVar 8), []⟩] (eFn [(false, eVar 11)] (opCall F 13 false)))] opAll]) (eFn [(false, eVar 8)] opRepr),
    cIf (eOr [eOp [eWord (G11 F) (eFn [(false, eVar 8)] (opCall F 6 true)), eIf (eVar 9) (eC (.str "")) (eC (.str "path"))] (opCmp .ne), eOp [eFn [(false, eVar 8)] opRepr, eVar 3] (opCmp .ne)]) (cSeq [cRet (eC (.bl false))]) (cPass)]
theorem thing_ok {t : W} {x0 x1 x2 x3 x4 x5 x6 x7 x9 x10 x11 x12 : Option R} {D : Dz} (g : Good t) (hD : ∀ x3 x9, D.nx [x0, x1, x2, x3, x4, x5, x6, x7, some (.v t), x9, x10, x11, x12] bx) :
    wC (thingB (fns (d + 5))) [x0, x1, x2, x3, x4, x5, x6, x7, some (.v t), x9, x10, x11, x12] bx D := by
  obtain ⟨r1, r2, _⟩ := repr_good g
  have n2 : ∀ bx, opCmp .ne [.v (.str (reprS t)), .v (.str (reprS t))] bx = .ok (.v (.bl false)) bx := fun bx => ne_self r2
  have nw : ∀ b bx, opCmp .ne [.v (.str (wordS b)), .v (.str (wordS b))] bx = .ok (.v (.bl false)) bx := fun b bx => ne_self (okc_word b)
  -- the word
  have wd : ∀ en, en[8]? = some (some (.v t)) → eWord (G11 (fns (d + 5))) (eFn [(false, eVar 8)] (opCall (fns (d + 5)) 6 true)) en bx = .ok (.v (.str (wordS (waysB t)))) bx := fun en he => by
    by_cases hb : waysB t = true
    · rw [hb]
      obtain ⟨ws, rfl⟩ : ∃ ws, t = .lst ws := by cases t <;> first | exact ⟨_, rfl⟩ | (simp [waysB] at hb)
      refine eWord_ok (w := .r bx.length) (junk := [.lst ((orderW ws).map .v)]) (wR_eq ?_)
      show wE _ _ _ _ _
      rw [wE_fn1, wE_var he, call_k rfl, in_order_ok (d := d + 1) g hb, wR_ok]
      exact ⟨rfl, rfl⟩
    · have hb : waysB t = false := Bool.eq_false_iff.mpr hb
      rw [hb]
      refine eWord_x (wR_eqx ?_)
      show wE _ _ _ _ _
      rw [wE_fn1, wE_var he, call_k rfl, in_order_x (d := d + 1) g hb, wR_exc]
      exact ⟨rfl, rfl⟩
  -- the law's own judging
  have fine : ∀ (X : W → Bx → Prop) Q, wE X (eAnd [eOp [eVar 8] (opIsTy T .list), eFn [(false, eLc false [11] [⟨.nm 11, iPlain (eVar 8), []⟩] (eFn [(false, eVar 11)] (opCall (fns (d + 5)) 13 false)))] opAll]) [x0, x1, x2, x3, x4, x5, x6, x7, some (.v t), x9, x10, x11, x12] bx Q ↔ Q (.v (.bl (waysB t))) bx := fun X Q => by
    by_cases hs : ∃ ws, t = .lst ws
    · obtain ⟨ws, rfl⟩ := hs
      have al := all_lc (bx := bx) (en := [x0, x1, x2, x3, x4, x5, x6, x7, some (.v (.lst ws)), x9, x10, x11, x12]) (elt := eFn [(false, eVar 11)] (opCall (fns (d + 5)) 13 false)) (i := 11) (own := [11]) (g := pathB)
        (it_of (m := eVar 8) (eVar_of (i := 8) rfl) (.inl rfl)) (by simp [wipeE]) (by have := g.lst_len; unfold SL; omega) (fun x hx => by
          refine wR_eq ?_
          show wE _ _ [x0, x1, x2, x3, x4, x5, x6, x7, some (.v (.lst ws)), x9, x10, some (.v x), x12] bx _
          rw [wE_fn1, wE_v11, call_v (law_is_way (d := d + 3) (g.lst_mem hx)), wR_ok]
          simp)
      rw [wE_andB, wE_op1, wE_v8, isTy_run g.gd, wR_ok, wB_bl, wE_and1, wE_of al]
      simp [tyB, waysB]
    · have e1 : tyB t .list = false := by cases t <;> first | rfl | exact absurd ⟨_, rfl⟩ hs
      have e2 : waysB t = false := by cases t <;> first | rfl | exact absurd ⟨_, rfl⟩ hs
      rw [wE_andB, wE_op1, wE_v8, isTy_run g.gd, wR_ok, wB_bl, e1, e2]
      simp
  unfold thingB
  rw [wC_seq, wC_par (by simp)]
  have rest1 : ∀ b, b = waysB t → wC (cSeq [cIf (eOr [eOp [eWord (G11 (fns (d + 5))) (eFn [(false, eVar 8)] (opCall (fns (d + 5)) 6 true)), eIf (eVar 9) (eC (.str "")) (eC (.str "path"))] (opCmp .ne), eOp [eFn [(false, eVar 8)] opRepr, eVar 3] (opCmp .ne)]) (cSeq [cRet (eC (.bl false))]) (cPass)])
      [x0, x1, x2, some (.v (.str (reprS t))), x4, x5, x6, x7, some (.v t), some (.v (.bl b)), x10, x11, x12] bx D := fun b hb => by
    have w1 := wd [x0, x1, x2, some (.v (.str (reprS t))), x4, x5, x6, x7, some (.v t), some (.v (.bl b)), x10, x11, x12] rfl
    rw [← hb] at w1
    have z := hD (some (.v (.str (reprS t)))) (some (.v (.bl b)))
    have eif : ∀ (X : W → Bx → Prop) Q, wE X (eIf (eVar 9) (eC (.str "")) (eC (.str "path"))) [x0, x1, x2, some (.v (.str (reprS t))), x4, x5, x6, x7, some (.v t), some (.v (.bl b)), x10, x11, x12] bx Q ↔ Q (.v (.str (wordS b))) bx := fun X Q => by
      simp only [wE_if, wE_v9, wB_bl, wE_C]
      cases b <;> simp [wordS]
    simp only [wC_seq1, wC_ifB, wE_orB, wE_or1, wE_op2, wE_of w1, eif, nw, wR_ok, wB_bl, wE_fn1, wE_v8, r1, wE_v3, n2, wC_pass]
    simpa using z
  rw [fine, wE_fn1, wE_v8, r1, wR_ok]
  exact rest1 _ rfl
end
end AM.K01
/-! text K01w -/
set_option Elab.async false
set_option linter.all false
set_option maxRecDepth 100000
set_option maxHeartbeats 4000000
namespace AM.K01
open PySem AM
section
variable {bx : Bx} {F : Fn} {d : Nat} {ns : List Int} {n : Nat} {p : Box} {rest : Bx} {en : En} {m : E}
theorem upS : ∀ y ∈ [W.str "up", .non, .int 0, .dct [] []], y.gd = true ∧ y.bk ≤ 400 ∧ y.dq ≤ 8 := by
  have q : ([.str "up", .non, .int 0, .dct [] []] : List W).all (fun y => y.gd && decide (y.bk ≤ 400) && decide (y.dq ≤ 8)) = true := by decide +kernel
  intro y m
  have := List.all_eq_true.mp q y m
  simp only [Bool.and_eq_true, decide_eq_true_eq] at this
  exact ⟨this.1.1, this.1.2, this.2⟩
theorem upT : (W.tup [.str "up"]).gd = true ∧ (W.tup [.str "up"]).bk ≤ 400 ∧ (W.tup [.str "up"]).dq ≤ 8 := by decide +kernel
theorem law_orders : Calls1 (fns (d + 6)) 18 [.r 0] 50 (fun w => w = .bl true) := by
  intro ns n p rest hp
  -- the paths
  obtain ⟨k, p1, e1, k0, k1, hp1⟩ := drawsOf (d := d + 3) ns (n + 49) p rest 7 hp (by decide) (by decide)
  obtain ⟨s, rfl⟩ : ∃ s : Nat, k = s := ⟨k.toNat, by omega⟩
  let en0 : En := [some (.r 0), none, none, none, none, none, none, none, none, none, none, none, none]
  have it : iRange1 (eFn [(false, eVar 0), (false, eC (.int 7))] (opCall (fns (d + 5)) 9 false)) (wipeE en0 [10]) (p :: rest) = _ := it_range (k := s) (bx' := p1 :: rest) (wR_eq (by
    show wE _ _ [some (.r 0), none, none, none, none, none, none, none, none, none, none, none, none] _ _
    rw [wE_fn2, wE_v0, wE_C, e1, wR_ok]
    exact ⟨rfl, rfl⟩)) (by omega)
  obtain ⟨ws, b', e2, l2, q2, j2⟩ := eLc_inv (own := [10]) (i := 10) (en := en0) (bx := p :: rest) (b0 := p1 :: rest)
    (elt := eFn [(false, eVar 0)] (opCall (fns (d + 5)) 15 false))
    (fun j b => ∃ q, b = q :: rest ∧ Pen ns (n + 49 - 6 * j) q) WayW it (by simp [wipeE, en0]) (by simp; unfold SL; omega) ⟨p1, rfl, hp1⟩ (fun j x b hj ⟨q, hb, hq⟩ => by
      subst hb
      have hjs : j < s := by
        have := (List.getElem?_eq_some_iff.mp hj).1
        simpa using this
      obtain ⟨w, p', e, hw, hp'⟩ := law_way (d := d + 2) ns (n + 49 - 6 * (j + 1)) q rest (hq.mono (by omega))
      refine ⟨w, p' :: rest, ?_, hw, p', rfl, hp'⟩
      refine wR_eq ?_
      show wE _ _ [some (.r 0), none, none, none, none, none, none, none, none, none, some (.v x), none, none] (q :: rest) _
      rw [wE_fn1, wE_v0, e, wR_ok]
      exact ⟨rfl, rfl⟩)
  obtain ⟨p2, rfl, hp2⟩ := j2
  simp at l2
  have hp2 : Pen ns (n + 13) p2 := hp2.mono (by simp; omega)
  have gw : ∀ w ∈ ws, w.gd = true := fun w m => (q2 w m).ok.2.gd
  obtain ⟨w3, p3, e3, ⟨us, rfl, lu, mu⟩, hp3⟩ := law_some (d := d + 2) (ws := ws) (by omega) gw ns (n + 9) p2 rest hp2
  have hlot : ∀ w ∈ ws ++ us, WayW w := fun w m => (List.mem_append.mp m).elim (q2 w) fun m => q2 w (mu w m)
  have llot : (ws ++ us).length ≤ 9 := by rw [List.length_append]; omega
  have ad : ∀ bx, opBin .add false [.v (.lst ws), .v (.lst us)] bx = .ok (.v (.lst (ws ++ us))) bx := fun bx => opl_addL (by unfold SL; omega)
  generalize ws ++ us = lot at hlot llot ad
  have hw : WaysP lot := ⟨fun x m => (hlot x m).ok.1, fun x m => (hlot x m).ok.2.good⟩
  have sl : ∀ {l : List W}, (∀ x ∈ l, x ∈ lot) → ∀ {y}, y ∈ l → y.gd = true ∧ y.bk ≤ 400 ∧ y.dq ≤ 8 := fun h y m => by
    have := (hlot y (h y m)).ok.2
    exact ⟨this.gd, by have := this.bk; omega, this.dq⟩
  have glot : Good (.lst lot) := (sm_lst (N := 9) (D := 8) (B := 400) (fun y m => sl (fun _ h => h) m) llot).good
  have memO : ∀ x ∈ orderW lot, x ∈ lot := fun x m => by
    have := (List.mergeSort_perm _ _ : (orderW lot).Perm _).mem_iff.mp m
    simpa using firsts_mem.mp this
  have lo : (orderW lot).length ≤ lot.length := by
    have h1 := firsts_len lot []
    have h2 : (orderW lot).length = (firsts [] lot).length := (List.mergeSort_perm _ _).length_eq
    simp only [List.length_nil] at h1
    omega
  have gord : Good (.lst (orderW lot)) := (sm_lst (N := 9) (D := 8) (B := 400) (fun y m => sl memO m) (by omega)).good
  obtain ⟨r1, r2, _⟩ := repr_good glot
  have ss : ∀ bx, opSSet false [.v (.lst lot)] bx = .ok (.v (.lst (sortW (firsts [] lot)))) bx := fun bx => sset_run hw (by omega)
  have goal : ∀ Q : Dz, (∀ (en : En) q junk, Pen ns n q → Q.rt (.v (.bl true)) (q :: (rest ++ junk))) →
      wC (cSeq [cPar 2 3 (eFn [(false, eVar 1)] (opSSet false)) (eFn [(false, eVar 1)] opRepr),
    cAsg (.nm 2) (eLc false [11] [⟨.nm 11, iPlain (eFn [(false, eLc false [12] [⟨.nm 12, iPlain (eVar 2), []⟩] (eTup [(false, eFn [(false, eVar 12)] opLen), (false, eVar 12)]))] (opSorted false)), []⟩] (eOp [eVar 11, eC (.int 1)] opIdx)),
    cFor (.nm 4) (iRange1 (eC (.int 2))) (foundB (fns (d + 5))),
    cAsg (.nm 6) (eFn [(false, eVar 0), (false, eFn [(false, eVar 0)] (opCall (fns (d + 5)) 15 false))] (opCall (fns (d + 5)) 16 false)),
    cAsg (.nm 7) (eLst false [(false, eC .non), (false, eFn [(false, eVar 1)] opTuple), (false, eDct false []), (false, eC (.str "up")), (false, eC (.int 0)), (false, eOp [eVar 1, eLst false [(false, eVar 6)]] (opBin .add false)), (false, eOp [eLst false [(false, eVar 6)], eVar 1] (opBin .add false)), (false, eLst false [(false, eC .non)]), (false, eOp [eOp [eCut false (eVar 1) none (some (eC (.int 1))), eLst false [(false, eVar 6)]] (opBin .add false), eVar 1] (opBin .add false))]),
    cFor (.nm 8) (iPlain (eOp [eVar 7, eLst false [(false, eLst false [(false, eTup [(false, eC (.str "up"))]), (false, eVar 6), (false, eTup [(false, eC (.str "up"))])])]] (opBin .add false))) (thingB (fns (d + 5))),
    cRet (eC (.bl true))]) [some (.r 0), some (.v (.lst lot)), none, none, none, none, none, none, none, none, none, none, none] (p3 :: rest) Q := by
    intro Q hQ
    rw [wC_seq, wC_par (by simp), wE_fn1, wE_v1, ss, wR_ok, wE_fn1, wE_v1, r1, wR_ok]
    show wC (cSeq (_ :: _ :: _)) [some (.r 0), some (.v (.lst lot)), some (.v (.lst (sortW (firsts [] lot)))), some (.v (.str (reprS (.lst lot)))), none, none, none, none, none, none, none, none, none] (p3 :: rest) Q
    rw [wC_seq, wC_a2, wE_of (due_run (i := 0) (j := 0) hw (by omega) rfl rfl)]
    show wC (cSeq (_ :: _ :: _)) [some (.r 0), some (.v (.lst lot)), some (.v (.lst (orderW lot))), some (.v (.str (reprS (.lst lot)))), none, none, none, none, none, none, none, none, none] (p3 :: rest) Q
    rw [wC_seq, wC_for (it_range (k := 2) (bx' := p3 :: rest) rfl (by decide))]
    refine forGo_inv (fun _ en bx => ∃ x4 x5 junk, bx = p3 :: (rest ++ junk) ∧ en = [some (.r 0), some (.v (.lst lot)), some (.v (.lst (orderW lot))), some (.v (.str (reprS (.lst lot)))), x4, x5, none, none, none, none, none, none, none]) (fun _ _ _ _ => rfl) _ 0 _ _ ⟨none, none, [], by simp, rfl⟩ ?_ ?_
    · rintro j x en bx hx ⟨x4, x5, junk, rfl, rfl⟩
      have hx := List.mem_of_getElem? hx
      obtain ⟨v, rfl⟩ : ∃ v, x = .one (.v v) := by
        simp only [List.mem_map] at hx
        obtain ⟨y, _, rfl⟩ := hx
        exact ⟨y, rfl⟩
      refine ⟨[some (.r 0), some (.v (.lst lot)), some (.v (.lst (orderW lot))), some (.v (.str (reprS (.lst lot)))), some (.v v), x5, none, none, none, none, none, none, none], rfl, ?_⟩
      exact found_ok (d := d + 1) hw glot (by omega) gord fun x5 box => ⟨_, _, _, rfl, rfl⟩
    · rintro en bx ⟨x4, x5, junk, rfl, rfl⟩
      obtain ⟨w4, p4, e4, hw4, hp4⟩ := law_way (d := d + 2) ns (n + 3) p3 (rest ++ junk) hp3
      obtain ⟨l, rfl, pl, l4⟩ := hw4.pp
      obtain ⟨w, q, e5, sw, hq⟩ := law_bent (d := d + 1) pl l4 ns n p4 (rest ++ junk) hp4
      show wC (cSeq (_ :: _ :: _)) _ _ Q
      rw [wC_seq, wC_a6, wE_fn2, wE_v0, wE_fn1, wE_v0, e4, wR_ok, e5, wR_ok]
      -- the things
      have smem : ∀ (l : List W), (∀ y ∈ l, y ∈ lot ∨ y = w ∨ y = .tup [.str "up"] ∨ y = .non) → l.length ≤ 12 → Good (.lst l) := fun l h hl => (sm_lst (N := 12) (D := 8) (B := 400) (fun y m => by
        rcases h y m with h | h | h | h
        · exact sl (fun _ h => h) h
        · subst h; exact ⟨sw.gd, sw.bk, sw.dq⟩
        · subst h; exact upT
        · subst h; exact upS _ (by simp)) hl).good
      let ts : List W := [.non, .tup lot, .dct [] [], .str "up", .int 0, .lst (lot ++ [w]), .lst ([w] ++ lot), .lst [.non], .lst (lot.take 1 ++ [w] ++ lot)]
      have hts : ∀ t ∈ ts ++ [.lst [.tup [.str "up"], w, .tup [.str "up"]]], Good t := by
        intro t m
        simp only [ts, List.cons_append, List.nil_append, List.mem_cons, List.not_mem_nil, or_false] at m
        rcases m with e | e | e | e | e | e | e | e | e | e
        · subst e; have := upS .non (by simp); exact ⟨this.1, by omega, by omega⟩
        · subst e; exact (sm_tup (N := 9) (D := 8) (B := 400) (fun y m => sl (fun _ h => h) m) llot).good
        · subst e; have := upS (.dct [] []) (by simp); exact ⟨this.1, by omega, by omega⟩
        · subst e; have := upS (.str "up") (by simp); exact ⟨this.1, by omega, by omega⟩
        · subst e; have := upS (.int 0) (by simp); exact ⟨this.1, by omega, by omega⟩
        · subst e
          refine smem _ (fun y m => ?_) (by simp; omega)
          rcases List.mem_append.mp m with m | m
          · exact .inl m
          · exact .inr (.inl (by simpa using m))
        · subst e
          refine smem _ (fun y m => ?_) (by simp; omega)
          rcases List.mem_append.mp (show y ∈ [w] ++ lot from m) with m | m
          · exact .inr (.inl (by simpa using m))
          · exact .inl m
        · subst e
          exact smem _ (fun y m => .inr (.inr (.inr (by simpa using m)))) (by simp)
        · subst e
          refine smem _ (fun y m => ?_) (by simp; omega)
          rcases List.mem_append.mp m with m | m
          · rcases List.mem_append.mp m with m | m
            · exact .inl (List.mem_of_mem_take m)
            · exact .inr (.inl (by simpa using m))
          · exact .inl m
        · subst e
          refine smem _ (fun y m => ?_) (by simp)
          simp only [List.mem_cons, List.not_mem_nil, or_false] at m
          rcases m with m | m | m
          · exact .inr (.inr (.inl m))
          · exact .inr (.inl m)
          · exact .inr (.inr (.inl m))
      have tt : ∀ bx, opTuple [.v (.lst lot)] bx = .ok (.v (.tup lot)) bx := fun bx => tuple_lst (by unfold SL; omega)
      have d0 : ∀ X en bx Q, wE X (eDct false []) en bx Q ↔ Q (.v (.dct [] [])) bx := fun X en bx Q => by
        refine wE_of ?_
        simp [eDct, eAll, pairO, dMergeK, dMergeV, mkD, SL, vals, mapO]
      have t1 : ∀ (x : W) bx, mkL false [.v x] bx = .ok (.v (.lst [x])) bx := fun x bx => mkLs (ws := [x]) (by simp)
      have tu : ∀ (x : W) bx, mkT [.v x] bx = .ok (.v (.tup [x])) bx := fun x bx => mkTs (ws := [x]) (by simp)
      have t3 : ∀ (x y z : W) bx, mkL false [.v x, .v y, .v z] bx = .ok (.v (.lst [x, y, z])) bx := fun x y z bx => mkLs (ws := [x, y, z]) (by simp)
      have a1 : ∀ bx, opBin .add false [.v (.lst lot), .v (.lst [w])] bx = .ok (.v (.lst (lot ++ [w]))) bx := fun bx => opl_addL (by unfold SL; simp; omega)
      have a2 : ∀ bx, opBin .add false [.v (.lst [w]), .v (.lst lot)] bx = .ok (.v (.lst ([w] ++ lot))) bx := fun bx => opl_addL (by unfold SL; simp; omega)
      have a3 : ∀ bx, opBin .add false [.v (.lst (lot.take 1)), .v (.lst [w])] bx = .ok (.v (.lst (lot.take 1 ++ [w]))) bx := fun bx => opl_addL (by unfold SL; simp; omega)
      have a4 : ∀ bx, opBin .add false [.v (.lst (lot.take 1 ++ [w])), .v (.lst lot)] bx = .ok (.v (.lst (lot.take 1 ++ [w] ++ lot))) bx := fun bx => opl_addL (by unfold SL; simp; omega)
      have c1 : ∀ bx, cutR false (.v (.lst lot)) none (some 1) bx = .ok (.v (.lst (lot.take 1))) bx := fun bx => cut_lt (n := 1) (by unfold SL; omega)
      have m9 : ∀ bx, mkL false [.v .non, .v (.tup lot), .v (.dct [] []), .v (.str "up"), .v (.int 0), .v (.lst (lot ++ [w])), .v (.lst ([w] ++ lot)), .v (.lst [.non]), .v (.lst (lot.take 1 ++ [w] ++ lot))] bx = .ok (.v (.lst ts)) bx := fun bx => mkLs (ws := ts) (by simp [ts])
      have ats : ∀ bx, opBin .add false [.v (.lst ts), .v (.lst [.lst [.tup [.str "up"], w, .tup [.str "up"]]])] bx = .ok (.v (.lst (ts ++ [.lst [.tup [.str "up"], w, .tup [.str "up"]]]))) bx := fun bx => opl_addL (by unfold SL; simp [ts])
      clear_value ts
      show wC (cSeq (_ :: _ :: _)) [some (.r 0), some (.v (.lst lot)), some (.v (.lst (orderW lot))), some (.v (.str (reprS (.lst lot)))), x4, x5, some (.v w), none, none, none, none, none, none] (q :: (rest ++ junk)) Q
      rw [wC_seq, wC_a7]
      simp only [wE_lst, wE_args, wE_argsN, wE_C, wE_fn1, wE_v1, tt, wR_ok, d0, wE_op2, wE_v6, t1, a1, a2, wE_cutR, wI_int, c1, a3, a4, m9]
      have it2 : (eOp [eVar 7, eLst false [(false, eLst false [(false, eTup [(false, eC (.str "up"))]), (false, eVar 6), (false, eTup [(false, eC (.str "up"))])])]] (opBin .add false)) [some (.r 0), some (.v (.lst lot)), some (.v (.lst (orderW lot))), some (.v (.str (reprS (.lst lot)))), x4, x5, some (.v w), some (.v (.lst ts)), none, none, none, none, none] (q :: (rest ++ junk)) = .ok (.v (.lst (ts ++ [.lst [.tup [.str "up"], w, .tup [.str "up"]]]))) (q :: (rest ++ junk)) := by
        refine wR_eq ?_
        show wE _ _ _ _ _
        simp only [wE_op2, wE_v7, wE_lst, wE_args, wE_argsN, wE_tup, wE_C, tu, wR_ok, wE_v6, t3, t1, ats]
        exact ⟨trivial, trivial⟩
      rw [wC_seq, wC_for (it_of it2 (.inl rfl))]
      refine forGo_inv (fun _ en bx => bx = q :: (rest ++ junk) ∧ ∃ x3 x8 x9, en = [some (.r 0), some (.v (.lst lot)), some (.v (.lst (orderW lot))), x3, x4, x5, some (.v w), some (.v (.lst ts)), x8, x9, none, none, none]) (fun _ _ _ _ => rfl) _ 0 _ _ ⟨rfl, _, _, _, rfl⟩ ?_ ?_
      · rintro j x en bx hx ⟨rfl, x3, x8, x9, rfl⟩
        have hx := List.mem_of_getElem? hx
        obtain ⟨t, mt, rfl⟩ := List.mem_map.mp hx
        refine ⟨[some (.r 0), some (.v (.lst lot)), some (.v (.lst (orderW lot))), x3, x4, x5, some (.v w), some (.v (.lst ts)), some (.v t), x9, none, none, none], rfl, ?_⟩
        exact thing_ok (d := d) (hts t mt) fun x3 x9 => ⟨rfl, _, _, _, rfl⟩
      · rintro en bx ⟨rfl, _⟩
        show wC (cRet (eC (.bl true))) _ _ Q
        rw [wC_ret, wE_C]
        exact hQ en q junk hq
  have key : wR nX (fun r bx => r = .v (.bl true) ∧ ∃ q junk, bx = q :: (rest ++ junk) ∧ Pen ns n q) (fns (d + 6) 18 [.r 0] (p :: rest)) := by
    refine wC_run rfl ?_
    show wC (b18 (fns (d + 5))) [some (.r 0), none, none, none, none, none, none, none, none, none, none, none, none] (p :: rest) _
    have eb : b18 (fns (d + 5)) = cSeq (cAsg (.nm 1) (eLc false [10] [⟨.nm 10, iRange1 (eFn [(false, eVar 0), (false, eC (.int 7))] (opCall (fns (d + 5)) 9 false)), []⟩] (eFn [(false, eVar 0)] (opCall (fns (d + 5)) 15 false))) ::
      cAsg (.nm 1) (eOp [eVar 1, eFn [(false, eVar 0), (false, eVar 1), (false, eC (.int 3))] (opCall (fns (d + 5)) 10 false)] (opBin .add false)) :: _) := rfl
    rw [eb, wC_seq, wC_a1, wE_of e2]
    show wC (cSeq (_ :: _ :: _)) [some (.r 0), some (.v (.lst ws)), none, none, none, none, none, none, none, none, none, none, none] (p2 :: rest) _
    rw [wC_seq, wC_a1, wE_op2, wE_v1, wE_fn3, wE_v0, wE_v1, wE_C, e3, wR_ok, ad, wR_ok]
    exact goal _ fun en q junk h => ⟨rfl, q, junk, rfl, h⟩
  obtain ⟨r, b', e, rfl, q, junk, rfl, hq⟩ := wR_get key
  refine ⟨_, q, ?_, rfl, hq⟩
  show settle _ (fns (d + 6) 18 _ _) = _
  rw [e]
  exact settle_pj fun m => hq.lt m
end
end AM.K01
/-! text K01x -/
set_option Elab.async false
set_option linter.all false
set_option maxRecDepth 100000
set_option maxHeartbeats 4000000
namespace AM.K01
open PySem AM
section
variable {bx : Bx} {F : Fn} {d : Nat} {ns : List Int} {n : Nat} {p : Box} {rest : Bx} {en : En} {m : E}
def nameQ (s : Str) (b : Bool) : Bool := (W.str s).gd && decide (s.cps.size ≤ 100) && (nameB (.str s) == b)
theorem nameQ_ok {s : Str} {b : Bool} (h : nameQ s b = true) : Good (.str s) ∧ nameB (.str s) = b := by
  simp only [nameQ, Bool.and_eq_true, decide_eq_true_eq, beq_iff_eq] at h
  exact ⟨⟨h.1.1, by simp only [W.bk]; omega, by simp [W.dq]⟩, h.2⟩
def one (c : Nat) : Str := ⟨#[c]⟩
def signs : List Nat := (Str.ofString " !#$&'()*+,-./0123456789:;<=>?@ABCDEFGHIJKLMNOPQRSTUVWXYZ[]^_{|}~\t\n" ++ Str.ofString "\"").cps.toList
theorem l_all : letters.all (fun c => nameQ (one c) true && nameQ ("x" ++ one c ++ "x") true) = true := by decide +kernel
theorem s_all : signs.all (fun c => nameQ (one c) false && nameQ ("a" ++ one c) false && nameQ (one c ++ "a") false) = true := by decide +kernel
theorem w_all : (["step", "none", "things", "job", "quick", "open"] : List Str).all (fun c => nameQ c true) = true := by decide +kernel
theorem rT : reprS (.lst [.bl true, .bl true, .bl true]) = "[True, True, True]" := by decide +kernel
theorem rF : reprS (.lst [.bl false, .bl false, .bl false]) = "[False, False, False]" := by decide +kernel
theorem goodB {bs : List Bool} (h : bs.length ≤ 100) : Good (.lst (bs.map .bl)) := (sm_lst (N := 100) (B := 0) (D := 0) (fun y m => by
  obtain ⟨b, _, rfl⟩ := List.mem_map.mp m
  exact ⟨rfl, by simp [W.bk], by simp [W.dq]⟩) (by simpa using h)).good
theorem addS {a b : Str} (h : a.length + b.length ≤ 1000) : opBin .add false [.v (.str a), .v (.str b)] bx = .ok (.v (.str (a ++ b))) bx := by
  show (if a.length + b.length ≤ SL then Res.ok (.v (.str (a ++ b))) bx else .stuck) = _
  rw [if_pos (by unfold SL; omega)]
theorem lenA (a b : Str) : (a ++ b : Str).length = a.length + b.length := by
  show (a.cps ++ b.cps).size = _
  rw [Array.size_append]; rfl
theorem len1 (c : Nat) : (one c).length = 1 := rfl
theorem lenx : (Str.ofString "x").length = 1 ∧ (Str.ofString "a").length = 1 ∧ (Str.ofString "\"").length = 1 ∧ (Str.ofString " !#$&'()*+,-./0123456789:;<=>?@ABCDEFGHIJKLMNOPQRSTUVWXYZ[]^_{|}~\t\n").length = 67 := by decide +kernel
theorem pathOne {s : Str} {b : Bool} (h : nameB (.str s) = b) : pathB (.tup [.str s]) = b := by
  simp [pathB, h]
theorem letters_ok : fns (d + 4) 19 [] bx = .ok (.v (.bl true)) bx := by
  refine wR_eq (wC_run rfl ?_)
  show wC (b19 (fns (d + 3))) [none, none, none, none] bx _
  unfold b19
  have eL : (Str.ofString "abcdefghijklmnopqrstuvwxyz").cps.toList = letters := by decide +kernel
  have it1 : iPlain (eC (.str "abcdefghijklmnopqrstuvwxyz")) [none, none, none, none] bx = .ok ((letters.map fun c => W.str (one c)).map fun x => .one (.v x)) none bx := by
    unfold iPlain iBind
    show Ires.ok ((Str.ofString "abcdefghijklmnopqrstuvwxyz").cps.toList.map fun c => It.one (.v (.str ⟨#[c]⟩))) none bx = _
    rw [eL, List.map_map]; rfl
  have m3 : ∀ x y z bx, mkL false [.v x, .v y, .v z] bx = .ok (.v (.lst [x, y, z])) bx := fun x y z bx => mkLs (ws := [x, y, z]) (by simp)
  have t1 : ∀ (x : W) bx, mkT [.v x] bx = .ok (.v (.tup [x])) bx := fun x bx => mkTs (ws := [x]) (by simp)
  obtain ⟨rt1, rt2, _⟩ := repr_good (goodB (bs := [true, true, true]) (by simp))
  obtain ⟨rf1, rf2, _⟩ := repr_good (goodB (bs := [false, false, false]) (by simp))
  simp only [List.map_cons, List.map_nil] at rt1 rt2 rf1 rf2
  rw [rT] at rt2; rw [rF] at rf2
  simp only [rT] at rt1
  simp only [rF] at rf1
  rw [wC_seq, wC_for it1]
  refine forGo_inv (fun _ en b => b = bx ∧ ∃ x0, en = [x0, none, none, none]) (fun _ _ _ _ => rfl) _ 0 _ _ ⟨rfl, _, rfl⟩ ?_ ?_
  · rintro j x en b hx ⟨rfl, x0, rfl⟩
    have hx := List.mem_of_getElem? hx
    simp only [List.map_map, List.mem_map, Function.comp] at hx
    obtain ⟨c, mc, rfl⟩ := hx
    refine ⟨[some (.v (.str (one c))), none, none, none], rfl, ?_⟩
    have hc := List.all_eq_true.mp l_all c mc
    rw [Bool.and_eq_true] at hc
    obtain ⟨g1, h1⟩ := nameQ_ok hc.1
    obtain ⟨g2, h2⟩ := nameQ_ok hc.2
    have g3 : Good (.tup [.str (one c)]) := (sm_tup (N := 1) (B := 100) (D := 0) (fun y m => by
      rw [List.mem_singleton] at m
      subst m
      exact ⟨g1.gd, by simp [W.bk, one], by simp [W.dq]⟩) (by simp)).good
    have a1 : ∀ bx, opBin .add false [.v (.str "x"), .v (.str (one c))] bx = .ok (.v (.str ("x" ++ one c))) bx := fun bx => addS (by rw [lenx.1, len1]; decide)
    have a2 : ∀ bx, opBin .add false [.v (.str ("x" ++ one c)), .v (.str "x")] bx = .ok (.v (.str ("x" ++ one c ++ "x"))) bx := fun bx => addS (by rw [lenA, lenx.1, len1]; decide)
    have nt : ∀ bx, opCmp .ne [.v (.str "[True, True, True]"), .v (.str "[True, True, True]")] bx = .ok (.v (.bl false)) bx := fun bx => ne_self rt2
    simp only [wC_seq1, wC_ifB, wE_op2, wE_fn1, wE_lst, wE_args, wE_argsN, wE_v0, call_v (is_name (d := d + 2) g1), wR_ok, wE_C, a1, a2, call_v (is_name (d := d + 2) g2), wE_tup, t1, call_v (is_path (d := d + 1) g3), h1, h2, pathOne h1, m3, rt1, nt, wB_bl, wC_pass]
    simp
  · rintro en b ⟨rfl, x0, rfl⟩
    show wC (cSeq (_ :: _ :: _)) [x0, none, none, none] b _
    rw [wC_seq, wC_a1, wE_C]
    show wC (cSeq (_ :: _ :: _)) [x0, some (.v (.str " !#$&'()*+,-./0123456789:;<=>?@ABCDEFGHIJKLMNOPQRSTUVWXYZ[]^_{|}~\t\n")), none, none] b _
    have it2 : iPlain (eOp [eVar 1, eC (.str "\"")] (opBin .add false)) [x0, some (.v (.str " !#$&'()*+,-./0123456789:;<=>?@ABCDEFGHIJKLMNOPQRSTUVWXYZ[]^_{|}~\t\n")), none, none] b = .ok ((signs.map fun c => W.str (one c)).map fun x => .one (.v x)) none b := by
      unfold iPlain iBind
      have e : eOp [eVar 1, eC (.str "\"")] (opBin .add false) [x0, some (.v (.str " !#$&'()*+,-./0123456789:;<=>?@ABCDEFGHIJKLMNOPQRSTUVWXYZ[]^_{|}~\t\n")), none, none] b = .ok (.v (.str (Str.ofString " !#$&'()*+,-./0123456789:;<=>?@ABCDEFGHIJKLMNOPQRSTUVWXYZ[]^_{|}~\t\n" ++ Str.ofString "\""))) b := by
        refine wR_eq ?_
        show wE _ _ _ _ _
        rw [wE_op2, wE_v1, wE_C, addS (by rw [lenx.2.2.1, lenx.2.2.2]; decide), wR_ok]
        exact ⟨rfl, rfl⟩
      rw [e, List.map_map]; rfl
    rw [wC_seq, wC_for it2]
    refine forGo_inv (fun _ en b' => b' = b ∧ ∃ x0 x1, en = [x0, x1, none, none]) (fun _ _ _ _ => rfl) _ 0 _ _ ⟨rfl, _, _, rfl⟩ ?_ ?_
    · rintro j x en b hx ⟨rfl, x0, x1, rfl⟩
      have hx := List.mem_of_getElem? hx
      simp only [List.map_map, List.mem_map, Function.comp] at hx
      obtain ⟨c, mc, rfl⟩ := hx
      refine ⟨[some (.v (.str (one c))), x1, none, none], rfl, ?_⟩
      have hc := List.all_eq_true.mp s_all c mc
      rw [Bool.and_eq_true, Bool.and_eq_true] at hc
      obtain ⟨g1, h1⟩ := nameQ_ok hc.1.1
      obtain ⟨g2, h2⟩ := nameQ_ok hc.1.2
      obtain ⟨g3, h3⟩ := nameQ_ok hc.2
      have a1 : ∀ bx, opBin .add false [.v (.str "a"), .v (.str (one c))] bx = .ok (.v (.str ("a" ++ one c))) bx := fun bx => addS (by rw [lenx.2.1, len1]; decide)
      have a2 : ∀ bx, opBin .add false [.v (.str (one c)), .v (.str "a")] bx = .ok (.v (.str (one c ++ "a"))) bx := fun bx => addS (by rw [lenx.2.1, len1]; decide)
      have nt : ∀ bx, opCmp .ne [.v (.str "[False, False, False]"), .v (.str "[False, False, False]")] bx = .ok (.v (.bl false)) bx := fun bx => ne_self rf2
      simp only [wC_seq1, wC_ifB, wE_op2, wE_fn1, wE_lst, wE_args, wE_argsN, wE_v0, call_v (is_name (d := d + 2) g1), wR_ok, wE_C, a1, a2, call_v (is_name (d := d + 2) g2), call_v (is_name (d := d + 2) g3), h1, h2, h3, m3, rf1, nt, wB_bl, wC_pass]
      simp
    · rintro en b ⟨rfl, x0, x1, rfl⟩
      show wC (cSeq (_ :: _ :: _)) [x0, x1, none, none] b _
      have m6 : ∀ bx, mkL false [.v (.str "step"), .v (.str "none"), .v (.str "things"), .v (.str "job"), .v (.str "quick"), .v (.str "open")] bx = .ok (.v (.lst ((["step", "none", "things", "job", "quick", "open"] : List Str).map .str))) bx := fun bx => mkLs (ws := (["step", "none", "things", "job", "quick", "open"] : List Str).map .str) (by simp)
      rw [wC_seq, wC_a2]
      simp only [wE_lst, wE_args, wE_argsN, wE_C, m6, wR_ok]
      show wC (cSeq [_]) [x0, x1, some (.v (.lst ((["step", "none", "things", "job", "quick", "open"] : List Str).map .str))), none] b _
      have lc : eLc false [3] [⟨.nm 3, iPlain (eVar 2), []⟩] (eFn [(false, eVar 3)] (opCall (fns (d + 3)) 0 false)) [x0, x1, some (.v (.lst ((["step", "none", "things", "job", "quick", "open"] : List Str).map .str))), none] b = .ok (.v (.lst (((["step", "none", "things", "job", "quick", "open"] : List Str).map W.str).map fun _ => .bl true))) b := by
        refine eLc_one (it_of (eVar_of (i := 2) rfl) (.inl rfl)) (by simp [wipeE]) (by decide) fun x m => ?_
        obtain ⟨s, ms, rfl⟩ := List.mem_map.mp m
        obtain ⟨g1, h1⟩ := nameQ_ok (List.all_eq_true.mp w_all s ms)
        refine wR_eq ?_
        show wE _ _ [x0, x1, some (.v (.lst _)), some (.v (.str s))] b _
        rw [wE_fn1, wE_v3, call_v (is_name (d := d + 2) g1), wR_ok, h1]
        exact ⟨rfl, rfl⟩
      have e6 : (((["step", "none", "things", "job", "quick", "open"] : List Str).map W.str).map fun _ => W.bl true) = [true, true, true, true, true, true].map .bl := rfl
      rw [e6] at lc
      obtain ⟨r1, r2, _⟩ := repr_good (goodB (bs := [true, true, true, true, true, true]) (by simp))
      have mul : ∀ bx, opBin .mul false [.v (.lst [.bl true]), .v (.int 6)] bx = .ok (.v (.lst ([true, true, true, true, true, true].map .bl))) bx := fun bx => mkLs (ws := [true, true, true, true, true, true].map .bl) (by simp)
      have m1 : ∀ bx, mkL false [.v (.bl true)] bx = .ok (.v (.lst [.bl true])) bx := fun bx => mkLs (ws := [.bl true]) (by simp)
      generalize [true, true, true, true, true, true].map W.bl = bl at lc r1 r2 mul
      rw [wC_seq1, wC_ret, wE_op2, wE_fn1, wE_of lc, r1, wR_ok]
      simp only [wE_fn1, wE_op2, wE_lst, wE_args, wE_argsN, wE_C, m1, wR_ok, mul, r1]
      rw [eq_self r2, wR_ok]
      exact ⟨rfl, rfl⟩
theorem plain (ns : List Int) (hl : ns.length ≤ 63) : ∃ bx, fns 15 20 [scrR ns] [] = .ok (.v (.bl true)) bx := by
  have key : wR nX (fun r _ => r = .v (.bl true)) (fns 15 20 [scrR ns] []) := by
    refine wC_run rfl ?_
    show wC (b20 (fns 14)) [some (scrR ns), none, none, none] [] _
    have p0 : opCall (fns 14) 7 true [scrR ns] [] = .ok (.r 0) [penB ((ns.take 60).map W.int) 0 0] := pen_made ns hl
    have lt : ∀ bx, opCall (fns 14) 19 false [] bx = .ok (.v (.bl true)) bx := fun bx => call_v (letters_ok (d := 10))
    unfold b20
    simp only [wC_seq, wC_a1, wE_fn1, wE_v0, p0, wR_ok]
    rw [wC_ifB, wE_not]
    simp only [wE_fn0, lt, wR_ok, wB_bl, wC_pass, wC_seq1]
    refine ⟨fun h => by simp at h, fun _ => ?_⟩
    rw [wC_for (it_range (k := 8) (bx' := [penB ((ns.take 60).map W.int) 0 0]) rfl (by decide))]
    refine forGo_inv (fun j en bx => ∃ q x2 x3, bx = [q] ∧ Pen (ns.take 60) (1000 - 100 * j) q ∧ en = [some (scrR ns), some (.r 0), x2, x3]) (fun _ _ _ _ => rfl) _ 0 _ _ ⟨_, _, _, rfl, ⟨0, 0, by omega, by omega, by omega, rfl⟩, rfl⟩ ?_ ?_
    · rintro j x en bx hx ⟨q, x2, x3, rfl, hq, rfl⟩
      have hj : j < 8 := by
        have := (List.getElem?_eq_some_iff.mp hx).1
        simpa using this
      have hx := List.mem_of_getElem? hx
      obtain ⟨v, rfl⟩ : ∃ v, x = .one (.v v) := by
        simp only [List.mem_map] at hx
        obtain ⟨y, _, rfl⟩ := hx
        exact ⟨y, rfl⟩
      refine ⟨[some (scrR ns), some (.r 0), some (.v v), x3], rfl, ?_⟩
      obtain ⟨w, q1, e1, sw, hq1⟩ := law_odd (d := 11) (ns.take 60) (1000 - 100 * (j + 1) + 67) q [] (hq.mono (by omega))
      obtain ⟨w2, q2, e2, rfl, hq2⟩ := law_rests (d := 8) (ns.take 60) (1000 - 100 * (j + 1) + 50) q1 [] hq1
      obtain ⟨w3, q3, e3, rfl, hq3⟩ := law_orders (d := 8) (ns.take 60) (1000 - 100 * (j + 1)) q2 [] hq2
      simp only [Small, gdB, Bool.and_eq_true, decide_eq_true_eq] at sw
      have g1 : Good w := ⟨sw.1.1, by omega, by omega⟩
      have g2 : Good (.tup [w]) := (sm_tup (N := 1) (B := 20) (D := 3) (fun y m => by
        rw [List.mem_singleton] at m
        subst m
        exact ⟨sw.1.1, sw.1.2, sw.2⟩) (by simp)).good
      have t1 : ∀ (x : W) bx, mkT [.v x] bx = .ok (.v (.tup [x])) bx := fun x bx => mkTs (ws := [x]) (by simp)
      have rb : ∀ c : Bool, (∀ bx, opRepr [.v (.bl c)] bx = .ok (.v (.str (reprS (.bl c)))) bx) ∧ okc (reprS (.bl c)) = true := fun c => by
        obtain ⟨h1, h2, _⟩ := repr_good (x := .bl c) ⟨rfl, by simp [W.bk], by simp [W.dq]⟩
        exact ⟨h1, h2⟩
      have ne : ∀ c bx, opCmp .ne [.v (.str (reprS (.bl c))), .v (.str (reprS (.bl c)))] bx = .ok (.v (.bl false)) bx := fun c bx => ne_self (rb c).2
      have pw : pathB (.tup [w]) = nameB w := by simp [pathB]
      simp only [wC_seq, wC_seq1, wC_a3, wE_fn1, wE_v1, e1, wR_ok, wC_ifB, wE_orB, wE_or1, wE_op2, wE_v3, call_v (is_name (d := 13) g1), (rb _).1, call_v (law_is_word (d := 13) g1), ne, wB_bl, wE_tup, wE_args, wE_argsN, t1, call_v (is_path (d := 12) g2), pw, wE_not, e2, e3, wC_pass]
      simp
      exact hq3
    · rintro en b ⟨q, x2, x3, rfl, _, rfl⟩
      show wC (cRet (eC (.bl true))) _ _ _
      rw [wC_ret, wE_C]
  obtain ⟨r, b, e, rfl⟩ := wR_get key
  exact ⟨b, e⟩
end
end AM.K01
/-! text K01z -/
set_option Elab.async false
set_option linter.all false
set_option maxRecDepth 100000
set_option maxHeartbeats 0
open PySem PySem.W PySem.Calls PyProof.Rows
theorem PySem.Challenge.cw_rootpaths_k01_names_and_paths_holds : PySem.Challenge.rw_rootpaths_k01_names_and_paths.Holds := by
  w_on; o_law
  refine HandSHeadRun.head_any (r := OpenLaw.row PySem.Challenge.rw_rootpaths_k01_names_and_paths) (q := view (OpenLaw.row PySem.Challenge.rw_rootpaths_k01_names_and_paths).prog AM.K01.tops) (H := AM.K01.hk) (ob := AM.K01.ob) (M := 30000) (loose := AM.K01.loose) (d := HandSHeadRun.topDef (OpenLaw.row PySem.Challenge.rw_rootpaths_k01_names_and_paths).prog 28) (kwd := []) AM.K01.ob_eq
    (by kernel_rfl) (fun s => by kernel_rfl) AM.K01.run (by kernel_rfl) (by kernel_rfl) (by kernel_rfl) (by rfl) (by first | assumption | decide +kernel) (by decide +kernel) ⟨rfl, rfl, rfl, rfl, rfl, by decide +kernel⟩ ?hw ?hc
  case hw => w_witness2
  case hc =>
    refine AM.walk_M (l := PySem.Challenge.rw_rootpaths_k01_names_and_paths) (n := 63) AM.K01.lams rfl (by decide) (by kernel_rfl) (by decide +kernel) fun w mg h Y G => ?_
    obtain ⟨K, KX, c, e, hx⟩ := Y
    refine ⟨K, (AM.K01.caK K).at_, 3 * 15, AM.K01.fns 15 20, KX, by decide, ?_, ?_, AM.K01.plain, fun base hb hg hT => (AM.K01.all (AM.K01.ds KX G c) (AM.K01.gl rfl KX G c e hx hT) 15).f20⟩
    · exact (AM.ba2 (AM.ba2 (AM.ba2 e).1).1).2
    · intro x hx
      simp only [AM.K01.lams, List.mem_cons, List.not_mem_nil, or_false] at hx
      rcases hx with rfl | rfl | rfl <;> exact He.glo_ok KX G (AM.K01.inF c (by simp [AM.K01.fas]))
