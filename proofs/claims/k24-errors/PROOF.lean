import PyProof.Rows.All
import Wide.All
import OpenK.AllK
import Wide.FinOn
import HandS.ForMost
import HandS.Exc
import KE.KDictKeyed
import PySem.Str
import PySem.Syntax
import PySem.PyData
import HandS.Star
import HandS.TupAny
import HandS.Deep
import KE.KDictLaws
import HandS.Dict
import HandS.Steps
import KE.KDictWalk
import HandS.CallLocal
import HandS.Style
import HandS.Conv
import HandS.IsInst
import HandS.TupLen
import HandS.ExcIs
import PyProof.ReprRoads
import HandS.Comp
import HandS.Ends
import HandS.HeadEnd
import HandS.Defaults
import HandS.Words
import HandS.RaiseMore
import HandS.HeadHook1
import HandS.WordsList
import HandS.DictComp
import HandS.ExcValue
import HandS.ExcInit
import HandS.ExcField
import HandS.Head0
import HandS.Head1
import HandS.Head2
import HandS.HeadHook2
import HandS.FStr
import KE.RegKSuper
import KE.KExcSuper
import PySem.Challenge.RW_rootpaths_k24_errors
/-! text AmA -/
set_option linter.all false
/-! AmA: the abstract machine. Values W (structural, never changing), slots' contents R, boxes (what may change); meanings of expressions and statements. -/
namespace AM
open PySem

inductive W where
  | non
  | bl (b : Bool)
  | int (i : Int)
  | str (s : Str)
  | tup (xs : List W)
  | lst (xs : List W)
  | dct (ks vs : List W)
  | ins (c : Nat) (fs : List Str) (vs : List W)
  | exn (c : Nat) (ln : List W)
  | scr (xs : List W)

mutual
def W.eqb : W → W → Bool
  | .non, .non => true
  | .bl a, .bl b => decide (a = b)
  | .int a, .int b => decide (a = b)
  | .str a, .str b => decide (a = b)
  | .tup a, .tup b => W.eqbs a b
  | .lst a, .lst b => W.eqbs a b
  | .dct a c, .dct b d => W.eqbs a b && W.eqbs c d
  | .ins a f x, .ins b g y => decide (a = b) && decide (f = g) && W.eqbs x y
  | .exn a x, .exn b y => decide (a = b) && W.eqbs x y
  | .scr a, .scr b => W.eqbs a b
  | _, _ => false
def W.eqbs : List W → List W → Bool
  | [], [] => true
  | a :: r, b :: t => W.eqb a b && W.eqbs r t
  | _, _ => false
end

mutual
theorem W.eqb_ok : ∀ (a b : W), W.eqb a b = true ↔ a = b
  | .non, b => by cases b <;> simp [W.eqb]
  | .bl _, b => by cases b <;> simp [W.eqb]
  | .int _, b => by cases b <;> simp [W.eqb]
  | .str _, b => by cases b <;> simp [W.eqb]
  | .tup x, b => by cases b <;> simp [W.eqb, W.eqbs_ok x]
  | .lst x, b => by cases b <;> simp [W.eqb, W.eqbs_ok x]
  | .dct x y, b => by cases b <;> simp [W.eqb, W.eqbs_ok x, W.eqbs_ok y]
  | .ins c f x, b => by cases b <;> simp [W.eqb, W.eqbs_ok x, and_assoc]
  | .exn c x, b => by cases b <;> simp [W.eqb, W.eqbs_ok x]
  | .scr x, b => by cases b <;> simp [W.eqb, W.eqbs_ok x]
theorem W.eqbs_ok : ∀ (a b : List W), W.eqbs a b = true ↔ a = b
  | [], b => by cases b <;> simp [W.eqbs]
  | a :: r, b => by cases b with
    | nil => simp [W.eqbs]
    | cons c t => simp [W.eqbs, W.eqb_ok a, W.eqbs_ok r]
end
instance : DecidableEq W := fun a b => decidable_of_iff _ (W.eqb_ok a b)

/-- what a slot holds: a value, a box, a lambda with what it has captured -/
inductive R where
  | v (w : W)
  | r (n : Nat)
  | clo (k : Nat) (caps : List R)
mutual
def R.eqb : R → R → Bool
  | .v a, .v b => W.eqb a b
  | .r a, .r b => decide (a = b)
  | .clo a x, .clo b y => decide (a = b) && R.eqbs x y
  | _, _ => false
def R.eqbs : List R → List R → Bool
  | [], [] => true
  | a :: x, b :: t => R.eqb a b && R.eqbs x t
  | _, _ => false
end
mutual
theorem R.eqb_ok : ∀ (a b : R), R.eqb a b = true ↔ a = b
  | .v _, b => by cases b <;> simp [R.eqb, W.eqb_ok]
  | .r _, b => by cases b <;> simp [R.eqb]
  | .clo c x, b => by cases b <;> simp [R.eqb, R.eqbs_ok x]
theorem R.eqbs_ok : ∀ (a b : List R), R.eqbs a b = true ↔ a = b
  | [], b => by cases b <;> simp [R.eqbs]
  | a :: x, b => by cases b with
    | nil => simp [R.eqbs]
    | cons c t => simp [R.eqbs, R.eqb_ok a, R.eqbs_ok x]
end
instance : DecidableEq R := fun a b => decidable_of_iff _ (R.eqb_ok a b)

inductive Box where
  | lst (xs : List R)
  | dct (ks : List W) (vs : List R)
  | ins (c : Nat) (fs : List (Str × R))
  deriving DecidableEq

abbrev Bx := List Box
abbrev En := List (Option R)

inductive Res where
  | ok (r : R) (bx : Bx)
  | exc (w : W) (bx : Bx)
  | stuck
  deriving DecidableEq

/-- an expression's meaning -/
abbrev E := En → Bx → Res

inductive Ct where
  | nx (e : En) (bx : Bx)
  | rt (r : R) (bx : Bx)
  | ct (e : En) (bx : Bx)
  | exc (w : W) (e : En) (bx : Bx)
  | stuck
  deriving DecidableEq
/-- a statement's meaning -/
abbrev C := En → Bx → Ct

/-- the greatest length -/
def SL : Nat := 16777216

/-! ### reading -/
def mapO {α β : Type} (f : α → Option β) : List α → Option (List β)
  | [] => some []
  | x :: r => match f x with
    | some y => (mapO f r).map (y :: ·)
    | none => none
def valO : R → Option W
  | .v w => some w
  | _ => none
def vals (rs : List R) : Option (List W) := mapO valO rs
/-- a value seen as a whole, boxes read through (k: how deep) -/
def view (bx : Bx) : Nat → R → Option W
  | _, .v w => some w
  | 0, _ => none
  | k + 1, .r n => match bx[n]? with
    | some (.lst xs) => (mapO (view bx k) xs).map .lst
    | some (.dct ks vs) => (mapO (view bx k) vs).map (.dct ks)
    | some (.ins c fs) => (mapO (view bx k) (fs.map (·.2))).map (.ins c (fs.map (·.1)))
    | none => none
  | _ + 1, .clo _ _ => none
/-- a list's items -/
def itL (bx : Bx) : R → Option (List R)
  | .v (.lst ws) => some (ws.map .v)
  | .r n => match bx[n]? with
    | some (.lst xs) => some xs
    | _ => none
  | _ => none
/-- a list's or a tuple's items -/
def itS (bx : Bx) : R → Option (List R)
  | .v (.tup ws) => some (ws.map .v)
  | x => itL bx x
def dcO (bx : Bx) : R → Option (List W × List R)
  | .v (.dct ks vs) => some (ks, vs.map .v)
  | .r n => match bx[n]? with
    | some (.dct ks vs) => some (ks, vs)
    | _ => none
  | _ => none

/-! ### equality -/
mutual
/-- data as == compares it: None, bools, ints, texts, tuples, lists -/
def W.lay : W → Bool
  | .non | .bl _ | .int _ => true
  | .str s => s.cps.all (· < 0x110000)
  | .tup xs => W.lays xs
  | .lst xs => W.lays xs
  | _ => false
def W.lays : List W → Bool
  | [] => true
  | x :: r => W.lay x && W.lays r
end
mutual
/-- how deep -/
def W.dp : W → Nat
  | .tup xs => W.dps xs + 1
  | .lst xs => W.dps xs + 1
  | _ => 0
def W.dps : List W → Nat
  | [] => 0
  | x :: r => max (W.dp x) (W.dps r)
end
mutual
def W.pyeq : W → W → Bool
  | .non, .non => true
  | .bl a, .bl b => a == b
  | .bl a, .int j => (if a then 1 else 0) == j
  | .int i, .bl b => i == (if b then 1 else 0)
  | .int i, .int j => i == j
  | .str x, .str y => x == y
  | .tup xs, .tup ys => W.pyeqs xs ys
  | .lst xs, .lst ys => W.pyeqs xs ys
  | _, _ => false
def W.pyeqs : List W → List W → Bool
  | [], [] => true
  | x :: xs, y :: ys => W.pyeq x y && W.pyeqs xs ys
  | _, _ => false
end
def W.isDat (w : W) : Bool := w.lay && decide (w.dp ≤ 64)
def eqW (a b : W) : Option Bool := if a.isDat && b.isDat then some (W.pyeq a b) else none
def eqR (bx : Bx) (x y : R) : Option Bool := match view bx 9 x, view bx 9 y with
  | some a, some b => eqW a b
  | _, _ => none

/-! ### the frame of expressions -/
def ePure (r : R) : E := fun _ bx => .ok r bx
def eBind (m : E) (k : R → E) : E := fun en bx => match m en bx with
  | .ok r bx' => k r en bx'
  | .exc w bx' => .exc w bx'
  | .stuck => .stuck
/-- from the left; a star's items are put in -/
def eArgs : List (Bool × E) → (List R → E) → E
  | [], k => k []
  | (false, m) :: r, k => eBind m fun x => eArgs r fun xs => k (x :: xs)
  | (true, m) :: r, k => eBind m fun x => fun en bx => match itS bx x with
    | some ys => eArgs r (fun xs => k (ys ++ xs)) en bx
    | none => .stuck
/-- plain arguments -/
def eAll : List E → (List R → E) → E
  | [], k => k []
  | m :: r, k => eBind m fun x => eAll r fun xs => k (x :: xs)
/-- an operation on values and boxes -/
abbrev Op := List R → Bx → Res
def eOp (as : List E) (f : Op) : E := eAll as fun xs _ bx => f xs bx
/-- .. with stars -/
abbrev eFn (as : List (Bool × E)) (f : Op) : E := eArgs as fun xs _ bx => f xs bx

def eVar (i : Nat) : E := fun en bx => match en[i]? with
  | some (some r) => .ok r bx
  | _ => .stuck
def eC (w : W) : E := ePure (.v w)

/-! ### new lists, tuples, dicts: m says whether it is to be a box -/
def mkL (m : Bool) (rs : List R) (bx : Bx) : Res :=
  if rs.length ≤ SL then
    (if m then .ok (.r bx.length) (bx ++ [.lst rs]) else match vals rs with
      | some ws => .ok (.v (.lst ws)) bx
      | none => .stuck)
  else .stuck
def mkT (rs : List R) (bx : Bx) : Res :=
  if rs.length ≤ SL then (match vals rs with
    | some ws => .ok (.v (.tup ws)) bx
    | none => .stuck)
  else .stuck
def mkD (m : Bool) (ks : List W) (rs : List R) (bx : Bx) : Res :=
  if ks.length ≤ SL then
    (if m then .ok (.r bx.length) (bx ++ [.dct ks rs]) else match vals rs with
      | some ws => .ok (.v (.dct ks ws)) bx
      | none => .stuck)
  else .stuck
def eTup (as : List (Bool × E)) : E := eArgs as fun xs _ bx => mkT xs bx
def eLst (m : Bool) (as : List (Bool × E)) : E := eArgs as fun xs _ bx => mkL m xs bx

/-! ### keys of dicts -/
mutual
/-- ints, texts, tuples of these (nested); how deep -/
def W.key : W → Option Nat
  | .int _ | .str _ => some 0
  | .tup xs => (W.keys xs).map (· + 1)
  | _ => none
def W.keys : List W → Option Nat
  | [] => some 0
  | x :: r => match W.key x, W.keys r with
    | some a, some b => some (max a b)
    | _, _ => none
end
def W.isT : W → Bool
  | .tup _ => true
  | _ => false
/-- a key, not too deep -/
def keyB (k : W) : Bool := match k.key with
    | some n => decide (n ≤ 8)
    | none => false
/-- k may be asked of a dict with these keys: one kind (tuples, or ints and texts), not too deep -/
def keyFor (ks : List W) (k : W) : Bool := keyB k && (match ks with
    | [] => true
    | k0 :: _ => k0.isT == k.isT)
section
variable {α : Type}
def dGet : List W → List α → W → Option α
  | k0 :: ks, r :: rs, k => if k0 = k then some r else dGet ks rs k
  | _, _, _ => none
def dSetV : List W → List α → W → α → List α
  | k0 :: ks, r0 :: rs, k, r => if k0 = k then r :: rs else r0 :: dSetV ks rs k r
  | _, _, _, r => [r]
def dDelV : List W → List α → W → List α
  | k0 :: ks, r0 :: rs, k => if k0 = k then rs else r0 :: dDelV ks rs k
  | _, _, _ => []
end
def dSetK : List W → W → List W
  | k0 :: ks, k => if k0 = k then k0 :: ks else k0 :: dSetK ks k
  | [], k => [k]
def dDelK : List W → W → List W
  | k0 :: ks, k => if k0 = k then ks else k0 :: dDelK ks k
  | [], _ => []

/-! ### operators -/
inductive Bop where
  | add | sub | mul | fdiv | mod | pow
  deriving DecidableEq
def i64 (i : Int) : Bool := decide (-(2 ^ 64) < i) && decide (i < 2 ^ 64)
def addR (m : Bool) (x y : R) (bx : Bx) : Res := match x, y with
  | .v (.int i), .v (.int j) => .ok (.v (.int (i + j))) bx
  | .v (.str a), .v (.str b) => if a.length + b.length ≤ SL then .ok (.v (.str (a ++ b))) bx else .stuck
  | .v (.tup a), .v (.tup b) => if a.length + b.length ≤ SL then .ok (.v (.tup (a ++ b))) bx else .stuck
  | x, y => match itL bx x with
    | some a => match itL bx y with
      | some b => mkL m (a ++ b) bx
      | none => .stuck
    | none => .stuck
def mulR (m : Bool) (x y : R) (bx : Bx) : Res := match y with
  | .v (.int k) => match x with
    | .v (.int i) => if i64 i || i64 k then .ok (.v (.int (i * k))) bx else .stuck
    | x => match itL bx x with
      | some a => if 0 ≤ k ∧ k < 1000000 then mkL m (List.replicate k.toNat a).flatten bx else .stuck
      | none => .stuck
  | _ => .stuck
def arI (o : Bop) (i j : Int) : Option Int := match o with
  | .sub => some (i - j)
  | .fdiv => if 0 < j ∧ j < 1073741824 then some (i / j) else none
  | .mod => if 0 < j then some (i % j) else none
  | .pow => if 0 ≤ j ∧ j ≤ 1000000 ∧ i64 i = true then some (i ^ j.toNat) else none
  | _ => none
def arR (o : Bop) (x y : R) (bx : Bx) : Res := match x, y with
  | .v (.int i), .v (.int j) => match arI o i j with
    | some k => .ok (.v (.int k)) bx
    | none => .stuck
  | _, _ => .stuck
def binR (o : Bop) (m : Bool) (x y : R) (bx : Bx) : Res := match o with
  | .add => addR m x y bx
  | .mul => mulR m x y bx
  | o => arR o x y bx
def opBin (o : Bop) (m : Bool) : Op
  | [x, y], bx => binR o m x y bx
  | _, _ => .stuck
def opNeg : Op
  | [.v (.int i)], bx => .ok (.v (.int (-i))) bx
  | _, _ => .stuck

inductive Cop where
  | eq | ne | lt | le | gt | ge | isN | notN | isin | notin
  deriving DecidableEq
def okB (b : Bool) (bx : Bx) : Res := .ok (.v (.bl b)) bx
def okO (b : Option Bool) (bx : Bx) : Res := match b with
  | some c => okB c bx
  | none => .stuck
def isNon : R → Bool
  | .v .non => true
  | _ => false
def inR (bx : Bx) (x y : R) : Option Bool := match y with
  | .v (.str b) => match x with
    | .v (.str a) => match a.cps.toList with
      | [c] => some (decide (c ∈ b.cps.toList))
      | _ => none
    | _ => none
  | y => match dcO bx y with
    | some (ks, rs) => match x with
      | .v k => if keyFor ks k then some (dGet ks rs k).isSome else none
      | _ => none
    | none => match itS bx y, view bx 9 x with
      | some ys, some a => (mapO (view bx 9) ys).bind fun ws => if a.isDat && W.lays ws then some (ws.any fun y => W.pyeq y a) else none
      | _, _ => none
def cmpI (o : Cop) (i j : Int) : Bool := match o with
  | .lt => decide (i < j)
  | .le => decide (i ≤ j)
  | .gt => decide (j < i)
  | _ => decide (j ≤ i)
def ordR (o : Cop) (x y : R) : Option Bool := match x, y with
  | .v (.int i), .v (.int j) => some (cmpI o i j)
  | _, _ => none
def cmpB (o : Cop) (bx : Bx) (x y : R) : Option Bool := match o with
  | .eq => eqR bx x y
  | .ne => (eqR bx x y).map (!·)
  | .isN => if isNon y then some (isNon x) else none
  | .notN => if isNon y then some (!isNon x) else none
  | .isin => inR bx x y
  | .notin => (inR bx x y).map (!·)
  | .lt => ordR .lt x y
  | .le => ordR .le x y
  | .gt => ordR .gt x y
  | .ge => ordR .ge x y
def opCmp (o : Cop) : Op
  | [x, y], bx => okO (cmpB o bx x y) bx
  | _, _ => .stuck

/-! ### bools -/
def eBool (m : E) (k : Bool → E) : E := eBind m fun r => match r with
  | .v (.bl b) => k b
  | _ => fun _ _ => .stuck
def eAnd : List E → E
  | [] => fun _ _ => .stuck
  | [m] => m
  | m :: n :: r => eBool m fun b => if b then eAnd (n :: r) else eC (.bl false)
def eOr : List E → E
  | [] => fun _ _ => .stuck
  | [m] => m
  | m :: n :: r => eBool m fun b => if b then eC (.bl true) else eOr (n :: r)
def eNot (m : E) : E := eBool m fun b => eC (.bl (!b))
def eIf (t a b : E) : E := eBool t fun c => if c then a else b
/-- a o1 b o2 c -/
def eChain (o1 o2 : Cop) (a b c : E) : E := eBind a fun x => eBind b fun y => eBool (fun _ bx => opCmp o1 [x, y] bx) fun t =>
  if t then eBind c fun z => fun _ bx => opCmp o2 [y, z] bx else eC (.bl false)

/-! ### places and cuts -/
def atW (i : Int) (n : Nat) : Option Nat := if 0 ≤ i then (if i < n then some i.toNat else none) else (if 0 ≤ i + n then some (i + n).toNat else none)
def opIdx : Op
  | [x, .v k], bx => match dcO bx x with
    | some (ks, rs) => if keyFor ks k then (match dGet ks rs k with
      | some r => .ok r bx
      | none => .stuck) else .stuck
    | none => match k with
      | .int i => match x with
        | .v (.str s) => if s.length ≤ SL then (match (atW i s.cps.toList.length).bind fun j => s.cps.toList[j]? with
          | some c => .ok (.v (.str ⟨#[c]⟩)) bx
          | none => .stuck) else .stuck
        | x => match itS bx x with
          | some xs => match (atW i xs.length).bind fun j => xs[j]? with
            | some r => .ok r bx
            | none => .stuck
          | none => .stuck
      | _ => .stuck
  | _, _ => .stuck
/-- a slice's end in a row of n -/
def cutAt (i : Int) (n : Nat) : Nat := if 0 ≤ i then min i.toNat n else (i + n).toNat
def cutL {α : Type} (lo hi : Option Int) (xs : List α) : List α :=
  (xs.take (match hi with
    | some j => cutAt j xs.length
    | none => xs.length)).drop (match lo with
    | some i => cutAt i xs.length
    | none => 0)
/-- x[lo:hi] -/
def cutR (m : Bool) (x : R) (a b : Option Int) (bx : Bx) : Res := match x with
  | .v (.str s) => if s.length ≤ SL then .ok (.v (.str ⟨(cutL a b s.cps.toList).toArray⟩)) bx else .stuck
  | .v (.tup ws) => .ok (.v (.tup (cutL a b ws))) bx
  | .v (.scr ws) => mkL m (cutL a b (ws.map .v)) bx
  | x => match itL bx x with
    | some xs => mkL m (cutL a b xs) bx
    | none => .stuck
/-- an end of a slice, left out or an int -/
def ePart : Option E → (Option Int → E) → E
  | none, k => k none
  | some m, k => eBind m fun r => match r with
    | .v (.int i) => k (some i)
    | _ => fun _ _ => .stuck
def eCut (m : Bool) (x : E) (lo hi : Option E) : E := eBind x fun v => ePart lo fun a => ePart hi fun b => fun _ bx => cutR m v a b bx
/-- xs[::-1] -/
def opRev (m : Bool) : Op
  | [x], bx => match itL bx x with
    | some xs => mkL m xs.reverse bx
    | none => .stuck
  | _, _ => .stuck

/-! ### built-in functions -/
def lenO (bx : Bx) (x : R) : Option Nat := match x with
  | .v (.str s) => if s.length ≤ SL then some s.length else none
  | x => match itS bx x with
    | some xs => some xs.length
    | none => (dcO bx x).map fun p => p.1.length
def opLen : Op
  | [x], bx => match lenO bx x with
    | some n => .ok (.v (.int n)) bx
    | none => .stuck
  | _, _ => .stuck
def boolsO : List R → Option (List Bool)
  | [] => some []
  | .v (.bl b) :: r => (boolsO r).map (b :: ·)
  | _ => none
def opAll : Op
  | [x], bx => match (itL bx x).bind boolsO with
    | some bs => okB (bs.all id) bx
    | none => .stuck
  | _, _ => .stuck
def opAny : Op
  | [x], bx => match (itL bx x).bind boolsO with
    | some bs => okB (bs.any id) bx
    | none => .stuck
  | _, _ => .stuck
def intsO : List R → Option (List Int)
  | [] => some []
  | .v (.int i) :: r => (intsO r).map (i :: ·)
  | _ => none
def opSum : Op
  | [x], bx => match (itL bx x).bind intsO with
    | some is => .ok (.v (.int is.sum)) bx
    | none => .stuck
  | _, _ => .stuck
def opMin2 : Op
  | [.v (.int i), .v (.int j)], bx => .ok (.v (.int (if j < i then j else i))) bx
  | _, _ => .stuck
def opInt : Op
  | [.v (.int i)], bx => .ok (.v (.int i)) bx
  | [.v (.bl b)], bx => .ok (.v (.int (if b then 1 else 0))) bx
  | _, _ => .stuck
def opStr : Op
  | [.v (.int i)], bx => if i.natAbs.log2 < 1920 then .ok (.v (.str (toString i))) bx else .stuck
  | _, _ => .stuck
/-- list(x): a list, a tuple, a dict's keys -/
def opList (m : Bool) : Op
  | [x], bx => match itS bx x with
    | some xs => mkL m xs bx
    | none => match dcO bx x with
      | some (ks, _) => mkL m (ks.map .v) bx
      | none => .stuck
  | _, _ => .stuck
def opTuple : Op
  | [x], bx => match itS bx x with
    | some xs => mkT xs bx
    | none => .stuck
  | _, _ => .stuck
/-- dict(d) -/
def opDict (m : Bool) : Op
  | [x], bx => match dcO bx x with
    | some (ks, rs) => mkD m ks rs bx
    | none => .stuck
  | _, _ => .stuck
inductive Ty where
  | int | bool | str | tuple | list | dict
  deriving DecidableEq
/-- the class of an instance or an error -/
def clsOf (bx : Bx) : R → Option Nat
  | .v (.ins c _ _) => some c
  | .v (.exn c _) => some c
  | .r n => match bx[n]? with
    | some (.ins c _) => some c
    | _ => none
  | _ => none

/-! ### order -/
mutual
def W.alk : W → W → Bool
  | .bl _, .bl _ => true
  | .int _, .int _ => true
  | .str _, .str _ => true
  | .tup xs, .tup ys => W.alks xs ys
  | .lst xs, .lst ys => W.alks xs ys
  | _, _ => false
def W.alks : List W → List W → Bool
  | x :: xs, y :: ys => W.alk x y && W.alks xs ys
  | _, _ => true
end
mutual
def W.lt : W → W → Bool
  | .bl a, .bl b => !a && b
  | .int i, .int j => decide (i < j)
  | .str x, .str y => decide (x.cps.toList < y.cps.toList)
  | .tup xs, .tup ys => W.lts xs ys
  | .lst xs, .lst ys => W.lts xs ys
  | _, _ => false
def W.lts : List W → List W → Bool
  | [], _ :: _ => true
  | x :: xs, y :: ys => if W.pyeq x y then W.lts xs ys else W.lt x y
  | _, [] => false
end
def W.le (a b : W) : Bool := !W.lt b a
/-- a row that sorted takes: its items alike in pairs, data, all tuples with an item or none a tuple -/
def sortOk (ws : List W) : Bool := ws.all W.isDat && ws.all (fun a => ws.all fun b => W.alk a b) && (ws.all (fun a => match a with
  | .tup (_ :: _) => true
  | _ => false) || ws.all fun a => match a with
  | .tup _ => false
  | _ => true)
def sortW (ws : List W) : List W := ws.mergeSort W.le
/-- what sorted walks: a list's or tuple's items, a dict's keys -/
def itK (bx : Bx) (x : R) : Option (List R) := match itS bx x with
  | some xs => some xs
  | none => match dcO bx x with
    | some (ks, _) => some (ks.map R.v)
    | none => none
def opSorted (m : Bool) : Op
  | [x], bx => match (itK bx x).bind vals with
    | some ws => if sortOk ws then mkL m ((sortW ws).map .v) bx else .stuck
    | none => .stuck
  | _, _ => .stuck
/-- each once, by its first place -/
def firsts : List W → List W → List W
  | acc, [] => acc
  | acc, x :: r => firsts (if x ∈ acc then acc else acc ++ [x]) r
/-- a row that set takes: keys of one kind -/
def setOk (ws : List W) : Bool := ws.all fun k => keyFor ws k
/-- sorted(set(x)) -/
def opSortedSet (m : Bool) : Op
  | [x], bx => match (itL bx x).bind vals with
    | some ws => if setOk ws && sortOk ws then mkL m ((sortW (firsts [] ws)).map .v) bx else .stuck
    | none => .stuck
  | _, _ => .stuck
/-- len(set(x)) -/
def opLenSet : Op
  | [x], bx => match (itL bx x).bind vals with
    | some ws => if setOk ws then .ok (.v (.int (firsts [] ws).length)) bx else .stuck
    | none => .stuck
  | _, _ => .stuck

/-! ### repr -/
mutual
def W.toD : W → Option PyData
  | .non => some .none
  | .bl b => some (.bool b)
  | .int i => some (.int i)
  | .str s => some (.str s)
  | .tup xs => (W.toDs xs).map .tuple
  | .lst xs => (W.toDs xs).map .list
  | .dct ks vs => match W.toDs ks, W.toDs vs with
    | some a, some b => some (.dict (a.zip b))
    | _, _ => none
  | _ => none
def W.toDs : List W → Option (List PyData)
  | [] => some []
  | x :: r => match W.toD x, W.toDs r with
    | some a, some b => some (a :: b)
    | _, _ => none
end

/-! ### methods of lists, dicts, texts -/
inductive Mt where
  | append | extend | pop | index | count | clear | remove | get | setdefault | update | join | split | replace
  deriving DecidableEq
def putB (n : Nat) (b : Box) (r : R) (bx : Bx) : Res := if n < bx.length then .ok r (bx.set n b) else .stuck
def idxW (x : W) : List W → Option Nat
  | [] => none
  | y :: r => if W.pyeq y x then some 0 else (idxW x r).map (· + 1)
/-- the new pairs over the old ones -/
def dMergeK : List W → List W → List W
  | ks, k :: ks' => dMergeK (dSetK ks k) ks'
  | ks, [] => ks
def dMergeV {α : Type} : List W → List α → List W → List α → List α
  | ks, rs, k :: ks', r :: rs' => dMergeV (dSetK ks k) (dSetV ks rs k r) ks' rs'
  | _, rs, _, _ => rs
def txsO : List R → Option (List Str)
  | [] => some []
  | .v (.str s) :: r => (txsO r).map (s :: ·)
  | _ => none
def boxL (bx : Bx) (n : Nat) : Option (List R) := match bx[n]? with
  | some (.lst xs) => some xs
  | _ => none
def boxD (bx : Bx) (n : Nat) : Option (List W × List R) := match bx[n]? with
  | some (.dct ks rs) => some (ks, rs)
  | _ => none
def opAppend : Op
  | [.r n, y], bx => match boxL bx n with
    | some xs => if xs.length < SL then putB n (.lst (xs ++ [y])) (.v .non) bx else .stuck
    | none => .stuck
  | _, _ => .stuck
def opExtend : Op
  | [.r n, y], bx => match boxL bx n, itL bx y with
    | some xs, some ys => if xs.length + ys.length ≤ SL then putB n (.lst (xs ++ ys)) (.v .non) bx else .stuck
    | _, _ => .stuck
  | _, _ => .stuck
def opPop : Op
  | [.r n], bx => match boxL bx n with
    | some xs => match xs[xs.length - 1]? with
      | some r => putB n (.lst xs.dropLast) r bx
      | none => .stuck
    | none => .stuck
  | _, _ => .stuck
def opPopAt : Op
  | [.r n, .v (.int i)], bx => match boxL bx n with
    | some xs => if i64 i = true then (match atW i xs.length with
      | some j => match xs[j]? with
        | some r => if -(2 ^ 63) ≤ i ∧ i < 2 ^ 63 then putB n (.lst (xs.eraseIdx j)) r bx else .stuck
        | none => .stuck
      | none => .stuck) else .stuck
    | none => .stuck
  | _, _ => .stuck
def opClear : Op
  | [.r n], bx => match boxL bx n with
    | some _ => putB n (.lst []) (.v .non) bx
    | none => .stuck
  | _, _ => .stuck
def viewsO (bx : Bx) (x y : R) : Option (List W × W) := match (itL bx x).bind fun ys => mapO (view bx 9) ys with
  | some ws => match view bx 9 y with
    | some a => if a.isDat && ws.all W.isDat then some (ws, a) else none
    | none => none
  | none => none
def opIndex : Op
  | [x, y], bx => match viewsO bx x y with
    | some (ws, a) => match idxW a ws with
      | some j => .ok (.v (.int j)) bx
      | none => .stuck
    | none => .stuck
  | _, _ => .stuck
def opCount : Op
  | [x, y], bx => match viewsO bx x y with
    | some (ws, a) => .ok (.v (.int (ws.countP fun b => W.pyeq b a))) bx
    | none => .stuck
  | _, _ => .stuck
def opGet : Op
  | [x, .v k, d], bx => match dcO bx x with
    | some (ks, rs) => if keyFor ks k then .ok ((dGet ks rs k).getD d) bx else .stuck
    | none => .stuck
  | _, _ => .stuck
def opSetdef : Op
  | [.r n, .v k, d], bx => match boxD bx n with
    | some (ks, rs) => if keyFor ks k = true ∧ ks.length < SL then (match dGet ks rs k with
      | some r => .ok r bx
      | none => putB n (.dct (dSetK ks k) (dSetV ks rs k d)) d bx) else .stuck
    | none => .stuck
  | _, _ => .stuck
def opUpdate : Op
  | [.r n, y], bx => match boxD bx n, dcO bx y with
    | some (ks, rs), some (ks', rs') => if ks'.all (fun k => keyFor ks k && keyFor ks' k) ∧ ks.length + ks'.length < SL ∧ y ≠ .r n then putB n (.dct (dMergeK ks ks') (dMergeV ks rs ks' rs')) (.v .non) bx else .stuck
    | _, _ => .stuck
  | _, _ => .stuck

/-! ### calls -/
/-- o.m(..) of a list (d: of a dict) -/
def eMt (d : Bool) (o : E) (as : List (Bool × E)) (f : Op) : E := eBind o fun x => fun en bx => if (if d then (dcO bx x).isSome else (itL bx x).isSome) = true then eArgs as (fun xs _ bx => f (x :: xs) bx) en bx else .stuck
/-! ### errors -/
/-- C(x): an error, its arguments not kept -/
def opExn (c : Nat) : Op
  | [.v _], bx => .ok (.v (.exn c [])) bx
  | _, _ => .stuck
/-- C(line), the line kept -/
def opExn1 (c : Nat) : Op
  | [.v (.int i)], bx => .ok (.v (.exn c [.int i])) bx
  | _, _ => .stuck
def opLine : Op
  | [.v (.exn _ [l])], bx => .ok (.v l) bx
  | _, _ => .stuck
/-- the functions: which one, the arguments, the boxes -/
abbrev Fn := Nat → List R → Bx → Res
def viewF (lo : Nat) (bx : Bx) : Nat → R → Option W
  | _, .v w => some w
  | 0, _ => none
  | k + 1, .r n => if lo ≤ n then (match bx[n]? with
    | some (.lst xs) => (mapO (viewF lo bx k) xs).map .lst
    | some (.dct ks vs) => (mapO (viewF lo bx k) vs).map (.dct ks)
    | some (.ins c fs) => (mapO (viewF lo bx k) (fs.map (·.2))).map (.ins c (fs.map (·.1)))
    | none => none) else none
  | _ + 1, .clo _ _ => none
def refLt (n : Nat) : R → Bool
  | .v _ => true
  | .r k => decide (k < n)
  | .clo _ _ => false
def boxLt (n : Nat) : Box → Bool
  | .lst xs => xs.all (refLt n)
  | .dct _ vs => vs.all (refLt n)
  | .ins _ fs => fs.all fun p => refLt n p.2
/-- the first boxes are as they were, or name no later one -/
def backOk (n : Nat) : Bx → Bx → Bool
  | [], _ => true
  | b :: r, b' :: r' => (decide (b' = b) || boxLt n b') && backOk n r r'
  | _ :: _, [] => false
/-- behind a call whose new boxes go: the answer as a value -/
def settle (bx : Bx) : Res → Res
  | .ok r bx' => match viewF bx.length bx' 9 r with
    | some w => if backOk bx.length bx bx' then .ok (.v w) (bx'.take bx.length) else .stuck
    | none => .stuck
  | .exc w bx' => if backOk bx.length bx bx' then .exc w (bx'.take bx.length) else .stuck
  | .stuck => .stuck
def opCall (F : Fn) (f : Nat) (keep : Bool) : Op := fun xs bx => if keep then F f xs bx else settle bx (F f xs bx)
def opMake (F : Fn) (c init : Nat) (keep : Bool) : Op := fun xs bx =>
  match F init (.r bx.length :: xs) (bx ++ [.ins c []]) with
  | .ok (.v .non) bx' => if keep then .ok (.r bx.length) bx' else settle bx (.ok (.r bx.length) bx')
  | .exc w bx' => settle bx (.exc w bx')
  | _ => .stuck
structure Tab where
  meth : Nat → Str → Option Nat
  prop : Nat → Str → Option Nat
  sub : Nat → Nat → Bool
  n : Nat
  exc : Nat → Bool
def fldO (bx : Bx) (x : R) (f : Str) : Option R := match x with
  | .v (.ins _ fs vs) => (fs.zip vs).lookup f |>.map .v
  | .r n => match bx[n]? with
    | some (.ins _ fs) => fs.lookup f
    | _ => none
  | _ => none
def opFld (f : Str) : Op
  | [x], bx => match fldO bx x f with
    | some r => .ok r bx
    | none => .stuck
  | _, _ => .stuck
/-- o.f where f is a property of o's class -/
def opProp (F : Fn) (T : Tab) (f : Str) (keep : Bool) : Op
  | [x], bx => match (clsOf bx x).bind fun c => T.prop c f with
    | some g => opCall F g keep [x] bx
    | none => .stuck
  | _, _ => .stuck
def opMeth (F : Fn) (T : Tab) (nm : Str) (keep : Bool) : Op
  | x :: as, bx => match clsOf bx x with
    | some c => match T.meth c nm with
      | some g => if (fldO bx x nm).isNone then opCall F g keep (x :: as) bx else .stuck
      | none => .stuck
    | none => .stuck
  | _, _ => .stuck
/-- the type of a value: a built-in one, or a class -/
def typO (T : Tab) (bx : Bx) : R → Option (String ⊕ Nat)
  | .v .non => some (.inl "NoneType")
  | .v (.bl _) => some (.inl "bool")
  | .v (.int _) => some (.inl "int")
  | .v (.str _) => some (.inl "str")
  | .v (.tup _) => some (.inl "tuple")
  | .v (.lst _) => some (.inl "list")
  | .v (.dct _ _) => some (.inl "dict")
  | .v (.ins c _ _) => if c < T.n ∧ T.exc c = false then some (.inr c) else none
  | .v (.exn c _) => if c < T.n ∧ T.exc c = true then some (.inr c) else none
  | .r k => match bx[k]? with
    | some (.lst _) => some (.inl "list")
    | some (.dct _ _) => some (.inl "dict")
    | some (.ins c _) => if c < T.n ∧ T.exc c = false then some (.inr c) else none
    | none => none
  | _ => none
def tyN : Ty → String
  | .int => "int"
  | .bool => "bool"
  | .str => "str"
  | .tuple => "tuple"
  | .list => "list"
  | .dict => "dict"
/-- isinstance(x, t) -/
def opIsTy (T : Tab) (t : Ty) : Op
  | [x], bx => match typO T bx x with
    | some (.inl nm) => okB (nm == tyN t || (nm == "bool" && t == .int)) bx
    | some (.inr _) => okB false bx
    | none => .stuck
  | _, _ => .stuck
/-- isinstance(x, C) -/
def opIsC (T : Tab) (c : Nat) : Op
  | [x], bx => if c < T.n then (match typO T bx x with
    | some (.inl _) => okB false bx
    | some (.inr d) => okB (T.sub d c) bx
    | none => .stuck) else .stuck
  | _, _ => .stuck
/-- isinstance(x, ValueError) -/
def opIsVE (T : Tab) : Op
  | [x], bx => match typO T bx x with
    | some (.inl _) => okB false bx
    | some (.inr d) => okB (T.exc d) bx
    | none => .stuck
  | _, _ => .stuck
/-- a lambda held by a name, called -/
def opClo (F : Fn) (keep : Bool) : Op
  | .clo k caps :: as, bx => opCall F k keep (caps ++ as) bx
  | _, _ => .stuck
def slotsO (en : En) : List Nat → Option (List R)
  | [] => some []
  | i :: r => match en[i]? with
    | some (some x) => (slotsO en r).map (x :: ·)
    | _ => none
def eLam (k : Nat) (caps : List Nat) : E := fun en bx => match slotsO en caps with
  | some rs => .ok (.clo k rs) bx
  | none => .stuck

/-! ### what is walked -/
inductive It where
  | one (r : R)
  | pr (a b : R)
inductive Ires where
  | ok (xs : List It) (g : Option (Nat × Box)) (bx : Bx)
  | exc (w : W) (bx : Bx)
  | stuck
abbrev I := En → Bx → Ires
def iBind (m : E) (k : R → Bx → Ires) : I := fun en bx => match m en bx with
  | .ok r bx' => k r bx'
  | .exc w bx' => .exc w bx'
  | .stuck => .stuck
def guardOf (bx : Bx) : R → Option (Nat × Box)
  | .r n => (bx[n]?).map fun b => (n, b)
  | _ => none
def guarded (bx : Bx) : Option (Nat × Box) → Bool
  | none => true
  | some (n, b) => decide (bx[n]? = some b)
def iPlain (m : E) : I := iBind m fun x bx => match x with
  | .v (.str s) => .ok (s.cps.toList.map fun c => .one (.v (.str ⟨#[c]⟩))) none bx
  | x => match itS bx x with
    | some xs => .ok (xs.map .one) (guardOf bx x) bx
    | none => match x with
      | .v (.dct ks _) => .ok (ks.map fun k => .one (.v k)) none bx
      | _ => .stuck
def iItems (m : E) : I := iBind m fun x bx => match x with
  | .v (.dct ks ws) => .ok ((ks.zip ws).map fun p => .pr (.v p.1) (.v p.2)) none bx
  | _ => .stuck
def iVals (m : E) : I := iBind m fun x bx => match x with
  | .v (.dct _ ws) => .ok (ws.map fun w => .one (.v w)) none bx
  | _ => .stuck
def rangeI (lo hi : Int) : List It := (List.range (hi - lo).toNat).map fun (k : Nat) => .one (.v (.int (lo + k)))
def range1K : R → Bx → Ires
  | .v (.int n), bx => if -(2 ^ 62) ≤ n ∧ n < 2 ^ 62 then .ok (rangeI 0 n) none bx else .stuck
  | _, _ => .stuck
def iRange1 (m : E) : I := iBind m range1K
def range2K : R → R → Bx → Ires
  | .v (.int i), .v (.int j), bx => if (-(2 ^ 62) ≤ i ∧ i < 2 ^ 62) ∧ (-(2 ^ 62) ≤ j ∧ j < 2 ^ 62) then .ok (rangeI i j) none bx else .stuck
  | _, _, _ => .stuck
def iBind2 (a b : E) (k : R → R → Bx → Ires) : I := fun en bx => match a en bx with
  | .ok x bx1 => (match b en bx1 with
    | .ok y bx2 => k x y bx2
    | .exc w bx2 => .exc w bx2
    | .stuck => .stuck)
  | .exc w bx1 => .exc w bx1
  | .stuck => .stuck
def iRange2 (a b : E) : I := iBind2 a b range2K
def iEnum (m : E) : I := iBind m fun x bx => match itL bx x with
  | some xs => .ok (xs.zipIdx.map fun p => .pr (.v (.int p.2)) p.1) (guardOf bx x) bx
  | none => .stuck
/-- zip(a, b, strict=True) of two lists that are no boxes, or of a tuple and a list -/
def iZip (a b : E) : I := iBind a fun x bx => match itS bx x with
  | some _ => .stuck
  | none => .stuck

inductive Tg where
  | nm (i : Nat)
  | tp (ts : List Tg)
mutual
def asg : Tg → It → En → Bx → Option En
  | .nm i, .one r, en, _ => if i < en.length then some (en.set i (some r)) else none
  | .nm i, .pr a b, en, _ => match valO a, valO b with
    | some x, some y => if i < en.length then some (en.set i (some (.v (.tup [x, y])))) else none
    | _, _ => none
  | .tp ts, .one r, en, bx => match r with
    | .v (.tup ws) => asgs ts (ws.map .v) en bx
    | _ => none
  | .tp ts, .pr a b, en, bx => asgs ts [a, b] en bx
def asgs : List Tg → List R → En → Bx → Option En
  | [], [], en, _ => some en
  | t :: ts, r :: rs, en, bx => match asg t (.one r) en bx with
    | some en' => asgs ts rs en' bx
    | none => none
  | _, _, _, _ => none
end
/-! ### comprehensions -/
def wipeE (en : En) : List Nat → En
  | [] => en
  | v :: vs => (wipeE en vs).set v none
structure Gen where
  tg : Tg
  it : I
  ifs : List E
/-- the tests of a clause -/
def testsO (en : En) : List E → Bx → Option (Bool × Bx)
  | [], bx => some (true, bx)
  | t :: r, bx => match t en bx with
    | .ok (.v (.bl true)) bx' => testsO en r bx'
    | .ok (.v (.bl false)) bx' => some (false, bx')
    | _ => none
/-- the turns of a clause -/
def lcTurns (body : En → Bx → Option (List R × Bx)) (tg : Tg) (ifs : List E) (g : Option (Nat × Box)) (en : En) : List It → Bx → Option (List R × Bx)
  | [], bx => if guarded bx g then some ([], bx) else none
  | x :: xs, bx => if guarded bx g then (match asg tg x en bx with
    | some en' => match testsO en' ifs bx with
      | some (true, bx1) => match body en' bx1 with
        | some (ys, bx2) => match lcTurns body tg ifs g en xs bx2 with
          | some (zs, bx3) => some (ys ++ zs, bx3)
          | none => none
        | none => none
      | some (false, bx1) => lcTurns body tg ifs g en xs bx1
      | none => none
    | none => none) else none
def lcGo (elt : E) : List Gen → En → Bx → Option (List R × Bx)
  | [], en, bx => match elt en bx with
    | .ok r bx' => some ([r], bx')
    | _ => none
  | g :: gs, en, bx => match g.it en bx with
    | .ok xs gd bx' => lcTurns (lcGo elt gs) g.tg g.ifs gd en xs bx'
    | _ => none
def eLc (m : Bool) (own : List Nat) (gs : List Gen) (elt : E) : E := fun en bx => match lcGo elt gs (wipeE en own) bx with
  | some (rs, bx') => mkL m rs bx'
  | none => .stuck
/-- {k: v for ..}: the pairs as they come, each a list of key and value -/
def pairO : List R → Option (List W × List R)
  | [] => some ([], [])
  | [_] => none
  | .v k :: r :: rs => (pairO rs).map fun p => (k :: p.1, r :: p.2)
  | _ :: _ => none
def dcGo (ke ve : E) : List Gen → En → Bx → Option (List R × Bx)
  | [], en, bx => match ke en bx with
    | .ok k bx' => match ve en bx' with
      | .ok r bx'' => some ([k, r], bx'')
      | _ => none
    | _ => none
  | g :: gs, en, bx => match g.it en bx with
    | .ok xs gd bx' => lcTurns (dcGo ke ve gs) g.tg g.ifs gd en xs bx'
    | _ => none
def eDc (m : Bool) (own : List Nat) (gs : List Gen) (ke ve : E) : E := fun en bx => match dcGo ke ve gs (wipeE en own) bx with
  | some (rs, bx') => match pairO rs with
    | some (ks, vs) => if ks.length ≤ SL ∧ ks.all (fun k => keyFor ks k) then mkD m (dMergeK [] ks) (dMergeV [] [] ks vs) bx' else .stuck
    | none => .stuck
  | none => .stuck
/-- {} and {k: v, ..} -/
def eDct (m : Bool) (kvs : List E) : E := eAll kvs fun xs => fun _ bx => match pairO xs with
  | some (ks, vs) => if ks.length ≤ 15 ∧ ks.all (fun k => keyFor ks k) then mkD m (dMergeK [] ks) (dMergeV [] [] ks vs) bx else .stuck
  | none => .stuck
/-- sorted(x, key=lambda p: e), the lambda's body in the own frame: slot i its name -/
def keysO (i : Nat) (e : E) (en : En) (bx : Bx) : List W → Option (List W)
  | [] => some []
  | w :: r => match e (en.set i (some (.v w))) bx with
    | .ok (.v k) bx' => if bx' = bx then (keysO i e en bx r).map (k :: ·) else none
    | _ => none

/-! ### statements -/
def cPass : C := fun en bx => .nx en bx
def cSeq : List C → C
  | [] => cPass
  | [c] => c
  | c :: r => fun en bx => match c en bx with
    | .nx en' bx' => cSeq r en' bx'
    | x => x
def cE (m : E) (k : R → C) : C := fun en bx => match m en bx with
  | .ok r bx' => k r en bx'
  | .exc w bx' => .exc w en bx'
  | .stuck => .stuck
def cExp (m : E) : C := cE m fun _ => cPass
def cRet (m : E) : C := cE m fun r _ bx => .rt r bx
def cRetN : C := fun _ bx => .rt (.v .non) bx
def cCont : C := fun en bx => .ct en bx
def cAsg (t : Tg) (m : E) : C := cE m fun r en bx => match asg t (.one r) en bx with
  | some en' => .nx en' bx
  | none => .stuck
/-- a, b = x, y -/
def cPar (i j : Nat) (a b : E) : C := cE a fun x => cE b fun y en bx => if i ≠ j ∧ i < en.length ∧ j < en.length then .nx ((en.set i (some x)).set j (some y)) bx else .stuck
def cB (m : E) (k : Bool → C) : C := cE m fun r => match r with
  | .v (.bl b) => k b
  | _ => fun _ _ => .stuck
def cIf (t : E) (a b : C) : C := cB t fun c => if c then a else b
/-- o[i] = e -/
def setR (y x k : R) (bx : Bx) : Option Bx := match x, k with
  | .r n, .v k => match bx[n]? with
    | some (.lst xs) => match k with
      | .int j => match atW j xs.length with
        | some p => some (bx.set n (.lst (xs.set p y)))
        | none => none
      | _ => none
    | some (.dct ks rs) => if keyFor ks k = true ∧ ks.length < SL then some (bx.set n (.dct (dSetK ks k) (dSetV ks rs k y))) else none
    | _ => none
  | _, _ => none
def cSet (o i e : E) : C := cE e fun y => cE o fun x => cE i fun k => fun en bx => match setR y x k bx with
  | some bx' => .nx en bx'
  | none => .stuck
def putF (f : Str) (r : R) : List (Str × R) → List (Str × R)
  | [] => [(f, r)]
  | (g, x) :: t => if g = f then (g, r) :: t else (g, x) :: putF f r t
/-- o.f = e -/
def cFld (o : E) (f : Str) (e : E) : C := cE e fun y => cE o fun x => fun en bx => match x with
  | .r n => match bx[n]? with
    | some (.ins c fs) => if fs.length < 1000 then .nx en (bx.set n (.ins c (putF f y fs))) else .stuck
    | _ => .stuck
  | _ => .stuck
def forGo (tg : Tg) (body : C) (g : Option (Nat × Box)) : List It → C
  | [], en, bx => if guarded bx g then .nx en bx else .stuck
  | x :: xs, en, bx => if guarded bx g then (match asg tg x en bx with
    | some en' => match body en' bx with
      | .nx en2 bx2 => forGo tg body g xs en2 bx2
      | .ct en2 bx2 => forGo tg body g xs en2 bx2
      | r => r
    | none => .stuck) else .stuck
def cFor (tg : Tg) (it : I) (body : C) : C := fun en bx => match it en bx with
  | .ok xs g bx' => forGo tg body g xs en bx'
  | .exc w bx' => .exc w en bx'
  | .stuck => .stuck
/-- so many turns at most -/
def whileGo (t : E) (body : C) : Nat → C
  | 0, _, _ => .stuck
  | n + 1, en, bx => match t en bx with
    | .ok (.v (.bl true)) bx1 => match body en bx1 with
      | .nx en2 bx2 => whileGo t body n en2 bx2
      | .ct en2 bx2 => whileGo t body n en2 bx2
      | r => r
    | .ok (.v (.bl false)) bx1 => .nx en bx1
    | .exc w bx1 => .exc w en bx1
    | _ => .stuck
def WF : Nat := 1000000000000000
def cWhile (t : E) (body : C) : C := whileGo t body WF
/-- raise C('..'): the text is not kept -/
def cRaise (c : Nat) (m : E) : C := cE m fun r => fun en bx => match r with
  | .v (.str _) => .exc (.exn c []) en bx
  | _ => .stuck
/-- raise ParseError(line) -/
def cRaise1 (c : Nat) (m : E) : C := cE m fun r => fun en bx => match r with
  | .v (.int i) => .exc (.exn c [.int i]) en bx
  | _ => .stuck
/-- try: body, except the class c as slot i: h -/
def cTry (T : Tab) (body : C) (c i : Nat) (h : C) : C := fun en bx => match body en bx with
  | .exc (.exn d l) en1 bx1 => if d < T.n ∧ T.exc d = true ∧ i < en1.length then (if T.sub d c then (match h (en1.set i (some (.v (.exn d l)))) bx1 with
      | .nx en2 bx2 => .nx (en2.set i none) bx2
      | .ct en2 bx2 => .ct (en2.set i none) bx2
      | .exc _ _ _ => .stuck
      | r => r) else .exc (.exn d l) en1 bx1) else .stuck
  | r => r
def caseGo (s : Str) : List (List Str × C) → C
  | [] => cPass
  | (ps, b) :: r => if ps.any (fun p => decide (p = s)) then b else caseGo s r
def cMatch (m : E) (cs : List (List Str × C)) : C := cE m fun r => match r with
  | .v (.str s) => caseGo s cs
  | _ => fun _ _ => .stuck

/-! ### a def's body -/
def run (n : Nat) (body : C) : List R → Bx → Res := fun args bx =>
  match body (args.map some ++ List.replicate (n - args.length) none) bx with
  | .nx _ bx' => .ok (.v .non) bx'
  | .rt r bx' => .ok r bx'
  | .exc w _ bx' => .exc w bx'
  | _ => .stuck
/-- n parameters, a frame of m slots -/
def runF (n m : Nat) (c : C) : List R → Bx → Res := fun args bx => if args.length = n then run m c args bx else .stuck

end AM
/-! text AmR -/
set_option Elab.async false
set_option linter.all false
set_option maxRecDepth 100000
set_option maxHeartbeats 2000000
/-! AmR: how the machine's values, boxes and frames stand in the abstract heap of the hand layer. -/
namespace AM
open PySem PySem.Spec PyProof.Rows L2

/-- the text's fixed things: where classes stand -/
structure Fx where
  P : Program
  w : World
  K : PySem.W.Frag
  ca : Nat → Addr

-- nested keys
mutual
def nk : W → Option NestedKey
  | .int i => some (.num i)
  | .str s => some (.text s)
  | .tup xs => (nks xs).map .tup
  | _ => none
def nks : List W → Option (List NestedKey)
  | [] => some []
  | x :: r => match nk x, nks r with
    | some a, some b => some (a :: b)
    | _, _ => none
end
def hashW (w : World) (k : W) : Option Int := (nk k).map fun n => n.hash w
/-- the keys of a dict: one kind -/
structure KindOk (ks : List W) : Prop where
  key : ∀ k ∈ ks, keyB k = true
  one : (∀ k ∈ ks, k.isT = true) ∨ (∀ k ∈ ks, k.isT = false)
/-- the object that stands at a, exactly -/
def pinO (a : Addr) (o : Obj) : HO := .ext fun h => h.get? a = some o
/-- an error of the class at C, its own dict d -/
def exnO (a C : Addr) (d : Option Addr) : HO := .ext fun h => ∃ oe vs, h.get? a = some oe ∧ oe.cls = .ref C ∧ oe.dict = d ∧ oe.data = .fields vs

def KT (K : PySem.W.Frag) (a : Addr) (xs : List V) : Prop := SqT K (fun _ => none) a xs
def KL (K : PySem.W.Frag) (a : Addr) (xs : List V) : Prop := SqL K (fun _ => none) a xs

section
variable (F : Fx) (Z : Addr → Prop) (H : Hp)
mutual
/-- a value of the machine, in the heap: all that it names is of Z -/
inductive RW : W → V → Prop
  | non : RW .non .non
  | bl (b : Bool) : RW (.bl b) (.bl b)
  | int (i : Int) : RW (.int i) (.int i)
  | str (s : Str) : RW (.str s) (.str s)
  | tup {ws : List W} {a : Addr} {vs : List V} : (Z a ∧ Rd H a (.tup vs)) ∨ KT F.K a vs → vs.length ≤ sizeLine → RWs ws vs → RW (.tup ws) (.ref a)
  | lst {ws : List W} {a : Addr} {vs : List V} : Z a → H a = some (.lst vs) → vs.length ≤ sizeLine → RWs ws vs → RW (.lst ws) (.ref a)
  | scr {ws : List W} {a : Addr} {vs : List V} : (Z a ∧ Rd H a (.lst vs)) ∨ KL F.K a vs → vs.length ≤ sizeLine → RWs ws vs → RW (.scr ws) (.ref a)
  | dct {ks vs : List W} {a : Addr} {o : Obj} {es : Array DictEntry} {ep : Nat} {xv : List V} : (Z a ∧ H a = some (pinO a o)) ∨ F.K.lookup a = some o → (a == sysModules) = false → o.ExactDict → o.data = .dict es ep → ks.length ≤ sizeLine →
      RD ks xv es.toList → RWs vs xv → ks.Nodup → KindOk ks → RW (.dct ks vs) (.ref a)
  | ins {c : Nat} {fs : List Str} {ws : List W} {a dx : Addr} {fv : List (Str × V)} : Z a → H a = some (.ins (F.ca c) dx fv) → fv.map (·.1) = fs → RWs ws (fv.map (·.2)) → RW (.ins c fs ws) (.ref a)
  | exn {c : Nat} {a : Addr} : Z a → H a = some (exnO a (F.ca c) none) → RW (.exn c []) (.ref a)
  | exn1 {c : Nat} {a d : Addr} {i : Int} : Z a → H a = some (exnO a (F.ca c) (some d)) → Z d → H d = some (.xd [(("line" : Str), .int i)]) → RW (.exn c [.int i]) (.ref a)
inductive RWs : List W → List V → Prop
  | nil : RWs [] []
  | cons {w : W} {v : V} {ws : List W} {vs : List V} : RW w v → RWs ws vs → RWs (w :: ws) (v :: vs)
inductive RD : List W → List V → List DictEntry → Prop
  | nil : RD [] [] []
  | cons {k : W} {kv x : V} {e : DictEntry} {ks : List W} {xs : List V} {es : List DictEntry} : RW k kv → RelV kv e.key → hashW F.w k = some e.hash → RelV x e.val → RD ks xs es → RD (k :: ks) (x :: xs) (e :: es)
end
end

section
variable {F : Fx} {Z Z' : Addr → Prop} {H H' : Hp}
theorem Rd.stay {a : Addr} {u : HO} (h : Rd H a u) (e : H' a = H a) : Rd H' a u := by
  unfold Rd
  rw [e]
  exact h
mutual
theorem RW.mono (hz : ∀ a, Z a → Z' a) (hh : ∀ a, Z a → H' a = H a) : ∀ {w : W} {v : V}, RW F Z H w v → RW F Z' H' w v
  | _, _, .non => .non
  | _, _, .bl b => .bl b
  | _, _, .int i => .int i
  | _, _, .str s => .str s
  | _, _, .tup p l r => .tup (p.imp (fun ⟨z, q⟩ => ⟨hz _ z, Rd.stay q (hh _ z)⟩) id) l (RWs.mono hz hh r)
  | _, _, .lst z q l r => .lst (hz _ z) ((hh _ z).trans q) l (RWs.mono hz hh r)
  | _, _, .scr p l r => .scr (p.imp (fun ⟨z, q⟩ => ⟨hz _ z, Rd.stay q (hh _ z)⟩) id) l (RWs.mono hz hh r)
  | _, _, .dct p s o1 o2 l d r n k => .dct (p.imp (fun ⟨z, q⟩ => ⟨hz _ z, (hh _ z).trans q⟩) id) s o1 o2 l (RD.mono hz hh d) (RWs.mono hz hh r) n k
  | _, _, .ins z q e r => .ins (hz _ z) ((hh _ z).trans q) e (RWs.mono hz hh r)
  | _, _, .exn z q => .exn (hz _ z) ((hh _ z).trans q)
  | _, _, .exn1 z q z2 q2 => .exn1 (hz _ z) ((hh _ z).trans q) (hz _ z2) ((hh _ z2).trans q2)
theorem RWs.mono (hz : ∀ a, Z a → Z' a) (hh : ∀ a, Z a → H' a = H a) : ∀ {ws : List W} {vs : List V}, RWs F Z H ws vs → RWs F Z' H' ws vs
  | _, _, .nil => .nil
  | _, _, .cons r t => .cons (RW.mono hz hh r) (RWs.mono hz hh t)
theorem RD.mono (hz : ∀ a, Z a → Z' a) (hh : ∀ a, Z a → H' a = H a) : ∀ {ks : List W} {vs : List V} {es : List DictEntry}, RD F Z H ks vs es → RD F Z' H' ks vs es
  | _, _, _, .nil => .nil
  | _, _, _, .cons r k h x t => .cons (RW.mono hz hh r) k h x (RD.mono hz hh t)
end
theorem RWs.length {ws : List W} {vs : List V} (h : RWs F Z H ws vs) : ws.length = vs.length := by
  induction ws generalizing vs with
  | nil => cases h; rfl
  | cons w ws ih => cases h with | cons _ t => simp [ih t]
theorem RWs.get {ws : List W} {vs : List V} (h : RWs F Z H ws vs) {i : Nat} {w : W} (e : ws[i]? = some w) : ∃ v, vs[i]? = some v ∧ RW F Z H w v := by
  induction ws generalizing vs i with
  | nil => simp at e
  | cons x ws ih =>
    cases h with
    | cons r t =>
      cases i with
      | zero => simp at e; subst e; exact ⟨_, rfl, r⟩
      | succ i => simpa using ih t (by simpa using e)
theorem RWs.append {a b : List W} {u v : List V} (h : RWs F Z H a u) (k : RWs F Z H b v) : RWs F Z H (a ++ b) (u ++ v) := by
  induction a generalizing u with
  | nil => cases h; exact k
  | cons w a ih => cases h with | cons r t => exact .cons r (ih t)
end

/-- the ground: boxes' places, what is frozen (Z) -/
structure Gd where
  al : List Addr
  Z : Addr → Prop
/-- what a slot holds -/
inductive RR (F : Fx) (g : Gd) (H : Hp) : R → V → Prop
  | v {w : W} {v : V} : RW F g.Z H w v → RR F g H (.v w) v
  | r {n : Nat} {a : Addr} : g.al[n]? = some a → RR F g H (.r n) (.ref a)
inductive RRs (F : Fx) (g : Gd) (H : Hp) : List R → List V → Prop
  | nil : RRs F g H [] []
  | cons {r : R} {v : V} {rs : List R} {vs : List V} : RR F g H r v → RRs F g H rs vs → RRs F g H (r :: rs) (v :: vs)

/-- a box -/
inductive BO (F : Fx) (g : Gd) (H : Hp) (a : Addr) : Box → Prop
  | lst {rs : List R} {vs : List V} : H a = some (.lst vs) → vs.length ≤ sizeLine → RRs F g H rs vs → BO F g H a (.lst rs)
  | dct {ks : List W} {rs : List R} {o : Obj} {es : Array DictEntry} {ep : Nat} {xv : List V} : H a = some (pinO a o) → (a == sysModules) = false → o.ExactDict → o.data = .dict es ep → ks.length ≤ sizeLine →
      RD F g.Z H ks xv es.toList → RRs F g H rs xv → ks.Nodup → KindOk ks → BO F g H a (.dct ks rs)
  | ins {c : Nat} {fs : List (Str × R)} {dx : Addr} {fv : List (Str × V)} : H a = some (.ins (F.ca c) dx fv) → fv.map (·.1) = fs.map (·.1) → RRs F g H (fs.map (·.2)) (fv.map (·.2)) → BO F g H a (.ins c fs)

/-- a later ground: all that was there stays, but the boxes -/
structure Ext (g : Gd) (H : Hp) (g' : Gd) (H' : Hp) : Prop where
  z : ∀ a, g.Z a → g'.Z a
  zn : ∀ a, g'.Z a → g.Z a ∨ H a = none
  al : ∃ t, g'.al = g.al ++ t ∧ ∀ a ∈ t, H a = none
  zk : ∀ a, g.Z a → H' a = H a
  keep : ∀ a, (H a).isSome → a ∉ g.al → H' a = H a
  there : ∀ a, (H a).isSome → (H' a).isSome
theorem Ext.refl (g : Gd) (H : Hp) : Ext g H g H := ⟨fun _ z => z, fun _ z => .inl z, ⟨[], by simp, by simp⟩, fun _ _ => rfl, fun _ _ _ => rfl, fun _ z => z⟩
theorem hnone {H H' : Hp} {a : Addr} (h : (H a).isSome → (H' a).isSome) (e : H' a = none) : H a = none := by
  cases q : H a with
  | none => rfl
  | some o =>
    have := h (by rw [q]; rfl)
    rw [e] at this
    cases this
theorem Ext.trans {g g1 g2 : Gd} {H H1 H2 : Hp} (a : Ext g H g1 H1) (b : Ext g1 H1 g2 H2) : Ext g H g2 H2 := by
  obtain ⟨t, e, ht⟩ := a.al
  obtain ⟨u, e', hu⟩ := b.al
  refine ⟨fun x z => b.z x (a.z x z), fun x z => ?_, ⟨t ++ u, by rw [e', e, List.append_assoc], fun x m => ?_⟩, fun x h => (b.zk x (a.z x h)).trans (a.zk x h), fun x h n => ?_, fun x h => b.there x (a.there x h)⟩
  · rcases b.zn x z with z | z
    · exact a.zn x z
    · exact .inr (hnone (a.there x) z)
  · rcases List.mem_append.mp m with m | m
    · exact ht x m
    · exact hnone (a.there x) (hu x m)
  · refine (b.keep x (a.there x h) fun m => ?_).trans (a.keep x h n)
    rw [e] at m
    rcases List.mem_append.mp m with m | m
    · exact n m
    · rw [ht x m] at h
      cases h
theorem RR.mono {F : Fx} {g g' : Gd} {H H' : Hp} (e : Ext g H g' H') {r : R} {v : V} (h : RR F g H r v) : RR F g' H' r v := by
  cases h with
  | v x => exact .v (x.mono e.z fun a z => e.zk a z)
  | r x =>
    obtain ⟨t, q, _⟩ := e.al
    refine .r ?_
    rw [q, List.getElem?_append_left (List.getElem?_eq_some_iff.mp x).1]
    exact x
theorem RRs.mono {F : Fx} {g g' : Gd} {H H' : Hp} (e : Ext g H g' H') {rs : List R} {vs : List V} (h : RRs F g H rs vs) : RRs F g' H' rs vs := by
  induction h with
  | nil => exact .nil
  | cons a _ ih => exact .cons (a.mono e) ih
theorem RRs.length {F : Fx} {g : Gd} {H : Hp} {rs : List R} {vs : List V} (h : RRs F g H rs vs) : rs.length = vs.length := by
  induction h with
  | nil => rfl
  | cons _ _ ih => simp [ih]
theorem RRs.append {F : Fx} {g : Gd} {H : Hp} {rs rs' : List R} {vs vs' : List V} (h : RRs F g H rs vs) (k : RRs F g H rs' vs') : RRs F g H (rs ++ rs') (vs ++ vs') := by
  induction h with
  | nil => exact k
  | cons a _ ih => exact .cons a ih
theorem RRs.of {F : Fx} {g : Gd} {H : Hp} {ws : List W} {vs : List V} (h : RWs F g.Z H ws vs) : RRs F g H (ws.map .v) vs := by
  induction ws generalizing vs with
  | nil => cases h; exact .nil
  | cons w ws ih => cases h with | cons a t => exact .cons (.v a) (ih t)
theorem RRs.vals {F : Fx} {g : Gd} {H : Hp} {rs : List R} {vs : List V} (h : RRs F g H rs vs) {ws : List W} (e : AM.vals rs = some ws) : RWs F g.Z H ws vs := by
  induction h generalizing ws with
  | nil => simp [AM.vals, mapO] at e; subst e; exact .nil
  | @cons r v rs vs a t ih =>
    cases a with
    | @v w v x =>
      simp only [AM.vals, mapO, valO, Option.map_eq_some_iff] at e
      obtain ⟨ws', e1, rfl⟩ := e
      exact .cons x (ih e1)
    | r _ => simp [AM.vals, mapO, valO] at e
theorem RRs.get {F : Fx} {g : Gd} {H : Hp} {rs : List R} {vs : List V} (h : RRs F g H rs vs) {i : Nat} {r : R} (e : rs[i]? = some r) : ∃ v, vs[i]? = some v ∧ RR F g H r v := by
  induction h generalizing i with
  | nil => simp at e
  | cons a _ ih =>
    cases i with
    | zero => simp at e; subst e; exact ⟨_, rfl, a⟩
    | succ i => simpa using ih (by simpa using e)
theorem BO.mono {F : Fx} {g g' : Gd} {H H' : Hp} {a : Addr} {b : Box} (e : Ext g H g' H') (k : H' a = H a) (h : BO F g H a b) : BO F g' H' a b := by
  cases h with
  | lst q l r => exact .lst (k.trans q) l (r.mono e)
  | dct q s o1 o2 l d r n kk => exact .dct (k.trans q) s o1 o2 l (d.mono e.z fun a z => e.zk a z) (r.mono e) n kk
  | ins q f r => exact .ins (k.trans q) f (r.mono e)

/-- the machine's boxes stand in the heap -/
structure BxOk (F : Fx) (g : Gd) (bx : Bx) (H : Hp) : Prop where
  len : bx.length = g.al.length
  nd : g.al.Nodup
  at_ : ∀ (n : Nat) (a : Addr) (b : Box), g.al[n]? = some a → bx[n]? = some b → BO F g H a b
  free : ∀ a ∈ g.al, ¬ g.Z a
  trk : ∀ a, g.Z a → (H a).isSome
/-- a frame -/
def EnOk (F : Fx) (g : Gd) (en : En) (σ : L2.St) (H : Hp) : Prop := en.length = σ.length ∧ ∀ (i : Nat) (r : R), en[i]? = some (some r) → ∃ v, σ[i]? = some (some v) ∧ RR F g H r v
theorem EnOk.mono {F : Fx} {g g' : Gd} {H H' : Hp} {en : En} {σ : L2.St} (e : Ext g H g' H') (h : EnOk F g en σ H) : EnOk F g' en σ H' :=
  ⟨h.1, fun i r q => let ⟨v, a, b⟩ := h.2 i r q; ⟨v, a, b.mono e⟩⟩
theorem BxOk.alsome {F : Fx} {g : Gd} {bx : Bx} {H : Hp} (h : BxOk F g bx H) {a : Addr} (m : a ∈ g.al) : (H a).isSome := by
  obtain ⟨n, hn, e⟩ := List.mem_iff_getElem.mp m
  have e1 : g.al[n]? = some a := by rw [List.getElem?_eq_getElem hn, e]
  have hb : n < bx.length := by rw [h.len]; exact hn
  have := h.at_ n a bx[n] e1 (List.getElem?_eq_getElem hb)
  generalize bx[n] = bb at this
  cases this with
  | lst q _ _ => rw [q]; rfl
  | dct q _ _ _ _ _ _ _ _ => rw [q]; rfl
  | ins q _ _ => rw [q]; rfl

theorem BxOk.np {F : Fx} {g : Gd} {bx : Bx} {H : Hp} {p : Addr} (h : BxOk F g bx H) (hp : H p = none) : ∀ a, (H a).isSome → a ≠ p := fun a q e => by rw [e, hp] at q; cases q
theorem ext_new {g g' : Gd} {H : Hp} {p : Addr} {o : HO} (hp : H p = none) (hz : ∀ a, g.Z a → (H a).isSome) (z : ∀ a, g.Z a → g'.Z a) (zn : ∀ a, g'.Z a → g.Z a ∨ a = p) (al : ∃ t, g'.al = g.al ++ t ∧ ∀ a ∈ t, a = p) : Ext g H g' (upd H p o) := by
  have np : ∀ a, (H a).isSome → a ≠ p := fun a q e => by rw [e, hp] at q; cases q
  obtain ⟨t, e, ht⟩ := al
  refine ⟨z, fun a q => (zn a q).imp id fun e => by rw [e]; exact hp, ⟨t, e, fun a m => by rw [ht a m]; exact hp⟩, fun a q => upd_ne (np a (hz a q)), fun a q _ => upd_ne (np a q), fun a q => ?_⟩
  rw [upd_ne (np a q)]
  exact q
/-- a new frozen object at p -/
def Gd.froze (g : Gd) (p : Addr) : Gd := { g with Z := fun a => g.Z a ∨ a = p }
theorem BxOk.frozen {F : Fx} {g : Gd} {bx : Bx} {H : Hp} {p : Addr} {o : HO} (h : BxOk F g bx H) (hp : H p = none) : Ext g H (g.froze p) (upd H p o) ∧ BxOk F (g.froze p) bx (upd H p o) := by
  have np := h.np hp
  have x : Ext g H (g.froze p) (upd H p o) := ext_new hp h.trk (fun _ z => .inl z) (fun _ z => z) ⟨[], by simp [Gd.froze], by simp⟩
  refine ⟨x, h.len, h.nd, fun n a b e1 e2 => (h.at_ n a b e1 e2).mono x (upd_ne (np a (h.alsome (List.mem_of_getElem? e1)))), fun a m z => ?_, fun a q => ?_⟩
  · rcases z with z | z
    · exact h.free a m z
    · exact np a (h.alsome m) z
  · by_cases e : a = p
    · subst e; rw [upd_same]; rfl
    · rw [upd_ne e]
      rcases q with q | q
      · exact h.trk a q
      · exact absurd q e
/-- a new box at p -/
def Gd.boxed (g : Gd) (p : Addr) : Gd := { g with al := g.al ++ [p] }
theorem BxOk.boxed {F : Fx} {g : Gd} {bx : Bx} {H : Hp} {p : Addr} {o : HO} {b : Box} (h : BxOk F g bx H) (hp : H p = none) (new : Ext g H (g.boxed p) (upd H p o) → BO F (g.boxed p) (upd H p o) p b) :
    Ext g H (g.boxed p) (upd H p o) ∧ BxOk F (g.boxed p) (bx ++ [b]) (upd H p o) := by
  have np := h.np hp
  have x : Ext g H (g.boxed p) (upd H p o) := ext_new hp h.trk (fun _ z => z) (fun _ z => .inl z) ⟨[p], rfl, by simp⟩
  refine ⟨x, by simp [Gd.boxed, h.len], ?_, fun n a b' e1 e2 => ?_, fun a m z => ?_, fun a q => ?_⟩
  · refine List.nodup_append.mpr ⟨h.nd, by simp, fun a m b m' e => ?_⟩
    rw [List.mem_singleton] at m'
    exact np a (h.alsome m) (e.trans m')
  · have e1 : (g.al ++ [p])[n]? = some a := e1
    by_cases hn : n < g.al.length
    · rw [List.getElem?_append_left hn] at e1
      rw [List.getElem?_append_left (by rw [h.len]; exact hn)] at e2
      exact (h.at_ n a b' e1 e2).mono x (upd_ne (np a (h.alsome (List.mem_of_getElem? e1))))
    · have hn' : n = g.al.length := by
        have := (List.getElem?_eq_some_iff.mp e1).1
        simp at this
        omega
      subst hn'
      simp at e1
      rw [← h.len] at e2
      simp at e2
      subst e1
      subst e2
      exact new x
  · rcases List.mem_append.mp m with m | m
    · exact h.free a m z
    · rw [List.mem_singleton] at m
      subst m
      have := h.trk a z
      rw [hp] at this; cases this
  · rw [upd_ne (np a (h.trk a q))]
    exact h.trk a q
/-- a box changed -/
theorem BxOk.set {F : Fx} {g : Gd} {bx : Bx} {H : Hp} {n : Nat} {p : Addr} {o : HO} {b : Box} (h : BxOk F g bx H) (e : g.al[n]? = some p) (new : Ext g H g (upd H p o) → BO F g (upd H p o) p b) :
    Ext g H g (upd H p o) ∧ BxOk F g (bx.set n b) (upd H p o) := by
  have mp := List.mem_of_getElem? e
  have np : ∀ a, g.Z a → a ≠ p := fun a q z => by
    subst z
    exact h.free a mp q
  have x : Ext g H g (upd H p o) := by
    refine ⟨fun _ z => z, fun _ z => .inl z, ⟨[], by simp, by simp⟩, fun a q => upd_ne (np a q), fun a q na => upd_ne fun z => na (z ▸ mp), fun a q => ?_⟩
    by_cases z : a = p
    · subst z; rw [upd_same]; rfl
    · rw [upd_ne z]; exact q
  refine ⟨x, by simp [h.len], h.nd, fun m a b' e1 e2 => ?_, h.free, fun a q => ?_⟩
  · by_cases hm : m = n
    · subst hm
      rw [e] at e1
      cases e1
      have hb : m < bx.length := by
        have := (List.getElem?_eq_some_iff.mp e2).1
        simpa using this
      rw [List.getElem?_set_self hb] at e2
      cases e2
      exact new x
    · rw [List.getElem?_set_ne (Ne.symm hm)] at e2
      have na : a ≠ p := fun z => by
        subst z
        have l1 := (List.getElem?_eq_some_iff.mp e1).1
        have l2 := (List.getElem?_eq_some_iff.mp e).1
        have q1 := (List.getElem?_eq_some_iff.mp e1).2
        have q2 := (List.getElem?_eq_some_iff.mp e).2
        exact hm ((List.getElem_inj h.nd).mp (q1.trans q2.symm))
      exact (h.at_ m a b' e1 e2).mono x (upd_ne na)
  · rw [upd_ne (np a q)]
    exact h.trk a q
end AM
/-! text AmS1 -/
set_option Elab.async false
set_option linter.all false
set_option maxRecDepth 100000
set_option maxHeartbeats 2000000
/-! AmS1: what it is that a meaning is right of an expression; names, constants, displays, operators. -/
namespace AM
open PySem PySem.Spec PyProof.Rows L2

abbrev fx (X : Cx) (ca : Nat → Addr) : Fx := ⟨X.prog, X.w, X.K, ca⟩

/-- an error in the air: its class, its own dict -/
def XR (F : Fx) (g : Gd) (H : Hp) (w : W) (cls : Value) (d : Option Addr) : Prop :=
  ∃ c, cls = .ref (F.ca c) ∧ ((w = .exn c [] ∧ d = none) ∨ ∃ i a, w = .exn c [.int i] ∧ d = some a ∧ g.Z a ∧ H a = some (.xd [(("line" : Str), .int i)]))

def PostR (F : Fx) (g : Gd) (σ : L2.St) (H : Hp) (Wx : WX) (Q : VK) : Res → Prop
  | .ok r bx => ∀ g' H' v, Ext g H g' H' → BxOk F g' bx H' → RR F g' H' r v → Q v H'
  | .exc w bx => ∀ g' H' cls d, Ext g H g' H' → BxOk F g' bx H' → XR F g' H' w cls d → Wx cls d σ H'
  | .stuck => False
theorem PostR.ext {F : Fx} {g g1 : Gd} {σ : L2.St} {H H1 : Hp} {Wx : WX} {Q : VK} {r : Res} (e : Ext g H g1 H1) (h : PostR F g σ H Wx Q r) : PostR F g1 σ H1 Wx Q r := by
  cases r with
  | ok r bx => exact fun g' H' v e' b q => h g' H' v (e.trans e') b q
  | exc w bx => exact fun g' H' c d e' b q => h g' H' c d (e.trans e') b q
  | stuck => exact h

/-- the meaning m, in any frame and boxes that stand -/
def tM (F : Fx) (Wx : WX) (m : E) : TE := fun σ H Q => ∃ g en bx, EnOk F g en σ H ∧ BxOk F g bx H ∧ PostR F g σ H Wx Q (m en bx)
/-- .. with answers at hand -/
def tK (F : Fx) (Wx : WX) (k : List R → E) (vs : List V) : TE := fun σ H Q => ∃ g en bx rs, EnOk F g en σ H ∧ BxOk F g bx H ∧ RRs F g H rs vs ∧ PostR F g σ H Wx Q (k rs en bx)
/-- an operation that raises nothing -/
def PostO (F : Fx) (g : Gd) (H : Hp) (Q : VK) : Res → Prop
  | .ok r bx => ∀ g' H' v, Ext g H g' H' → BxOk F g' bx H' → RR F g' H' r v → Q v H'
  | _ => False
def tO (F : Fx) (f : Op) (vs : List V) (H : Hp) (Q : VK) : Prop := ∃ g bx rs, BxOk F g bx H ∧ RRs F g H rs vs ∧ PostO F g H Q (f rs bx)
/-- no way of an operation raises -/
def NoX (f : Op) : Prop := ∀ rs bx w bx', f rs bx ≠ .exc w bx'

structure SE (X : Cx) (ca : Nat → Addr) (m : E) (e : Expr) : Prop where
  pe : ∀ Wx : WX, Takes X Wx → PE X e (tM (fx X ca) Wx m)

theorem PE.imp {X : Cx} {e : Expr} {t t' : TE} (h : PE X e t) (q : ∀ σ H Q, t' σ H Q → t σ H Q) : PE X e t' := ⟨fun pins s σ H Q I h' => h.run pins s σ H Q I (q σ H Q h')⟩
theorem PT.imp {X : Cx} {e : Expr} {t t' : TT} (h : PT X e t) (q : ∀ σ H Q, t' σ H Q → t σ H Q) : PT X e t' := ⟨fun pins s σ H Q I h' => h.run pins s σ H Q I (q σ H Q h')⟩
theorem PA.imp {X : Cx} {es : List Expr} {t t' : TA} (h : PA X es t) (q : ∀ σ H Q, t' σ H Q → t σ H Q) : PA X es t' := ⟨fun pos pins s σ H Q I h' => h.run pos pins s σ H Q I (q σ H Q h')⟩

section
variable {F : Fx} {Wx : WX}
theorem tK_of {m : E} {σ : L2.St} {H : Hp} {Q : VK} (h : tM F Wx m σ H Q) : tK F Wx (fun _ => m) [] σ H Q := by
  obtain ⟨g, en, bx, a, b, c⟩ := h
  exact ⟨g, en, bx, [], a, b, .nil, c⟩
/-- the next part -/
theorem tK_bind {m : E} {k : List R → E} {vs : List V} {σ : L2.St} {H : Hp} {Q : VK} (h : tK F Wx (fun rs => eBind m fun r => k (rs ++ [r])) vs σ H Q) : tM F Wx m σ H fun v H1 => tK F Wx k (vs ++ [v]) σ H1 Q := by
  obtain ⟨g, en, bx, rs, a, b, c, p⟩ := h
  refine ⟨g, en, bx, a, b, ?_⟩
  show PostR F g σ H Wx _ (m en bx)
  have p : PostR F g σ H Wx Q (match m en bx with
    | .ok r bx' => k (rs ++ [r]) en bx'
    | .exc w bx' => .exc w bx'
    | .stuck => .stuck) := p
  cases e : m en bx with
  | ok r bx' =>
    rw [e] at p
    exact fun g' H' v e' b' q => ⟨g', en, bx', rs ++ [r], a.mono e', b', (c.mono e').append (.cons q .nil), PostR.ext e' p⟩
  | exc w bx' =>
    rw [e] at p
    exact p
  | stuck =>
    rw [e] at p
    exact p
theorem tK_op {f : Op} {vs : List V} {σ : L2.St} {H : Hp} {Q : VK} (n : NoX f) (h : tK F Wx (fun rs _ bx => f rs bx) vs σ H Q) : tO F f vs H Q := by
  obtain ⟨g, en, bx, rs, a, b, c, p⟩ := h
  refine ⟨g, bx, rs, b, c, ?_⟩
  have p : PostR F g σ H Wx Q (f rs bx) := p
  cases e : f rs bx with
  | ok r bx' => rw [e] at p; exact p
  | exc w bx' => exact absurd e (n rs bx w bx')
  | stuck => rw [e] at p; exact p
end

/-! ### names, constants -/
section
variable {X : Cx} {ca : Nat → Addr}
theorem se_var {i : Nat} {x : Str} {pos : Pos} (hN : X.N[i]? = some x) (hv : Vis X.env.scope x) (hd : (x == ("__debug__" : Str)) = false) (hcd : (x == ("__classdict__" : Str)) = false) : SE X ca (eVar i) (.Name x pos) := ⟨fun Wx _ =>
  PE.imp (pe_var hN hv hd hcd) fun σ H Q ⟨g, en, bx, a, b, p⟩ => by
    have p : PostR (fx X ca) g σ H Wx Q (match en[i]? with
      | some (some r) => .ok r bx
      | _ => .stuck) := p
    split at p
    · rename_i r e
      obtain ⟨v, e1, r1⟩ := a.2 i r e
      exact ⟨v, e1, p g H v (Ext.refl g H) b r1⟩
    · exact p.elim⟩
theorem se_const {e : Expr} {v : V} {w : W} (h : PE X e (tC v)) (r : ∀ Z H, RW (fx X ca) Z H w v) : SE X ca (eC w) e := ⟨fun Wx _ =>
  PE.imp h fun σ H Q ⟨g, en, bx, a, b, p⟩ => p g H v (Ext.refl g H) b (.v (r _ _))⟩
theorem se_int {i j pos} : SE X ca (eC (.int i)) (.Constant (.int i) j pos) := se_const pe_int fun _ _ => .int i
theorem se_bl {b j pos} : SE X ca (eC (.bl b)) (.Constant (.bool b) j pos) := se_const pe_bl fun _ _ => .bl b
theorem se_non {j pos} : SE X ca (eC .non) (.Constant .none j pos) := se_const pe_non fun _ _ => .non
theorem se_str {x j pos} : SE X ca (eC (.str x)) (.Constant (.str x) j pos) := se_const pe_str fun _ _ => .str x
end

/-! ### argument lists -/
/-- as eArgs, the answers so far ahead -/
def argsK (as : List (Bool × E)) (k : List R → E) (rs : List R) : E := eArgs as fun xs => k (rs ++ xs)
structure SA (X : Cx) (ca : Nat → Addr) (as : List (Bool × E)) (es : List Expr) : Prop where
  pa : ∀ (Wx : WX) (k : List R → E) (vs : List V), Takes X Wx → PA X es fun σ H Q => ∃ Q0, tK (fx X ca) Wx (argsK as k) vs σ H Q0 ∧ ∀ xs H1, tK (fx X ca) Wx k (vs ++ xs) σ H1 Q0 → Q xs H1
section
variable {X : Cx} {ca : Nat → Addr} {e : Expr} {es : List Expr} {m : E} {as : List (Bool × E)}
theorem sa_nil : SA X ca [] [] := ⟨fun Wx k vs _ => PA.imp pa_nil fun σ H Q ⟨Q0, h, q⟩ => by
  refine q [] H ?_
  obtain ⟨g, en, bx, rs, a, b, c, p⟩ := h
  refine ⟨g, en, bx, rs, a, b, by rw [List.append_nil]; exact c, ?_⟩
  have p : PostR (fx X ca) g σ H Wx Q0 (k (rs ++ []) en bx) := p
  rw [List.append_nil] at p
  exact p⟩
theorem sa_cons (hs : starEach (e :: es) X.env = (false, eval e X.env) :: starEach es X.env) (he : SE X ca m e) (hr : SA X ca as es) : SA X ca ((false, m) :: as) (e :: es) := ⟨fun Wx k vs tk => by
  refine PA.imp (t := fun σ H Q => ∃ v0 : List V, True ∧ ∃ Q0, tM (fx X ca) Wx m σ H (fun v H1 => tK (fx X ca) Wx (argsK as k) (vs ++ [v]) σ H1 Q0) ∧ ∀ xs H1, tK (fx X ca) Wx k (vs ++ xs) σ H1 Q0 → Q xs H1) ?_ ?_
  · refine ⟨fun pos pins s σ H Q I ⟨_, _, Q0, h, q⟩ => ?_⟩
    rw [hs]
    show wpAny _ _ (spliced ((false, eval e X.env) :: backTo pos (starEach es X.env))) _ _ s
    refine Calls.spliced_cons (thn ((he.pe Wx tk).run pins s σ H _ I h) fun u s1 ⟨x, H1, I1, r1, q1⟩ => ?_)
    refine thn ((hr.pa Wx k (vs ++ [x]) tk).run pos pins s1 σ H1 (fun xs H2 => Q (x :: xs) H2) I1 ⟨Q0, q1, fun xs H2 h2 => q (x :: xs) H2 (by
      have e1 : vs ++ [x] ++ xs = vs ++ x :: xs := by simp
      rw [e1] at h2
      exact h2)⟩) fun us s2 ⟨xs, H2, I2, r2, q2⟩ => ⟨x :: xs, H2, I2, .cons r1 r2, q2⟩
  · intro σ H Q ⟨Q0, h, q⟩
    refine ⟨[], trivial, Q0, tK_bind (k := argsK as k) ?_, q⟩
    obtain ⟨g, en, bx, rs, a, b, c, p⟩ := h
    refine ⟨g, en, bx, rs, a, b, c, ?_⟩
    have e1 : argsK ((false, m) :: as) k rs = eBind m fun r => argsK as k (rs ++ [r]) := by
      show (eBind m fun x => eArgs as fun xs => k (rs ++ x :: xs)) = _
      congr 1
      funext x
      unfold argsK
      congr 1
      funext xs
      congr 1
      simp
    rw [e1] at p
    exact p⟩
theorem RR.seq {F : Fx} {g : Gd} {bx : Bx} {H : Hp} {r : R} {v : V} {xs : List R} (b : BxOk F g bx H) (h : RR F g H r v) (e : itS bx r = some xs) : ∃ a vs, v = .ref a ∧ (SqT F.K H a vs ∨ H a = some (.lst vs)) ∧ vs.length ≤ sizeLine ∧ RRs F g H xs vs := by
  cases h with
  | @v w v h =>
    cases h with
    | tup p l rs =>
      simp only [itS, Option.some.injEq] at e
      subst e
      exact ⟨_, _, rfl, .inl (p.elim (fun z => .inl z.2) (fun z => z.elim (fun q => q.elim (fun t => nomatch t) fun ⟨_, t⟩ => nomatch t) .inr)), l, .of rs⟩
    | lst z q l rs =>
      simp only [itS, itL, Option.some.injEq] at e
      subst e
      exact ⟨_, _, rfl, .inr q, l, .of rs⟩
    | _ => simp [itS, itL] at e
  | @r n a q =>
    simp only [itS, itL] at e
    have hn : n < bx.length := by
      rw [b.len]
      exact (List.getElem?_eq_some_iff.mp q).1
    cases hb : bx[n]? with
    | none => rw [hb] at e; simp at e
    | some bb =>
      rw [hb] at e
      have := b.at_ n a bb q hb
      cases this with
      | lst q l rs => simp at e; subst e; exact ⟨_, _, rfl, .inr q, l, rs⟩
      | dct _ _ _ _ _ _ _ _ _ => simp at e
      | ins _ _ _ => simp at e
theorem RR.lst {F : Fx} {g : Gd} {bx : Bx} {H : Hp} {r : R} {v : V} {xs : List R} (b : BxOk F g bx H) (h : RR F g H r v) (e : itL bx r = some xs) : ∃ a vs, v = .ref a ∧ H a = some (.lst vs) ∧ vs.length ≤ sizeLine ∧ RRs F g H xs vs := by
  cases h with
  | @v w v h =>
    cases h with
    | lst z q l rs =>
      simp only [itL, Option.some.injEq] at e
      subst e
      exact ⟨_, _, rfl, q, l, .of rs⟩
    | _ => simp [itL] at e
  | @r n a q =>
    simp only [itL] at e
    cases hb : bx[n]? with
    | none => rw [hb] at e; simp at e
    | some bb =>
      rw [hb] at e
      have := b.at_ n a bb q hb
      cases this with
      | lst q l rs => simp at e; subst e; exact ⟨_, _, rfl, q, l, rs⟩
      | dct _ _ _ _ _ _ _ _ _ => simp at e
      | ins _ _ _ => simp at e
theorem sa_star {p : Pos} (hs : starEach (.Starred e p :: es) X.env = (true, eval e X.env) :: starEach es X.env) (he : SE X ca m e) (hr : SA X ca as es) : SA X ca ((true, m) :: as) (.Starred e p :: es) := ⟨fun Wx k vs tk => by
  refine ⟨fun pos pins s σ H Q I ⟨Q0, h, q⟩ => ?_⟩
  have h' : tM (fx X ca) Wx m σ H fun v H1 => ∃ a ys, v = .ref a ∧ (SqT X.K H1 a ys ∨ SqL X.K H1 a ys) ∧ tK (fx X ca) Wx (argsK as k) (vs ++ ys) σ H1 Q0 := by
    obtain ⟨g, en, bx, rs, a, b, c, pp⟩ := h
    refine ⟨g, en, bx, a, b, ?_⟩
    have pp : PostR (fx X ca) g σ H Wx Q0 (match m en bx with
      | .ok x bx' => (match itS bx' x with
        | some ys => eArgs as (fun xs => k (rs ++ (ys ++ xs))) en bx'
        | none => .stuck)
      | .exc w bx' => .exc w bx'
      | .stuck => .stuck) := pp
    cases e1 : m en bx with
    | ok r bx' =>
      rw [e1] at pp
      intro g' H' v e' b' r'
      simp only at pp
      cases e2 : itS bx' r with
      | none => rw [e2] at pp; exact pp.elim
      | some ys =>
        rw [e2] at pp
        obtain ⟨a1, ys', rfl, hy, _, ry⟩ := r'.seq b' e2
        refine ⟨a1, ys', rfl, hy.imp id .of, g', en, bx', rs ++ ys, a.mono e', b', (c.mono e').append ry, ?_⟩
        have e3 : argsK as k (rs ++ ys) = eArgs as (fun xs => k (rs ++ (ys ++ xs))) := by
          unfold argsK
          congr 1
          funext xs
          rw [List.append_assoc]
        rw [e3]
        exact PostR.ext e' pp
    | exc w bx' => rw [e1] at pp; exact pp
    | stuck => rw [e1] at pp; exact pp
  refine PySem.W.items_star (thn ((he.pe Wx tk).run pins s σ H _ I h') fun v s1 ⟨y, H1, I1, ry, a1, ys, ey, hx, q1⟩ => ?_) hs
  subst ey
  obtain rfl : v = Value.ref a1 := ry
  refine StX.star_any I1 hx fun us s2 I2 rv => ?_
  refine thn ((hr.pa Wx k (vs ++ ys) tk).run pos pins s2 σ H1 (fun xs H2 => Q (ys ++ xs) H2) I2 ⟨Q0, q1, fun xs H2 h2 => q (ys ++ xs) H2 (by rw [← List.append_assoc]; exact h2)⟩) fun ws s3 ⟨xs, H3, I3, r3, q3⟩ => ⟨ys ++ xs, H3, I3, rv.append r3, q3⟩⟩

/-- a display's items, then what is made of them -/
theorem SA.all {Wx : WX} {k : List R → E} (h : SA X ca as es) (tk : Takes X Wx) {t : TA} (ht : ∀ σ H Q, t σ H Q → ∃ Q0, tM (fx X ca) Wx (eArgs as k) σ H Q0 ∧ ∀ xs H1, tK (fx X ca) Wx k xs σ H1 Q0 → Q xs H1) : PA X es t :=
  PA.imp (h.pa Wx k [] tk) fun σ H Q h1 => by
    obtain ⟨Q0, h2, q⟩ := ht σ H Q h1
    obtain ⟨g, en, bx, a, b, c⟩ := h2
    exact ⟨Q0, ⟨g, en, bx, [], a, b, .nil, c⟩, fun xs H1 h3 => q xs H1 h3⟩
end
end AM
/-! text AmS2 -/
set_option Elab.async false
set_option linter.all false
set_option maxRecDepth 100000
set_option maxHeartbeats 2000000
/-! AmS2: displays, operators, comparisons, truth. -/
namespace AM
open PySem PySem.Spec PyProof.Rows L2

theorem SL_eq : SL = sizeLine := by rw [sizeLine_eq]; rfl
section
variable {F : Fx} {g : Gd} {bx : Bx} {H : Hp}
/-- a new tuple at p -/
theorem mkT_ok {rs : List R} {vs : List V} {Q : VK} (b : BxOk F g bx H) (r : RRs F g H rs vs) (h : PostO F g H Q (mkT rs bx)) : vs.length ≤ sizeLine ∧ ∀ p, H p = none → Q (.ref p) (upd H p (.tup vs)) := by
  unfold mkT at h
  split at h
  · rename_i hl
    rw [SL_eq, r.length] at hl
    refine ⟨hl, fun p hp => ?_⟩
    cases e : AM.vals rs with
    | none => rw [e] at h; exact h.elim
    | some ws =>
      rw [e] at h
      obtain ⟨x, b'⟩ := b.frozen (o := .tup vs) hp
      exact h _ _ _ x b' (.v (.tup (.inl ⟨.inr rfl, .inl upd_same⟩) hl ((r.vals e).mono x.z fun a z => x.zk a z)))
  · exact h.elim
/-- a new list at p, frozen or a box -/
theorem mkL_ok {m : Bool} {rs : List R} {vs : List V} {Q : VK} (b : BxOk F g bx H) (r : RRs F g H rs vs) (h : PostO F g H Q (mkL m rs bx)) : vs.length ≤ sizeLine ∧ ∀ p, H p = none → Q (.ref p) (upd H p (.lst vs)) := by
  unfold mkL at h
  split at h
  · rename_i hl
    rw [SL_eq, r.length] at hl
    refine ⟨hl, fun p hp => ?_⟩
    cases m with
    | true =>
      simp only [if_true] at h
      obtain ⟨x, b'⟩ := b.boxed (o := .lst vs) (b := .lst rs) hp fun x => .lst upd_same hl (r.mono x)
      refine h _ _ _ x b' (.r ?_)
      show (g.al ++ [p])[bx.length]? = some p
      rw [b.len]
      simp
    | false =>
      simp only [Bool.false_eq_true, if_false] at h
      cases e : AM.vals rs with
      | none => rw [e] at h; exact h.elim
      | some ws =>
        rw [e] at h
        obtain ⟨x, b'⟩ := b.frozen (o := .lst vs) hp
        exact h _ _ _ x b' (.v (.lst (.inr rfl) upd_same hl ((r.vals e).mono x.z fun a z => x.zk a z)))
  · exact h.elim
end
theorem noX_mkT : NoX mkT := by
  intro rs bx w bx' h
  unfold mkT at h
  split at h
  · split at h <;> cases h
  · cases h
theorem noX_mkL (m : Bool) : NoX (mkL m) := by
  intro rs bx w bx' h
  unfold mkL at h
  split at h
  · split at h
    · cases h
    · split at h <;> cases h
  · cases h

section
variable {X : Cx} {ca : Nat → Addr} {es : List Expr} {as : List (Bool × E)} {pos : Pos}
theorem se_tup {x1} (h : SA X ca as es) : SE X ca (eTup as) (.Tuple es x1 pos) := ⟨fun Wx tk =>
  PE.imp (pe_tup (h.all (k := fun xs _ bx => mkT xs bx) tk (t := fun σ H Q => ∃ Q0, tM (fx X ca) Wx (eTup as) σ H Q0 ∧ ∀ xs H1, tK (fx X ca) Wx (fun xs _ bx => mkT xs bx) xs σ H1 Q0 → Q xs H1) fun σ H Q x => x)) fun σ H Q x =>
    ⟨Q, x, fun xs H1 y => by
      obtain ⟨g, bx, rs, b, r, p⟩ := tK_op noX_mkT y
      exact mkT_ok b r p⟩⟩
theorem se_lst {m : Bool} (h : SA X ca as es) : SE X ca (eLst m as) (.List es pos) := ⟨fun Wx tk =>
  PE.imp (pe_lst (h.all (k := fun xs _ bx => mkL m xs bx) tk (t := fun σ H Q => ∃ Q0, tM (fx X ca) Wx (eLst m as) σ H Q0 ∧ ∀ xs H1, tK (fx X ca) Wx (fun xs _ bx => mkL m xs bx) xs σ H1 Q0 → Q xs H1) fun σ H Q x => x)) fun σ H Q x =>
    ⟨Q, x, fun xs H1 y => by
      obtain ⟨g, bx, rs, b, r, p⟩ := tK_op (noX_mkL m) y
      exact mkL_ok b r p⟩⟩

/-! ### two-place operations -/
variable {a b : Expr} {ma mb : E}
theorem eAll2 {ma mb : E} {f : Op} : eOp [ma, mb] f = eBind ma fun x => eBind mb fun y => fun _ bx => f [x, y] bx := rfl
theorem tM2 {F : Fx} {Wx : WX} {f : Op} {σ : L2.St} {H : Hp} {Q : VK} (n : NoX f) (h : tM F Wx (eOp [ma, mb] f) σ H Q) : tM F Wx ma σ H fun x H1 => tM F Wx mb σ H1 fun y H2 => tO F f [x, y] H2 Q := by
  obtain ⟨g, en, bx, a, b, c⟩ := h
  refine ⟨g, en, bx, a, b, ?_⟩
  have c : PostR F g σ H Wx Q (match ma en bx with
    | .ok r bx' => (match mb en bx' with
      | .ok r2 bx2 => f [r, r2] bx2
      | .exc w bx2 => .exc w bx2
      | .stuck => .stuck)
    | .exc w bx' => .exc w bx'
    | .stuck => .stuck) := c
  cases e : ma en bx with
  | ok r bx' =>
    rw [e] at c
    intro g' H' v e' b' r'
    refine ⟨g', en, bx', a.mono e', b', ?_⟩
    have c := PostR.ext e' c
    simp only at c
    cases e2 : mb en bx' with
    | ok r2 bx2 =>
      rw [e2] at c
      intro g2 H2 v2 e2' b2 r2'
      refine tK_op n ⟨g2, en, bx2, [r, r2], (a.mono e').mono e2', b2, .cons (r'.mono e2') (.cons r2' .nil), PostR.ext e2' c⟩
    | exc w bx' => rw [e2] at c; exact c
    | stuck => rw [e2] at c; exact c
  | exc w bx' => rw [e] at c; exact c
  | stuck => rw [e] at c; exact c
theorem se_op2 {op : Operator} {f : Op} (n : NoX f) (ho : OpR X (binaryOp op) fun x y H Q => tO (fx X ca) f [x, y] H Q) (ha : SE X ca ma a) (hb : SE X ca mb b) : SE X ca (eOp [ma, mb] f) (.BinOp a op b pos) := ⟨fun Wx tk =>
  PE.imp (pe_op ho (ha.pe Wx tk) (hb.pe Wx tk)) fun σ H Q x => tM2 n x⟩
/-- one -/
theorem tM1 {F : Fx} {Wx : WX} {f : Op} {σ : L2.St} {H : Hp} {Q : VK} (n : NoX f) (h : tM F Wx (eOp [ma] f) σ H Q) : tM F Wx ma σ H fun x H1 => tO F f [x] H1 Q := by
  obtain ⟨g, en, bx, a, b, c⟩ := h
  refine ⟨g, en, bx, a, b, ?_⟩
  have c : PostR F g σ H Wx Q (match ma en bx with
    | .ok r bx' => f [r] bx'
    | .exc w bx' => .exc w bx'
    | .stuck => .stuck) := c
  cases e : ma en bx with
  | ok r bx' =>
    rw [e] at c
    exact fun g' H' v e' b' r' => tK_op n ⟨g', en, bx', [r], a.mono e', b', .cons r' .nil, PostR.ext e' c⟩
  | exc w bx' => rw [e] at c; exact c
  | stuck => rw [e] at c; exact c
end

/-- an operation's answer that is known -/
theorem tO_ok {F : Fx} {f : Op} {vs : List V} {H : Hp} {Q : VK} (h : tO F f vs H Q) : ∃ g bx rs r bx', BxOk F g bx H ∧ RRs F g H rs vs ∧ f rs bx = .ok r bx' ∧ ∀ g' H' v, Ext g H g' H' → BxOk F g' bx' H' → RR F g' H' r v → Q v H' := by
  obtain ⟨g, bx, rs, b, r, p⟩ := h
  cases e : f rs bx with
  | ok r' bx' => rw [e] at p; exact ⟨g, bx, rs, r', bx', b, r, e, p⟩
  | exc w bx' => rw [e] at p; exact p.elim
  | stuck => rw [e] at p; exact p.elim
theorem RRs.two {F : Fx} {g : Gd} {H : Hp} {rs : List R} {x y : V} (h : RRs F g H rs [x, y]) : ∃ a b, rs = [a, b] ∧ RR F g H a x ∧ RR F g H b y := by
  cases h with
  | cons r t => cases t with | cons r' t' => cases t'; exact ⟨_, _, rfl, r, r'⟩
theorem RRs.one {F : Fx} {g : Gd} {H : Hp} {rs : List R} {x : V} (h : RRs F g H rs [x]) : ∃ a, rs = [a] ∧ RR F g H a x := by
  cases h with
  | cons r t => cases t; exact ⟨_, rfl, r⟩
theorem RRs.three {F : Fx} {g : Gd} {H : Hp} {rs : List R} {x y z : V} (h : RRs F g H rs [x, y, z]) : ∃ a b c, rs = [a, b, c] ∧ RR F g H a x ∧ RR F g H b y ∧ RR F g H c z := by
  cases h with
  | cons r t => cases t with | cons r' t' => cases t' with | cons r2 t2 => cases t2; exact ⟨_, _, _, rfl, r, r', r2⟩

theorem i64_ok {i : Int} (h : i64 i = true) : -(2 ^ 64) < i ∧ i < 2 ^ 64 := by
  unfold i64 at h
  simpa using h
theorem RW.sqT {F : Fx} {Z : Addr → Prop} {H : Hp} {a : Addr} {vs : List V} (p : (Z a ∧ Rd H a (.tup vs)) ∨ KT F.K a vs) : SqT F.K H a vs :=
  p.elim (fun z => .inl z.2) fun z => z.elim (fun q => q.elim (fun t => nomatch t) fun ⟨_, t⟩ => nomatch t) .inr
theorem noX_bin (o : Bop) (m : Bool) : NoX (opBin o m) := by
  intro rs bx w bx' h
  unfold opBin at h
  split at h
  · cases o <;> simp only [binR] at h
    · unfold addR at h
      repeat' split at h
      all_goals first
        | cases h
        | exact noX_mkL m _ _ _ _ h
    · unfold arR at h
      repeat' split at h
      all_goals cases h
    · unfold mulR at h
      repeat' split at h
      all_goals first
        | cases h
        | exact noX_mkL m _ _ _ _ h
    all_goals
      unfold arR at h
      repeat' split at h
      all_goals cases h
  · cases h
section
variable {X : Cx} {ca : Nat → Addr} {m : Bool}
theorem op_add : OpR X (binaryOp .Add) fun x y H Q => tO (fx X ca) (opBin .add m) [x, y] H Q := by
  intro pins s σ H x y v u Q I rx ry ⟨g, bx, rs, b, rr, p⟩
  obtain ⟨r1, r2, rfl, h1, h2⟩ := rr.two
  replace p : PostO (fx X ca) g H Q (addR m r1 r2 bx) := p
  unfold addR at p
  split at p
  · cases h1 with | v h1 => cases h1; cases h2 with | v h2 => cases h2; exact L2.op_add pins s σ H _ _ v u Q I rx ry ⟨_, _, rfl, rfl, p g H _ (Ext.refl g H) b (.v (.int _))⟩
  · cases h1 with | v h1 => cases h1; cases h2 with | v h2 =>
      cases h2
      split at p
      · rename_i hl
        exact op_add_str pins s σ H _ _ v u Q I rx ry ⟨_, _, rfl, rfl, by rw [← SL_eq]; exact hl, p g H _ (Ext.refl g H) b (.v (.str _))⟩
      · exact p.elim
  · rename_i ws1 ws2
    split at p
    · rename_i hl
      cases h1 with
      | v h1 => cases h1 with
        | @tup _ a1 vs1 p1 l1 q1 => cases h2 with
          | v h2 => cases h2 with
            | @tup _ a2 vs2 p2 l2 q2 =>
              have e1 := q1.length
              have e2 := q2.length
              have z : vs1.length + vs2.length ≤ sizeLine := by rw [← SL_eq, ← e1, ← e2]; exact hl
              refine op_catA pins s σ H _ _ v u Q I rx ry ⟨a1, a2, vs1, vs2, rfl, rfl, RW.sqT p1, RW.sqT p2, z, fun n1 => ?_, fun _ n2 => ?_, fun _ _ pp hp => ?_⟩
              · subst n1
                have : ws1 = [] := List.eq_nil_of_length_eq_zero (by rw [e1]; rfl)
                subst this
                exact p g H _ (Ext.refl g H) b (.v (.tup p2 l2 q2))
              · subst n2
                have : ws2 = [] := List.eq_nil_of_length_eq_zero (by rw [e2]; rfl)
                subst this
                rw [List.append_nil] at p
                exact p g H _ (Ext.refl g H) b (.v (.tup p1 l1 q1))
              · obtain ⟨x, b'⟩ := b.frozen (o := .tup (vs1 ++ vs2)) hp
                refine p _ _ _ x b' (.v (.tup (.inl ⟨.inr rfl, .inl upd_same⟩) (by rw [List.length_append]; exact z) ?_))
                exact (q1.append q2).mono x.z fun a z => x.zk a z
    · exact p.elim
  · split at p
    · rename_i xs e1
      split at p
      · rename_i ys e2
        obtain ⟨a1, v1, rfl, q1, _, t1⟩ := h1.lst b e1
        obtain ⟨a2, v2, rfl, q2, _, t2⟩ := h2.lst b e2
        obtain ⟨z, new⟩ := mkL_ok b (t1.append t2) p
        exact op_cat pins s σ H _ _ v u Q I rx ry ⟨a1, a2, v1, v2, rfl, rfl, q1, q2, by rw [← List.length_append]; exact z, new⟩
      · exact p.elim
    · exact p.elim
theorem RRs.rep {F : Fx} {g : Gd} {H : Hp} {rs : List R} {vs : List V} (h : RRs F g H rs vs) : ∀ k : Nat, RRs F g H (List.replicate k rs).flatten (List.replicate k vs).flatten
  | 0 => .nil
  | k + 1 => by
    rw [List.replicate_succ, List.replicate_succ, List.flatten_cons, List.flatten_cons]
    exact h.append (RRs.rep h k)
theorem op_mul : OpR X (binaryOp .Mult) fun x y H Q => tO (fx X ca) (opBin .mul m) [x, y] H Q := by
  intro pins s σ H x y v u Q I rx ry ⟨g, bx, rs, b, rr, p⟩
  obtain ⟨r1, r2, rfl, h1, h2⟩ := rr.two
  replace p : PostO (fx X ca) g H Q (mulR m r1 r2 bx) := p
  unfold mulR at p
  split at p
  · rename_i k
    cases h2 with | v h2 =>
    cases h2
    split at p
    · rename_i i
      cases h1 with | v h1 =>
      cases h1
      split at p
      · rename_i c
        refine L2.op_mul pins s σ H _ _ v u Q I rx ry ⟨_, _, rfl, rfl, ?_, p g H _ (Ext.refl g H) b (.v (.int _))⟩
        rw [Bool.or_eq_true] at c
        exact c.imp i64_ok i64_ok
      · exact p.elim
    · split at p
      · rename_i xs e1
        split at p
        · rename_i hk
          obtain ⟨a1, v1, rfl, q1, _, t1⟩ := h1.lst b e1
          obtain ⟨z, new⟩ := mkL_ok b (t1.rep k.toNat) p
          refine op_rep pins s σ H _ _ v u Q I rx ry ⟨a1, k, v1, rfl, rfl, q1, by omega, by omega, ?_, new⟩
          have e : (List.replicate k.toNat v1).flatten.length = v1.length * k.toNat := by simp [Nat.mul_comm]
          rw [← e]
          exact z
        · exact p.elim
      · exact p.elim
  · exact p.elim
theorem arR_int {o : Bop} {r1 r2 : R} {x y : V} {g : Gd} {bx : Bx} {H : Hp} {Q : VK} (b : BxOk (fx X ca) g bx H) (h1 : RR (fx X ca) g H r1 x) (h2 : RR (fx X ca) g H r2 y) (p : PostO (fx X ca) g H Q (arR o r1 r2 bx)) : ∃ i j k, x = .int i ∧ y = .int j ∧ arI o i j = some k ∧ Q (.int k) H := by
  unfold arR at p
  split at p
  · rename_i i j
    cases h1 with | v h1 => cases h1; cases h2 with | v h2 =>
      cases h2
      split at p
      · rename_i k e
        exact ⟨i, j, k, rfl, rfl, e, p g H _ (Ext.refl g H) b (.v (.int _))⟩
      · exact p.elim
  · exact p.elim
theorem op_sub : OpR X (binaryOp .Sub) fun x y H Q => tO (fx X ca) (opBin .sub m) [x, y] H Q := by
  intro pins s σ H x y v u Q I rx ry ⟨g, bx, rs, b, rr, p⟩
  obtain ⟨r1, r2, rfl, h1, h2⟩ := rr.two
  obtain ⟨i, j, k, rfl, rfl, e, q⟩ := arR_int b h1 h2 (show PostO (fx X ca) g H Q (arR .sub r1 r2 bx) from p)
  simp only [arI, Option.some.injEq] at e
  subst e
  exact L2.op_sub pins s σ H _ _ v u Q I rx ry ⟨_, _, rfl, rfl, q⟩
theorem op_fdiv : OpR X (binaryOp .FloorDiv) fun x y H Q => tO (fx X ca) (opBin .fdiv m) [x, y] H Q := by
  intro pins s σ H x y v u Q I rx ry ⟨g, bx, rs, b, rr, p⟩
  obtain ⟨r1, r2, rfl, h1, h2⟩ := rr.two
  obtain ⟨i, j, k, rfl, rfl, e, q⟩ := arR_int b h1 h2 (show PostO (fx X ca) g H Q (arR .fdiv r1 r2 bx) from p)
  simp only [arI] at e
  split at e
  · rename_i c
    cases e
    exact L2.op_fdiv pins s σ H _ _ v u Q I rx ry ⟨_, _, rfl, rfl, c, q⟩
  · cases e
theorem op_mod : OpR X (binaryOp .Mod) fun x y H Q => tO (fx X ca) (opBin .mod m) [x, y] H Q := by
  intro pins s σ H x y v u Q I rx ry ⟨g, bx, rs, b, rr, p⟩
  obtain ⟨r1, r2, rfl, h1, h2⟩ := rr.two
  obtain ⟨i, j, k, rfl, rfl, e, q⟩ := arR_int b h1 h2 (show PostO (fx X ca) g H Q (arR .mod r1 r2 bx) from p)
  simp only [arI] at e
  split at e
  · rename_i c
    cases e
    exact L2.op_mod pins s σ H _ _ v u Q I rx ry ⟨_, _, rfl, rfl, c, q⟩
  · cases e
theorem op_pow : OpR X (binaryOp .Pow) fun x y H Q => tO (fx X ca) (opBin .pow m) [x, y] H Q := by
  intro pins s σ H x y v u Q I rx ry ⟨g, bx, rs, b, rr, p⟩
  obtain ⟨r1, r2, rfl, h1, h2⟩ := rr.two
  obtain ⟨i, j, k, rfl, rfl, e, q⟩ := arR_int b h1 h2 (show PostO (fx X ca) g H Q (arR .pow r1 r2 bx) from p)
  simp only [arI] at e
  split at e
  · rename_i c
    cases e
    have z := i64_ok c.2.2
    exact L2.op_pow pins s σ H _ _ v u Q I rx ry ⟨_, _, rfl, rfl, ⟨c.1, c.2.1, by omega⟩, q⟩
  · cases e
def bopOf : Operator → Option Bop
  | .Add => some .add
  | .Sub => some .sub
  | .Mult => some .mul
  | .FloorDiv => some .fdiv
  | .Mod => some .mod
  | .Pow => some .pow
  | _ => none
theorem op_bin {o : Bop} {op : Operator} (e : bopOf op = some o) : OpR X (binaryOp op) fun x y H Q => tO (fx X ca) (opBin o m) [x, y] H Q := by
  cases op <;> simp [bopOf] at e <;> subst e
  · exact op_add
  · exact op_sub
  · exact op_mul
  · exact op_mod
  · exact op_pow
  · exact op_fdiv
theorem se_bin {o : Bop} {op : Operator} {a b : Expr} {ma mb : E} {pos : Pos} (e : bopOf op = some o) (ha : SE X ca ma a) (hb : SE X ca mb b) : SE X ca (eOp [ma, mb] (opBin o m)) (.BinOp a op b pos) := se_op2 (noX_bin o m) (op_bin e) ha hb
theorem se_neg {a : Expr} {ma : E} {pos : Pos} (ha : SE X ca ma a) : SE X ca (eOp [ma] opNeg) (.UnaryOp .USub a pos) := ⟨fun Wx tk =>
  PE.imp (pe_un un_neg (ha.pe Wx tk)) fun σ H Q x => by
    have n : NoX opNeg := by
      intro rs bx w bx' h
      unfold opNeg at h
      split at h <;> cases h
    obtain ⟨g, en, bx, a, b, c⟩ := tM1 n x
    refine ⟨g, en, bx, a, b, ?_⟩
    cases e : ma en bx with
    | ok r bx' =>
      rw [e] at c
      intro g' H' v e' b' r'
      obtain ⟨g2, bx2, rs, b2, rr, p⟩ := c g' H' v e' b' r'
      obtain ⟨r1, rfl, h1⟩ := rr.one
      unfold opNeg at p
      split at p
      · rename_i q
        injection q with q1 q2
        subst q1
        cases h1 with | v h1 =>
        cases h1
        exact ⟨_, rfl, p g2 H' _ (Ext.refl g2 H') b2 (.v (.int _))⟩
      · exact p.elim
    | exc w bx' => rw [e] at c; exact c
    | stuck => rw [e] at c; exact c⟩
end
end AM
/-! text AmS3 -/
set_option Elab.async false
set_option linter.all false
set_option maxRecDepth 100000
set_option maxHeartbeats 2000000
/-! AmS3: values seen as a whole; ==, in, is; truth. -/
namespace AM
open PySem PySem.Spec PyProof.Rows L2

abbrev Any : Addr → Prop := fun _ => True
section
variable {F : Fx} {g : Gd} {bx : Bx} {H : Hp}
theorem RW.any {Z : Addr → Prop} {w : W} {v : V} (h : RW F Z H w v) : RW F Any H w v := h.mono (fun _ _ => trivial) fun _ _ => rfl
theorem RWs.any {Z : Addr → Prop} {w : List W} {v : List V} (h : RWs F Z H w v) : RWs F Any H w v := h.mono (fun _ _ => trivial) fun _ _ => rfl
theorem mapO_ok {f : R → Option W} {P : R → V → Prop} {Z : Addr → Prop} {rs : List R} {vs : List V} {ws : List W} (h : RRs F g H rs vs) (k : ∀ r v w, RR F g H r v → f r = some w → RW F Z H w v) (e : mapO f rs = some ws) : RWs F Z H ws vs := by
  induction h generalizing ws with
  | nil => simp [mapO] at e; subst e; exact .nil
  | @cons r v rs vs a t ih =>
    unfold mapO at e
    split at e
    · rename_i y e1
      simp only [Option.map_eq_some_iff] at e
      obtain ⟨ws', e2, rfl⟩ := e
      exact .cons (k r v y a e1) (ih e2)
    · cases e
theorem view_ok (b : BxOk F g bx H) : ∀ (k : Nat) {r : R} {v : V} {w : W}, RR F g H r v → view bx k r = some w → RW F Any H w v
  | 0, r, v, w, h, e => by
    cases h with
    | v h => simp only [view, Option.some.injEq] at e; subst e; exact h.any
    | r _ => simp [view] at e
  | k + 1, r, v, w, h, e => by
    cases h with
    | v h => simp only [view, Option.some.injEq] at e; subst e; exact h.any
    | @r n a q =>
      simp only [view] at e
      split at e
      · rename_i xs hb
        have := b.at_ n a _ q hb
        cases this with
        | lst q l rs =>
          simp only [Option.map_eq_some_iff] at e
          obtain ⟨ws, e1, rfl⟩ := e
          exact .lst trivial q l (mapO_ok (P := fun _ _ => True) rs (fun r v w a e => view_ok b k a e) e1)
      · rename_i ks rs hb
        have := b.at_ n a _ q hb
        cases this with
        | dct q s o1 o2 l d r n kk =>
          simp only [Option.map_eq_some_iff] at e
          obtain ⟨ws, e1, rfl⟩ := e
          exact .dct (.inl ⟨trivial, q⟩) s o1 o2 l (d.mono (fun _ _ => trivial) fun _ _ => rfl) (mapO_ok (P := fun _ _ => True) r (fun r v w a e => view_ok b k a e) e1) n kk
      · rename_i c fs hb
        have := b.at_ n a _ q hb
        cases this with
        | ins q f r =>
          simp only [Option.map_eq_some_iff] at e
          obtain ⟨ws, e1, rfl⟩ := e
          exact .ins trivial q f (mapO_ok (P := fun _ _ => True) r (fun r v w a e => view_ok b k a e) e1)
      · cases e
end

/-! ### data -/
mutual
def W.dat : W → PyData
  | .bl b => .bool b
  | .int i => .int i
  | .str s => .str s
  | .tup xs => .tuple (W.dats xs)
  | .lst xs => .list (W.dats xs)
  | _ => .none
def W.dats : List W → List PyData
  | [] => []
  | x :: r => W.dat x :: W.dats r
end
mutual
theorem W.dat_lay : ∀ w : W, w.lay = true → w.dat.canLay0 = true
  | .non, _ => by simp [W.dat, PyData.canLay0]
  | .bl _, _ => by simp [W.dat, PyData.canLay0]
  | .int _, _ => by simp [W.dat, PyData.canLay0]
  | .str s, h => by
    simp only [W.lay] at h
    simp only [W.dat, PyData.canLay0, PyData.strOk]
    exact h
  | .tup xs, h => by simp only [W.lay] at h; simp only [W.dat, PyData.canLay0]; exact W.dats_lay xs h
  | .lst xs, h => by simp only [W.lay] at h; simp only [W.dat, PyData.canLay0]; exact W.dats_lay xs h
  | .dct _ _, h => by simp [W.lay] at h
  | .ins _ _ _, h => by simp [W.lay] at h
  | .exn _ _, h => by simp [W.lay] at h
  | .scr _, h => by simp [W.lay] at h
theorem W.dats_lay : ∀ ws : List W, W.lays ws = true → PyData.canLayAll0 (W.dats ws) = true
  | [], _ => by simp [W.dats, PyData.canLayAll0]
  | x :: r, h => by
    simp only [W.lays, Bool.and_eq_true] at h
    simp only [W.dats, PyData.canLayAll0, Bool.and_eq_true]
    exact ⟨W.dat_lay x h.1, W.dats_lay r h.2⟩
end
mutual
theorem W.dat_dp : ∀ w : W, w.lay = true → w.dat.depth = w.dp
  | .non, _ => by simp [W.dat, PyData.depth, W.dp]
  | .bl _, _ => by simp [W.dat, PyData.depth, W.dp]
  | .int _, _ => by simp [W.dat, PyData.depth, W.dp]
  | .str s, _ => by simp [W.dat, PyData.depth, W.dp]
  | .tup xs, h => by simp only [W.lay] at h; simp only [W.dat, PyData.depth, W.dp, W.dats_dp xs h]
  | .lst xs, h => by simp only [W.lay] at h; simp only [W.dat, PyData.depth, W.dp, W.dats_dp xs h]
  | .dct _ _, h => by simp [W.lay] at h
  | .ins _ _ _, h => by simp [W.lay] at h
  | .exn _ _, h => by simp [W.lay] at h
  | .scr _, h => by simp [W.lay] at h
theorem W.dats_dp : ∀ ws : List W, W.lays ws = true → PyData.depthAll (W.dats ws) = W.dps ws
  | [], _ => by simp [W.dats, PyData.depthAll, W.dps]
  | x :: r, h => by
    simp only [W.lays, Bool.and_eq_true] at h
    simp only [W.dats, PyData.depthAll, W.dps, W.dat_dp x h.1, W.dats_dp r h.2]
end
theorem W.shaped {w : W} (h : w.isDat = true) : SeqAt.shaped w.dat = true := by
  simp only [W.isDat, Bool.and_eq_true, decide_eq_true_eq] at h
  simp only [SeqAt.shaped, Bool.and_eq_true, decide_eq_true_eq]
  exact ⟨W.dat_lay w h.1, by rw [W.dat_dp w h.1]; exact h.2⟩
mutual
theorem W.pyeq_ok : ∀ a b : W, a.lay = true → b.lay = true → W.pyeq a b = PyData.eqv a.dat b.dat
  | .non, b, _, hb => by cases b <;> simp_all [W.pyeq, W.dat, PyData.eqv, W.lay]
  | .bl _, b, _, hb => by cases b <;> simp_all [W.pyeq, W.dat, PyData.eqv, W.lay]
  | .int _, b, _, hb => by cases b <;> simp_all [W.pyeq, W.dat, PyData.eqv, W.lay]
  | .str _, b, _, hb => by cases b <;> simp_all [W.pyeq, W.dat, PyData.eqv, W.lay]
  | .tup x, b, ha, hb => by
    cases b <;> simp_all [W.pyeq, W.dat, PyData.eqv, W.lay]
    exact W.pyeqs_ok x _ ha hb
  | .lst x, b, ha, hb => by
    cases b <;> simp_all [W.pyeq, W.dat, PyData.eqv, W.lay]
    exact W.pyeqs_ok x _ ha hb
  | .dct _ _, _, h, _ => by simp [W.lay] at h
  | .ins _ _ _, _, h, _ => by simp [W.lay] at h
  | .exn _ _, _, h, _ => by simp [W.lay] at h
  | .scr _, _, h, _ => by simp [W.lay] at h
theorem W.pyeqs_ok : ∀ a b : List W, W.lays a = true → W.lays b = true → W.pyeqs a b = PyData.eqvAll (W.dats a) (W.dats b)
  | [], b, _, _ => by cases b <;> simp [W.pyeqs, W.dats, PyData.eqvAll]
  | x :: r, b, ha, hb => by
    cases b with
    | nil => simp [W.pyeqs, W.dats, PyData.eqvAll]
    | cons y t =>
      simp only [W.lays, Bool.and_eq_true] at ha hb
      simp only [W.pyeqs, W.dats, PyData.eqvAll, W.pyeq_ok x y ha.1 hb.1, W.pyeqs_ok r t ha.2 hb.2]
end
section
variable {F : Fx} {Z : Addr → Prop} {H : Hp}
mutual
theorem RW.dp : ∀ {w : W} {v : V}, RW F Z H w v → w.lay = true → Dp F.K H v w.dat
  | _, _, .non, _ => .non
  | _, _, .bl b, _ => .bl b
  | _, _, .int i, _ => .int i
  | _, _, .str s, _ => .str s
  | _, _, .tup p l r, h => by simp only [W.lay] at h; exact .tup (RW.sqT p) (RWs.dp r h)
  | _, _, .lst z q l r, h => by simp only [W.lay] at h; exact .lst (.of q) (RWs.dp r h)
  | _, _, .scr _ _ _, h => by simp [W.lay] at h
  | _, _, .dct _ _ _ _ _ _ _ _ _, h => by simp [W.lay] at h
  | _, _, .ins _ _ _ _, h => by simp [W.lay] at h
  | _, _, .exn _ _, h => by simp [W.lay] at h
  | _, _, .exn1 _ _ _ _, h => by simp [W.lay] at h
theorem RWs.dp : ∀ {ws : List W} {vs : List V}, RWs F Z H ws vs → W.lays ws = true → DpAll F.K H vs (W.dats ws)
  | _, _, .nil, _ => .nil
  | _, _, .cons r t, h => by
    simp only [W.lays, Bool.and_eq_true] at h
    exact .cons (RW.dp r h.1) (RWs.dp t h.2)
end
end
theorem W.isDat_lay {w : W} (h : w.isDat = true) : w.lay = true := by
  simp only [W.isDat, Bool.and_eq_true] at h
  exact h.1

section
variable {X : Cx} {ca : Nat → Addr}
theorem okB_ok {F : Fx} {g : Gd} {bx : Bx} {H : Hp} {Q : VK} {c : Bool} (b : BxOk F g bx H) (p : PostO F g H Q (okB c bx)) : Q (.bl c) H := p g H _ (Ext.refl g H) b (.v (.bl c))
theorem eqR_ok {g : Gd} {bx : Bx} {H : Hp} {r1 r2 : R} {x y : V} {c : Bool} (b : BxOk (fx X ca) g bx H) (h1 : RR (fx X ca) g H r1 x) (h2 : RR (fx X ca) g H r2 y) (e : eqR bx r1 r2 = some c) :
    ∃ d e, Dp X.K H x d ∧ Dp X.K H y e ∧ SeqAt.shaped d = true ∧ SeqAt.shaped e = true ∧ PyData.eqv d e = c := by
  unfold eqR at e
  split at e
  · rename_i a b' e1 e2
    unfold eqW at e
    split at e
    · rename_i hd
      rw [Bool.and_eq_true] at hd
      cases e
      have l1 := W.isDat_lay hd.1
      have l2 := W.isDat_lay hd.2
      exact ⟨_, _, (view_ok b 9 h1 e1).dp l1, (view_ok b 9 h2 e2).dp l2, W.shaped hd.1, W.shaped hd.2, (W.pyeq_ok _ _ l1 l2).symm⟩
    · cases e
  · cases e
theorem op_eq (hu : X.A.units + 64 < cLine) : OpR X (compareOp .Eq) fun x y H Q => tO (fx X ca) (opCmp .eq) [x, y] H Q := by
  intro pins s σ H x y v u Q I rx ry ⟨g, bx, rs, b, rr, p⟩
  obtain ⟨r1, r2, rfl, h1, h2⟩ := rr.two
  replace p : PostO (fx X ca) g H Q (okO (eqR bx r1 r2) bx) := p
  unfold okO at p
  split at p
  · rename_i c e
    obtain ⟨d, e', a1, a2, a3, a4, a5⟩ := eqR_ok b h1 h2 e
    refine op_eqD hu pins s σ H _ _ v u Q I rx ry ⟨d, e', a1, a2, a3, a4, ?_⟩
    rw [a5]
    exact okB_ok b p
  · exact p.elim
theorem op_ne (hu : X.A.units + 64 < cLine) : OpR X (compareOp .NotEq) fun x y H Q => tO (fx X ca) (opCmp .ne) [x, y] H Q := by
  intro pins s σ H x y v u Q I rx ry ⟨g, bx, rs, b, rr, p⟩
  obtain ⟨r1, r2, rfl, h1, h2⟩ := rr.two
  replace p : PostO (fx X ca) g H Q (okO ((eqR bx r1 r2).map (!·)) bx) := p
  unfold okO at p
  split at p
  · rename_i c e
    simp only [Option.map_eq_some_iff] at e
    obtain ⟨c', e, rfl⟩ := e
    obtain ⟨d, e', a1, a2, a3, a4, a5⟩ := eqR_ok b h1 h2 e
    refine op_neD hu pins s σ H _ _ v u Q I rx ry ⟨d, e', a1, a2, a3, a4, ?_⟩
    rw [a5]
    exact okB_ok b p
  · exact p.elim
theorem RR.isNon {F : Fx} {g : Gd} {H : Hp} {r : R} {v : V} (h : RR F g H r v) : isNon r = decide (v = .non) := by
  cases h with
  | v h => cases h <;> simp [AM.isNon]
  | r _ => simp [AM.isNon]
theorem op_is : OpR X (compareOp .Is) fun x y H Q => tO (fx X ca) (opCmp .isN) [x, y] H Q := by
  intro pins s σ H x y v u Q I rx ry ⟨g, bx, rs, b, rr, p⟩
  obtain ⟨r1, r2, rfl, h1, h2⟩ := rr.two
  replace p : PostO (fx X ca) g H Q (okO (if isNon r2 then some (isNon r1) else none) bx) := p
  rw [h2.isNon, h1.isNon] at p
  by_cases c : y = .non
  · subst c
    simp only [decide_true, if_true] at p
    exact op_isN pins s σ H _ _ v u Q I rx ry ⟨rfl, okB_ok b p⟩
  · simp [c, okO] at p
    exact p.elim
theorem op_isnot : OpR X (compareOp .IsNot) fun x y H Q => tO (fx X ca) (opCmp .notN) [x, y] H Q := by
  intro pins s σ H x y v u Q I rx ry ⟨g, bx, rs, b, rr, p⟩
  obtain ⟨r1, r2, rfl, h1, h2⟩ := rr.two
  replace p : PostO (fx X ca) g H Q (okO (if isNon r2 then some (!isNon r1) else none) bx) := p
  rw [h2.isNon, h1.isNon] at p
  by_cases c : y = .non
  · subst c
    simp only [decide_true, if_true] at p
    exact op_notN pins s σ H _ _ v u Q I rx ry ⟨rfl, okB_ok b p⟩
  · simp [c, okO] at p
    exact p.elim
/-- ints -/
theorem op_ord {o : Cop} {op : CmpOp} (ho : OpR X (compareOp op) (rI0 fun i j => .bl (cmpI o i j))) (hb : ∀ bx x y, cmpB o bx x y = ordR o x y) : OpR X (compareOp op) fun x y H Q => tO (fx X ca) (opCmp o) [x, y] H Q := by
  intro pins s σ H x y v u Q I rx ry ⟨g, bx, rs, b, rr, p⟩
  obtain ⟨r1, r2, rfl, h1, h2⟩ := rr.two
  replace p : PostO (fx X ca) g H Q (okO (cmpB o bx r1 r2) bx) := p
  rw [hb] at p
  unfold ordR at p
  split at p
  · cases h1 with | v h1 => cases h1; cases h2 with | v h2 => cases h2; exact ho pins s σ H _ _ v u Q I rx ry ⟨_, _, rfl, rfl, okB_ok b p⟩
  · exact p.elim
theorem op_lt : OpR X (compareOp .Lt) fun x y H Q => tO (fx X ca) (opCmp .lt) [x, y] H Q := op_ord L2.op_lt fun _ _ _ => rfl
theorem op_le : OpR X (compareOp .LtE) fun x y H Q => tO (fx X ca) (opCmp .le) [x, y] H Q := op_ord L2.op_le fun _ _ _ => rfl
theorem op_gt : OpR X (compareOp .Gt) fun x y H Q => tO (fx X ca) (opCmp .gt) [x, y] H Q := op_ord L2.op_gt fun _ _ _ => rfl
theorem op_ge : OpR X (compareOp .GtE) fun x y H Q => tO (fx X ca) (opCmp .ge) [x, y] H Q := op_ord L2.op_ge fun _ _ _ => rfl
end
end AM
/-! text AmD -/
set_option Elab.async false
set_option linter.all false
set_option maxRecDepth 100000
set_option maxHeartbeats 2000000
/-! AmD: dicts: what the machine says of them and what the library's rules ask. -/
namespace AM
open PySem PySem.Spec PyProof.Rows L2

/-! ### keys -/
mutual
theorem nk_inj : ∀ (a b : W) (n : NestedKey), nk a = some n → nk b = some n → a = b
  | .int i, b, n, ha, hb => by
    simp only [nk, Option.some.injEq] at ha
    subst ha
    cases b <;> simp [nk] at hb
    rw [hb]
  | .str s, b, n, ha, hb => by
    simp only [nk, Option.some.injEq] at ha
    subst ha
    cases b <;> simp [nk] at hb
    rw [hb]
  | .tup xs, b, n, ha, hb => by
    simp only [nk, Option.map_eq_some_iff] at ha
    obtain ⟨ns, h1, rfl⟩ := ha
    cases b <;> simp [nk] at hb
    rw [nks_inj xs _ ns h1 hb]
  | .non, _, _, h, _ => by simp [nk] at h
  | .bl _, _, _, h, _ => by simp [nk] at h
  | .lst _, _, _, h, _ => by simp [nk] at h
  | .dct _ _, _, _, h, _ => by simp [nk] at h
  | .ins _ _ _, _, _, h, _ => by simp [nk] at h
  | .exn _ _, _, _, h, _ => by simp [nk] at h
  | .scr _, _, _, h, _ => by simp [nk] at h
theorem nks_inj : ∀ (a b : List W) (n : List NestedKey), nks a = some n → nks b = some n → a = b
  | [], b, n, ha, hb => by
    simp only [nks, Option.some.injEq] at ha
    subst ha
    cases b with
    | nil => rfl
    | cons y t => simp only [nks] at hb; split at hb <;> simp at hb
  | x :: r, b, n, ha, hb => by
    simp only [nks] at ha
    split at ha
    · rename_i u v h1 h2
      cases ha
      cases b with
      | nil => simp [nks] at hb
      | cons y t =>
        simp only [nks] at hb
        split at hb
        · rename_i u' v' h3 h4
          cases hb
          rw [nk_inj x y _ h1 h3, nks_inj r t _ h2 h4]
        · cases hb
    · cases ha
end
mutual
theorem nk_key : ∀ (a : W) (d : Nat), a.key = some d → ∃ n, nk a = some n ∧ n.depth = d
  | .int i, d, h => by simp only [W.key, Option.some.injEq] at h; subst h; exact ⟨_, rfl, by simp [NestedKey.depth]⟩
  | .str s, d, h => by simp only [W.key, Option.some.injEq] at h; subst h; exact ⟨_, rfl, by simp [NestedKey.depth]⟩
  | .tup xs, d, h => by
    simp only [W.key, Option.map_eq_some_iff] at h
    obtain ⟨d', h1, rfl⟩ := h
    obtain ⟨ns, h2, h3⟩ := nks_key xs d' h1
    refine ⟨.tup ns, by simp [nk, h2], ?_⟩
    simp only [NestedKey.depth, h3]
  | .non, _, h => by simp [W.key] at h
  | .bl _, _, h => by simp [W.key] at h
  | .lst _, _, h => by simp [W.key] at h
  | .dct _ _, _, h => by simp [W.key] at h
  | .ins _ _ _, _, h => by simp [W.key] at h
  | .exn _ _, _, h => by simp [W.key] at h
  | .scr _, _, h => by simp [W.key] at h
theorem nks_key : ∀ (a : List W) (d : Nat), W.keys a = some d → ∃ n, nks a = some n ∧ NestedKey.depthAll n = d
  | [], d, h => by simp only [W.keys, Option.some.injEq] at h; subst h; exact ⟨[], rfl, by simp [NestedKey.depthAll]⟩
  | x :: r, d, h => by
    simp only [W.keys] at h
    split at h
    · rename_i a b h1 h2
      cases h
      obtain ⟨n1, e1, e2⟩ := nk_key x a h1
      obtain ⟨n2, e3, e4⟩ := nks_key r b h2
      exact ⟨n1 :: n2, by simp [nks, e1, e3], by simp only [NestedKey.depthAll, e2, e4]⟩
    · cases h
end
theorem keyB_nk {k : W} (h : keyB k = true) : ∃ n, nk k = some n ∧ n.depth ≤ 8 := by
  unfold keyB at h
  split at h
  · rename_i d e
    obtain ⟨n, h1, h2⟩ := nk_key k d e
    exact ⟨n, h1, by rw [h2]; simpa using h⟩
  · cases h
theorem keyFor_kind {ks : List W} {k : W} (h : keyFor ks k = true) (q : KindOk ks) : keyB k = true ∧ ∀ k' ∈ ks, k'.isT = k.isT := by
  unfold keyFor at h
  rw [Bool.and_eq_true] at h
  refine ⟨h.1, fun k' hk => ?_⟩
  cases ks with
  | nil => cases hk
  | cons k0 r =>
    have h2 : k0.isT = k.isT := by simpa using h.2
    rcases q.one with z | z
    · rw [z k' hk, ← h2, z k0 List.mem_cons_self]
    · rw [z k' hk, ← h2, z k0 List.mem_cons_self]
theorem KindOk.set {ks : List W} {k : W} (q : KindOk ks) (h : keyFor ks k = true) : KindOk (dSetK ks k) := by
  obtain ⟨h1, h2⟩ := keyFor_kind h q
  have mem : ∀ (ks : List W) (x : W), x ∈ dSetK ks k → x ∈ ks ∨ x = k := by
    intro ks
    induction ks with
    | nil => intro x hx; simp [dSetK] at hx; exact .inr hx
    | cons a r ih =>
      intro x hx
      unfold dSetK at hx
      split at hx
      · exact .inl hx
      · rcases List.mem_cons.mp hx with e | e
        · exact .inl (e ▸ List.mem_cons_self)
        · exact (ih x e).imp (List.mem_cons_of_mem _) id
  refine ⟨fun x hx => (mem ks x hx).elim (q.key x) (fun e => e ▸ h1), ?_⟩
  cases e : k.isT with
  | true => exact .inl fun x hx => (mem ks x hx).elim (fun m => (h2 x m).trans e) (fun z => z ▸ e)
  | false => exact .inr fun x hx => (mem ks x hx).elim (fun m => (h2 x m).trans e) (fun z => z ▸ e)
theorem mem_dSetK {k : W} : ∀ (ks : List W) (x : W), x ∈ dSetK ks k → x ∈ ks ∨ x = k := by
  intro ks
  induction ks with
  | nil => intro x hx; simp [dSetK] at hx; exact .inr hx
  | cons a r ih =>
    intro x hx
    unfold dSetK at hx
    split at hx
    · exact .inl hx
    · rcases List.mem_cons.mp hx with e | e
      · exact .inl (e ▸ List.mem_cons_self)
      · exact (ih x e).imp (List.mem_cons_of_mem _) id
theorem nd_dSetK {k : W} : ∀ {ks : List W}, ks.Nodup → (dSetK ks k).Nodup
  | [], _ => by simp [dSetK]
  | a :: r, h => by
    unfold dSetK
    have h' := List.nodup_cons.mp h
    split
    · exact h
    · rename_i ne
      refine List.nodup_cons.mpr ⟨fun m => ?_, nd_dSetK h'.2⟩
      rcases mem_dSetK r a m with e | e
      · exact h'.1 e
      · exact ne e
theorem len_dSetK {k : W} : ∀ {ks : List W}, (dSetK ks k).length ≤ ks.length + 1
  | [] => by simp [dSetK]
  | a :: r => by
    unfold dSetK
    split
    · simp
    · simp only [List.length_cons]; have := len_dSetK (k := k) (ks := r); omega
theorem RRs.dSet {F : Fx} {g : Gd} {H : Hp} {k : W} {r : R} {v : V} : ∀ {ks : List W} {rs : List R} {vs : List V}, ks.length = rs.length → RRs F g H rs vs → RR F g H r v → RRs F g H (dSetV ks rs k r) (dSetV ks vs k v)
  | [], [], _, _, h, hr => by cases h; exact .cons hr .nil
  | a :: ks, b :: rs, _, e, h, hr => by
    cases h with
    | cons x t =>
      unfold dSetV
      split
      · exact .cons hr t
      · exact .cons x (RRs.dSet (by simpa using e) t hr)
  | [], _ :: _, _, e, _, _ => by simp at e
  | _ :: _, [], _, e, _, _ => by simp at e
theorem RRs.dGet {F : Fx} {g : Gd} {H : Hp} {k : W} : ∀ {ks : List W} {rs : List R} {vs : List V}, RRs F g H rs vs → (∀ r, AM.dGet ks rs k = some r → ∃ v, AM.dGet ks vs k = some v ∧ RR F g H r v) ∧ (AM.dGet ks rs k = none → AM.dGet ks vs k = none)
  | [], _, _, h => ⟨fun r e => by simp [AM.dGet] at e, fun _ => by simp [AM.dGet]⟩
  | a :: ks, _, _, .nil => ⟨fun r e => by simp [AM.dGet] at e, fun _ => by simp [AM.dGet]⟩
  | a :: ks, _, _, .cons x t => by
    obtain ⟨h1, h2⟩ := RRs.dGet (k := k) (ks := ks) t
    refine ⟨fun r e => ?_, fun e => ?_⟩
    · unfold AM.dGet at e ⊢
      split
      · rename_i z
        rw [if_pos z] at e
        cases e
        exact ⟨_, rfl, x⟩
      · rename_i z
        rw [if_neg z] at e
        exact h1 r e
    · unfold AM.dGet at e ⊢
      split
      · rename_i z
        rw [if_pos z] at e
        cases e
      · rename_i z
        rw [if_neg z] at e
        exact h2 e

/-! ### what is at hand of a dict -/
/-- the entries, in the state -/
structure DAt (F : Fx) (Z : Addr → Prop) (H : Hp) (a : Addr) (ks : List W) (xv : List V) (o : Obj) : Prop where
  sm : (a == sysModules) = false
  ex : o.ExactDict
  dat : ∃ es ep, o.data = .dict es ep ∧ RD F Z H ks xv es.toList
  len : ks.length ≤ sizeLine
  nd : ks.Nodup
  kind : KindOk ks
theorem RD.lens {F : Fx} {Z : Addr → Prop} {H : Hp} : ∀ {ks : List W} {xv : List V} {es : List DictEntry}, RD F Z H ks xv es → ks.length = es.length ∧ xv.length = es.length
  | _, _, _, .nil => ⟨rfl, rfl⟩
  | _, _, _, .cons _ _ _ _ t => by simp [RD.lens t]
theorem RR.dct {F : Fx} {g : Gd} {bx : Bx} {H : Hp} {r : R} {v : V} {ks : List W} {rs : List R} (b : BxOk F g bx H) (h : RR F g H r v) (e : dcO bx r = some (ks, rs)) :
    ∃ a o xv, v = .ref a ∧ (H a = some (pinO a o) ∨ F.K.lookup a = some o) ∧ DAt F g.Z H a ks xv o ∧ RRs F g H rs xv := by
  cases h with
  | @v w v h =>
    cases h with
    | dct p s o1 o2 l d r n k =>
      simp only [dcO, Option.some.injEq, Prod.mk.injEq] at e
      obtain ⟨rfl, rfl⟩ := e
      exact ⟨_, _, _, rfl, p.imp (·.2) id, ⟨s, o1, ⟨_, _, o2, d⟩, l, n, k⟩, .of r⟩
    | _ => simp [dcO] at e
  | @r n a q =>
    simp only [dcO] at e
    split at e
    · rename_i hb
      have := b.at_ n a _ q hb
      cases this with
      | dct q s o1 o2 l d r n k =>
        simp only [Option.some.injEq, Prod.mk.injEq] at e
        obtain ⟨rfl, rfl⟩ := e
        exact ⟨_, _, _, rfl, .inl q, ⟨s, o1, ⟨_, _, o2, d⟩, l, n, k⟩, r⟩
    · cases e

/-! ### simple keys -/
def toK : W → Key
  | .int i => .inl i
  | .str s => .inr s
  | _ => .inl 0
def ofK : Key → W
  | .inl i => .int i
  | .inr s => .str s
theorem ofK_toK {k : W} (h : keyB k = true) (t : k.isT = false) : ofK (toK k) = k := by
  cases k <;> first | rfl | (simp [W.isT] at t; done) | (simp [keyB, W.key] at h; done)
theorem toK_ofK (k : Key) : toK (ofK k) = k := by cases k <;> rfl
section
variable {F : Fx} {Z : Addr → Prop} {H : Hp}
theorem toK_inj {a b : W} (ha : keyB a = true) (ta : a.isT = false) (hb : keyB b = true) (tb : b.isT = false) (e : toK a = toK b) : a = b := by
  rw [← ofK_toK ha ta, ← ofK_toK hb tb, e]
theorem keyIs_of {k : W} {kv : V} {u : Value} (r : RW F Z H k kv) (ru : RelV kv u) (h : keyB k = true) (t : k.isT = false) : keyIs (toK k) u = true := by
  cases k <;> first | (simp [keyB, W.key] at h; done) | (simp [W.isT] at t; done) | skip
  · cases r; obtain ⟨t', rfl⟩ := ru; exact keyIs_int _ _
  · cases r; obtain ⟨t', rfl⟩ := ru; exact keyIs_str _ _
theorem hash_simple {k : W} (h : keyB k = true) (t : k.isT = false) : hashW F.w k = some (keyH F.w (toK k)) := by
  cases k <;> first | (simp [keyB, W.key] at h; done) | (simp [W.isT] at t; done) | rfl
/-- the library's view: the keys, the values that stand there -/
theorem RD.simple : ∀ {ks : List W} {xv : List V} {es : List DictEntry}, RD F Z H ks xv es → (∀ k ∈ ks, keyB k = true ∧ k.isT = false) →
    ∃ us : List Value, Vals xv us ∧ Pairs (mixKind F.P F.w) es ((ks.map toK).zip us) ∧ (∀ e ∈ es, ∃ k, (mixKind F.P F.w).is k e.key = true ∧ e.hash = (mixKind F.P F.w).hash k)
  | _, _, _, .nil, _ => ⟨[], .nil, .nil, fun e h => nomatch h⟩
  | _, _, _, .cons (k := k) (e := e) r rk hh rx t, hk => by
    obtain ⟨us, h1, h2, h3⟩ := RD.simple t fun k' m => hk k' (List.mem_cons_of_mem _ m)
    obtain ⟨q1, q2⟩ := hk k List.mem_cons_self
    have i := keyIs_of r rk q1 q2
    refine ⟨e.val :: us, .cons rx h1, .cons i rfl h2, fun e' m => ?_⟩
    rcases List.mem_cons.mp m with z | z
    · subst z
      refine ⟨toK k, i, ?_⟩
      rw [hash_simple q1 q2] at hh
      exact (Option.some.inj hh).symm
    · exact h3 e' z
theorem RD.of_simple : ∀ {kvs : List (Key × Value)} {es : List DictEntry}, Pairs (mixKind F.P F.w) es kvs → (∀ e ∈ es, ∃ k, (mixKind F.P F.w).is k e.key = true ∧ e.hash = (mixKind F.P F.w).hash k) →
    ∀ {xv : List V}, Vals xv (kvs.map (·.2)) → RD F Z H (kvs.map fun p => ofK p.1) xv es
  | _, _, .nil, _, xv, h => by cases h; exact .nil
  | _, _, .cons (e := e) (kv := kv) i ev t, hk, xv, h => by
    cases h with
    | cons r rt =>
      obtain ⟨k', i', hh⟩ := hk _ List.mem_cons_self
      have ek : kv.1 = k' := (mixKind F.P F.w).inj _ _ _ i i'
      subst ek
      have ik : keyIs kv.1 e.key = true := i
      have rk : ∃ v, RW F Z H (ofK kv.1) v ∧ RelV v e.key := by
        rcases keyIs_shape ik with ⟨j, tt, e1, e2⟩ | ⟨x, tt, e1, e2⟩
        · rw [e1, e2]; exact ⟨.int j, .int j, _, rfl⟩
        · rw [e1, e2]; exact ⟨.str x, .str x, _, rfl⟩
      obtain ⟨v, r1, r2⟩ := rk
      refine .cons r1 r2 ?_ (by rw [ev]; exact r) (RD.of_simple t (fun e' m => hk e' (List.mem_cons_of_mem _ m)) rt)
      rw [hh]
      show hashW F.w (ofK kv.1) = some (keyH F.w kv.1)
      cases kv.1 <;> rfl
end

/-! ### tuple keys -/
section
variable {F : Fx} {Z : Addr → Prop} {H : Hp}
inductive NX (F : Fx) (Z : Addr → Prop) (H : Hp) : List W → List V → List (NestedKey × Addr × Value) → Prop
  | nil : NX F Z H [] [] []
  | cons {k : W} {n : NestedKey} {a : Addr} {x : V} {u : Value} {ks : List W} {xv : List V} {xs : List (NestedKey × Addr × Value)} : RW F Z H k (.ref a) → nk k = some n → n.depth ≤ 8 → RelV x u → NX F Z H ks xv xs → NX F Z H (k :: ks) (x :: xv) ((n, a, u) :: xs)
theorem RD.nested : ∀ {ks : List W} {xv : List V} {es : List DictEntry}, RD F Z H ks xv es → (∀ k ∈ ks, keyB k = true ∧ k.isT = true) →
    ∃ xs, NX F Z H ks xv xs ∧ es = xs.map (entryOfKey (nestedKind F.P F.w))
  | _, _, _, .nil, _ => ⟨[], .nil, rfl⟩
  | _, _, _, .cons (k := k) (kv := kv) (e := e) r rk hh rx t, hk => by
    obtain ⟨xs, h1, h2⟩ := RD.nested t fun k' m => hk k' (List.mem_cons_of_mem _ m)
    obtain ⟨q1, q2⟩ := hk k List.mem_cons_self
    obtain ⟨n, e1, e2⟩ := keyB_nk q1
    cases k <;> first | (simp [W.isT] at q2; done) | skip
    cases r with
    | @tup ws a vs p l rr =>
      have rk : e.key = .ref a := rk
      refine ⟨(n, a, e.val) :: xs, .cons (.tup p l rr) e1 e2 rx h1, ?_⟩
      rw [List.map_cons, ← h2]
      congr 1
      unfold hashW at hh
      rw [e1] at hh
      replace hh : n.hash F.w = e.hash := Option.some.inj hh
      obtain ⟨e3, e4, e5⟩ := e
      replace rk : e4 = .ref a := rk
      replace hh : n.hash F.w = e3 := hh
      subst rk
      subst hh
      rfl
theorem NX.rd : ∀ {ks : List W} {xv : List V} {xs : List (NestedKey × Addr × Value)}, NX F Z H ks xv xs → RD F Z H ks xv (xs.map (entryOfKey (nestedKind F.P F.w)))
  | _, _, _, .nil => .nil
  | _, _, _, .cons r e _ x t => .cons r rfl (by unfold hashW; rw [e]; rfl) x (NX.rd t)
theorem NX.keys : ∀ {ks : List W} {xv : List V} {xs : List (NestedKey × Addr × Value)}, NX F Z H ks xv xs → ks.map nk = xs.map fun x => some x.1
  | _, _, _, .nil => rfl
  | _, _, _, .cons _ e _ _ t => by simp [e, NX.keys t]
theorem NX.nodup {ks : List W} {xv : List V} {xs : List (NestedKey × Addr × Value)} (h : NX F Z H ks xv xs) (n : ks.Nodup) : (xs.map (·.1)).Nodup := by
  induction h with
  | nil => simp
  | @cons k n' a x u ks xv xs r e _ _ t ih =>
    have n' := List.nodup_cons.mp n
    simp only [List.map_cons]
    refine List.nodup_cons.mpr ⟨fun m => ?_, ih n'.2⟩
    obtain ⟨y, hy, hy2⟩ := List.mem_map.mp m
    have hk : some y.1 ∈ ks.map nk := by rw [t.keys]; exact List.mem_map.mpr ⟨y, hy, rfl⟩
    obtain ⟨k', hk1, hk2⟩ := List.mem_map.mp hk
    rw [hy2] at hk2
    exact n'.1 (nk_inj k' k _ hk2 e ▸ hk1)
theorem NX.get {k : W} {n : NestedKey} (e : nk k = some n) : ∀ {ks : List W} {xv : List V} {xs : List (NestedKey × Addr × Value)}, NX F Z H ks xv xs →
    (∀ v, dGet ks xv k = some v → ∃ p, atKey xs n = some p ∧ RelV v p.2) ∧ (dGet ks xv k = none → atKey xs n = none)
  | _, _, _, .nil => ⟨fun v h => by simp [dGet] at h, fun _ => rfl⟩
  | _, _, _, .cons (k := k0) (n := n0) r e0 d x t => by
    obtain ⟨h1, h2⟩ := NX.get e t
    by_cases z : k0 = k
    · subst z
      rw [e] at e0
      cases e0
      refine ⟨fun v h => ?_, fun h => ?_⟩
      · simp only [dGet, if_pos] at h
        cases h
        exact ⟨_, (by simp [atKey]; rfl), x⟩
      · simp [dGet] at h
    · have zn : n0 ≠ n := fun q => z (nk_inj k0 k n (q ▸ e0) e)
      refine ⟨fun v h => ?_, fun h => ?_⟩
      · simp only [dGet, if_neg z] at h
        obtain ⟨p, p1, p2⟩ := h1 v h
        exact ⟨p, by simpa [atKey, zn] using p1, p2⟩
      · simp only [dGet, if_neg z] at h
        simpa [atKey, zn] using h2 h
theorem NX.mem {k : W} {n : NestedKey} (e : nk k = some n) : ∀ {ks : List W} {xv : List V} {xs : List (NestedKey × Addr × Value)}, NX F Z H ks xv xs → ((atKey xs n).isSome = true ↔ k ∈ ks)
  | _, _, _, .nil => by simp [atKey]
  | _, _, _, .cons (k := k0) (n := n0) r e0 d x t => by
    have ih := NX.mem e t
    by_cases z : k0 = k
    · subst z
      rw [e] at e0
      cases e0
      simp [atKey]
    · have zn : n0 ≠ n := fun q => z (nk_inj k0 k n (q ▸ e0) e)
      rw [List.mem_cons, ← ih]
      have : ¬ k = k0 := fun q => z q.symm
      simp [atKey, zn, this]
theorem NX.put {k : W} {n : NestedKey} (e : nk k = some n) {v : V} {u : Value} (ru : RelV v u) : ∀ {ks : List W} {xv : List V} {xs : List (NestedKey × Addr × Value)}, NX F Z H ks xv xs → k ∈ ks → ks.Nodup →
    NX F Z H (dSetK ks k) (dSetV ks xv k v) (xs.map (putAt n u))
  | _, _, _, .nil, m, _ => by cases m
  | _, _, _, .cons (k := k0) (n := n0) (ks := ks) (xs := xs) r e0 d x t, m, nd => by
    have nd' := List.nodup_cons.mp nd
    by_cases z : k0 = k
    · subst z
      rw [e] at e0
      cases e0
      simp only [dSetK, dSetV, if_pos, List.map_cons, putAt]
      refine .cons r e d ru ?_
      have hn : n ∉ xs.map (·.1) := fun mm => by
        obtain ⟨y, hy, hy2⟩ := List.mem_map.mp mm
        have hk : some y.1 ∈ ks.map nk := by rw [t.keys]; exact List.mem_map.mpr ⟨y, hy, rfl⟩
        obtain ⟨k', hk1, hk2⟩ := List.mem_map.mp hk
        rw [hy2] at hk2
        exact nd'.1 (nk_inj k' k0 _ hk2 e ▸ hk1)
      have e2 : xs.map (putAt n u) = xs := by
        clear t nd nd' m
        induction xs with
        | nil => rfl
        | cons y ys ih =>
          simp only [List.map_cons, List.mem_cons, not_or] at hn
          rw [List.map_cons, ih hn.2, putAt, if_neg (fun q => hn.1 q.symm)]
      show NX F Z H ks _ (xs.map (putAt n u))
      rw [e2]
      exact t
    · have zn : n0 ≠ n := fun q => z (nk_inj k0 k n (q ▸ e0) e)
      have m' : k ∈ ks := (List.mem_cons.mp m).resolve_left fun q => z q.symm
      simp only [dSetK, dSetV, if_neg z, List.map_cons, putAt, if_neg zn]
      exact .cons r e0 d x (NX.put e ru t m' nd'.2)
theorem NX.push {k : W} {n : NestedKey} {a : Addr} (e : nk k = some n) (hd : n.depth ≤ 8) (rk : RW F Z H k (.ref a)) {v : V} {u : Value} (ru : RelV v u) : ∀ {ks : List W} {xv : List V} {xs : List (NestedKey × Addr × Value)}, NX F Z H ks xv xs → k ∉ ks →
    NX F Z H (dSetK ks k) (dSetV ks xv k v) (xs ++ [(n, a, u)])
  | _, _, _, .nil, _ => .cons rk e hd ru .nil
  | _, _, _, .cons (k := k0) r e0 d x t, m => by
    have z : ¬ k0 = k := fun q => m (q ▸ List.mem_cons_self)
    simp only [dSetK, dSetV, if_neg z, List.cons_append]
    exact .cons r e0 d x (NX.push e hd rk ru t fun q => m (List.mem_cons_of_mem _ q))
theorem NX.stored {k : W} {n : NestedKey} {a : Addr} (e : nk k = some n) (hd : n.depth ≤ 8) (rk : RW F Z H k (.ref a)) {v : V} {u : Value} (ru : RelV v u) {ks : List W} {xv : List V} {xs : List (NestedKey × Addr × Value)} (h : NX F Z H ks xv xs) (nd : ks.Nodup) :
    NX F Z H (dSetK ks k) (dSetV ks xv k v) (storedH xs n a u) := by
  unfold storedH
  by_cases m : k ∈ ks
  · rw [if_pos ((h.mem e).mpr m)]
    exact h.put e ru m nd
  · rw [if_neg fun q => m ((h.mem e).mp q)]
    exact h.push e hd rk ru m
end
end AM
/-! text AmD2 -/
set_option Elab.async false
set_option linter.all false
set_option maxRecDepth 100000
set_option maxHeartbeats 2000000
/-! AmD2: dicts in the state: is a key there, what stands at it, a key put. -/
namespace AM
open PySem PySem.Spec PyProof.Rows L2

section
variable {X : Cx} {ca : Nat → Addr} {pins : List (Addr × Obj)} {σ : L2.St} {H : Hp} {s : Shared} {Z : Addr → Prop}
mutual
theorem RW.nested (I : Inv X pins σ H s) : ∀ {w : W} {v : V} {n : NestedKey} {u : Value}, RW (fx X ca) Z H w v → nk w = some n → RelV v u → NestedIs s.heap n u
  | _, _, _, _, .non, e, _ => by simp [nk] at e
  | _, _, _, _, .bl _, e, _ => by simp [nk] at e
  | _, _, _, _, .int i, e, r => by
    simp only [nk, Option.some.injEq] at e
    subst e
    obtain ⟨t, rfl⟩ := r
    exact .int i t
  | _, _, _, _, .str x, e, r => by
    simp only [nk, Option.some.injEq] at e
    subst e
    obtain ⟨t, rfl⟩ := r
    exact .text x t
  | _, _, _, _, .tup p l rs, e, r => by
    simp only [nk, Option.map_eq_some_iff] at e
    obtain ⟨ns, e1, rfl⟩ := e
    obtain ⟨its, rv, ⟨o, h1, h2, n, h3⟩, _⟩ := I.tuple (RW.sqT p)
    cases r
    exact .tup h1 h2 h3 (RWs.nested I rs e1 rv)
  | _, _, _, _, .lst _ _ _ _, e, _ => by simp [nk] at e
  | _, _, _, _, .scr _ _ _, e, _ => by simp [nk] at e
  | _, _, _, _, .dct _ _ _ _ _ _ _ _ _, e, _ => by simp [nk] at e
  | _, _, _, _, .ins _ _ _ _, e, _ => by simp [nk] at e
  | _, _, _, _, .exn _ _, e, _ => by simp [nk] at e
  | _, _, _, _, .exn1 _ _ _ _, e, _ => by simp [nk] at e
theorem RWs.nested (I : Inv X pins σ H s) : ∀ {ws : List W} {vs : List V} {ns : List NestedKey} {us : List Value}, RWs (fx X ca) Z H ws vs → nks ws = some ns → Vals vs us → NestedAll s.heap ns us
  | _, _, _, _, .nil, e, r => by
    simp only [nks, Option.some.injEq] at e
    subst e
    cases r
    exact .nil
  | _, _, _, _, .cons a t, e, r => by
    simp only [nks] at e
    split at e
    · rename_i x y e1 e2
      cases e
      cases r with
      | cons r1 r2 => exact .cons (RW.nested I a e1 r1) (RWs.nested I t e2 r2)
    · cases e
end
end

/-! ### simple keys: pairs -/
theorem stored_cons {k0 k : Key} {x v : Value} {kvs : List (Key × Value)} (nd : k0 ∉ kvs.map (·.1)) : stored ((k0, x) :: kvs) k v = if k0 = k then (k0, v) :: kvs else (k0, x) :: stored kvs k v := by
  by_cases h : k0 = k
  · subst h
    rw [if_pos rfl]
    unfold stored
    rw [if_pos (by simp)]
    simp only [List.map_cons, if_pos]
    congr 1
    have : ∀ l : List (Key × Value), k0 ∉ l.map (·.1) → l.map (fun kv => if kv.1 = k0 then (kv.1, v) else kv) = l := by
      intro l
      induction l with
      | nil => intro _; rfl
      | cons y ys ih =>
        intro hn
        simp only [List.map_cons, List.mem_cons, not_or] at hn
        rw [List.map_cons, ih hn.2, if_neg (fun q => hn.1 q.symm)]
    exact this kvs nd
  · rw [if_neg h]
    unfold stored
    simp only [List.any_cons, h, decide_false, Bool.false_or, List.map_cons, if_false]
    split <;> simp
theorem stored_simple {k : W} {v : V} {r : Value} (hk : keyB k = true) (tk : k.isT = false) (rv : RelV v r) : ∀ {ks : List W} {xv : List V} {kvs : List (Key × Value)}, (∀ k ∈ ks, keyB k = true ∧ k.isT = false) → kvs.map (·.1) = ks.map toK → Vals xv (kvs.map (·.2)) → ks.Nodup →
    (stored kvs (toK k) r).map (fun p => ofK p.1) = dSetK ks k ∧ Vals (dSetV ks xv k v) ((stored kvs (toK k) r).map (·.2))
  | [], xv, kvs, _, e, h, _ => by
    have : kvs = [] := by simpa using e
    subst this
    cases h
    refine ⟨?_, .cons rv .nil⟩
    simp [stored, dSetK, ofK_toK hk tk]
  | k0 :: ks, xv, kvs, hs, e, h, nd => by
    cases kvs with
    | nil => simp at e
    | cons p kvs =>
      obtain ⟨p1, p2⟩ := p
      simp only [List.map_cons, List.cons.injEq] at e
      obtain ⟨e1, e2⟩ := e
      replace e1 : p1 = toK k0 := e1
      subst e1
      cases h with
      | @cons x _ xv _ rx h =>
        have nd' := List.nodup_cons.mp nd
        have k0s := hs k0 List.mem_cons_self
        have ks' : ∀ k ∈ ks, keyB k = true ∧ k.isT = false := fun k m => hs k (List.mem_cons_of_mem _ m)
        have nin : toK k0 ∉ kvs.map (·.1) := by
          rw [e2]
          intro m
          obtain ⟨y, hy, ey⟩ := List.mem_map.mp m
          exact nd'.1 (toK_inj (ks' y hy).1 (ks' y hy).2 k0s.1 k0s.2 ey ▸ hy)
        rw [stored_cons nin]
        obtain ⟨i1, i2⟩ := stored_simple hk tk rv ks' e2 h nd'.2
        by_cases z : k0 = k
        · subst z
          rw [if_pos rfl]
          simp only [dSetK, dSetV, if_pos, List.map_cons]
          refine ⟨?_, .cons rv h⟩
          rw [ofK_toK hk tk]
          congr 1
          have : (fun p : Key × Value => ofK p.1) = ofK ∘ (·.1) := rfl
          rw [this, ← List.map_map, e2, List.map_map]
          have : ∀ l : List W, (∀ k ∈ l, keyB k = true ∧ k.isT = false) → l.map (ofK ∘ toK) = l := by
            intro l
            induction l with
            | nil => intro _; rfl
            | cons y ys ih =>
              intro hl
              rw [List.map_cons, ih fun k m => hl k (List.mem_cons_of_mem _ m)]
              have := hl y List.mem_cons_self
              simp [ofK_toK this.1 this.2]
          exact this ks ks'
        · have z' : ¬ toK k0 = toK k := fun q => z (toK_inj k0s.1 k0s.2 hk tk q)
          rw [if_neg z']
          simp only [dSetK, dSetV, if_neg z, List.map_cons, ofK_toK k0s.1 k0s.2, i1]
          exact ⟨trivial, .cons rx i2⟩
theorem at_simple {k : W} (hk : keyB k = true) (tk : k.isT = false) : ∀ {ks : List W} {xv : List V} {kvs : List (Key × Value)}, (∀ k ∈ ks, keyB k = true ∧ k.isT = false) → kvs.map (·.1) = ks.map toK → Vals xv (kvs.map (·.2)) → RelO (dGet ks xv k) (valueAt kvs (toK k))
  | [], xv, kvs, _, e, h => by
    have : kvs = [] := by simpa using e
    subst this
    cases h
    exact True.intro
  | k0 :: ks, xv, kvs, hs, e, h => by
    cases kvs with
    | nil => simp at e
    | cons p kvs =>
      obtain ⟨p1, p2⟩ := p
      simp only [List.map_cons, List.cons.injEq] at e
      obtain ⟨e1, e2⟩ := e
      replace e1 : p1 = toK k0 := e1
      subst e1
      cases h with
      | @cons x _ xv _ rx h =>
        have k0s := hs k0 List.mem_cons_self
        have ih := at_simple hk tk (fun k m => hs k (List.mem_cons_of_mem _ m)) e2 h
        by_cases z : k0 = k
        · subst z
          simp only [dGet, if_pos, valueAt, List.find?_cons, decide_true]
          exact rx
        · have z' : ¬ toK k0 = toK k := fun q => z (toK_inj k0s.1 k0s.2 hk tk q)
          simp only [dGet, if_neg z, valueAt, List.find?_cons, z', decide_false]
          exact ih
theorem RD.pairs {F : Fx} {Z : Addr → Prop} {H : Hp} {ks : List W} {xv : List V} {es : Array DictEntry} (h : RD F Z H ks xv es.toList) (hs : ∀ k ∈ ks, keyB k = true ∧ k.isT = false) (nd : ks.Nodup) :
    ∃ kvs, KeysOf (mixKind F.P F.w) es ∧ Pairs (mixKind F.P F.w) es.toList kvs ∧ (kvs.map (·.1)).Nodup ∧ kvs.map (·.1) = ks.map toK ∧ Vals xv (kvs.map (·.2)) := by
  obtain ⟨us, h1, h2, h3⟩ := h.simple hs
  have l1 := h.lens
  have l2 := h1.length
  have e1 : ((ks.map toK).zip us).map (·.1) = ks.map toK := List.map_fst_zip (by simp; omega)
  have e2 : ((ks.map toK).zip us).map (·.2) = us := List.map_snd_zip (by simp; omega)
  refine ⟨_, fun e m => h3 e (by simpa using m), h2, ?_, e1, by rw [e2]; exact h1⟩
  rw [e1]
  clear h h1 h2 h3 l1 l2 e1 e2
  induction ks with
  | nil => simp
  | cons a r ih =>
    have nd' := List.nodup_cons.mp nd
    rw [List.map_cons]
    refine List.nodup_cons.mpr ⟨fun m => ?_, ih (fun k m => hs k (List.mem_cons_of_mem _ m)) nd'.2⟩
    obtain ⟨y, hy, ey⟩ := List.mem_map.mp m
    have a1 := hs a List.mem_cons_self
    have y1 := hs y (List.mem_cons_of_mem _ hy)
    exact nd'.1 (toK_inj y1.1 y1.2 a1.1 a1.2 ey ▸ hy)

/-- keys of one kind, and the one asked -/
theorem keyFor_all {ks : List W} {k : W} (q : KindOk ks) (h : keyFor ks k = true) : keyB k = true ∧ ∀ k' ∈ ks, keyB k' = true ∧ k'.isT = k.isT := by
  obtain ⟨h1, h2⟩ := keyFor_kind h q
  exact ⟨h1, fun k' m => ⟨q.key k' m, h2 k' m⟩⟩

section
variable {X : Cx} {ca : Nat → Addr} {pins : List (Addr × Obj)} {σ : L2.St} {H : Hp} {s : Shared} {Z : Addr → Prop} {a : Addr} {ks : List W} {xv : List V} {o : Obj} {k : W} {kv : V} {u : Value} {A : Around} {E : Value → Shared → Prop}
theorem d_obj (I : Inv X pins σ H s) (p : H a = some (pinO a o) ∨ X.K.lookup a = some o) : s.heap.get? a = some o := by
  rcases p with p | p
  · exact (I.hok a _ p).1
  · exact I.kIn a o p
/-- simple: the library's dict -/
theorem DAt.pairs (D : DAt (fx X ca) Z H a ks xv o) (ho : s.heap.get? a = some o) (hs : ∀ k ∈ ks, keyB k = true ∧ k.isT = false) : ∃ kvs, s.heap.DictOf (mixKind X.prog X.w) a kvs ∧ kvs.map (·.1) = ks.map toK ∧ Vals xv (kvs.map (·.2)) ∧ kvs.length = ks.length := by
  obtain ⟨es, ep, hd, rd⟩ := D.dat
  obtain ⟨kvs, h1, h2, h3, h4, h5⟩ := rd.pairs hs D.nd
  exact ⟨kvs, ⟨o, es, ep, ho, D.ex, hd, h1, h2, h3⟩, h4, h5, by have := congrArg List.length h4; simpa using this⟩
/-- tuples: the library's dict -/
theorem NX.is (I : Inv X pins σ H s) : ∀ {ks : List W} {xv : List V} {xs : List (NestedKey × Addr × Value)}, NX (fx X ca) Z H ks xv xs → ∀ x ∈ xs, (nestedKind X.prog X.w).is s.heap x.1 x.2.1
  | _, _, _, .nil => fun _ m => nomatch m
  | _, _, _, .cons r e d x t => fun y m => by
    rcases List.mem_cons.mp m with z | z
    · subst z
      exact ⟨r.nested I e rfl, d⟩
    · exact NX.is I t y z
theorem DAt.nested (I : Inv X pins σ H s) (D : DAt (fx X ca) Z H a ks xv o) (ho : s.heap.get? a = some o) (hs : ∀ k ∈ ks, keyB k = true ∧ k.isT = true) : ∃ xs, s.heap.DictOfH (nestedKind X.prog X.w) a xs ∧ NX (fx X ca) Z H ks xv xs ∧ xs.length = ks.length := by
  obtain ⟨es, ep, hd, rd⟩ := D.dat
  obtain ⟨xs, h1, h2⟩ := rd.nested hs
  refine ⟨xs, ⟨o, es, ep, ho, D.ex, hd, h2, h1.is I, h1.nodup D.nd⟩, h1, ?_⟩
  have := congrArg List.length h1.keys
  simpa using this.symm
theorem key_ref (r : RW (fx X ca) Z H k kv) (t : k.isT = true) : ∃ b, kv = .ref b := by
  cases k <;> simp [W.isT] at t
  cases r
  exact ⟨_, rfl⟩
theorem nodraw {b : Bool} (h : b = true) (h' : b = false) : False := by rw [h] at h'; cases h'

/-- y in d -/
theorem d_has {Q : Value → Shared → Prop} (hu : A.units + 10 < cLine) (I : Inv X pins σ H s) (p : H a = some (pinO a o) ∨ X.K.lookup a = some o) (D : DAt (fx X ca) Z H a ks xv o) (kf : keyFor ks k = true) (rk : RW (fx X ca) Z H k kv) (ru : RelV kv u)
    (h : ∀ t, Q (.bool (dGet ks xv k).isSome) { s with toks := t }) : wpAny (model X.prog X.w) A (compareOp .In u (.ref a)) Q E s := by
  have ho := d_obj I p
  obtain ⟨kb, ka⟩ := keyFor_all D.kind kf
  cases t : k.isT with
  | false =>
    obtain ⟨kvs, h1, h2, h3, _⟩ := D.pairs ho fun k' m => ⟨(ka k' m).1, (ka k' m).2.trans t⟩
    refine wpAny_in_of (keyIs_of rk ru kb t) D.sm h1.mapOf ?_
    rw [← (at_simple kb t (fun k' m => ⟨(ka k' m).1, (ka k' m).2.trans t⟩) h2 h3).isSome_eq]
    exact h _
  | true =>
    obtain ⟨xs, h1, h2, _⟩ := D.nested I ho fun k' m => ⟨(ka k' m).1, (ka k' m).2.trans t⟩
    obtain ⟨b, rfl⟩ := key_ref rk t
    cases ru
    obtain ⟨n, e, d⟩ := keyB_nk kb
    refine wpAny_in_heap (knd := nestedKind X.prog X.w) (show A.in1.units + 8 < cLine from by show A.units + 1 + 8 < cLine; omega) (show (nestedKind X.prog X.w).is s.heap n b from ⟨rk.nested I e rfl, d⟩) D.sm h1 ?_
    obtain ⟨g1, g2⟩ := h2.get e
    have : (atKey xs n).isSome = (dGet ks xv k).isSome := by
      cases q : dGet ks xv k with
      | some v => obtain ⟨p, p1, _⟩ := g1 v q; rw [p1]; rfl
      | none => rw [g2 q]; rfl
    rw [this]
    exact h _
theorem d_hasnt {Q : Value → Shared → Prop} (hu : A.units + 10 < cLine) (I : Inv X pins σ H s) (p : H a = some (pinO a o) ∨ X.K.lookup a = some o) (D : DAt (fx X ca) Z H a ks xv o) (kf : keyFor ks k = true) (rk : RW (fx X ca) Z H k kv) (ru : RelV kv u)
    (h : ∀ t, Q (.bool (!(dGet ks xv k).isSome)) { s with toks := t }) : wpAny (model X.prog X.w) A (compareOp .NotIn u (.ref a)) Q E s := by
  have ho := d_obj I p
  obtain ⟨kb, ka⟩ := keyFor_all D.kind kf
  cases t : k.isT with
  | false =>
    obtain ⟨kvs, h1, h2, h3, _⟩ := D.pairs ho fun k' m => ⟨(ka k' m).1, (ka k' m).2.trans t⟩
    refine wpAny_notIn_of (keyIs_of rk ru kb t) D.sm h1.mapOf ?_
    rw [← (at_simple kb t (fun k' m => ⟨(ka k' m).1, (ka k' m).2.trans t⟩) h2 h3).isSome_eq]
    exact h _
  | true =>
    obtain ⟨xs, h1, h2, _⟩ := D.nested I ho fun k' m => ⟨(ka k' m).1, (ka k' m).2.trans t⟩
    obtain ⟨b, rfl⟩ := key_ref rk t
    cases ru
    obtain ⟨n, e, d⟩ := keyB_nk kb
    refine wpAny_notIn_heap (knd := nestedKind X.prog X.w) (show A.in1.units + 8 < cLine from by show A.units + 1 + 8 < cLine; omega) (show (nestedKind X.prog X.w).is s.heap n b from ⟨rk.nested I e rfl, d⟩) D.sm h1 ?_
    obtain ⟨g1, g2⟩ := h2.get e
    have : (atKey xs n).isSome = (dGet ks xv k).isSome := by
      cases q : dGet ks xv k with
      | some v => obtain ⟨p, p1, _⟩ := g1 v q; rw [p1]; rfl
      | none => rw [g2 q]; rfl
    rw [this]
    exact h _
/-- d[y] -/
theorem d_at {v : V} {Q : Value → Shared → Prop} (hu : A.units + 10 < cLine) (I : Inv X pins σ H s) (p : H a = some (pinO a o) ∨ X.K.lookup a = some o) (D : DAt (fx X ca) Z H a ks xv o) (kf : keyFor ks k = true) (rk : RW (fx X ca) Z H k kv) (ru : RelV kv u) (hv : dGet ks xv k = some v)
    (h : ∀ t w, RelV v w → Q w { s with toks := t }) : wpAny (model X.prog X.w) A (getItem (.ref a) u) Q E s := by
  have ho := d_obj I p
  obtain ⟨kb, ka⟩ := keyFor_all D.kind kf
  cases t : k.isT with
  | false =>
    obtain ⟨kvs, h1, h2, h3, _⟩ := D.pairs ho fun k' m => ⟨(ka k' m).1, (ka k' m).2.trans t⟩
    have q := at_simple kb t (fun k' m => ⟨(ka k' m).1, (ka k' m).2.trans t⟩) h2 h3
    rw [hv] at q
    obtain ⟨w', hw, rw'⟩ := RelO.some_of q
    exact wpAny_getItem_of (keyIs_of rk ru kb t) h1.mapOf hw (h _ _ rw')
  | true =>
    obtain ⟨xs, h1, h2, _⟩ := D.nested I ho fun k' m => ⟨(ka k' m).1, (ka k' m).2.trans t⟩
    obtain ⟨b, rfl⟩ := key_ref rk t
    cases ru
    obtain ⟨n, e, d⟩ := keyB_nk kb
    obtain ⟨p, p1, p2⟩ := (h2.get e).1 v hv
    exact wpAny_getItem_heap (knd := nestedKind X.prog X.w) (show A.in1.units + 8 < cLine from by show A.units + 1 + 8 < cLine; omega) (show (nestedKind X.prog X.w).is s.heap n b from ⟨rk.nested I e rfl, d⟩) h1 p1 (h _ _ p2)
/-- d.get(y, x) -/
theorem d_getD {v d : V} {w : Value} {Q : Value → Shared → Prop} (hu : A.units + 10 < cLine) (I : Inv X pins σ H s) (p : H a = some (pinO a o) ∨ X.K.lookup a = some o) (D : DAt (fx X ca) Z H a ks xv o) (kf : keyFor ks k = true) (rk : RW (fx X ca) Z H k kv) (ru : RelV kv u) (rw' : RelV d w) (hv : (dGet ks xv k).getD d = v)
    (h : ∀ t w, RelV v w → Q w { s with toks := t }) : wpAny (model X.prog X.w) A (call (.builtin "dict.get") [.ref a, u, w]) Q E s := by
  have ho := d_obj I p
  obtain ⟨kb, ka⟩ := keyFor_all D.kind kf
  cases t : k.isT with
  | false =>
    obtain ⟨kvs, h1, h2, h3, _⟩ := D.pairs ho fun k' m => ⟨(ka k' m).1, (ka k' m).2.trans t⟩
    have q := at_simple kb t (fun k' m => ⟨(ka k' m).1, (ka k' m).2.trans t⟩) h2 h3
    refine call_meetsIn PySem.F.slot_dict_get h1.typeIs PySem.F.entry_dict_get (PySem.F.args_dict_get_3 _ _ _) (meets_dict_get_default (mixKind X.prog X.w) a (keyIs_of rk ru kb t) D.sm w) ⟨_, h1.mapOf, ?_⟩
    refine h _ _ ?_
    cases q1 : dGet ks xv k with
    | some v' =>
      rw [q1] at q hv
      obtain ⟨w', hw, r'⟩ := RelO.some_of q
      rw [hw]
      subst hv
      exact r'
    | none =>
      rw [q1] at q hv
      rw [RelO.none_of q]
      subst hv
      exact rw'
  | true =>
    obtain ⟨xs, h1, h2, _⟩ := D.nested I ho fun k' m => ⟨(ka k' m).1, (ka k' m).2.trans t⟩
    obtain ⟨b, rfl⟩ := key_ref rk t
    cases ru
    obtain ⟨n, e, dd⟩ := keyB_nk kb
    refine call_meetsIn PySem.F.slot_dict_get h1.typeIs PySem.F.entry_dict_get (PySem.F.args_dict_get_3 _ _ _) (meetsH_dict_get_default (nestedKind X.prog X.w) a b D.sm w) ⟨show A.in1.units + 8 < cLine from by show A.units + 1 + 8 < cLine; omega, n, xs, ⟨rk.nested I e rfl, dd⟩, h1, ?_⟩
    refine h _ _ ?_
    obtain ⟨g1, g2⟩ := h2.get e
    cases q1 : dGet ks xv k with
    | some v' =>
      rw [q1] at hv
      subst hv
      obtain ⟨p, p1, p2⟩ := g1 v' q1
      rw [p1]
      exact p2
    | none =>
      rw [q1] at hv
      subst hv
      rw [g2 q1]
      exact rw'
/-- the object behind a write -/
structure DNew (F : Fx) (Z : Addr → Prop) (H : Hp) (ks : List W) (xv : List V) (o : Obj) : Prop where
  ex : o.ExactDict
  dat : ∃ es ep, o.data = .dict es ep ∧ RD F Z H ks xv es.toList
theorem d_wrote {h' : Heap} {t' : Nat} {o' : Obj} (I : Inv X pins σ H s) (e : H a = some (pinO a o)) (hs : Heap.SameBut a s.heap h') (he : h'.get? a = some o') : Inv X pins σ (upd H a (pinO a o')) { s with heap := h', toks := t' } :=
  d_write I (by rw [e]; exact True.intro) hs ⟨_, he⟩ ⟨he, ⟨_, he⟩, fun h1 h2 p q => q _ p⟩
theorem d_put {v : V} {r : Value} {Q : Unit → Shared → Prop} (hu : A.units + 10 < cLine) (I : Inv X pins σ H s) (p : H a = some (pinO a o)) (D : DAt (fx X ca) Z H a ks xv o) (kf : keyFor ks k = true) (rk : RW (fx X ca) Z H k kv) (ru : RelV kv u) (rv : RelV v r)
    (h : ∀ o' s', Inv X pins σ (upd H a (pinO a o')) s' → DNew (fx X ca) Z H (dSetK ks k) (dSetV ks xv k v) o' → Q () s') : wpAny (model X.prog X.w) A (setItem (.ref a) u r) Q E s := by
  have ho := d_obj I (.inl p)
  obtain ⟨kb, ka⟩ := keyFor_all D.kind kf
  cases t : k.isT with
  | false =>
    have hs : ∀ k' ∈ ks, keyB k' = true ∧ k'.isT = false := fun k' m => ⟨(ka k' m).1, (ka k' m).2.trans t⟩
    obtain ⟨kvs, h1, h2, h3, h4⟩ := D.pairs ho hs
    refine wpAny_setItem_pairs (hsz := by rw [h4]; exact D.len) (keyIs_of rk ru kb t) h1 fun h' dd hs' => ?_
    obtain ⟨q, es, ep, hq, q1, q2, q3, q4, q5⟩ := dd
    obtain ⟨e1, e2⟩ := stored_simple kb t rv hs h2 h3 D.nd
    refine h q _ (d_wrote I p hs' hq) ⟨q1, es, ep, q2, ?_⟩
    rw [← e1]
    exact RD.of_simple q4 (fun e m => q3 e (by simpa using m)) e2
  | true =>
    obtain ⟨xs, h1, h2, h4⟩ := D.nested I ho fun k' m => ⟨(ka k' m).1, (ka k' m).2.trans t⟩
    obtain ⟨b, rfl⟩ := key_ref rk t
    cases ru
    obtain ⟨n, e, dd⟩ := keyB_nk kb
    refine wpAny_setItem_heap (hsz := by rw [h4]; exact D.len) (knd := nestedKind X.prog X.w) (show A.in1.units + 8 < cLine from by show A.units + 1 + 8 < cLine; omega) (show (nestedKind X.prog X.w).is s.heap n b from ⟨rk.nested I e rfl, dd⟩) h1 fun h' d' hs' => ?_
    obtain ⟨q, es, ep, hq, q1, q2, q3, _, q5⟩ := d'
    refine h q _ (d_wrote I p hs' hq) ⟨q1, es, ep, q2, ?_⟩
    rw [q3]
    exact (h2.stored e dd rk rv D.nd).rd
/-- d.setdefault(y, x) -/
theorem d_setdef {d : V} {w : Value} {Q : Value → Shared → Prop} (hu : A.units + 10 < cLine) (I : Inv X pins σ H s) (p : H a = some (pinO a o)) (D : DAt (fx X ca) Z H a ks xv o) (kf : keyFor ks k = true) (rk : RW (fx X ca) Z H k kv) (ru : RelV kv u) (rd : RelV d w)
    (h1 : ∀ v, dGet ks xv k = some v → ∀ t w', RelV v w' → Q w' { s with toks := t })
    (h2 : dGet ks xv k = none → ∀ o' s', Inv X pins σ (upd H a (pinO a o')) s' → DNew (fx X ca) Z H (dSetK ks k) (dSetV ks xv k d) o' → Q w s') : wpAny (model X.prog X.w) A (call (.builtin "dict.setdefault") [.ref a, u, w]) Q E s := by
  have ho := d_obj I (.inl p)
  obtain ⟨kb, ka⟩ := keyFor_all D.kind kf
  cases t : k.isT with
  | false =>
    have hs : ∀ k' ∈ ks, keyB k' = true ∧ k'.isT = false := fun k' m => ⟨(ka k' m).1, (ka k' m).2.trans t⟩
    obtain ⟨kvs, g1, g2, g3, g4⟩ := D.pairs ho hs
    have q := at_simple kb t hs g2 g3
    refine call_meetsIn PySem.F.slot_dict_setdefault g1.typeIs PySem.F.entry_dict_setdefault (PySem.F.args_dict_setdefault_3 _ _ _) (kt_meets_setdefault (mixKind X.prog X.w) a (keyIs_of rk ru kb t) D.sm w) ⟨kvs, g1, by rw [g4]; exact D.len, ?_⟩
    cases q1 : dGet ks xv k with
    | some v' =>
      rw [q1] at q
      obtain ⟨w', hw, r'⟩ := RelO.some_of q
      rw [hw]
      exact ⟨fun v e => by cases e; exact h1 v' q1 _ _ r', fun e => nomatch e⟩
    | none =>
      rw [q1] at q
      rw [RelO.none_of q]
      refine ⟨(fun v e => nomatch e), fun _ h' dd hs' => ?_⟩
      obtain ⟨q, es, ep, hq, q1', q2, q3, q4, q5⟩ := dd
      obtain ⟨e1, e2⟩ := stored_simple kb t rd hs g2 g3 D.nd
      refine h2 q1 q _ (d_wrote I p hs' hq) ⟨q1', es, ep, q2, ?_⟩
      rw [← e1]
      exact RD.of_simple q4 (fun e m => q3 e (by simpa using m)) e2
  | true =>
    obtain ⟨xs, g1, g2, g4⟩ := D.nested I ho fun k' m => ⟨(ka k' m).1, (ka k' m).2.trans t⟩
    obtain ⟨b, rfl⟩ := key_ref rk t
    cases ru
    obtain ⟨n, e, dd⟩ := keyB_nk kb
    obtain ⟨e1, e2⟩ := g2.get e
    refine call_setdefault_heap (hsz := by rw [g4]; exact D.len) (knd := nestedKind X.prog X.w) (show A.in1.units + 8 < cLine from by show A.units + 1 + 8 < cLine; omega) (show (nestedKind X.prog X.w).is s.heap n b from ⟨rk.nested I e rfl, dd⟩) D.sm g1 (fun p hp => ?_) fun hn h' d' hs' => ?_
    · cases q1 : dGet ks xv k with
      | some v' =>
        obtain ⟨p', p1, p2⟩ := e1 v' q1
        rw [hp] at p1
        cases p1
        exact h1 v' q1 _ _ p2
      | none =>
        rw [e2 q1] at hp
        cases hp
    · obtain ⟨q, es, ep, hq, q1, q2, q3, _, q5⟩ := d'
      refine h2 ?_ q _ (d_wrote I p hs' hq) ⟨q1, es, ep, q2, ?_⟩
      · cases q1 : dGet ks xv k with
        | some v' =>
          obtain ⟨p', p1, p2⟩ := e1 v' q1
          rw [hn] at p1
          cases p1
        | none => rfl
      · rw [q3]
        exact (g2.stored e dd rk rd D.nd).rd
end
end AM
/-! text AmS4 -/
set_option Elab.async false
set_option linter.all false
set_option maxRecDepth 100000
set_option maxHeartbeats 2000000
/-! AmS4: in, comparisons, tests. -/
namespace AM
open PySem PySem.Spec PyProof.Rows L2

theorem any_dat {a : W} (ha : a.lay = true) : ∀ {ws : List W}, W.lays ws = true → (ws.any fun y => W.pyeq y a) = (W.dats ws).any fun z => PyData.eqv z a.dat
  | [], _ => rfl
  | x :: r, h => by
    simp only [W.lays, Bool.and_eq_true] at h
    simp only [W.dats, List.any_cons, W.pyeq_ok x a h.1 ha, any_dat ha h.2]
section
variable {X : Cx} {ca : Nat → Addr} {g : Gd} {bx : Bx} {H : Hp} {r1 r2 : R} {x y : V} {c : Bool}
theorem inR_ok (b : BxOk (fx X ca) g bx H) (h1 : RR (fx X ca) g H r1 x) (h2 : RR (fx X ca) g H r2 y) (e : inR bx r1 r2 = some c) :
    (∃ (ch : Nat) (z : Str), x = .str ⟨#[ch]⟩ ∧ y = .str z ∧ c = decide (ch ∈ z.cps.toList)) ∨
    (∃ a o ks xv k, y = .ref a ∧ (H a = some (pinO a o) ∨ X.K.lookup a = some o) ∧ DAt (fx X ca) g.Z H a ks xv o ∧ keyFor ks k = true ∧ RW (fx X ca) g.Z H k x ∧ c = (dGet ks xv k).isSome) ∨
    (∃ a vs ds d, y = .ref a ∧ (SqT X.K H a vs ∨ H a = some (.lst vs)) ∧ DpAll X.K H vs ds ∧ Dp X.K H x d ∧ SeqAt.shaped d = true ∧ PyData.canLayAll0 ds = true ∧ c = ds.any fun z => PyData.eqv z d) := by
  unfold inR at e
  split at e
  · split at e
    · rename_i s _ t
      split at e
      · rename_i ch hc
        cases e
        cases h1 with | v h1 => cases h1; cases h2 with | v h2 =>
          cases h2
          refine .inl ⟨ch, s, ?_, rfl, rfl⟩
          congr 1
          obtain ⟨l⟩ := t
          obtain ⟨l⟩ := l
          simp only at hc
          subst hc
          rfl
      · cases e
    · cases e
  · split at e
    · rename_i ks rs e1
      split at e
      · rename_i k
        split at e
        · rename_i hk
          cases e
          obtain ⟨a, o, xv, rfl, p, D, rr⟩ := h2.dct b e1
          cases h1 with | v h1 =>
          refine .inr (.inl ⟨a, o, ks, xv, k, rfl, p, D, hk, h1, ?_⟩)
          obtain ⟨g1, g2⟩ := RRs.dGet (k := k) (ks := ks) rr
          cases q : dGet ks rs k with
          | some r => obtain ⟨v, e2, _⟩ := g1 r q; rw [e2]; rfl
          | none => rw [g2 q]; rfl
        · cases e
      · cases e
    · split at e
      · rename_i ys w e1 e2
        simp only [Option.bind_eq_some_iff] at e
        obtain ⟨ws, e3, e4⟩ := e
        split at e4
        · rename_i hd
          rw [Bool.and_eq_true] at hd
          cases e4
          obtain ⟨a, vs, rfl, hs, _, rr⟩ := h2.seq b e1
          have l1 := W.isDat_lay hd.1
          refine .inr (.inr ⟨a, vs, W.dats ws, w.dat, rfl, hs, ?_, (view_ok b 9 h1 e2).dp l1, W.shaped hd.1, W.dats_lay ws hd.2, any_dat l1 hd.2⟩)
          exact (mapO_ok (P := fun _ _ => True) rr (fun r v w a e => view_ok b 9 a e) e3).dp hd.2
        · cases e4
      · cases e
end
section
variable {X : Cx} {ca : Nat → Addr}
theorem op_in (hu : X.A.units + 66 < cLine) : OpR X (compareOp .In) fun x y H Q => tO (fx X ca) (opCmp .isin) [x, y] H Q := by
  intro pins s σ H x y v u Q I rx ry ⟨g, bx, rs, b, rr, p⟩
  obtain ⟨r1, r2, rfl, h1, h2⟩ := rr.two
  replace p : PostO (fx X ca) g H Q (okO (inR bx r1 r2) bx) := p
  unfold okO at p
  split at p
  · rename_i c e
    have q := okB_ok b p
    rcases inR_ok b h1 h2 e with ⟨ch, z, rfl, rfl, rfl⟩ | ⟨a, o, ks, xv, k, rfl, pp, D, kf, rw', rfl⟩ | ⟨a, vs, ds, d, rfl, hs, hds, hd, sd, lay, rfl⟩
    · exact op_in_sign pins s σ H _ _ v u Q I rx ry ⟨ch, z, rfl, rfl, q⟩
    · cases ry
      exact d_has (by omega) I pp D kf rw' rx fun t => ⟨.bl _, H, I.tok _, rfl, q⟩
    · obtain ⟨as, ra⟩ := Dp.reads I d x v hd rx
      rcases hs with hs | hs
      · obtain ⟨bs, rb⟩ := Dp.reads I (.tuple ds) (.ref a) u (.tup hs hds) ry
        exact SeqAt.in_tuple_reads rb ra lay (SeqAt.canLay_of_shaped sd) (room_in_shaped sd (by omega)) ⟨.bl _, H, I, rfl, q⟩
      · obtain ⟨bs, rb⟩ := Dp.reads I (.list ds) (.ref a) u (.lst (.of hs) hds) ry
        exact SeqAt.in_list_reads rb ra lay (SeqAt.canLay_of_shaped sd) (room_in_shaped sd (by omega)) ⟨.bl _, H, I, rfl, q⟩
  · exact p.elim
theorem op_notin (hu : X.A.units + 66 < cLine) : OpR X (compareOp .NotIn) fun x y H Q => tO (fx X ca) (opCmp .notin) [x, y] H Q := by
  intro pins s σ H x y v u Q I rx ry ⟨g, bx, rs, b, rr, p⟩
  obtain ⟨r1, r2, rfl, h1, h2⟩ := rr.two
  replace p : PostO (fx X ca) g H Q (okO ((inR bx r1 r2).map (!·)) bx) := p
  unfold okO at p
  split at p
  · rename_i c e
    simp only [Option.map_eq_some_iff] at e
    obtain ⟨c', e, rfl⟩ := e
    have q := okB_ok b p
    rcases inR_ok b h1 h2 e with ⟨ch, z, rfl, rfl, rfl⟩ | ⟨a, o, ks, xv, k, rfl, pp, D, kf, rw', rfl⟩ | ⟨a, vs, ds, d, rfl, hs, hds, hd, sd, lay, rfl⟩
    · exact op_notIn_sign pins s σ H _ _ v u Q I rx ry ⟨ch, z, rfl, rfl, q⟩
    · cases ry
      exact d_hasnt (by omega) I pp D kf rw' rx fun t => ⟨.bl _, H, I.tok _, rfl, q⟩
    · obtain ⟨as, ra⟩ := Dp.reads I d x v hd rx
      rcases hs with hs | hs
      · obtain ⟨bs, rb⟩ := Dp.reads I (.tuple ds) (.ref a) u (.tup hs hds) ry
        exact SeqAt.notIn_tuple_reads rb ra lay (SeqAt.canLay_of_shaped sd) (room_in_shaped sd (by omega)) ⟨.bl _, H, I, rfl, q⟩
      · obtain ⟨bs, rb⟩ := Dp.reads I (.list ds) (.ref a) u (.lst (.of hs) hds) ry
        exact SeqAt.notIn_list_reads rb ra lay (SeqAt.canLay_of_shaped sd) (room_in_shaped sd (by omega)) ⟨.bl _, H, I, rfl, q⟩
  · exact p.elim
/-- the machine's comparison for the language's -/
def copOf : CmpOp → Option Cop
  | .Eq => some .eq
  | .NotEq => some .ne
  | .Lt => some .lt
  | .LtE => some .le
  | .Gt => some .gt
  | .GtE => some .ge
  | .Is => some .isN
  | .IsNot => some .notN
  | .In => some .isin
  | .NotIn => some .notin
theorem op_cmp (hu : X.A.units + 66 < cLine) {o : Cop} {op : CmpOp} (e : copOf op = some o) : OpR X (compareOp op) fun x y H Q => tO (fx X ca) (opCmp o) [x, y] H Q := by
  cases op <;> simp [copOf] at e <;> subst e
  · exact op_eq (by omega)
  · exact op_ne (by omega)
  · exact op_lt
  · exact op_le
  · exact op_gt
  · exact op_ge
  · exact op_is
  · exact op_isnot
  · exact op_in hu
  · exact op_notin hu
theorem noX_cmp (o : Cop) : NoX (opCmp o) := by
  intro rs bx w bx' h
  unfold opCmp at h
  split at h
  · unfold okO at h
    split at h
    · cases h
    · cases h
  · cases h
end

/-! ### tests -/
def tMT (F : Fx) (Wx : WX) (m : E) : TT := fun σ H Q => tM F Wx m σ H fun v H1 => ∃ c, v = .bl c ∧ Q c H1
structure ST (X : Cx) (ca : Nat → Addr) (m : E) (e : Expr) : Prop where
  pt : ∀ Wx : WX, Takes X Wx → PT X e (tMT (fx X ca) Wx m)
structure SW (X : Cx) (ca : Nat → Addr) (m : E) (e : Expr) : Prop where
  pw : ∀ Wx : WX, Takes X Wx → PW X e (tMT (fx X ca) Wx m)
theorem PW.imp {X : Cx} {e : Expr} {t t' : TT} (h : PW X e t) (q : ∀ σ H Q, t' σ H Q → t σ H Q) : PW X e t' := ⟨fun wh pins s σ H Q I h' => h.run wh pins s σ H Q I (q σ H Q h')⟩
theorem SW.st {X : Cx} {ca : Nat → Addr} {m : E} {e : Expr} (h : SW X ca m e) : ST X ca m e := ⟨fun Wx tk => (h.pw Wx tk).pt⟩
section
variable {F : Fx} {Wx : WX}
theorem tM_imp {m : E} {σ : L2.St} {H : Hp} {Q Q' : VK} (h : tM F Wx m σ H Q) (q : ∀ v H, Q v H → Q' v H) : tM F Wx m σ H Q' := by
  obtain ⟨g, en, bx, a, b, c⟩ := h
  refine ⟨g, en, bx, a, b, ?_⟩
  cases e : m en bx with
  | ok r bx' => rw [e] at c; exact fun g' H' v e' b' r' => q v H' (c g' H' v e' b' r')
  | exc w bx' => rw [e] at c; exact c
  | stuck => rw [e] at c; exact c
theorem tM_bool {m : E} {k : Bool → E} {σ : L2.St} {H : Hp} {Q : VK} (h : tM F Wx (eBool m k) σ H Q) : tM F Wx m σ H fun v H1 => ∃ c, v = .bl c ∧ tM F Wx (k c) σ H1 Q := by
  obtain ⟨g, en, bx, a, b, c⟩ := h
  refine ⟨g, en, bx, a, b, ?_⟩
  replace c : PostR F g σ H Wx Q (match m en bx with
    | .ok r bx' => (match r with
      | .v (.bl b) => k b
      | _ => fun _ _ => .stuck) en bx'
    | .exc w bx' => .exc w bx'
    | .stuck => .stuck) := c
  cases e : m en bx with
  | ok r bx' =>
    rw [e] at c
    intro g' H' v e' b' r'
    cases r with
    | v w =>
      cases w with
      | bl t =>
        cases r' with | v r' => cases r'; exact ⟨t, rfl, g', en, bx', a.mono e', b', PostR.ext e' c⟩
      | _ => exact c.elim
    | r _ => exact c.elim
    | clo _ _ => exact c.elim
  | exc w bx' => rw [e] at c; exact c
  | stuck => rw [e] at c; exact c
theorem tM_bl {t : Bool} {σ : L2.St} {H : Hp} {Q : VK} (h : tM F Wx (eC (.bl t)) σ H Q) : Q (.bl t) H := by
  obtain ⟨g, en, bx, a, b, c⟩ := h
  exact c g H _ (Ext.refl g H) b (.v (.bl t))
end
theorem tK_bind' {F : Fx} {Wx : WX} {m : E} {k0 k : List R → E} {vs : List V} {σ : L2.St} {H : Hp} {Q : VK} (hk : ∀ rs : List R, rs.length = vs.length → k0 rs = eBind m fun r => k (rs ++ [r])) (h : tK F Wx k0 vs σ H Q) : tM F Wx m σ H fun v H1 => tK F Wx k (vs ++ [v]) σ H1 Q := by
  obtain ⟨g, en, bx, rs, a, b, c, p⟩ := h
  rw [hk rs c.length] at p
  refine ⟨g, en, bx, a, b, ?_⟩
  show PostR F g σ H Wx _ (m en bx)
  replace p : PostR F g σ H Wx Q (match m en bx with
    | .ok r bx' => k (rs ++ [r]) en bx'
    | .exc w bx' => .exc w bx'
    | .stuck => .stuck) := p
  cases e : m en bx with
  | ok r bx' =>
    rw [e] at p
    exact fun g' H' v e' b' q => ⟨g', en, bx', rs ++ [r], a.mono e', b', (c.mono e').append (.cons q .nil), PostR.ext e' p⟩
  | exc w bx' =>
    rw [e] at p
    exact p
  | stuck =>
    rw [e] at p
    exact p
section
variable {X : Cx} {ca : Nat → Addr} {a b c : Expr} {ma mb mc : E} {pos : Pos} {rest : List Expr} {ms : List E}
/-- e is no comparison, no and, or, not -/
theorem st_val {e : Expr} {m : E} (h : SE X ca m e) (he : ∀ whole, isTrue e X.env whole = (do let v ← whole; standAt e.pos; holding [v] (truthy v))) : ST X ca m e := ⟨fun Wx tk => PT.imp (pt_val (h.pe Wx tk) he) fun σ H Q x => x⟩
theorem se_cmp (hu : X.A.units + 66 < cLine) {o : Cop} {op : CmpOp} (e : copOf op = some o) (ha : SE X ca ma a) (hb : SE X ca mb b) (hm : behindInMarks op b = false) : SE X ca (eOp [ma, mb] (opCmp o)) (.Compare a [op] [b] pos) := ⟨fun Wx tk =>
  PE.imp (pe_cmpR (op_cmp (ca := ca) hu e) (ha.pe Wx tk) (hb.pe Wx tk) hm) fun σ H Q x => tM2 (noX_cmp o) x⟩
theorem st_cmp (hu : X.A.units + 66 < cLine) {o : Cop} {op : CmpOp} (e : copOf op = some o) (ha : SE X ca ma a) (hb : SE X ca mb b) (hm : behindInMarks op b = false) : ST X ca (eOp [ma, mb] (opCmp o)) (.Compare a [op] [b] pos) := ⟨fun Wx tk =>
  PT.imp (pt_cmpR (op_cmp (ca := ca) hu e) (ha.pe Wx tk) (hb.pe Wx tk) hm) fun σ H Q x => tM2 (noX_cmp o) x⟩
theorem se_and1 {op : BoolOp} (ha : SE X ca ma a) : SE X ca ma (.BoolOp op [a] pos) := ⟨fun Wx tk => pe_one (ha.pe Wx tk)⟩
theorem se_and (ha : SE X ca ma a) (hb : SE X ca (eAnd (mb :: ms)) (.BoolOp .And (b :: rest) pos)) : SE X ca (eAnd (ma :: mb :: ms)) (.BoolOp .And (a :: b :: rest) pos) := ⟨fun Wx tk =>
  PE.imp (pe_and (ha.pe Wx tk) (hb.pe Wx tk)) fun σ H Q x => tM_imp (tM_bool x) fun v H1 ⟨c, e, q⟩ => ⟨c, e, by
    cases c with
    | true => exact q
    | false => exact tM_bl q⟩⟩
theorem se_or (ha : SE X ca ma a) (hb : SE X ca (eOr (mb :: ms)) (.BoolOp .Or (b :: rest) pos)) : SE X ca (eOr (ma :: mb :: ms)) (.BoolOp .Or (a :: b :: rest) pos) := ⟨fun Wx tk =>
  PE.imp (pe_or (ha.pe Wx tk) (hb.pe Wx tk)) fun σ H Q x => tM_imp (tM_bool x) fun v H1 ⟨c, e, q⟩ => ⟨c, e, by
    cases c with
    | true => exact tM_bl q
    | false => exact q⟩⟩
theorem se_not (ha : SE X ca ma a) : SE X ca (eNot ma) (.UnaryOp .Not a pos) := ⟨fun Wx tk =>
  PE.imp (pe_not (ha.pe Wx tk)) fun σ H Q x => tM_imp (tM_bool x) fun v H1 ⟨c, e, q⟩ => ⟨c, e, tM_bl q⟩⟩
theorem sw_and1 (ha : ST X ca ma a) : SW X ca ma (.BoolOp .And [a] pos) := ⟨fun Wx tk => pw_and1 (ha.pt Wx tk)⟩
theorem sw_or1 (ha : ST X ca ma a) : SW X ca ma (.BoolOp .Or [a] pos) := ⟨fun Wx tk => pw_or1 (ha.pt Wx tk)⟩
theorem sw_and (ha : ST X ca ma a) (hb : SW X ca (eAnd (mb :: ms)) (.BoolOp .And (b :: rest) pos)) : SW X ca (eAnd (ma :: mb :: ms)) (.BoolOp .And (a :: b :: rest) pos) := ⟨fun Wx tk =>
  PW.imp (pw_and (ha.pt Wx tk) (hb.pw Wx tk)) fun σ H Q x => tM_imp (tM_bool x) fun v H1 ⟨c, e, q⟩ => ⟨c, e, by
    cases c with
    | true => exact q
    | false =>
      obtain ⟨c', e', q'⟩ := tM_bl q
      cases e'
      exact q'⟩⟩
theorem sw_or (ha : ST X ca ma a) (hb : SW X ca (eOr (mb :: ms)) (.BoolOp .Or (b :: rest) pos)) : SW X ca (eOr (ma :: mb :: ms)) (.BoolOp .Or (a :: b :: rest) pos) := ⟨fun Wx tk =>
  PW.imp (pw_or (ha.pt Wx tk) (hb.pw Wx tk)) fun σ H Q x => tM_imp (tM_bool x) fun v H1 ⟨c, e, q⟩ => ⟨c, e, by
    cases c with
    | true =>
      obtain ⟨c', e', q'⟩ := tM_bl q
      cases e'
      exact q'
    | false => exact q⟩⟩
theorem st_not (ha : ST X ca ma a) : ST X ca (eNot ma) (.UnaryOp .Not a pos) := ⟨fun Wx tk =>
  PT.imp (pt_not (ha.pt Wx tk)) fun σ H Q x => tM_imp (tM_bool x) fun v H1 ⟨c, e, q⟩ => ⟨c, e, by
    obtain ⟨c', e', q'⟩ := tM_bl q
    cases e'
    exact q'⟩⟩
theorem se_if (ht : ST X ca mc c) (ha : SE X ca ma a) (hb : SE X ca mb b) : SE X ca (eIf mc ma mb) (.IfExp c a b pos) := ⟨fun Wx tk =>
  PE.imp (pe_ifExp (ht.pt Wx tk) (ha.pe Wx tk) (hb.pe Wx tk)) fun σ H Q x => tM_imp (tM_bool x) fun v H1 ⟨c, e, q⟩ => ⟨c, e, by
    cases c with
    | true => exact q
    | false => exact q⟩⟩

/-- a o1 b o2 c -/
theorem tM_chain {F : Fx} {Wx : WX} {o1 o2 : Cop} {σ : L2.St} {H : Hp} {Q : VK} (h : tM F Wx (eChain o1 o2 ma mb mc) σ H Q) :
    tChain (fun x y H Q => tO F (opCmp o1) [x, y] H Q) (fun x y H Q => tO F (opCmp o2) [x, y] H Q) (tM F Wx ma) (tM F Wx mb) (tM F Wx mc) σ H Q := by
  have s1 := tK_bind' (vs := []) (k := fun rs => match rs with
    | [x] => eBind mb fun y => eBool (fun _ bx => opCmp o1 [x, y] bx) fun t => if t then eBind mc fun z => fun _ bx => opCmp o2 [y, z] bx else eC (.bl false)
    | _ => fun _ _ => .stuck) (fun rs hl => by
      have : rs = [] := List.eq_nil_of_length_eq_zero hl
      subst this
      rfl) (tK_of (m := eChain o1 o2 ma mb mc) h)
  refine tM_imp s1 fun x H1 s2 => ?_
  have s3 := tK_bind' (m := mb) (k := fun rs => match rs with
    | [x, y] => eBool (fun _ bx => opCmp o1 [x, y] bx) fun t => if t then eBind mc fun z => fun _ bx => opCmp o2 [y, z] bx else eC (.bl false)
    | _ => fun _ _ => .stuck) (fun rs hl => by
      match rs, hl with
      | [x], _ => rfl) s2
  refine tM_imp s3 fun y H2 s4 => ?_
  obtain ⟨g, en, bx, rs, A, B, rr, p⟩ := s4
  obtain ⟨r1, r2, rfl, h1, h2⟩ := rr.two
  refine ⟨g, bx, [r1, r2], B, rr, ?_⟩
  replace p : PostR F g σ H2 Wx Q ((eBool (fun _ bx => opCmp o1 [r1, r2] bx) fun t => if t then eBind mc fun z => fun _ bx => opCmp o2 [r2, z] bx else eC (.bl false)) en bx) := p
  have q := tM_bool (F := F) (Wx := Wx) (σ := σ) (H := H2) (Q := Q) (k := fun t => if t then eBind mc fun z => fun _ bx => opCmp o2 [r2, z] bx else eC (.bl false)) (m := fun _ bx => opCmp o1 [r1, r2] bx) ⟨g, en, bx, A, B, p⟩
  cases e : opCmp o1 [r1, r2] bx with
  | ok r bx' =>
    replace p : PostR F g σ H2 Wx Q (match opCmp o1 [r1, r2] bx with
      | .ok r bx' => (match r with
        | .v (.bl b) => if b then eBind mc fun z => fun _ bx => opCmp o2 [r2, z] bx else eC (.bl false)
        | _ => fun _ _ => .stuck) en bx'
      | .exc w bx' => .exc w bx'
      | .stuck => .stuck) := p
    rw [e] at p
    intro g' H' v e' b' r'
    cases r with
    | v w =>
      cases w with
      | bl t =>
        cases r' with | v r' =>
        cases r'
        refine ⟨t, rfl, ?_⟩
        have p' := PostR.ext e' p
        cases t with
        | true =>
          rw [if_pos rfl]
          replace p' : PostR F g' σ H' Wx Q ((eBind mc fun z => fun _ bx => opCmp o2 [r2, z] bx) en bx') := p'
          have s5 := tK_bind (vs := [y]) (σ := σ) (H := H') (Q := Q) (m := mc) (Wx := Wx) (F := F) (k := fun rs _ bx => opCmp o2 rs bx) ⟨g', en, bx', [r2], A.mono e', b', .cons (h2.mono e') .nil, p'⟩
          exact tM_imp s5 fun z H4 s6 => tK_op (noX_cmp o2) s6
        | false =>
          rw [if_neg Bool.false_ne_true]
          exact p' g' H' _ (Ext.refl g' H') b' (.v (.bl false))
      | _ => exact p.elim
    | r _ => exact p.elim
    | clo _ _ => exact p.elim
  | exc w bx' => exact absurd e (noX_cmp o1 _ _ _ _)
  | stuck =>
    replace p : PostR F g σ H2 Wx Q (match opCmp o1 [r1, r2] bx with
      | .ok r bx' => (match r with
        | .v (.bl b) => if b then eBind mc fun z => fun _ bx => opCmp o2 [r2, z] bx else eC (.bl false)
        | _ => fun _ _ => .stuck) en bx'
      | .exc w bx' => .exc w bx'
      | .stuck => .stuck) := p
    rw [e] at p
    exact p.elim
theorem se_chain (hu : X.A.units + 66 < cLine) {o1 o2 : Cop} {op op' : CmpOp} (e1 : copOf op = some o1) (e2 : copOf op' = some o2) (ha : SE X ca ma a) (hb : SE X ca mb b) (hc : SE X ca mc c) (hm : lastMarks [op, op'] [b, c] = false) :
    SE X ca (eChain o1 o2 ma mb mc) (.Compare a [op, op'] [b, c] pos) := ⟨fun Wx tk =>
  PE.imp (pe_chain (op_cmp (ca := ca) hu e1) (op_cmp (ca := ca) hu e2) (ha.pe Wx tk) (hb.pe Wx tk) (hc.pe Wx tk) hm) fun σ H Q x => tM_chain x⟩
theorem st_chain (hu : X.A.units + 66 < cLine) {o1 o2 : Cop} {op op' : CmpOp} (e1 : copOf op = some o1) (e2 : copOf op' = some o2) (ha : SE X ca ma a) (hb : SE X ca mb b) (hc : SE X ca mc c) (hm : lastMarks [op, op'] [b, c] = false) :
    ST X ca (eChain o1 o2 ma mb mc) (.Compare a [op, op'] [b, c] pos) := ⟨fun Wx tk =>
  PT.imp (pt_chain (op_cmp (ca := ca) hu e1) (op_cmp (ca := ca) hu e2) (ha.pe Wx tk) (hb.pe Wx tk) (hc.pe Wx tk) hm) fun σ H Q x => tM_chain x⟩
end
end AM
/-! text AmT1 -/
set_option Elab.async false
set_option linter.all false
set_option maxRecDepth 100000
set_option maxHeartbeats 2000000
/-! AmT1: statements. -/
namespace AM
open PySem PySem.Spec PyProof.Rows L2

def PostC (F : Fx) (g : Gd) (H : Hp) (Wx : WX) (D : Ends) : Ct → Prop
  | .nx en bx => ∀ g' σ' H', Ext g H g' H' → BxOk F g' bx H' → EnOk F g' en σ' H' → D.nx σ' H'
  | .ct en bx => ∀ g' σ' H', Ext g H g' H' → BxOk F g' bx H' → EnOk F g' en σ' H' → D.ct σ' H'
  | .rt r bx => ∀ g' H' v, Ext g H g' H' → BxOk F g' bx H' → RR F g' H' r v → D.rt v H'
  | .exc w en bx => ∀ g' σ' H' cls d, Ext g H g' H' → BxOk F g' bx H' → EnOk F g' en σ' H' → XR F g' H' w cls d → Wx cls d σ' H'
  | .stuck => False
theorem PostC.ext {F : Fx} {g g1 : Gd} {H H1 : Hp} {Wx : WX} {D : Ends} {r : Ct} (e : Ext g H g1 H1) (h : PostC F g H Wx D r) : PostC F g1 H1 Wx D r := by
  cases r with
  | nx en bx => exact fun g' σ' H' e' => h g' σ' H' (e.trans e')
  | ct en bx => exact fun g' σ' H' e' => h g' σ' H' (e.trans e')
  | rt r bx => exact fun g' H' v e' => h g' H' v (e.trans e')
  | exc w en bx => exact fun g' σ' H' c d e' => h g' σ' H' c d (e.trans e')
  | stuck => exact h
/-- a statement's meaning, in any frame and boxes that stand -/
def tS (F : Fx) (Wx : WX) (c : C) : TS := fun D σ H => ∃ g en bx, EnOk F g en σ H ∧ BxOk F g bx H ∧ PostC F g H Wx D (c en bx)
/-- .. with an answer at hand -/
def tSK (F : Fx) (Wx : WX) (k : R → C) (v : V) : TS := fun D σ H => ∃ g en bx r, EnOk F g en σ H ∧ BxOk F g bx H ∧ RR F g H r v ∧ PostC F g H Wx D (k r en bx)
structure SS (X : Cx) (ca : Nat → Addr) (c : C) (st : Stmt) : Prop where
  ps : ∀ Wx : WX, Takes X Wx → PS X st (tS (fx X ca) Wx c)
structure SSs (X : Cx) (ca : Nat → Addr) (c : C) (st : List Stmt) : Prop where
  ps : ∀ Wx : WX, Takes X Wx → PSs X st (tS (fx X ca) Wx c)
theorem PS.imp {X : Cx} {e : Stmt} {t t' : TS} (h : PS X e t) (q : ∀ D σ H, t' D σ H → t D σ H) : PS X e t' := ⟨fun pins s σ H D I h' => h.run pins s σ H D I (q D σ H h')⟩
theorem PSs.imp {X : Cx} {e : List Stmt} {t t' : TS} (h : PSs X e t) (q : ∀ D σ H, t' D σ H → t D σ H) : PSs X e t' := ⟨fun pins s σ H D I h' => h.run pins s σ H D I (q D σ H h')⟩

section
variable {F : Fx} {Wx : WX} {D : Ends} {σ : L2.St} {H : Hp}
theorem tS_cE {m : E} {k : R → C} (h : tS F Wx (cE m k) D σ H) : tM F Wx m σ H fun v H1 => tSK F Wx k v D σ H1 := by
  obtain ⟨g, en, bx, a, b, c⟩ := h
  refine ⟨g, en, bx, a, b, ?_⟩
  replace c : PostC F g H Wx D (match m en bx with
    | .ok r bx' => k r en bx'
    | .exc w bx' => .exc w en bx'
    | .stuck => .stuck) := c
  cases e : m en bx with
  | ok r bx' =>
    rw [e] at c
    exact fun g' H' v e' b' r' => ⟨g', en, bx', r, a.mono e', b', r', c.ext e'⟩
  | exc w bx' =>
    rw [e] at c
    exact fun g' H' cls d e' b' x => c g' σ H' cls d e' b' (a.mono e') x
  | stuck => rw [e] at c; exact c
theorem tS_cB {m : E} {k : Bool → C} (h : tS F Wx (cB m k) D σ H) : tMT F Wx m σ H fun c H1 => tS F Wx (k c) D σ H1 := by
  refine tM_imp (tS_cE h) fun v H1 ⟨g, en, bx, r, a, b, rr, p⟩ => ?_
  cases r with
  | v w =>
    cases w with
    | bl t => cases rr with | v rr => cases rr; exact ⟨t, rfl, g, en, bx, a, b, p⟩
    | _ => exact p.elim
  | r _ => exact p.elim
  | clo _ _ => exact p.elim
theorem tS_pass (h : tS F Wx cPass D σ H) : D.nx σ H := by
  obtain ⟨g, en, bx, a, b, c⟩ := h
  exact c g σ H (Ext.refl g H) b a
end

section
variable {X : Cx} {ca : Nat → Addr} {pos : Pos} {st : Stmt} {sts body orelse : List Stmt} {e t : Expr} {m mt : E} {c c1 c2 : C} {cs : List C}
theorem ss_pass : SS X ca cPass (.Pass pos) := ⟨fun Wx tk => PS.imp ps_pass fun D σ H h => tS_pass h⟩
theorem ss_doc {x j pos pos'} : SS X ca cPass (.Expr (.Constant (.str x) j pos) pos') := ⟨fun Wx tk => PS.imp ps_doc fun D σ H h => tS_pass h⟩
theorem ss_cont : SS X ca cCont (.Continue pos) := ⟨fun Wx tk => PS.imp ps_continue fun D σ H ⟨g, en, bx, a, b, c⟩ => c g σ H (Ext.refl g H) b a⟩
theorem ss_exp (he : SE X ca m e) (hs : swapsWith e none pos.line X.env = pure false) : SS X ca (cExp m) (.Expr e pos) := ⟨fun Wx tk =>
  PS.imp (ps_expr (he.pe Wx tk) hs) fun D σ H h => tM_imp (tS_cE h) fun v H1 ⟨g, en, bx, r, a, b, rr, p⟩ => p g σ H1 (Ext.refl g H1) b a⟩
theorem ss_ret (he : SE X ca m e) : SS X ca (cRet m) (.Return (some e) pos) := ⟨fun Wx tk =>
  PS.imp (ps_ret (he.pe Wx tk)) fun D σ H h => tM_imp (tS_cE h) fun v H1 ⟨g, en, bx, r, a, b, rr, p⟩ => p g H1 v (Ext.refl g H1) b rr⟩
theorem ss_retN : SS X ca cRetN (.Return none pos) := ⟨fun Wx tk => PS.imp ps_retN fun D σ H ⟨g, en, bx, a, b, c⟩ => c g H .non (Ext.refl g H) b (.v .non)⟩
theorem sss_nil : SSs X ca cPass [] := ⟨fun Wx tk => PSs.imp pss_nil fun D σ H h => tS_pass h⟩
theorem sss_one (h : SS X ca c st) : SSs X ca (cSeq [c]) [st] := ⟨fun Wx tk => pss_one (h.ps Wx tk)⟩
theorem sss_cons (h : SS X ca c st) (hr : SSs X ca (cSeq (c1 :: cs)) sts) : SSs X ca (cSeq (c :: c1 :: cs)) (st :: sts) := ⟨fun Wx tk =>
  PSs.imp (pss_cons (h.ps Wx tk) (hr.ps Wx tk)) fun D σ H ⟨g, en, bx, a, b, p⟩ => by
    refine ⟨g, en, bx, a, b, ?_⟩
    replace p : PostC (fx X ca) g H Wx D (match c en bx with
      | .nx en' bx' => cSeq (c1 :: cs) en' bx'
      | x => x) := p
    cases q : c en bx with
    | nx en' bx' =>
      rw [q] at p
      exact fun g' σ' H' e' b' a' => ⟨g', en', bx', a', b', PostC.ext e' p⟩
    | ct en' bx' => rw [q] at p; exact p
    | rt r bx' => rw [q] at p; exact p
    | exc w en' bx' => rw [q] at p; exact p
    | stuck => rw [q] at p; exact p⟩
theorem ss_if (ht : ST X ca mt t) (h1 : SSs X ca c1 body) (h2 : SSs X ca c2 orelse) : SS X ca (cIf mt c1 c2) (.If t body orelse pos) := ⟨fun Wx tk =>
  PS.imp (ps_if (ht.pt Wx tk) (h1.ps Wx tk) (h2.ps Wx tk)) fun D σ H h => tM_imp (tS_cB h) fun v H1 ⟨b, e, q⟩ => ⟨b, e, by
    cases b with
    | true => exact q
    | false => exact q⟩⟩
end

/-! ### targets -/
inductive RI (F : Fx) (g : Gd) (H : Hp) : AM.It → V → Prop
  | one {r : R} {v : V} : RR F g H r v → RI F g H (.one r) v
  | pr {a b : R} {x y : V} {p : Addr} : g.Z p → Rd H p (.tup [x, y]) → RR F g H a x → RR F g H b y → RI F g H (.pr a b) (.ref p)
theorem RI.mono {F : Fx} {g g' : Gd} {H H' : Hp} (e : Ext g H g' H') {i : AM.It} {v : V} (h : RI F g H i v) : RI F g' H' i v := by
  cases h with
  | one r => exact .one (r.mono e)
  | pr z q r1 r2 => exact .pr (e.z _ z) (Rd.stay q (e.zk _ z)) (r1.mono e) (r2.mono e)
mutual
/-- the slots that a target stores -/
def tgS : Tg → List Nat
  | .nm i => [i]
  | .tp ts => tgSs ts
def tgSs : List Tg → List Nat
  | [] => []
  | t :: ts => tgS t ++ tgSs ts
end
/-- but for these slots the same -/
structure Same (is : List Nat) (σ σ' : L2.St) : Prop where
  len : σ'.length = σ.length
  at_ : ∀ i, i ∉ is → σ'[i]? = σ[i]?
theorem Same.refl {is : List Nat} {σ : L2.St} : Same is σ σ := ⟨rfl, fun _ _ => rfl⟩
theorem Same.trans {a b : List Nat} {σ σ1 σ2 : L2.St} (x : Same a σ σ1) (y : Same b σ1 σ2) : Same (a ++ b) σ σ2 :=
  ⟨y.len.trans x.len, fun i h => (y.at_ i fun z => h (List.mem_append_right _ z)).trans (x.at_ i fun z => h (List.mem_append_left _ z))⟩
theorem Same.one {i : Nat} {σ : L2.St} {v : Option V} : Same [i] σ (σ.set i v) := ⟨by simp, fun j h => List.getElem?_set_ne fun z => h (by simp [z])⟩
def tG (F : Fx) (t : Tg) : TG := fun v σ H Q => ∃ g en bx it en', EnOk F g en σ H ∧ BxOk F g bx H ∧ RI F g H it v ∧ asg t it en bx = some en' ∧ ∀ σ', EnOk F g en' σ' H → Same (tgS t) σ σ' → Q σ' H
def tGs (F : Fx) (ts : List Tg) : TGs := fun vs σ H Q => ∃ g en bx rs en', EnOk F g en σ H ∧ BxOk F g bx H ∧ RRs F g H rs vs ∧ asgs ts rs en bx = some en' ∧ ∀ σ', EnOk F g en' σ' H → Same (tgSs ts) σ σ' → Q σ' H
theorem EnOk.set {F : Fx} {g : Gd} {en : En} {σ : L2.St} {H : Hp} {i : Nat} {r : R} {v : V} (h : EnOk F g en σ H) (x : RR F g H r v) : EnOk F g (en.set i (some r)) (σ.set i (some v)) H := by
  refine ⟨by simp [h.1], fun j r' e => ?_⟩
  by_cases z : j = i
  · subst z
    by_cases l : j < en.length
    · rw [List.getElem?_set_self l] at e
      cases e
      exact ⟨v, List.getElem?_set_self (by rw [← h.1]; exact l), x⟩
    · rw [List.getElem?_eq_none (by simpa using l)] at e
      cases e
  · rw [List.getElem?_set_ne (Ne.symm z)] at e
    rw [List.getElem?_set_ne (Ne.symm z)]
    exact h.2 j r' e
theorem EnOk.unset {F : Fx} {g : Gd} {en : En} {σ : L2.St} {H : Hp} {i : Nat} (h : EnOk F g en σ H) : EnOk F g (en.set i none) (σ.set i none) H := by
  refine ⟨by simp [h.1], fun j r' e => ?_⟩
  by_cases z : j = i
  · subst z
    by_cases l : j < en.length
    · rw [List.getElem?_set_self l] at e
      cases e
    · rw [List.getElem?_eq_none (by simpa using l)] at e
      cases e
  · rw [List.getElem?_set_ne (Ne.symm z)] at e
    rw [List.getElem?_set_ne (Ne.symm z)]
    exact h.2 j r' e
theorem asgs_len {ts : List Tg} : ∀ {rs : List R} {en en' : En} {bx : Bx}, asgs ts rs en bx = some en' → rs.length = ts.length := by
  induction ts with
  | nil =>
    intro rs en en' bx h
    cases rs with
    | nil => rfl
    | cons _ _ => simp [asgs] at h
  | cons t ts ih =>
    intro rs en en' bx h
    cases rs with
    | nil => simp [asgs] at h
    | cons r rs =>
      simp only [asgs] at h
      split at h
      · simp [ih h]
      · cases h
structure SG (X : Cx) (ca : Nat → Addr) (t : Tg) (e : Expr) : Prop where
  pg : PG X e (tG (fx X ca) t)
structure SGs (X : Cx) (ca : Nat → Addr) (ts : List Tg) (es : List Expr) : Prop where
  pg : PGs X es (tGs (fx X ca) ts)
theorem PG.imp {X : Cx} {e : Expr} {t t' : TG} (h : PG X e t) (q : ∀ v σ H Q, t' v σ H Q → t v σ H Q) : PG X e t' := ⟨fun pins s σ H v u Q I r h' => h.run pins s σ H v u Q I r (q v σ H Q h')⟩
theorem PGs.imp {X : Cx} {e : List Expr} {t t' : TGs} (h : PGs X e t) (q : ∀ v σ H Q, t' v σ H Q → t v σ H Q) : PGs X e t' := ⟨fun pins s σ H v u Q I r h' => h.run pins s σ H v u Q I r (q v σ H Q h')⟩
theorem RI.one' {F : Fx} {g : Gd} {H : Hp} {r : R} {v : V} (h : RI F g H (.one r) v) : RR F g H r v := by cases h with | one h => exact h
section
variable {X : Cx} {ca : Nat → Addr} {pos : Pos} {e : Expr} {es : List Expr} {t : Tg} {ts : List Tg}
theorem sg_name {i : Nat} {x : Str} (hN : X.N.Nodup) (hi : X.N[i]? = some x) (hx : Loc X.env.scope x) (hf : X.fn x = true ∨ X.env.scope.names.lookup x = some .local) : SG X ca (.nm i) (.Name x pos) := ⟨
  PG.imp (pg_name hN hi hx hf) fun v σ H Q ⟨g, en, bx, it, en', a, b, r, q, k⟩ => by
    show Q (σ.set i (some v)) H
    cases r with
    | @one r v r1 =>
      simp only [asg] at q
      split at q
      · cases q; exact k _ (a.set r1) .one
      · cases q
    | @pr r1 r2 x y p z rd h1 h2 =>
      simp only [asg] at q
      split at q
      · rename_i w1 w2 e1 e2
        split at q
        · cases q
          refine k _ (a.set (.v (.tup (.inl ⟨z, rd⟩) (by rw [sizeLine_eq]; show 2 ≤ 16777216; decide) ?_))) .one
          cases r1 <;> simp [valO] at e1
          cases r2 <;> simp [valO] at e2
          subst e1
          subst e2
          cases h1 with | v h1 => cases h2 with | v h2 => exact .cons h1 (.cons h2 .nil)
        · cases q
      · cases q⟩
theorem sgs_nil : SGs X ca [] [] := ⟨
  PGs.imp pgs_nil fun v σ H Q ⟨g, en, bx, rs, en', a, b, r, q, k⟩ => by
    cases r with
    | nil => simp only [asgs, Option.some.injEq] at q; subst q; exact ⟨rfl, k σ a .refl⟩
    | cons _ _ => simp [asgs] at q⟩
theorem sgs_cons (hs : (assignEach (e :: es) X.env).map (·.2) = assign e X.env :: (assignEach es X.env).map (·.2)) (h1 : SG X ca t e) (h2 : SGs X ca ts es) : SGs X ca (t :: ts) (e :: es) := ⟨
  PGs.imp (pgs_cons h1.pg h2.pg hs) fun v σ H Q ⟨g, en, bx, rs, en', a, b, r, q, k⟩ => by
    cases r with
    | nil => simp [asgs] at q
    | cons r1 rr =>
      simp only [asgs] at q
      split at q
      · rename_i en1 q1
        exact ⟨_, _, rfl, g, en, bx, _, en1, a, b, .one r1, q1, fun σ' a' sm => ⟨g, en1, bx, _, en', a', b, rr, q, fun σ2 a2 sm2 => k σ2 a2 (sm.trans sm2)⟩⟩
      · cases q⟩
theorem sg_tup {k : Nat} (hc : X.calm = true) (h : SGs X ca ts es) (hn : (assignEach es X.env).length = ts.length) (hst : (assignEach es X.env).findIdx? (·.1) = none) : SG X ca (.tp ts) (.Tuple es k pos) := ⟨
  PG.imp (pg_tup hc h.pg hn hst) fun v σ H Q ⟨g, en, bx, it, en', a, b, r, q, kk⟩ => by
    cases r with
    | @one r v r1 =>
      simp only [asg] at q
      split at q
      · rename_i ws
        cases r1 with | v r1 =>
        cases r1 with
        | @tup _ p vs pp l rs =>
          refine ⟨p, vs, rfl, RW.sqT pp, ?_, g, en, bx, _, en', a, b, .of rs, q, kk⟩
          have := asgs_len q
          simp at this
          rw [← rs.length, this]
      · cases q
    | @pr r1 r2 x y p z rd h1 h2 =>
      simp only [asg] at q
      exact ⟨p, [x, y], rfl, .inl rd, asgs_len q, g, en, bx, _, en', a, b, .cons h1 (.cons h2 .nil), q, kk⟩⟩
theorem ss_asg {m : E} {e1 e2 : Expr} (he : SE X ca m e2) (hg : SG X ca t e1) (hs : swapsWithSole [e1] e2 pos.line X.env = pure false) (hw : swappedStores [e1] e2 X.env = pure none) (h1 : (assignEach [e1] X.env).map (·.2) = [assign e1 X.env]) : SS X ca (cAsg t m) (.Assign [e1] e2 pos) := ⟨fun Wx tk =>
  PS.imp (ps_asg (he.pe Wx tk) hg.pg hs hw h1) fun D σ H h => tM_imp (tS_cE h) fun v H1 ⟨g, en, bx, r, a, b, rr, p⟩ => by
    replace p : PostC (fx X ca) g H1 Wx D (match asg t (.one r) en bx with
      | some en' => .nx en' bx
      | none => .stuck) := p
    split at p
    · rename_i en' q
      exact ⟨g, en, bx, _, en', a, b, .one rr, q, fun σ' a' _ => p g σ' H1 (Ext.refl g H1) b a'⟩
    · exact p.elim⟩
theorem ss_set {m : E} {i : Nat} {x : Str} {e2 : Expr} {pos' : Pos} (hN : X.N.Nodup) (hi : X.N[i]? = some x) (hx : Loc X.env.scope x) (hf : X.fn x = true ∨ X.env.scope.names.lookup x = some .local) (he : SE X ca m e2) (hs : swapsWith e2 (some (.Name x pos')) pos.line X.env = pure false) :
    SS X ca (cAsg (.nm i) m) (.Assign [.Name x pos'] e2 pos) := ⟨fun Wx tk =>
  PS.imp (L2.ps_set hN hi hx (he.pe Wx tk) hs hf) fun D σ H h => tM_imp (tS_cE h) fun v H1 ⟨g, en, bx, r, a, b, rr, p⟩ => by
    replace p : PostC (fx X ca) g H1 Wx D (match (if i < en.length then some (en.set i (some r)) else none) with
      | some en' => .nx en' bx
      | none => .stuck) := p
    split at p
    · rename_i en' q
      split at q
      · cases q
        exact p g _ H1 (Ext.refl g H1) b (a.set rr)
      · cases q
    · exact p.elim⟩
end

/-! ### while -/
section
variable {X : Cx} {ca : Nat → Addr} {pos : Pos} {t : Expr} {body : List Stmt} {mt : E} {c : C}
theorem ss_while (hp : PassesOwn (model X.prog X.w) X.A X.env X.xe) (ht : ST X ca mt t) (hb : SSs X ca c body) : SS X ca (cWhile mt c) (.While t body [] pos) := ⟨fun Wx tk =>
  PS.imp (ps_while hp (ht.pt Wx tk) (hb.ps Wx tk)) fun D σ H ⟨g, en, bx, a, b, p⟩ => by
    refine ⟨fun n σ' H' => ∃ g en bx, EnOk (fx X ca) g en σ' H' ∧ BxOk (fx X ca) g bx H' ∧ PostC (fx X ca) g H' Wx D (whileGo mt c n en bx), ⟨WF, g, en, bx, a, b, p⟩, ?_⟩
    clear a b p
    intro n σ1 H1 ⟨g, en, bx, a, b, p⟩
    cases n with
    | zero => exact p.elim
    | succ n =>
      refine ⟨g, en, bx, a, b, ?_⟩
      simp only [whileGo] at p
      cases e : mt en bx with
      | ok r bx1 =>
        rw [e] at p
        intro g' H' v e' b' r'
        have p' := PostC.ext e' p
        cases r with
        | v w =>
          cases w with
          | bl t =>
            cases r' with | v r' =>
            cases r'
            refine ⟨t, rfl, ?_⟩
            cases t with
            | true =>
              rw [if_pos rfl]
              refine ⟨_, fun σ' H' q => ⟨n, Nat.lt_succ_self n, q⟩, g', en, bx1, a.mono e', b', ?_⟩
              simp only at p'
              cases e2 : c en bx1 with
              | nx en2 bx2 => rw [e2] at p'; exact fun g2 σ2 H2 e3 b3 a3 => ⟨g2, en2, bx2, a3, b3, PostC.ext e3 p'⟩
              | ct en2 bx2 => rw [e2] at p'; exact fun g2 σ2 H2 e3 b3 a3 => ⟨g2, en2, bx2, a3, b3, PostC.ext e3 p'⟩
              | rt r bx2 => rw [e2] at p'; exact p'
              | exc w en2 bx2 => rw [e2] at p'; exact p'
              | stuck => rw [e2] at p'; exact p'
            | false =>
              rw [if_neg Bool.false_ne_true]
              exact p' g' _ H' (Ext.refl g' H') b' (a.mono e')
          | _ => exact p'.elim
        | r _ => exact p'.elim
        | clo _ _ => exact p'.elim
      | exc w bx1 =>
        rw [e] at p
        exact fun g' H' cls d e' b' x => p g' _ H' cls d e' b' (a.mono e') x
      | stuck => rw [e] at p; exact p⟩
end

/-! ### for -/
/-- the iterator yields these -/
structure JOk (F : Fx) (g : Gd) (H : Hp) (J : L2.It) (xs : List AM.It) (gd : Option (Nat × Box)) : Prop where
  go : ∀ i g' H' bx, Ext g H g' H' → BxOk F g' bx H' → guarded bx gd = true → i < xs.length → J.go i H'
  stop : ∀ i g' H' bx, Ext g H g' H' → BxOk F g' bx H' → guarded bx gd = true → xs.length ≤ i → J.stop i H'
  yld : ∀ i g' H' bx v H'' x, Ext g H g' H' → BxOk F g' bx H' → guarded bx gd = true → xs[i]? = some x → J.yld i H' v H'' → ∃ g'', Ext g' H' g'' H'' ∧ BxOk F g'' bx H'' ∧ RI F g'' H'' x v
def tI (F : Fx) (Wx : WX) (i : I) : TI := fun σ H R => ∃ g en bx, EnOk F g en σ H ∧ BxOk F g bx H ∧ match i en bx with
  | .ok xs gd bx' => ∀ g' H' J, Ext g H g' H' → BxOk F g' bx' H' → JOk F g' H' J xs gd → R J H'
  | .exc w bx' => ∀ g' H' cls d, Ext g H g' H' → BxOk F g' bx' H' → XR F g' H' w cls d → Wx cls d σ H'
  | .stuck => False
structure SI (X : Cx) (ca : Nat → Addr) (i : I) (tg e : Expr) : Prop where
  pi : ∀ Wx : WX, Takes X Wx → PI X tg e (tI (fx X ca) Wx i)
theorem PI.imp {X : Cx} {tg e : Expr} {t t' : TI} (h : PI X tg e t) (q : ∀ σ H R, t' σ H R → t σ H R) : PI X tg e t' := ⟨fun pins s σ H R I h' => h.run pins s σ H R I (q σ H R h')⟩
section
variable {X : Cx} {ca : Nat → Addr} {pos : Pos} {tg it : Expr} {body : List Stmt} {t : Tg} {i : I} {c : C}
theorem ss_for (hp : PassesOwn (model X.prog X.w) X.A X.env X.xe) (hc : X.calm = true) (hi : SI X ca i tg it) (hg : SG X ca t tg) (hb : SSs X ca c body) (hs : ∀ x, foldedSetIterable it X.env x = pure x) : SS X ca (cFor t i c) (.For tg it body [] pos) := ⟨fun Wx tk =>
  PS.imp (ps_for hp hc (hi.pi Wx tk) hg.pg (hb.ps Wx tk) hs) fun D σ H ⟨g, en, bx, a, b, p⟩ => by
    refine ⟨g, en, bx, a, b, ?_⟩
    replace p : PostC (fx X ca) g H Wx D (match i en bx with
      | .ok xs g bx' => forGo t c g xs en bx'
      | .exc w bx' => .exc w en bx'
      | .stuck => .stuck) := p
    cases e : i en bx with
    | stuck => rw [e] at p; exact p
    | exc w bx1 => rw [e] at p; exact fun g' H' cls d e' b' x => p g' _ H' cls d e' b' (a.mono e') x
    | ok xs gd bx1 =>
      rw [e] at p
      intro g1 H1 J e1 b1 jo
      refine ⟨fun i n σ' H' => n + i = xs.length ∧ ∃ g' en bx, Ext g1 H1 g' H' ∧ EnOk (fx X ca) g' en σ' H' ∧ BxOk (fx X ca) g' bx H' ∧ PostC (fx X ca) g' H' Wx D (forGo t c gd (xs.drop i) en bx), ⟨xs.length, rfl, g1, en, bx1, Ext.refl g1 H1, a.mono e1, b1, PostC.ext e1 p⟩, ?_⟩
      clear a b p e e1 b1 en
      intro i n σ2 H2 ⟨hn, g2, en, bx, x2, a, b, p⟩
      by_cases hi : i < xs.length
      · right
        have hd : xs.drop i = xs[i] :: xs.drop (i + 1) := List.drop_eq_getElem_cons hi
        rw [hd] at p
        simp only [forGo] at p
        split at p
        · rename_i gd1
          refine ⟨jo.go i g2 H2 bx x2 b gd1 hi, _, fun σ' H' q => ⟨n - 1, by omega, q⟩, fun v H3 y => ?_⟩
          obtain ⟨g3, x3, b3, ri⟩ := jo.yld i g2 H2 bx v H3 xs[i] x2 b gd1 (List.getElem?_eq_getElem hi) y
          have p := PostC.ext x3 p
          split at p
          · rename_i en' q
            refine ⟨g3, en, bx, _, en', a.mono x3, b3, ri, q, fun σ' a' _ => ⟨g3, en', bx, a', b3, ?_⟩⟩
            cases e2 : c en' bx with
            | nx en2 bx2 => rw [e2] at p; exact fun g4 σ4 H4 e4 b4 a4 => ⟨by omega, g4, en2, bx2, x2.trans (x3.trans e4), a4, b4, PostC.ext e4 p⟩
            | ct en2 bx2 => rw [e2] at p; exact fun g4 σ4 H4 e4 b4 a4 => ⟨by omega, g4, en2, bx2, x2.trans (x3.trans e4), a4, b4, PostC.ext e4 p⟩
            | rt r bx2 => rw [e2] at p; exact p
            | exc w en2 bx2 => rw [e2] at p; exact p
            | stuck => rw [e2] at p; exact p
          · exact p.elim
        · exact p.elim
      · left
        have hd : xs.drop i = [] := List.drop_eq_nil_of_le (by omega)
        rw [hd] at p
        simp only [forGo] at p
        split at p
        · rename_i gd1
          exact ⟨jo.stop i g2 H2 bx x2 b gd1 (by omega), p g2 σ2 H2 (Ext.refl g2 H2) b a⟩
        · exact p.elim⟩
end
end AM
/-! text AmI1 -/
set_option Elab.async false
set_option linter.all false
set_option maxRecDepth 100000
set_option maxHeartbeats 2000000
/-! AmI1: what is walked: lists, tuples, texts, the keys of dicts, ranges. -/
namespace AM
open PySem PySem.Spec PyProof.Rows L2

theorem itL_stay {bx bx' : Bx} {r : R} {xs : List R} (h : guarded bx' (guardOf bx r) = true) (e : itL bx r = some xs) : itL bx' r = some xs := by
  cases r with
  | v w => cases w <;> exact e
  | clo _ _ => exact e
  | r n =>
    simp only [itL] at e ⊢
    cases hb : bx[n]? with
    | none => rw [hb] at e; simp at e
    | some b =>
      rw [hb] at e
      simp only [guardOf, hb, Option.map_some, guarded, decide_eq_true_eq] at h
      rw [h]
      exact e
theorem RRs.get' {F : Fx} {g : Gd} {H : Hp} {rs : List R} {vs : List V} (h : RRs F g H rs vs) {i : Nat} {r : R} {v : V} (e : rs[i]? = some r) (e' : vs[i]? = some v) : RR F g H r v := by
  obtain ⟨v', h1, h2⟩ := h.get e
  rw [e'] at h1
  cases h1
  exact h2
theorem one_get {xs : List R} {i : Nat} {x : AM.It} (h : (xs.map AM.It.one)[i]? = some x) : ∃ r, xs[i]? = some r ∧ x = .one r := by
  rw [List.getElem?_map, Option.map_eq_some_iff] at h
  obtain ⟨r, e, rfl⟩ := h
  exact ⟨r, e, rfl⟩
section
variable {F : Fx} {g : Gd} {H : Hp} {bx : Bx} {r : R} {v : V}
theorem jok_list {xs : List R} (b : BxOk F g bx H) (h : RR F g H r v) (e : itL bx r = some xs) : ∃ a vs, v = .ref a ∧ SqL F.K H a vs ∧ JOk F g H (Itl F.K a) (xs.map .one) (guardOf bx r) := by
  obtain ⟨a, vs, rfl, q, l, rs⟩ := h.lst b e
  have later : ∀ g' H' bx', Ext g H g' H' → BxOk F g' bx' H' → guarded bx' (guardOf bx r) = true → ∃ vs, H' a = some (.lst vs) ∧ RRs F g' H' xs vs := fun g' H' bx' x b' gd => by
    obtain ⟨a', vs', e', q', _, rs'⟩ := (h.mono x).lst b' (itL_stay gd e)
    cases e'
    exact ⟨vs', q', rs'⟩
  refine ⟨a, vs, rfl, .of q, fun i g' H' bx' x b' gd hi => ?_, fun i g' H' bx' x b' gd hi => ?_, fun i g' H' bx' v H'' it x b' gd hi y => ?_⟩
  · obtain ⟨vs', q', rs'⟩ := later g' H' bx' x b' gd
    have hl := rs'.length
    rw [List.length_map] at hi
    exact ⟨vs', vs'[i], .of q', List.getElem?_eq_getElem (by omega)⟩
  · obtain ⟨vs', q', rs'⟩ := later g' H' bx' x b' gd
    have hl := rs'.length
    rw [List.length_map] at hi
    exact ⟨vs', .of q', by omega⟩
  · obtain ⟨vs', q', rs'⟩ := later g' H' bx' x b' gd
    obtain ⟨rfl, y2⟩ := y
    obtain ⟨r', e', rfl⟩ := one_get hi
    exact ⟨g', Ext.refl g' _, b', .one (rs'.get' e' (y2 vs' (.of q')))⟩
theorem jok_tup {ws : List W} (h : RW F g.Z H (.tup ws) v) : ∃ a vs, v = .ref a ∧ SqT F.K H a vs ∧ JOk F g H (Itt F.K a) ((ws.map R.v).map .one) none := by
  cases id h with
  | @tup _ a vs p l rs =>
    have later : ∀ g' H', Ext g H g' H' → ∃ vs, SqT F.K H' a vs ∧ RRs F g' H' (ws.map .v) vs := fun g' H' x => by
      cases h.mono x.z (fun a z => x.zk a z) with
      | @tup _ _ vs' p' l' rs' => exact ⟨vs', RW.sqT p', .of rs'⟩
    refine ⟨a, vs, rfl, RW.sqT p, fun i g' H' bx' x b' gd hi => ?_, fun i g' H' bx' x b' gd hi => ?_, fun i g' H' bx' v H'' it x b' gd hi y => ?_⟩
    · obtain ⟨vs', q', rs'⟩ := later g' H' x
      have hl := rs'.length
      rw [List.length_map] at hi
      exact ⟨vs', vs'[i], q', List.getElem?_eq_getElem (by omega)⟩
    · obtain ⟨vs', q', rs'⟩ := later g' H' x
      have hl := rs'.length
      rw [List.length_map] at hi
      exact ⟨vs', q', by omega⟩
    · obtain ⟨vs', q', rs'⟩ := later g' H' x
      obtain ⟨rfl, y2⟩ := y
      obtain ⟨r', e', rfl⟩ := one_get hi
      exact ⟨g', Ext.refl g' _, b', .one (rs'.get' e' (y2 vs' q'))⟩
theorem jok_str (s : Str) : JOk F g H (Its s) (s.cps.toList.map fun c => .one (.v (.str ⟨#[c]⟩))) none := by
  refine ⟨fun i g' H' bx' x b' gd hi => ?_, fun i g' H' bx' x b' gd hi => ?_, fun i g' H' bx' v H'' it x b' gd hi y => ?_⟩
  · have hi' : i < s.cps.size := by simpa using hi
    exact hi'
  · have hi' : s.cps.size ≤ i := by simpa using hi
    exact hi'
  · obtain ⟨rfl, c, hc, rfl⟩ := y
    rw [List.getElem?_map, Array.getElem?_toList, hc] at hi
    cases hi
    exact ⟨g', Ext.refl g' _, b', .one (.v (.str _))⟩
theorem jok_range (lo hi : Int) : JOk F g H (Itr lo (hi - lo).toNat) (rangeI lo hi) none := by
  refine ⟨fun i g' H' bx' x b' gd h => ?_, fun i g' H' bx' x b' gd h => ?_, fun i g' H' bx' v H'' it x b' gd h y => ?_⟩
  · have h' : i < (hi - lo).toNat := by simpa [rangeI] using h
    exact h'
  · have h' : (hi - lo).toNat ≤ i := by simpa [rangeI] using h
    exact h'
  · obtain ⟨rfl, rfl⟩ := y
    unfold rangeI at h
    rw [List.getElem?_map, Option.map_eq_some_iff] at h
    obtain ⟨k, e, rfl⟩ := h
    have : k = i := by
      obtain ⟨_, e'⟩ := List.getElem?_eq_some_iff.mp e
      simpa using e'.symm
    subst this
    exact ⟨g', Ext.refl g' _, b', .one (.v (.int _))⟩
end

/-! ### the keys of a dict that stays -/
def DObj (K : PySem.W.Frag) (H : Hp) (d : Addr) (o : Obj) : Prop := H d = some (pinO d o) ∨ K.lookup d = some o
def Itq (K : PySem.W.Frag) (d : Addr) (o : Obj) (es : Array DictEntry) : L2.It :=
  ⟨fun i H => DObj K H d o ∧ i < es.size, fun i H x H' => H' = H ∧ ∃ e, es[i]? = some e ∧ RelV x e.key, fun i H => DObj K H d o ∧ es.size ≤ i⟩
theorem DAt.raw {X : Cx} {pins : List (Addr × Obj)} {σ : L2.St} {H : Hp} {s : Shared} {d : Addr} {o : Obj} {es : Array DictEntry} {ep : Nat} (I : Inv X pins σ H s) (p : DObj X.K H d o) (hx : o.ExactDict) (hd : o.data = .dict es ep) : s.heap.DictRaw d es ep := ⟨o, d_obj I p, hx, hd⟩
/-- each key of the entries at hand is a value of the machine -/
theorem RD.key_at {F : Fx} {Z : Addr → Prop} {H : Hp} : ∀ {ks : List W} {xv : List V} {es : List DictEntry}, RD F Z H ks xv es → ∀ {i : Nat} {e : DictEntry}, es[i]? = some e → ∃ k kv, ks[i]? = some k ∧ RW F Z H k kv ∧ RelV kv e.key
  | _, _, _, .nil, i, e, h => by simp at h
  | _, _, _, .cons (k := k) r rk _ _ t, i, e, h => by
    cases i with
    | zero => simp at h; subst h; exact ⟨k, _, rfl, r, rk⟩
    | succ i => exact RD.key_at t (by simpa using h)
theorem turn_q {P : Program} {w : World} {K : PySem.W.Frag} {tg : Expr} {d : Addr} {o : Obj} {es : Array DictEntry} {ep : Nat} (it : Addr) (hx : o.ExactDict) (hd : o.data = .dict es ep) (hk : ∀ (i : Nat) (e : DictEntry), es[i]? = some e → ∃ v, RelV v e.key) :
    Turn P w K tg (Itq K d o es) [it] it (fun i h => h.IsKeyIter it d i es.size ep) where
  mem := List.mem_singleton.mpr rfl
  obj := fun i h st b hb => by
    obtain rfl := List.mem_singleton.mp hb
    obtain ⟨o1, e1, _, d1⟩ := st
    exact ⟨o1, e1, fun v z => by rw [d1] at z; cases z⟩
  keep := fun i h h' st k => st.at fun o1 e1 => k it (List.mem_singleton.mpr rfl) o1 e1
  item := by
    intro X hP hw hK hc i pins s σ H E I hf st ⟨hp, hi⟩
    subst hP
    subst hw
    subst hK
    obtain ⟨f0, f1, f2, f3, f4, f5⟩ := hf it (List.mem_singleton.mpr rfl)
    refine wpAny_pyNext_keys_item_raw st (DAt.raw I hp hx hd) hi fun h' st' sb => ?_
    have I1 : Inv X pins σ H { s with heap := h' } := I.turned (t' := s.toks) (fun b o hb e => (sb.2 b hb).trans e) f0 f1 f3 f4 f5
    have hg : es[i]? = some es[i] := Array.getElem?_eq_getElem hi
    obtain ⟨v, rv⟩ := hk i _ hg
    obtain ⟨o1, e1, c1, d1⟩ := id st'
    exact ⟨_, rfl, go_of (s := { s with heap := h' }) e1 c1 d1 (by decide) ⟨v, H, I1, rv, ⟨rfl, _, hg, rv⟩, st', fun b hb => (hf b hb).1⟩⟩
  done := by
    intro X hP hw hK hc i pins s σ H E I hf st ⟨hp, hi⟩
    subst hP
    subst hw
    subst hK
    obtain ⟨f0, f1, f2, f3, f4, f5⟩ := hf it (List.mem_singleton.mpr rfl)
    exact wpAny_pyNext_keys_end_raw (I.ok.hd hc) st (DAt.raw I hp hx hd) hi fun h' eb => ⟨rfl, I.turned (t' := s.toks) (fun b o hb e => eb b o hb e) f0 f1 f3 f4 f5⟩
  self := fun A i s Q E st h => wpAny_pyIter_keyiter st h
/-- a dict's value -/
def iKq (F : Fx) (td : TE) : TI := fun σ H R => td σ H fun x H1 => ∃ d o es ep, x = .ref d ∧ DObj F.K H1 d o ∧ (d == sysModules) = false ∧ o.ExactDict ∧ o.data = .dict es ep ∧ (∀ (i : Nat) (e : DictEntry), es[i]? = some e → ∃ v, RelV v e.key) ∧ R (Itq F.K d o es) H1
theorem pi_q {X : Cx} {ca : Nat → Addr} {tg e : Expr} {td : TE} (he : PE X e td) : PI X tg e (iKq (fx X ca) td) := by
  refine ⟨fun pins s σ H R I h => thn (he.run pins s σ H _ I h) fun u s1 ⟨x, H1, I1, rx, d, o, es, ep, ex, hp, hs, hx, hd, hk, q⟩ => ?_⟩
  subst ex
  obtain rfl : u = Value.ref d := rx
  exact wpAny_pyIter_dict_raw hs (DAt.raw I1 hp hx hd) (pi_one (tk := s1.toks) I1 _ (turn_q _ hx hd hk) ⟨_, Heap.get?_push_size _ rfl, rfl, rfl⟩ q)
section
variable {F : Fx} {g : Gd} {H : Hp} {bx : Bx} {r : R} {v : V}
theorem jok_keys {ks vs : List W} (h : RW F g.Z H (.dct ks vs) v) : ∃ d o es ep, v = .ref d ∧ DObj F.K H d o ∧ (d == sysModules) = false ∧ o.ExactDict ∧ o.data = .dict es ep ∧ (∀ (i : Nat) (e : DictEntry), es[i]? = some e → ∃ v, RelV v e.key) ∧ JOk F g H (Itq F.K d o es) (ks.map fun k => .one (.v k)) none := by
  cases h with
  | @dct _ _ d o es ep xv p s o1 o2 l rd rs n k =>
    have hl := rd.lens.1
    refine ⟨d, o, es, ep, rfl, p.imp (·.2) id, s, o1, o2, fun i e he => ?_, fun i g' H' bx' x b' gd hi => ?_, fun i g' H' bx' x b' gd hi => ?_, fun i g' H' bx' v H'' it x b' gd hi y => ?_⟩
    · obtain ⟨k, kv, _, _, r⟩ := rd.key_at (i := i) (e := e) (by simpa using he)
      exact ⟨kv, r⟩
    · exact ⟨p.imp (fun z => (x.zk d z.1).trans z.2) id, by simpa [hl] using hi⟩
    · exact ⟨p.imp (fun z => (x.zk d z.1).trans z.2) id, by simpa [hl] using hi⟩
    · obtain ⟨rfl, e, he, rv⟩ := y
      obtain ⟨k, kv, e1, e2, e3⟩ := rd.key_at (i := i) (e := e) (by simpa using he)
      rw [List.getElem?_map, e1] at hi
      cases hi
      obtain rfl := RelV.inj rv e3
      exact ⟨g', Ext.refl g' _, b', .one (.v (e2.mono x.z fun a z => x.zk a z))⟩
end

section
variable {X : Cx} {ca : Nat → Addr} {tg e : Expr} {m : E} {pos p : Pos}
theorem si_plain (he : SE X ca m e) : SI X ca (iPlain m) tg e := ⟨fun Wx tk => ⟨fun pins s σ H R I ⟨g, en, bx, a, b, c⟩ => by
  simp only [iPlain, iBind] at c
  cases e1 : m en bx with
  | stuck => rw [e1] at c; exact c.elim
  | exc w bx' =>
    rw [e1] at c
    exact (pi_list (he.pe Wx tk)).run pins s σ H R I ⟨g, en, bx, a, b, by rw [e1]; exact c⟩
  | ok r bx' =>
    rw [e1] at c
    simp only at c
    have lst : ∀ xs, itL bx' r = some xs → (∀ g' H' J, Ext g H g' H' → BxOk (fx X ca) g' bx' H' → JOk (fx X ca) g' H' J (xs.map .one) (guardOf bx' r) → R J H') → wpAny (model X.prog X.w) X.A (eval e X.env) (fun v s1 => wpAny (model X.prog X.w) X.A (pyIter v) (PIE X pins σ tg R) X.xe s1) X.xe s := fun xs e2 c =>
      (pi_list (he.pe Wx tk)).run pins s σ H R I ⟨g, en, bx, a, b, by
        rw [e1]
        intro g' H' v e' b' r'
        obtain ⟨p, vs, rfl, h1, jo⟩ := jok_list b' r' e2
        exact ⟨p, rfl, ⟨vs, h1⟩, c g' H' _ e' b' jo⟩⟩
    cases r with
    | clo k cs => simp only [itS, itL] at c
    | r n =>
      simp only [itS] at c
      cases e2 : itL bx' (.r n) with
      | none => rw [e2] at c; exact c.elim
      | some xs =>
        rw [e2] at c
        exact lst xs e2 c
    | v w =>
      cases w with
      | str t =>
        exact (pi_str (he.pe Wx tk)).run pins s σ H R I ⟨g, en, bx, a, b, by
          rw [e1]
          intro g' H' v e' b' r'
          cases r' with | v r' =>
          cases r'
          exact ⟨t, rfl, c g' H' _ e' b' (jok_str t)⟩⟩
      | tup ws =>
        exact (pi_tup (he.pe Wx tk)).run pins s σ H R I ⟨g, en, bx, a, b, by
          rw [e1]
          intro g' H' v e' b' r'
          cases r' with | v r' =>
          obtain ⟨p, vs, rfl, h1, jo⟩ := jok_tup r'
          exact ⟨p, rfl, ⟨vs, h1⟩, c g' H' _ e' b' jo⟩⟩
      | lst ws => exact lst (ws.map .v) rfl c
      | dct ks vs =>
        exact (pi_q (ca := ca) (he.pe Wx tk)).run pins s σ H R I ⟨g, en, bx, a, b, by
          rw [e1]
          intro g' H' v e' b' r'
          cases r' with | v r' =>
          obtain ⟨d, o, es, ep, rfl, h1, h2, h3, h4, h5, jo⟩ := jok_keys r'
          exact ⟨d, o, es, ep, rfl, h1, h2, h3, h4, h5, c g' H' _ e' b' jo⟩⟩
      | _ => simp only [itS, itL] at c⟩⟩
/-- range(n) -/
theorem si_range1 {a0 : Expr} (hg : Gl X "range") (hm : X.mg "range" = none) (hs : starEach [a0] X.env = [(false, eval a0 X.env)]) (he : SE X ca m a0) : SI X ca (iRange1 m) tg (.Call (.Name "range" p) [a0] [] pos) := ⟨fun Wx tk => PI.imp (pi_range1 hg hm (pa_cons (he.pe Wx tk) pa_nil hs) hs) fun σ H R ⟨g, en, bx, a, b, c⟩ => by
  simp only [iRange1, iBind] at c
  refine ⟨g, en, bx, a, b, ?_⟩
  cases e1 : m en bx with
  | stuck => rw [e1] at c; exact c.elim
  | exc w bx' => rw [e1] at c; exact c
  | ok r bx' =>
    rw [e1] at c
    simp only at c
    intro g' H' v e' b' r'
    show ∃ j : Int, [v] = [V.int j] ∧ _
    cases r' with
    | r _ => exact c.elim
    | v r' =>
      cases r' with
      | int n =>
        simp only [range1K] at c
        split at c
        · rename_i _ xs gd bx2 h
          split at h
          · rename_i h2
            cases h
            have := c g' H' (Itr 0 (n - 0).toNat) e' b' (jok_range 0 n)
            rw [Int.sub_zero] at this
            exact ⟨n, rfl, h2.1, h2.2, this⟩
          · cases h
        · rename_i h
          split at h <;> cases h
        · exact c.elim
      | _ => exact c.elim⟩
theorem si_range2 {a0 a1 : Expr} {m0 m1 : E} (hg : Gl X "range") (hm : X.mg "range" = none) (hs : starEach [a0, a1] X.env = [(false, eval a0 X.env), (false, eval a1 X.env)]) (hs2 : starEach [a1] X.env = [(false, eval a1 X.env)]) (h0 : SE X ca m0 a0) (h1 : SE X ca m1 a1) : SI X ca (iRange2 m0 m1) tg (.Call (.Name "range" p) [a0, a1] [] pos) := ⟨fun Wx tk => PI.imp (pi_range2 hg hm (pa_cons (h0.pe Wx tk) (pa_cons (h1.pe Wx tk) pa_nil hs2) (hs.trans (by rw [hs2]))) hs hs2) fun σ H R ⟨g, en, bx, a, b, c⟩ => by
  simp only [iRange2, iBind2] at c
  refine ⟨g, en, bx, a, b, ?_⟩
  cases e1 : m0 en bx with
  | stuck => rw [e1] at c; exact c.elim
  | exc w bx' => rw [e1] at c; exact c
  | ok r bx' =>
    rw [e1] at c
    simp only at c
    intro g' H' v e' b' r'
    refine ⟨g', en, bx', a.mono e', b', ?_⟩
    cases e2 : m1 en bx' with
    | stuck => rw [e2] at c; exact c.elim
    | exc w bx2 => rw [e2] at c; exact fun g2 H2 cls d x2 => c g2 H2 cls d (e'.trans x2)
    | ok r2 bx2 =>
      rw [e2] at c
      simp only at c
      intro g2 H2 v2 x2 b2 r2'
      show ∃ i j : Int, [v, v2] = [V.int i, V.int j] ∧ _
      cases r' with
      | r _ => exact c.elim
      | v r' =>
        cases r' with
        | int i =>
          cases r2' with
          | r _ => exact c.elim
          | v r2' =>
            cases r2' with
            | int j =>
              simp only [range2K] at c
              split at c
              · rename_i _ xs gd bx3 h
                split at h
                · rename_i h3
                  cases h
                  exact ⟨i, j, rfl, ⟨h3.1.1, h3.1.2, h3.2.1, h3.2.2⟩, c g2 H2 _ (e'.trans x2) b2 (jok_range i j)⟩
                · cases h
              · rename_i h
                split at h <;> cases h
              · exact c.elim
            | _ => exact c.elim
        | _ => exact c.elim⟩
end
end AM
/-! text AmF -/
set_option Elab.async false
set_option linter.all false
set_option maxRecDepth 100000
set_option maxHeartbeats 2000000
/-! AmF: calls of the text's own functions. -/
namespace AM
open PySem PySem.Spec PyProof.Rows L2

/-- room, and no guard stands -/
structure Rm (k : Nat) (A : Around) : Prop where
  r : Room k A
  gd : A.guards = some []
theorem Rm.mono {j k : Nat} {A : Around} (r : Rm k A) (h : j ≤ k) : Rm j A := ⟨r.r.mono h, r.gd⟩
theorem Rm.deeper {k : Nat} {A : Around} (r : Rm (k + 1) A) (env : Env) : Rm k (A.deeper env) := ⟨r.r.deeper env, r.gd⟩
theorem Rm.make {k : Nat} {A : Around} (r : Rm (k + 1) A) (C : Addr) (us : List Value) (kw : List (Str × Value)) : Rm k (A.under (.builtin "type.__call__" ⟨.ref C :: us, kw⟩)) :=
  ⟨r.r.make C us kw, by
    have e : (Code.builtin "type.__call__" ⟨.ref C :: us, kw⟩).isGuard = false := by first | rfl | decide | simp [Code.isGuard, guardIds]
    simp [Around.under, Code.guards, pushGuards, e, r.gd]⟩

/-- a def's promise, where no guard stands -/
structure FnG (P : Program) (w : World) (K : PySem.W.Frag) (mg : Str → Option Value) (base : Heap) (k : Nat) (f : Addr) (fd : FuncData) (ps : List Str) (sp : Sp) : Prop where
  len : ∀ vs H Q E, sp vs H Q E → vs.length = ps.length
  run : ∀ (A : Around) (outer : List Env) (s : Shared) (H : Hp) (args : Args) (us : List Value) (vs : List V) (Q : VK) (E : XK),
    Rm k A → Env0 P w K mg base A outer s H → BindsTo s fd args (ps.zip us) → Vals vs us → sp vs H Q E →
      codeAny (model P w) A (.call (.ref f) args) (CR (L2.CX P w) outer P w H s Q E) s
theorem FnG.mono {P : Program} {w : World} {K : PySem.W.Frag} {mg : Str → Option Value} {base : Heap} {j k : Nat} {f : Addr} {fd : FuncData} {ps : List Str} {sp : Sp} (F : FnG P w K mg base j f fd ps sp) (h : j ≤ k) : FnG P w K mg base k f fd ps sp :=
  ⟨F.len, fun A outer s H args us vs Q E hr => F.run A outer s H args us vs Q E (hr.mono h)⟩

section
variable {X : Cx} {k : Nat} {f C : Addr} {fd : FuncData} {ps : List Str} {sp : Sp} {Wx : WX} {pins : List (Addr × Obj)} {σ : L2.St} {H : Hp} {s : Shared} {Q : VK} {us : List Value} {vs : List V}
theorem back_ok {E : XK} {r : Result} {s' : Shared} (tk : Takes X Wx) (I : Inv X pins σ H s) (hE : ∀ c d H', E c d H' → Wx c d σ H') (h : CR (L2.CX X.prog X.w) X.stack X.prog X.w H s Q E r s') :
    (match r with
      | .ok (.ret u) => EP X pins σ Q u s'
      | .ok _ => False
      | .error e => X.xe e s') := by
  cases r with
  | error e => exact tk _ _ (XE.of_call I (fun c d H' q => hE c d H' q) h)
  | ok fl =>
    cases fl with
    | ret u => exact I.after h
    | next => exact h
    | brk => exact h
    | cont => exact h
theorem run_g (F : FnG X.prog X.w X.K X.mg X.base k f fd ps sp) (hr : Rm k X.A) (hb : Binds X.K fd ps []) (tk : Takes X Wx) (I : Inv X pins σ H s) (r : Vals vs us) (h : sp vs H Q fun c d H' => Wx c d σ H') :
    wpAny (model X.prog X.w) X.A (call (.ref f) us) (EP X pins σ Q) X.xe s := by
  have hl : (us ++ []).length = ps.length := by rw [List.append_nil, ← r.length, F.len _ _ _ _ h]
  have hbt := hb s us I.kIn hl
  rw [List.append_nil] at hbt
  refine wpAny_call (codeAny_mono (F.run X.A X.stack s H _ us vs Q _ hr I.env0 hbt r h) fun res s' hq => ?_)
  have z := back_ok tk I (fun _ _ _ q => q) hq
  rcases res with e | (v | _ | _ | _) <;> first | exact z | exact z.elim

/-- a new instance, then its own __init__ -/
theorem run_mk (M : Mk X.K C f) (F : FnG X.prog X.w X.K X.mg X.base k f fd ps sp) (hr : Rm (k + 1) X.A) (hb : Binds X.K fd ps []) (tk : Takes X Wx) (I : Inv X pins σ H s) (r : Vals vs us)
    (h : ∀ x dx, H x = none → H dx = none → dx ≠ x → sp (.ref x :: vs) (upd (upd H dx (.own x)) x (.ins C dx [])) (fun v H2 => v = .non ∧ Q (.ref x) H2) fun c d H' => Wx c d σ H') :
    wpAny (model X.prog X.w) X.A (call (.ref C) us) (EP X pins σ Q) X.xe s := by
  have q0 := h (s.heap.objs.size + 1) s.heap.objs.size (I.hok.fresh (Nat.le_succ _)) (I.hok.fresh (Nat.le_refl _)) (Nat.ne_of_lt (Nat.lt_succ_self _))
  have I2 := Inv.made (C := C) I
  have r2 : Vals (V.ref (s.heap.objs.size + 1) :: vs) (Value.ref (s.heap.objs.size + 1) :: us) := .cons rfl r
  have hl : ((Value.ref (s.heap.objs.size + 1) :: us) ++ []).length = ps.length := by rw [List.append_nil, ← r2.length, F.len _ _ _ _ q0]
  have hbt := hb _ (Value.ref (s.heap.objs.size + 1) :: us) I2.kIn hl
  rw [List.append_nil] at hbt
  have main := F.run _ X.stack _ _ _ (Value.ref (s.heap.objs.size + 1) :: us) _ _ _ (hr.make C us []) (I2.env0.make C us []) hbt r2 q0
  refine wpAny_call (make_map (f := f) I.kIn M.makes M.init (beq_iff_eq.mp M.fn) (codeAny_mono main fun res s' hq' => ?_))
  have z := back_ok tk I2 (fun _ _ _ q => q) hq'
  rcases res with e | (u | _ | _ | _) <;> first | exact z | exact z.elim | skip
  obtain ⟨v, H', I3, rv, ev, q3⟩ := z
  subst ev
  exact ⟨rv, V.ref (s.heap.objs.size + 1), H', I3, rfl, q3⟩
end

/-- a def of the text, by its body -/
theorem fng_of {P : Program} {w : World} {K : PySem.W.Frag} {mg : Str → Option Value} {base : Heap} {k : Nat} {f : Addr} {name qual : Str} {params : Arguments} {body : List Stmt} {scope : Scope} {dV kV doc pm cdv ct oc : Value} {an od : Option Addr}
    {osl : Array (Option Value)} {N ps : List Str} {sp : Sp} (lk : K.lookup f = some ⟨oc, od, .func (PySem.W.fnOf name qual params body scope dV kV doc pm an cdv ct), osl⟩) (hcd : PySem.W.codeIn K cdv qual = true) (S : FnScope N ps scope)
    (len : ∀ vs H Q E, sp vs H Q E → vs.length = ps.length)
    (hbody : ∀ (A : Around) (outer : List Env) (s : Shared) (H : Hp) (vs : List V) (Q : VK) (E : XK), Rm k (A.deeper (envOfC qual scope s.heap.objs.size f cdv)) → Mod K mg base → sp vs H Q E →
      ∃ t, PSs (cxOf (L2.CX P w) P w K mg base N qual scope f cdv A outer s H E) body t ∧ t { nx := fun _ H' => Q .non H', rt := Q } (start N vs) H) :
    FnG P w K mg base (k + 1) f (PySem.W.fnOf name qual params body scope dV kV doc pm an cdv ct) ps sp := by
  refine ⟨len, fun A outer s H args us vs Q E hr e0 hb r hsp => ?_⟩
  have KX : K.In s.heap := e0.mod.kin.keeps fun b o e => (e0.bs b o e).1
  have lim : s.heap.NoLimit := e0.mod.nolimit.keeps fun b o e => (e0.bs b o e).1
  have hl := len vs H Q E hsp
  have kinds : ∀ y ∈ ps.zip us, scope.names.lookup y.1 = some .local ∨ (scope.names.lookup y.1 = some .cell ∧ ((cellsFrom (s.heap.objs.size + 1) scope.names []).lookup y.1).isSome = true) := by
    rintro ⟨n, v⟩ hy
    exact (S.par n (List.of_mem_zip hy).1).imp id fun q => ⟨q, PySem.W.cellsFrom_some _ _ _ (.inl q)⟩
  refine codeAny_call_function hr.r.depth (KX _ _ lk) rfl S.co S.gen rfl (PySem.W.codeRec_of KX hcd) (hb _ _ _ _ ?_)
  refine wpAny_newFunctionEnv_cells S.kind kinds fun env he s1 x => ?_
  subst he
  obtain ⟨t, ht, hq⟩ := hbody A outer s H vs Q E (hr.deeper _) e0.mod hsp
  refine ⟨lim.keeps x.toInCall.keep, codeAny_func ?_⟩
  have I0 := inv_start (CX := L2.CX P w) (E := E) S hr.r.hd e0 hl r x
  refine wpAny_mono (ht.run [] s1 (start N vs) H _ I0 hq) (fun fl s' hs => ?_) fun _ _ hs => hs
  rcases fl with _ | _ | _ | u
  · obtain ⟨σ1, H1, J, q⟩ := hs
    exact ⟨V.non, H1, J.os, J.bare, J.base, J.hok, rfl, q⟩
  · exact hs.elim fun _ z => z.elim fun _ z => z.2.elim
  · exact hs.elim fun _ z => z.elim fun _ z => z.2.elim
  · obtain ⟨v, σ1, H1, J, rv, q⟩ := hs
    exact ⟨v, H1, J.os, J.bare, J.base, J.hok, rv, q⟩

/-! ### grounds -/
section
variable {F : Fx} {g g' : Gd} {bx bx' : Bx} {H H' : Hp}
/-- another object laid beside -/
theorem BxOk.side {p : Addr} {o : HO} (h : BxOk F g bx H) (hp : H p = none) : Ext g H g (upd H p o) ∧ BxOk F g bx (upd H p o) := by
  have np := h.np hp
  have x : Ext g H g (upd H p o) := ext_new hp h.trk (fun _ z => z) (fun _ z => .inl z) ⟨[], by simp, by simp⟩
  refine ⟨x, h.len, h.nd, fun n a b e1 e2 => (h.at_ n a b e1 e2).mono x (upd_ne (np a (h.alsome (List.mem_of_getElem? e1)))), h.free, fun a q => ?_⟩
  rw [upd_ne (np a (h.trk a q))]
  exact h.trk a q
/-- behind a call whose new boxes go: these are frozen -/
def Gd.shut (g : Gd) (lo : Nat) : Gd := { al := g.al.take lo, Z := fun a => g.Z a ∨ a ∈ g.al.drop lo }
theorem viewF_ok (b : BxOk F g bx H) (lo : Nat) : ∀ (k : Nat) {r : R} {v : V} {w : W}, RR F g H r v → viewF lo bx k r = some w → RW F (g.shut lo).Z H w v
  | 0, r, v, w, h, e => by
    cases h with
    | v h => simp only [viewF, Option.some.injEq] at e; subst e; exact h.mono (fun a z => .inl z) fun _ _ => rfl
    | r _ => simp [viewF] at e
  | k + 1, r, v, w, h, e => by
    cases h with
    | v h => simp only [viewF, Option.some.injEq] at e; subst e; exact h.mono (fun a z => .inl z) fun _ _ => rfl
    | @r n a q =>
      simp only [viewF] at e
      split at e
      · rename_i hlo
        have z : (g.shut lo).Z a := .inr (by
          rw [List.mem_iff_getElem?]
          refine ⟨n - lo, ?_⟩
          rw [List.getElem?_drop]
          have : lo + (n - lo) = n := by omega
          rw [this]
          exact q)
        split at e
        · rename_i xs hb
          have := b.at_ n a _ q hb
          cases this with
          | lst q l rs =>
            simp only [Option.map_eq_some_iff] at e
            obtain ⟨ws, e1, rfl⟩ := e
            exact .lst z q l (mapO_ok (P := fun _ _ => True) rs (fun r v w a e => viewF_ok b lo k a e) e1)
        · rename_i ks rs hb
          have := b.at_ n a _ q hb
          cases this with
          | dct q s o1 o2 l d r n kk =>
            simp only [Option.map_eq_some_iff] at e
            obtain ⟨ws, e1, rfl⟩ := e
            exact .dct (.inl ⟨z, q⟩) s o1 o2 l (d.mono (fun a z => .inl z) fun _ _ => rfl) (mapO_ok (P := fun _ _ => True) r (fun r v w a e => viewF_ok b lo k a e) e1) n kk
        · rename_i c fs hb
          have := b.at_ n a _ q hb
          cases this with
          | ins q f r =>
            simp only [Option.map_eq_some_iff] at e
            obtain ⟨ws, e1, rfl⟩ := e
            exact .ins z q f (mapO_ok (P := fun _ _ => True) r (fun r v w a e => viewF_ok b lo k a e) e1)
        · cases e
      · cases e
/-- a slot that names no box from lo on -/
theorem RR.shut {lo : Nat} {r : R} {v : V} (h : RR F g H r v) (l : refLt lo r = true) : RR F (g.shut lo) H r v := by
  cases h with
  | v h => exact .v (h.mono (fun a z => .inl z) fun _ _ => rfl)
  | @r n a q =>
    simp only [refLt, decide_eq_true_eq] at l
    refine .r ?_
    show (g.al.take lo)[n]? = some a
    rw [List.getElem?_take_of_lt l]
    exact q
theorem RRs.shut {lo : Nat} {rs : List R} {vs : List V} (h : RRs F g H rs vs) (l : rs.all (refLt lo) = true) : RRs F (g.shut lo) H rs vs := by
  induction h with
  | nil => exact .nil
  | cons a t ih =>
    simp only [List.all_cons, Bool.and_eq_true] at l
    exact .cons (a.shut l.1) (ih l.2)
theorem RR.lt {r : R} {v : V} (h : RR F g H r v) : refLt g.al.length r = true := by
  cases h with
  | v h => rfl
  | r q => simp only [refLt, decide_eq_true_eq]; exact (List.getElem?_eq_some_iff.mp q).1
theorem RRs.lt {rs : List R} {vs : List V} (h : RRs F g H rs vs) : rs.all (refLt g.al.length) = true := by
  induction h with
  | nil => rfl
  | cons a t ih => simp only [List.all_cons, Bool.and_eq_true]; exact ⟨a.lt, ih⟩
theorem BO.lt {a : Addr} {b : Box} (h : BO F g H a b) : boxLt g.al.length b = true := by
  cases h with
  | lst _ _ r => exact r.lt
  | dct _ _ _ _ _ _ r _ _ => exact r.lt
  | @ins c fs dx fv q f r =>
    have := r.lt
    simp only [boxLt]
    rw [List.all_map] at this
    exact this
theorem BO.shut {lo : Nat} {a : Addr} {b : Box} (h : BO F g H a b) (l : boxLt lo b = true) : BO F (g.shut lo) H a b := by
  cases h with
  | lst q z r => exact .lst q z (r.shut l)
  | dct q s o1 o2 z d r n kk => exact .dct q s o1 o2 z (d.mono (fun a z => .inl z) fun _ _ => rfl) (r.shut l) n kk
  | @ins c fs dx fv q f r => exact .ins q f (r.shut (by rw [List.all_map]; exact l))
theorem backOk_at {n : Nat} : ∀ {b b' : Bx}, backOk n b b' = true → b.length ≤ b'.length ∧ ∀ (i : Nat) (x : Box), i < b.length → b'[i]? = some x → b[i]? = some x ∨ boxLt n x = true
  | [], b', _ => ⟨by simp, fun i x h => by simp at h⟩
  | y :: r, [], h => by simp [backOk] at h
  | y :: r, y' :: r', h => by
    simp only [backOk, Bool.and_eq_true, Bool.or_eq_true, decide_eq_true_eq] at h
    obtain ⟨h1, h2⟩ := backOk_at h.2
    refine ⟨by simpa using h1, fun i x hi e => ?_⟩
    cases i with
    | zero =>
      simp at e
      subst e
      rcases h.1 with z | z
      · left; simp [z]
      · right; exact z
    | succ i => simpa using h2 i x (by simpa using hi) (by simpa using e)
theorem settle_ok (b : BxOk F g bx H) (x : Ext g H g' H') (b' : BxOk F g' bx' H') (k : backOk bx.length bx bx' = true) : Ext g H (g'.shut bx.length) H' ∧ BxOk F (g'.shut bx.length) (bx'.take bx.length) H' := by
  obtain ⟨t, ea, ht⟩ := x.al
  obtain ⟨kl, kb⟩ := backOk_at k
  have take : g'.al.take bx.length = g.al := by rw [ea, b.len]; simp
  have drp : g'.al.drop bx.length = t := by rw [ea, b.len]; simp
  have x' : Ext g H (g'.shut bx.length) H' := ⟨fun a z => .inl (x.z a z), fun a z => z.elim (x.zn a) fun m => by rw [drp] at m; exact .inr (ht a m), ⟨[], by show g'.al.take bx.length = _; rw [take]; simp, by simp⟩, x.zk, x.keep, x.there⟩
  have nd : ∀ a ∈ g'.al.take bx.length, a ∉ g'.al.drop bx.length := fun a h1 h2 => by
    have := b'.nd
    rw [← List.take_append_drop bx.length g'.al] at this
    exact (List.nodup_append.mp this).2.2 a h1 a h2 rfl
  refine ⟨x', ?_, ?_, fun n a bb e1 e2 => ?_, fun a m => ?_, fun a q => ?_⟩
  · show _ = (g'.al.take bx.length).length
    rw [List.length_take, List.length_take, b'.len]
  · exact b'.nd.sublist (List.take_sublist _ _)
  · have e1 : (g'.al.take bx.length)[n]? = some a := e1
    have hn : n < bx.length := by
      have := (List.getElem?_eq_some_iff.mp e1).1
      rw [List.length_take] at this
      omega
    rw [List.getElem?_take_of_lt hn] at e1 e2
    have h1 := b'.at_ n a bb e1 e2
    refine h1.shut ?_
    rcases kb n bb hn e2 with z | z
    · have e3 : g.al[n]? = some a := by
        rw [← take, List.getElem?_take_of_lt hn]
        exact e1
      have := (b.at_ n a bb e3 z).lt
      rw [b.len]
      exact this
    · exact z
  · have m : a ∈ g'.al.take bx.length := m
    have f := b'.free a (List.mem_of_mem_take m)
    exact fun z => z.elim f (nd a m)
  · rcases q with q | q
    · exact b'.trk a q
    · exact b'.alsome (List.mem_of_mem_drop q)
end

/-! ### what a function of the machine promises -/
def PostE (F : Fx) (g : Gd) (H : Hp) (E : XK) (Q : VK) (r : Res) : Prop := PostR F g [] H (fun c d _ H' => E c d H') Q r
/-- n arguments, then as Fm says -/
def spM (F : Fx) (n : Nat) (Fm : List R → Bx → Res) : Sp := fun vs H Q E => vs.length = n ∧ ∃ g bx rs, BxOk F g bx H ∧ RRs F g H rs vs ∧ PostE F g H E Q (Fm rs bx)
theorem PostR.settle {F : Fx} {g : Gd} {bx : Bx} {H : Hp} {σ : L2.St} {Wx : WX} {Q : VK} {r : Res} (b : BxOk F g bx H) (h : PostR F g σ H Wx Q (settle bx r)) : PostR F g σ H Wx Q r := by
  unfold AM.settle at h
  cases r with
  | stuck => exact h
  | ok x bx' =>
    simp only at h
    split at h
    · rename_i w e
      split at h
      · rename_i k
        intro g' H' v x' b' r'
        obtain ⟨x2, b2⟩ := settle_ok b x' b' k
        exact h _ _ _ x2 b2 (.v (viewF_ok b' _ 9 r' e))
      · exact h.elim
    · exact h.elim
  | exc w bx' =>
    simp only at h
    split at h
    · rename_i k
      intro g' H' cls d x' b' xr
      obtain ⟨x2, b2⟩ := settle_ok b x' b' k
      refine h _ _ cls d x2 b2 ?_
      obtain ⟨c, e1, e2⟩ := xr
      refine ⟨c, e1, e2.imp id ?_⟩
      rintro ⟨i, a, q1, q2, q3, q4⟩
      exact ⟨i, a, q1, q2, .inl q3, q4⟩
    · exact h.elim
theorem PostR.call {F : Fx} {g : Gd} {bx : Bx} {H : Hp} {σ : L2.St} {Wx : WX} {Q : VK} {Fm : Fn} {f : Nat} {keep : Bool} {rs : List R} (b : BxOk F g bx H) (h : PostR F g σ H Wx Q (opCall Fm f keep rs bx)) : PostR F g σ H Wx Q (Fm f rs bx) := by
  unfold opCall at h
  cases keep with
  | true => exact h
  | false => exact PostR.settle b h
theorem PostR.e {F : Fx} {g : Gd} {H : Hp} {σ : L2.St} {Wx : WX} {Q : VK} {r : Res} (h : PostR F g σ H Wx Q r) : PostE F g H (fun c d H' => Wx c d σ H') Q r := by
  cases r <;> exact h

/-- the text's function number f stands by the name x -/
structure CallF (X : Cx) (ca : Nat → Addr) (k : Nat) (Fm : Fn) (f n : Nat) (x : Str) : Prop where
  st : ∀ rs bx, rs.length ≠ n → Fm f rs bx = .stuck
  ex : ∃ (fa : Addr) (fd : FuncData) (ps : List Str), ps.length = n ∧ FnG X.prog X.w X.K X.mg X.base k fa fd ps (spM (fx X ca) n (Fm f)) ∧ X.mg x = some (.ref fa) ∧ PySem.W.keepIn X.K (.ref fa) = true ∧ Binds X.K fd ps []
section
variable {X : Cx} {ca : Nat → Addr} {k f n : Nat} {Fm : Fn} {x : Str} {e : Expr} {es : List Expr} {as : List (Bool × E)} {p pos : Pos} {keep : Bool}
/-- x(e, ..) -/
theorem se_call (h : CallF X ca k Fm f n x) (hr : Rm k X.A) (hg : Gl X x) (hdb : (x == ("__debug__" : Str)) = false) (hs : starEach (e :: es) X.env = (false, eval e X.env) :: starEach es X.env) (hpl : (backTo pos (starEach es X.env)).any (·.1) = false) (ha : SA X ca as (e :: es)) :
    SE X ca (eArgs as fun xs _ bx => opCall Fm f keep xs bx) (.Call (.Name x p) (e :: es) [] pos) := ⟨fun Wx tk => by
  obtain ⟨fa, fd, ps, hps, F, hm, hk, hb⟩ := h.ex
  refine ⟨fun pins s σ H Q I h0 => wpAny_Call_Name_kw (ld_glob I hg hm ?_ hdb)⟩
  refine PySem.W.callWith_K (h₀ := X.base) I.ok.mod.kin hk (thn ((ha.all (k := fun xs _ bx => opCall Fm f keep xs bx) tk (t := fun σ H Q => ∃ Q0, tM (fx X ca) Wx (eArgs as fun xs _ bx => opCall Fm f keep xs bx) σ H Q0 ∧ ∀ xs H1, tK (fx X ca) Wx (fun xs _ bx => opCall Fm f keep xs bx) xs σ H1 Q0 → Q xs H1) fun σ H Q x => x).run pos pins s σ H
    (fun vs H1 => tK (fx X ca) Wx (fun xs _ bx => opCall Fm f keep xs bx) vs σ H1 Q) I ⟨Q, h0, fun _ _ z => z⟩) fun us s1 ⟨vs, H1, I1, r, q⟩ => ⟨I1.kIn, ?_⟩) hs hpl
  obtain ⟨g, en, bx, rs, a, b, rr, pp⟩ := q
  have pq := PostR.call b pp
  have hl : rs.length = n := Classical.byContradiction fun z => by
    rw [h.st rs bx z] at pq
    exact pq.elim
  exact run_g F hr hb tk I1 r ⟨rr.length.symm.trans hl, g, bx, rs, b, rr, pq.e⟩⟩
end
end AM
/-! text AmB1 -/
set_option Elab.async false
set_option linter.all false
set_option maxRecDepth 100000
set_option maxHeartbeats 2000000
/-! AmB1: subscripts, slices, built-in functions. -/
namespace AM
open PySem PySem.Spec PyProof.Rows L2

theorem SL_le {n : Nat} : n ≤ SL ↔ n ≤ sizeLine := by rw [SL_eq]
theorem sIx_none' (n d : Nat) : HT.sIx n d none = d := rfl
theorem cutAt_eq (i : Int) (n d : Nat) : cutAt i n = HT.sIx n d (some i) := by
  show _ = if i < 0 then (i + (n : Int)).toNat else min i.toNat n
  unfold cutAt
  by_cases h : 0 ≤ i
  · rw [if_pos h, if_neg (by omega)]
  · rw [if_neg h, if_pos (by omega)]
theorem cutL_eq {α : Type} (lo hi : Option Int) (xs : List α) : cutL lo hi xs = (xs.drop (HT.sIx xs.length 0 lo)).take (HT.sIx xs.length xs.length hi - HT.sIx xs.length 0 lo) := by
  have h1 : (match hi with | some j => cutAt j xs.length | none => xs.length) = HT.sIx xs.length xs.length hi := by
    cases hi with
    | none => rfl
    | some j => exact cutAt_eq j _ _
  have h2 : (match lo with | some j => cutAt j xs.length | none => 0) = HT.sIx xs.length 0 lo := by
    cases lo with
    | none => rfl
    | some j => exact cutAt_eq j _ _
  exact (congr (congrArg (fun a b => (xs.take a).drop b) h1) h2).trans List.drop_take
theorem cutV_eq (lo hi : Option Int) (xs : List V) : cutV xs lo hi = cutL lo hi xs := by rw [cutL_eq] <;> rfl
theorem cutL_len {α β : Type} {lo hi : Option Int} {xs : List α} {ys : List β} (h : xs.length = ys.length) : (cutL lo hi xs).length = (cutL lo hi ys).length := by
  unfold cutL
  simp only [List.length_drop, List.length_take, h]
theorem atI_eq {α : Type} (xs : List α) (i : Int) : (atW i xs.length).bind (fun j => xs[j]?) = atI xs i := by
  unfold atI
  congr 1
  unfold atW ixN
  by_cases h : 0 ≤ i
  · rw [if_pos h, if_pos h]
  · rw [if_neg h, if_neg h]
    by_cases h2 : 0 ≤ i + (xs.length : Int)
    · rw [if_pos h2, if_pos (by omega)]
    · rw [if_neg h2, if_neg (by omega)]
section
variable {F : Fx} {g : Gd} {H : Hp} {rs : List R} {vs : List V}
theorem RRs.take (h : RRs F g H rs vs) : ∀ n, RRs F g H (rs.take n) (vs.take n) := by
  induction h with
  | nil => intro n; simp; exact .nil
  | cons a t ih =>
    intro n
    cases n with
    | zero => exact .nil
    | succ n => exact .cons a (ih n)
theorem RRs.drop (h : RRs F g H rs vs) : ∀ n, RRs F g H (rs.drop n) (vs.drop n) := by
  induction h with
  | nil => intro n; simp; exact .nil
  | cons a t ih =>
    intro n
    cases n with
    | zero => exact .cons a t
    | succ n => exact ih n
theorem RRs.cut {lo hi : Option Int} (h : RRs F g H rs vs) : RRs F g H (cutL lo hi rs) (cutL lo hi vs) := by
  have l := h.length
  unfold cutL
  rw [l]
  exact (h.take _).drop _
theorem RRs.rev (h : RRs F g H rs vs) : RRs F g H rs.reverse vs.reverse := by
  induction h with
  | nil => exact .nil
  | cons a t ih => rw [List.reverse_cons, List.reverse_cons]; exact ih.append (.cons a .nil)
theorem RWs.of {ws : List W} (h : RRs F g H (ws.map .v) vs) : RWs F g.Z H ws vs := by
  induction ws generalizing vs with
  | nil => cases h; exact .nil
  | cons w ws ih =>
    cases h with
    | cons a t => cases a with | v a => exact .cons a (ih t)
theorem RRs.at (h : RRs F g H rs vs) {i : Int} {r : R} (e : (atW i rs.length).bind (fun j => rs[j]?) = some r) : ∃ v, atI vs i = some v ∧ RR F g H r v := by
  rw [Option.bind_eq_some_iff] at e
  obtain ⟨j, e1, e2⟩ := e
  obtain ⟨v, e3, rr⟩ := h.get e2
  refine ⟨v, ?_, rr⟩
  rw [← atI_eq, ← h.length, e1]
  exact e3
end

/-! ### subscripts -/
section
variable {X : Cx} {ca : Nat → Addr}
theorem noX_idx : NoX opIdx := by
  intro rs bx w bx' h
  unfold opIdx at h
  repeat' split at h
  all_goals cases h
theorem ix_any (hu : X.A.units + 10 < cLine) : IxR X fun x y H Q => tO (fx X ca) opIdx [x, y] H Q := by
  intro value slice pins s σ H x y v u Q I rx ry ⟨g, bx, rs, b, rr, p⟩ hs
  obtain ⟨r1, r2, rfl, h1, h2⟩ := rr.two
  cases r2 with
  | r _ => exact p.elim
  | clo _ _ => exact p.elim
  | v k =>
    simp only [opIdx] at p
    cases e1 : dcO bx r1 with
    | some pr =>
      obtain ⟨ks, rs⟩ := pr
      simp only [e1] at p
      by_cases kf : keyFor ks k = true
      · rw [if_pos kf] at p
        cases e2 : dGet ks rs k with
        | none => simp only [e2] at p; exact p.elim
        | some r =>
          simp only [e2] at p
          obtain ⟨a, o, xv, rfl, pp, D, rr'⟩ := h1.dct b e1
          obtain ⟨w, e3, rw'⟩ := (RRs.dGet (k := k) (ks := ks) rr').1 r e2
          cases h2 with | v h2 =>
          cases rx
          have ho := d_obj I pp
          have hT : s.TypeIs (.ref a) "dict" := ⟨o, ho, D.ex.1⟩
          refine tail_any hT slot_dict_getitem.lookup ?_ hs
          exact d_at hu I pp D kf h2 ry e3 fun t w' rw2 => ⟨w, H, I.tok _, rw2, p g H w (Ext.refl g H) b rw'⟩
      · rw [if_neg kf] at p
        exact p.elim
    | none =>
      simp only [e1] at p
      cases k with
      | int i =>
        cases h2 with | v h2 =>
        cases h2
        simp only at p
        have seq : ∀ xs, itS bx r1 = some xs → PostO (fx X ca) g H Q (match (atW i xs.length).bind fun j => xs[j]? with
          | some r => .ok r bx
          | none => .stuck) → wpAny (model X.prog X.w) X.A (subscriptTail value slice v u) (EP X pins σ Q) X.xe s := fun xs e2 p => by
          cases e3 : (atW i xs.length).bind fun j => xs[j]? with
          | none => rw [e3] at p; exact p.elim
          | some r =>
            rw [e3] at p
            obtain ⟨a, vs, rfl, hq, _, rr'⟩ := h1.seq b e2
            obtain ⟨w, e4, rw'⟩ := rr'.at e3
            have q := p g H w (Ext.refl g H) b rw'
            rcases hq with hq | hq
            · exact ix_tup value slice pins s σ H _ _ v u Q I rx ry ⟨a, vs, i, w, rfl, rfl, hq, e4, q⟩ hs
            · exact ix_list value slice pins s σ H _ _ v u Q I rx ry ⟨a, vs, i, w, rfl, rfl, .of hq, e4, q⟩ hs
        cases r1 with
        | clo _ _ => exact p.elim
        | r n =>
          simp only at p
          cases e2 : itS bx (.r n) with
          | none => rw [e2] at p; exact p.elim
          | some xs => rw [e2] at p; exact seq xs e2 p
        | v w =>
          cases w with
          | str t =>
            simp only at p
            split at p
            · rename_i hl
              cases e3 : (atW i t.cps.toList.length).bind fun j => t.cps.toList[j]? with
              | none => rw [e3] at p; exact p.elim
              | some c =>
                rw [e3] at p
                cases h1 with | v h1 =>
                cases h1
                exact ix_str value slice pins s σ H _ _ v u Q I rx ry ⟨t, i, c, rfl, rfl, SL_le.mp hl, by rw [← atI_eq]; exact e3, p g H _ (Ext.refl g H) b (.v (.str _))⟩ hs
            · exact p.elim
          | tup ws => exact seq (ws.map .v) rfl p
          | lst ws => exact seq (ws.map .v) rfl p
          | _ => exact p.elim
      | _ => exact p.elim
theorem se_idx (hu : X.A.units + 10 < cLine) {a b : Expr} {ma mb : E} {pos : Pos} (ha : SE X ca ma a) (hb : SE X ca mb b) (hs : PlainIx b) : SE X ca (eOp [ma, mb] opIdx) (.Subscript a b pos) := ⟨fun Wx tk =>
  PE.imp (pe_ix (ix_any (ca := ca) hu) (ha.pe Wx tk) (hb.pe Wx tk) hs) fun σ H Q x => tM2 noX_idx x⟩

/-! ### slices -/
theorem mkT_seq {F : Fx} {g : Gd} {bx : Bx} {H : Hp} {Q : VK} {ws : List W} {vs : List V} (b : BxOk F g bx H) (r : RWs F g.Z H ws vs) (l : vs.length ≤ sizeLine) (h : PostO F g H Q (.ok (.v (.tup ws)) bx)) : ∀ p, H p = none → Q (.ref p) (upd H p (.tup vs)) := fun p hp => by
  obtain ⟨x, b'⟩ := b.frozen (o := .tup vs) hp
  exact h _ _ _ x b' (.v (.tup (.inl ⟨.inr rfl, .inl upd_same⟩) l (r.mono x.z fun a z => x.zk a z)))
def rCut (X : Cx) (ca : Nat → Addr) (m : Bool) : V → Option Int → Option Int → Hp → VK → Prop := fun x lo hi H Q => tO (fx X ca) (fun rs bx => match rs with
  | [r] => cutR m r lo hi bx
  | _ => .stuck) [x] H Q
theorem sl_any {m : Bool} : SlR X (rCut X ca m) := by
  intro pins s σ H x v vl vu lo hi sl Q I rx hs pl pu ⟨g, bx, rs, b, rr, p⟩
  obtain ⟨r, rfl, h1⟩ := rr.one
  replace p : PostO (fx X ca) g H Q (cutR m r lo hi bx) := p
  have lst : ∀ xs, itL bx r = some xs → PostO (fx X ca) g H Q (mkL m (cutL lo hi xs) bx) → ∃ T id, typeLookup (.type T) "__getitem__" = pure (some (.builtin id)) ∧ s.TypeIs v T ∧ wpAny (model X.prog X.w) X.A (getItem v (.ref sl)) (EP X pins σ Q) X.xe s := fun xs e p => by
    obtain ⟨a, vs, rfl, q, _, rr'⟩ := h1.lst b e
    obtain ⟨_, new⟩ := mkL_ok b rr'.cut p
    exact sl_list pins s σ H _ v vl vu lo hi sl Q I rx hs pl pu ⟨a, vs, rfl, .of q, by rw [cutV_eq]; exact new⟩
  cases r with
  | clo _ _ => exact p.elim
  | r n =>
    simp only [cutR] at p
    cases e : itL bx (.r n) with
    | none => rw [e] at p; exact p.elim
    | some xs => rw [e] at p; exact lst xs e p
  | v w =>
    cases w with
    | str t =>
      simp only [cutR] at p
      split at p
      · rename_i hl
        cases h1 with | v h1 =>
        cases h1
        have e : cutS t lo hi = ⟨(cutL lo hi t.cps.toList).toArray⟩ := by rw [cutL_eq] <;> rfl
        exact sl_str pins s σ H _ v vl vu lo hi sl Q I rx hs pl pu ⟨t, rfl, SL_le.mp hl, by rw [e]; exact p g H _ (Ext.refl g H) b (.v (.str _))⟩
      · exact p.elim
    | tup ws =>
      cases h1 with | v h1 =>
      cases id h1 with
      | @tup _ a vs pp l rs =>
        refine sl_tupA pins s σ H _ v vl vu lo hi sl Q I rx hs pl pu ⟨a, vs, rfl, RW.sqT pp, fun hw => ?_, fun _ => ?_⟩
        · have e : cutL lo hi ws = ws := by
            rw [cutL_eq, rs.length, hw.1, hw.2, ← rs.length]
            simp
          replace p : PostO (fx X ca) g H Q (.ok (.v (.tup (cutL lo hi ws))) bx) := p
          rw [e] at p
          exact p g H _ (Ext.refl g H) b (.v h1)
        · rw [cutV_eq]
          have rc : RRs (fx X ca) g H (cutL lo hi (ws.map .v)) (cutL lo hi vs) := (RRs.of rs).cut
          have e : cutL lo hi (ws.map R.v) = (cutL lo hi ws).map R.v := by
            rw [cutL_eq, cutL_eq, List.length_map, List.map_take, List.map_drop]
          rw [e] at rc
          exact mkT_seq b (RWs.of rc) (by have := cutV_length vs lo hi; rw [cutV_eq] at this; omega) p
    | scr ws =>
      cases h1 with | v h1 =>
      cases h1 with
      | @scr _ a vs q l rs =>
        obtain ⟨_, new⟩ := mkL_ok b (RRs.of rs).cut p
        exact sl_list pins s σ H _ v vl vu lo hi sl Q I rx hs pl pu ⟨a, vs, rfl, q.elim (fun z => .inl z.2) (fun z => z.elim (fun q => q.elim (fun t => nomatch t) fun ⟨_, t⟩ => nomatch t) .inr), by rw [cutV_eq]; exact new⟩
    | lst ws => exact lst (ws.map .v) rfl p
    | _ => exact p.elim
def tEnd (F : Fx) (Wx : WX) : Option E → TO
  | none => tNoPart
  | some m => tPart (tM F Wx m)
theorem tEnd.imp {F : Fx} {Wx : WX} {lo : Option E} {σ : L2.St} {H : Hp} {P P' : Option Int → Hp → Prop} (h : tEnd F Wx lo σ H P) (q : ∀ a H2, P a H2 → P' a H2) : tEnd F Wx lo σ H P' := by
  cases lo with
  | none => exact q _ _ h
  | some m => exact tM_imp h fun v H2 ⟨i, e, z⟩ => ⟨i, e, q _ _ z⟩
theorem part_ok {F : Fx} {Wx : WX} {lo : Option E} {k : Option Int → List R → E} {vs : List V} {σ : L2.St} {H : Hp} {Q : VK} (h : tK F Wx (fun rs => ePart lo fun a => k a rs) vs σ H Q) :
    tEnd F Wx lo σ H fun a H1 => tK F Wx (k a) vs σ H1 Q := by
  cases lo with
  | none => exact h
  | some m =>
    obtain ⟨g, en, bx, rs, a, b, c, p⟩ := h
    refine ⟨g, en, bx, a, b, ?_⟩
    replace p : PostR F g σ H Wx Q (match m en bx with
      | .ok r bx' => (match r with
        | .v (.int i) => k (some i) rs
        | _ => fun _ _ => .stuck) en bx'
      | .exc w bx' => .exc w bx'
      | .stuck => .stuck) := p
    cases e : m en bx with
    | ok r bx' =>
      rw [e] at p
      intro g' H' v e' b' r'
      cases r with
      | v w =>
        cases w with
        | int i => cases r' with | v r' => cases r'; exact ⟨i, rfl, g', en, bx', rs, a.mono e', b', c.mono e', PostR.ext e' p⟩
        | _ => exact p.elim
      | r _ => exact p.elim
      | clo _ _ => exact p.elim
    | exc w bx' => rw [e] at p; exact p
    | stuck => rw [e] at p; exact p
theorem noX_cut {m : Bool} {lo hi : Option Int} : NoX (fun rs bx => match rs with
  | [r] => cutR m r lo hi bx
  | _ => .stuck) := by
  intro rs bx w bx' h
  simp only at h
  split at h
  · unfold cutR at h
    split at h
    · split at h <;> cases h
    · cases h
    · exact noX_mkL _ _ _ _ _ h
    · split at h
      · exact noX_mkL _ _ _ _ _ h
      · cases h
  · cases h
inductive SP' (X : Cx) (ca : Nat → Addr) : Option E → Option Expr → Prop
  | no : SP' X ca none none
  | yes {m : E} {e : Expr} : SE X ca m e → SP' X ca (some m) (some e)
theorem SP'.po {X : Cx} {ca : Nat → Addr} {lo : Option E} {e : Option Expr} (h : SP' X ca lo e) {Wx : WX} (tk : Takes X Wx) : PO X e (tEnd (fx X ca) Wx lo) := by
  cases h with
  | no => exact po_none
  | yes h => exact po_some (h.pe Wx tk)
theorem PO.imp {X : Cx} {e : Option Expr} {t t' : TO} (h : PO X e t) (q : ∀ σ H Q, t' σ H Q → t σ H Q) : PO X e t' := ⟨fun pins s σ H Q I h' => h.run pins s σ H Q I (q σ H Q h')⟩
theorem se_cut {m : Bool} {e : Expr} {lo hi : Option Expr} {me : E} {ml mh : Option E} {p2 pos : Pos} (he : SE X ca me e) (hl : SP' X ca ml lo) (hh : SP' X ca mh hi) : SE X ca (eCut m me ml mh) (.Subscript e (.Slice lo hi none p2) pos) := ⟨fun Wx tk =>
  PE.imp (pe_slice (sl_any (ca := ca) (m := m)) (he.pe Wx tk) (hl.po tk) (hh.po tk)) fun σ H Q x => by
    have s1 := tK_bind' (vs := []) (k := fun rs => ePart ml fun a => ePart mh fun b => fun _ bx => match rs with
      | [r] => cutR m r a b bx
      | _ => .stuck) (fun rs hl => by
        have : rs = [] := List.eq_nil_of_length_eq_zero hl
        subst this
        rfl) (tK_of (m := eCut m me ml mh) x)
    refine tM_imp s1 fun v H1 s2 => ?_
    have s3 := part_ok (k := fun a rs => ePart mh fun b => fun _ bx => match rs with
      | [r] => cutR m r a b bx
      | _ => .stuck) s2
    refine s3.imp fun a H2 s4 => ?_
    have s5 := part_ok (k := fun b rs _ bx => match rs with
      | [r] => cutR m r a b bx
      | _ => .stuck) s4
    exact s5.imp fun b H3 s6 => tK_op noX_cut s6⟩
/-- xs[::-1] -/
theorem noX_rev (m : Bool) : NoX (opRev m) := by
  intro rs bx w bx' h
  unfold opRev at h
  split at h
  · split at h
    · exact noX_mkL _ _ _ _ _ h
    · cases h
  · cases h
theorem se_rev {m : Bool} {e : Expr} {me : E} {k : Nat} {p1 p2 p3 pos : Pos} (he : SE X ca me e) : SE X ca (eOp [me] (opRev m)) (.Subscript e (.Slice none none (some (.UnaryOp .USub (.Constant (.int 1) k p1) p2)) p3) pos) := ⟨fun Wx tk =>
  PE.imp (pe_revL (he.pe Wx tk)) fun σ H Q x => tM_imp (tM1 (noX_rev m) x) fun v H1 ⟨g, bx, rs, b, rr, p⟩ => by
    obtain ⟨r, rfl, h1⟩ := rr.one
    simp only [opRev] at p
    split at p
    · rename_i xs e
      obtain ⟨a, vs, rfl, q, _, rr'⟩ := h1.lst b e
      obtain ⟨_, new⟩ := mkL_ok b rr'.rev p
      exact ⟨a, vs, rfl, .of q, new⟩
    · exact p.elim⟩
end
end AM
/-! text AmB2 -/
set_option Elab.async false
set_option linter.all false
set_option maxRecDepth 100000
set_option maxHeartbeats 2000000
/-! AmB2: built-in functions; isinstance; repr. -/
namespace AM
open PySem PySem.Spec PyProof.Rows L2

/-- repr(x) -/
def opRepr : Op
  | [x], bx => match (view bx 9 x).bind W.toD with
    | some d => if d.showable = true ∧ d.shown.length ≤ SL ∧ d.depth ≤ 60 then .ok (.v (.str d.shown)) bx else .stuck
    | none => .stuck
  | _, _ => .stuck

section
variable {X : Cx} {ca : Nat → Addr} {e : Expr} {es : List Expr} {as : List (Bool × E)} {x : Str} {p pos : Pos} {f : Op} {id T : String}
/-- a built-in function of the text's globals -/
theorem se_fn (n : NoX f) (hc : CallR X (.builtin id) fun vs H Q => tO (fx X ca) f vs H Q) (hg : Gl X x) (hm : X.mg x = none) (hv : bootBuiltins x = some (.builtin id)) (hn : x ≠ "__name__") (hdb : (x == ("__debug__" : Str)) = false)
    (he : starEach (e :: es) X.env = (false, eval e X.env) :: starEach es X.env) (hpl : (backTo pos (starEach es X.env)).any (·.1) = false) (ha : SA X ca as (e :: es)) : SE X ca (eArgs as fun xs _ bx => f xs bx) (.Call (.Name x p) (e :: es) [] pos) := ⟨fun Wx tk =>
  PE.imp (pe_callB hc hg hm hv (ha.all (k := fun xs _ bx => f xs bx) tk (t := fun σ H Q => ∃ Q0, tM (fx X ca) Wx (eArgs as fun xs _ bx => f xs bx) σ H Q0 ∧ ∀ xs H1, tK (fx X ca) Wx (fun xs _ bx => f xs bx) xs σ H1 Q0 → Q xs H1) fun σ H Q x => x) hn hdb he hpl) fun σ H Q h => ⟨Q, h, fun xs H1 z => tK_op n z⟩⟩
/-- a built-in type, called -/
theorem se_ty (n : NoX f) (hc : CallR X (.type T) fun vs H Q => tO (fx X ca) f vs H Q) (hg : Gl X x) (hm : X.mg x = none) (hv : bootBuiltins x = some (.type T)) (hn : x ≠ "__name__") (hdb : (x == ("__debug__" : Str)) = false)
    (he : starEach (e :: es) X.env = (false, eval e X.env) :: starEach es X.env) (hpl : (backTo pos (starEach es X.env)).any (·.1) = false) (ha : SA X ca as (e :: es)) : SE X ca (eArgs as fun xs _ bx => f xs bx) (.Call (.Name x p) (e :: es) [] pos) := ⟨fun Wx tk =>
  PE.imp (pe_callTy hc hg hm hv (ha.all (k := fun xs _ bx => f xs bx) tk (t := fun σ H Q => ∃ Q0, tM (fx X ca) Wx (eArgs as fun xs _ bx => f xs bx) σ H Q0 ∧ ∀ xs H1, tK (fx X ca) Wx (fun xs _ bx => f xs bx) xs σ H1 Q0 → Q xs H1) fun σ H Q x => x) hn hdb he hpl) fun σ H Q h => ⟨Q, h, fun xs H1 z => tK_op n z⟩⟩
/-- one argument that is there -/
theorem tO_one {F : Fx} {vs : List V} {H : Hp} {Q : VK} (h : tO F f vs H Q) (hf : ∀ rs bx, rs.length ≠ 1 → f rs bx = .stuck) : ∃ g bx r v, vs = [v] ∧ BxOk F g bx H ∧ RR F g H r v ∧ PostO F g H Q (f [r] bx) := by
  obtain ⟨g, bx, rs, b, rr, p⟩ := h
  have hl : rs.length = 1 := Classical.byContradiction fun z => by
    rw [hf rs bx z] at p
    exact p
  match rs, hl, rr with
  | [r], _, .cons h1 .nil => exact ⟨g, bx, r, _, rfl, b, h1, p⟩

/-! ### len -/
theorem noX_len : NoX opLen := by
  intro rs bx w bx' h
  unfold opLen at h
  repeat' split at h
  all_goals cases h
theorem one_len : ∀ rs bx, rs.length ≠ 1 → opLen rs bx = .stuck := fun rs bx h => by
  unfold opLen
  split
  · simp at h
  · rfl
theorem c_len : CallR X (.builtin "len") fun vs H Q => tO (fx X ca) opLen vs H Q := by
  intro pins s σ H xs us Q I r h
  obtain ⟨g, bx, r1, v, rfl, b, h1, p⟩ := tO_one h one_len
  simp only [opLen] at p
  cases e : lenO bx r1 with
  | none => rw [e] at p; exact p.elim
  | some n =>
    rw [e] at p
    have q : Q (.int n) H := p g H _ (Ext.refl g H) b (.v (.int _))
    have dct : ∀ ks rs, dcO bx r1 = some (ks, rs) → n = ks.length → wpAny (model X.prog X.w) X.A (call (.builtin "len") us) (EP X pins σ Q) X.xe s := fun ks rs e1 hn => by
      obtain ⟨a, o, xv, rfl, pp, D, _⟩ := h1.dct b e1
      obtain ⟨u, rfl, rx⟩ := vals1 r
      cases rx
      have ho := d_obj I pp
      have hz := D.len
      rw [sizeLine_eq] at hz
      rcases D.kind.one with t | t
      · obtain ⟨ys, g1, _, g3⟩ := D.nested I ho fun k m => ⟨D.kind.key k m, t k m⟩
        refine call_len_dictH D.sm g1 (by omega) ⟨.int n, H, I.tok _, (by rw [g3, ← hn]; exact ⟨_, rfl⟩), q⟩
      · obtain ⟨kvs, g1, _, _, g4⟩ := D.pairs ho fun k m => ⟨D.kind.key k m, t k m⟩
        refine call_len_dict D.sm g1 (by omega) ⟨.int n, H, I.tok _, (by rw [g4, ← hn]; exact ⟨_, rfl⟩), q⟩
    have seq : ∀ xs, itS bx r1 = some xs → n = xs.length → wpAny (model X.prog X.w) X.A (call (.builtin "len") us) (EP X pins σ Q) X.xe s := fun xs e1 hn => by
      obtain ⟨a, vs, rfl, hs, _, rr⟩ := h1.seq b e1
      refine call_len pins s σ H _ us Q I r ⟨_, n, rfl, ?_, q⟩
      rcases hs with hs | hs
      · exact .inr ⟨vs, hs, hn.trans rr.length⟩
      · exact .inl ⟨vs, .of hs, hn.trans rr.length⟩
    have other : (match itS bx r1 with
      | some xs => some xs.length
      | none => (dcO bx r1).map fun p => p.1.length) = some n → wpAny (model X.prog X.w) X.A (call (.builtin "len") us) (EP X pins σ Q) X.xe s := fun e => by
      cases e1 : itS bx r1 with
      | some xs => rw [e1] at e; cases e; exact seq xs e1 rfl
      | none =>
        rw [e1] at e
        simp only [Option.map_eq_some_iff] at e
        obtain ⟨⟨ks, rs⟩, e2, rfl⟩ := e
        exact dct ks rs e2 rfl
    cases r1 with
    | clo _ _ => exact other e
    | r _ => exact other e
    | v w =>
      cases w with
      | str t =>
        simp only [lenO] at e
        split at e
        · rename_i hl
          cases e
          cases h1 with | v h1 =>
          cases h1
          exact call_len pins s σ H _ us Q I r ⟨_, _, rfl, ⟨SL_le.mp hl, rfl⟩, q⟩
        · cases e
      | _ => exact other e

/-! ### sums -/
theorem bools_ok {F : Fx} {g : Gd} {H : Hp} : ∀ {rs : List R} {vs : List V} {bs : List Bool}, RRs F g H rs vs → boolsO rs = some bs → vs = bs.map V.bl
  | [], _, bs, .nil, e => by simp only [boolsO, Option.some.injEq] at e; subst e; rfl
  | .v (.bl b) :: rs, _, bs, .cons h t, e => by
    simp only [boolsO, Option.map_eq_some_iff] at e
    obtain ⟨bs', e1, rfl⟩ := e
    cases h with | v h => cases h; rw [bools_ok t e1]; rfl
  | .r _ :: _, _, _, _, e => by simp [boolsO] at e
  | .clo _ _ :: _, _, _, _, e => by simp [boolsO] at e
  | .v .non :: _, _, _, _, e => by simp [boolsO] at e
  | .v (.int _) :: _, _, _, _, e => by simp [boolsO] at e
  | .v (.str _) :: _, _, _, _, e => by simp [boolsO] at e
  | .v (.tup _) :: _, _, _, _, e => by simp [boolsO] at e
  | .v (.lst _) :: _, _, _, _, e => by simp [boolsO] at e
  | .v (.dct _ _) :: _, _, _, _, e => by simp [boolsO] at e
  | .v (.ins _ _ _) :: _, _, _, _, e => by simp [boolsO] at e
  | .v (.exn _ _) :: _, _, _, _, e => by simp [boolsO] at e
  | .v (.scr _) :: _, _, _, _, e => by simp [boolsO] at e
theorem ints_ok {F : Fx} {g : Gd} {H : Hp} : ∀ {rs : List R} {vs : List V} {bs : List Int}, RRs F g H rs vs → intsO rs = some bs → vs = bs.map V.int
  | [], _, bs, .nil, e => by simp only [intsO, Option.some.injEq] at e; subst e; rfl
  | .v (.int b) :: rs, _, bs, .cons h t, e => by
    simp only [intsO, Option.map_eq_some_iff] at e
    obtain ⟨bs', e1, rfl⟩ := e
    cases h with | v h => cases h; rw [ints_ok t e1]; rfl
  | .r _ :: _, _, _, _, e => by simp [intsO] at e
  | .clo _ _ :: _, _, _, _, e => by simp [intsO] at e
  | .v .non :: _, _, _, _, e => by simp [intsO] at e
  | .v (.bl _) :: _, _, _, _, e => by simp [intsO] at e
  | .v (.str _) :: _, _, _, _, e => by simp [intsO] at e
  | .v (.tup _) :: _, _, _, _, e => by simp [intsO] at e
  | .v (.lst _) :: _, _, _, _, e => by simp [intsO] at e
  | .v (.dct _ _) :: _, _, _, _, e => by simp [intsO] at e
  | .v (.ins _ _ _) :: _, _, _, _, e => by simp [intsO] at e
  | .v (.exn _ _) :: _, _, _, _, e => by simp [intsO] at e
  | .v (.scr _) :: _, _, _, _, e => by simp [intsO] at e
theorem noX_all : NoX opAll := by
  intro rs bx w bx' h
  unfold opAll at h
  repeat' split at h
  all_goals cases h
theorem noX_any : NoX opAny := by
  intro rs bx w bx' h
  unfold opAny at h
  repeat' split at h
  all_goals cases h
theorem noX_sum : NoX opSum := by
  intro rs bx w bx' h
  unfold opSum at h
  repeat' split at h
  all_goals cases h
theorem c_all (hc : X.calm = true) : CallR X (.builtin "all") fun vs H Q => tO (fx X ca) opAll vs H Q := by
  intro pins s σ H xs us Q I r h
  obtain ⟨g, bx, r1, v, rfl, b, h1, p⟩ := tO_one h fun rs bx h => by
    unfold opAll
    split
    · simp at h
    · rfl
  simp only [opAll] at p
  cases e : (itL bx r1).bind boolsO with
  | none => rw [e] at p; exact p.elim
  | some bs =>
    rw [e] at p
    rw [Option.bind_eq_some_iff] at e
    obtain ⟨xs, e1, e2⟩ := e
    obtain ⟨a, vs, rfl, hs, _, rr⟩ := h1.lst b e1
    obtain rfl := bools_ok rr e2
    exact cr_all hc pins s σ H _ us Q I r ⟨a, bs, rfl, .of hs, okB_ok b p⟩
theorem c_any (hc : X.calm = true) : CallR X (.builtin "any") fun vs H Q => tO (fx X ca) opAny vs H Q := by
  intro pins s σ H xs us Q I r h
  obtain ⟨g, bx, r1, v, rfl, b, h1, p⟩ := tO_one h fun rs bx h => by
    unfold opAny
    split
    · simp at h
    · rfl
  simp only [opAny] at p
  cases e : (itL bx r1).bind boolsO with
  | none => rw [e] at p; exact p.elim
  | some bs =>
    rw [e] at p
    rw [Option.bind_eq_some_iff] at e
    obtain ⟨xs, e1, e2⟩ := e
    obtain ⟨a, vs, rfl, hs, _, rr⟩ := h1.lst b e1
    obtain rfl := bools_ok rr e2
    exact cr_any hc pins s σ H _ us Q I r ⟨a, bs, rfl, .of hs, okB_ok b p⟩
theorem c_sum (hc : X.calm = true) : CallR X (.builtin "sum") fun vs H Q => tO (fx X ca) opSum vs H Q := by
  intro pins s σ H xs us Q I r h
  obtain ⟨g, bx, r1, v, rfl, b, h1, p⟩ := tO_one h fun rs bx h => by
    unfold opSum
    split
    · simp at h
    · rfl
  simp only [opSum] at p
  cases e : (itL bx r1).bind intsO with
  | none => rw [e] at p; exact p.elim
  | some bs =>
    rw [e] at p
    rw [Option.bind_eq_some_iff] at e
    obtain ⟨xs, e1, e2⟩ := e
    obtain ⟨a, vs, rfl, hs, _, rr⟩ := h1.lst b e1
    obtain rfl := ints_ok rr e2
    exact cr_sum hc pins s σ H _ us Q I r ⟨a, bs, rfl, .of hs, p g H _ (Ext.refl g H) b (.v (.int _))⟩
theorem noX_min2 : NoX opMin2 := by
  intro rs bx w bx' h
  unfold opMin2 at h
  repeat' split at h
  all_goals cases h
theorem c_min2 (hc : X.calm = true) : CallR X (.builtin "min") fun vs H Q => tO (fx X ca) opMin2 vs H Q := by
  intro pins s σ H xs us Q I r ⟨g, bx, rs, b, rr, p⟩
  unfold opMin2 at p
  split at p
  · rename_i i j
    cases rr with | cons h1 rr => cases rr with | cons h2 rr =>
    cases rr
    cases h1 with | v h1 => cases h1; cases h2 with | v h2 =>
    cases h2
    exact call_min2 hc pins s σ H _ us Q I r ⟨i, j, rfl, p g H _ (Ext.refl g H) b (.v (.int _))⟩
  · exact p.elim
theorem noX_int : NoX opInt := by
  intro rs bx w bx' h
  unfold opInt at h
  repeat' split at h
  all_goals cases h
theorem c_int : CallR X (.type "int") fun vs H Q => tO (fx X ca) opInt vs H Q := by
  intro pins s σ H xs us Q I r ⟨g, bx, rs, b, rr, p⟩
  unfold opInt at p
  split at p
  · rename_i i
    cases rr with | cons h1 rr =>
    cases rr
    cases h1 with | v h1 =>
    cases h1
    exact call_int1 pins s σ H _ us Q I r (.inl ⟨i, rfl, p g H _ (Ext.refl g H) b (.v (.int _))⟩)
  · rename_i t
    cases rr with | cons h1 rr =>
    cases rr
    cases h1 with | v h1 =>
    cases h1
    exact call_int1 pins s σ H _ us Q I r (.inr ⟨t, rfl, p g H _ (Ext.refl g H) b (.v (.int _))⟩)
  · exact p.elim
theorem noX_str : NoX opStr := by
  intro rs bx w bx' h
  unfold opStr at h
  repeat' split at h
  all_goals cases h
theorem c_str : CallR X (.type "str") fun vs H Q => tO (fx X ca) opStr vs H Q := by
  intro pins s σ H xs us Q I r ⟨g, bx, rs, b, rr, p⟩
  unfold opStr at p
  split at p
  · rename_i i
    split at p
    · rename_i hl
      cases rr with | cons h1 rr =>
      cases rr
      cases h1 with | v h1 =>
      cases h1
      exact call_str_int pins s σ H _ us Q I r ⟨i, rfl, hl, p g H _ (Ext.refl g H) b (.v (.str _))⟩
    · exact p.elim
  · exact p.elim
theorem vals_map : ∀ ws : List W, vals (ws.map R.v) = some ws
  | [] => rfl
  | w :: ws => by
    have ih := vals_map ws
    unfold vals at ih ⊢
    simp [mapO, valO, ih]
/-! ### list(x), tuple(x) -/
theorem noX_list (m : Bool) : NoX (opList m) := by
  intro rs bx w bx' h
  unfold opList at h
  repeat' split at h
  all_goals first
    | cases h
    | exact noX_mkL _ _ _ _ _ h
theorem RD.rws {F : Fx} {Z : Addr → Prop} {H : Hp} : ∀ {ks : List W} {xv : List V} {es : List DictEntry}, RD F Z H ks xv es → ∃ kvs, RWs F Z H ks kvs ∧ Vals kvs (es.map (·.key))
  | _, _, _, .nil => ⟨[], .nil, .nil⟩
  | _, _, _, .cons r rk _ _ t => by
    obtain ⟨kvs, h1, h2⟩ := RD.rws t
    exact ⟨_, .cons r h1, .cons rk h2⟩
theorem list_keys {A : Around} {pins : List (Addr × Obj)} {s : Shared} {σ : L2.St} {H : Hp} {a : Addr} {o : Obj} {es : Array DictEntry} {ep : Nat} {kvs : List V} {Q : VK} (hh : X.A.handled = none) (I : Inv X pins σ H s) (p : DObj X.K H a o) (sm : (a == sysModules) = false) (hx : o.ExactDict) (hd : o.data = .dict es ep) (rv : Vals kvs (es.toList.map (·.key))) (hz : kvs.length ≤ sizeLine)
    (q : ∀ c, H c = none → Q (.ref c) (upd H c (.lst kvs))) : wpAny (model X.prog X.w) X.A (call (.type "list") [.ref a]) (EP X pins σ Q) X.xe s := by
  have ho := d_obj I p
  have hl : kvs.length = es.size := by
    have q := rv.length
    simpa using q
  refine PySem.W.kdl_call (kdl_raw sm hx hd) hh ho (by rw [← hl]; exact hz) fun h' tk acc' c' kp e it => ?_
  have ea : acc'.toList = es.toList.map (·.key) := by
    apply List.ext_getElem?
    intro j
    rw [List.getElem?_map]
    cases hj : acc'.toList[j]? with
    | none =>
      have h1 := List.getElem?_eq_none_iff.mp hj
      rw [Array.length_toList, it.1] at h1
      rw [List.getElem?_eq_none (by rw [Array.length_toList]; exact h1)]
      rfl
    | some v =>
      obtain ⟨en, hen, hv⟩ := it.2 j v (by rw [← Array.getElem?_toList]; exact hj)
      rw [Array.getElem?_toList, hen, hv]
      rfl
  refine ⟨.ref s.heap.objs.size, _, I.laid (t' := tk) (o := .lst kvs) kp (Nat.le_refl _) ?_, rfl, q _ (I.hok.fresh (Nat.le_refl _))⟩
  exact ⟨hz, acc'.toList, c', by rw [ea]; exact rv, by rw [Array.toArray_toList]; exact e⟩
theorem c_list {m : Bool} (hc : X.calm = true) : CallR X (.type "list") fun vs H Q => tO (fx X ca) (opList m) vs H Q := by
  intro pins s σ H xs us Q I r h
  obtain ⟨g, bx, r1, v, rfl, b, h1, p⟩ := tO_one h fun rs bx h => by
    unfold opList
    split
    · simp at h
    · rfl
  simp only [opList] at p
  cases e1 : itS bx r1 with
  | some xs =>
    rw [e1] at p
    obtain ⟨a, vs, rfl, hs, _, rr⟩ := h1.seq b e1
    obtain ⟨_, new⟩ := mkL_ok b rr p
    exact call_list_of pins s σ H _ us Q I r ⟨a, vs, rfl, hs.symm.imp .of id, new⟩
  | none =>
    rw [e1] at p
    cases e2 : dcO bx r1 with
    | none => rw [e2] at p; exact p.elim
    | some pr =>
      obtain ⟨ks, rs⟩ := pr
      simp only [e2] at p
      obtain ⟨a, o, xv, rfl, pp, D, _⟩ := h1.dct b e2
      obtain ⟨es, ep, hd, rd⟩ := D.dat
      obtain ⟨kvs, k1, k2⟩ := rd.rws
      obtain ⟨hz, new⟩ := mkL_ok b (RRs.of k1) p
      obtain ⟨u, rfl, rx⟩ := vals1 r
      cases rx
      exact list_keys (A := X.A) (I.ok.hd hc) I pp D.sm D.ex hd k2 hz new
theorem noX_tuple : NoX opTuple := by
  intro rs bx w bx' h
  unfold opTuple at h
  repeat' split at h
  all_goals first
    | cases h
    | exact noX_mkT _ _ _ _ h
theorem c_tuple : CallR X (.type "tuple") fun vs H Q => tO (fx X ca) opTuple vs H Q := by
  intro pins s σ H xs us Q I r h
  obtain ⟨g, bx, r1, v, rfl, b, h1, p⟩ := tO_one h fun rs bx h => by
    unfold opTuple
    split
    · simp at h
    · rfl
  simp only [opTuple] at p
  cases e1 : itS bx r1 with
  | none => rw [e1] at p; exact p.elim
  | some xs =>
    rw [e1] at p
    have lst : ∀ xs, itL bx r1 = some xs → PostO (fx X ca) g H Q (mkT xs bx) → wpAny (model X.prog X.w) X.A (call (.type "tuple") us) (EP X pins σ Q) X.xe s := fun xs e p => by
      obtain ⟨a, vs, rfl, hs, _, rr⟩ := h1.lst b e
      obtain ⟨_, new⟩ := mkT_ok b rr p
      exact call_tuple_of pins s σ H _ us Q I r ⟨a, vs, rfl, .inl ⟨.of hs, new⟩⟩
    cases r1 with
    | clo _ _ => exact lst xs e1 p
    | r _ => exact lst xs e1 p
    | v w =>
      cases w with
      | tup ws =>
        simp only [itS, Option.some.injEq] at e1
        subst e1
        cases h1 with | v h1 =>
        cases id h1 with
        | @tup _ a vs pp l rs =>
          refine call_tuple_of pins s σ H _ us Q I r ⟨a, vs, rfl, .inr ⟨RW.sqT pp, ?_⟩⟩
          replace p : PostO (fx X ca) g H Q (mkT (ws.map R.v) bx) := p
          unfold mkT at p
          rw [if_pos (by rw [SL_eq, List.length_map, rs.length]; exact l), vals_map] at p
          exact p g H _ (Ext.refl g H) b (.v h1)
      | _ => exact lst xs e1 p
end
end AM
/-! text AmB3 -/
set_option Elab.async false
set_option linter.all false
set_option maxRecDepth 100000
set_option maxHeartbeats 2000000
/-! AmB3: isinstance; repr. -/
namespace AM
open PySem PySem.Spec PyProof.Rows L2

/-! ### e.__class__, an error with or without a dict -/
section
open PySem.W
variable {prog : Program} {w : World} {A : Around} {E : Value → Shared → Prop} {s : Shared} {K : PySem.W.Frag} {x D : Addr} {ox : Obj} {od : Option Obj}
theorem findObj_cls {a gt : Value} (hD : hasDictIn K D = true) (h1 : findIn K (.ref D) "__class__" = some (some a)) (h2 : specialIn K a "__get__" = some (some gt)) (h3 : takesIn K a = some true) : findObj K D od "__class__" = some (.bind gt a) := by
  obtain ⟨cd, hcd, _⟩ := any_some hD
  unfold findObj
  rw [hcd, Option.bind_some, h1, Option.bind_some]
  simp [h2, h3]
theorem cls_of {Q : Option Value → Shared → Prop} (C : ExcC K D) (X : K.In s.heap) (I : InstAt s.heap x ox D od) (h : Q (some (.ref D)) { s with toks := s.toks + 1 }) : wpAny (model prog w) A (getAttr? (.ref x) "__class__") Q E s := by
  have look := findObj_cls (od := od) C.hd C.ha C.hn C.ht
  obtain ⟨hp, gs, dr, tk, ost⟩ := s
  have lT := I.type (M := model prog w)
  have lA := looks_findIn (M := model prog w) X C.hg
  have lB := looks_findIn (M := model prog w) X C.hk
  have lC := looks_find (M := model prog w) X I look
  have isB : Looks (model prog w) hp (isInstance (.ref x) (.type "BaseException")) true := lT.andThen (looks_subIn X C.hs)
  have ne : (Value.builtin "BaseException.__getattribute__" == Value.builtin "object.__getattribute__") = false := by decide +kernel
  have ne2 : (onTheHeap (Value.ref D) && Value.builtin "BaseException.__getattribute__" == Value.builtin "object.__getattribute__") = false := by rw [ne]; rfl
  unfold getAttr? getAttrBy? getAttrBy
  refine wpAny_bind (wpAny_mkText (wpAny_bind (wpAny_attempt (wpAny_holding (wpAny_bind (lT.at (wpAny_bind (lA.at ?_))))))))
  show wpAny _ _ (if (onTheHeap (Value.ref D) && Value.builtin "BaseException.__getattribute__" == Value.builtin "object.__getattribute__") = true then _ else _) _ _ _
  rw [ne2, if_neg Bool.false_ne_true]
  unfold getAttrByItsOwn hookBefore
  refine wpAny_bind ?_
  rw [if_pos (by rfl : onTheHeap (Value.ref D) = true)]
  refine lB.at (wpAny_bind (wpAny_attempt (wpAny_holding ?_)))
  unfold callGetattribute
  rw [(by rfl : (false && onTheHeap (Value.builtin "BaseException.__getattribute__")) = false), if_neg Bool.false_ne_true]
  unfold boundAndCalled
  rw [PySem.F.excAttr_ValueError.ga.bind (.ref x)]
  refine wpAny_bind (wpAny_pure ?_)
  show wpAny _ _ (call (.builtin "BaseException.__getattribute__") [.ref x, .str "__class__" tk]) _ _ _
  refine wpAny_call (codeAny_call_builtin PySem.F.excAttr_ValueError.ga.plain PySem.F.entry_bexc_ga ?_)
  refine @check_slot (model prog w) _ _ ⟨hp, gs, dr, tk + 1, ost⟩ "BaseException.__getattribute__" "BaseException" "__getattribute__" (.ref x) [.str "__class__" tk] [] _ (by decide +kernel) (by decide +kernel) isB (PySem.F.args_bexc_ga (.ref x) (.str "__class__" tk)) ?_
  unfold Builtin.«object.__getattribute__»
  refine wpAny_bind (wpAny_of_eq (a := ((Value.ref x : Value), [Value.str "__class__" tk])) (by first | rfl | (simp only [slotArgs]; rfl)) ?_)
  refine wpAny_bind (wpAny_pure (wpAny_bind (lT.at (wpAny_bind (lC.at ?_)))))
  show wpAny _ _ (holding [Value.builtin "object.__class__"] (call (.builtin "getset_descriptor.__get__") [.builtin "object.__class__", .ref x, .ref D]) >>= ret) _ _ _
  refine wpAny_bind (wpAny_holding (wpAny_call (class_get (s := ⟨hp, gs, dr, tk + 1, ost⟩) (ox := ox) (od := od) X I C.hm ?_)))
  refine wpAny_pure ?_
  show wpAny _ _ (handedOut (.ref D)) _ _ _
  rw [handedOut_of (v := .ref D) (by rfl)]
  first
    | exact wpAny_pure (wpAny_pure h)
    | exact wpAny_pure h
    | exact wpAny_pure (wpAny_bind (wpAny_pure (wpAny_pure h)))
theorem kitx_err (C : ExcC K D) : KitX K (.ref x) (.ref D) (fun h => InstAt h x ox D od) where
  ty := fun _ _ _ I => I.type
  it := fun _ h X _ => by
    obtain ⟨cd, hcd, _⟩ := any_some C.hd
    unfold clsIn at hcd
    split at hcd
    · rename_i o1 o2 o3 o4 ho
      exact fun A2 Q2 E2 s2 k q => by
        unfold isType loadHead
        exact wpAny_bind (wpAny_loadPart (k _ _ (X _ _ ho)) (wpAny_pure q))
    · cases hcd
  ne := fun h tp dd its n sl X htp => (PySem.W.handS_kitx_exc (x := x) (ox := ox) C.hg C.hk C.hs C.hd C.ha C.hn C.ht C.hm).ne h tp dd its n sl X htp
  ca := fun X I k => cls_of C X I k
end
/-- what a class of plain instances must say -/
structure ClsI (K : PySem.W.Frag) (C : Addr) : Prop where
  cl : Cls K C
  ha : PySem.W.findIn K (.ref C) "__class__" = some (some (.builtin "object.__class__"))
  hn : PySem.W.specialIn K (.builtin "object.__class__") "__get__" = some (some (.builtin "getset_descriptor.__get__"))
  ht : PySem.W.takesIn K (.builtin "object.__class__") = some true
  hm : PySem.W.mroIn K C (.type "object") = some true
def tyNames : List String := ["NoneType", "bool", "int", "str", "tuple", "list", "dict"]
/-- the classes' table is right -/
structure TabOk (K : PySem.W.Frag) (ca : Nat → Addr) (T : Tab) : Prop where
  ins : ∀ c, c < T.n → T.exc c = false → ClsI K (ca c)
  exc : ∀ c, c < T.n → T.exc c = true → ExcC K (ca c)
  sub : ∀ c d, c < T.n → d < T.n → PySem.W.kitOne K (.ref (ca d)) (.ref (ca c)) = some (T.sub d c)
  ty : ∀ c nm, c < T.n → nm ∈ tyNames → PySem.W.kitOne K (.type nm) (.ref (ca c)) = some false
  no : ∀ c t, c < T.n → PySem.W.kitOne K (.ref (ca c)) (.type (tyN t)) = some false
  ve : ∀ c, c < T.n → PySem.W.kitOne K (.ref (ca c)) (.type "ValueError") = some (T.exc c)

section
variable {X : Cx} {ca : Nat → Addr} {T : Tab} {pins : List (Addr × Obj)} {σ : L2.St} {H : Hp} {s : Shared} {g : Gd} {bx : Bx} {r : R} {v : V} {u : Value}
def tyV (ca : Nat → Addr) : String ⊕ Nat → Value
  | .inl nm => .type nm
  | .inr c => .ref (ca c)
def tyOK (T : Tab) : String ⊕ Nat → Prop
  | .inl nm => nm ∈ tyNames
  | .inr c => c < T.n
theorem opaque_ref (a : Addr) : Value.ref a ≠ .builtin "__main__.__loader__#opaque" := fun z => nomatch z
theorem kit_w (TO : TabOk X.K ca T) (I : Inv X pins σ H s) (b : BxOk (fx X ca) g bx H) (h : RR (fx X ca) g H r v) (ru : RelV v u) {t : String ⊕ Nat} (e : typO T bx r = some t) :
    (∃ P : Heap → Prop, PySem.W.KitX X.K u (tyV ca t) P ∧ P s.heap) ∧ u ≠ .builtin "__main__.__loader__#opaque" ∧ tyOK T t := by
  have lst : ∀ {a : Addr} {vs : List V}, H a = some (.lst vs) → ∃ P : Heap → Prop, PySem.W.KitX X.K (.ref a) (.type "list") P ∧ P s.heap := fun {a vs} q => by
    obtain ⟨_, its, n, _, h1⟩ := I.hok a _ q
    exact ⟨_, PySem.W.kitx_list, ⟨_, h1, rfl⟩⟩
  have dct : ∀ {a : Addr} {o : Obj}, (H a = some (pinO a o) ∨ X.K.lookup a = some o) → o.ExactDict → ∃ P : Heap → Prop, PySem.W.KitX X.K (.ref a) (.type "dict") P ∧ P s.heap := fun {a o} q x =>
    ⟨_, PySem.W.kitx_dict, ⟨o, d_obj I q, x.1⟩⟩
  have ins : ∀ {a dx : Addr} {c : Nat} {fv : List (Str × V)}, H a = some (.ins (ca c) dx fv) → c < T.n → T.exc c = false → ∃ P : Heap → Prop, PySem.W.KitX X.K (.ref a) (.ref (ca c)) P ∧ P s.heap := fun {a dx c fv} q l x => by
    have C := TO.ins c l x
    obtain ⟨mA, O, _⟩ := ins_get I.hok q
    obtain ⟨od, J, _⟩ := O.look
    exact ⟨_, PySem.W.kitx_own (C.cl.get _) C.cl.hd C.ha C.hn C.ht C.hm, J⟩
  cases h with
  | @v w v h =>
    cases h with
    | non => cases e; cases (show u = Value.none from ru); exact ⟨⟨_, PySem.W.kitx_none, True.intro⟩, (fun z => nomatch z), by simp [tyOK, tyNames]⟩
    | bl y => cases e; cases (show u = Value.bool y from ru); exact ⟨⟨_, PySem.W.kitx_bool, True.intro⟩, (fun z => nomatch z), by simp [tyOK, tyNames]⟩
    | int i => cases e; obtain ⟨t, q⟩ := (show ∃ t, u = Value.int i t from ru); cases q; exact ⟨⟨_, PySem.W.kitx_int, True.intro⟩, (fun z => nomatch z), by simp [tyOK, tyNames]⟩
    | str y => cases e; obtain ⟨t, q⟩ := (show ∃ t, u = Value.str y t from ru); cases q; exact ⟨⟨_, PySem.W.kitx_str, True.intro⟩, (fun z => nomatch z), by simp [tyOK, tyNames]⟩
    | tup p l rs =>
      cases e
      cases ru
      obtain ⟨its, _, ⟨o, h1, h2, _⟩, _⟩ := I.tuple (RW.sqT p)
      exact ⟨⟨_, PySem.W.kitx_tuple, ⟨o, h1, h2⟩⟩, opaque_ref _, by simp [tyOK, tyNames]⟩
    | lst z q l rs => cases e; cases ru; exact ⟨lst q, opaque_ref _, by simp [tyOK, tyNames]⟩
    | scr _ _ _ => simp [typO] at e
    | dct p s o1 o2 l d r n k => cases e; cases ru; exact ⟨dct (p.imp (·.2) id) o1, opaque_ref _, by simp [tyOK, tyNames]⟩
    | ins z q f rs =>
      simp only [typO] at e
      split at e
      · rename_i hc
        cases e
        cases ru
        exact ⟨ins q hc.1 hc.2, opaque_ref _, hc.1⟩
      · cases e
    | @exn c a z q =>
      simp only [typO] at e
      split at e
      · rename_i hc
        cases e
        cases ru
        have C := TO.exc c hc.1 hc.2
        obtain ⟨oe, vs, h1, h2, h3, h4⟩ := (I.hok a _ q).1
        have J : PySem.W.InstAt s.heap a oe (ca c) none := by
          obtain ⟨oc, od, oda, osl⟩ := oe
          dsimp only at h2 h3 h4
          subst h2 h3 h4
          exact ⟨h1, rfl, rfl, trivial⟩
        exact ⟨⟨_, PySem.W.handS_kitx_exc C.hg C.hk C.hs C.hd C.ha C.hn C.ht C.hm, J⟩, opaque_ref _, hc.1⟩
      · cases e
    | @exn1 c a dd i z q z2 q2 =>
      simp only [typO] at e
      split at e
      · rename_i hc
        cases e
        cases ru
        have C := TO.exc c hc.1 hc.2
        obtain ⟨oe, vs, h1, h2, h3, h4⟩ := (I.hok a _ q).1
        obtain ⟨mA, hns, _⟩ := (show ObjOk X.prog X.w H s.heap dd (.xd [(("line" : Str), .int i)]) from I.hok dd _ q2)
        obtain ⟨od, ho, _⟩ := lookIn_ns hns
        have J : PySem.W.InstAt s.heap a oe (ca c) (some od) := ⟨h1, h2, by unfold PySem.W.notCls; rw [h4] <;> rfl, by rw [h3]; exact ho⟩
        exact ⟨⟨_, kitx_err C, J⟩, opaque_ref _, hc.1⟩
      · cases e
  | @r n a q =>
    cases ru
    simp only [typO] at e
    split at e
    · rename_i xs hb
      have := b.at_ n a _ q hb
      cases this with | lst q l rs => cases e; exact ⟨lst q, opaque_ref _, by simp [tyOK, tyNames]⟩
    · rename_i ks rs hb
      have := b.at_ n a _ q hb
      cases this with | dct q s o1 o2 l d r n k => cases e; exact ⟨dct (.inl q) o1, opaque_ref _, by simp [tyOK, tyNames]⟩
    · rename_i c fs hb
      have := b.at_ n a _ q hb
      cases this with
      | ins q f rs =>
        split at e
        · rename_i hc
          cases e
          exact ⟨ins q hc.1 hc.2, opaque_ref _, hc.1⟩
        · cases e
    · cases e
theorem kit_names : ∀ nm ∈ tyNames, ∀ t : Ty, kitB nm (tyN t) = some (nm == tyN t || (nm == "bool" && t == .int)) := by
  intro nm h t
  simp only [tyNames, List.mem_cons, List.not_mem_nil, or_false] at h
  rcases h with rfl | rfl | rfl | rfl | rfl | rfl | rfl <;> cases t <;> decide +kernel
theorem kit_ve : ∀ nm ∈ tyNames, kitB nm "ValueError" = some false := by
  intro nm h
  simp only [tyNames, List.mem_cons, List.not_mem_nil, or_false] at h
  rcases h with rfl | rfl | rfl | rfl | rfl | rfl | rfl <;> decide +kernel
end
section
variable {X : Cx} {ca : Nat → Addr} {T : Tab} {e : Expr} {m : E} {x : Str} {p p2 pos : Pos} {f : Op}
/-- isinstance(e, x), x the class cv -/
theorem se_isi (n : NoX f) (c : V) (cv : Value) (hcv : ClsV c cv) (pc : PE X (.Name x p2) (tC c)) (hg : Gl X "isinstance") (hm : X.mg "isinstance" = none)
    (hs : starEach [e, .Name x p2] X.env = (false, eval e X.env) :: starEach [.Name x p2] X.env) (hs2 : starEach [.Name x p2] X.env = (false, eval (.Name x p2) X.env) :: starEach [] X.env) (hpl : (backTo pos (starEach [.Name x p2] X.env)).any (·.1) = false)
    (hf : ∀ pins s σ H v u Q, Inv X pins σ H s → RelV v u → tO (fx X ca) f [v] H Q → wpAny (model X.prog X.w) X.A (call (.builtin "isinstance") [u, cv]) (EP X pins σ Q) X.xe s)
    (he : SE X ca m e) : SE X ca (eOp [m] f) (.Call (.Name "isinstance" p) [e, .Name x p2] [] pos) := ⟨fun Wx tk =>
  PE.imp (pe_callB (id := "isinstance") (r := fun vs H Q => ∃ v, vs = [v, c] ∧ tO (fx X ca) f [v] H Q) (by
    intro pins s σ H xs us Q I r ⟨v, e, h⟩
    subst e
    obtain ⟨u1, u2, rfl, r1, r2⟩ := vals2 r
    obtain rfl := hcv.eq r2
    exact hf pins s σ H v u1 Q I r1 h) hg hm (by decide +kernel) (pa_cons (he.pe Wx tk) (pa_cons pc pa_nil hs2) hs) (by decide) (by decide) hs hpl) fun σ H Q h => tM_imp (tM1 n h) fun v H1 h1 => ⟨v, rfl, h1⟩⟩
theorem noX_isTy (t : Ty) : NoX (opIsTy T t) := by
  intro rs bx w bx' h
  unfold opIsTy at h
  repeat' split at h
  all_goals cases h
theorem noX_isC (c : Nat) : NoX (opIsC T c) := by
  intro rs bx w bx' h
  unfold opIsC at h
  repeat' split at h
  all_goals cases h
theorem noX_isVE : NoX (opIsVE T) := by
  intro rs bx w bx' h
  unfold opIsVE at h
  repeat' split at h
  all_goals cases h
theorem isi_ty (TO : TabOk X.K ca T) (t : Ty) : ∀ pins s σ H v u Q, Inv X pins σ H s → RelV v u → tO (fx X ca) (opIsTy T t) [v] H Q → wpAny (model X.prog X.w) X.A (call (.builtin "isinstance") [u, .type (tyN t)]) (EP X pins σ Q) X.xe s := by
  intro pins s σ H v u Q I ru ⟨g, bx, rs, b, rr, p⟩
  obtain ⟨r, rfl, h1⟩ := rr.one
  simp only [opIsTy] at p
  cases e : typO T bx r with
  | none => rw [e] at p; exact p.elim
  | some tt =>
    rw [e] at p
    obtain ⟨⟨P, Z, z⟩, ho, ok⟩ := kit_w TO I b h1 ru e
    cases tt with
    | inl nm => exact PySem.W.kia_one Z I.kIn z (kit_ty (kit_names nm ok t)) ho fun k => ⟨.bl _, H, I.tok k, rfl, okB_ok b p⟩
    | inr c => exact PySem.W.kia_one Z I.kIn z (TO.no c t ok) ho fun k => ⟨.bl _, H, I.tok k, rfl, okB_ok b p⟩
theorem isi_c (TO : TabOk X.K ca T) (c : Nat) : ∀ pins s σ H v u Q, Inv X pins σ H s → RelV v u → tO (fx X ca) (opIsC T c) [v] H Q → wpAny (model X.prog X.w) X.A (call (.builtin "isinstance") [u, .ref (ca c)]) (EP X pins σ Q) X.xe s := by
  intro pins s σ H v u Q I ru ⟨g, bx, rs, b, rr, p⟩
  obtain ⟨r, rfl, h1⟩ := rr.one
  simp only [opIsC] at p
  split at p
  · rename_i hc
    cases e : typO T bx r with
    | none => rw [e] at p; exact p.elim
    | some tt =>
      rw [e] at p
      obtain ⟨⟨P, Z, z⟩, ho, ok⟩ := kit_w TO I b h1 ru e
      cases tt with
      | inl nm => exact PySem.W.kia_one Z I.kIn z (TO.ty c nm hc ok) ho fun k => ⟨.bl _, H, I.tok k, rfl, okB_ok b p⟩
      | inr d => exact PySem.W.kia_one Z I.kIn z (TO.sub c d hc ok) ho fun k => ⟨.bl _, H, I.tok k, rfl, okB_ok b p⟩
  · exact p.elim
theorem isi_ve (TO : TabOk X.K ca T) : ∀ pins s σ H v u Q, Inv X pins σ H s → RelV v u → tO (fx X ca) (opIsVE T) [v] H Q → wpAny (model X.prog X.w) X.A (call (.builtin "isinstance") [u, .type "ValueError"]) (EP X pins σ Q) X.xe s := by
  intro pins s σ H v u Q I ru ⟨g, bx, rs, b, rr, p⟩
  obtain ⟨r, rfl, h1⟩ := rr.one
  simp only [opIsVE] at p
  cases e : typO T bx r with
  | none => rw [e] at p; exact p.elim
  | some tt =>
    rw [e] at p
    obtain ⟨⟨P, Z, z⟩, ho, ok⟩ := kit_w TO I b h1 ru e
    cases tt with
    | inl nm => exact PySem.W.kia_one Z I.kIn z (kit_ty (kit_ve nm ok)) ho fun k => ⟨.bl _, H, I.tok k, rfl, okB_ok b p⟩
    | inr d => exact PySem.W.kia_one Z I.kIn z (TO.ve d ok) ho fun k => ⟨.bl _, H, I.tok k, rfl, okB_ok b p⟩
end

/-! ### repr -/
section
variable {X : Cx} {ca : Nat → Addr} {pins : List (Addr × Obj)} {σ : L2.St} {H : Hp} {s : Shared} {Z : Addr → Prop}
/-- what is read holds no list of loaded modules -/
def NoSm (h : Heap) (as : List Addr) : Prop := ∀ a ∈ as, a = sysModules → ∃ o, h.get? a = some o ∧ o.cls = .type "list"
theorem NoSm.append {h : Heap} {as bs : List Addr} (x : NoSm h as) (y : NoSm h bs) : NoSm h (as ++ bs) := fun a m e => (List.mem_append.mp m).elim (fun z => x a z e) (fun z => y a z e)
theorem NoSm.cons {h : Heap} {a : Addr} {as : List Addr} (x : a = sysModules → ∃ o, h.get? a = some o ∧ o.cls = .type "list") (y : NoSm h as) : NoSm h (a :: as) := fun b m e => (List.mem_cons.mp m).elim (fun z => by subst z; exact x e) (fun z => y b z e)
theorem NoSm.nil {h : Heap} : NoSm h [] := fun a m => nomatch m
theorem toDs_len : ∀ {ws : List W} {ds : List PyData}, W.toDs ws = some ds → ws.length = ds.length
  | [], ds, h => by simp only [W.toDs, Option.some.injEq] at h; subst h; rfl
  | w :: ws, ds, h => by
    simp only [W.toDs] at h
    split at h
    · rename_i a b e1 e2
      cases h
      simp [toDs_len e2]
    · cases h
mutual
theorem RW.reads (I : Inv X pins σ H s) : ∀ {w : W} {v : V} {d : PyData} {u : Value}, RW (fx X ca) Z H w v → w.toD = some d → RelV v u → ∃ as, Reads s.heap u d as ∧ NoSm s.heap as
  | _, _, _, _, .non, e, r => by simp only [W.toD, Option.some.injEq] at e; subst e; cases r; exact ⟨_, .none, .nil⟩
  | _, _, _, _, .bl b, e, r => by simp only [W.toD, Option.some.injEq] at e; subst e; cases r; exact ⟨_, .bool b, .nil⟩
  | _, _, _, _, .int i, e, r => by simp only [W.toD, Option.some.injEq] at e; subst e; obtain ⟨t, rfl⟩ := r; exact ⟨_, .int i t, .nil⟩
  | _, _, _, _, .str x, e, r => by simp only [W.toD, Option.some.injEq] at e; subst e; obtain ⟨t, rfl⟩ := r; exact ⟨_, .str x t, .nil⟩
  | _, _, _, _, .tup p l rs, e, r => by
    simp only [W.toD, Option.map_eq_some_iff] at e
    obtain ⟨ds, e1, rfl⟩ := e
    obtain ⟨its, rv, ⟨o, h1, h2, n, h3⟩, _⟩ := I.tuple (RW.sqT p)
    cases r
    obtain ⟨as, ra, ns⟩ := RWs.reads I rs e1 rv
    exact ⟨as, .tuple h1 h2 h3 ra, ns⟩
  | _, _, _, _, .lst z q l rs, e, r => by
    simp only [W.toD, Option.map_eq_some_iff] at e
    obtain ⟨ds, e1, rfl⟩ := e
    obtain ⟨_, its, n, rv, h1⟩ := I.hok _ _ q
    cases r
    obtain ⟨as, ra, ns⟩ := RWs.reads I rs e1 rv
    exact ⟨_, .list h1 rfl rfl ra, ns.cons fun _ => ⟨_, h1, rfl⟩⟩
  | _, _, _, _, .scr _ _ _, e, _ => by simp [W.toD] at e
  | _, _, _, _, .dct (ks := ks) (vs := vs) (a := a) (o := o) (es := es) (xv := xv) p sm o1 o2 l rd rs n kk, e, r => by
    simp only [W.toD] at e
    split at e
    · rename_i da db e1 e2
      cases e
      cases r
      have ho := d_obj I (p.imp (·.2) id)
      obtain ⟨as, ra, na⟩ := RD.readsK I rd e1
      obtain ⟨bs, rb, nb⟩ := RWs.reads I rs e2 (RD.vals rd)
      have l1 := toDs_len e1
      have l2 := toDs_len e2
      have l3 := rd.lens
      have l4 := rs.length
      have z1 : (da.zip db).map (·.1) = da := List.map_fst_zip (by omega)
      have z2 : (da.zip db).map (·.2) = db := List.map_snd_zip (by omega)
      refine ⟨_, .dict ho o1.1 o2 (by rw [z1]; exact ra) (by rw [z2]; exact rb), (NoSm.cons (fun z => ?_) na).append nb⟩
      rw [z] at sm
      cases sm
    · cases e
  | _, _, _, _, .ins _ _ _ _, e, _ => by simp [W.toD] at e
  | _, _, _, _, .exn _ _, e, _ => by simp [W.toD] at e
  | _, _, _, _, .exn1 _ _ _ _, e, _ => by simp [W.toD] at e
theorem RWs.reads (I : Inv X pins σ H s) : ∀ {ws : List W} {vs : List V} {ds : List PyData} {us : List Value}, RWs (fx X ca) Z H ws vs → W.toDs ws = some ds → Vals vs us → ∃ as, ReadsAll s.heap us ds as ∧ NoSm s.heap as
  | _, _, _, _, .nil, e, r => by simp only [W.toDs, Option.some.injEq] at e; subst e; cases r; exact ⟨_, .nil, .nil⟩
  | _, _, _, _, .cons a t, e, r => by
    simp only [W.toDs] at e
    split at e
    · rename_i x y e1 e2
      cases e
      cases r with
      | cons r1 r2 =>
        obtain ⟨as, ra, na⟩ := RW.reads I a e1 r1
        obtain ⟨bs, rb, nb⟩ := RWs.reads I t e2 r2
        exact ⟨_, .cons ra rb, na.append nb⟩
    · cases e
theorem RD.readsK (I : Inv X pins σ H s) : ∀ {ks : List W} {xv : List V} {es : List DictEntry} {ds : List PyData}, RD (fx X ca) Z H ks xv es → W.toDs ks = some ds → ∃ as, ReadsAll s.heap (es.map (·.key)) ds as ∧ NoSm s.heap as
  | _, _, _, _, .nil, e => by simp only [W.toDs, Option.some.injEq] at e; subst e; exact ⟨_, .nil, .nil⟩
  | _, _, _, _, .cons a rk _ _ t, e => by
    simp only [W.toDs] at e
    split at e
    · rename_i x y e1 e2
      cases e
      obtain ⟨as, ra, na⟩ := RW.reads I a e1 rk
      obtain ⟨bs, rb, nb⟩ := RD.readsK I t e2
      exact ⟨_, .cons ra rb, na.append nb⟩
    · cases e
theorem RD.vals : ∀ {ks : List W} {xv : List V} {es : List DictEntry}, RD (fx X ca) Z H ks xv es → Vals xv (es.map (·.val))
  | _, _, _, .nil => .nil
  | _, _, _, .cons _ _ _ x t => .cons x (RD.vals t)
end
theorem noX_repr : NoX opRepr := by
  intro rs bx w bx' h
  unfold opRepr at h
  repeat' split at h
  all_goals cases h
/-- hsy: where the loaded modules stand is a dict -/
theorem c_repr (hgd : X.A.guards = some []) (hu : X.A.units + 64 < cLine) (hsy : ∃ o, X.K.lookup sysModules = some o ∧ o.cls ≠ .type "list") : CallR X (.builtin "repr") fun vs H Q => tO (fx X ca) opRepr vs H Q := by
  intro pins s σ H xs us Q I r h
  obtain ⟨g, bx, r1, v, rfl, b, h1, p⟩ := tO_one h fun rs bx h => by
    unfold opRepr
    split
    · simp at h
    · rfl
  simp only [opRepr] at p
  cases e : (view bx 9 r1).bind W.toD with
  | none => rw [e] at p; exact p.elim
  | some d =>
    rw [e] at p
    by_cases hd : d.showable = true ∧ d.shown.length ≤ SL ∧ d.depth ≤ 60
    · simp only [if_pos hd] at p
      obtain ⟨h2, h3, h4⟩ := hd
      have q := p g H _ (Ext.refl g H) b (.v (.str _))
      rw [Option.bind_eq_some_iff] at e
      obtain ⟨w, e1, e2⟩ := e
      have rw' := view_ok b 9 h1 e1
      obtain ⟨u, rfl, ru⟩ := vals1 r
      obtain ⟨as, ra, na⟩ := rw'.reads I e2 ru
      have hz := SL_le.mp h3
      have ra2 := ra
      cases ra with
      | none => exact PySem.P.repr_of_none ⟨.str _, H, I.tok _, ⟨_, rfl⟩, q⟩
      | bool c => exact PySem.P.repr_of_bool ⟨.str _, H, I.tok _, ⟨_, rfl⟩, q⟩
      | int i t =>
        have h5 : i.natAbs.log2 < 1920 := by simpa [PyData.showable] using h2
        exact PySem.P.repr_of_int h5 ⟨.str _, H, I.tok _, ⟨_, rfl⟩, q⟩
      | str x t => exact PySem.P.repr_of_str (hsz := hz) ⟨.str _, H, I.tok _, ⟨_, rfl⟩, q⟩
      | _ =>
        refine repr_of_reads' (hsz := hz) ra2 h2 (fun _ m => ?_) hgd (by omega) (fun _ _ z => z) fun h' u tk hk => ⟨.str _, H, I.kept hk, ⟨_, rfl⟩, q⟩
        obtain ⟨o, o1, o2⟩ := na _ m rfl
        obtain ⟨o', o3, o4⟩ := hsy
        rw [I.kIn _ _ o3] at o1
        cases o1
        exact o4 o2
    · simp only [if_neg hd] at p
      exact p.elim
end
end AM
/-! text AmC1 -/
set_option Elab.async false
set_option linter.all false
set_option maxRecDepth 100000
set_option maxHeartbeats 2000000
/-! AmC1: list comprehensions. -/
namespace AM
open PySem PySem.Spec PyProof.Rows L2

/-- nothing raises -/
abbrev W0 : WX := fun _ _ _ _ => False
theorem takes0 (X : Cx) : Takes X W0 := fun u s' ⟨_, _, _, _, _, _, _, _, _, _, _, _, _, _, _, _, f⟩ => f.elim

section
variable {F : Fx} {g g' : Gd} {bx bx' : Bx} {H H' : Hp} {D : Addr}
/-- D is no box, nothing frozen -/
structure Out (g : Gd) (D : Addr) : Prop where
  z : ¬ g.Z D
  al : D ∉ g.al
theorem Out.later (o : Out g D) (hs : (H D).isSome) (x : Ext g H g' H') : Out g' D ∧ H' D = H D := by
  obtain ⟨t, e, ht⟩ := x.al
  refine ⟨⟨fun z => ?_, fun m => ?_⟩, x.keep D hs o.al⟩
  · rcases x.zn D z with q | q
    · exact o.z q
    · rw [q] at hs; cases hs
  · rw [e] at m
    rcases List.mem_append.mp m with m | m
    · exact o.al m
    · rw [ht D m] at hs; cases hs
theorem BxOk.out (b : BxOk F g bx H) (h : H D = none) : Out g D := by
  refine ⟨fun z => ?_, fun m => ?_⟩
  · have := b.trk D z
    rw [h] at this; cases this
  · have := b.alsome m
    rw [h] at this; cases this
/-- the heap changed at D alone, that was not there at the base -/
theorem BxOk.agree {g0 : Gd} {H0 : Hp} (b : BxOk F g bx H) (x : Ext g0 H0 g H) (h0 : H0 D = none) (o : Out g D) (h : ∀ a, a ≠ D → H' a = H a) : Ext g0 H0 g H' ∧ BxOk F g bx H' ∧ (∀ r v, RR F g H r v → RR F g H' r v) := by
  have zd : ∀ a, g.Z a → a ≠ D := fun a z e => o.z (e ▸ z)
  have ad : ∀ a, a ∈ g.al → a ≠ D := fun a z e => o.al (e ▸ z)
  have nd : ∀ a, (H0 a).isSome → a ≠ D := fun a z e => by rw [e, h0] at z; cases z
  have rr : ∀ r v, RR F g H r v → RR F g H' r v := fun r v q => by
    cases q with
    | v w => exact .v (w.mono (fun _ z => z) fun a z => h a (zd a z))
    | r e => exact .r e
  have rrs : ∀ rs vs, RRs F g H rs vs → RRs F g H' rs vs := fun rs vs q => by
    induction q with
    | nil => exact .nil
    | cons a _ ih => exact .cons (rr _ _ a) ih
  refine ⟨⟨x.z, x.zn, x.al, fun a z => (h a (zd a (x.z a z))).trans (x.zk a z), fun a z n => (h a (nd a z)).trans (x.keep a z n), fun a z => ?_⟩, ⟨b.len, b.nd, fun n a bb e1 e2 => ?_, b.free, fun a z => ?_⟩, rr⟩
  · rw [h a (nd a z)]; exact x.there a z
  · have hm := h a (ad a (List.mem_of_getElem? e1))
    cases b.at_ n a bb e1 e2 with
    | lst q l r => exact .lst (hm.trans q) l (rrs _ _ r)
    | dct q s o1 o2 l d r n kk => exact .dct (hm.trans q) s o1 o2 l (d.mono (fun _ z => z) fun a z => h a (zd a z)) (rrs _ _ r) n kk
    | ins q f r => exact .ins (hm.trans q) f (rrs _ _ r)
  · rw [h a (zd a z)]; exact b.trk a z
theorem RRs.agree {rs : List R} {vs : List V} (h : ∀ r v, RR F g H r v → RR F g H' r v) (q : RRs F g H rs vs) : RRs F g H' rs vs := by
  induction q with
  | nil => exact .nil
  | cons a _ ih => exact .cons (h _ _ a) ih
theorem EnOk.agree {en : En} {σ : L2.St} (h : ∀ r v, RR F g H r v → RR F g H' r v) (q : EnOk F g en σ H) : EnOk F g en σ H' :=
  ⟨q.1, fun i r e => let ⟨v, a, b⟩ := q.2 i r e; ⟨v, a, h _ _ b⟩⟩
/-- forgotten slots -/
theorem EnOk.forget {en : En} {σ : L2.St} {i : Nat} (h : EnOk F g en σ H) : EnOk F g (en.set i none) σ H := by
  refine ⟨by simp [h.1], fun j r' e => ?_⟩
  by_cases z : j = i
  · subst z
    by_cases l : j < en.length
    · rw [List.getElem?_set_self l] at e
      cases e
    · rw [List.getElem?_eq_none (by simpa using l)] at e
      cases e
  · rw [List.getElem?_set_ne (Ne.symm z)] at e
    exact h.2 j r' e
theorem EnOk.wipe1 {en : En} {σ : L2.St} (h : EnOk F g en σ H) : ∀ own : List Nat, EnOk F g (wipeE en own) σ H
  | [] => h
  | v :: vs => (EnOk.wipe1 h vs).forget
theorem EnOk.wipe2 {en : En} {σ : L2.St} (h : EnOk F g en σ H) : ∀ own : List Nat, EnOk F g (wipeE en own) (wipe σ own) H
  | [] => h
  | v :: vs => (EnOk.wipe2 h vs).unset
theorem wipe_same {is vs : List Nat} {σ σ' : L2.St} (h : Same is σ σ') (k : ∀ i ∈ is, i ∈ vs) : wipe σ' vs = wipe σ vs := by
  apply List.ext_getElem?
  intro i
  by_cases hi : i ∈ vs
  · have none_at : ∀ (τ : L2.St) (vs : List Nat), i ∈ vs → i < τ.length → (wipe τ vs)[i]? = some none := by
      intro τ vs
      induction vs with
      | nil => intro h; cases h
      | cons v vs ih =>
        intro h hl
        unfold wipe
        by_cases e : v = i
        · subst e
          exact List.getElem?_set_self (by rw [wipe_length]; exact hl)
        · rw [List.getElem?_set_ne e]
          exact ih ((List.mem_cons.mp h).resolve_left fun z => e z.symm) hl
    by_cases hl : i < σ.length
    · rw [none_at σ vs hi hl, none_at σ' vs hi (by rw [h.len]; exact hl)]
    · rw [List.getElem?_eq_none (by rw [wipe_length, h.len]; omega), List.getElem?_eq_none (by rw [wipe_length]; omega)]
  · rw [wipe_out hi, wipe_out hi]
    exact h.at_ i fun z => hi (k i z)
theorem Same.wiped {is vs : List Nat} {σ σ' : L2.St} (h : Same is (wipe σ vs) σ') (k : ∀ i ∈ is, i ∈ vs) : wipe σ' vs = wipe σ vs := by
  rw [wipe_same h k]
  have : ∀ vs2 : List Nat, (∀ i ∈ vs2, i ∈ vs) → wipe (wipe σ vs) vs2 = wipe σ vs := by
    intro vs2
    induction vs2 with
    | nil => intro _; rfl
    | cons v r ih =>
      intro hk
      show (wipe (wipe σ vs) r).set v none = wipe σ vs
      rw [ih fun i m => hk i (List.mem_cons_of_mem _ m)]
      apply List.ext_getElem?
      intro i
      by_cases e : v = i
      · subst e
        by_cases hl : v < (wipe σ vs).length
        · rw [List.getElem?_set_self hl]
          have none_at : ∀ (τ : L2.St) (ws : List Nat), v ∈ ws → v < τ.length → (wipe τ ws)[v]? = some none := by
            intro τ ws
            induction ws with
            | nil => intro h; cases h
            | cons w ws ih =>
              intro h hl
              unfold wipe
              by_cases e : w = v
              · subst e
                exact List.getElem?_set_self (by rw [wipe_length]; exact hl)
              · rw [List.getElem?_set_ne e]
                exact ih ((List.mem_cons.mp h).resolve_left fun z => e z.symm) hl
          exact (none_at σ vs (hk v List.mem_cons_self) (by rw [wipe_length] at hl; exact hl)).symm
        · rw [List.getElem?_eq_none (by simpa using hl), List.getElem?_eq_none (by omega)]
      · rw [List.getElem?_set_ne e]
  exact this vs fun _ z => z
/-- the list that was filled is the answer -/
theorem fill_ok {m : Bool} {rs : List R} {acc : List V} {g0 : Gd} {H0 : Hp} {Q : VK} (b : BxOk F g bx H) (x : Ext g0 H0 g H) (h0 : H0 D = none) (o : Out g D) (hD : H D = some (.lst acc)) (r : RRs F g H rs acc) (p : PostO F g0 H0 Q (mkL m rs bx)) : Q (.ref D) H := by
  obtain ⟨x1, b1, k1⟩ := b.agree (H' := fun a => if a = D then none else H a) x h0 o (fun a n => by simp [n])
  have p1 : PostO F g (fun a => if a = D then none else H a) Q (mkL m rs bx) := by
    cases e : mkL m rs bx with
    | ok r bx' => rw [e] at p; exact fun g' H' v e' b' q => p g' H' v (x1.trans e') b' q
    | exc w bx' => rw [e] at p; exact p.elim
    | stuck => rw [e] at p; exact p.elim
  obtain ⟨_, new⟩ := mkL_ok b1 (r.agree k1) p1
  have q := new D (by simp)
  have e : upd (fun a => if a = D then none else H a) D (.lst acc) = H := by
    funext a
    by_cases z : a = D
    · subst z; rw [upd_same, hD]
    · rw [upd_ne z]; simp [z]
  rw [e] at q
  exact q
end

/-! ### one clause -/
/-- a clause's tests: none or one -/
def tTs (F : Fx) : List E → TT
  | [c] => tMT F W0 c
  | _ => tYes
theorem lc_sound {F : Fx} {Wx : WX} {m : Bool} {own : List Nat} {t : Tg} {i : I} {ifs : List E} {elt : E} {σ : L2.St} {H : Hp} {Q : VK} (hi : ifs.length ≤ 1) (ht : ∀ j ∈ tgS t, j ∈ own) (h : tM F Wx (eLc m own [⟨t, i, ifs⟩] elt) σ H Q) :
    tLc (tI F Wx i) (tG F t) (tTs F ifs) (tM F W0 elt) own σ H Q := by
  obtain ⟨g, en, bx, a, b, p⟩ := h
  replace p : PostR F g σ H Wx Q (match (match i (wipeE en own) bx with
      | .ok xs gd bx' => lcTurns (lcGo elt []) t ifs gd (wipeE en own) xs bx'
      | _ => none) with
    | some (rs, bx') => mkL m rs bx'
    | none => .stuck) := p
  refine ⟨g, wipeE en own, bx, a.wipe1 own, b, ?_⟩
  cases e : i (wipeE en own) bx with
  | stuck => rw [e] at p; exact p.elim
  | exc w bx' => rw [e] at p; exact p.elim
  | ok xs gd bx1 =>
    rw [e] at p
    simp only at p ⊢
    intro g1 H1 J x1 b1 jo D hD
    -- the turns to come end well
    cases e2 : lcTurns (lcGo elt []) t ifs gd (wipeE en own) xs bx1 with
    | none => rw [e2] at p; exact p.elim
    | some z =>
      obtain ⟨rs, bx2⟩ := z
      rw [e2] at p
      simp only at p
      have p1 : PostO F g1 H1 Q (mkL m rs bx2) := by
        have p := PostR.ext x1 p
        cases e3 : mkL m rs bx2 with
        | ok r bx' => rw [e3] at p; exact p
        | exc w bx' => exact absurd e3 (noX_mkL m _ _ _ _)
        | stuck => rw [e3] at p; exact p
      have hlen : rs.length ≤ SL := by
        unfold mkL at p1
        split at p1
        · assumption
        · exact p1.elim
      refine ⟨fun i n H => n + i = xs.length ∧ ∃ g' bx' rs0 acc zs, Ext g1 H1 g' H ∧ BxOk F g' bx' H ∧ Out g' D ∧ EnOk F g' (wipeE en own) (wipe σ own) H ∧ H D = some (.lst acc) ∧ RRs F g' H rs0 acc ∧
        lcTurns (lcGo elt []) t ifs gd (wipeE en own) (xs.drop i) bx' = some (zs, bx2) ∧ rs = rs0 ++ zs, ⟨xs.length, rfl, ?_⟩, ?_⟩
      · obtain ⟨y1, y2, y3⟩ := b1.agree (H' := upd H1 D (.lst [])) (Ext.refl g1 H1) hD (b1.out hD) fun a n => upd_ne n
        exact ⟨g1, bx1, [], [], rs, y1, y2, b1.out hD, ((a.wipe2 own).mono x1).agree y3, upd_same, .nil, e2, rfl⟩
      · intro i n H2 ⟨hn, g2, bx', rs0, acc, zs, x2, b2, o2, a2, hD2, r2, et, er⟩
        have sD : (H2 D).isSome := by rw [hD2]; rfl
        by_cases hi2 : i < xs.length
        · right
          have hd : xs.drop i = xs[i] :: xs.drop (i + 1) := List.drop_eq_getElem_cons hi2
          rw [hd] at et
          simp only [lcTurns] at et
          split at et
          · rename_i gd1
            refine ⟨jo.go i g2 H2 bx' x2 b2 gd1 hi2, fun H' => (n - 1) + (i + 1) = xs.length ∧ ∃ g' bx' rs0 acc zs, Ext g1 H1 g' H' ∧ BxOk F g' bx' H' ∧ Out g' D ∧ EnOk F g' (wipeE en own) (wipe σ own) H' ∧ H' D = some (.lst acc) ∧ RRs F g' H' rs0 acc ∧
              lcTurns (lcGo elt []) t ifs gd (wipeE en own) (xs.drop (i + 1)) bx' = some (zs, bx2) ∧ rs = rs0 ++ zs, fun H' q => ⟨n - 1, by omega, q⟩, fun v H3 y => ?_⟩
            obtain ⟨g3, x3, b3, ri⟩ := jo.yld i g2 H2 bx' v H3 xs[i] x2 b2 gd1 (List.getElem?_eq_getElem hi2) y
            split at et
            · rename_i en' q
              refine ⟨g3, wipeE en own, bx', _, en', a2.mono x3, b3, ri, q, fun σ' a' sm => ⟨sm.wiped ht, ?_⟩⟩
              have skip : ∀ {g' : Gd} {H' : Hp} {bx4 : Bx}, Ext g3 H3 g' H' → BxOk F g' bx4 H' → lcTurns (lcGo elt []) t ifs gd (wipeE en own) (xs.drop (i + 1)) bx4 = some (zs, bx2) → (n - 1) + (i + 1) = xs.length ∧ ∃ g' bx' rs0 acc zs, Ext g1 H1 g' H' ∧ BxOk F g' bx' H' ∧ Out g' D ∧ EnOk F g' (wipeE en own) (wipe σ own) H' ∧ H' D = some (.lst acc) ∧ RRs F g' H' rs0 acc ∧
                  lcTurns (lcGo elt []) t ifs gd (wipeE en own) (xs.drop (i + 1)) bx' = some (zs, bx2) ∧ rs = rs0 ++ zs := fun {g' H' bx4} x4 b4 et => by
                have x24 := x3.trans x4
                obtain ⟨o4, d4⟩ := o2.later sD x24
                exact ⟨by omega, g', bx4, rs0, acc, zs, x2.trans x24, b4, o4, a2.mono x24, d4.trans hD2, r2.mono x24, et, er⟩
              -- the item, behind the tests
              have main : ∀ {g' : Gd} {H' : Hp} {bx4 : Bx}, Ext g3 H3 g' H' → BxOk F g' bx4 H' → (match lcGo elt [] en' bx4 with
                  | some (ys, bx2) => match lcTurns (lcGo elt []) t ifs gd (wipeE en own) (xs.drop (i + 1)) bx2 with
                    | some (zs, bx3) => some (ys ++ zs, bx3)
                    | none => none
                  | none => none) = some (zs, bx2) → tM F W0 elt σ' H' fun y H4 => ∃ acc, H4 D = some (.lst acc) ∧ acc.length < sizeLine ∧ ((n - 1) + (i + 1) = xs.length ∧ ∃ g' bx' rs0 acc' zs, Ext g1 H1 g' (upd H4 D (.lst (acc ++ [y]))) ∧ BxOk F g' bx' (upd H4 D (.lst (acc ++ [y]))) ∧ Out g' D ∧
                    EnOk F g' (wipeE en own) (wipe σ own) (upd H4 D (.lst (acc ++ [y]))) ∧ (upd H4 D (.lst (acc ++ [y]))) D = some (.lst acc') ∧ RRs F g' (upd H4 D (.lst (acc ++ [y]))) rs0 acc' ∧
                    lcTurns (lcGo elt []) t ifs gd (wipeE en own) (xs.drop (i + 1)) bx' = some (zs, bx2) ∧ rs = rs0 ++ zs) := fun {g' H' bx4} x4 b4 et => by
                refine ⟨g', en', bx4, a'.mono x4, b4, ?_⟩
                simp only [lcGo] at et
                cases e5 : elt en' bx4 with
                | ok r bx5 =>
                  rw [e5] at et
                  simp only at et
                  split at et
                  · rename_i zs' bx6 e6
                    cases et
                    intro g5 H5 y x5 b5 r5
                    have x25 := x3.trans (x4.trans x5)
                    obtain ⟨o5, d5⟩ := o2.later sD x25
                    have hD5 := d5.trans hD2
                    obtain ⟨y1, y2, y3⟩ := b5.agree (H' := upd H5 D (.lst (acc ++ [y]))) (x2.trans x25) hD o5 fun a n => upd_ne n
                    refine ⟨acc, hD5, ?_, by omega, g5, bx5, rs0 ++ [r], acc ++ [y], zs', y1, y2, o5, (a2.mono x25).agree y3, upd_same, RRs.agree y3 ((r2.mono x25).append (.cons r5 .nil)), e6, by rw [er]; simp⟩
                    have hl := r2.length
                    rw [er] at hlen
                    simp only [List.length_append, List.length_cons] at hlen
                    rw [SL_eq] at hlen
                    omega
                  · cases et
                | exc w bx5 => rw [e5] at et; cases et
                | stuck => rw [e5] at et; cases et
              match ifs, hi, et with
              | [], _, et =>
                simp only [testsO] at et
                simp only [tTs, tYes, if_true]
                exact main (Ext.refl g3 H3) b3 et
              | [c], _, et =>
                simp only [testsO] at et
                show tMT F W0 c σ' H3 _
                refine ⟨g3, en', bx', a', b3, ?_⟩
                cases e4 : c en' bx' with
                | ok r bx4 =>
                  rw [e4] at et
                  intro g4 H4 v4 x4 b4 r4
                  cases r with
                  | v w =>
                    cases w with
                    | bl tt =>
                      cases r4 with | v r4 =>
                      cases r4
                      refine ⟨tt, rfl, ?_⟩
                      cases tt with
                      | true =>
                        rw [if_pos rfl]
                        exact main x4 b4 et
                      | false =>
                        rw [if_neg Bool.false_ne_true]
                        exact skip x4 b4 et
                    | _ => cases et
                  | r _ => cases et
                  | clo _ _ => cases et
                | exc w bx4 => rw [e4] at et; cases et
                | stuck => rw [e4] at et; cases et
            · cases et
          · cases et
        · left
          have hd : xs.drop i = [] := List.drop_eq_nil_of_le (by omega)
          rw [hd] at et
          simp only [lcTurns] at et
          split at et
          · rename_i gd1
            cases et
            rw [List.append_nil] at er
            subst er
            exact ⟨jo.stop i g2 H2 _ x2 b2 gd1 (by omega), fill_ok b2 x2 hD o2 hD2 r2 p1⟩
          · cases et

section
variable {X : Cx} {ca : Nat → Addr} {m : Bool} {elt tg iter : Expr} {ifs : List Expr} {scope : Scope} {own : List (Str × Nat)} {pos : Pos} {t : Tg} {mi : I} {me : E} {ms : List E}
/-- all that a block's parts must be, in the context of the block -/
structure Blk (X : Cx) (ca : Nat → Addr) (scope : Scope) (P : Cx → Prop) : Prop where
  at_ : ∀ (s : Shared) (H : Hp) (C : Addr) (cl : List (Str × Addr)) (fp : List Addr), P (X.blk s H scope (compEnvC scope cl C X.env) fp)
/-- a clause's tests -/
inductive STs (X : Cx) (ca : Nat → Addr) : List E → List Expr → Prop
  | nil : STs X ca [] []
  | one {m : E} {e : Expr} : ST X ca m e → STs X ca [m] [e]
theorem STs.pts {X : Cx} {ca : Nat → Addr} {ms : List E} {es : List Expr} (h : STs X ca ms es) (tk : Takes X W0) : PTs X es (tTs (fx X ca) ms) := by
  cases h with
  | nil => exact pts_nil
  | one h => exact pts_one (h.pt W0 tk)
theorem STs.len {X : Cx} {ca : Nat → Addr} {ms : List E} {es : List Expr} (h : STs X ca ms es) : ms.length ≤ 1 := by
  cases h with
  | nil => exact Nat.zero_le _
  | one h => exact Nat.le_refl _
theorem TE.imp_lc {X : Cx} {e : Expr} {t t' : TE} (h : PE X e t) (q : ∀ σ H Q, t' σ H Q → t σ H Q) : PE X e t' := PE.imp h q
theorem se_lc (hc : X.calm = true) (hN : X.N.Nodup) (hi : SI X ca mi tg iter) (ok : BlkOk X.N X.env.scope scope own) (hg : ∀ (s : Shared) (H : Hp) (C : Addr) (cl : List (Str × Addr)) (fp : List Addr), SG (X.blk s H scope (compEnvC scope cl C X.env) fp) ca t tg)
    (ht : ∀ (s : Shared) (H : Hp) (C : Addr) (cl : List (Str × Addr)) (fp : List Addr), STs (X.blk s H scope (compEnvC scope cl C X.env) fp) ca ms ifs) (he : ∀ (s : Shared) (H : Hp) (C : Addr) (cl : List (Str × Addr)) (fp : List Addr), SE (X.blk s H scope (compEnvC scope cl C X.env) fp) ca me elt)
    (hs : ∀ x, foldedSetIterable iter X.env x = pure x) (ho : ∀ j ∈ tgS t, j ∈ own.map (·.2)) : SE X ca (eLc m (own.map (·.2)) [⟨t, mi, ms⟩] me) (.ListComp elt [⟨tg, iter, ifs, 0⟩] scope pos) := ⟨fun Wx tk =>
  PE.imp (pe_lc hc hN (hi.pi Wx tk) ok (fun s H C cl fp => (hg s H C cl fp).pg) (fun s H C cl fp => (ht s H C cl fp).pts (takes0 _)) (fun s H C cl fp => (he s H C cl fp).pe W0 (takes0 _)) hs) fun σ H Q h =>
    lc_sound (F := fx X ca) (ht X.s_0 X.H_0 0 [] []).len ho h⟩
/-- name = [..] on one line -/
theorem ss_setLc {i : Nat} {y : Str} {py spos : Pos} (hc : X.calm = true) (hN : X.N.Nodup) (hy : X.N[i]? = some y) (hyl : X.env.scope.names.lookup y = some .local) (hsw : swapsWith (.ListComp elt [⟨tg, iter, ifs, 0⟩] scope pos) (some (.Name y py)) spos.line X.env = pure true)
    (hi : SI X ca mi tg iter) (ok : BlkOk X.N X.env.scope scope own) (hg : ∀ (s : Shared) (H : Hp) (C : Addr) (cl : List (Str × Addr)) (fp : List Addr), SG (X.blk s H scope (compEnvC scope cl C X.env) fp) ca t tg)
    (ht : ∀ (s : Shared) (H : Hp) (C : Addr) (cl : List (Str × Addr)) (fp : List Addr), STs (X.blk s H scope (compEnvC scope cl C X.env) fp) ca ms ifs) (he : ∀ (s : Shared) (H : Hp) (C : Addr) (cl : List (Str × Addr)) (fp : List Addr), SE (X.blk s H scope (compEnvC scope cl C X.env) fp) ca me elt)
    (hs : ∀ x, foldedSetIterable iter X.env x = pure x) (ho : ∀ j ∈ tgS t, j ∈ own.map (·.2)) : SS X ca (cAsg (.nm i) (eLc m (own.map (·.2)) [⟨t, mi, ms⟩] me)) (.Assign [.Name y py] (.ListComp elt [⟨tg, iter, ifs, 0⟩] scope pos) spos) := ⟨fun Wx tk =>
  PS.imp (L2.ps_setLc hc hN hy hyl hsw (hi.pi Wx tk) ok (fun s H C cl fp => (hg s H C cl fp).pg) (fun s H C cl fp => (ht s H C cl fp).pts (takes0 _)) (fun s H C cl fp => (he s H C cl fp).pe W0 (takes0 _)) hs) fun D σ H h => by
    refine lc_sound (F := fx X ca) (Wx := Wx) (m := m) (ht X.s_0 X.H_0 0 [] []).len ho (tM_imp (tS_cE h) fun v H1 ⟨g, en, bx, r, a, b, rr, p⟩ => ?_)
    replace p : PostC (fx X ca) g H1 Wx D (match (if i < en.length then some (en.set i (some r)) else none) with
      | some en' => .nx en' bx
      | none => .stuck) := p
    split at p
    · rename_i en' q
      split at q
      · cases q
        exact p g _ H1 (Ext.refl g H1) b (a.set rr)
      · cases q
    · exact p.elim⟩
end
end AM
/-! text AmG -/
set_option Elab.async false
set_option linter.all false
set_option maxRecDepth 100000
set_option maxHeartbeats 2000000
/-! AmG: the text's functions, the law's end; the rules by a context. -/
namespace AM
open PySem PySem.Spec PyProof.Rows L2

/-- what a body's proof knows of its context -/
structure Con (P : Program) (w : World) (K : PySem.W.Frag) (mg : Str → Option Value) (base : Heap) (k : Nat) (N : List Str) (sc : Scope) (fs : Str → Bool) (X : Cx) : Prop where
  prog : X.prog = P
  wd : X.w = w
  frag : X.K = K
  glo : X.mg = mg
  bs : X.base = base
  rm : Rm k X.A
  calm : X.calm = true
  names : X.N = N
  nd : N.Nodup
  sco : X.env.scope = sc
  fns : X.fn = fs
/-- the text's function f (of n parameters) stands by the name x -/
structure FunOk (P : Program) (w : World) (K : PySem.W.Frag) (mg : Str → Option Value) (base : Heap) (ca : Nat → Addr) (k : Nat) (F : List R → Bx → Res) (n : Nat) (x : Str) : Prop where
  st : ∀ rs bx, rs.length ≠ n → F rs bx = .stuck
  ex : ∃ (fa : Addr) (fd : FuncData) (ps : List Str), ps.length = n ∧ FnG P w K mg base k fa fd ps (spM ⟨P, w, K, ca⟩ n F) ∧ mg x = some (.ref fa) ∧ PySem.W.keepIn K (.ref fa) = true ∧ Binds K fd ps []
section
variable {P : Program} {w : World} {K : PySem.W.Frag} {mg : Str → Option Value} {base : Heap} {ca : Nat → Addr} {k n f : Nat} {F : Fn} {x : Str} {N ps : List Str} {sc : Scope} {X : Cx}
theorem FunOk.call {fs : Str → Bool} (h : FunOk P w K mg base ca k (F f) n x) (c : Con P w K mg base k N sc fs X) : CallF X ca k F f n x := by
  obtain ⟨fa, fd, ps, h1, h2, h3, h4, h5⟩ := h.ex
  obtain ⟨c1, c2, c3, c4, c5, _⟩ := c
  subst c1
  subst c2
  subst c3
  subst c4
  subst c5
  exact ⟨h.st, fa, fd, ps, h1, h2, h3, h4, h5⟩
theorem runF_st {m : Nat} {c : C} : ∀ rs bx, rs.length ≠ n → runF n m c rs bx = .stuck := fun rs bx h => by
  unfold runF
  rw [if_neg h]
theorem start_ok {Fx' : Fx} {g : Gd} {H : Hp} {rs : List R} {vs : List V} (h : RRs Fx' g H rs vs) (N : List Str) : EnOk Fx' g (rs.map some ++ List.replicate (N.length - rs.length) none) (L2.start N vs) H := by
  have hl := h.length
  unfold L2.start
  refine ⟨by simp [hl], fun i r e => ?_⟩
  by_cases hi : i < rs.length
  · rw [List.getElem?_append_left (by simpa using hi), List.getElem?_map] at e
    rw [List.getElem?_append_left (by simpa [← hl] using hi), List.getElem?_map]
    cases q : rs[i]? with
    | none => rw [q] at e; cases e
    | some r' =>
      rw [q] at e
      cases e
      obtain ⟨v, h1, h2⟩ := h.get q
      exact ⟨v, by rw [h1]; rfl, h2⟩
  · rw [List.getElem?_append_right (by simpa using hi), List.getElem?_replicate] at e
    split at e <;> cases e
/-- a def, by its body -/
theorem def_ok {args : Arguments} {body : List Stmt} {fa : Addr} {fd : FuncData} {c : C} {m : Nat} (D : FunD K x x args body sc [] [] fa fd) (hm : mg x = some (.ref fa)) (S : FnScope N ps sc) (hN : N.length = m) (hps : ps.length = n) (hF : F f = runF n m c)
    (hbind : ∀ (kV doc pm : Value) (an : Option Addr) (cdv ct : Value) (us : List Value), us.length = ps.length → bindArgs (PySem.W.fnOf x x args body sc .none kV doc pm an cdv ct) ⟨us, []⟩ = pure (ps.zip us))
    (hb : ∀ X, Con P w K mg base k N sc (fun _ => true) X → PassesOwn (model X.prog X.w) X.A X.env X.xe → SSs X ca c body) : FunOk P w K mg base ca (k + 1) (F f) n x := by
  rw [hF]
  refine ⟨runF_st, fa, fd, ps, hps, ?_, hm, D.kp, D.bindsN hbind⟩
  obtain ⟨oc, od, dV, kV, doc, pm, an, cdv, ct, osl, rfl, lk, hcd, _, _⟩ := D.ex
  refine fng_of lk hcd S (fun vs H Q E h => h.1.trans hps.symm) fun A outer s H vs Q E hr hM hsp => ?_
  have con : Con P w K mg base k N sc (fun _ => true) (cxOf (L2.CX P w) P w K mg base N x sc fa cdv A outer s H E) := ⟨rfl, rfl, rfl, rfl, rfl, hr, rfl, rfl, S.nd, rfl, rfl⟩
  have tk : Takes (cxOf (L2.CX P w) P w K mg base N x sc fa cdv A outer s H E) fun cls d _ H => E cls d H := takes_of rfl rfl rfl rfl
  refine ⟨_, (hb _ con (passes_of rfl)).ps _ tk, ?_⟩
  obtain ⟨hl, g, bx, rs, b, rr, p⟩ := hsp
  refine ⟨g, _, bx, start_ok rr N, b, ?_⟩
  have hl2 : rs.length = n := rr.length.trans hl
  unfold runF at p
  rw [if_pos hl2, ← hN] at p
  unfold run at p
  cases e : c (rs.map some ++ List.replicate (N.length - rs.length) none) bx with
  | nx en' bx' =>
    rw [e] at p
    exact fun g' σ' H' x' b' _ => p g' H' .non x' b' (.v .non)
  | rt r bx' => rw [e] at p; exact p
  | ct en' bx' => rw [e] at p; exact p.elim
  | exc w en' bx' =>
    rw [e] at p
    exact fun g' σ' H' cls d x' b' _ => p g' H' cls d x' b'
  | stuck => rw [e] at p; exact p.elim
/-- nothing runs at depth 0 -/
theorem fun0 {F : List R → Bx → Res} {fa : Addr} {fd : FuncData} {args : Arguments} {body : List Stmt} (h0 : ∀ rs bx, F rs bx = .stuck) (D : FunD K x x args body sc [] [] fa fd) (hm : mg x = some (.ref fa)) (hps : ps.length = n)
    (hbind : ∀ (kV doc pm : Value) (an : Option Addr) (cdv ct : Value) (us : List Value), us.length = ps.length → bindArgs (PySem.W.fnOf x x args body sc .none kV doc pm an cdv ct) ⟨us, []⟩ = pure (ps.zip us)) : FunOk P w K mg base ca 0 F n x := by
  refine ⟨fun rs bx _ => h0 rs bx, fa, fd, ps, hps, ⟨fun vs H Q E h => h.1.trans hps.symm, fun A outer s H args us vs Q E _ _ _ _ h => ?_⟩, hm, D.kp, D.bindsN hbind⟩
  obtain ⟨_, g, bx, rs, _, _, p⟩ := h
  rw [h0] at p
  exact p.elim
end

/-! ### the law's end -/
theorem rms : Rm 45 callerA := ⟨⟨rfl, by decide, by decide⟩, rfl⟩
/-- the script in the machine -/
def scrR (ns : List Int) : R := .v (.scr (ns.map W.int))
theorem RWs.intsL {Fx' : Fx} {Z : Addr → Prop} {H : Hp} : ∀ ns : List Int, RWs Fx' Z H (ns.map W.int) (ns.map V.int)
  | [] => .nil
  | n :: ns => .cons (.int n) (RWs.intsL ns)
theorem law_end {P : Program} {w : World} {K : PySem.W.Frag} {mg mb : Str → Option Value} {ca : Nat → Addr} {k : Nat} {fa a : Addr} {x : Str} {Fm : List R → Bx → Res} {s₁ : Shared} {vs : List Value} {ns : List Int}
    (KX : K.In s₁.heap) (hns : s₁.heap.Ns mainGlobals mg) (hb : s₁.heap.Ns builtinsNs mb) (hbb : ∀ x : Str, x ≠ "__name__" → mb x = bootBuiltins x) (hlim : s₁.heap.NoLimit) (hg : s₁.gens = #[])
    (ha : s₁.heap.get? a = some { cls := .type "list", data := .seq vs.toArray }) (hi : IntsAre vs ns) (hl : ns.length ≤ sizeLine) (hk : k ≤ 45)
    (F : ∀ base : Heap, K.In base → base.Ns mainGlobals mg → FunOk P w K mg base ca k Fm 1 x) (hmg : mg x = some (.ref fa))
    (hF : ∃ bx, Fm [scrR ns] [] = .ok (.v (.bl true)) bx) :
    codeAny (model P w) callerA (.call (.ref fa) ⟨[.ref a], []⟩) (fun r s' => r = .ok (.ret (.bool true)) ∧ OldK s₁.heap s'.heap ∧ s'.os = s₁.os ∧ AllBare s'.gens) s₁ := by
  have rv := vals_ints hi
  -- from an abstract heap in which nothing but the script may be tracked
  have core : ∀ (H : Hp) (Z : Addr → Prop), (∀ b, H b ≠ none → b = a) → (H a ≠ none → K.lookup a = none) → (∀ b, Z b → (H b).isSome) → HOk P w H s₁.heap → (∀ o u, H a = some u → s₁.heap.get? a = some o → ∃ xs, u = .frz o (.lst xs)) →
      (Z a ∧ Rd H a (.lst (ns.map V.int))) ∨ KL K a (ns.map V.int) →
      codeAny (model P w) callerA (.call (.ref fa) ⟨[.ref a], []⟩) (fun r s' => r = .ok (.ret (.bool true)) ∧ OldK s₁.heap s'.heap ∧ s'.os = s₁.os ∧ AllBare s'.gens) s₁ := by
    intro H Z Hs hKa zs hok hfz hS
    have base_of : ∀ {b : Addr} {o : Obj}, s₁.heap.get? b = some o → H b = none → (hidT s₁.heap H).get? b = some o := fun e n => hidT_get e n
    have none_of : ∀ {b : Addr}, b ≠ a → H b = none := fun {b} h => Classical.byContradiction fun z => h (Hs b z)
    have noA : ∀ {b : Addr} {ob : Obj} {es : Array DictEntry} {ep : Nat}, s₁.heap.get? b = some ob → ob.data = .dict es ep → H b = none := fun {b ob es ep} e d => by
      refine none_of fun z => ?_
      subst z
      rw [ha] at e
      cases e
      cases (show Data.seq vs.toArray _ = Data.dict es ep from d)
    have nsK : ∀ {b : Addr} {m : Str → Option Value}, s₁.heap.Ns b m → (hidT s₁.heap H).Ns b m := fun {b m} ⟨ob, es, ep, e, d, r⟩ => ⟨ob, es, ep, base_of e (noA e d), d, r⟩
    have hKb : K.In (hidT s₁.heap H) := fun b ob e => base_of (KX b ob e) (by
      by_cases z : b = a
      · subst z
        exact Classical.byContradiction fun z => by rw [hKa z] at e; cases e
      · exact none_of z)
    have hM : Mod K mg (hidT s₁.heap H) := ⟨hKb, nsK hns, ⟨mb, nsK hb, hbb⟩, let ⟨mc, h1, h2⟩ := hlim; ⟨mc, nsK h1, h2⟩⟩
    have e0 : Env0 P w K mg (hidT s₁.heap H) callerA [] s₁ H := ⟨rfl, hM, fun b ob e => of_hidT e, Nat.le_of_eq (hidT_size _ _), trivial, fun b hb => absurd (show b ∈ ([] : List Addr) from hb) (by simp), hok, .of_eq hg⟩
    have hsp : spM ⟨P, w, K, ca⟩ 1 Fm [.ref a] H (fun v _ => v = .bl true) fun _ _ _ => False := by
      refine ⟨rfl, ⟨[], Z⟩, [], [scrR ns], ⟨rfl, List.nodup_nil, fun n b bb e => by simp at e, fun b m => by simp at m, zs⟩, .cons (.v (.scr hS (by rw [List.length_map]; exact hl) (RWs.intsL ns))) .nil, ?_⟩
      obtain ⟨bx, e⟩ := hF
      rw [e]
      intro g' H' v _ _ r
      cases r with | v r => cases r; rfl
    obtain ⟨fa2, fd, ps, hps, F1, hm2, _, hbd⟩ := (F _ hKb (nsK hns)).ex
    obtain rfl : fa = fa2 := by
      rw [hmg] at hm2
      cases hm2
      rfl
    refine codeAny_mono (F1.run callerA [] s₁ H ⟨[.ref a], []⟩ [.ref a] [.ref a] _ _ (rms.mono hk) e0 (hbd s₁ [.ref a] KX (by rw [hps]; rfl)) (.cons rfl .nil) hsp) fun r s' h => ?_
    rcases r with e | (_ | _ | _ | u)
    · obtain ⟨_, _, _, _, _, _, _, _, _, _, _, _, f⟩ := h
      exact f.elim
    · exact h.elim
    · exact h.elim
    · exact h.elim
    · obtain ⟨v, H', os, bare, un, hok', r', q⟩ := h
      have q' : v = .bl true := q
      subst q'
      obtain rfl : u = Value.bool true := r'
      refine ⟨rfl, OldK.of_keep fun b ob e => ?_, os, bare⟩
      cases z : H b with
      | none => exact un.keep b ob e z (fun m => absurd (show b ∈ ([] : List Addr) from m) (by simp)) (by simp)
      | some u =>
        have zb := Hs b (by rw [z]; simp)
        subst zb
        obtain ⟨xs, rfl⟩ := hfz ob u z e
        have z2 := un.frzs b ob _ z
        exact (hok' b _ z2).1
  cases hk : K.lookup a with
  | some o =>
    have e := KX a o hk
    rw [ha] at e
    cases e
    exact core (fun _ => none) (fun _ => False) (fun b z => absurd rfl z) (fun z => absurd rfl z) (fun _ z => z.elim) (fun b u z => nomatch z) (fun o u z => nomatch z)
      (.inr (.inr ⟨_, vs.toArray, _, hk, rfl, rfl, rfl, by rw [List.size_toArray, hi.length]; exact hl, by simpa using rv⟩))
  | none =>
    obtain ⟨o, ho⟩ : ∃ o : Obj, o = { cls := .type "list", data := .seq vs.toArray } := ⟨_, rfl⟩
    have Ha : upd (fun _ => none) a (.frz o (.lst (ns.map V.int))) a = some (.frz o (.lst (ns.map V.int))) := upd_same
    refine core (upd (fun _ => none) a (.frz o (.lst (ns.map V.int)))) (fun b => b = a) (fun b z => Classical.byContradiction fun q => z (upd_ne q)) (fun _ => hk) (fun b z => by rw [show b = a from z, Ha]; rfl) (fun b u z => ?_) (fun ob u z e => ?_) (.inl ⟨rfl, .inr ⟨o, Ha⟩⟩)
    · by_cases q : b = a
      · subst q
        rw [Ha] at z
        cases z
        refine ⟨by rw [ho]; exact ha, by rw [List.length_map]; exact hl, vs, 0, rv, ?_⟩
        rw [ha]
      · rw [upd_ne q] at z
        cases z
    · rw [Ha] at z
      cases z
      rw [ha, ← ho] at e
      cases e
      exact ⟨_, rfl⟩
end AM
/-! text AmW -/
set_option Elab.async false
set_option linter.all false
set_option maxRecDepth 100000
set_option maxHeartbeats 2000000
/-! AmW: the rules by a context, for printed proofs. -/
namespace AM
open PySem PySem.Spec PyProof.Rows L2

def nmB (x : Str) : Bool := !(x == ("__debug__" : Str)) && !(x == ("__classdict__" : Str)) && !(x == ("__name__" : Str))
def visB (sc : Scope) (x : Str) : Bool := match sc.names.lookup x with
  | some .local => true
  | some .cell => true
  | some .free => true
  | _ => false
def glB (sc : Scope) (x : Str) : Bool := decide (sc.names.lookup x = some .globalImplicit) && nmB x
def varB (N : List Str) (sc : Scope) (i : Nat) (x : Str) : Bool := decide (N[i]? = some x) && visB sc x && nmB x
/-- a name that is stored: fs says for which names a cell was made here -/
def locB (N : List Str) (sc : Scope) (fs : Str → Bool) (i : Nat) (x : Str) : Bool := decide (N[i]? = some x) && (match sc.names.lookup x with
  | some .local => true
  | some .cell => fs x
  | _ => false)
theorem nmB_ok {x : Str} (h : nmB x = true) : (x == ("__debug__" : Str)) = false ∧ (x == ("__classdict__" : Str)) = false ∧ x ≠ "__name__" := by
  simp only [nmB, Bool.and_eq_true, Bool.not_eq_true'] at h
  exact ⟨h.1.1, h.1.2, fun e => by rw [e] at h; simp at h⟩
section
variable {P : Program} {w : World} {K : PySem.W.Frag} {mg : Str → Option Value} {base : Heap} {ca : Nat → Addr} {k : Nat} {N : List Str} {sc : Scope} {fs : Str → Bool} {X : Cx} {x : Str} {pos p p2 : Pos} {T : Tab}
theorem Con.u66 (c : Con P w K mg base k N sc fs X) : X.A.units + 66 < cLine := by have := c.rm.r.un; omega
theorem Con.u64 (c : Con P w K mg base k N sc fs X) : X.A.units + 64 < cLine := by have := c.rm.r.un; omega
theorem Con.u10 (c : Con P w K mg base k N sc fs X) : X.A.units + 10 < cLine := by have := c.rm.r.un; omega
theorem Con.gl (c : Con P w K mg base k N sc fs X) (h : glB sc x = true) : Gl X x := by
  simp only [glB, Bool.and_eq_true, decide_eq_true_eq] at h
  show X.env.scope.names.lookup x = _
  rw [c.sco]
  exact h.1
theorem Con.ndX (c : Con P w K mg base k N sc fs X) : X.N.Nodup := by rw [c.names]; exact c.nd
theorem Con.loc {i : Nat} (c : Con P w K mg base k N sc fs X) (h : locB N sc fs i x = true) : X.N[i]? = some x ∧ Loc X.env.scope x ∧ (X.fn x = true ∨ X.env.scope.names.lookup x = some .local) := by
  simp only [locB, Bool.and_eq_true, decide_eq_true_eq] at h
  rw [c.names, c.sco, c.fns]
  refine ⟨h.1, ?_⟩
  have h2 := h.2
  split at h2
  · rename_i e
    exact ⟨.inl e, .inr e⟩
  · rename_i e
    exact ⟨.inr e, .inl h2⟩
  · cases h2
/-- the context of a try's body -/
theorem Con.tr (c : Con P w K mg base k N sc fs X) (pn : List (Addr × Obj)) (xe : Value → Shared → Prop) : Con P w K mg base k N sc fs (X.tr pn xe) :=
  ⟨c.prog, c.wd, c.frag, c.glo, c.bs, c.rm, c.calm, c.names, c.nd, c.sco, c.fns⟩
/-- the context of a comprehension's block -/
theorem Con.blk (c : Con P w K mg base k N sc fs X) (scope : Scope) (s : Shared) (H : Hp) (C : Addr) (cl : List (Str × Addr)) (fp : List Addr) :
    Con P w K mg base k N (relS scope sc) (fun x => scope.names.lookup x == some .cell) (X.blk s H scope (compEnvC scope cl C X.env) fp) :=
  ⟨c.prog, c.wd, c.frag, c.glo, c.bs, c.rm, c.calm, c.names, c.nd, by show relS scope X.env.scope = _; rw [c.sco], rfl⟩
theorem v_var {i : Nat} (c : Con P w K mg base k N sc fs X) (h : varB N sc i x = true) : SE X ca (eVar i) (.Name x pos) := by
  simp only [varB, Bool.and_eq_true, decide_eq_true_eq] at h
  obtain ⟨n1, n2, _⟩ := nmB_ok h.2
  refine se_var (by rw [c.names]; exact h.1.1) ?_ n1 n2
  rw [c.sco]
  have h2 := h.1.2
  unfold visB at h2
  split at h2
  · exact .inl (by assumption)
  · exact .inr (.inl (by assumption))
  · exact .inr (.inr (by assumption))
  · cases h2
variable {e a b d : Expr} {es rest : List Expr} {as ms : List (Bool × E)} {m ma mb md : E} {ml : List E}
theorem v_cons (he : SE X ca m e) (hr : SA X ca as es) (hs : starEach (e :: es) X.env = (false, eval e X.env) :: starEach es X.env := by rfl) : SA X ca ((false, m) :: as) (e :: es) := sa_cons hs he hr
theorem v_star (he : SE X ca m e) (hr : SA X ca as es) (hs : starEach (.Starred e p :: es) X.env = (true, eval e X.env) :: starEach es X.env := by rfl) : SA X ca ((true, m) :: as) (.Starred e p :: es) := sa_star hs he hr
theorem v_cmp (c : Con P w K mg base k N sc fs X) {o : Cop} {op : CmpOp} (h1 : copOf op = some o) (ha : SE X ca ma a) (hb : SE X ca mb b) (hm : behindInMarks op b = false) : SE X ca (eOp [ma, mb] (opCmp o)) (.Compare a [op] [b] pos) := se_cmp c.u66 h1 ha hb hm
theorem v_tcmp (c : Con P w K mg base k N sc fs X) {o : Cop} {op : CmpOp} (h1 : copOf op = some o) (ha : SE X ca ma a) (hb : SE X ca mb b) (hm : behindInMarks op b = false) : ST X ca (eOp [ma, mb] (opCmp o)) (.Compare a [op] [b] pos) := st_cmp c.u66 h1 ha hb hm
theorem v_chain (c : Con P w K mg base k N sc fs X) {o1 o2 : Cop} {op op' : CmpOp} (e1 : copOf op = some o1) (e2 : copOf op' = some o2) (ha : SE X ca ma a) (hb : SE X ca mb b) (hc : SE X ca md d) (hm : lastMarks [op, op'] [b, d] = false := by with_unfolding_all rfl) : SE X ca (eChain o1 o2 ma mb md) (.Compare a [op, op'] [b, d] pos) := se_chain c.u66 e1 e2 ha hb hc hm
theorem v_tchain (c : Con P w K mg base k N sc fs X) {o1 o2 : Cop} {op op' : CmpOp} (e1 : copOf op = some o1) (e2 : copOf op' = some o2) (ha : SE X ca ma a) (hb : SE X ca mb b) (hc : SE X ca md d) (hm : lastMarks [op, op'] [b, d] = false := by with_unfolding_all rfl) : ST X ca (eChain o1 o2 ma mb md) (.Compare a [op, op'] [b, d] pos) := st_chain c.u66 e1 e2 ha hb hc hm
theorem v_val (h : SE X ca m e) (he : ∀ whole, isTrue e X.env whole = (do let v ← whole; standAt e.pos; holding [v] (truthy v)) := by intro _; rfl) : ST X ca m e := st_val h he
theorem v_idx (c : Con P w K mg base k N sc fs X) (ha : SE X ca ma a) (hb : SE X ca mb b) (hs : PlainIx b := by intro _ _; rfl) : SE X ca (eOp [ma, mb] opIdx) (.Subscript a b pos) := se_idx c.u10 ha hb hs
/-- a function of the text -/
theorem v_call {F : Fn} {f n : Nat} {keep : Bool} (c : Con P w K mg base k N sc fs X) (h : FunOk P w K mg base ca k (F f) n x) (g : glB sc x = true) (ha : SA X ca as (e :: es)) (hs : starEach (e :: es) X.env = (false, eval e X.env) :: starEach es X.env := by rfl) (hpl : (backTo pos (starEach es X.env)).any (·.1) = false := by rfl) :
    SE X ca (eArgs as fun xs _ bx => opCall F f keep xs bx) (.Call (.Name x p) (e :: es) [] pos) := by
  have g2 := g
  simp only [glB, Bool.and_eq_true] at g2
  exact se_call (h.call c) c.rm (c.gl g) (nmB_ok g2.2).1 hs hpl ha
/-- built-in functions -/
theorem v_fn {f : Op} {id : String} (c : Con P w K mg base k N sc fs X) (n : NoX f) (hc : CallR X (.builtin id) fun vs H Q => tO (fx X ca) f vs H Q) (g : glB sc x = true) (hm : mg x = none) (hv : bootBuiltins x = some (.builtin id)) (ha : SA X ca as (e :: es))
    (hs : starEach (e :: es) X.env = (false, eval e X.env) :: starEach es X.env := by rfl) (hpl : (backTo pos (starEach es X.env)).any (·.1) = false := by rfl) : SE X ca (eArgs as fun xs _ bx => f xs bx) (.Call (.Name x p) (e :: es) [] pos) := by
  have g2 := g
  simp only [glB, Bool.and_eq_true] at g2
  obtain ⟨n1, _, n3⟩ := nmB_ok g2.2
  exact se_fn n hc (c.gl g) (by rw [c.glo]; exact hm) hv n3 n1 hs hpl ha
theorem v_ty {f : Op} {id : String} (c : Con P w K mg base k N sc fs X) (n : NoX f) (hc : CallR X (.type id) fun vs H Q => tO (fx X ca) f vs H Q) (g : glB sc x = true) (hm : mg x = none) (hv : bootBuiltins x = some (.type id)) (ha : SA X ca as (e :: es))
    (hs : starEach (e :: es) X.env = (false, eval e X.env) :: starEach es X.env := by rfl) (hpl : (backTo pos (starEach es X.env)).any (·.1) = false := by rfl) : SE X ca (eArgs as fun xs _ bx => f xs bx) (.Call (.Name x p) (e :: es) [] pos) := by
  have g2 := g
  simp only [glB, Bool.and_eq_true] at g2
  obtain ⟨n1, _, n3⟩ := nmB_ok g2.2
  exact se_ty n hc (c.gl g) (by rw [c.glo]; exact hm) hv n3 n1 hs hpl ha
/-- what stands by a global name -/
theorem v_glob {v : V} {u : Value} {wv : W} (c : Con P w K mg base k N sc fs X) (g : glB sc x = true) (hm : mg x = some u) (r : RelV v u) (hw : ∀ Z H, RW ⟨P, w, K, ca⟩ Z H wv v) : SE X ca (eC wv) (.Name x pos) := by
  have g2 := g
  simp only [glB, Bool.and_eq_true] at g2
  refine se_const (pe_glob (c.gl g) (by rw [c.glo]; exact hm) r (nmB_ok g2.2).1) fun Z H => ?_
  have := hw Z H
  obtain ⟨c1, c2, c3, _⟩ := c
  subst c1
  subst c2
  subst c3
  exact this
/-- isinstance -/
theorem v_isTy (c : Con P w K mg base k N sc fs X) (TO : TabOk K ca T) (t : Ty) (g1 : glB sc "isinstance" = true) (m1 : mg "isinstance" = none) (g : glB sc x = true) (hm : mg x = none) (hv : bootBuiltins x = some (.type (tyN t))) (he : SE X ca m e)
    (hs : starEach [e, .Name x p2] X.env = (false, eval e X.env) :: starEach [.Name x p2] X.env := by rfl) : SE X ca (eOp [m] (opIsTy T t)) (.Call (.Name "isinstance" p) [e, .Name x p2] [] pos) := by
  have g2 := g
  simp only [glB, Bool.and_eq_true] at g2
  obtain ⟨n1, _, n3⟩ := nmB_ok g2.2
  refine se_isi (noX_isTy t) (.ty (tyN t)) _ (.ty _) (pe_bltn (c.gl g) (by rw [c.glo]; exact hm) hv rfl n3 n1) (c.gl g1) (by rw [c.glo]; exact m1) hs rfl rfl (isi_ty (by rw [c.frag]; exact TO) t) he
theorem v_isVE (c : Con P w K mg base k N sc fs X) (TO : TabOk K ca T) (g1 : glB sc "isinstance" = true) (m1 : mg "isinstance" = none) (g : glB sc "ValueError" = true) (hm : mg "ValueError" = none) (hv : bootBuiltins "ValueError" = some (.type "ValueError")) (he : SE X ca m e)
    (hs : starEach [e, .Name "ValueError" p2] X.env = (false, eval e X.env) :: starEach [.Name "ValueError" p2] X.env := by rfl) : SE X ca (eOp [m] (opIsVE T)) (.Call (.Name "isinstance" p) [e, .Name "ValueError" p2] [] pos) := by
  refine se_isi noX_isVE (.ty "ValueError") _ (.ty _) (pe_bltn (c.gl g) (by rw [c.glo]; exact hm) hv rfl (by decide) (by decide)) (c.gl g1) (by rw [c.glo]; exact m1) hs rfl rfl (isi_ve (by rw [c.frag]; exact TO)) he
theorem v_isC (c : Con P w K mg base k N sc fs X) (TO : TabOk K ca T) (n : Nat) (g1 : glB sc "isinstance" = true) (m1 : mg "isinstance" = none) (g : glB sc x = true) (hm : mg x = some (.ref (ca n))) (he : SE X ca m e)
    (hs : starEach [e, .Name x p2] X.env = (false, eval e X.env) :: starEach [.Name x p2] X.env := by rfl) : SE X ca (eOp [m] (opIsC T n)) (.Call (.Name "isinstance" p) [e, .Name x p2] [] pos) := by
  have g2 := g
  simp only [glB, Bool.and_eq_true] at g2
  refine se_isi (noX_isC n) (.ref (ca n)) _ (.own _) (pe_glob (c.gl g) (by rw [c.glo]; exact hm) rfl (nmB_ok g2.2).1) (c.gl g1) (by rw [c.glo]; exact m1) hs rfl rfl (isi_c (by rw [c.frag]; exact TO) n) he
/-! statements -/
variable {cc : C} {st : List Stmt} {i : Nat} {tg it : Expr} {t : Tg} {mi : I}
theorem v_set {pos' : Pos} (c : Con P w K mg base k N sc fs X) (h : locB N sc fs i x = true) (he : SE X ca m e) (hs : swapsWith e (some (.Name x pos')) pos.line X.env = pure false := by rfl) : SS X ca (cAsg (.nm i) m) (.Assign [.Name x pos'] e pos) := by
  obtain ⟨h1, h2, h3⟩ := c.loc h
  exact ss_set c.ndX h1 h2 h3 he hs
theorem v_name (c : Con P w K mg base k N sc fs X) (h : locB N sc fs i x = true) : SG X ca (.nm i) (.Name x pos) := by
  obtain ⟨h1, h2, h3⟩ := c.loc h
  exact sg_name c.ndX h1 h2 h3
theorem v_gcons {t : Tg} {ts : List Tg} (h1 : SG X ca t e) (h2 : SGs X ca ts es) (hs : (assignEach (e :: es) X.env).map (·.2) = assign e X.env :: (assignEach es X.env).map (·.2) := by rfl) : SGs X ca (t :: ts) (e :: es) := sgs_cons hs h1 h2
theorem v_gtup {ts : List Tg} {n : Nat} (c : Con P w K mg base k N sc fs X) (h : SGs X ca ts es) (hn : (assignEach es X.env).length = ts.length := by rfl) (hst : (assignEach es X.env).findIdx? (·.1) = none := by rfl) : SG X ca (.tp ts) (.Tuple es n pos) := sg_tup c.calm h hn hst
theorem v_asg {e1 e2 : Expr} (he : SE X ca m e2) (hg : SG X ca t e1) (hs : swapsWithSole [e1] e2 pos.line X.env = pure false := by rfl) (hw : swappedStores [e1] e2 X.env = pure none := by rfl) (h1 : (assignEach [e1] X.env).map (·.2) = [assign e1 X.env] := by rfl) : SS X ca (cAsg t m) (.Assign [e1] e2 pos) := ss_asg he hg hs hw h1
theorem v_exp (he : SE X ca m e) (hs : swapsWith e none pos.line X.env = pure false := by rfl) : SS X ca (cExp m) (.Expr e pos) := ss_exp he hs
theorem v_for (c : Con P w K mg base k N sc fs X) (hp : PassesOwn (model X.prog X.w) X.A X.env X.xe) (hi : SI X ca mi tg it) (hg : SG X ca t tg) (hb : SSs X ca cc st) (hs : ∀ x, foldedSetIterable it X.env x = pure x := by intro _; rfl) : SS X ca (cFor t mi cc) (.For tg it st [] pos) := ss_for hp c.calm hi hg hb hs
theorem v_range1 {a0 : Expr} (c : Con P w K mg base k N sc fs X) (g : glB sc "range" = true) (hm : mg "range" = none) (he : SE X ca m a0) (hs : starEach [a0] X.env = [(false, eval a0 X.env)] := by rfl) : SI X ca (iRange1 m) tg (.Call (.Name "range" p) [a0] [] pos) := si_range1 (c.gl g) (by rw [c.glo]; exact hm) hs he
theorem v_range2 {a0 a1 : Expr} {m0 m1 : E} (c : Con P w K mg base k N sc fs X) (g : glB sc "range" = true) (hm : mg "range" = none) (h0 : SE X ca m0 a0) (h1 : SE X ca m1 a1) (hs : starEach [a0, a1] X.env = [(false, eval a0 X.env), (false, eval a1 X.env)] := by rfl) (hs2 : starEach [a1] X.env = [(false, eval a1 X.env)] := by rfl) : SI X ca (iRange2 m0 m1) tg (.Call (.Name "range" p) [a0, a1] [] pos) := si_range2 (c.gl g) (by rw [c.glo]; exact hm) hs hs2 h0 h1
/-- [e for t in it if ..] -/
theorem v_lc {bm : Bool} {elt iter : Expr} {ifs : List Expr} {scope : Scope} {own : List (Str × Nat)} {ts : List E} {me : E} (c : Con P w K mg base k N sc fs X) (hi : SI X ca mi tg iter) (ok : blkC N sc scope own = true)
    (hg : ∀ X', Con P w K mg base k N (relS scope sc) (fun x => scope.names.lookup x == some .cell) X' → SG X' ca t tg) (ht : ∀ X', Con P w K mg base k N (relS scope sc) (fun x => scope.names.lookup x == some .cell) X' → STs X' ca ts ifs)
    (he : ∀ X', Con P w K mg base k N (relS scope sc) (fun x => scope.names.lookup x == some .cell) X' → SE X' ca me elt) (ho : (tgS t).all (fun j => decide (j ∈ own.map (·.2))) = true) (hs : ∀ x, foldedSetIterable iter X.env x = pure x := by intro _; rfl) :
    SE X ca (eLc bm (own.map (·.2)) [⟨t, mi, ts⟩] me) (.ListComp elt [⟨tg, iter, ifs, 0⟩] scope pos) :=
  se_lc c.calm c.ndX hi (blkOk_by (by rw [c.names, c.sco]; exact ok)) (fun s H C cl fp => hg _ (c.blk scope s H C cl fp)) (fun s H C cl fp => ht _ (c.blk scope s H C cl fp)) (fun s H C cl fp => he _ (c.blk scope s H C cl fp)) hs (by simpa using ho)
theorem v_setLc {bm : Bool} {elt iter : Expr} {ifs : List Expr} {scope : Scope} {own : List (Str × Nat)} {ts : List E} {me : E} {y : Str} {py spos : Pos} (c : Con P w K mg base k N sc fs X) (hy : locB N sc (fun _ => false) i y = true) (hsw : swapsWith (.ListComp elt [⟨tg, iter, ifs, 0⟩] scope pos) (some (.Name y py)) spos.line X.env = pure true)
    (hi : SI X ca mi tg iter) (ok : blkC N sc scope own = true)
    (hg : ∀ X', Con P w K mg base k N (relS scope sc) (fun x => scope.names.lookup x == some .cell) X' → SG X' ca t tg) (ht : ∀ X', Con P w K mg base k N (relS scope sc) (fun x => scope.names.lookup x == some .cell) X' → STs X' ca ts ifs)
    (he : ∀ X', Con P w K mg base k N (relS scope sc) (fun x => scope.names.lookup x == some .cell) X' → SE X' ca me elt) (ho : (tgS t).all (fun j => decide (j ∈ own.map (·.2))) = true) (hs : ∀ x, foldedSetIterable iter X.env x = pure x := by intro _; rfl) :
    SS X ca (cAsg (.nm i) (eLc bm (own.map (·.2)) [⟨t, mi, ts⟩] me)) (.Assign [.Name y py] (.ListComp elt [⟨tg, iter, ifs, 0⟩] scope pos) spos) := by
  have hl : X.N[i]? = some y ∧ X.env.scope.names.lookup y = some .local := by
    rw [c.names, c.sco]
    simp only [locB, Bool.and_eq_true, decide_eq_true_eq] at hy
    refine ⟨hy.1, ?_⟩
    have h2 := hy.2
    split at h2
    · assumption
    · cases h2
    · cases h2
  exact ss_setLc c.calm c.ndX hl.1 hl.2 hsw hi (blkOk_by (by rw [c.names, c.sco]; exact ok)) (fun s H C cl fp => hg _ (c.blk scope s H C cl fp)) (fun s H C cl fp => ht _ (c.blk scope s H C cl fp)) (fun s H C cl fp => he _ (c.blk scope s H C cl fp)) hs (by simpa using ho)
end
end AM
/-! text AmM -/
set_option Elab.async false
set_option linter.all false
set_option maxRecDepth 100000
set_option maxHeartbeats 2000000
/-! AmM: what changes boxes: o[i] = e, methods. -/
namespace AM
open PySem PySem.Spec PyProof.Rows L2

/-- a statement with answers at hand -/
def tSL (F : Fx) (Wx : WX) (k : List R → C) (vs : List V) : TS := fun D σ H => ∃ g en bx rs, EnOk F g en σ H ∧ BxOk F g bx H ∧ RRs F g H rs vs ∧ PostC F g H Wx D (k rs en bx)
section
variable {F : Fx} {Wx : WX} {D : Ends} {σ : L2.St} {H : Hp}
theorem tSL_of {c : C} (h : tS F Wx c D σ H) : tSL F Wx (fun _ => c) [] D σ H := by
  obtain ⟨g, en, bx, a, b, p⟩ := h
  exact ⟨g, en, bx, [], a, b, .nil, p⟩
theorem tSL_bind {m : E} {k0 k : List R → C} {vs : List V} (hk : ∀ rs : List R, rs.length = vs.length → k0 rs = cE m fun r => k (rs ++ [r])) (h : tSL F Wx k0 vs D σ H) : tM F Wx m σ H fun v H1 => tSL F Wx k (vs ++ [v]) D σ H1 := by
  obtain ⟨g, en, bx, rs, a, b, c, p⟩ := h
  rw [hk rs c.length] at p
  refine ⟨g, en, bx, a, b, ?_⟩
  replace p : PostC F g H Wx D (match m en bx with
    | .ok r bx' => k (rs ++ [r]) en bx'
    | .exc w bx' => .exc w en bx'
    | .stuck => .stuck) := p
  cases e : m en bx with
  | ok r bx' =>
    rw [e] at p
    exact fun g' H' v e' b' q => ⟨g', en, bx', rs ++ [r], a.mono e', b', (c.mono e').append (.cons q .nil), PostC.ext e' p⟩
  | exc w bx' =>
    rw [e] at p
    exact fun g' H' cls d e' b' x => p g' σ H' cls d e' b' (a.mono e') x
  | stuck =>
    rw [e] at p
    exact p
end
/-- o[i] = v, by the machine -/
def tSetR (F : Fx) : TSet := fun o i v H Q => ∃ g bx y x k bx', BxOk F g bx H ∧ RR F g H y v ∧ RR F g H x o ∧ RR F g H k i ∧ setR y x k bx = some bx' ∧ ∀ g' H', Ext g H g' H' → BxOk F g' bx' H' → Q H'
theorem atW_ixN (i : Int) (n : Nat) : atW i n = ixN n i := by
  unfold atW ixN
  by_cases h : 0 ≤ i
  · rw [if_pos h, if_pos h]
  · rw [if_neg h, if_neg h]
    by_cases h2 : 0 ≤ i + (n : Int)
    · rw [if_pos h2, if_pos (by omega)]
    · rw [if_neg h2, if_neg (by omega)]
theorem RRs.set {F : Fx} {g : Gd} {H : Hp} {rs : List R} {vs : List V} {r : R} {v : V} (h : RRs F g H rs vs) (x : RR F g H r v) : ∀ i, RRs F g H (rs.set i r) (vs.set i v) := by
  induction h with
  | nil => intro i; exact .nil
  | cons a t ih =>
    intro i
    cases i with
    | zero => exact .cons x t
    | succ i => exact .cons a (ih i)
section
variable {X : Cx} {ca : Nat → Addr}
theorem DNew.at {F : Fx} {Z : Addr → Prop} {H : Hp} {a : Addr} {ks ks' : List W} {xv xv' : List V} {o o' : Obj} (D : DAt F Z H a ks xv o) (n : DNew F Z H ks' xv' o') : ∃ es ep, o'.data = .dict es ep ∧ RD F Z H ks' xv' es.toList := n.dat
theorem set_any (hu : X.A.units + 10 < cLine) : PSet X (tSetR (fx X ca)) := by
  intro pins s σ H o i v ov iv u Q I ro ri rv ⟨g, bx, y, x, k, bx', b, hy, hx, hk, e, q⟩
  cases x with
  | v w => simp [setR] at e
  | clo _ _ => simp [setR] at e
  | r n =>
    cases k with
    | r _ => simp [setR] at e
    | clo _ _ => simp [setR] at e
    | v kw =>
      cases hx with
      | @r _ a qa =>
      simp only [setR] at e
      split at e
      · rename_i xs hb
        split at e
        · rename_i j
          split at e
          · rename_i p hp
            cases e
            have hbo := b.at_ n a _ qa hb
            cases hbo with
            | lst q1 l rs =>
              cases hk with | v hk =>
              cases hk
              have lp : p < xs.length := by
                unfold atW at hp
                split at hp
                · split at hp
                  · cases hp; omega
                  · cases hp
                · split at hp
                  · cases hp; omega
                  · cases hp
              refine set_list pins s σ H _ _ v ov iv u Q I ro ri rv ⟨a, _, j, p, rfl, rfl, q1, by rw [← rs.length, ← atW_ixN]; exact hp, ?_⟩
              obtain ⟨x1, b1⟩ := b.set (o := .lst (_ : List V)) (b := .lst (xs.set p y)) qa fun x1 => .lst upd_same (by rw [List.length_set]; exact l) ((rs.set hy p).mono x1)
              exact q g _ x1 b1
          · cases e
        · cases e
      · rename_i ks rs hb
        split at e
        · rename_i hc
          cases e
          have hbo := b.at_ n a _ qa hb
          cases hbo with
          | @dct _ _ o es ep xv q1 sm o1 o2 l d r nd kk =>
            cases hk with | v hk =>
            cases ro
            have D : DAt (fx X ca) g.Z H a ks xv o := ⟨sm, o1, ⟨_, _, o2, d⟩, l, nd, kk⟩
            refine d_put hu I q1 D hc.1 hk ri rv fun o' s' I' nw => ⟨_, I', ?_⟩
            obtain ⟨es', ep', d1, d2⟩ := nw.dat
            have hl : (dSetK ks kw).length ≤ sizeLine := by
              have := len_dSetK (k := kw) (ks := ks)
              have := hc.2
              rw [SL_eq] at this
              omega
            have lr : ks.length = rs.length := by rw [r.length, d.lens.1, d.lens.2]
            obtain ⟨x1, b1⟩ := b.set (o := pinO a o') (b := .dct (dSetK ks kw) (dSetV ks rs kw y)) qa fun x1 => .dct upd_same sm nw.ex d1 hl (d2.mono x1.z fun a z => x1.zk a z) ((RRs.dSet lr r hy).mono x1) (nd_dSetK nd) (kk.set hc.1)
            exact q g _ x1 b1
        · cases e
      · cases e
theorem ss_setItem {o i e : Expr} {mo mi me : E} {pos spos : Pos} (hu : X.A.units + 10 < cLine) (ho : SE X ca mo o) (hi : SE X ca mi i) (he : SE X ca me e)
    (ha : ∀ v, assign (.Subscript o i pos) X.env v = (do
      let ov ← holding [v] (eval o X.env)
      let iv ← holding [v, ov] (eval i X.env)
      standAt pos
      holding [v, ov, iv] (setItem ov iv v)
      release [v, ov, iv] [])) (hs : swapsWithSole [.Subscript o i pos] e spos.line X.env = pure false) (hw : swappedStores [.Subscript o i pos] e X.env = pure none) (h1 : (assignEach [.Subscript o i pos] X.env).map (·.2) = [assign (.Subscript o i pos) X.env]) :
    SS X ca (cSet mo mi me) (.Assign [.Subscript o i pos] e spos) := ⟨fun Wx tk =>
  PS.imp (ps_asg (he.pe Wx tk) (pg_sub (ho.pe Wx tk) (hi.pe Wx tk) (set_any (ca := ca) hu) ha) hs hw h1) fun D σ H h => by
    have s1 := tSL_bind (vs := []) (k := fun rs => match rs with
      | [y] => cE mo fun x => cE mi fun k => fun en bx => match setR y x k bx with
        | some bx' => .nx en bx'
        | none => .stuck
      | _ => fun _ _ => .stuck) (fun rs hl => by
        have : rs = [] := List.eq_nil_of_length_eq_zero hl
        subst this
        rfl) (tSL_of (c := cSet mo mi me) h)
    refine tM_imp s1 fun v H1 s2 => ?_
    have s3 := tSL_bind (m := mo) (k := fun rs => match rs with
      | [y, x] => cE mi fun k => fun en bx => match setR y x k bx with
        | some bx' => .nx en bx'
        | none => .stuck
      | _ => fun _ _ => .stuck) (fun rs hl => by
        match rs, hl with
        | [y], _ => rfl) s2
    refine tM_imp s3 fun ov H2 s4 => ?_
    have s5 := tSL_bind (m := mi) (k := fun rs => match rs with
      | [y, x, k] => fun en bx => match setR y x k bx with
        | some bx' => .nx en bx'
        | none => .stuck
      | _ => fun _ _ => .stuck) (fun rs hl => by
        match rs, hl with
        | [y, x], _ => rfl) s4
    refine tM_imp s5 fun iv H3 s6 => ?_
    obtain ⟨g, en, bx, rs, a, b, rr, p⟩ := s6
    obtain ⟨r1, r2, r3, rfl, h1, h2, h3⟩ := rr.three
    replace p : PostC (fx X ca) g H3 Wx D (match setR r1 r2 r3 bx with
      | some bx' => .nx en bx'
      | none => .stuck) := p
    cases q : setR r1 r2 r3 bx with
    | none => rw [q] at p; exact p.elim
    | some bx' =>
      rw [q] at p
      exact ⟨g, bx, r1, r2, r3, bx', b, h1, h2, h3, q, fun g' H' x' b' => p g' σ H' x' b' (a.mono x')⟩⟩
end
section
variable {P : Program} {w : World} {K : PySem.W.Frag} {mg : Str → Option Value} {base : Heap} {ca : Nat → Addr} {k : Nat} {N : List Str} {sc : Scope} {fs : Str → Bool} {X : Cx} {pos spos : Pos} {o i e : Expr} {mo mi me : E}
theorem v_setItem (c : Con P w K mg base k N sc fs X) (ho : SE X ca mo o) (hi : SE X ca mi i) (he : SE X ca me e)
    (ha : ∀ v, assign (.Subscript o i pos) X.env v = (do
      let ov ← holding [v] (eval o X.env)
      let iv ← holding [v, ov] (eval i X.env)
      standAt pos
      holding [v, ov, iv] (setItem ov iv v)
      release [v, ov, iv] []) := by intro _; rfl) (hs : swapsWithSole [.Subscript o i pos] e spos.line X.env = pure false := by rfl) (hw : swappedStores [.Subscript o i pos] e X.env = pure none := by rfl) (h1 : (assignEach [.Subscript o i pos] X.env).map (·.2) = [assign (.Subscript o i pos) X.env] := by rfl) :
    SS X ca (cSet mo mi me) (.Assign [.Subscript o i pos] e spos) := ss_setItem c.u10 ho hi he ha hs hw h1
end
end AM
/-! text AmX -/
set_option Elab.async false
set_option linter.all false
set_option maxRecDepth 100000
set_option maxHeartbeats 2000000
/-! AmX: raise; try .. except C as e, the error kept. -/
namespace AM
open PySem PySem.Spec PyProof.Rows L2

/-! ### raise C('..') -/
/-- what a class of errors without own __init__ must say -/
structure ExC0 (K : PySem.W.Frag) (C : Addr) : Prop where
  q : PySem.W.excIn K C He.veBase "ValueError.__new__" = true
  kp : PySem.W.keepIn K (.ref C) = true
  sb : PySem.W.subIn K (.ref C) (.type "BaseException") = some true
  ty : PySem.W.typeIn K (.ref C) = some (.type "type")
section
variable {X : Cx} {ca : Nat → Addr} {c : Nat} {x : Str} {e : Expr} {m : E} {p pos rpos : Pos}
theorem ss_raise (hc : X.calm = true) (Ex : ExC0 X.K (ca c)) (gC : X.mg x = some (.ref (ca c))) (hg : Gl X x) (hdb : (x == ("__debug__" : Str)) = false) (hs : starEach [e] X.env = (false, eval e X.env) :: starEach [] X.env) (he : SE X ca m e) :
    SS X ca (cRaise c m) (.Raise (some (.Call (.Name x p) [e] [] pos)) none rpos) := ⟨fun Wx tk =>
  PS.imp (L2.ps_raise hc tk (SkE.pmk_own1 PySem.F.excBase_ValueError Ex.q gC Ex.kp (raises_own Ex.sb Ex.ty) hg (he.pe Wx tk) hs hdb)) fun D σ H h => tM_imp (tS_cE h) fun v H1 ⟨g, en, bx, r, a, b, rr, q⟩ => by
    cases r with
    | v w =>
      cases w with
      | str t => exact q g σ H1 _ _ (Ext.refl g H1) b a ⟨c, rfl, .inl ⟨rfl, rfl⟩⟩
      | _ => exact q.elim
    | r _ => exact q.elim
    | clo _ _ => exact q.elim⟩
end

/-! ### a caught error is tracked from now on -/
section
variable {X : Cx} {pins : List (Addr × Obj)} {σ : L2.St} {H : Hp} {s : Shared} {a C : Addr} {d : Option Addr}
theorem exn_ok {P : Program} {w : World} {H' : Hp} {h : Heap} {oe : Obj} {vs : Array Value} (ha : h.get? a = some oe) (hc : oe.cls = .ref C) (hd : oe.dict = d) (hv : oe.data = .fields vs) : ObjOk P w H' h a (exnO a C d) :=
  ⟨⟨oe, vs, ha, hc, hd, hv⟩, ⟨oe, ha⟩, fun h1 h2 ⟨o', v', q1, q2⟩ k => ⟨o', v', k _ q1, q2⟩⟩
theorem inv_track {oe : Obj} {vs : Array Value} (I : Inv X pins σ H s) (ha : s.heap.get? a = some oe) (hc : oe.cls = .ref C) (hd : oe.dict = d) (hv : oe.data = .fields vs) (na : H a = none) (nL : a ≠ X.env.locals) (n0 : ∀ o, X.s_0.heap.get? a ≠ some o) (np : ∀ p ∈ X.pn ++ pins, p.1 ≠ a) :
    Inv X pins σ (upd H a (exnO a C d)) s := by
  have other : ∀ {b : Addr} {u : HO}, H b = some u → b ≠ a := fun e z => by rw [z, na] at e; cases e
  refine ⟨I.ok, I.os, I.bare, ⟨I.base.keep, I.base.slot, fun b o e n hx => ?_, I.base.there, fun b xs e => ?_, fun b o u e => ?_, fun b ps e => ?_⟩, I.loc, I.cell, ?_, fun y c e => ?_, fun p hp => ?_, fun b u e => ?_, I.len⟩
  · rw [upd_ne fun z => n0 o (by rw [← z]; exact e)]
    exact I.base.free b o e n hx
  · have q := I.base.tups b xs e
    rw [upd_ne (other q)]
    exact q
  · have q := I.base.frzs b o u e
    rw [upd_ne (other q)]
    exact q
  · obtain ⟨more, q⟩ := I.base.tbls b ps e
    exact ⟨more, by rw [upd_ne (other q)]; exact q⟩
  · rw [upd_ne (Ne.symm nL)]
    exact I.free
  · have nc : c ≠ a := fun z => by
      obtain ⟨v, oc, h1, h2⟩ := I.cell y c e
      rw [z, ha] at h1
      cases h1
      rw [hv] at h2
      cases h2
    rw [upd_ne nc]
    exact I.freeC y c e
  · obtain ⟨h1, h2, h3⟩ := I.pin p hp
    exact ⟨h1, by rw [upd_ne (np p hp)]; exact h2, h3⟩
  · by_cases z : b = a
    · subst z
      rw [upd_same] at e
      cases e
      exact exn_ok ha hc hd hv
    · rw [upd_ne z] at e
      exact (I.hok b u e).stay (fun _ _ _ q => q) (fun b' q => by rw [upd_ne (other q)]; exact q) fun b' xs q => by rw [upd_ne (other q)]; exact q
/-- a def's own statements -/
structure Sta (X : Cx) : Prop where
  pass : PassesOwn (model X.prog X.w) X.A X.env X.xe
  ex : X.ex = []
  stk : X.stack = X.env :: X.outer
  fr : X.env.frame = some X.env.locals
theorem Sta.tr {X : Cx} (h : Sta X) {pn : List (Addr × Obj)} {xe : Value → Shared → Prop} (hp : PassesOwn (model X.prog X.w) X.A X.env xe) : Sta (X.tr pn xe) := ⟨hp, h.ex, h.stk, h.fr⟩
/-- into the suite -/
theorem inv_suite (I : Inv X pins σ H s) (a : Addr) : Inv (X.suite a (X.pn ++ pins)) [] σ H s :=
  ⟨I.ok.suite a _, I.os, I.bare, I.base, I.loc, I.cell, I.free, I.freeC, fun p hp => I.pin p (by rw [List.append_nil] at hp; exact hp), I.hok, I.len⟩
theorem inv_unsuite {ps' : List (Addr × Obj)} (I : Inv (X.suite a (X.pn ++ pins)) ps' σ H s) (ok : X.Ok) : Inv X pins σ H s :=
  ⟨ok, I.os, I.bare, I.base, I.loc, I.cell, I.free, I.freeC, fun p hp => I.pin p (List.mem_append_left _ hp), I.hok, I.len⟩
end

/-- what the clause wishes of an error of the body -/
def wCatch (K : PySem.W.Frag) (c : Value) (i : Nat) (ts : Addr → Addr → Option Addr → TS) (Wout : WX) (D : Ends) : WX := fun cls d σ H =>
  ∃ C b, cls = .ref C ∧ PySem.W.exmOne K cls c = some b ∧ (b = true → ∀ a, H a = none → ts a C d { nx := fun σ' H' => D.nx (σ'.set i none) H', rt := D.rt, bk := fun _ _ => False, ct := fun σ' H' => D.ct (σ'.set i none) H' } (σ.set i (some (.ref a))) (upd H a (exnO a C d))) ∧
    (b = false → Wout cls d σ H)
section
variable {X : Cx} {x n : Str} {c : Value} {i : Nat} {body suite : List Stmt} {b₀ : Stmt} {np pos pos' : Pos} {tb : WX → TS} {ts : Addr → Addr → Option Addr → TS} {Wout : WX}
theorem ps_catch (S : Sta X) (hN : X.N.Nodup) (hi : X.N[i]? = some n) (hln : X.env.kindOf n = some .local) (hc : Names X x c) (tk : Takes X Wout)
    (hb : ∀ (Wb : WX) (pn : List (Addr × Obj)) (xe : Value → Shared → Prop), Takes (X.tr pn xe) Wb → PassesOwn (model X.prog X.w) X.A X.env xe → PSs (X.tr pn xe) body (tb Wb))
    (hsu : ∀ (a C : Addr) (d : Option Addr) (pn : List (Addr × Obj)), PSs (X.suite a pn) (b₀ :: suite) (ts a C d)) :
    PS X (.Try body [.ExceptHandler (some (.Name x np)) (some n) (b₀ :: suite) pos'] [] [] pos) (fun D σ H => tb (wCatch X.K c i ts Wout D) D σ H) := ⟨fun pins s σ H D I h => by
  have ok := I.ok
  have frames : X.A.frames = some (X.env :: X.outer) := ok.frames.trans (congrArg some S.stk)
  have leave : PassesOwn (model X.prog X.w) X.A X.env fun e t1 => wpAny (model X.prog X.w) X.A (noteFrame e X.env) (fun _ t2 => wpAny (model X.prog X.w) X.A (setFlight e none) (fun _ t3 =>
      wpAny (model X.prog X.w) X.A (handleBy e X.env [.ExceptHandler (some (.Name x np)) (some n) (b₀ :: suite) pos']) (SP X pins D) X.xe t3) X.xe t2) X.xe t1 := PassesOwn.looking
  refine wpAny_Try_except (wpAny_mono ((hb (wCatch X.K c i ts Wout D) (X.pn ++ pins) _ (fun u t1 xx => ?_) leave).run [] s σ H D (I.toTry _) h) (fun f t1 q => ?_) fun _ _ q => q)
  · -- an error: it is looked at
    obtain ⟨a, B, sB, ps', σ1, H1, cls, d, rfl, J1, nb, up1, sky, na, os1, ag1, C, b, rfl, hm, yes, no⟩ := xx
    have J : Inv X pins σ1 H1 sB := J1.ofTry ok
    rw [show (X.tr (X.pn ++ pins) _).stack = X.env :: X.outer from S.stk] at nb sky
    have apart : ∀ b o, sB.heap.get? b = some o → b ∉ frs (X.env :: X.outer) → B.get? a = none → b ≠ a := fun b o e hf hB z => by
      have q := nb b o e hf
      rw [z, hB] at q
      cases q
    show wpAny (model X.prog X.w) X.A (noteFrame (.ref a) X.env) _ _ _
    refine Sky.land Zc.steady frames S.fr sky fun g1 fl1 u1 => ?_
    have Ja : Inv X pins σ1 H1 { t1 with heap := g1 } := J.landed (by rw [S.stk]; exact nb) fl1.1 (up1.trans u1) os1 ag1
    have hB : B.get? a = none := fl1.2.1
    have LT : PySem.W.Looks (model X.prog X.w) g1 (typeOf (.ref a)) (.ref C) := by
      obtain ⟨oe, vs, he, hz, _⟩ := fl1.there
      exact fun A Q E s k q => wpAny_typeOf_ref (k _ _ he) (by rw [hz.1]; exact q)
    have LM := PySem.W.exm_one (M := model X.prog X.w) Ja.kIn LT hm
    refine wpAny_handleBy_cons (codeAny_handlers_test ?_) (by intro q; cases q)
    have Js := inv_suite Ja a
    have test : ∀ {Q : Value → Shared → Prop} {E : Value → Shared → Prop}, Q c { t1 with heap := g1 } → wpAny (model X.prog X.w) (X.A.mark (some (.ref a))) (eval (.Name x np) X.env) Q E { t1 with heap := g1 } := fun {Q E} q => by
      obtain ⟨hgl, hdbg, k | ⟨k, hv, hnn⟩⟩ := hc
      · exact ld_glob (X := X.suite a (X.pn ++ pins)) Js hgl k q hdbg
      · exact ld_blt (X := X.suite a (X.pn ++ pins)) Js hgl k hv q hnn hdbg
    refine test (LM.here ?_)
    cases b with
    | true =>
      refine codeAny_handlers_suite_as (PySem.HandSPX.lands_againZ fl1 fun g2 fl2 u2 => ?_)
      have Jb : Inv X pins σ1 H1 { t1 with heap := g2 } := J.landed (by rw [S.stk]; exact nb) fl2.1 ((up1.trans u1).trans u2) os1 ag1
      obtain ⟨oe, vs, he, hz, hd⟩ := fl2.there
      have nfr : a ∉ frs (X.env :: X.outer) := fun m => by
        obtain ⟨_, o', e', hnf⟩ := fl2.2.2.1.mem m
        rw [he] at e'
        cases e'
        exact hnf _ hd
      have nL : a ≠ X.env.locals := fun z => nfr (List.mem_filterMap.mpr ⟨X.env, List.mem_cons_self, by rw [S.fr, z]⟩)
      have nF : a ∉ X.fs := fun m => by
        obtain ⟨e1, h1, h2⟩ := List.mem_filterMap.mp m
        exact nfr (List.mem_filterMap.mpr ⟨e1, List.mem_cons_of_mem _ h1, h2⟩)
      have T := inv_track (C := C) (d := d) Jb he hz.1 hz.2 hd na nL (fun o e => by
        obtain ⟨o', e'⟩ := J.base.there a o e (by rw [S.ex]; simp)
        exact apart a o' e' nfr hB rfl) (fun p hp => by
        obtain ⟨h1, _, h3, h4, _⟩ := J.pin p hp
        refine apart p.1 p.2 h1 (fun m => ?_) hB
        rcases List.mem_cons.mp (J.stkSub p.1 (by rw [S.stk]; exact m)) with z | z
        · exact h3 z
        · exact h4 z)
      have Ts := inv_suite T a
      refine store_ok (X := X.suite a (X.pn ++ pins)) (v := .ref a) Ts hN hi (.inl hln) rfl (fun t5 T5 => ?_) (.inr hln)
      refine wpAny_mono ((hsu a C d (X.pn ++ pins)).run [] t5 _ _ _ T5 (yes rfl a na)) (fun f t6 hsp => ?_) fun _ _ z => z.elim
      have fin : ∀ {σ6 : L2.St} {H6 : Hp} {Q : Shared → Prop}, Inv (X.suite a (X.pn ++ pins)) [] σ6 H6 t6 → (∀ t7, Inv X pins (σ6.set i none) H6 t7 → Q t7) →
          wpAny (model X.prog X.w) X.A (do bindName X.env n .none; unbindBehindTheSuite X.env n pos') (fun _ t7 => Q t7) X.xe t6 := fun J6 k => gone_ok (inv_unsuite J6 ok) hN hi hln k
      cases f with
      | next =>
        obtain ⟨σ6, H6, J6, q6⟩ := hsp
        exact fin J6 fun t7 J7 => ⟨_, _, J7, q6⟩
      | brk => exact hsp.elim fun _ z => z.elim fun _ z => z.2.elim
      | cont =>
        obtain ⟨σ6, H6, J6, q6⟩ := hsp
        exact fin J6 fun t7 J7 => ⟨_, _, J7, q6⟩
      | ret u =>
        obtain ⟨v6, σ6, H6, J6, r6, q6⟩ := hsp
        exact fin J6 fun t7 J7 => ⟨_, _, _, J7, r6, q6⟩
    | false =>
      show wpAny _ X.A (handleBy (.ref a) X.env []) _ _ _
      refine wpAny_handleBy_nil ?_
      obtain ⟨_, _, _, oe, vs, T, _, _, he, _, hd, h1, _⟩ := id fl1
      unfold PySem.passOn
      refine wpAny_bind (wpAny_field he hd h1 ?_)
      rw [if_neg (show ¬ ((Value.ref T == Value.none) = true) from by simp)]
      have fin : wpAny (model X.prog X.w) X.A (setFlight (.ref a) X.env.frame) (fun _ t4 => wpAny (model X.prog X.w) X.A (throw (.ref a) : Sem Flow) (SP X pins D) X.xe t4) X.xe { t1 with heap := g1 } := by
        rw [S.fr]
        refine PySem.HandSPX.setFlight_upZ fl1 fun g4 hh4 u4 => wpAny_throw (tk _ _ ⟨a, B, sB, pins, σ1, H1, .ref C, d, rfl, J, by rw [S.stk]; exact nb, (up1.trans u1).trans u4, .inr (.inr (by rw [S.stk]; exact hh4)), na, os1, ag1, no rfl⟩)
      first
        | exact wpAny_bind (wpAny_pure (wpAny_bind fin))
        | exact wpAny_bind fin
  · cases f with
    | next =>
      obtain ⟨σ', H', J', k⟩ := q
      exact wpAny_execs_nil ⟨σ', H', J'.ofTry ok, k⟩
    | brk =>
      obtain ⟨σ', H', J', k⟩ := q
      exact ⟨σ', H', J'.ofTry ok, k⟩
    | cont =>
      obtain ⟨σ', H', J', k⟩ := q
      exact ⟨σ', H', J'.ofTry ok, k⟩
    | ret u =>
      obtain ⟨v, σ', H', J', r, k⟩ := q
      exact ⟨v, σ', H', J'.ofTry ok, r, k⟩⟩
end

/-! ### try: body / except C as e: suite -/
structure Lk (N : List Str) (sc : Scope) (fs : Str → Bool) (X : Cx) : Prop where
  names : X.N = N
  nd : N.Nodup
  sco : X.env.scope = sc
  fns : X.fn = fs
section
variable {N : List Str} {sc : Scope} {fs : Str → Bool} {X : Cx} {ca : Nat → Addr} {x : Str} {pos : Pos} {e : Expr} {m : E} {i : Nat}
theorem l_var (c : Lk N sc fs X) (h : varB N sc i x = true) : SE X ca (eVar i) (.Name x pos) := by
  simp only [varB, Bool.and_eq_true, decide_eq_true_eq] at h
  obtain ⟨n1, n2, _⟩ := nmB_ok h.2
  refine se_var (by rw [c.names]; exact h.1.1) ?_ n1 n2
  have h2 := h.1.2
  unfold visB at h2
  rw [c.sco]
  split at h2
  · exact .inl (by assumption)
  · exact .inr (.inl (by assumption))
  · exact .inr (.inr (by assumption))
  · cases h2
theorem l_set {pos' : Pos} (c : Lk N sc fs X) (h : locB N sc fs i x = true) (he : SE X ca m e) (hs : swapsWith e (some (.Name x pos')) pos.line X.env = pure false := by rfl) : SS X ca (cAsg (.nm i) m) (.Assign [.Name x pos'] e pos) := by
  simp only [locB, Bool.and_eq_true, decide_eq_true_eq] at h
  have h2 := h.2
  refine ss_set (by rw [c.names]; exact c.nd) (by rw [c.names]; exact h.1) ?_ ?_ he hs
  · rw [c.sco]
    split at h2
    · exact .inl (by assumption)
    · exact .inr (by assumption)
    · cases h2
  · rw [c.sco, c.fns]
    split at h2
    · exact .inr (by assumption)
    · exact .inl h2
    · cases h2
end
section
variable {X : Cx} {ca : Nat → Addr} {T : Tab} {x n : Str} {c i : Nat} {body suite : List Stmt} {b₀ : Stmt} {np pos pos' : Pos} {cb ch : C}
theorem ss_try (S : Sta X) (hN : X.N.Nodup) (hi : X.N[i]? = some n) (hln : X.env.kindOf n = some .local) (hc : Names X x (.ref (ca c))) (hm : ∀ d, d < T.n → T.exc d = true → PySem.W.exmOne X.K (.ref (ca d)) (.ref (ca c)) = some (T.sub d c))
    (hb : ∀ (pn : List (Addr × Obj)) (xe : Value → Shared → Prop), PassesOwn (model X.prog X.w) X.A X.env xe → SSs (X.tr pn xe) ca cb body) (hh : ∀ (a : Addr) (pn : List (Addr × Obj)), SSs (X.suite a pn) ca ch (b₀ :: suite)) :
    SS X ca (cTry T cb c i ch) (.Try body [.ExceptHandler (some (.Name x np)) (some n) (b₀ :: suite) pos'] [] [] pos) := ⟨fun Wx tk =>
  PS.imp (ps_catch (tb := fun Wb => tS (fx X ca) Wb cb) (ts := fun _ _ _ => tS (fx X ca) W0 ch) S hN hi hln hc tk (fun Wb pn xe tb hp => (hb pn xe hp).ps Wb tb) fun a C d pn => (hh a pn).ps W0 (takes0 _)) fun D σ H ⟨g, en, bx, a, b, p⟩ => by
    refine ⟨g, en, bx, a, b, ?_⟩
    replace p : PostC (fx X ca) g H Wx D (match cb en bx with
      | .exc (.exn d l) en1 bx1 => if d < T.n ∧ T.exc d = true ∧ i < en1.length then (if T.sub d c then (match ch (en1.set i (some (.v (.exn d l)))) bx1 with
          | .nx en2 bx2 => .nx (en2.set i none) bx2
          | .ct en2 bx2 => .ct (en2.set i none) bx2
          | .exc _ _ _ => .stuck
          | r => r) else .exc (.exn d l) en1 bx1) else .stuck
      | r => r) := p
    cases e : cb en bx with
    | nx en' bx' => rw [e] at p; exact p
    | ct en' bx' => rw [e] at p; exact p
    | rt r bx' => rw [e] at p; exact p
    | stuck => rw [e] at p; exact p
    | exc w en1 bx1 =>
      rw [e] at p
      intro g' σ' H' cls dd x' b' a' xr
      obtain ⟨cd, rfl, hw⟩ := xr
      obtain ⟨l, rfl, hl⟩ : ∃ l, w = .exn cd l ∧ ((l = [] ∧ dd = none) ∨ ∃ i' ad, l = [.int i'] ∧ dd = some ad ∧ g'.Z ad ∧ H' ad = some (.xd [(("line" : Str), .int i')])) := by
        rcases hw with ⟨rfl, rfl⟩ | ⟨i', ad, rfl, rfl, z1, z2⟩
        · exact ⟨_, rfl, .inl ⟨rfl, rfl⟩⟩
        · exact ⟨_, rfl, .inr ⟨i', ad, rfl, rfl, z1, z2⟩⟩
      simp only at p
      split at p
      · rename_i hd
        have p := PostC.ext x' p
        refine ⟨ca cd, T.sub cd c, rfl, hm cd hd.1 hd.2.1, fun hs ad hn => ?_, fun hs => ?_⟩
        · rw [if_pos hs] at p
          obtain ⟨x2, b2⟩ := b'.frozen (o := exnO ad (ca cd) dd) hn
          have hr : RR (fx X ca) (g'.froze ad) (upd H' ad (exnO ad (ca cd) dd)) (.v (.exn cd l)) (.ref ad) := by
            rcases hl with ⟨rfl, rfl⟩ | ⟨i', ax, rfl, rfl, z1, z2⟩
            · exact .v (.exn (.inr rfl) upd_same)
            · exact .v (.exn1 (.inr rfl) upd_same (.inl z1) ((x2.zk ax z1).trans z2))
          refine ⟨g'.froze ad, _, bx1, (a'.mono x2).set hr, b2, ?_⟩
          have p := PostC.ext x2 p
          cases e2 : ch (en1.set i (some (.v (.exn cd l)))) bx1 with
          | nx en2 bx2 => rw [e2] at p; exact fun g3 σ3 H3 x3 b3 a3 => p g3 _ H3 x3 b3 a3.unset
          | ct en2 bx2 => rw [e2] at p; exact fun g3 σ3 H3 x3 b3 a3 => p g3 _ H3 x3 b3 a3.unset
          | rt r bx2 => rw [e2] at p; exact p
          | exc w en2 bx2 => rw [e2] at p; exact p.elim
          | stuck => rw [e2] at p; exact p
        · rw [hs, if_neg Bool.false_ne_true] at p
          refine p g' σ' H' _ dd (Ext.refl g' H') b' a' ⟨cd, rfl, ?_⟩
          rcases hl with ⟨rfl, rfl⟩ | ⟨i', ax, rfl, rfl, z1, z2⟩
          · exact .inl ⟨rfl, rfl⟩
          · exact .inr ⟨i', ax, rfl, rfl, z1, z2⟩
      · exact p.elim⟩
end
section
variable {P : Program} {w : World} {K : PySem.W.Frag} {mg : Str → Option Value} {base : Heap} {ca : Nat → Addr} {k : Nat} {N : List Str} {sc : Scope} {fs : Str → Bool} {X : Cx} {T : Tab} {x n : Str} {c' i : Nat} {body suite : List Stmt} {b₀ : Stmt} {np p pos pos' rpos : Pos} {cb ch : C} {e : Expr} {m : E}
theorem v_raise (c : Con P w K mg base k N sc fs X) (Ex : ExC0 K (ca c')) (hm : mg x = some (.ref (ca c'))) (g : glB sc x = true) (he : SE X ca m e) (hs : starEach [e] X.env = (false, eval e X.env) :: starEach [] X.env := by rfl) : SS X ca (cRaise c' m) (.Raise (some (.Call (.Name x p) [e] [] pos)) none rpos) := by
  have g2 := g
  simp only [glB, Bool.and_eq_true] at g2
  exact ss_raise c.calm (by rw [c.frag]; exact Ex) (by rw [c.glo]; exact hm) (c.gl g) (nmB_ok g2.2).1 hs he
theorem v_try (c : Con P w K mg base k N sc fs X) (S : Sta X) (h : locB N sc (fun _ => false) i n = true) (g : glB sc x = true) (hx : mg x = some (.ref (ca c'))) (hm : ∀ d, d < T.n → T.exc d = true → PySem.W.exmOne K (.ref (ca d)) (.ref (ca c')) = some (T.sub d c'))
    (hb : ∀ X', Con P w K mg base k N sc fs X' → Sta X' → SSs X' ca cb body) (hh : ∀ X', Lk N sc fs X' → SSs X' ca ch (b₀ :: suite)) :
    SS X ca (cTry T cb c' i ch) (.Try body [.ExceptHandler (some (.Name x np)) (some n) (b₀ :: suite) pos'] [] [] pos) := by
  have g2 := g
  simp only [glB, Bool.and_eq_true] at g2
  have hl : X.N[i]? = some n ∧ X.env.kindOf n = some .local := by
    show X.N[i]? = some n ∧ X.env.scope.names.lookup n = _
    rw [c.names, c.sco]
    simp only [locB, Bool.and_eq_true, decide_eq_true_eq] at h
    refine ⟨h.1, ?_⟩
    have h2 := h.2
    split at h2
    · assumption
    · cases h2
    · cases h2
  exact ss_try S c.ndX hl.1 hl.2 ⟨c.gl g, (nmB_ok g2.2).1, .inl (by rw [c.glo]; exact hx)⟩ (by rw [c.frag]; exact hm) (fun pn xe hp => hb _ (c.tr pn xe) (S.tr hp)) fun a pn => hh _ ⟨c.names, c.nd, c.sco, c.fns⟩
end
end AM
/-! text AmN -/
set_option Elab.async false
set_option linter.all false
set_option maxRecDepth 100000
set_option maxHeartbeats 2000000
/-! AmN: methods of lists and dicts. -/
namespace AM
open PySem PySem.Spec PyProof.Rows L2

section
variable {X : Cx} {ca : Nat → Addr} {o e : Expr} {es : List Expr} {mo : E} {as : List (Bool × E)} {f : Op} {name : Str} {apos cpos : Pos} {T id : String} {d : Bool}
/-- a method by values: the receiver, then the arguments -/
def MtO (X : Cx) (ca : Nat → Addr) (id : String) (f : Op) : Prop := ∀ (pins : List (Addr × Obj)) (s : Shared) (σ : L2.St) (H : Hp) (x : V) (xs : List V) (v : Value) (us : List Value) (Q : VK), Inv X pins σ H s → RelV x v → Vals xs us → tO (fx X ca) f (x :: xs) H Q →
  wpAny (model X.prog X.w) X.A (call (.builtin id) (v :: us)) (EP X pins σ Q) X.xe s
theorem recv_ty {pins : List (Addr × Obj)} {σ : L2.St} {H : Hp} {s : Shared} {g : Gd} {bx : Bx} {r : R} {v : V} {u : Value} (I : Inv X pins σ H s) (b : BxOk (fx X ca) g bx H) (h : RR (fx X ca) g H r v) (ru : RelV v u) (hd : (if d then (dcO bx r).isSome else (itL bx r).isSome) = true) :
    s.TypeIs u (if d then "dict" else "list") ∧ ∀ a, u = .ref a → ∃ ob, s.heap.get? a = some ob ∧ ob.dict = none := by
  cases d with
  | true =>
    simp only [if_true] at hd ⊢
    obtain ⟨⟨ks, rs⟩, e⟩ := Option.isSome_iff_exists.mp hd
    obtain ⟨a, o, xv, rfl, p, D, _⟩ := h.dct b e
    cases ru
    have ho := d_obj I p
    exact ⟨⟨o, ho, D.ex.1⟩, fun a' e' => by cases e'; exact ⟨o, ho, D.ex.2.1⟩⟩
  | false =>
    simp only [Bool.false_eq_true, if_false] at hd ⊢
    obtain ⟨xs, e⟩ := Option.isSome_iff_exists.mp hd
    obtain ⟨a, vs, rfl, q, _⟩ := h.lst b e
    cases ru
    obtain ⟨_, its, n, _, h1⟩ := I.hok a _ q
    exact ⟨⟨_, h1, rfl⟩, fun a' e' => by cases e'; exact ⟨_, h1, rfl⟩⟩
theorem tM_mt {F : Fx} {Wx : WX} {σ : L2.St} {H : Hp} {Q : VK} (h : tM F Wx (eMt d mo as f) σ H Q) : tM F Wx mo σ H fun v H1 => ∃ g en bx r, EnOk F g en σ H1 ∧ BxOk F g bx H1 ∧ RR F g H1 r v ∧ (if d then (dcO bx r).isSome else (itL bx r).isSome) = true ∧ PostR F g σ H1 Wx Q (eArgs as (fun xs _ bx => f (r :: xs) bx) en bx) := by
  obtain ⟨g, en, bx, a, b, p⟩ := h
  refine ⟨g, en, bx, a, b, ?_⟩
  replace p : PostR F g σ H Wx Q (match mo en bx with
    | .ok x bx' => if (if d then (dcO bx' x).isSome else (itL bx' x).isSome) = true then eArgs as (fun xs _ bx => f (x :: xs) bx) en bx' else .stuck
    | .exc w bx' => .exc w bx'
    | .stuck => .stuck) := p
  cases q : mo en bx with
  | ok x bx' =>
    rw [q] at p
    intro g' H' v x' b' r'
    by_cases hd : (if d then (dcO bx' x).isSome else (itL bx' x).isSome) = true
    · simp only [if_pos hd] at p
      exact ⟨g', en, bx', x, a.mono x', b', r', hd, PostR.ext x' p⟩
    · simp only [if_neg hd] at p
      exact p.elim
  | exc w bx' => rw [q] at p; exact p
  | stuck => rw [q] at p; exact p
theorem se_mt (pa : PlainAttrs T) (slot : Slot T name id) (hty : typeOf (.builtin id) = pure (.type "method_descriptor")) (hT : T = if d then "dict" else "list") (n : NoX f) (hm : MtO X ca id f) (ho : SE X ca mo o) (ha : SA X ca as (e :: es))
    (hbase : attributeBase o name X.env (eval o X.env) = eval o X.env)
    (hfew : ((backTo cpos (starEach (e :: es) X.env)).all (fun x => !x.1) && (backToKw cpos (keywordEach [] X.env)).all (fun x => x.1.isSome) && decide ((e :: es).length + ([] : List Keyword).length + (if ([] : List Keyword).isEmpty then 0 else 1) < 30)) = true)
    (hline : (apos.endLine == cpos.line) = true) (hs : starEach (e :: es) X.env = (false, eval e X.env) :: starEach es X.env) (hplain : (backTo cpos (starEach es X.env)).any (·.1) = false) :
    SE X ca (eMt d mo as f) (.Call (.Attribute o name apos) (e :: es) [] cpos) := ⟨fun Wx tk => ⟨fun pins s σ H Q I h => by
  refine wpAny_Call_method_late hbase hfew hline rfl (thn ((ho.pe Wx tk).run pins s σ H _ I (tM_mt h)) fun v s1 ⟨x, H1, I1, r1, g, en, bx, r, a, b, rr, hd, p⟩ => ?_)
  obtain ⟨h1, h2⟩ := recv_ty I1 b rr r1 hd
  refine ⟨T, id, pa, slot, hty, by rw [hT]; exact h1, h2, ?_⟩
  have hA := (ha.pa Wx (fun rs _ bx => f rs bx) [x] tk).run cpos pins s1 σ H1 (fun xs H2 => tO (fx X ca) f (x :: xs) H2 Q) I1 ⟨Q, ⟨g, en, bx, [r], a, b, .cons rr .nil, p⟩, fun xs H2 z => tK_op n z⟩
  rw [hs] at hA ⊢
  refine Calls.callWith_builtin (by show (false || (backTo cpos (starEach es X.env)).any (·.1)) = false; rw [hplain] <;> rfl) (Calls.evalArgs_plain ?_)
  exact thn hA fun us s2 ⟨vs, H2, I2, r2, q2⟩ => hm pins s2 σ H2 x vs v us Q I2 r1 r2 q2⟩⟩
theorem se_mt0 (pa : PlainAttrs T) (slot : Slot T name id) (hty : typeOf (.builtin id) = pure (.type "method_descriptor")) (hT : T = if d then "dict" else "list") (n : NoX f) (hm : MtO X ca id f) (ho : SE X ca mo o)
    (hbase : attributeBase o name X.env (eval o X.env) = eval o X.env) (hline : (apos.endLine == cpos.line) = true) : SE X ca (eMt d mo [] f) (.Call (.Attribute o name apos) [] [] cpos) := ⟨fun Wx tk => ⟨fun pins s σ H Q I h => by
  refine wpAny_Call_method0_late hbase hline (thn ((ho.pe Wx tk).run pins s σ H _ I (tM_mt h)) fun v s1 ⟨x, H1, I1, r1, g, en, bx, r, a, b, rr, hd, p⟩ => ?_)
  obtain ⟨h1, h2⟩ := recv_ty I1 b rr r1 hd
  refine ⟨T, id, pa, slot, hty, by rw [hT]; exact h1, h2, Calls.callWith_builtin rfl (PySem.evalArgs_none (hm pins s1 σ H1 x [] v [] Q I1 r1 .nil ?_))⟩
  exact tK_op (Wx := Wx) (σ := σ) n ⟨g, en, bx, [r], a, b, .cons rr .nil, p⟩⟩⟩
end

/-! ### lists -/
section
variable {X : Cx} {ca : Nat → Addr} {m : Bool}
theorem putB_ok {n : Nat} {b : Box} {r : R} {bx bx' : Bx} {r' : R} (h : putB n b r bx = .ok r' bx') : n < bx.length ∧ r' = r ∧ bx' = bx.set n b := by
  unfold putB at h
  split at h
  · cases h; exact ⟨by assumption, rfl, rfl⟩
  · cases h
theorem noX_putB {n : Nat} {b : Box} {r : R} {bx bx' : Bx} {w : W} : putB n b r bx ≠ .exc w bx' := by
  unfold putB
  split <;> intro h <;> cases h
/-- a list box rewritten: what the answer's post gives -/
theorem put_list {F : Fx} {g : Gd} {bx : Bx} {H : Hp} {Q : VK} {n : Nat} {a : Addr} {rs : List R} {vs : List V} {r : R} {v : V} (b : BxOk F g bx H) (qa : g.al[n]? = some a) (l : vs.length ≤ sizeLine) (h : RRs F g H rs vs) (hr : RR F g H r v) (p : PostO F g H Q (putB n (.lst rs) r bx)) : Q v (upd H a (.lst vs)) := by
  cases e : putB n (.lst rs) r bx with
  | ok r' bx' =>
    obtain ⟨hn, rfl, rfl⟩ := putB_ok e
    rw [e] at p
    obtain ⟨x1, b1⟩ := b.set (o := .lst vs) (b := .lst rs) qa fun x1 => .lst upd_same l (h.mono x1)
    exact p g _ v x1 b1 (hr.mono x1)
  | exc w bx' => rw [e] at p; exact p.elim
  | stuck => rw [e] at p; exact p.elim
theorem box_lst {F : Fx} {g : Gd} {bx : Bx} {H : Hp} {n : Nat} {v : V} {xs : List R} (b : BxOk F g bx H) (h : RR F g H (.r n) v) (hb : bx[n]? = some (.lst xs)) : ∃ a vs, v = .ref a ∧ g.al[n]? = some a ∧ H a = some (.lst vs) ∧ vs.length ≤ sizeLine ∧ RRs F g H xs vs := by
  cases h with
  | @r _ a qa =>
    cases b.at_ n a _ qa hb with
    | lst q l rs => exact ⟨a, _, rfl, qa, q, l, rs⟩
theorem boxL_some {bx : Bx} {n : Nat} {xs : List R} (h : boxL bx n = some xs) : bx[n]? = some (.lst xs) := by
  unfold boxL at h
  split at h
  · cases h; assumption
  · cases h
theorem mo_append : MtO X ca "list.append" opAppend := by
  intro pins s σ H x xs v us Q I rx rv ⟨g, bx, rs, b, rr, p⟩
  unfold opAppend at p
  split at p
  · rename_i n y
    cases e : boxL bx n with
    | none => rw [e] at p; exact p.elim
    | some ys =>
      rw [e] at p
      by_cases hl : ys.length < SL
      · simp only [if_pos hl] at p
        cases rr with | cons h1 rr => cases rr with | cons h2 rr =>
        cases rr
        obtain ⟨a, vs, rfl, qa, q, l, r1⟩ := box_lst b h1 (boxL_some e)
        rw [SL_eq, r1.length] at hl
        exact mt_append pins s σ H _ _ v us Q I rx rv ⟨a, vs, _, rfl, rfl, q, hl, put_list b qa (by rw [List.length_append]; exact hl) (r1.append (.cons h2 .nil)) (.v .non) p⟩
      · simp only [if_neg hl] at p
        exact p.elim
  · exact p.elim
theorem mo_extend : MtO X ca "list.extend" opExtend := by
  intro pins s σ H x xs v us Q I rx rv ⟨g, bx, rs, b, rr, p⟩
  unfold opExtend at p
  split at p
  · rename_i n y
    split at p
    · rename_i ys zs e1 e2
      by_cases hl : ys.length + zs.length ≤ SL
      · simp only [if_pos hl] at p
        cases rr with | cons h1 rr => cases rr with | cons h2 rr =>
        cases rr
        obtain ⟨a, vs, rfl, qa, q, l, r1⟩ := box_lst b h1 (boxL_some e1)
        obtain ⟨a2, vs2, rfl, q2, l2, r2⟩ := h2.lst b e2
        rw [SL_eq, r1.length, r2.length] at hl
        exact mt_extend pins s σ H _ _ v us Q I rx rv ⟨a, a2, vs, vs2, rfl, rfl, q, q2, hl, put_list b qa (by rw [List.length_append]; exact hl) (r1.append r2) (.v .non) p⟩
      · simp only [if_neg hl] at p
        exact p.elim
    · exact p.elim
  · exact p.elim
theorem RRs.dropLast {F : Fx} {g : Gd} {H : Hp} {rs : List R} {vs : List V} (h : RRs F g H rs vs) : RRs F g H rs.dropLast vs.dropLast := by
  rw [List.dropLast_eq_take, List.dropLast_eq_take, h.length]
  exact h.take _
theorem RRs.eraseIdx {F : Fx} {g : Gd} {H : Hp} {rs : List R} {vs : List V} (h : RRs F g H rs vs) : ∀ i, RRs F g H (rs.eraseIdx i) (vs.eraseIdx i) := by
  induction h with
  | nil => intro i; exact .nil
  | cons a t ih =>
    intro i
    cases i with
    | zero => exact t
    | succ i => exact .cons a (ih i)
theorem mo_pop : MtO X ca "list.pop" opPop := by
  intro pins s σ H x xs v us Q I rx rv ⟨g, bx, rs, b, rr, p⟩
  unfold opPop at p
  split at p
  · rename_i n
    cases e : boxL bx n with
    | none => rw [e] at p; exact p.elim
    | some ys =>
      rw [e] at p
      simp only at p
      cases e2 : ys[ys.length - 1]? with
      | none => rw [e2] at p; exact p.elim
      | some r =>
        rw [e2] at p
        cases rr with | cons h1 rr =>
        cases rr
        obtain ⟨a, vs, rfl, qa, q, l, r1⟩ := box_lst b h1 (boxL_some e)
        obtain ⟨y, e3, hy⟩ := r1.get e2
        rw [r1.length] at e3
        exact mt_pop pins s σ H _ _ v us Q I rx rv ⟨a, vs, y, rfl, rfl, q, e3, put_list b qa (by rw [List.length_dropLast]; omega) r1.dropLast hy p⟩
  · exact p.elim
theorem atW_seq {i : Int} {n j : Nat} (h : atW i n = some j) : seqIndex? i n = some j := by
  rw [atW_ixN] at h
  exact (ixN_seq h).1
theorem mo_popAt : MtO X ca "list.pop" opPopAt := by
  intro pins s σ H x xs v us Q I rx rv ⟨g, bx, rs, b, rr, p⟩
  unfold opPopAt at p
  split at p
  · rename_i n i
    cases e : boxL bx n with
    | none => rw [e] at p; exact p.elim
    | some ys =>
      rw [e] at p
      simp only at p
      split at p
      · cases e2 : atW i ys.length with
        | none => rw [e2] at p; exact p.elim
        | some j =>
          rw [e2] at p
          simp only at p
          cases e3 : ys[j]? with
          | none => rw [e3] at p; exact p.elim
          | some r =>
            rw [e3] at p
            simp only at p
            split at p
            · rename_i hb
              cases rr with | cons h1 rr => cases rr with | cons h2 rr =>
              cases rr
              cases h2 with | v h2 =>
              cases h2
              obtain ⟨a, vs, rfl, qa, q, l, r1⟩ := box_lst b h1 (boxL_some e)
              obtain ⟨y, e4, hy⟩ := r1.get e3
              rw [r1.length] at e2
              exact mt_popAt pins s σ H _ _ v us Q I rx rv ⟨a, vs, i, j, y, rfl, rfl, q, hb.1, hb.2, atW_seq e2, e4, put_list b qa (Nat.le_trans (len_erase vs j) l) (r1.eraseIdx j) hy p⟩
            · exact p.elim
      · exact p.elim
  · exact p.elim
theorem mo_clear : MtO X ca "list.clear" opClear := by
  intro pins s σ H x xs v us Q I rx rv ⟨g, bx, rs, b, rr, p⟩
  unfold opClear at p
  split at p
  · rename_i n
    cases e : boxL bx n with
    | none => rw [e] at p; exact p.elim
    | some ys =>
      rw [e] at p
      cases rr with | cons h1 rr =>
      cases rr
      obtain ⟨a, vs, rfl, qa, q, l, r1⟩ := box_lst b h1 (boxL_some e)
      exact mt_clear pins s σ H _ _ v us Q I rx rv ⟨a, vs, rfl, rfl, q, put_list b qa (Nat.zero_le _) .nil (.v .non) p⟩
  · exact p.elim
theorem noX_append : NoX opAppend := by
  intro rs bx w bx' h
  unfold opAppend at h
  repeat' split at h
  all_goals first
    | cases h
    | exact noX_putB h
theorem noX_extend : NoX opExtend := by
  intro rs bx w bx' h
  unfold opExtend at h
  repeat' split at h
  all_goals first
    | cases h
    | exact noX_putB h
theorem noX_pop : NoX opPop := by
  intro rs bx w bx' h
  unfold opPop at h
  repeat' split at h
  all_goals first
    | cases h
    | exact noX_putB h
theorem noX_popAt : NoX opPopAt := by
  intro rs bx w bx' h
  unfold opPopAt at h
  repeat' split at h
  all_goals first
    | cases h
    | exact noX_putB h
theorem noX_clear : NoX opClear := by
  intro rs bx w bx' h
  unfold opClear at h
  repeat' split at h
  all_goals first
    | cases h
    | exact noX_putB h
end
end AM
/-! text AmE -/
set_option Elab.async false
set_option linter.all false
set_option maxRecDepth 100000
set_option maxHeartbeats 2000000
/-! AmE: dicts made: {}, {k: v, ..}, {k: v for ..}. -/
namespace AM
open PySem PySem.Spec PyProof.Rows L2

section
variable {X : Cx} {ca : Nat → Addr} {pins : List (Addr × Obj)} {σ : L2.St} {H : Hp} {s : Shared} {Z : Addr → Prop} {a : Addr} {ks : List W} {xv : List V} {o : Obj} {k : W} {kv : V} {u : Value} {A : Around} {E : Value → Shared → Prop}
/-- a key put, by the store itself -/
theorem d_store {v : V} {r : Value} {Q : Unit → Shared → Prop} (hu : A.units + 10 < cLine) (I : Inv X pins σ H s) (p : H a = some (pinO a o)) (D : DAt (fx X ca) Z H a ks xv o) (kf : keyFor ks k = true) (rk : RW (fx X ca) Z H k kv) (ru : RelV kv u) (rv : RelV v r)
    (h : ∀ o' s', Inv X pins σ (upd H a (pinO a o')) s' → DNew (fx X ca) Z H (dSetK ks k) (dSetV ks xv k v) o' → Q () s') : wpAny (model X.prog X.w) A (dictSet a u r) Q E s := by
  have ho := d_obj I (.inl p)
  obtain ⟨kb, ka⟩ := keyFor_all D.kind kf
  cases t : k.isT with
  | false =>
    have hs : ∀ k' ∈ ks, keyB k' = true ∧ k'.isT = false := fun k' m => ⟨(ka k' m).1, (ka k' m).2.trans t⟩
    obtain ⟨kvs, h1, h2, h3, h4⟩ := D.pairs ho hs
    refine wpAny_dictSet_pairs (hsz := by rw [h4]; exact D.len) (keyIs_of rk ru kb t) h1 fun h' dd hs' => ?_
    obtain ⟨q, es, ep, hq, q1, q2, q3, q4, q5⟩ := dd
    obtain ⟨e1, e2⟩ := stored_simple kb t rv hs h2 h3 D.nd
    refine h q _ (d_wrote I p hs' hq) ⟨q1, es, ep, q2, ?_⟩
    rw [← e1]
    exact RD.of_simple q4 (fun e m => q3 e (by simpa using m)) e2
  | true =>
    obtain ⟨xs, h1, h2, h4⟩ := D.nested I ho fun k' m => ⟨(ka k' m).1, (ka k' m).2.trans t⟩
    obtain ⟨b, rfl⟩ := key_ref rk t
    cases ru
    obtain ⟨n, e, dd⟩ := keyB_nk kb
    refine wpAny_dictSet_heap (knd := nestedKind X.prog X.w) (hsz := by rw [h4]; exact D.len) (show A.units + 8 < cLine by omega) (show (nestedKind X.prog X.w).is s.heap n b from ⟨rk.nested I e rfl, dd⟩) h1 fun h' d' hs' => ?_
    obtain ⟨q, es, ep, hq, q1, q2, q3, _, q5⟩ := d'
    refine h q _ (d_wrote I p hs' hq) ⟨q1, es, ep, q2, ?_⟩
    rw [q3]
    exact (h2.stored e dd rk rv D.nd).rd
end
/-- an empty dict just laid -/
abbrev emptyD : Obj := { cls := .type "dict", data := .dict #[] }
theorem emptyD_at {F : Fx} {Z : Addr → Prop} {H : Hp} {a : Addr} (h : (a == sysModules) = false) : DAt F Z H a [] [] emptyD :=
  ⟨h, ⟨rfl, rfl, rfl⟩, ⟨#[], 0, rfl, .nil⟩, Nat.zero_le _, List.nodup_nil, ⟨fun _ m => (nomatch m), .inl fun _ m => (nomatch m)⟩⟩
section
variable {F : Fx} {g : Gd} {bx bx' : Bx} {H H' : Hp} {D : Addr}
/-- a new dict at p, frozen or a box -/
theorem mkD_ok {m : Bool} {ks : List W} {rs : List R} {xv : List V} {o : Obj} {Q : VK} {p : Addr} (b : BxOk F g bx H) (hp : H p = none) (DD : DAt F g.Z H p ks xv o) (r : RRs F g H rs xv) (h : PostO F g H Q (mkD m ks rs bx)) : Q (.ref p) (upd H p (pinO p o)) := by
  obtain ⟨es, ep, hd, rd⟩ := DD.dat
  unfold mkD at h
  split at h
  · cases m with
    | true =>
      simp only [if_true] at h
      obtain ⟨x, b'⟩ := b.boxed (o := pinO p o) (b := .dct ks rs) hp fun x => .dct upd_same DD.sm DD.ex hd DD.len (rd.mono x.z fun a z => x.zk a z) (r.mono x) DD.nd DD.kind
      refine h _ _ _ x b' (.r ?_)
      show (g.al ++ [p])[bx.length]? = some p
      rw [b.len]
      simp
    | false =>
      simp only [Bool.false_eq_true, if_false] at h
      cases e : AM.vals rs with
      | none => rw [e] at h; exact h.elim
      | some ws =>
        rw [e] at h
        obtain ⟨x, b'⟩ := b.frozen (o := pinO p o) hp
        exact h _ _ _ x b' (.v (.dct (.inl ⟨.inr rfl, upd_same⟩) DD.sm DD.ex hd DD.len (rd.mono x.z fun a z => x.zk a z) ((r.vals e).mono x.z fun a z => x.zk a z) DD.nd DD.kind))
  · exact h.elim
end
/-- what a turn of the comprehension is to reach by the store of a pair -/
def Sto (F : Fx) (D : Addr) (y z : V) (H : Hp) (Nx : Hp → Prop) : Prop := ∃ Z ks xv o k, H D = some (pinO D o) ∧ DAt F Z H D ks xv o ∧ keyFor ks k = true ∧ RW F Z H k y ∧ ks.length < sizeLine ∧ ∀ o', DNew F Z H (dSetK ks k) (dSetV ks xv k z) o' → Nx (upd H D (pinO D o'))
def tDcG (F : Fx) (wi : TI) (g : TG) (tt : TT) (tk tv : TE) (vs : List Nat) : TE := fun σ H Q => wi σ H fun J H1 => ∀ D, H1 D = none → (D == sysModules) = false → ∃ Wv : Nat → Nat → Hp → Prop, (∃ m, Wv 0 m (upd H1 D (pinO D emptyD))) ∧ ∀ i m H, Wv i m H →
  (J.stop i H ∧ Q (.ref D) H) ∨ (J.go i H ∧ ∃ Nx : Hp → Prop, (∀ H', Nx H' → ∃ m', m' < m ∧ Wv (i + 1) m' H') ∧ ∀ x H', J.yld i H x H' → g x (wipe σ vs) H' fun σ2 H2 => wipe σ2 vs = wipe σ vs ∧ tt σ2 H2 fun b H3 =>
    if b = true then tk σ2 H3 fun y H4 => tv σ2 H4 fun z H5 => Sto F D y z H5 Nx else Nx H3)
section
variable {X : Cx} {ca : Nat → Addr}
theorem dc_gen {pins : List (Addr × Obj)} {s : Shared} {σ : L2.St} {H : Hp} {Q : VK} {kx vx tg iter : Expr} {ifs : List Expr} {scope : Scope} {own : List (Str × Nat)} {pos pos' : Pos} {wi : TI} {g : TG} {tt : TT} {tk tv : TE} {use : Option (Value → Sem Unit)} {Qf : Value → Shared → Prop}
    (hu : X.A.units + 10 < cLine) (hc : X.calm = true) (hN : X.N.Nodup) (I : Inv X pins σ H s) (hi : PI X tg iter wi) (ok : BlkOk X.N X.env.scope scope own)
    (hg : ∀ (s : Shared) (H : Hp) (C : Addr) (cl : List (Str × Addr)) (fp : List Addr), PG (X.blk s H scope (compEnvC scope cl C X.env) fp) tg g) (ht : ∀ (s : Shared) (H : Hp) (C : Addr) (cl : List (Str × Addr)) (fp : List Addr), PTs (X.blk s H scope (compEnvC scope cl C X.env) fp) ifs tt)
    (hk : ∀ (s : Shared) (H : Hp) (C : Addr) (cl : List (Str × Addr)) (fp : List Addr), PE (X.blk s H scope (compEnvC scope cl C X.env) fp) kx tk) (he : ∀ (s : Shared) (H : Hp) (C : Addr) (cl : List (Str × Addr)) (fp : List Addr), PE (X.blk s H scope (compEnvC scope cl C X.env) fp) vx tv)
    (hs : ∀ x, foldedSetIterable iter X.env x = pure x) (h : tDcG (fx X ca) wi g tt tk tv (own.map (·.2)) σ H Q)
    (hRR : ∀ D C s' m H', Inv X pins σ H' s' → Q (.ref D) H' → s'.heap.Ns C m → FpOk X pins H' C → compPost (model X.prog X.w) X.A X.xe use Qf (.ref D) C (.ok .next) s') :
    wpAny (model X.prog X.w) X.A (comprehension (.DictComp kx vx [⟨tg, iter, ifs, 0⟩] scope pos) scope X.env pos' newDict false (eval iter X.env) use) Qf X.xe s := by
  have free : ∀ y ∈ scope.names, y.2 = .free → ∃ c, X.env.cells.lookup y.1 = some c := fun y hy e => (ok.free y hy e).elim (fun k => I.ok.has _ (.inl k)) fun k => I.ok.has _ (.inr k)
  refine wpAny_comprehension_free (use := use) rfl hs (closure_ok free) ok.kind (fun y hy e => by rw [ok.uniq y hy, e]) (thn (hi.run pins s σ H _ I h) fun xv t1 hx => thn hx fun itv t2 hx2 => ?_)
  obtain ⟨it, fp, tn, J, H2, e, I2, T, st2, f2, q⟩ := hx2
  subst e
  refine wpAny_newObj_type (newEnv_comp ?_)
  obtain ⟨D, hD⟩ : ∃ D, D = t2.heap.objs.size := ⟨_, rfl⟩
  have hDn : H2 D = none := I2.hok.fresh (by rw [hD]; exact Nat.le_refl _)
  have hsm : (D == sysModules) = false := beq_eq_false_iff_ne.mpr (by rw [hD]; exact Ne.symm (Nat.ne_of_lt I2.big))
  obtain ⟨Wv, ⟨m0, w0⟩, turn⟩ := q D hDn hsm
  obtain ⟨t3, ht3⟩ : ∃ t3 : Shared, t3 = { t2 with heap := t2.heap.push emptyD } := ⟨_, rfl⟩
  obtain ⟨H3, hH3⟩ : ∃ H3, H3 = upd H2 D (pinO D emptyD) := ⟨_, rfl⟩
  have at3 : t3.heap.get? D = some emptyD := by rw [ht3, hD]; exact Heap.get?_push_size _ rfl
  have I3 : Inv X pins σ H3 t3 := by
    rw [hH3, ht3]
    refine I2.laid (t' := t2.toks) (fun b o e => Heap.get?_push_of_some _ e) (by rw [hD]; exact Nat.le_refl _) ?_
    have z : (t2.heap.push emptyD).get? D = some emptyD := by rw [hD]; exact Heap.get?_push_size _ rfl
    exact ⟨z, ⟨_, z⟩, fun h1 h2 p k => k _ p⟩
  have heap3 : t3.heap = t2.heap.push emptyD := by rw [ht3]
  have small : ∀ b ∈ fp, b < t2.heap.objs.size := fun b hb => (T.obj _ _ st2 b hb).elim fun o z => Heap.lt_size z.1
  have f3 : ∀ b ∈ fp, FpOk X pins H3 b ∧ b < t3.heap.objs.size := fun b hb => by
    have lt := small b hb
    refine ⟨⟨?_, (f2 b hb).2⟩, by rw [heap3, Heap.size_push]; exact Nat.lt_succ_of_lt lt⟩
    rw [hH3, upd_ne (by rw [hD]; exact Nat.ne_of_lt lt)]
    exact (f2 b hb).1
  have st3 : tn 0 t3.heap := T.keep _ _ _ st2 fun b _ o e => by rw [heap3]; exact Heap.get?_push_of_some _ e
  have I4 := block_start I3 ok hN f3
  obtain ⟨ce, hce⟩ : ∃ ce, ce = compEnvC scope (cellsFrom (t3.heap.objs.size + 1) scope.names (cloFrom X.env.cells scope.names [])) t3.heap.objs.size X.env := ⟨_, rfl⟩
  have cL : ce.locals = t3.heap.objs.size := by rw [hce]; rfl
  have bg : PG (X.blk t3 H3 scope ce fp) tg g := by rw [hce]; exact hg _ _ _ _ _
  have bt : PTs (X.blk t3 H3 scope ce fp) ifs tt := by rw [hce]; exact ht _ _ _ _ _
  have bk : PE (X.blk t3 H3 scope ce fp) kx tk := by rw [hce]; exact hk _ _ _ _ _
  have bv : PE (X.blk t3 H3 scope ce fp) vx tv := by rw [hce]; exact he _ _ _ _ _
  rw [← hce] at I4
  rw [← hH3] at w0
  have go : codeAny (model X.prog X.w) X.A (.compStart (.DictComp kx vx [⟨tg, iter, ifs, 0⟩] scope pos) 0 (.ref it) (.ref D) ce) (compPost (model X.prog X.w) X.A X.xe use Qf (.ref D) t3.heap.objs.size) { t3 with heap := pushCells (t3.heap.push emptyD) scope.names } := by
    obtain ⟨t4, ht4⟩ : ∃ t4 : Shared, t4 = { t3 with heap := pushCells (t3.heap.push emptyD) scope.names } := ⟨_, rfl⟩
    have J4 : Inv (X.blk t3 H3 scope ce fp) [] (wipe σ (own.map (·.2))) H3 t4 := by rw [ht4]; exact I4
    rw [← ht4]
    have st4 : tn 0 t4.heap := T.keep _ _ _ st3 fun b _ o e => by rw [ht4]; exact pushCells_keeps _ _ _ _ (Heap.get?_push_of_some _ e)
    have still : ∀ {σ' : L2.St} {H' : Hp} {s' : Shared}, Inv (X.blk t3 H3 scope ce fp) [] σ' H' s' → (∀ b ∈ fp, H' b = none) → ∀ b ∈ fp, FpOk (X.blk t3 H3 scope ce fp) [] H' b := fun {σ' H' s'} I' hn b hb =>
      ⟨hn b hb, (I'.ok.exf b hb).1, I'.ok.exfs b hb, .inl hb, fun x c e => (I'.ok.exf b hb).2 x c e, fun p hp => absurd (show p ∈ ([] : List (Addr × Obj)) ++ [] from hp) (by simp)⟩
    have loop : codeAny (model X.prog X.w) X.A (.compLoop (.DictComp kx vx [⟨tg, iter, ifs, 0⟩] scope pos) 0 (.ref it) (.ref D) ce) (compPost (model X.prog X.w) X.A X.xe use Qf (.ref D) t3.heap.objs.size) t4 := by
      refine compLoop_anyD (fun n s' => ∃ i H', Inv (X.blk t3 H3 scope ce fp) [] (wipe σ (own.map (·.2))) H' s' ∧ tn i s'.heap ∧ (∀ b ∈ fp, H' b = none) ∧ Wv i n H') ?_ m0 ⟨0, H3, J4, st4, fun b hb => (f3 b hb).1.1, w0⟩
      rintro n t5 ⟨i, H5, I5, st5, n5, w5⟩
      rcases turn i n H5 w5 with ⟨stop, qq⟩ | ⟨goi, Nx, hNx, step⟩
      · refine thnF (T.done (X.blk t3 H3 scope ce fp) rfl rfl rfl hc i [] t5 _ H5 (fun _ _ => False) I5 (still I5 n5) st5 stop) fun r t6 ⟨hr, I6⟩ => ?_
        subst hr
        have I7 : Inv X pins σ H5 t6 := I3.call' (ch := fp) I6.os I6.base I6.hok I6.bare fun b hb => ⟨(f3 b hb).1.2.2.2.1, (f3 b hb).1.2.1, (f3 b hb).1.2.2.2.2.1, (f3 b hb).1.2.2.2.2.2⟩
        have nC : H5 t3.heap.objs.size = none := by
          have z : H5 ce.locals = none := I6.free
          rwa [cL] at z
        obtain ⟨m, hn, _⟩ := I6.loc
        have hn' : t6.heap.Ns ce.locals m := hn
        rw [cL] at hn'
        exact hRR D t3.heap.objs.size t6 m H5 I7 qq hn' (I3.fpOk (Nat.le_refl _) nC)
      · refine thnF (T.item (X.blk t3 H3 scope ce fp) rfl rfl rfl hc i [] t5 _ H5 (fun _ _ => False) I5 (still I5 n5) st5 goi) fun r t6 ⟨u, hr, h6⟩ => ?_
        subst hr
        refine thnF h6 fun _ t7 ⟨x, H7, I7, r7, y7, st7, n7⟩ => ?_
        have P7 := I7.pinned (still I7 n7) (T.obj _ _ st7)
        refine thnF (bg.run _ t7 _ H7 x u _ P7 r7 (step x H7 y7)) fun _ t8 ⟨σ8, H8, I8, hw8, q8⟩ => ?_
        refine thnF (bt.run _ t8 σ8 H8 _ I8 q8) fun b t9 ⟨H9, I9, q9⟩ => ?_
        have fin : ∀ {s' : Shared} {H' : Hp}, Inv (X.blk t3 H3 scope ce fp) ([] ++ pinsAt fp t7.heap) σ8 H' s' → Nx H' → ∃ m, m < n ∧ ∃ i H', Inv (X.blk t3 H3 scope ce fp) [] (wipe σ (own.map (·.2))) H' s' ∧ tn i s'.heap ∧ (∀ b ∈ fp, H' b = none) ∧ Wv i m H' := fun {s' H'} I' nx => by
          obtain ⟨m', hm, w'⟩ := hNx H' nx
          have held : ∀ b ∈ fp, ∀ o, t7.heap.get? b = some o → s'.heap.get? b = some o ∧ H' b = none := fun b hb o e =>
            (I'.pin (b, o) (List.mem_append_right _ (List.mem_append_right _ (mem_pinsAt hb e)))).imp id fun z => z.1
          refine ⟨m', hm, i + 1, H', (I'.unpinned (pins := [])).weak (by rw [← hw8, wipe_length]) (fun j v e => ?_), T.keep _ _ _ st7 fun b hb o e => (held b hb o e).1, fun b hb => ?_, w'⟩
          · rw [← hw8] at e
            exact (wipe_some e).1
          · obtain ⟨o, e, _⟩ := T.obj _ _ st7 b hb
            exact (held b hb o e).2
        cases b with
        | false =>
          simp only [Bool.false_eq_true, if_false] at q9 ⊢
          exact fin I9 q9
        | true =>
          simp only [if_true] at q9 ⊢
          refine thnF (bk.run _ t9 σ8 H9 _ I9 q9) fun z1 t10 ⟨yk, H10, I10, r10, q10⟩ => ?_
          refine thnF (bv.run _ t10 σ8 H10 _ I10 q10) fun z2 t11 ⟨yv, H11, I11, r11, Z, ks, xv, o, k, hp, DD, kf, rk, hl, nx⟩ => ?_
          exact d_store (X := X.blk t3 H3 scope ce fp) (ca := ca) hu I11 hp DD kf rk r10 r11 fun o' t12 I12 nw => fin I12 (nx o' nw)
    exact codeAny_compStart_dict loop (T.self X.A 0 _ _ _ st4 loop)
  rw [hce, hD, ht3] at go
  exact go
end
end AM
/-! text AmQ -/
set_option Elab.async false
set_option linter.all false
set_option maxRecDepth 100000
set_option maxHeartbeats 2000000
/-! AmQ: errors as values. -/
namespace AM
open PySem PySem.Spec PyProof.Rows L2

section
variable {X : Cx} {ca : Nat → Addr} {c : Nat} {x : Str} {e : Expr} {m : E} {p pos : Pos}
/-- an error made is a value that stays tracked -/
theorem pe_mk {t : L2.St → Hp → XK → Prop} (h : PMk X e t) : PE X e (fun σ H Q => t σ H fun cls d H1 => ∃ C, cls = .ref C ∧ ∀ a, H1 a = none → Q (.ref a) (upd H1 a (exnO a C d))) := by
  refine ⟨fun pins s σ H Q I h' => wpAny_mono (h pins s σ H _ I h') (fun u s1 hu => ?_) fun _ _ z => z⟩
  obtain ⟨a, oe, vs, sI, H1, cls, d, rfl, J, k, hne, ha, hz, hd, h1, na, os, ag, r, C, rfl, q⟩ := hu
  have J2 := J.laidN (t' := s1.toks) (o := exnO a C d) k hne na (exn_ok ha hz.1 hz.2 hd)
  exact ⟨.ref a, _, J2.landed (B := s1.heap) (s' := s1) (fun _ _ e _ => e) (fun _ _ e => e) (fun b o e _ => ⟨o.slots, e⟩) os ag, rfl, q a na⟩
theorem noX_exn {c : Nat} : NoX (opExn c) := by
  intro rs bx w bx' h
  unfold opExn at h
  split at h <;> cases h
theorem noX_exn1 {c : Nat} : NoX (opExn1 c) := by
  intro rs bx w bx' h
  unfold opExn1 at h
  split at h <;> cases h
theorem noX_line : NoX opLine := by
  intro rs bx w bx' h
  unfold opLine at h
  split at h <;> cases h
/-- C(e), as a value -/
theorem se_exn (Ex : ExC0 X.K (ca c)) (gC : X.mg x = some (.ref (ca c))) (hg : Gl X x) (hdb : (x == ("__debug__" : Str)) = false) (hs : starEach [e] X.env = (false, eval e X.env) :: starEach [] X.env) (he : SE X ca m e) :
    SE X ca (eOp [m] (opExn c)) (.Call (.Name x p) [e] [] pos) := ⟨fun Wx tk =>
  PE.imp (pe_mk (SkE.pmk_own1 PySem.F.excBase_ValueError Ex.q gC Ex.kp (raises_own Ex.sb Ex.ty) hg (he.pe Wx tk) hs hdb)) fun σ H Q h => by
    have h := tM1 noX_exn h
    refine tM_imp h fun v H1 ⟨g, bx, rs, b, rr, q⟩ => ⟨ca c, rfl, fun a na => ?_⟩
    obtain ⟨r, rfl, r2⟩ := rr.one
    cases r2 with
    | v rw' =>
      obtain ⟨x, b'⟩ := b.frozen (o := exnO a (ca c) none) na
      exact q _ _ _ x b' (.v (.exn (.inr rfl) upd_same))
    | r _ => exact q.elim⟩
/-- o.line, of an error of class c -/
def opLn (c : Nat) : Op
  | [.v (.exn d [l])], bx => if d = c then .ok (.v l) bx else .stuck
  | _, _ => .stuck
theorem noX_ln {c : Nat} : NoX (opLn c) := by
  intro rs bx w bx' h
  unfold opLn at h
  split at h
  · split at h <;> cases h
  · cases h
theorem se_line (T : XfC X.K (ca c)) (hno : PySem.W.findIn X.K (.ref (ca c)) "line" = some none) (he : SE X ca m e) (hb : attributeBase e "line" X.env (eval e X.env) = eval e X.env) : SE X ca (eOp [m] (opLn c)) (.Attribute e "line" pos) := ⟨fun Wx tk => by
  refine ⟨fun pins s σ H Q I h => ?_⟩
  refine attr_of hb (thn ((he.pe Wx tk).run pins s σ H _ I (tM1 noX_ln h)) fun u s1 hh => ?_)
  obtain ⟨x, H1, I1, rx, g, bx, rs, b, rr, q⟩ := hh
  obtain ⟨r, rfl, r2⟩ := rr.one
  cases r2 with
  | r _ => exact q.elim
  | v r3 =>
    cases r3 with
    | @exn1 c2 a d i z1 e1 z2 e2 =>
      have q : PostO (fx X ca) g H1 Q (if c2 = c then .ok (.v (.int i)) bx else .stuck) := q
      by_cases hc : c2 = c
      · subst hc
        rw [if_pos rfl] at q
        obtain rfl : u = Value.ref a := rx
        obtain ⟨⟨oe, vs, ho, hcl, hdi, hda⟩, _, _⟩ := I1.hok a _ e1
        have hx : ObjOk X.prog X.w H1 s1.heap d (.xd [(("line" : Str), .int i)]) := I1.hok d _ e2
        obtain ⟨mA, hns, hr⟩ := hx
        obtain ⟨od, hod, hl⟩ := lookIn_ns hns
        obtain ⟨u2, hu, ru⟩ := RelO.some_of (v := .int i) (o := mA "line") (hr "line")
        have J : PySem.W.InstAt s1.heap a oe (ca c2) (some od) := ⟨ho, hcl, by unfold PySem.W.notCls; rw [hda] <;> rfl, by rw [hdi]; exact hod⟩
        exact HandSPX.exc_get I1.kIn J T.ga T.gg T.exC (PySem.W.findObj_own T.hdC hno rfl (by rw [hl, hu])) (handed_of ru) ⟨_, H1, I1.tok _, ru, q g H1 (.int i) (Ext.refl g H1) b (.v (.int i))⟩
      · rw [if_neg hc] at q
        exact q.elim
    | _ => exact q.elim⟩
end
end AM
namespace AM
open PySem PySem.Spec PyProof.Rows L2
section
variable {P : Program} {w : World} {K : PySem.W.Frag} {mg : Str → Option Value} {base : Heap} {ca : Nat → Addr} {k c' : Nat} {N : List Str} {sc : Scope} {fs : Str → Bool} {X : Cx} {x : Str} {e : Expr} {m : E} {p pos : Pos}
theorem v_exn (c : Con P w K mg base k N sc fs X) (Ex : ExC0 K (ca c')) (hm : mg x = some (.ref (ca c'))) (g : glB sc x = true) (he : SE X ca m e) (hs : starEach [e] X.env = (false, eval e X.env) :: starEach [] X.env := by rfl) : SE X ca (eOp [m] (opExn c')) (.Call (.Name x p) [e] [] pos) := by
  have g2 := g
  simp only [glB, Bool.and_eq_true] at g2
  exact se_exn (by rw [c.frag]; exact Ex) (by rw [c.glo]; exact hm) (c.gl g) (nmB_ok g2.2).1 hs he
theorem v_and1 {a : Expr} {ma : E} (ha : SE X ca ma a) : SE X ca (eAnd [ma]) (.BoolOp .And [a] pos) := se_and1 ha
theorem v_or1 {a : Expr} {ma : E} (ha : SE X ca ma a) : SE X ca (eOr [ma]) (.BoolOp .Or [a] pos) := se_and1 ha
theorem v_wand1 {a : Expr} {ma : E} (ha : ST X ca ma a) : SW X ca (eAnd [ma]) (.BoolOp .And [a] pos) := sw_and1 ha
theorem v_wor1 {a : Expr} {ma : E} (ha : ST X ca ma a) : SW X ca (eOr [ma]) (.BoolOp .Or [a] pos) := sw_or1 ha
theorem v_line (c : Con P w K mg base k N sc fs X) (T : XfC K (ca c') ∧ PySem.W.findIn K (.ref (ca c')) "line" = some none) (he : SE X ca m e) (hb : attributeBase e "line" X.env (eval e X.env) = eval e X.env := by rfl) : SE X ca (eOp [m] (opLn c')) (.Attribute e "line" pos) :=
  se_line (by rw [c.frag]; exact T.1) (by rw [c.frag]; exact T.2) he hb
/-- a constant of the text -/
def ConstOk (K : PySem.W.Frag) (mg : Str → Option Value) (ca : Nat → Addr) (x : Str) (wv : W) : Prop := ∃ v u, mg x = some u ∧ RelV v u ∧ ∀ P w Z H, RW ⟨P, w, K, ca⟩ Z H wv v
theorem v_con {wv : W} (c : Con P w K mg base k N sc fs X) (h : ConstOk K mg ca x wv) (g : glB sc x = true) : SE X ca (eC wv) (.Name x pos) := by
  obtain ⟨v, u, h1, h2, h3⟩ := h
  exact v_glob c g h1 h2 (h3 P w)
/-- C(i), C's own __init__ keeping the line; F n gives the room -/
def opX1 (F : Fn) (n c : Nat) : Op
  | [.v (.int i)], bx => if i.natAbs.log2 < 1920 then (match F n [.v (.int i)] bx with
    | .ok _ _ => .ok (.v (.exn c [.int i])) bx
    | _ => .stuck) else .stuck
  | _, _ => .stuck
theorem noX_x1 {F : Fn} {n c : Nat} : NoX (opX1 F n c) := by
  intro rs bx w bx' h
  unfold opX1 at h
  split at h
  · split at h
    · split at h <;> cases h
    · cases h
  · cases h
/-- what C(i) must do -/
def Make1 (X : Cx) (C : Addr) : Prop := ∀ (pins : List (Addr × Obj)) (σ : L2.St) (s : Shared) (H : Hp) (i : Int) (t : Tok) (Q : VK), i.natAbs.log2 < 1920 → Inv X pins σ H s →
  (∀ a d, H a = none → H d = none → d ≠ a → Q (.ref a) (upd (upd H d (.xd [(("line" : Str), .int i)])) a (exnO a C (some d)))) → wpAny (model X.prog X.w) X.A (call (.ref C) [.int i t]) (EP X pins σ Q) X.xe s
theorem tO_x1 {Fx' : Fx} {F : Fn} {n : Nat} {v : V} {H : Hp} {Q : VK} (h : tO Fx' (opX1 F n c') [v] H Q) : ∃ i, v = .int i ∧ i.natAbs.log2 < 1920 ∧ (∃ bx r bx', F n [.v (.int i)] bx = .ok r bx') ∧
    ∀ a d, H a = none → H d = none → d ≠ a → Q (.ref a) (upd (upd H d (.xd [(("line" : Str), .int i)])) a (exnO a (Fx'.ca c') (some d))) := by
  obtain ⟨g, bx, rs, b, rr, q⟩ := h
  obtain ⟨r, rfl, r2⟩ := rr.one
  cases r2 with
  | r _ => exact q.elim
  | v r3 =>
    cases r3 with
    | int i =>
      have q : PostO Fx' g H Q (if i.natAbs.log2 < 1920 then (match F n [.v (.int i)] bx with
        | .ok _ _ => .ok (.v (.exn c' [.int i])) bx
        | _ => .stuck) else .stuck) := q
      have hb : i.natAbs.log2 < 1920 := Classical.byContradiction fun z => by
        rw [if_neg z] at q
        exact q.elim
      rw [if_pos hb] at q
      cases e : F n [.v (.int i)] bx with
      | ok r1 bx1 =>
        rw [e] at q
        refine ⟨i, rfl, hb, ⟨bx, r1, bx1, e⟩, fun a d na nd ne => ?_⟩
        obtain ⟨x1, b1⟩ := b.frozen (o := .xd [(("line" : Str), .int i)]) nd
        have na1 : upd H d (.xd [(("line" : Str), .int i)]) a = none := by rw [upd_ne (Ne.symm ne)]; exact na
        obtain ⟨x2, b2⟩ := b1.frozen (o := exnO a (Fx'.ca c') (some d)) na1
        exact q _ _ _ (x1.trans x2) b2 (.v (.exn1 (.inr rfl) upd_same (.inl (.inr rfl)) (by rw [upd_ne ne]; exact upd_same)))
      | exc _ _ => rw [e] at q; exact q.elim
      | stuck => rw [e] at q; exact q.elim
    | _ => exact q.elim
/-- the class of errors whose __init__ keeps the line -/
structure X1Ok (P : Program) (w : World) (K : PySem.W.Frag) (mg : Str → Option Value) (base : Heap) (C : Addr) : Prop where
  kp : PySem.W.keepIn K (.ref C) = true
  make : ∀ X k N sc fs, Con P w K mg base (k + 1) N sc fs X → Make1 X C
theorem v_x1 {F : Fn} {n : Nat} (c : Con P w K mg base k N sc fs X) (hF : k = 0 → ∀ rs bx, F n rs bx = .stuck) (M : X1Ok P w K mg base (ca c')) (hm : mg x = some (.ref (ca c'))) (g : glB sc x = true) (he : SE X ca m e) (hs : starEach [e] X.env = (false, eval e X.env) :: starEach [] X.env := by rfl) :
    SE X ca (eOp [m] (opX1 F n c')) (.Call (.Name x p) [e] [] pos) := ⟨fun Wx tk => by
  have g2 := g
  simp only [glB, Bool.and_eq_true] at g2
  have hg := c.gl g
  have hdb := (nmB_ok g2.2).1
  refine ⟨fun pins s σ H Q I h => ?_⟩
  refine wpAny_Call_Name_kw (ld_glob I hg (by rw [c.glo]; exact hm) ?_ hdb)
  refine PySem.W.callWith_K (h₀ := X.base) I.ok.mod.kin (by rw [c.frag]; exact M.kp) ?_ hs (by rfl)
  rw [hs]
  show wpAny _ _ (spliced ((false, eval e X.env) :: backTo pos (starEach [] X.env))) _ _ s
  refine Calls.spliced_cons (thn ((he.pe Wx tk).run pins s σ H _ I (tM1 noX_x1 h)) fun u s1 ⟨v, H1, I1, r1, q1⟩ => ?_)
  refine Calls.spliced_nil ⟨I1.kIn, ?_⟩
  obtain ⟨i, rfl, hb, ⟨bx, r, bx', e1⟩, q⟩ := tO_x1 q1
  obtain ⟨t, rfl⟩ : ∃ t, u = Value.int i t := r1
  cases k with
  | zero =>
    rw [hF rfl] at e1
    cases e1
  | succ k => exact M.make X k N sc fs c pins σ s1 H1 i t Q hb I1 q⟩
/-- C(line=i) -/
def Make1K (X : Cx) (C : Addr) (nm : Str) : Prop := ∀ (pins : List (Addr × Obj)) (σ : L2.St) (s : Shared) (H : Hp) (i : Int) (t : Tok) (Q : VK), i.natAbs.log2 < 1920 → Inv X pins σ H s →
  (∀ a d, H a = none → H d = none → d ≠ a → Q (.ref a) (upd (upd H d (.xd [(("line" : Str), .int i)])) a (exnO a C (some d)))) → wpAny (model X.prog X.w) X.A (call (.ref C) [] [(nm, .int i t)]) (EP X pins σ Q) X.xe s
structure X1OkK (P : Program) (w : World) (K : PySem.W.Frag) (mg : Str → Option Value) (base : Heap) (C : Addr) (nm : Str) : Prop where
  kp : PySem.W.keepIn K (.ref C) = true
  make : ∀ X k N sc fs, Con P w K mg base (k + 1) N sc fs X → Make1K X C nm
theorem v_x1k {F : Fn} {n : Nat} {nm : Str} {kpos : Pos} (c : Con P w K mg base k N sc fs X) (hF : k = 0 → ∀ rs bx, F n rs bx = .stuck) (M : X1OkK P w K mg base (ca c') nm) (hm : mg x = some (.ref (ca c'))) (g : glB sc x = true) (he : SE X ca m e)
    (hall : (backToKw pos (keywordEach [⟨some nm, e, kpos⟩] X.env)).all (·.1.isSome) = true := by rfl) (hks : (backToKw pos (keywordEach [⟨some nm, e, kpos⟩] X.env)).filterMap (·.1) = [nm] := by rfl)
    (hpl : ((backTo pos (starEach [] X.env)).any (·.1) || (backToKw pos (keywordEach [⟨some nm, e, kpos⟩] X.env)).any (·.1.isNone)) = false := by rfl) :
    SE X ca (eOp [m] (opX1 F n c')) (.Call (.Name x p) [] [⟨some nm, e, kpos⟩] pos) := ⟨fun Wx tk => by
  have g2 := g
  simp only [glB, Bool.and_eq_true] at g2
  have hg := c.gl g
  have hdb := (nmB_ok g2.2).1
  refine ⟨fun pins s σ H Q I h => ?_⟩
  refine wpAny_Call_Name_kw (ld_glob I hg (by rw [c.glo]; exact hm) ?_ hdb)
  refine PySem.W.callWith_KW0 (h₀ := X.base) I.ok.mod.kin (by rw [c.frag]; exact M.kp) hall ?_ hpl
  refine thn ((pk_cons (he.pe Wx tk) pk_nil).run pos pins s σ H (fun zs H1 => ∃ i, zs = [.int i] ∧ i.natAbs.log2 < 1920 ∧ (∃ bx r bx', F n [.v (.int i)] bx = .ok r bx') ∧
    ∀ a d, H1 a = none → H1 d = none → d ≠ a → Q (.ref a) (upd (upd H1 d (.xd [(("line" : Str), .int i)])) a (exnO a (ca c') (some d)))) I (tM_imp (tM1 noX_x1 h) fun v H1 z => ?_)) fun ws s2 ⟨zs, H2, I2, rz, q2⟩ => ⟨I2.kIn, ?_⟩
  · obtain ⟨i, rfl, hb, z1, z2⟩ := tO_x1 z
    exact ⟨i, rfl, hb, z1, z2⟩
  · rw [hks]
    obtain ⟨i, rfl, hb, ⟨bx, r, bx', e1⟩, q⟩ := q2
    obtain ⟨u, rfl, t, rfl⟩ := vals1 rz
    cases k with
    | zero =>
      rw [hF rfl] at e1
      cases e1
    | succ k => exact M.make X k N sc fs c pins σ s2 H2 i t Q hb I2 q⟩
end
end AM
/-! text AmH -/
set_option Elab.async false
set_option linter.all false
set_option maxRecDepth 100000
set_option maxHeartbeats 2000000
/-! AmH: what the head tells. -/
namespace AM
open PySem PySem.Spec PyProof.Rows L2
/-- what is reached from the module's names, the row of modules, the statics -/
def frM (n : Nat) (g : Addr → Option Obj) : PySem.W.Frag := He.frG g (sysModules :: cStatics :: He.asD g n)
/-- a class's own __init__ that speaks of super(): the class, the qualified name, parameters, body, scope -/
structure X1D where
  x : Str
  qual : Str
  params : Arguments
  body : List Stmt
  scope : Scope
abbrev FnC : Type := Option (Str × Arguments × FuncBody × Scope × Addr × List Str × Value × Addr)
def fnC (K : PySem.W.Frag) (x : Str) : FnC := match K.lookup (He.ma K (He.ga K x) "__init__") with
  | some ⟨_, _, .func fd, _⟩ => some (fd.qualname, fd.params, fd.body, fd.scope, fd.globals, fd.closure.map (·.1), fd.defaults, fd.builtins)
  | _ => none
def X1D.val (d : X1D) : FnC := some (d.qual, d.params, .stmts d.body, d.scope, mainGlobals, ["__class__"], .none, builtinsNs)
abbrev AlM : Type := He.AlD × (Bool × List FnC)
def obsM (n : Nat) (fa : List He.Fa) (fn : List He.DefD) (fc : List X1D) (ex : PySem.W.Frag → Bool) (g : Addr → Option Obj) : AlM := (He.obsD fa fn (frM n g), ex (frM n g), fc.map fun d => fnC (frM n g) d.x)
def hookM (n : Nat) (fa : List He.Fa) (fn : List He.DefD) (fc : List X1D) (ex : PySem.W.Frag → Bool) : PySem.W.Hook where
  α := AlM
  obs := fun s => obsM n fa fn fc ex s.heap.get?
  val := fun _ => (He.valD fn, true, fc.map X1D.val)
  says := fun _ h => ∃ K : PySem.W.Frag, K.In h ∧ He.SaysD fa fn K ∧ ex K = true ∧ ∀ d ∈ fc, fnC K d.x = d.val
  of := fun _ _ e => ⟨_, He.frG_in, congrArg (fun z : AlM => z.1) e, congrArg (fun z : AlM => z.2.1) e, fun d hd => by
    have z := congrArg (fun z : AlM => z.2.2) e
    obtain ⟨i, hi, hx⟩ := List.mem_iff_getElem.mp hd
    have z2 := congrArg (fun l : List FnC => l[i]?) z
    simp only [obsM, List.getElem?_map, List.getElem?_eq_getElem hi, hx, Option.map_some, Option.some.injEq] at z2
    exact z2⟩
  keeps := fun _ _ _ ⟨K, hK, c⟩ k => ⟨K, PySem.W.Frag.In.keeps hK k, c⟩
theorem obsM_eq {n : Nat} {fa : List He.Fa} {fn : List He.DefD} {fc : List X1D} {ex : PySem.W.Frag → Bool} {g : Addr → Option Obj} {s : Shared} (h : ∀ a, g a = s.heap.get? a) : obsM n fa fn fc ex g = (hookM n fa fn fc ex).obs s := by
  have e : g = s.heap.get? := funext h
  rw [e] <;> rfl
/-! ### the classes' table, looked through -/
def clsB (K : PySem.W.Frag) (C : Addr) : Bool := PySem.W.plainGet K C Str.empty && (PySem.W.hasDictIn K C && (PySem.W.plainOver K C && decide (PySem.W.findIn K (.ref C) "__setattr__" = some (some (.builtin "object.__setattr__")))))
def comB (K : PySem.W.Frag) (C : Addr) : Bool := decide (PySem.W.findIn K (.ref C) "__class__" = some (some (.builtin "object.__class__"))) && (decide (PySem.W.specialIn K (.builtin "object.__class__") "__get__" = some (some (.builtin "getset_descriptor.__get__"))) &&
  (decide (PySem.W.takesIn K (.builtin "object.__class__") = some true) && decide (PySem.W.mroIn K C (.type "object") = some true)))
def excB (K : PySem.W.Frag) (C : Addr) : Bool := decide (PySem.W.findIn K (.ref C) "__getattribute__" = some (some (.builtin "BaseException.__getattribute__"))) && (decide (PySem.W.findIn K (.ref C) "__getattr__" = some none) &&
  (decide (PySem.W.subIn K (.ref C) (.type "BaseException") = some true) && (PySem.W.hasDictIn K C && comB K C)))
theorem ba2 {a b : Bool} (h : (a && b) = true) : a = true ∧ b = true := Bool.and_eq_true_iff.mp h
theorem excB_ok {K : PySem.W.Frag} {C : Addr} (h : excB K C = true) : ExcC K C := by
  obtain ⟨h1, h⟩ := ba2 h
  obtain ⟨h2, h⟩ := ba2 h
  obtain ⟨h3, h⟩ := ba2 h
  obtain ⟨h4, h⟩ := ba2 h
  obtain ⟨h5, h⟩ := ba2 h
  obtain ⟨h6, h⟩ := ba2 h
  obtain ⟨h7, h8⟩ := ba2 h
  exact ⟨of_decide_eq_true h1, of_decide_eq_true h2, of_decide_eq_true h3, h4, of_decide_eq_true h5, of_decide_eq_true h6, of_decide_eq_true h7, of_decide_eq_true h8⟩
theorem clsIB_ok {K : PySem.W.Frag} {C : Addr} (h : (clsB K C && comB K C) = true) : ClsI K C := by
  obtain ⟨h0, h⟩ := ba2 h
  obtain ⟨h1, h0⟩ := ba2 h0
  obtain ⟨h2, h0⟩ := ba2 h0
  obtain ⟨h3, h4⟩ := ba2 h0
  obtain ⟨h5, h⟩ := ba2 h
  obtain ⟨h6, h⟩ := ba2 h
  obtain ⟨h7, h8⟩ := ba2 h
  exact ⟨⟨h1, h2, h3, of_decide_eq_true h4⟩, of_decide_eq_true h5, of_decide_eq_true h6, of_decide_eq_true h7, of_decide_eq_true h8⟩
def tyAll : List Ty := [.int, .bool, .str, .tuple, .list, .dict]
theorem tyAll_all (t : Ty) : t ∈ tyAll := by cases t <;> decide
def tabB (K : PySem.W.Frag) (ca : Nat → Addr) (T : Tab) : Bool := (List.range T.n).all fun c => (if T.exc c then excB K (ca c) else (clsB K (ca c) && comB K (ca c))) &&
  (((List.range T.n).all fun d => decide (PySem.W.kitOne K (.ref (ca d)) (.ref (ca c)) = some (T.sub d c))) && ((tyNames.all fun nm => decide (PySem.W.kitOne K (.type nm) (.ref (ca c)) = some false)) &&
    ((tyAll.all fun t => decide (PySem.W.kitOne K (.ref (ca c)) (.type (tyN t)) = some false)) && decide (PySem.W.kitOne K (.ref (ca c)) (.type "ValueError") = some (T.exc c)))))
theorem tabB_ok {K : PySem.W.Frag} {ca : Nat → Addr} {T : Tab} (h : tabB K ca T = true) : TabOk K ca T := by
  have key : ∀ c, c < T.n → (if T.exc c then excB K (ca c) else (clsB K (ca c) && comB K (ca c))) = true ∧ (∀ d, d < T.n → PySem.W.kitOne K (.ref (ca d)) (.ref (ca c)) = some (T.sub d c)) ∧ (∀ nm ∈ tyNames, PySem.W.kitOne K (.type nm) (.ref (ca c)) = some false) ∧
      (∀ t, PySem.W.kitOne K (.ref (ca c)) (.type (tyN t)) = some false) ∧ PySem.W.kitOne K (.ref (ca c)) (.type "ValueError") = some (T.exc c) := fun c hc => by
    have q := List.all_eq_true.mp h c (List.mem_range.mpr hc)
    obtain ⟨h1, q⟩ := ba2 q
    obtain ⟨h2, q⟩ := ba2 q
    obtain ⟨h3, q⟩ := ba2 q
    obtain ⟨h4, h5⟩ := ba2 q
    exact ⟨h1, fun d hd => of_decide_eq_true (List.all_eq_true.mp h2 d (List.mem_range.mpr hd)), fun nm m => of_decide_eq_true (List.all_eq_true.mp h3 nm m), fun t => of_decide_eq_true (List.all_eq_true.mp h4 t (tyAll_all t)), of_decide_eq_true h5⟩
  refine ⟨fun c hc e => ?_, fun c hc e => ?_, fun c d hc hd => (key c hc).2.1 d hd, fun c nm hc m => (key c hc).2.2.1 nm m, fun c t hc => (key c hc).2.2.2.1 t, fun c hc => (key c hc).2.2.2.2⟩
  · have z := (key c hc).1
    rw [e] at z
    exact clsIB_ok z
  · have z := (key c hc).1
    rw [e] at z
    exact excB_ok z
/-- the row of modules stands -/
def sysB (K : PySem.W.Frag) : Bool := match K.lookup sysModules with
  | some o => decide (o.cls ≠ .type "list")
  | none => false
theorem sysB_ok {K : PySem.W.Frag} (h : sysB K = true) : ∃ o, K.lookup sysModules = some o ∧ o.cls ≠ .type "list" := by
  unfold sysB at h
  cases e : K.lookup sysModules with
  | none => rw [e] at h; cases h
  | some o => rw [e] at h; exact ⟨o, rfl, of_decide_eq_true h⟩
def lnB (K : PySem.W.Frag) (C : Addr) : Bool := L2.xfB K C && decide (PySem.W.findIn K (.ref C) "line" = some none)
theorem lnB_ok {K : PySem.W.Frag} {C : Addr} (h : lnB K C = true) : XfC K C ∧ PySem.W.findIn K (.ref C) "line" = some none := by
  obtain ⟨h1, h2⟩ := ba2 h
  exact ⟨L2.xfB_ok h1, of_decide_eq_true h2⟩
theorem exc0_ok {K : PySem.W.Frag} {x : Str} (c : (He.Fa.exc x).ok K = true) : ExC0 K (He.ga K x) := by
  obtain ⟨h1, h2, h3, h4⟩ := He.exc_ok c
  exact ⟨h1, h2, h3, h4⟩
theorem walk_M {l : PySem.W.OpenLaw} {n : Nat} {q : Program} {loose : List Str} {XP : (Str → Option Value) → Heap → Prop} {YP : World → Heap → Prop} {d : DefRec}
    (hn : l.most = some n) (hn2 : n ≤ sizeLine) (hdf : d.params.defaults = [])
    (F : ∀ (w : World) (mg : Str → Option Value) (h : Heap), YP w h → h.Ns mainGlobals mg → ∃ (K : PySem.W.Frag) (ca : Nat → Addr) (k : Nat) (Fm : List R → Bx → Res), K.In h ∧ k ≤ 45 ∧ (∀ ns : List Int, ns.length ≤ n → ∃ bx, Fm [scrR ns] [] = .ok (.v (.bl true)) bx) ∧
      ∀ base : Heap, K.In base → base.Ns mainGlobals mg → FunOk l.prog w K mg base ca k Fm 1 d.name) :
    PySem.W.WalkO q loose XP YP l.row.toRowW d [] (fun f vs => PySem.call f vs) := by
  refine Att.attach_call hn hdf fun w s₀ s₁ mg mb fa o pm cd doc a vs ns G Y ho hd hcd hmg hobj hints hlen hg => ?_
  obtain ⟨K, ca, k, Fm, KX, hk, hF, hO⟩ := F w mg _ Y G.T.g
  exact law_end KX G.T.g G.T.b G.T.builtins G.T.nolimit hg hobj hints (Nat.le_trans hlen hn2) hk hO hmg (hF ns hlen)
end AM
/-! text AmY -/
set_option Elab.async false
set_option linter.all false
set_option maxRecDepth 100000
set_option maxHeartbeats 4000000
/-! AmY: an own error whose __init__ says super().__init__(f'..{line}') and self.line = line. -/
namespace AM
open PySem PySem.Spec PyProof.Rows L2

/-- the body's frame -/
abbrev x1env (q : Str) (scope : Scope) (L f cda cc : Addr) : Env := PySem.W.ksEnv q scope L f (.ref cda) cc
def x1cx (P : Program) (w : World) (K : PySem.W.Frag) (mg : Str → Option Value) (base : Heap) (q : Str) (scope : Scope) (f cda cc : Addr) (A : Around) (outer : List Env) (s : Shared) (H : Hp) : Cx where
  prog := P
  w := w
  K := K
  mg := mg
  base := base
  A := A.deeper (x1env q scope s.heap.objs.size f cda cc)
  N := ["self", "line"]
  s_0 := s
  H_0 := H
  env := x1env q scope s.heap.objs.size f cda cc
  outer := outer
  stack := x1env q scope s.heap.objs.size f cda cc :: outer
  ex := []
  calm := true
  fn := fun _ => false
  pn := []
  xe := fun _ _ => False
/-- what the written part tells -/
structure X1F (P : Program) (K : PySem.W.Frag) (mg : Str → Option Value) (C fI cc cda : Addr) (params : Arguments) (body : List Stmt) (scope : Scope) (q : Str) : Prop where
  t : OexC K C
  init : PySem.W.findIn K (.ref C) "__init__" = some (some (.ref fI))
  tyI : PySem.W.typeIn K (.ref fI) = some (.type "function")
  lk : ∃ oc od kV doc pm an ct osl nm, K.lookup fI = some ⟨oc, od, .func (PySem.W.ksFn nm q params body scope .none kV doc pm an (.ref cda) ct cc), osl⟩
  cd : PySem.W.codeIn K (.ref cda) q = true
  file : ∃ ccl cdd vs ccs file tf, K.lookup cda = some ⟨ccl, cdd, .fields vs, ccs⟩ ∧ vs[2]? = some (.str file tf) ∧ ((P.main.file : Str) == file) = true
  cell : ∃ cl cld csl, K.lookup cc = some ⟨cl, cld, .cell (some (.ref C)), csl⟩
  sup : mg "super" = none
  tp : PySem.W.nsIn K cStatics "thirdparty.any" = some none
  sin : PySem.W.ks_superIn K C C "__init__" = some (some (.builtin "ValueError.__init__"))
  top : (P.main.scope.names.lookup ("super" : Str)).isSome = false
  mro : PySem.W.mroIn K C (.ref C) = some true
  sub : PySem.W.subIn K (.ref C) (.type "ValueError") = some true
  line : PySem.W.findIn K (.ref C) "line" = some none
/-- the scope of the body -/
structure X1S (scope : Scope) : Prop where
  kind : scope.kind = .function
  co : scope.isCoroutine = false
  gen : scope.isGenerator = false
  self : scope.names.lookup ("self" : Str) = some .local
  line : scope.names.lookup ("line" : Str) = some .local
  cls : scope.names.lookup ("__class__" : Str) = some .free
  sup : scope.names.lookup ("super" : Str) = some .globalImplicit
  nocell : ∀ x ∈ scope.names, x.2 ≠ .cell
  one : ∀ y, scope.names.lookup y = some .free → y = "__class__"
section
variable {P : Program} {w : World} {K : PySem.W.Frag} {mg : Str → Option Value} {base : Heap} {q : Str} {scope : Scope} {f cda cc C : Addr} {A : Around} {outer : List Env} {s : Shared} {H : Hp} {h₀ : Heap} {a : Addr} {i : Int} {t : Tok} {params : Arguments} {body : List Stmt}
theorem cells1 {x : Str} {c : Addr} (h : List.lookup x [(("__class__" : Str), cc)] = some c) : x = "__class__" ∧ c = cc := by
  by_cases e : x = "__class__"
  · subst e
    simp [List.lookup] at h
    exact ⟨rfl, h.symm⟩
  · have e2 : (x == ("__class__" : Str)) = false := by simpa using e
    simp [List.lookup, e2] at h
theorem x1_inv (F : X1F P K mg C f cc cda params body scope q) (S : X1S scope) (hd : A.handled = none) (e0 : Env0 P w K mg base A outer s H) {n : Nat}
    (hn : h₀.Ns s.heap.objs.size (fun x => ([(("self" : Str), Value.ref a), ("line", .int i t)]).reverse.lookup x)) (hk : ∀ b o, s.heap.get? b = some o → h₀.get? b = some o) :
    Inv (x1cx P w K mg base q scope f cda cc A outer s H) [] [some (.ref a), some (.int i)] H { s with heap := h₀, toks := s.toks + n } := by
  obtain ⟨cl, cld, csl, hcc⟩ := F.cell
  have hbase : base.get? cc = some ⟨cl, cld, .cell (some (.ref C)), csl⟩ := e0.mod.kin _ _ hcc
  obtain ⟨hs, hHc⟩ := e0.bs _ _ hbase
  have noA : ∀ b : Addr, b ∉ (x1cx P w K mg base q scope f cda cc A outer s H).ex := fun b z => absurd (show b ∈ ([] : List Addr) from z) (by simp)
  refine ⟨⟨e0.mod, S.kind, rfl, rfl, Nat.le_refl _, fun y z c h1 h2 => ?_, fun y hy => ?_, fun y c h _ => ?_, fun _ => hd, Around.frames_deeper e0.frames, .inr ⟨rfl, rfl⟩, fun b z => absurd z (noA b), e0.bs, e0.bsz, fun b _ _ => noA b, fun b z => absurd z (noA b), e0.funs, e0.frf⟩,
    rfl, e0.bare, Un.kept hk, ⟨_, hn, fun j y v h1 h2 h3 => ?_⟩, fun y c h => ?_, e0.hok.fresh (Nat.le_refl _), fun y c h => ?_, fun p hp => absurd (show p ∈ ([] : List (Addr × Obj)) from hp) (by simp), e0.hok.kept hk, rfl⟩
  · rw [(cells1 h1).1, (cells1 h2).1]
  · have hy : scope.names.lookup y = some .cell ∨ scope.names.lookup y = some .free := hy
    rcases hy with hy | hy
    · exact absurd rfl (S.nocell _ (PySem.mem_of_lookup hy))
    · have := S.one y hy
      subst this
      exact ⟨cc, by first | rfl | simp [x1cx]⟩
  · cases h
  · have h1 : ([("self" : Str), "line"])[j]? = some y := h1
    match j, h1, h2 with
    | 0, h1, h2 =>
      simp at h1 h2
      subst h1
      subst h2
      exact ⟨.ref a, rfl, .inl ⟨S.self, by rfl⟩⟩
    | 1, h1, h2 =>
      simp at h1 h2
      subst h1
      subst h2
      exact ⟨.int i t, ⟨t, rfl⟩, .inl ⟨S.line, by rfl⟩⟩
    | j + 2, h1, h2 => simp at h1
  · obtain ⟨rfl, rfl⟩ := cells1 h
    exact ⟨_, _, hk _ _ hs, rfl⟩
  · obtain ⟨rfl, rfl⟩ := cells1 h
    exact hHc

/-- self stands as an error in the making -/
theorem x1_at {X : Cx} {pins : List (Addr × Obj)} {σ : L2.St} (I : Inv X pins σ H s) (ea : H a = some (exo a C none)) : ∃ t1 : Addr, PySem.W.InstAt s.heap a ({ cls := .ref C, dict := none, data := .fields #[.ref t1, .none, .none, .none, .bool false, .none] } : Obj) C none := by
  obtain ⟨t1, ho⟩ := exo_at I.hok ea
  exact ⟨t1, ho, rfl, rfl, trivial⟩
/-- super() in the body -/
theorem x1_super {pins : List (Addr × Obj)} {σ : L2.St} {s1 : Shared} {H1 : Hp} {p0 p1 : Pos} {whole : Sem Value} {Q : Value → Shared → Prop} (F : X1F P K mg C f cc cda params body scope q) (S : X1S scope) (hpar : ∃ ar : Arg, (params.posonlyargs ++ params.args).head? = some ar ∧ ar.arg = ("self" : Str))
    (hσ : σ[0]? = some (some (.ref a))) (I : Inv (x1cx P w K mg base q scope f cda cc A outer s H) pins σ H1 s1) (ea : H1 a = some (exo a C none))
    (h : ∀ so h', Inv (x1cx P w K mg base q scope f cda cc A outer s H) pins σ H1 { s1 with heap := h' } → h'.get? so = some (PySem.W.ks_superObj C a C) → Q (.ref so) { s1 with heap := h' }) :
    _root_.PySem.wpAt (model P w) (x1cx P w K mg base q scope f cda cc A outer s H).A (.func body (x1env q scope s.heap.objs.size f cda cc)) (attributeBase (.Call (.Name "super" p0) [] [] p1) "__init__" (x1env q scope s.heap.objs.size f cda cc) whole) Q (fun _ _ => False) s1 := by
  obtain ⟨ar, har, hself⟩ := hpar
  obtain ⟨oc, od, kV, doc, pm, an, ct, osl, nm, hlk⟩ := F.lk
  obtain ⟨ccl, cdd, vs, ccs, file, tf, hcda, hvs, hfile⟩ := F.file
  obtain ⟨cl, cld, csl, hcc⟩ := F.cell
  have KX : K.In s1.heap := I.kIn
  have hm : PySem.W.mroIn K C (.ref C) = some true := F.mro
  obtain ⟨t1, IA⟩ := x1_at I ea
  obtain ⟨mb, hb1, hb2⟩ := I.mod.blt
  obtain ⟨m, hns, hloc⟩ := I.loc
  obtain ⟨u, ru, hu⟩ := hloc 0 "self" (.ref a) rfl hσ (.inl S.self)
  obtain rfl : u = Value.ref a := ru
  have hu : m "self" = some (.ref a) := by
    rcases hu with hu | ⟨hu, _⟩
    · exact hu.2
    · rcases hu with hu | hu
      · exact absurd (S.self.symm.trans hu) (by decide)
      · exact absurd (S.self.symm.trans hu) (by decide)
  obtain ⟨nmC, qC, NC, bs, bm, sn, sub, ab, col, dd, k0, k1, k2, k3, k5, hC, hbm⟩ := F.t.cls
  refine ks_wpAt_super_base (env := x1env q scope s.heap.objs.size f cda cc) S.sup S.cls (by rfl) rfl (KX _ _ hlk) rfl har rfl (KX _ _ hcda) rfl hvs hfile F.top ?_
  refine PySem.W.ks_loadName_global S.kind S.sup (PySem.Calls.loadGlobal_builtin (env := x1env q scope s.heap.objs.size f cda cc) (I.mod.glob.keeps I.bk) F.sup (hb1.keeps I.bk) ((hb2 "super" (by decide)).trans (by first | rfl | kernel_rfl)) ⟨rfl, ?_⟩)
  refine wpAny_loadName_free (c := cc) S.kind S.cls (by rfl) ⟨_, KX _ _ hcc, rfl⟩ ?_
  refine wpAny_loadName_local S.kind (by rw [hself]; exact S.self) hns (by rw [hself]; exact hu) ?_
  obtain ⟨hp, g, d, tk, os⟩ := s1
  refine ks_wpAny_isType_cls (KX _ _ hC) rfl ⟨rfl, ?_⟩
  refine ks_wpAny_call_super (KX _ _ hC) rfl IA.at_ IA.cls (fun c e => by cases e) (PySem.W.looks_mroIn KX hm) (fun h' e k => ?_)
  exact h _ _ (I.kept (t' := tk) k) e

/-- super().__init__, bound -/
theorem x1_meth {X : Cx} {pins : List (Addr × Obj)} {σ : L2.St} {s1 : Shared} {H1 : Hp} {so : Addr} {pl : Sem Bool} {Q : Value × List Value → Shared → Prop} {E : Value → Shared → Prop} (F : X1F P X.K mg C f cc cda params body scope q) (I : Inv X pins σ H1 s1) (ea : H1 a = some (exo a C none)) (hso : s1.heap.get? so = some (PySem.W.ks_superObj C a C))
    (h : ∀ u h' tk, Inv X (pins ++ [(u, PySem.W.kxs_mw "ValueError.__init__" a)]) σ H1 { s1 with heap := h', toks := tk } → Q (.ref u, []) { s1 with heap := h', toks := tk }) :
    wpAny (model X.prog X.w) A (getMethod (.ref so) "__init__" pl) Q E s1 := by
  obtain ⟨t1, IA⟩ := x1_at I ea
  have KX : X.K.In s1.heap := I.kIn
  have hI : PySem.W.Looks (model X.prog X.w) s1.heap (isInstance (.ref a) (.type "ValueError")) true := IA.type.andThen (PySem.W.looks_subIn KX F.sub)
  have hm := F.sin
  cases hc : PySem.W.clsIn X.K C with
  | none => unfold PySem.W.ks_superIn at hm; rw [hc] at hm; cases hm
  | some cd =>
    unfold PySem.W.ks_superIn at hm
    rw [hc] at hm
    obtain ⟨hp, g, d, tk, os⟩ := s1
    refine PySem.W.kxs_getMethod PySem.W.kxs_ValueError hso (PySem.W.looks_opaque KX F.tp) (l₀ := cd.mro) ?_ rfl KX hm hI (PySem.W.ks_ne KX IA hc) (by rfl) ?_
    · exact fun A Q E s k q => wpAny_bind ((PySem.W.looks_clsIn KX hc) A _ E s k (wpAny_pure q))
    · have k : ∀ b o, hp.get? b = some o → (hp.push (PySem.W.kxs_mw "ValueError.__init__" a)).get? b = some o := fun b o e => Heap.get?_push_of_some _ e
      have J := I.kept (t' := tk + 1) k
      have hu : (hp.push (PySem.W.kxs_mw "ValueError.__init__" a)).get? hp.objs.size = some (PySem.W.kxs_mw "ValueError.__init__" a) := Heap.get?_push_at rfl rfl
      refine h _ _ _ (J.pins_of fun p hp' => ?_)
      rcases List.mem_append.mp hp' with z | z
      · exact J.pin p (List.mem_append_right _ z)
      · rw [List.mem_singleton] at z
        subst z
        refine ⟨hu, I.hok.fresh (Nat.le_refl _), Nat.ne_of_gt I.lt, I.nofs (Nat.le_refl _), fun v z => ?_⟩
        cases z
/-- .. called -/
theorem x1_call {X : Cx} {pins : List (Addr × Obj)} {σ : L2.St} {s1 : Shared} {H1 : Hp} {u : Addr} {us : List Value} {Q : Value → Shared → Prop} {E : Value → Shared → Prop} (T : OexC X.K C) (I : Inv X pins σ H1 s1) (ea : H1 a = some (exo a C none)) (hu : s1.heap.get? u = some (PySem.W.kxs_mw "ValueError.__init__" a)) (hl : us.length ≤ sizeLine)
    (h : ∀ s', Inv X pins σ H1 s' → Q .none s') : wpAny (model X.prog X.w) A (call (.ref u) us) Q E s1 := by
  obtain ⟨nm, q, N, bs, bm, sn, sub, ab, col, dd, k0, k1, k2, k3, k5, hC, hbm⟩ := T.cls
  obtain ⟨t1, ho⟩ := exo_at I.hok ea
  have KX : X.K.In s1.heap := I.kIn
  obtain ⟨hp, g, d, tk, os⟩ := s1
  refine wpAny_call (codeAny_of_tree ?_)
  show wpAny _ A.in1 (callAny (.ref u) ⟨us, []⟩) _ _ _
  simp only [callAny]
  refine wpAny_bind (wpAny_load hu ?_)
  simp only [PySem.W.kxs_mw, show (Value.type "method-wrapper" == Value.type "method" || Value.type "method-wrapper" == Value.type "builtin_function_or_method" || Value.type "method-wrapper" == Value.type "method-wrapper") = true by decide, if_true]
  refine PySem.W.KFB.if_so (by decide) ?_
  refine wpAny_bind (PySem.W.check_bound_init PySem.F.excBase_ValueError.toExcCallFacts (KX _ _ hC) ho rfl ?_)
  refine wpAny_bind (wpAny_pure (wpAny_pure ?_))
  refine ⟨plainId_quiet PySem.F.excBase_ValueError.init.plain _, codeAny_builtin PySem.F.excBase_ValueError.initEntry ?_⟩
  refine PySem.W.exc_init_tree (cls := .ref C) (t0 := t1) (dv := none) (c2 := .none) (c3 := .none) (b4 := .bool false) ho hl fun h' k hx ht => ?_
  have J := I.write (t' := tk) (x := a) (e := a) (o := exo a C none) (by rw [ea]; exact True.intro) (.inl rfl) k ⟨_, hx⟩ (exo_ok hx)
  have eu : upd H1 a (exo a C none) = H1 := by
    funext b
    by_cases hb : b = a
    · rw [hb, upd_same, ea]
    · rw [upd_ne hb]
  rw [eu] at J
  exact h _ J
/-- the statement super().__init__(e) -/
theorem x1_first {σ : L2.St} {s1 : Shared} {H1 : Hp} {e : Expr} {te : TE} {p0 p1 p2 p7 p8 : Pos} (F : X1F P K mg C f cc cda params body scope q) (S : X1S scope) (hpar : ∃ ar : Arg, (params.posonlyargs ++ params.args).head? = some ar ∧ ar.arg = ("self" : Str))
    (hσ : σ[0]? = some (some (.ref a))) (he : PE (x1cx P w K mg base q scope f cda cc A outer s H) e te) (ht : te σ H1 fun _ H2 => H2 = H1) (I : Inv (x1cx P w K mg base q scope f cda cc A outer s H) [] σ H1 s1) (ea : H1 a = some (exo a C none))
    (hs : starEach [e] (x1env q scope s.heap.objs.size f cda cc) = (false, eval e (x1env q scope s.heap.objs.size f cda cc)) :: starEach [] (x1env q scope s.heap.objs.size f cda cc)) (pl : Sem Bool)
    (hev : eval (.Call (.Attribute (.Call (.Name "super" p0) [] [] p1) "__init__" p2) [e] [] p7) (x1env q scope s.heap.objs.size f cda cc) = (do
      let ov ← attributeBase (.Call (.Name "super" p0) [] [] p1) "__init__" (x1env q scope s.heap.objs.size f cda cc) (eval (.Call (.Name "super" p0) [] [] p1) (x1env q scope s.heap.objs.size f cda cc))
      standAt p2.atName
      let (g, first) ← holding [ov] (getMethod ov "__init__" pl)
      callWith p7 g first (backTo p7 (starEach [e] (x1env q scope s.heap.objs.size f cda cc))) []))
    (hi : interactive (x1env q scope s.heap.objs.size f cda cc) = false) (hsw : swapsWith (.Call (.Attribute (.Call (.Name "super" p0) [] [] p1) "__init__" p2) [e] [] p7) none p8.line (x1env q scope s.heap.objs.size f cda cc) = pure false) :
    _root_.PySem.wpAt (model P w) (x1cx P w K mg base q scope f cda cc A outer s H).A (.func body (x1env q scope s.heap.objs.size f cda cc)) (exec (.Expr (.Call (.Attribute (.Call (.Name "super" p0) [] [] p1) "__init__" p2) [e] [] p7) p8) (x1env q scope s.heap.objs.size f cda cc))
      (fun fl s' => fl = .next ∧ Inv (x1cx P w K mg base q scope f cda cc A outer s H) [] σ H1 s') (fun _ _ => False) s1 := by
  refine ks_wpAt_Expr_any (ks_wpAt_MethodCall (pl := pl) (x1_super F S hpar hσ I ea fun so h' I2 hso => ?_) hev) hi hsw
  refine x1_meth (X := x1cx P w K mg base q scope f cda cc A outer s H) (mg := mg) F I2 ea hso fun u h2 tk I3 => ?_
  refine PySem.W.kxs_callWith (i := "ValueError.__init__") (x := a) (by rw [hs]; rfl) ?_
  rw [hs]
  refine PySem.Calls.evalArgs_plain (Calls.spliced_cons (thn (he.run _ _ σ H1 _ I3 ht) fun v s3 ⟨x, H2, I4, r, e2⟩ => ?_))
  subst e2
  refine Calls.spliced_nil ⟨(I4.pin (u, _) (by simp)).1, ?_⟩
  exact x1_call (X := x1cx P w K mg base q scope f cda cc A outer s H) F.t I4 ea (I4.pin (u, _) (by simp)).1 (by rw [sizeLine_eq]; simp) fun s' J => ⟨rfl, J.pins_of fun p hp => absurd hp (by simp)⟩

/-- what the body leaves -/
def X1R (P : Program) (w : World) (C : Addr) (outer : List Env) (s : Shared) (H : Hp) (a : Addr) (i : Int) (r : Result) (s' : Shared) : Prop := r = .ok (.ret .none) ∧ ∃ (dx : Addr) (H' : Hp), H dx = none ∧ dx ≠ a ∧ H' = upd (upd H dx (exd dx [(("line" : Str), .int i)])) a (exo a C (some dx)) ∧
  s'.os = s.os ∧ AllBare s'.gens ∧ Un (frs outer) [] H H' s.heap s'.heap ∧ HOk P w H' s'.heap
def x1body (z : Str) (p0 p1 p2 p3 p4 p5 p6 p7 p8 p9 p10 p11 p12 : Pos) : List Stmt := [.Expr (.Call (.Attribute (.Call (.Name "super" p0) [] [] p1) "__init__" p2) [.JoinedStr [.Constant (.str z) 0 p3, .FormattedValue (.Name "line" p4) (-1) none p5] p6] [] p7) p8,
  .Assign [.Attribute (.Name "self" p9) "line" p10] (.Name "line" p11) p12]

def x1sc : Scope := { kind := .function, names := [(("self" : Str), .local), (("line" : Str), .local), (("__class__" : Str), .free), (("super" : Str), .globalImplicit)], isGenerator := false, isCoroutine := false, more := [] }
theorem x1s : X1S x1sc := ⟨rfl, rfl, rfl, rfl, rfl, rfl, rfl, by decide +kernel, fun y h => by
  have z := PySem.mem_of_lookup h
  simp [x1sc] at z
  exact z⟩
/-- the call's tree, at these positions -/
def X1T (z : Str) (p0 p1 p2 p3 p4 p5 p6 p7 : Pos) : Prop := ∀ (q : Str) (L f cda cc : Addr), ∃ pl : Sem Bool, eval (.Call (.Attribute (.Call (.Name "super" p0) [] [] p1) "__init__" p2) [.JoinedStr [.Constant (.str z) 0 p3, .FormattedValue (.Name "line" p4) (-1) none p5] p6] [] p7) (x1env q x1sc L f cda cc) = (do
      let ov ← attributeBase (.Call (.Name "super" p0) [] [] p1) "__init__" (x1env q x1sc L f cda cc) (eval (.Call (.Name "super" p0) [] [] p1) (x1env q x1sc L f cda cc))
      standAt p2.atName
      let (g, first) ← holding [ov] (getMethod ov "__init__" pl)
      callWith p7 g first (backTo p7 (starEach [.JoinedStr [.Constant (.str z) 0 p3, .FormattedValue (.Name "line" p4) (-1) none p5] p6] (x1env q x1sc L f cda cc))) [])
theorem x1_run {z : Str} {p0 p1 p2 p3 p4 p5 p6 p7 p8 p9 p10 p11 p12 : Pos} {args : Args} (F : X1F P K mg C f cc cda params (x1body z p0 p1 p2 p3 p4 p5 p6 p7 p8 p9 p10 p11 p12) x1sc q) (hz : z.length ≤ 100) (hpar : ∃ ar : Arg, (params.posonlyargs ++ params.args).head? = some ar ∧ ar.arg = ("self" : Str))
    (hT : X1T z p0 p1 p2 p3 p4 p5 p6 p7) (hi : i.natAbs.log2 < 1920) (hd : A.handled = none) (hroom : A.depth < recursionLimit) (e0 : Env0 P w K mg base A outer s H) (ea : H a = some (exo a C none))
    (hb : ∀ nm kV doc pm an ct, bindArgs (PySem.W.ksFn nm q params (x1body z p0 p1 p2 p3 p4 p5 p6 p7 p8 p9 p10 p11 p12) x1sc .none kV doc pm an (.ref cda) ct cc) args = pure [(("self" : Str), .ref a), ("line", .int i t)]) :
    codeAny (model P w) A (.call (.ref f) args) (X1R P w C outer s H a i) s := by
  obtain ⟨oc, od, kV, doc, pm, an, ct, osl, nm, hlk⟩ := F.lk
  have KX : K.In s.heap := e0.mod.kin.keeps fun b o e => (e0.bs b o e).1
  have lim : s.heap.NoLimit := e0.mod.nolimit.keeps fun b o e => (e0.bs b o e).1
  refine ks_codeAny_call_defAt (fd := PySem.W.ksFn nm q params (x1body z p0 p1 p2 p3 p4 p5 p6 p7 p8 p9 p10 p11 p12) x1sc .none kV doc pm an (.ref cda) ct cc) (body := x1body z p0 p1 p2 p3 p4 p5 p6 p7 p8 p9 p10 p11 p12) (binds := [(("self" : Str), .ref a), ("line", .int i t)])
    hroom (KX _ _ hlk) rfl lim (PySem.W.codeRec_of KX F.cd) rfl (.of_eq (hb _ _ _ _ _ _)) x1s.nocell (fun x hx => ?_) (fun h₀ hns hk => ?_) x1s.co x1s.gen x1s.kind
  · rcases List.mem_cons.mp hx with rfl | hx
    · exact x1s.self
    · rw [List.mem_singleton] at hx
      subst hx
      exact x1s.line
  have I := x1_inv (w := w) (n := [(("self" : Str), Value.ref a), (("line" : Str), Value.int i t)].length) F x1s hd e0 hns hk
  show _root_.PySem.wpAt (model P w) (x1cx P w K mg base q x1sc f cda cc A outer s H).A (.func (x1body z p0 p1 p2 p3 p4 p5 p6 p7 p8 p9 p10 p11 p12) (x1env q x1sc s.heap.objs.size f cda cc)) (execs (x1body z p0 p1 p2 p3 p4 p5 p6 p7 p8 p9 p10 p11 p12) (x1env q x1sc s.heap.objs.size f cda cc)) _ _ _
  obtain ⟨pl, hev⟩ := hT q s.heap.objs.size f cda cc
  have vline : PE (x1cx P w K mg base q x1sc f cda cc A outer s H) (.Name "line" p4) (tVar 1) := pe_var rfl (.inl x1s.line) (by rfl) (by rfl)
  have vtext := pe_joined (pos := p6) (.cons (pe_str (X := x1cx P w K mg base q x1sc f cda cc A outer s H) (x := z) (j := 0) (pos := p3)) (.cons (pe_fmt (pos := p5) vline) .nil))
  refine ks_wpAt_execs_cons (ks_wpAt_mono (x1_first F x1s hpar rfl vtext ?_ I ea (by rfl) pl hev I.quiet (by rfl)) (fun fl s2 h2 => ?_) fun _ _ x => x.elim)
  · refine ⟨z, rfl, ?_, ?_⟩
    · rw [strLen_append, sizeLine_eq]
      have : (Str.empty : Str).length = 0 := rfl
      omega
    · refine ⟨.int i, rfl, .inr ⟨i, rfl, hi, ?_⟩⟩
      refine ⟨_, rfl, ?_, rfl⟩
      rw [strLen_append, strLen_append, sizeLine_eq]
      have e0 : (Str.empty : Str).length = 0 := rfl
      have e1 := int_text_length_le (k := 1920) (by decide) hi
      have e2 : (Str.ofString (toString i)).length = (toString i).length := PySem.ofString_length _
      omega
  · obtain ⟨rfl, I2⟩ := h2
    refine wpAt_of_wpAny ?_
    have st := ps_ost (X := x1cx P w K mg base q x1sc f cda cc A outer s H) (o := .Name "self" p9) (f := "line") (e := .Name "line" p11) (p' := p10) (pos := p12) (pe_var (i := 0) rfl (.inl x1s.self) (by rfl) (by rfl)) (pe_var (i := 1) rfl (.inl x1s.line) (by rfl) (by rfl)) (by rfl)
    have all := pss_one st
    refine wpAny_mono (all.run [] s2 _ H { nx := fun _ H' => ∃ dx, H dx = none ∧ dx ≠ a ∧ H' = upd (upd H dx (exd dx [(("line" : Str), .int i)])) a (exo a C (some dx)), rt := fun _ _ => False } I2 ?_) (fun fl s3 h3 => ?_) fun _ _ x => x.elim
    · refine ⟨.int i, rfl, .ref a, rfl, a, C, rfl, F.t, F.line, .inl ⟨ea, fun dx h1 h2 => ⟨dx, h1, h2, rfl⟩⟩⟩
    · rcases fl with _ | _ | _ | u
      · obtain ⟨σ1, H1, J, dx, q1, q2, q3⟩ := h3
        exact ⟨rfl, dx, H1, q1, q2, q3, J.os, J.bare, J.base, J.hok⟩
      · exact h3.elim fun _ z => z.elim fun _ z => z.2.elim
      · exact h3.elim fun _ z => z.elim fun _ z => z.2.elim
      · obtain ⟨_, _, _, _, _, q⟩ := h3
        exact q.elim
end
end AM
/-! text AmY2 -/
set_option Elab.async false
set_option linter.all false
set_option maxRecDepth 100000
set_option maxHeartbeats 4000000
/-! AmY2: such an error made, by position and by name. -/
namespace AM
open PySem PySem.Spec PyProof.Rows L2
section
variable {X : Cx} {pins : List (Addr × Obj)} {σ : L2.St} {s s1 : Shared} {H : Hp} {Q : VK} {C f cc cda : Addr} {params : Arguments} {z q : Str} {i : Int} {t : Tok} {k : Nat}
/-- an error made is landed as a tracked value -/
theorem mk_landed {Q1 : XK} {u : Value} (hu : MkP X pins σ Q1 u s1) (h : ∀ cls d H1, Q1 cls d H1 → ∃ C, cls = .ref C ∧ ∀ a, H1 a = none → Q (.ref a) (upd H1 a (exnO a C d))) : EP X pins σ Q u s1 := by
  obtain ⟨a, oe, vs, sI, H1, cls, d, rfl, J, k, hne, ha, hz, hd, h1, na, os, ag, r, q0⟩ := hu
  obtain ⟨C, rfl, q⟩ := h _ _ _ q0
  have J2 := J.laidN (t' := s1.toks) (o := exnO a C d) k hne na (exn_ok ha hz.1 hz.2 hd)
  exact ⟨.ref a, _, J2.landed (B := s1.heap) (s' := s1) (fun _ _ e _ => e) (fun _ _ e => e) (fun b o e _ => ⟨o.slots, e⟩) os ag, rfl, q a na⟩
/-- behind the body -/
theorem x1_back (T : OexC X.K C) {hp hp2 : Heap} {g : Array GenState} {dr dr' : Drawn} {tk tk' : Nat} {os : OsState} (I1 : Inv X pins σ H ⟨hp, g, dr, tk, os⟩) (kk : ∀ b o, hp.get? b = some o → hp2.get? b = some o) {r : Result} {s' : Shared}
    (h : X1R X.prog X.w C X.stack ⟨hp2, g, dr', tk', os⟩ (upd H (hp.objs.size + 1) (exo (hp.objs.size + 1) C none)) (hp.objs.size + 1) i r s')
    (hq : ∀ a d, H a = none → H d = none → d ≠ a → Q (.ref a) (upd (upd H d (.xd [(("line" : Str), .int i)])) a (exnO a C (some d)))) : r = .ok (.ret .none) ∧ EP X pins σ Q (.ref (hp.objs.size + 1)) s' := by
  obtain ⟨rfl, dx, H', hdx, hne, rfl, e1, e2, e3, e4⟩ := h
  have na : H (hp.objs.size + 1) = none := I1.hok.fresh (Nat.le_succ _)
  have hd : H dx = none := by rw [upd_ne hne] at hdx; exact hdx
  obtain ⟨h2, g2, d2, t2, os'⟩ := s'
  have eqh : upd (del (upd (upd (upd H (hp.objs.size + 1) (exo (hp.objs.size + 1) C none)) dx (exd dx [(("line" : Str), .int i)])) (hp.objs.size + 1) (exo (hp.objs.size + 1) C (some dx))) (hp.objs.size + 1)) dx (.xd [(("line" : Str), .int i)]) = upd H dx (.xd [(("line" : Str), .int i)]) := by
    funext b
    by_cases hb : b = dx
    · subst hb; rw [upd_same, upd_same]
    · rw [upd_ne hb, upd_ne hb]
      by_cases hb2 : b = hp.objs.size + 1
      · subst hb2; rw [del_same, na]
      · rw [del_ne hb2, upd_ne hb2, upd_ne hb, upd_ne hb2]
  have M := mk_end (d2 := d2) (t2 := t2) (Q := fun cls d H1 => cls = .ref C ∧ d = some dx ∧ H1 = upd H dx (.xd [(("line" : Str), .int i)])) (raises_own T.exC T.tyC) I1 (Nat.le_succ _) kk e3 e4 e1 e2 upd_same (by rw [upd_ne hne]; exact upd_same) hd ⟨rfl, rfl, eqh⟩
  refine ⟨rfl, mk_landed M ?_⟩
  rintro cls d H1 ⟨rfl, rfl, rfl⟩
  refine ⟨C, rfl, fun a n => ?_⟩
  by_cases e : a = dx
  · subst e
    rw [upd_same] at n
    cases n
  · rw [upd_ne e] at n
    exact hq a dx n hd (Ne.symm e)
theorem x1_make {p0 p1 p2 p3 p4 p5 p6 p7 p8 p9 p10 p11 p12 : Pos} (F : X1F X.prog X.K X.mg C f cc cda params (x1body z p0 p1 p2 p3 p4 p5 p6 p7 p8 p9 p10 p11 p12) x1sc q) (hz : z.length ≤ 100) (hpar : ∃ ar : Arg, (params.posonlyargs ++ params.args).head? = some ar ∧ ar.arg = ("self" : Str))
    (hT : X1T z p0 p1 p2 p3 p4 p5 p6 p7) (rm : Rm (k + 1) X.A) (hb : ∀ a nm kV doc pm an ct, bindArgs (PySem.W.ksFn nm q params (x1body z p0 p1 p2 p3 p4 p5 p6 p7 p8 p9 p10 p11 p12) x1sc .none kV doc pm an (.ref cda) ct cc) ⟨[.ref a, .int i t], []⟩ = pure [(("self" : Str), .ref a), ("line", .int i t)])
    (hi : i.natAbs.log2 < 1920) (I1 : Inv X pins σ H s)
    (hq : ∀ a d, H a = none → H d = none → d ≠ a → Q (.ref a) (upd (upd H d (.xd [(("line" : Str), .int i)])) a (exnO a C (some d)))) : wpAny (model X.prog X.w) X.A (call (.ref C) [.int i t]) (EP X pins σ Q) X.xe s := by
  obtain ⟨nm, qn, N, bs, bm, sn, sub, ab, col, dd, k0, k1, k2, k3, k5, hC, hbm⟩ := F.t.cls
  obtain ⟨hp, g, dr, tk, os⟩ := s
  have kk : ∀ b o, hp.get? b = some o → ((hp.push (PySem.W.kdv_tup [Value.int i t])).push (PySem.HandSPX.excO C hp.objs.size)).get? b = some o := fun b o e => Heap.get?_push_of_some _ (Heap.get?_push_of_some _ e)
  have hget : ((hp.push (PySem.W.kdv_tup [Value.int i t])).push (PySem.HandSPX.excO C hp.objs.size)).get? (hp.objs.size + 1) = some (PySem.HandSPX.excO C hp.objs.size) := by heap_get
  have I2 : Inv X pins σ (upd H (hp.objs.size + 1) (exo (hp.objs.size + 1) C none)) ⟨(hp.push (PySem.W.kdv_tup [Value.int i t])).push (PySem.HandSPX.excO C hp.objs.size), g, dr, tk, os⟩ :=
    I1.laid (t' := tk) kk (Nat.le_succ _) (exo_ok hget)
  have rm2 := rm.make C [Value.int i t] []
  refine wpAny_call (PySem.HandSPX.call_own PySem.F.excBase_ValueError (fun Y => PySem.HandSPX.refsVE_contains Y bm hbm) (I1.kIn _ _ hC) (PySem.W.looks_findIn I1.kIn F.init) (fun self => PySem.W.bind_fn I1.kIn self F.tyI) (by rw [sizeLine_eq]; simp)
    (codeAny_mono (x1_run F hz hpar hT hi rm2.r.hd rm2.r.depth (I2.env0.make C _ []) upd_same (fun nm kV doc pm an ct => hb _ nm kV doc pm an ct)) fun r s' h' => ?_))
  obtain ⟨rfl, z⟩ := x1_back F.t I1 kk h' hq
  exact ⟨rfl, z⟩
end
end AM
/-! text AmY3 -/
set_option Elab.async false
set_option linter.all false
set_option maxRecDepth 100000
set_option maxHeartbeats 4000000
/-! AmY3: .. made by name. -/
namespace PySem.AMX
open PySem.Calls PySem.HandSPX PyProof.Rows PySem.W
section
variable {prog : Program} {w : World} {M : Model} {A : Around} {E : Value → Shared → Prop} {R : Result → Shared → Prop} {h : Heap} {g : Array GenState} {d : Drawn} {t : Nat} {os : OsState}
variable {nm q : Str} {C N : Addr} {bs bm bmB : List Value} {hdct : Bool} {sn : List Str} {sub : List Value} {ab : Bool} {col : Option Bool} {dd : Option Addr} {k0 k1 k2 k3 k5 : Option Value} {B newId initId : String} {x : Str} {v : Value}
theorem kw_newchk (F : ExcBaseFacts B newId initId bmB) (hT : ∀ X : String, bm.contains (.type X) = bmB.contains (.type X)) (hC : h.get? C = some (excClassObj nm q C N bs bm hdct sn sub ab col dd k0 k1 k2 k3 k5 newId)) {Q : Unit → Shared → Prop}
    (goal : Q () ⟨h, g, d, t, os⟩) : wpAny M A (checkBuiltinCall newId ⟨[.ref C], [(x, v)]⟩) Q E ⟨h, g, d, t, os⟩ := by
  have inB : (Value.ref C :: bm).contains (.type B) = true := by rw [List.contains_cons, hT, F.hasB, Bool.or_true]
  have star := F.noStar
  simp only [checkBuiltinCall, F.newKind, F.newSplit, F.newRow]
  repeat (first | refine wpAny_loadPart_at hC ?_ | (refine wpAny_isSubtype_exc hC ?_; rw [inB]) | refine wpAny_staticBase_exc hC ?_ | refine wpAny_madeBy_exc hC ?_ | simp only [bne_self_eq_false, Bool.false_eq_true, if_false] | wp_step)
  exact goal
theorem kw_new (F : ExcBaseFacts B newId initId bmB) (hT : ∀ X : String, bm.contains (.type X) = bmB.contains (.type X)) (hC : h.get? C = some (excClassObj nm q C N bs bm hdct sn sub ab col dd k0 k1 k2 k3 k5 newId))
    (goal : R (.ok (.ret (.ref (h.objs.size + 1)))) ⟨(h.push (W.kdv_tup [])).push (excO C h.objs.size), g, d, t, os⟩) : codeAny (model prog w) A (.builtin newId ⟨[.ref C], [(x, v)]⟩) R ⟨h, g, d, t, os⟩ := by
  have ends_ := F.ends
  have inB : (Value.ref C :: bm).contains (.type B) = true := by rw [List.contains_cons, hT, F.hasB, Bool.or_true]
  have inA : (Value.ref C :: bm).contains (.type "AttributeError") = false := by rw [List.contains_cons, hT, F.noAttr]; rfl
  have inN : (Value.ref C :: bm).contains (.type "NameError") = false := by rw [List.contains_cons, hT, F.noName]; rfl
  refine codeAny_builtinAt F.entry ?_
  unfold Builtin.«BaseException.__new__»
  refine wpAt_bind ?_
  show wpAt _ _ _ (stack >>= _) _ _ _
  refine wpAt_bind (wpAt_stack fun p below => wpAt_of_wpAny ?_)
  wp_walk
  refine wpAt_of_wpAny ?_
  rw [F.owner]
  repeat (first | with_reducible refine wpAny_madeHere_exc F.canon hC ?_ | with_reducible refine wpAny_loadPart_at hC ?_ | (with_reducible refine wpAny_isSubtype_exc hC ?_; first | rw [inB] | rw [inA] | rw [inN]) | wp_step)
  show R _ _
  rw [Heap.size_push]
  exact goal
theorem kw_tcall (F : ExcBaseFacts B newId initId bmB) (hT : ∀ X : String, bm.contains (.type X) = bmB.contains (.type X)) {fI : Addr} {Q : Fin → Shared → Prop} (hC : h.get? C = some (excClassObj nm q C N bs bm hdct sn sub ab col dd k0 k1 k2 k3 k5 newId))
    (look : W.Looks (model prog w) h (typeLookup (.ref C) "__init__") (some (.ref fI))) (bnd : ∀ self, W.Looks (model prog w) h (bindSpecial (.ref fI) self) (.ref fI, [self]))
    (goal : codeAny (model prog w) A (.call (.ref fI) ⟨[.ref (h.objs.size + 1)], [(x, v)]⟩) (fun r s' => match r with | .ok (.ret u) => u = .none ∧ Q (.done (.ret (.ref (h.objs.size + 1)))) s' | .ok _ => False | .error e => E e s') ⟨(h.push (W.kdv_tup [])).push (excO C h.objs.size), g, d, t, os⟩) :
    wpAny (model prog w) A (Builtin.«type.__call__» ⟨[.ref C], [(x, v)]⟩) Q E ⟨h, g, d, t, os⟩ := by
  repeat (first | with_reducible refine wpAny_loadPart_at hC ?_ | with_reducible refine wpAny_madeBy_exc hC ?_ | wp_step)
  refine codeAny_call_builtin_code (Code.quiet_builtin _ F.quiet) (kw_newchk F hT hC ?_)
  refine kw_new F hT hC ?_
  show wpAny _ _ _ _ _ _
  have up : ∀ b o, h.get? b = some o → ((h.push (W.kdv_tup [])).push (excO C h.objs.size)).get? b = some o := fun b o e => Heap.get?_push_of_some _ (Heap.get?_push_of_some _ e)
  have hC2 := up _ _ hC
  have made : ((h.push (W.kdv_tup [])).push (excO C h.objs.size)).get? (h.objs.size + 1) = some (excO C h.objs.size) := by heap_get
  have inC : (Value.ref C :: bm).contains (.ref C) = true := by simp
  have l2 := look.keeps up
  have b2 := (bnd (.ref (h.objs.size + 1))).keeps up
  unfold isInstance
  repeat (first | with_reducible refine wpAny_loadPart_at made ?_ | (with_reducible refine wpAny_isSubtype_exc hC2 ?_; rw [inC]) | wp_step)
  show wpAny _ _ (typeLookup (.ref C) _) _ _ _
  refine l2.at ?_
  refine wpAny_holding (wpAny_bind (b2.at ?_))
  refine wpAny_bind (wpAny_call (codeAny_mono goal fun r s' z => ?_))
  rcases r with e | (u | _ | _ | _) <;> first | exact z | exact z.elim | skip
  obtain ⟨rfl, z⟩ := z
  first
    | exact wpAny_pure (wpAny_pure z)
    | (wp_walk; exact z)
theorem kw_chk {Q : Unit → Shared → Prop} (hC : h.get? C = some (excClassObj nm q C N bs bm hdct sn sub ab col dd k0 k1 k2 k3 k5 newId)) (goal : Q () ⟨h, g, d, t, os⟩) : wpAny M A (checkBuiltinCall "type.__call__" ⟨[.ref C], [(x, v)]⟩) Q E ⟨h, g, d, t, os⟩ := by
  have tsub := tc_sub
  have hTy : (⟨h, g, d, t, os⟩ : Shared).TypeIs (.ref C) "type" := ⟨_, hC, rfl⟩
  simp only [checkBuiltinCall, tc_kind, tc_split]
  repeat (any_goals (first | assumption | with_reducible refine wpAny_loadPart_at hC ?_ | with_reducible refine wpAny_onRaise ?_ | with_reducible refine wpAny_map ?_ | wp_step))
theorem kw_call (F : ExcBaseFacts B newId initId bmB) (hT : ∀ X : String, bm.contains (.type X) = bmB.contains (.type X)) {fI : Addr} (hC : h.get? C = some (excClassObj nm q C N bs bm hdct sn sub ab col dd k0 k1 k2 k3 k5 newId))
    (look : W.Looks (model prog w) h (typeLookup (.ref C) "__init__") (some (.ref fI))) (bnd : ∀ self, W.Looks (model prog w) h (bindSpecial (.ref fI) self) (.ref fI, [self]))
    (goal : codeAny (model prog w) (A.under (.builtin "type.__call__" ⟨[.ref C], [(x, v)]⟩)) (.call (.ref fI) ⟨[.ref (h.objs.size + 1)], [(x, v)]⟩) (W.InitBack (h.objs.size + 1) R) ⟨(h.push (W.kdv_tup [])).push (excO C h.objs.size), g, d, t, os⟩) :
    codeAny (model prog w) A (.call (.ref C) ⟨[], [(x, v)]⟩) R ⟨h, g, d, t, os⟩ := by
  have tlook := tc_lookup
  have tbind := tc_bind (.ref C)
  have hTy : (⟨h, g, d, t, os⟩ : Shared).TypeIs (.ref C) "type" := ⟨_, hC, rfl⟩
  refine codeAny_of_tree ?_
  show wpAny _ _ (callAny (.ref C) _) _ _ _
  repeat (any_goals (first | assumption | with_reducible refine wpAny_loadPart_at hC ?_ | wp_step))
  refine ⟨rfl, ?_⟩
  refine codeAny_call_builtin_at (Code.quiet_builtin _ (by decide +kernel)) entry_typeCall (kw_chk hC (kw_tcall F hT hC look bnd ?_))
  refine codeAny_mono goal fun r s' z => ?_
  rcases r with e | (u | _ | _ | _) <;> exact z
end
end PySem.AMX
namespace AM
open PySem PySem.Spec PyProof.Rows L2
section
variable {X : Cx} {pins : List (Addr × Obj)} {σ : L2.St} {s : Shared} {H : Hp} {Q : VK} {C f cc cda : Addr} {params : Arguments} {z q : Str} {i : Int} {t : Tok} {k : Nat}
theorem x1_makeK {p0 p1 p2 p3 p4 p5 p6 p7 p8 p9 p10 p11 p12 : Pos} (F : X1F X.prog X.K X.mg C f cc cda params (x1body z p0 p1 p2 p3 p4 p5 p6 p7 p8 p9 p10 p11 p12) x1sc q) (hz : z.length ≤ 100) (hpar : ∃ ar : Arg, (params.posonlyargs ++ params.args).head? = some ar ∧ ar.arg = ("self" : Str))
    (hT : X1T z p0 p1 p2 p3 p4 p5 p6 p7) (rm : Rm (k + 1) X.A) (hb : ∀ a nm kV doc pm an ct, bindArgs (PySem.W.ksFn nm q params (x1body z p0 p1 p2 p3 p4 p5 p6 p7 p8 p9 p10 p11 p12) x1sc .none kV doc pm an (.ref cda) ct cc) ⟨[.ref a], [(("line" : Str), .int i t)]⟩ = pure [(("self" : Str), .ref a), ("line", .int i t)])
    (hi : i.natAbs.log2 < 1920) (I1 : Inv X pins σ H s)
    (hq : ∀ a d, H a = none → H d = none → d ≠ a → Q (.ref a) (upd (upd H d (.xd [(("line" : Str), .int i)])) a (exnO a C (some d)))) : wpAny (model X.prog X.w) X.A (call (.ref C) [] [(("line" : Str), .int i t)]) (EP X pins σ Q) X.xe s := by
  obtain ⟨nm, qn, N, bs, bm, sn, sub, ab, col, dd, k0, k1, k2, k3, k5, hC, hbm⟩ := F.t.cls
  obtain ⟨hp, g, dr, tk, os⟩ := s
  have kk : ∀ b o, hp.get? b = some o → ((hp.push (PySem.W.kdv_tup [])).push (PySem.HandSPX.excO C hp.objs.size)).get? b = some o := fun b o e => Heap.get?_push_of_some _ (Heap.get?_push_of_some _ e)
  have hget : ((hp.push (PySem.W.kdv_tup [])).push (PySem.HandSPX.excO C hp.objs.size)).get? (hp.objs.size + 1) = some (PySem.HandSPX.excO C hp.objs.size) := by heap_get
  have I2 : Inv X pins σ (upd H (hp.objs.size + 1) (exo (hp.objs.size + 1) C none)) ⟨(hp.push (PySem.W.kdv_tup [])).push (PySem.HandSPX.excO C hp.objs.size), g, dr, tk, os⟩ := I1.laid (t' := tk) kk (Nat.le_succ _) (exo_ok hget)
  have rm2 := rm.make C [] [(("line" : Str), .int i t)]
  refine wpAny_call (PySem.AMX.kw_call PySem.F.excBase_ValueError (fun Y => PySem.HandSPX.refsVE_contains Y bm hbm) (I1.kIn _ _ hC) (PySem.W.looks_findIn I1.kIn F.init) (fun self => PySem.W.bind_fn I1.kIn self F.tyI)
    (codeAny_mono (x1_run F hz hpar hT hi rm2.r.hd rm2.r.depth (I2.env0.make C _ _) upd_same (fun nm kV doc pm an ct => hb _ nm kV doc pm an ct)) fun r s' h' => ?_))
  obtain ⟨rfl, z⟩ := x1_back F.t I1 kk h' hq
  exact ⟨rfl, z⟩
end
/-! ### read off the written part -/
def oexB (K : PySem.W.Frag) (C : Addr) : Bool := (match K.lookup C with
  | some ⟨.type "type", _, .cls cd, sl⟩ => (match cd.mro, sl.toList with
    | .ref D :: bm, [_, _, _, _, some (.builtin n), _] => decide (D = C) && (decide (n = "ValueError.__new__") && (!cd.hasDel && (cd.hasDict && PySem.HandSPX.refsVE bm)))
    | _, _ => false)
  | _ => false) && (decide (PySem.W.findIn K (.ref C) "__setattr__" = some (some (.builtin "object.__setattr__"))) && (decide (PySem.W.subIn K (.ref C) (.type "BaseException") = some true) && (decide (PySem.W.typeIn K (.ref C) = some (.type "type")) && PySem.W.keepIn K (.ref C))))
theorem oexB_ok {K : PySem.W.Frag} {C : Addr} (h : oexB K C = true) : OexC K C := by
  obtain ⟨h1, h⟩ := ba2 h
  obtain ⟨h2, h⟩ := ba2 h
  obtain ⟨h3, h⟩ := ba2 h
  obtain ⟨h4, h5⟩ := ba2 h
  refine ⟨?_, of_decide_eq_true h2, of_decide_eq_true h3, of_decide_eq_true h4, h5⟩
  split at h1
  · rename_i dd cd sl look
    split at h1
    · rename_i D bm k0 k1 k2 k3 n k5 mro slots
      obtain ⟨c1, h1⟩ := ba2 h1
      obtain ⟨c2, h1⟩ := ba2 h1
      obtain ⟨c3, h1⟩ := ba2 h1
      obtain ⟨c4, c5⟩ := ba2 h1
      have c1 := of_decide_eq_true c1
      have c2 := of_decide_eq_true c2
      subst c1
      subst c2
      obtain ⟨nm, bs, m, ns, qn, hd, sn, sub, ab, col, del⟩ := cd
      dsimp only at mro c3 c4
      subst mro
      subst c4
      have c3 : del = false := by simpa using c3
      subst c3
      have es : sl = #[k0, k1, k2, k3, some (.builtin "ValueError.__new__"), k5] := by
        apply Array.ext'
        rw [slots]
      subst es
      exact ⟨nm, qn, ns, bs, bm, sn, sub, ab, col, dd, k0, k1, k2, k3, k5, look, c5⟩
    · cases h1
  · cases h1
def x1B (K : PySem.W.Frag) (d : X1D) (file : Str) : Bool := oexB K (He.ga K d.x) && (decide (PySem.W.findIn K (.ref (He.ga K d.x)) "__init__" = some (some (.ref (He.ma K (He.ga K d.x) "__init__")))) && (decide (PySem.W.typeIn K (.ref (He.ma K (He.ga K d.x) "__init__")) = some (.type "function")) &&
  ((match K.lookup (He.ma K (He.ga K d.x) "__init__") with
    | some ⟨_, _, .func fd, _⟩ => (match fd.closure, fd.code with
      | [(_, cc)], .ref cda => (match K.lookup cc with
        | some ⟨_, _, .cell (some (.ref D)), _⟩ => decide (D = He.ga K d.x)
        | _ => false) && (PySem.W.codeIn K (.ref cda) d.qual && (match K.lookup cda with
        | some ⟨_, _, .fields vs, _⟩ => (match (vs[2]? : Option Value) with
          | some (Value.str fl _) => decide (file = fl)
          | _ => false)
        | _ => false))
      | _, _ => false)
    | _ => false) &&
  (decide (PySem.W.nsIn K cStatics "thirdparty.any" = some none) && (decide (PySem.W.ks_superIn K (He.ga K d.x) (He.ga K d.x) "__init__" = some (some (.builtin "ValueError.__init__"))) && (decide (PySem.W.mroIn K (He.ga K d.x) (.ref (He.ga K d.x)) = some true) &&
  (decide (PySem.W.subIn K (.ref (He.ga K d.x)) (.type "ValueError") = some true) && decide (PySem.W.findIn K (.ref (He.ga K d.x)) "line" = some none))))))))
theorem x1F_of {P : Program} {K : PySem.W.Frag} {mg : Str → Option Value} {d : X1D} {file : Str} (e : fnC K d.x = d.val) (b : x1B K d file = true) (hf : P.main.file = file) (top : (P.main.scope.names.lookup ("super" : Str)).isSome = false) (sup : mg "super" = none) :
    ∃ cc cda, X1F P K mg (He.ga K d.x) (He.ma K (He.ga K d.x) "__init__") cc cda d.params d.body d.scope d.qual := by
  obtain ⟨b1, b⟩ := ba2 b
  obtain ⟨b2, b⟩ := ba2 b
  obtain ⟨b3, b⟩ := ba2 b
  obtain ⟨b4, b⟩ := ba2 b
  obtain ⟨b5, b⟩ := ba2 b
  obtain ⟨b6, b⟩ := ba2 b
  obtain ⟨b7, b⟩ := ba2 b
  obtain ⟨b8, b9⟩ := ba2 b
  unfold fnC at e
  cases lk : K.lookup (He.ma K (He.ga K d.x) "__init__") with
  | none => rw [lk] at b4; cases b4
  | some o =>
    obtain ⟨oc, od, dt, osl⟩ := o
    rw [lk] at b4 e
    cases dt with
    | func fd =>
      obtain ⟨n1, n2, n3, n4, n5, n6, n7, n8, n9, n10, n11, n12, n13, n14, n15⟩ := fd
      have e2 : (some (n2, n3, n4, n5, n6, n7.map (·.1), n8, n15) : FnC) = (some (d.qual, d.params, .stmts d.body, d.scope, mainGlobals, ["__class__"], .none, builtinsNs) : FnC) := e
      simp only [Option.some.injEq, Prod.mk.injEq] at e2
      obtain ⟨g2, g3, g4, g5, g6, g7, g8, g9⟩ := e2
      subst g2 g3 g4 g5 g6 g8 g9
      rcases n7 with _ | ⟨⟨nm, cc⟩, _ | ⟨_, _⟩⟩
      · cases n13 <;> cases b4
      · obtain ⟨cda, rfl⟩ : ∃ cda, n13 = .ref cda := by
          cases n13 with
          | ref a => exact ⟨a, rfl⟩
          | _ => cases b4
        simp only [List.map_cons, List.map_nil, List.cons.injEq, and_true] at g7
        subst g7
        obtain ⟨c1, b4⟩ := ba2 b4
        obtain ⟨c2, c3⟩ := ba2 b4
        refine ⟨cc, cda, oexB_ok b1, of_decide_eq_true b2, of_decide_eq_true b3, ⟨oc, od, _, _, _, _, _, osl, _, lk⟩, c2, ?_, ?_, sup, of_decide_eq_true b5, of_decide_eq_true b6, top, of_decide_eq_true b7, of_decide_eq_true b8, of_decide_eq_true b9⟩
        · cases l3 : K.lookup cda with
          | none => rw [l3] at c3; cases c3
          | some o3 =>
            obtain ⟨x1, x2, x3, x4⟩ := o3
            rw [l3] at c3
            cases x3 with
            | fields vs =>
              simp only at c3
              split at c3
              · rename_i fl tk hv
                have c3 := of_decide_eq_true c3
                exact ⟨x1, x2, vs, x4, fl, tk, rfl, hv, by rw [hf, c3]; simp⟩
              · cases c3
            | _ => cases c3
        · cases l3 : K.lookup cc with
          | none => rw [l3] at c1; cases c1
          | some o3 =>
            obtain ⟨x1, x2, x3, x4⟩ := o3
            rw [l3] at c1
            cases x3 with
            | cell v =>
              split at c1
              · rename_i c v D heq
                cases heq
                have c1 := of_decide_eq_true c1
                subst c1
                exact ⟨_, _, _, rfl⟩
              · cases c1
            | _ => cases c1
      · cases n13 <;> cases b4
    | _ => cases b4
end AM
namespace AM
open PySem PySem.Spec PyProof.Rows L2
/-- the j-th statement of a class's body -/
def clsDef (st : Stmt) (j : Nat) : Stmt := match st with
  | .ClassDef _ _ _ body _ _ _ _ _ _ _ => body.getD j (.Pass ⟨0, 0, 0, 0⟩)
  | _ => .Pass ⟨0, 0, 0, 0⟩
/-- what the text of such an __init__ must be -/
structure X1Text (d : X1D) : Prop where
  body : ∃ z p0 p1 p2 p3 p4 p5 p6 p7 p8 p9 p10 p11 p12, d.body = x1body z p0 p1 p2 p3 p4 p5 p6 p7 p8 p9 p10 p11 p12 ∧ z.length ≤ 100 ∧ X1T z p0 p1 p2 p3 p4 p5 p6 p7
  scope : d.scope = x1sc
  par : ∃ ar : Arg, (d.params.posonlyargs ++ d.params.args).head? = some ar ∧ ar.arg = ("self" : Str)
  bind : ∀ q b sc cda cc a i t nm kV doc pm an ct, bindArgs (PySem.W.ksFn nm q d.params b sc .none kV doc pm an (.ref cda) ct cc) ⟨[.ref a, .int i t], []⟩ = pure [(("self" : Str), Value.ref a), ("line", .int i t)]
  bindK : ∀ q b sc cda cc a i t nm kV doc pm an ct, bindArgs (PySem.W.ksFn nm q d.params b sc .none kV doc pm an (.ref cda) ct cc) ⟨[.ref a], [(("line" : Str), .int i t)]⟩ = pure [(("self" : Str), Value.ref a), ("line", .int i t)]
theorem x1_both {P : Program} {w : World} {K : PySem.W.Frag} {mg : Str → Option Value} {base : Heap} {C f cc cda : Addr} {d : X1D} (F : X1F P K mg C f cc cda d.params d.body d.scope d.qual) (T : X1Text d) : X1Ok P w K mg base C ∧ X1OkK P w K mg base C "line" := by
  obtain ⟨z, p0, p1, p2, p3, p4, p5, p6, p7, p8, p9, p10, p11, p12, hb, hz, hT⟩ := T.body
  have hs := T.scope
  have kp := F.t.kC
  refine ⟨⟨kp, ?_⟩, kp, ?_⟩
  · intro X k N sc fs c pins σ s H i t Q hi I hq
    obtain ⟨c1, c2, c3, c4, c5, rm, _, _, _, _, _⟩ := c
    subst c1 c3 c4
    rw [hb, hs] at F
    exact x1_make F hz T.par hT rm (fun a nm kV doc pm an ct => T.bind _ _ _ _ _ _ _ _ _ _ _ _ _ _) hi I hq
  · intro X k N sc fs c pins σ s H i t Q hi I hq
    obtain ⟨c1, c2, c3, c4, c5, rm, _, _, _, _, _⟩ := c
    subst c1 c3 c4
    rw [hb, hs] at F
    exact x1_makeK F hz T.par hT rm (fun a nm kV doc pm an ct => T.bindK _ _ _ _ _ _ _ _ _ _ _ _ _ _) hi I hq
end AM
/-! text K24g -/
set_option Elab.async false
set_option linter.all false
set_option maxRecDepth 100000
set_option maxHeartbeats 4000000
namespace AM.K24
open PySem PySem.Spec PyProof.Rows L2
def T : Tab := ⟨fun _ _ => none, fun _ _ => none, fun d c => match d with
  | 0 => decide (c ∈ ([0] : List Nat))
  | 1 => decide (c ∈ ([1, 0] : List Nat))
  | 2 => decide (c ∈ ([2, 0] : List Nat))
  | 3 => decide (c ∈ ([3, 0] : List Nat))
  | 4 => decide (c ∈ ([4, 0] : List Nat))
  | 5 => decide (c ∈ ([5, 0] : List Nat))
  | 6 => decide (c ∈ ([6, 0] : List Nat))
  | 7 => decide (c ∈ ([7, 0] : List Nat))
  | 8 => decide (c ∈ ([8, 0] : List Nat))
  | 9 => decide (c ∈ ([9, 0] : List Nat))
  | 10 => decide (c ∈ ([10, 0] : List Nat))
  | 11 => decide (c ∈ ([11, 0] : List Nat))
  | 12 => decide (c ∈ ([12, 0] : List Nat))
  | 13 => decide (c ∈ ([13, 0] : List Nat))
  | 14 => decide (c ∈ ([14, 0] : List Nat))
  | 15 => decide (c ∈ ([15, 0] : List Nat))
  | 16 => decide (c ∈ ([16, 0] : List Nat))
  | 17 => decide (c ∈ ([17, 0] : List Nat))
  | 18 => decide (c ∈ ([18, 0] : List Nat))
  | 19 => decide (c ∈ ([19, 0] : List Nat))
  | 20 => decide (c ∈ ([20, 0] : List Nat))
  | _ => false, 21, fun c => decide (c ∈ ([0, 1, 2, 3, 4, 5, 6, 7, 8, 9, 10, 11, 12, 13, 14, 15, 16, 17, 18, 19, 20] : List Nat))⟩
def N0 : List Str := ["_law_script"]
def b0 (F : Fn) : C := cSeq [cRet (eLst true [(false, eFn [(false, eCut false (eVar 0) none (some (eC (.int 60))))] (opList false)), (false, eC (.int 0)), (false, eC (.int 0))])]
def N1 : List Str := ["_law_pen_here", "_law_index", "_law_cell_here", "_law_some", "_law_more", "_law_high"]
def b1 (F : Fn) : C := cSeq [cAsg (.nm 1) (eOp [eVar 0, eC (.int 1)] opIdx),
    cSet (eVar 0) (eC (.int 1)) (eOp [eVar 1, eC (.int 1)] (opBin .add false)),
    cAsg (.nm 2) (eOp [eOp [eVar 1, eC (.int 1051)] (opBin .mul false), eC (.int 53)] (opBin .add false)),
    cIf (eOp [eOp [eVar 0, eC (.int 0)] opIdx, eLst false []] (opCmp .ne)) (cSeq [cAsg (.nm 2) (eOp [eOp [eVar 0, eC (.int 0)] opIdx, eOp [eFn [(false, eVar 1)] opInt, eFn [(false, eOp [eVar 0, eC (.int 0)] opIdx)] opLen] (opBin .mod false)] opIdx)]) (cPass),
    cIf (eAnd [eOp [eVar 1, eFn [(false, eOp [eVar 0, eC (.int 0)] opIdx)] opLen] (opCmp .lt), eOp [eVar 2, eOp [eC (.int 10), eC (.int 18)] (opBin .pow false)] (opCmp .ge)]) (cSeq [cRet (eVar 2)]) (cPass),
    cAsg (.nm 3) (eOp [eFn [(false, eOp [eOp [eOp [eFn [(false, eVar 2)] opInt, eC (.int 2147483587)] (opBin .mod false), eOp [eVar 1, eC (.int 30103)] (opBin .mul false)] (opBin .add false), eC (.int 79)] (opBin .add false))] opInt, eC (.int 2147483587)] (opBin .mod false)),
    cAsg (.nm 4) (eOp [eFn [(false, eOp [eOp [eOp [eVar 3, eVar 3] (opBin .mul false), eOp [eVar 1, eC (.int 70039)] (opBin .mul false)] (opBin .add false), eC (.int 61)] (opBin .add false))] opInt, eC (.int 2147483563)] (opBin .mod false)),
    cAsg (.nm 5) (eOp [eFn [(false, eOp [eOp [eOp [eVar 4, eVar 4] (opBin .mul false), eVar 3] (opBin .add false), eOp [eOp [eVar 1, eVar 1] (opBin .mul false), eC (.int 37)] (opBin .mul false)] (opBin .add false))] opInt, eC (.int 2147483549)] (opBin .mod false)),
    cRet (eOp [eOp [eOp [eOp [eVar 5, eC (.int 2147483587)] (opBin .mul false), eVar 4] (opBin .add false), eC (.int 2147483563)] (opBin .mul false), eVar 3] (opBin .add false))]
def N2 : List Str := ["_law_pen_here", "_law_under", "_law_digit"]
def b2 (F : Fn) : C := cSeq [cIf (eOp [eOp [eVar 0, eC (.int 2)] opIdx, eVar 1] (opCmp .lt)) (cSeq [cSet (eVar 0) (eC (.int 2)) (eFn [(false, eVar 0)] (opCall F 1 false))]) (cPass),
    cAsg (.nm 2) (eOp [eFn [(false, eOp [eVar 0, eC (.int 2)] opIdx)] opInt, eVar 1] (opBin .mod false)),
    cSet (eVar 0) (eC (.int 2)) (eOp [eOp [eVar 0, eC (.int 2)] opIdx, eVar 1] (opBin .fdiv false)),
    cRet (eVar 2)]
def N3 : List Str := ["_law_caught", "_law_found"]
def b3 (F : Fn) : C := cSeq [cAsg (.nm 1) (eLst false [(false, eOp [eVar 0] (opIsC T 2)), (false, eOp [eVar 0] (opIsC T 3)), (false, eOp [eVar 0] (opIsC T 4))]),
    cAsg (.nm 1) (eOp [eVar 1, eLst false [(false, eOp [eVar 0] (opIsC T 5)), (false, eOp [eVar 0] (opIsC T 6))]] (opBin .add false)),
    cAsg (.nm 1) (eOp [eVar 1, eLst false [(false, eOp [eVar 0] (opIsC T 7)), (false, eOp [eVar 0] (opIsC T 8))]] (opBin .add false)),
    cAsg (.nm 1) (eOp [eVar 1, eLst false [(false, eOp [eVar 0] (opIsC T 9)), (false, eOp [eVar 0] (opIsC T 10))]] (opBin .add false)),
    cAsg (.nm 1) (eOp [eVar 1, eLst false [(false, eOp [eVar 0] (opIsC T 11)), (false, eOp [eVar 0] (opIsC T 12))]] (opBin .add false)),
    cAsg (.nm 1) (eOp [eVar 1, eLst false [(false, eOp [eVar 0] (opIsC T 13)), (false, eOp [eVar 0] (opIsC T 14))]] (opBin .add false)),
    cAsg (.nm 1) (eOp [eVar 1, eLst false [(false, eOp [eVar 0] (opIsC T 15)), (false, eOp [eVar 0] (opIsC T 16))]] (opBin .add false)),
    cAsg (.nm 1) (eOp [eVar 1, eLst false [(false, eOp [eVar 0] (opIsC T 17)), (false, eOp [eVar 0] (opIsC T 1))]] (opBin .add false)),
    cAsg (.nm 1) (eOp [eVar 1, eLst false [(false, eOp [eVar 0] (opIsC T 18)), (false, eOp [eVar 0] (opIsC T 19))]] (opBin .add false)),
    cRet (eOp [eVar 1, eLst false [(false, eOp [eVar 0] (opIsC T 20))]] (opBin .add false))]
def N4 : List Str := ["_law_word", "_law_number", "_law_found"]
def b4 (F : Fn) : C := cSeq [cAsg (.nm 2) (eLst false [(false, eOp [eVar 0] (opExn 2)), (false, eOp [eVar 0] (opExn 3)), (false, eOp [eVar 0] (opExn 4)), (false, eOp [eVar 0] (opExn 5)), (false, eOp [eVar 0] (opExn 6))]),
    cAsg (.nm 2) (eOp [eVar 2, eLst false [(false, eOp [eVar 0] (opExn 7)), (false, eOp [eVar 0] (opExn 8)), (false, eOp [eVar 0] (opExn 9)), (false, eOp [eVar 0] (opExn 10))]] (opBin .add false)),
    cAsg (.nm 2) (eOp [eVar 2, eLst false [(false, eOp [eVar 0] (opExn 11)), (false, eOp [eVar 0] (opExn 12)), (false, eOp [eVar 0] (opExn 13)), (false, eOp [eVar 0] (opExn 14))]] (opBin .add false)),
    cAsg (.nm 2) (eOp [eVar 2, eLst false [(false, eOp [eVar 0] (opExn 15)), (false, eOp [eVar 0] (opExn 16)), (false, eOp [eVar 0] (opExn 17)), (false, eOp [eVar 1] (opX1 F 6 1)), (false, eOp [eVar 0] (opExn 18))]] (opBin .add false)),
    cRet (eOp [eVar 2, eLst false [(false, eOp [eVar 0] (opExn 19)), (false, eOp [eVar 0] (opExn 20))]] (opBin .add false))]
def N5 : List Str := ["_law_script", "_law_pen_here", "_law_turn", "_law_word", "_law_number", "_law_found", "_law_k", "_law_j"]
def b5 (F : Fn) : C := cSeq [cAsg (.nm 1) (eFn [(false, eVar 0)] (opCall F 0 true)),
    cFor (.nm 2) (iRange1 (eC (.int 3))) (cSeq [cAsg (.nm 3) (eOp [eLst false [(false, eC (.str "")), (false, eC (.str "no")), (false, eC (.str "a longer word")), (false, eC (.str "0"))], eFn [(false, eVar 1), (false, eC (.int 4))] (opCall F 2 false)] opIdx),
    cAsg (.nm 4) (eOp [eLst false [(false, eC (.int 0)), (false, eC (.int 1)), (false, eC (.int 7)), (false, eOp [eC (.int 10), eC (.int 20)] (opBin .pow false))], eFn [(false, eVar 1), (false, eC (.int 4))] (opCall F 2 false)] opIdx),
    cAsg (.nm 5) (eFn [(false, eVar 3), (false, eVar 4)] (opCall F 4 false)),
    cFor (.nm 6) (iRange1 (eFn [(false, eVar 5)] opLen)) (cSeq [cIf (eOp [eFn [(false, eOp [eVar 5, eVar 6] opIdx)] (opCall F 3 false), eLc false [7] [⟨.nm 7, iRange1 (eFn [(false, eVar 5)] opLen), []⟩] (eOp [eVar 7, eVar 6] (opCmp .eq))] (opCmp .ne)) (cSeq [cRet (eC (.bl false))]) (cPass),
    cIf (eOr [eNot (eOp [eOp [eVar 5, eVar 6] opIdx] (opIsC T 0)), eNot (eOp [eOp [eVar 5, eVar 6] opIdx] (opIsVE T))]) (cSeq [cRet (eC (.bl false))]) (cPass)]),
    cIf (eOp [eFn [(false, eLst false [(false, eOp [eOp [eVar 5, eC (.int 16)] opIdx] (opLn 1)), (false, eOp [eOp [eVar 4] (opX1 F 6 1)] (opLn 1))])] opRepr, eFn [(false, eLst false [(false, eVar 4), (false, eVar 4)])] opRepr] (opCmp .ne)) (cSeq [cRet (eC (.bl false))]) (cPass),
    cIf (eOr [eNot (eOp [eOp [eVar 3] (opExn 0)] (opIsVE T)), eFn [(false, eFn [(false, eOp [eVar 3] (opExn 0))] (opCall F 3 false))] opAny]) (cSeq [cRet (eC (.bl false))]) (cPass)]),
    cRet (eC (.bl true))]
def fns : Nat → Fn
  | 0 => fun _ _ _ => .stuck
  | d + 1 => fun f => match f with
    | 0 => runF 1 1 (b0 (fns d))
    | 1 => runF 1 6 (b1 (fns d))
    | 2 => runF 2 3 (b2 (fns d))
    | 3 => runF 1 2 (b3 (fns d))
    | 4 => runF 2 3 (b4 (fns d))
    | 5 => runF 1 8 (b5 (fns d))
    | 6 => fun _ bx => .ok (.v .non) bx
    | _ => fun _ _ => .stuck
def top (i : Nat) : Stmt := PySem.Challenge.pw_rootpaths_k24_errors.main.body.getD i (.Pass ⟨0, 0, 0, 0⟩)
structure Gl0 (P : Program) (w : World) (K : PySem.W.Frag) (mg : Str → Option Value) (base : Heap) (ca : Nat → Addr) : Prop where
  tab : TabOk K ca T
  sys : ∃ o, K.lookup sysModules = some o ∧ o.cls ≠ .type "list"
  f_ValueError : mg "ValueError" = none
  f_any : mg "any" = none
  f_int : mg "int" = none
  f_isinstance : mg "isinstance" = none
  f_len : mg "len" = none
  f_list : mg "list" = none
  f_range : mg "range" = none
  f_repr : mg "repr" = none
  k_PathError : mg "PathError" = some (.ref (ca 0))
  k_ParseError : mg "ParseError" = some (.ref (ca 1))
  k_Barred : mg "Barred" = some (.ref (ca 2))
  k_DuplicateName : mg "DuplicateName" = some (.ref (ca 3))
  k_InvalidBook : mg "InvalidBook" = some (.ref (ca 4))
  k_InvalidCaches : mg "InvalidCaches" = some (.ref (ca 5))
  k_InvalidCosts : mg "InvalidCosts" = some (.ref (ca 6))
  k_InvalidGraph : mg "InvalidGraph" = some (.ref (ca 7))
  k_InvalidLine : mg "InvalidLine" = some (.ref (ca 8))
  k_InvalidMachine : mg "InvalidMachine" = some (.ref (ca 9))
  k_InvalidName : mg "InvalidName" = some (.ref (ca 10))
  k_InvalidNames : mg "InvalidNames" = some (.ref (ca 11))
  k_InvalidNumber : mg "InvalidNumber" = some (.ref (ca 12))
  k_InvalidPath : mg "InvalidPath" = some (.ref (ca 13))
  k_InvalidQuestion : mg "InvalidQuestion" = some (.ref (ca 14))
  k_InvalidRule : mg "InvalidRule" = some (.ref (ca 15))
  k_LinkStands : mg "LinkStands" = some (.ref (ca 16))
  k_NothingToUndo : mg "NothingToUndo" = some (.ref (ca 17))
  k_UnknownLink : mg "UnknownLink" = some (.ref (ca 18))
  k_UnknownStore : mg "UnknownStore" = some (.ref (ca 19))
  k_UnknownThing : mg "UnknownThing" = some (.ref (ca 20))
  e_Barred : ExC0 K (ca 2)
  e_DuplicateName : ExC0 K (ca 3)
  e_InvalidBook : ExC0 K (ca 4)
  e_InvalidCaches : ExC0 K (ca 5)
  e_InvalidCosts : ExC0 K (ca 6)
  e_InvalidGraph : ExC0 K (ca 7)
  e_InvalidLine : ExC0 K (ca 8)
  e_InvalidMachine : ExC0 K (ca 9)
  e_InvalidName : ExC0 K (ca 10)
  e_InvalidNames : ExC0 K (ca 11)
  e_InvalidNumber : ExC0 K (ca 12)
  e_InvalidPath : ExC0 K (ca 13)
  e_InvalidQuestion : ExC0 K (ca 14)
  e_InvalidRule : ExC0 K (ca 15)
  e_LinkStands : ExC0 K (ca 16)
  e_NothingToUndo : ExC0 K (ca 17)
  e_PathError : ExC0 K (ca 0)
  e_UnknownLink : ExC0 K (ca 18)
  e_UnknownStore : ExC0 K (ca 19)
  e_UnknownThing : ExC0 K (ca 20)
  x_ParseError : X1Ok P w K mg base (ca 1)
  xk_ParseError : X1OkK P w K mg base (ca 1) "line"
  ln_ParseError : XfC K (ca 1) ∧ PySem.W.findIn K (.ref (ca 1)) "line" = some none
structure Fs (P : Program) (w : World) (K : PySem.W.Frag) (mg : Str → Option Value) (base : Heap) (ca : Nat → Addr) (k : Nat) (F : Fn) : Prop where
  f0 : FunOk P w K mg base ca k (F 0) 1 "_law_pen"
  f1 : FunOk P w K mg base ca k (F 1) 1 "_law_next"
  f2 : FunOk P w K mg base ca k (F 2) 2 "_law_draw"
  f3 : FunOk P w K mg base ca k (F 3) 1 "_law_classes"
  f4 : FunOk P w K mg base ca k (F 4) 2 "_law_made_errors"
  f5 : FunOk P w K mg base ca k (F 5) 1 "law"
  f6 : k = 0 → ∀ rs bx, F 6 rs bx = .stuck
section
variable {P : Program} {w : World} {K : PySem.W.Frag} {mg : Str → Option Value} {base : Heap} {ca : Nat → Addr} {k : Nat} {F : Fn} {X : Cx}
theorem s0 (G : Gl0 P w K mg base ca) (A : Fs P w K mg base ca k F) (c : Con P w K mg base k N0 (defScope (top 23)) (fun _ => true) X) (hp : PassesOwn (model X.prog X.w) X.A X.env X.xe) : SSs X ca (b0 F) (defBody (top 23)) :=
  (sss_one (ss_ret (se_lst (v_cons (v_ty c (noX_list _) (c_list c.calm) rfl G.f_list boot_list (v_cons (se_cut (v_var c rfl) .no (.yes se_int)) sa_nil)) (v_cons se_int (v_cons se_int sa_nil))))))
theorem s1 (G : Gl0 P w K mg base ca) (A : Fs P w K mg base ca k F) (c : Con P w K mg base k N1 (defScope (top 24)) (fun _ => true) X) (hp : PassesOwn (model X.prog X.w) X.A X.env X.xe) : SSs X ca (b1 F) (defBody (top 24)) :=
  (sss_cons (v_set c rfl (v_idx c (v_var c rfl) se_int))
    (sss_cons (v_setItem c (v_var c rfl) se_int (se_bin rfl (v_var c rfl) se_int))
    (sss_cons (v_set c rfl (se_bin rfl (se_bin rfl (v_var c rfl) se_int) se_int))
    (sss_cons (ss_if (v_tcmp c rfl (v_idx c (v_var c rfl) se_int) (se_lst sa_nil) (nomark _)) (sss_one (v_set c rfl (v_idx c (v_idx c (v_var c rfl) se_int) (se_bin rfl (v_ty c noX_int c_int rfl G.f_int boot_int (v_cons (v_var c rfl) sa_nil)) (v_fn c noX_len c_len rfl G.f_len boot_len (v_cons (v_idx c (v_var c rfl) se_int) sa_nil)))))) sss_nil)
    (sss_cons (ss_if (sw_and (v_tcmp c rfl (v_var c rfl) (v_fn c noX_len c_len rfl G.f_len boot_len (v_cons (v_idx c (v_var c rfl) se_int) sa_nil)) (nomark _)) (v_wand1 (v_tcmp c rfl (v_var c rfl) (se_bin rfl se_int se_int) (nomark _)))).st (sss_one (ss_ret (v_var c rfl))) sss_nil)
    (sss_cons (v_set c rfl (se_bin rfl (v_ty c noX_int c_int rfl G.f_int boot_int (v_cons (se_bin rfl (se_bin rfl (se_bin rfl (v_ty c noX_int c_int rfl G.f_int boot_int (v_cons (v_var c rfl) sa_nil)) se_int) (se_bin rfl (v_var c rfl) se_int)) se_int) sa_nil)) se_int))
    (sss_cons (v_set c rfl (se_bin rfl (v_ty c noX_int c_int rfl G.f_int boot_int (v_cons (se_bin rfl (se_bin rfl (se_bin rfl (v_var c rfl) (v_var c rfl)) (se_bin rfl (v_var c rfl) se_int)) se_int) sa_nil)) se_int))
    (sss_cons (v_set c rfl (se_bin rfl (v_ty c noX_int c_int rfl G.f_int boot_int (v_cons (se_bin rfl (se_bin rfl (se_bin rfl (v_var c rfl) (v_var c rfl)) (v_var c rfl)) (se_bin rfl (se_bin rfl (v_var c rfl) (v_var c rfl)) se_int)) sa_nil)) se_int))
    (sss_one (ss_ret (se_bin rfl (se_bin rfl (se_bin rfl (se_bin rfl (v_var c rfl) se_int) (v_var c rfl)) se_int) (v_var c rfl))))))))))))
theorem s2 (G : Gl0 P w K mg base ca) (A : Fs P w K mg base ca k F) (c : Con P w K mg base k N2 (defScope (top 25)) (fun _ => true) X) (hp : PassesOwn (model X.prog X.w) X.A X.env X.xe) : SSs X ca (b2 F) (defBody (top 25)) :=
  (sss_cons (ss_if (v_tcmp c rfl (v_idx c (v_var c rfl) se_int) (v_var c rfl) (nomark _)) (sss_one (v_setItem c (v_var c rfl) se_int (v_call c A.f1 rfl (v_cons (v_var c rfl) sa_nil)))) sss_nil)
    (sss_cons (v_set c rfl (se_bin rfl (v_ty c noX_int c_int rfl G.f_int boot_int (v_cons (v_idx c (v_var c rfl) se_int) sa_nil)) (v_var c rfl)))
    (sss_cons (v_setItem c (v_var c rfl) se_int (se_bin rfl (v_idx c (v_var c rfl) se_int) (v_var c rfl)))
    (sss_one (ss_ret (v_var c rfl))))))
theorem s3 (G : Gl0 P w K mg base ca) (A : Fs P w K mg base ca k F) (c : Con P w K mg base k N3 (defScope (top 26)) (fun _ => true) X) (hp : PassesOwn (model X.prog X.w) X.A X.env X.xe) : SSs X ca (b3 F) (defBody (top 26)) :=
  (sss_cons (v_set c rfl (se_lst (v_cons (v_isC c G.tab 2 rfl G.f_isinstance rfl G.k_Barred (v_var c rfl)) (v_cons (v_isC c G.tab 3 rfl G.f_isinstance rfl G.k_DuplicateName (v_var c rfl)) (v_cons (v_isC c G.tab 4 rfl G.f_isinstance rfl G.k_InvalidBook (v_var c rfl)) sa_nil)))))
    (sss_cons (v_set c rfl (se_bin rfl (v_var c rfl) (se_lst (v_cons (v_isC c G.tab 5 rfl G.f_isinstance rfl G.k_InvalidCaches (v_var c rfl)) (v_cons (v_isC c G.tab 6 rfl G.f_isinstance rfl G.k_InvalidCosts (v_var c rfl)) sa_nil)))))
    (sss_cons (v_set c rfl (se_bin rfl (v_var c rfl) (se_lst (v_cons (v_isC c G.tab 7 rfl G.f_isinstance rfl G.k_InvalidGraph (v_var c rfl)) (v_cons (v_isC c G.tab 8 rfl G.f_isinstance rfl G.k_InvalidLine (v_var c rfl)) sa_nil)))))
    (sss_cons (v_set c rfl (se_bin rfl (v_var c rfl) (se_lst (v_cons (v_isC c G.tab 9 rfl G.f_isinstance rfl G.k_InvalidMachine (v_var c rfl)) (v_cons (v_isC c G.tab 10 rfl G.f_isinstance rfl G.k_InvalidName (v_var c rfl)) sa_nil)))))
    (sss_cons (v_set c rfl (se_bin rfl (v_var c rfl) (se_lst (v_cons (v_isC c G.tab 11 rfl G.f_isinstance rfl G.k_InvalidNames (v_var c rfl)) (v_cons (v_isC c G.tab 12 rfl G.f_isinstance rfl G.k_InvalidNumber (v_var c rfl)) sa_nil)))))
    (sss_cons (v_set c rfl (se_bin rfl (v_var c rfl) (se_lst (v_cons (v_isC c G.tab 13 rfl G.f_isinstance rfl G.k_InvalidPath (v_var c rfl)) (v_cons (v_isC c G.tab 14 rfl G.f_isinstance rfl G.k_InvalidQuestion (v_var c rfl)) sa_nil)))))
    (sss_cons (v_set c rfl (se_bin rfl (v_var c rfl) (se_lst (v_cons (v_isC c G.tab 15 rfl G.f_isinstance rfl G.k_InvalidRule (v_var c rfl)) (v_cons (v_isC c G.tab 16 rfl G.f_isinstance rfl G.k_LinkStands (v_var c rfl)) sa_nil)))))
    (sss_cons (v_set c rfl (se_bin rfl (v_var c rfl) (se_lst (v_cons (v_isC c G.tab 17 rfl G.f_isinstance rfl G.k_NothingToUndo (v_var c rfl)) (v_cons (v_isC c G.tab 1 rfl G.f_isinstance rfl G.k_ParseError (v_var c rfl)) sa_nil)))))
    (sss_cons (v_set c rfl (se_bin rfl (v_var c rfl) (se_lst (v_cons (v_isC c G.tab 18 rfl G.f_isinstance rfl G.k_UnknownLink (v_var c rfl)) (v_cons (v_isC c G.tab 19 rfl G.f_isinstance rfl G.k_UnknownStore (v_var c rfl)) sa_nil)))))
    (sss_one (ss_ret (se_bin rfl (v_var c rfl) (se_lst (v_cons (v_isC c G.tab 20 rfl G.f_isinstance rfl G.k_UnknownThing (v_var c rfl)) sa_nil))))))))))))))
theorem s4 (G : Gl0 P w K mg base ca) (A : Fs P w K mg base ca k F) (c : Con P w K mg base k N4 (defScope (top 27)) (fun _ => true) X) (hp : PassesOwn (model X.prog X.w) X.A X.env X.xe) : SSs X ca (b4 F) (defBody (top 27)) :=
  (sss_cons (v_set c rfl (se_lst (v_cons (v_exn c G.e_Barred G.k_Barred rfl (v_var c rfl)) (v_cons (v_exn c G.e_DuplicateName G.k_DuplicateName rfl (v_var c rfl)) (v_cons (v_exn c G.e_InvalidBook G.k_InvalidBook rfl (v_var c rfl)) (v_cons (v_exn c G.e_InvalidCaches G.k_InvalidCaches rfl (v_var c rfl)) (v_cons (v_exn c G.e_InvalidCosts G.k_InvalidCosts rfl (v_var c rfl)) sa_nil)))))))
    (sss_cons (v_set c rfl (se_bin rfl (v_var c rfl) (se_lst (v_cons (v_exn c G.e_InvalidGraph G.k_InvalidGraph rfl (v_var c rfl)) (v_cons (v_exn c G.e_InvalidLine G.k_InvalidLine rfl (v_var c rfl)) (v_cons (v_exn c G.e_InvalidMachine G.k_InvalidMachine rfl (v_var c rfl)) (v_cons (v_exn c G.e_InvalidName G.k_InvalidName rfl (v_var c rfl)) sa_nil)))))))
    (sss_cons (v_set c rfl (se_bin rfl (v_var c rfl) (se_lst (v_cons (v_exn c G.e_InvalidNames G.k_InvalidNames rfl (v_var c rfl)) (v_cons (v_exn c G.e_InvalidNumber G.k_InvalidNumber rfl (v_var c rfl)) (v_cons (v_exn c G.e_InvalidPath G.k_InvalidPath rfl (v_var c rfl)) (v_cons (v_exn c G.e_InvalidQuestion G.k_InvalidQuestion rfl (v_var c rfl)) sa_nil)))))))
    (sss_cons (v_set c rfl (se_bin rfl (v_var c rfl) (se_lst (v_cons (v_exn c G.e_InvalidRule G.k_InvalidRule rfl (v_var c rfl)) (v_cons (v_exn c G.e_LinkStands G.k_LinkStands rfl (v_var c rfl)) (v_cons (v_exn c G.e_NothingToUndo G.k_NothingToUndo rfl (v_var c rfl)) (v_cons (v_x1 c A.f6 G.x_ParseError G.k_ParseError rfl (v_var c rfl)) (v_cons (v_exn c G.e_UnknownLink G.k_UnknownLink rfl (v_var c rfl)) sa_nil))))))))
    (sss_one (ss_ret (se_bin rfl (v_var c rfl) (se_lst (v_cons (v_exn c G.e_UnknownStore G.k_UnknownStore rfl (v_var c rfl)) (v_cons (v_exn c G.e_UnknownThing G.k_UnknownThing rfl (v_var c rfl)) sa_nil))))))))))
theorem s5 (G : Gl0 P w K mg base ca) (A : Fs P w K mg base ca k F) (c : Con P w K mg base k N5 (defScope (top 28)) (fun _ => true) X) (hp : PassesOwn (model X.prog X.w) X.A X.env X.xe) : SSs X ca (b5 F) (defBody (top 28)) :=
  (sss_cons (v_set c rfl (v_call c A.f0 rfl (v_cons (v_var c rfl) sa_nil)))
    (sss_cons (v_for c hp (v_range1 c rfl G.f_range se_int) (v_name c rfl) (sss_cons (v_set c rfl (v_idx c (se_lst (v_cons se_str (v_cons se_str (v_cons se_str (v_cons se_str sa_nil))))) (v_call c A.f2 rfl (v_cons (v_var c rfl) (v_cons se_int sa_nil)))))
    (sss_cons (v_set c rfl (v_idx c (se_lst (v_cons se_int (v_cons se_int (v_cons se_int (v_cons (se_bin rfl se_int se_int) sa_nil))))) (v_call c A.f2 rfl (v_cons (v_var c rfl) (v_cons se_int sa_nil)))))
    (sss_cons (v_set c rfl (v_call c A.f4 rfl (v_cons (v_var c rfl) (v_cons (v_var c rfl) sa_nil))))
    (sss_cons (v_for c hp (v_range1 c rfl G.f_range (v_fn c noX_len c_len rfl G.f_len boot_len (v_cons (v_var c rfl) sa_nil))) (v_name c rfl) (sss_cons (ss_if (v_tcmp c rfl (v_call c A.f3 rfl (v_cons (v_idx c (v_var c rfl) (v_var c rfl)) sa_nil)) (v_lc (own := [("_law_j", 7)]) c (v_range1 c rfl G.f_range (v_fn c noX_len c_len rfl G.f_len boot_len (v_cons (v_var c rfl) sa_nil))) rfl (fun X' c' => (v_name c' rfl)) (fun X' c' => .nil) (fun X' c' => (v_cmp c' rfl (v_var c' rfl) (v_var c' rfl) (nomark _))) rfl) (nomark _)) (sss_one (ss_ret se_bl)) sss_nil)
    (sss_one (ss_if (sw_or (st_not (v_val (v_isC c G.tab 0 rfl G.f_isinstance rfl G.k_PathError (v_idx c (v_var c rfl) (v_var c rfl))))) (v_wor1 (st_not (v_val (v_isVE c G.tab rfl G.f_isinstance rfl G.f_ValueError PyProof.Rows.Boot.«ValueError» (v_idx c (v_var c rfl) (v_var c rfl))))))).st (sss_one (ss_ret se_bl)) sss_nil))))
    (sss_cons (ss_if (v_tcmp c rfl (v_fn c noX_repr (c_repr c.rm.gd c.u64 (by rw [c.frag]; exact G.sys)) rfl G.f_repr boot_repr (v_cons (se_lst (v_cons (v_line c G.ln_ParseError (v_idx c (v_var c rfl) se_int)) (v_cons (v_line c G.ln_ParseError (v_x1k c A.f6 G.xk_ParseError G.k_ParseError rfl (v_var c rfl))) sa_nil))) sa_nil)) (v_fn c noX_repr (c_repr c.rm.gd c.u64 (by rw [c.frag]; exact G.sys)) rfl G.f_repr boot_repr (v_cons (se_lst (v_cons (v_var c rfl) (v_cons (v_var c rfl) sa_nil))) sa_nil)) (nomark _)) (sss_one (ss_ret se_bl)) sss_nil)
    (sss_one (ss_if (sw_or (st_not (v_val (v_isVE c G.tab rfl G.f_isinstance rfl G.f_ValueError PyProof.Rows.Boot.«ValueError» (v_exn c G.e_PathError G.k_PathError rfl (v_var c rfl))))) (v_wor1 (v_val (v_fn c noX_any (c_any c.calm) rfl G.f_any boot_any (v_cons (v_call c A.f3 rfl (v_cons (v_exn c G.e_PathError G.k_PathError rfl (v_var c rfl)) sa_nil)) sa_nil))))).st (sss_one (ss_ret se_bl)) sss_nil))))))))
    (sss_one (ss_ret se_bl))))
structure Ds (K : PySem.W.Frag) (mg : Str → Option Value) : Prop where
  d0 : ∃ fa fd, FunD K "_law_pen" "_law_pen" (defArgs (top 23)) (defBody (top 23)) (defScope (top 23)) [] [] fa fd ∧ mg "_law_pen" = some (.ref fa)
  d1 : ∃ fa fd, FunD K "_law_next" "_law_next" (defArgs (top 24)) (defBody (top 24)) (defScope (top 24)) [] [] fa fd ∧ mg "_law_next" = some (.ref fa)
  d2 : ∃ fa fd, FunD K "_law_draw" "_law_draw" (defArgs (top 25)) (defBody (top 25)) (defScope (top 25)) [] [] fa fd ∧ mg "_law_draw" = some (.ref fa)
  d3 : ∃ fa fd, FunD K "_law_classes" "_law_classes" (defArgs (top 26)) (defBody (top 26)) (defScope (top 26)) [] [] fa fd ∧ mg "_law_classes" = some (.ref fa)
  d4 : ∃ fa fd, FunD K "_law_made_errors" "_law_made_errors" (defArgs (top 27)) (defBody (top 27)) (defScope (top 27)) [] [] fa fd ∧ mg "_law_made_errors" = some (.ref fa)
  d5 : ∃ fa fd, FunD K "law" "law" (defArgs (top 28)) (defBody (top 28)) (defScope (top 28)) [] [] fa fd ∧ mg "law" = some (.ref fa)
theorem sc0 : FnScope N0 ["_law_script"] (defScope (top 23)) := ⟨rfl, rfl, rfl, by decide +kernel, rfl, by decide +kernel, by decide +kernel⟩
theorem sc1 : FnScope N1 ["_law_pen_here"] (defScope (top 24)) := ⟨rfl, rfl, rfl, by decide +kernel, rfl, by decide +kernel, by decide +kernel⟩
theorem sc2 : FnScope N2 ["_law_pen_here", "_law_under"] (defScope (top 25)) := ⟨rfl, rfl, rfl, by decide +kernel, rfl, by decide +kernel, by decide +kernel⟩
theorem sc3 : FnScope N3 ["_law_caught"] (defScope (top 26)) := ⟨rfl, rfl, rfl, by decide +kernel, rfl, by decide +kernel, by decide +kernel⟩
theorem sc4 : FnScope N4 ["_law_word", "_law_number"] (defScope (top 27)) := ⟨rfl, rfl, rfl, by decide +kernel, rfl, by decide +kernel, by decide +kernel⟩
theorem sc5 : FnScope N5 ["_law_script"] (defScope (top 28)) := ⟨rfl, rfl, rfl, by decide +kernel, rfl, by decide +kernel, by decide +kernel⟩
theorem all (D : Ds K mg) (G : Gl0 P w K mg base ca) : ∀ k, Fs P w K mg base ca k (fns k)
  | 0 => ⟨let ⟨_, _, h, e⟩ := D.d0; fun0 (ps := ["_law_script"]) (fun _ _ => rfl) h e rfl (fun _ _ _ _ _ _ us hl => match us, hl with | [_], _ => rfl),
    let ⟨_, _, h, e⟩ := D.d1; fun0 (ps := ["_law_pen_here"]) (fun _ _ => rfl) h e rfl (fun _ _ _ _ _ _ us hl => match us, hl with | [_], _ => rfl),
    let ⟨_, _, h, e⟩ := D.d2; fun0 (ps := ["_law_pen_here", "_law_under"]) (fun _ _ => rfl) h e rfl (fun _ _ _ _ _ _ us hl => match us, hl with | [_, _], _ => rfl),
    let ⟨_, _, h, e⟩ := D.d3; fun0 (ps := ["_law_caught"]) (fun _ _ => rfl) h e rfl (fun _ _ _ _ _ _ us hl => match us, hl with | [_], _ => rfl),
    let ⟨_, _, h, e⟩ := D.d4; fun0 (ps := ["_law_word", "_law_number"]) (fun _ _ => rfl) h e rfl (fun _ _ _ _ _ _ us hl => match us, hl with | [_, _], _ => rfl),
    let ⟨_, _, h, e⟩ := D.d5; fun0 (ps := ["_law_script"]) (fun _ _ => rfl) h e rfl (fun _ _ _ _ _ _ us hl => match us, hl with | [_], _ => rfl),
    fun _ _ _ => rfl⟩
  | k + 1 => ⟨let ⟨_, _, h, e⟩ := D.d0; def_ok (F := fns (k + 1)) h e sc0 rfl rfl rfl (fun _ _ _ _ _ _ us hl => match us, hl with | [_], _ => rfl) fun _ c hp => s0 G (all D G k) c hp,
    let ⟨_, _, h, e⟩ := D.d1; def_ok (F := fns (k + 1)) h e sc1 rfl rfl rfl (fun _ _ _ _ _ _ us hl => match us, hl with | [_], _ => rfl) fun _ c hp => s1 G (all D G k) c hp,
    let ⟨_, _, h, e⟩ := D.d2; def_ok (F := fns (k + 1)) h e sc2 rfl rfl rfl (fun _ _ _ _ _ _ us hl => match us, hl with | [_, _], _ => rfl) fun _ c hp => s2 G (all D G k) c hp,
    let ⟨_, _, h, e⟩ := D.d3; def_ok (F := fns (k + 1)) h e sc3 rfl rfl rfl (fun _ _ _ _ _ _ us hl => match us, hl with | [_], _ => rfl) fun _ c hp => s3 G (all D G k) c hp,
    let ⟨_, _, h, e⟩ := D.d4; def_ok (F := fns (k + 1)) h e sc4 rfl rfl rfl (fun _ _ _ _ _ _ us hl => match us, hl with | [_, _], _ => rfl) fun _ c hp => s4 G (all D G k) c hp,
    let ⟨_, _, h, e⟩ := D.d5; def_ok (F := fns (k + 1)) h e sc5 rfl rfl rfl (fun _ _ _ _ _ _ us hl => match us, hl with | [_], _ => rfl) fun _ c hp => s5 G (all D G k) c hp,
    fun h => nomatch h⟩
end
end AM.K24
/-! text K24h -/
set_option Elab.async false
set_option linter.all false
set_option maxRecDepth 100000
set_option maxHeartbeats 0
namespace AM.K24
open PySem PySem.Spec PyProof.Rows L2
def cn : List Str := ["PathError", "ParseError", "Barred", "DuplicateName", "InvalidBook", "InvalidCaches", "InvalidCosts", "InvalidGraph", "InvalidLine", "InvalidMachine", "InvalidName", "InvalidNames", "InvalidNumber", "InvalidPath", "InvalidQuestion", "InvalidRule", "LinkStands", "NothingToUndo", "UnknownLink", "UnknownStore", "UnknownThing"]
def caK (K : PySem.W.Frag) : Nat → Addr := fun n => He.ga K (cn.getD n "")
def dfs : List He.DefD := [⟨("_law_pen", none), "_law_pen", "_law_pen", defArgs (top 23), defBody (top 23), defScope (top 23), [], []⟩,
  ⟨("_law_next", none), "_law_next", "_law_next", defArgs (top 24), defBody (top 24), defScope (top 24), [], []⟩,
  ⟨("_law_draw", none), "_law_draw", "_law_draw", defArgs (top 25), defBody (top 25), defScope (top 25), [], []⟩,
  ⟨("_law_classes", none), "_law_classes", "_law_classes", defArgs (top 26), defBody (top 26), defScope (top 26), [], []⟩,
  ⟨("_law_made_errors", none), "_law_made_errors", "_law_made_errors", defArgs (top 27), defBody (top 27), defScope (top 27), [], []⟩,
  ⟨("law", none), "law", "law", defArgs (top 28), defBody (top 28), defScope (top 28), [], []⟩]
def fas : List He.Fa := [.glo "_law_pen", .glo "_law_next", .glo "_law_draw", .glo "_law_classes", .glo "_law_made_errors", .glo "law", .glo "PathError", .glo "ParseError", .glo "Barred", .glo "DuplicateName", .glo "InvalidBook", .glo "InvalidCaches", .glo "InvalidCosts", .glo "InvalidGraph", .glo "InvalidLine", .glo "InvalidMachine", .glo "InvalidName", .glo "InvalidNames", .glo "InvalidNumber", .glo "InvalidPath", .glo "InvalidQuestion", .glo "InvalidRule", .glo "LinkStands", .glo "NothingToUndo", .glo "UnknownLink", .glo "UnknownStore", .glo "UnknownThing", .free "ValueError", .free "any", .free "int", .free "isinstance", .free "len", .free "list", .free "range", .free "repr", .exc "Barred", .exc "DuplicateName", .exc "InvalidBook", .exc "InvalidCaches", .exc "InvalidCosts", .exc "InvalidGraph", .exc "InvalidLine", .exc "InvalidMachine", .exc "InvalidName", .exc "InvalidNames", .exc "InvalidNumber", .exc "InvalidPath", .exc "InvalidQuestion", .exc "InvalidRule", .exc "LinkStands", .exc "NothingToUndo", .exc "PathError", .exc "UnknownLink", .exc "UnknownStore", .exc "UnknownThing", .free "super"]
def inn_ParseError : Stmt := clsDef (top 2) 0
def xds : List X1D := [⟨"ParseError", "ParseError.__init__", defArgs inn_ParseError, defBody inn_ParseError, defScope inn_ParseError⟩]
def ex (K : PySem.W.Frag) : Bool := tabB K (caK K) T && sysB K && lnB K (caK K 1) && xds.all (fun d => x1B K d PySem.Challenge.pw_rootpaths_k24_errors.main.file)
abbrev rowL : PySem.W.OpenRow := PySem.W.OpenLaw.row PySem.Challenge.rw_rootpaths_k24_errors
abbrev hk : PySem.W.Hook := hookM 4 fas dfs xds ex
def ob (s : PySem.W.SharedT) : AlM := obsM 4 fas dfs xds ex (HandSHeadRun.getT s)
theorem ob_eq (s : PySem.W.SharedT) : ob s = hk.obs s.abs := obsM_eq (HandSHeadRun.getT_eq s)
def loose : List Str := ["PathError", "ParseError", "Barred", "DuplicateName", "InvalidBook", "InvalidCaches", "InvalidCosts", "InvalidGraph", "InvalidLine", "InvalidMachine", "InvalidName", "InvalidNames", "InvalidNumber", "InvalidPath", "InvalidQuestion", "InvalidRule", "LinkStands", "NothingToUndo", "UnknownLink", "UnknownStore", "UnknownThing", "_law_pen", "_law_next", "_law_draw", "_law_classes", "_law_made_errors"]
theorem run (w : World) : HandSHeadRun.RunEq rowL (PySem.W.view rowL.prog [28]) hk ob 30000 loose w := by
  intro os
  kernel_rfl
theorem inF {K : PySem.W.Frag} (c : He.SaysD fas dfs K) {f : He.Fa} (h : f ∈ fas) : f.ok K = true := by
  obtain ⟨i, hi, e⟩ := List.mem_iff_getElem.mp h
  exact c.fact i (f := f) (by rw [List.getElem?_eq_getElem hi, e])
theorem ds {K : PySem.W.Frag} {mg : Str → Option Value} {h : Heap} (X : K.In h) (G : h.Ns mainGlobals mg) (c : He.SaysD fas dfs K) : Ds K mg := by
  have key : ∀ (i : Nat) (d : He.DefD), dfs[i]? = some d → d.at_ = (d.name, none) → d.qual = d.name → d.dfl = [] → d.kwd = [] → (He.Fa.glo d.name) ∈ fas → ∃ fa fd, FunD K d.name d.name d.params d.body d.scope [] [] fa fd ∧ mg d.name = some (.ref fa) := fun i d h1 h2 h3 h4 h5 h6 => by
    obtain ⟨fd, F⟩ := c.def_ i h1
    rw [h3, h2] at F
    refine ⟨_, fd, ?_, He.glo_ok X G (inF c h6)⟩
    have e1 : d.dvs K = [] := by unfold He.DefD.dvs; rw [h4]; rfl
    have e2 : d.kws K = [] := by unfold He.DefD.kws; rw [h5]; rfl
    rw [e1, e2] at F
    exact F
  exact ⟨key 0 _ rfl rfl rfl rfl rfl (by simp [fas]), key 1 _ rfl rfl rfl rfl rfl (by simp [fas]), key 2 _ rfl rfl rfl rfl rfl (by simp [fas]), key 3 _ rfl rfl rfl rfl rfl (by simp [fas]), key 4 _ rfl rfl rfl rfl rfl (by simp [fas]), key 5 _ rfl rfl rfl rfl rfl (by simp [fas])⟩
theorem xt_ParseError : X1Text ⟨"ParseError", "ParseError.__init__", defArgs inn_ParseError, defBody inn_ParseError, defScope inn_ParseError⟩ := ⟨⟨_, _, _, _, _, _, _, _, _, _, _, _, _, _, rfl, by decide +kernel, fun _ _ _ _ _ => ⟨_, rfl⟩⟩, rfl, ⟨_, rfl, rfl⟩, fun _ _ _ _ _ _ _ _ _ _ _ _ _ _ => rfl, fun _ _ _ _ _ _ _ _ _ _ _ _ _ _ => rfl⟩
theorem gl {P : Program} {w : World} {K : PySem.W.Frag} {mg : Str → Option Value} {h base : Heap} (hP : P = PySem.Challenge.pw_rootpaths_k24_errors) (X : K.In h) (G : h.Ns mainGlobals mg) (c : He.SaysD fas dfs K) (e : ex K = true) (hx : ∀ d ∈ xds, fnC K d.x = d.val) : Gl0 P w K mg base (caK K) := by
  obtain ⟨e, h3⟩ := ba2 e
  obtain ⟨e, h2⟩ := ba2 e
  obtain ⟨e, h1⟩ := ba2 e
  have h0 := e
  have X0 := x1F_of (P := P) (mg := mg) (d := ⟨"ParseError", "ParseError.__init__", defArgs inn_ParseError, defBody inn_ParseError, defScope inn_ParseError⟩) (hx _ (by simp [xds])) (List.all_eq_true.mp h3 _ (by simp [xds])) (by rw [hP]) (by rw [hP]; rfl) (He.free_ok X G (inF c (f := .free "super") (by simp [fas])))
  obtain ⟨_, _, X0⟩ := X0
  obtain ⟨xo0, xk0⟩ := x1_both (w := w) (base := base) X0 xt_ParseError
  exact ⟨tabB_ok h0,
    sysB_ok h1,
    He.free_ok X G (inF c (f := .free "ValueError") (by simp [fas])),
    He.free_ok X G (inF c (f := .free "any") (by simp [fas])),
    He.free_ok X G (inF c (f := .free "int") (by simp [fas])),
    He.free_ok X G (inF c (f := .free "isinstance") (by simp [fas])),
    He.free_ok X G (inF c (f := .free "len") (by simp [fas])),
    He.free_ok X G (inF c (f := .free "list") (by simp [fas])),
    He.free_ok X G (inF c (f := .free "range") (by simp [fas])),
    He.free_ok X G (inF c (f := .free "repr") (by simp [fas])),
    He.glo_ok X G (inF c (f := .glo "PathError") (by simp [fas])),
    He.glo_ok X G (inF c (f := .glo "ParseError") (by simp [fas])),
    He.glo_ok X G (inF c (f := .glo "Barred") (by simp [fas])),
    He.glo_ok X G (inF c (f := .glo "DuplicateName") (by simp [fas])),
    He.glo_ok X G (inF c (f := .glo "InvalidBook") (by simp [fas])),
    He.glo_ok X G (inF c (f := .glo "InvalidCaches") (by simp [fas])),
    He.glo_ok X G (inF c (f := .glo "InvalidCosts") (by simp [fas])),
    He.glo_ok X G (inF c (f := .glo "InvalidGraph") (by simp [fas])),
    He.glo_ok X G (inF c (f := .glo "InvalidLine") (by simp [fas])),
    He.glo_ok X G (inF c (f := .glo "InvalidMachine") (by simp [fas])),
    He.glo_ok X G (inF c (f := .glo "InvalidName") (by simp [fas])),
    He.glo_ok X G (inF c (f := .glo "InvalidNames") (by simp [fas])),
    He.glo_ok X G (inF c (f := .glo "InvalidNumber") (by simp [fas])),
    He.glo_ok X G (inF c (f := .glo "InvalidPath") (by simp [fas])),
    He.glo_ok X G (inF c (f := .glo "InvalidQuestion") (by simp [fas])),
    He.glo_ok X G (inF c (f := .glo "InvalidRule") (by simp [fas])),
    He.glo_ok X G (inF c (f := .glo "LinkStands") (by simp [fas])),
    He.glo_ok X G (inF c (f := .glo "NothingToUndo") (by simp [fas])),
    He.glo_ok X G (inF c (f := .glo "UnknownLink") (by simp [fas])),
    He.glo_ok X G (inF c (f := .glo "UnknownStore") (by simp [fas])),
    He.glo_ok X G (inF c (f := .glo "UnknownThing") (by simp [fas])),
    exc0_ok (inF c (f := .exc "Barred") (by simp [fas])),
    exc0_ok (inF c (f := .exc "DuplicateName") (by simp [fas])),
    exc0_ok (inF c (f := .exc "InvalidBook") (by simp [fas])),
    exc0_ok (inF c (f := .exc "InvalidCaches") (by simp [fas])),
    exc0_ok (inF c (f := .exc "InvalidCosts") (by simp [fas])),
    exc0_ok (inF c (f := .exc "InvalidGraph") (by simp [fas])),
    exc0_ok (inF c (f := .exc "InvalidLine") (by simp [fas])),
    exc0_ok (inF c (f := .exc "InvalidMachine") (by simp [fas])),
    exc0_ok (inF c (f := .exc "InvalidName") (by simp [fas])),
    exc0_ok (inF c (f := .exc "InvalidNames") (by simp [fas])),
    exc0_ok (inF c (f := .exc "InvalidNumber") (by simp [fas])),
    exc0_ok (inF c (f := .exc "InvalidPath") (by simp [fas])),
    exc0_ok (inF c (f := .exc "InvalidQuestion") (by simp [fas])),
    exc0_ok (inF c (f := .exc "InvalidRule") (by simp [fas])),
    exc0_ok (inF c (f := .exc "LinkStands") (by simp [fas])),
    exc0_ok (inF c (f := .exc "NothingToUndo") (by simp [fas])),
    exc0_ok (inF c (f := .exc "PathError") (by simp [fas])),
    exc0_ok (inF c (f := .exc "UnknownLink") (by simp [fas])),
    exc0_ok (inF c (f := .exc "UnknownStore") (by simp [fas])),
    exc0_ok (inF c (f := .exc "UnknownThing") (by simp [fas])),
    xo0,
    xk0,
    lnB_ok h2⟩
end AM.K24
/-! text AmP -/
set_option Elab.async false
set_option linter.all false
set_option maxRecDepth 100000
/-! AmP: a calculus of wishes over the machine's meanings, for the plain laws. -/
namespace AM
open PySem

/-- the answer is one of Q's -/
@[irreducible] def wR (Q : R → Bx → Prop) : Res → Prop
  | .ok r b => Q r b
  | _ => False
theorem wR_ok {Q : R → Bx → Prop} {r : R} {b : Bx} : wR Q (.ok r b) ↔ Q r b := by unfold wR; exact Iff.rfl
theorem wR_exc {Q : R → Bx → Prop} {w : W} {b : Bx} : wR Q (.exc w b) ↔ False := by unfold wR; exact Iff.rfl
theorem wR_st {Q : R → Bx → Prop} : wR Q .stuck ↔ False := by unfold wR; exact Iff.rfl
def wE (m : E) (en : En) (bx : Bx) (Q : R → Bx → Prop) : Prop := wR Q (m en bx)
/-- a statement's ways: on, back -/
structure Dz where
  nx : En → Bx → Prop
  rt : R → Bx → Prop
  ct : En → Bx → Prop := fun _ _ => False
@[irreducible] def wT (D : Dz) : Ct → Prop
  | .nx en b => D.nx en b
  | .rt r b => D.rt r b
  | .ct en b => D.ct en b
  | _ => False
section
variable {D : Dz} {e : En} {r : R} {b : Bx} {w : W}
theorem wT_nx : wT D (.nx e b) ↔ D.nx e b := by unfold wT; exact Iff.rfl
theorem wT_rt : wT D (.rt r b) ↔ D.rt r b := by unfold wT; exact Iff.rfl
theorem wT_ct : wT D (.ct e b) ↔ D.ct e b := by unfold wT; exact Iff.rfl
theorem wT_exc : wT D (.exc w e b) ↔ False := by unfold wT; exact Iff.rfl
theorem wT_st : wT D .stuck ↔ False := by unfold wT; exact Iff.rfl
end
def wC (c : C) (en : En) (bx : Bx) (D : Dz) : Prop := wT D (c en bx)
section
variable {m : E} {en : En} {bx : Bx} {Q Q' : R → Bx → Prop} {k : R → E} {D D' : Dz} {c : C}
theorem wR_post {x : Res} (h : ∀ r b, Q r b ↔ Q' r b) : wR Q x ↔ wR Q' x := by
  cases x <;> simp only [wR_ok, wR_exc, wR_st, h]
theorem wE_post (h : ∀ r b, Q r b ↔ Q' r b) : wE m en bx Q ↔ wE m en bx Q' := wR_post h
theorem wR_imp {x : Res} (h : wR Q x) (k : ∀ r b, Q r b → Q' r b) : wR Q' x := by
  cases x with
  | ok r b => exact wR_ok.mpr (k r b (wR_ok.mp h))
  | exc _ _ => exact (wR_exc.mp h).elim
  | stuck => exact (wR_st.mp h).elim
theorem wE_mono (h : wE m en bx Q) (k : ∀ r b, Q r b → Q' r b) : wE m en bx Q' := wR_imp h k
theorem wR_of {x : Res} {r : R} {b : Bx} (h : x = .ok r b) : wR Q x ↔ Q r b := by rw [h]; exact wR_ok
theorem wR_get {x : Res} (h : wR Q x) : ∃ r b, x = .ok r b ∧ Q r b := by
  cases x with
  | ok r b => exact ⟨r, b, rfl, wR_ok.mp h⟩
  | exc _ _ => exact (wR_exc.mp h).elim
  | stuck => exact (wR_st.mp h).elim
theorem wR_eq {x : Res} {r : R} {b : Bx} (h : wR (fun r' b' => r' = r ∧ b' = b) x) : x = .ok r b := by
  obtain ⟨r', b', e, rfl, rfl⟩ := wR_get h
  exact e
theorem wT_imp {x : Ct} (h : wT D x) (kn : ∀ e b, D.nx e b → D'.nx e b) (kr : ∀ r b, D.rt r b → D'.rt r b) (kc : ∀ e b, D.ct e b → D'.ct e b) : wT D' x := by
  cases x with
  | nx e b => exact wT_nx.mpr (kn _ _ (wT_nx.mp h))
  | rt r b => exact wT_rt.mpr (kr _ _ (wT_rt.mp h))
  | ct e b => exact wT_ct.mpr (kc _ _ (wT_ct.mp h))
  | exc _ _ _ => exact (wT_exc.mp h).elim
  | stuck => exact (wT_st.mp h).elim
theorem wC_mono (h : wC c en bx D) (kn : ∀ e b, D.nx e b → D'.nx e b) (kr : ∀ r b, D.rt r b → D'.rt r b) (kc : ∀ e b, D.ct e b → D'.ct e b) : wC c en bx D' := wT_imp h kn kr kc
theorem wE_of {r : R} {b : Bx} (h : m en bx = .ok r b) : wE m en bx Q ↔ Q r b := by
  unfold wE
  rw [h]
  exact wR_ok
theorem wE_bind : wE (eBind m k) en bx Q ↔ wE m en bx fun r b => wE (k r) en b Q := by
  unfold wE eBind
  cases m en bx <;> simp only [wR_ok, wR_exc, wR_st]
theorem wE_var {i : Nat} {r : R} (h : en[i]? = some (some r)) : wE (eVar i) en bx Q ↔ Q r bx := by
  unfold wE eVar
  rw [h]; exact wR_ok
theorem wE_C {w : W} : wE (eC w) en bx Q ↔ Q (.v w) bx := wR_ok
theorem wE_args0 {kk : List R → E} : wE (eArgs [] kk) en bx Q ↔ wE (kk []) en bx Q := Iff.rfl
theorem wE_argsN {kk : List R → E} : wE (eArgs [] kk) en bx Q ↔ wR Q (kk [] en bx) := Iff.rfl
theorem wE_args {a : E} {as : List (Bool × E)} {kk : List R → E} : wE (eArgs ((false, a) :: as) kk) en bx Q ↔ wE a en bx fun x b => wE (eArgs as fun xs => kk (x :: xs)) en b Q := wE_bind
/-- a star's items -/
def wS (bx : Bx) (x : R) (P : List R → Prop) : Prop := match itS bx x with
  | some ys => P ys
  | none => False
theorem wE_star {a : E} {as : List (Bool × E)} {kk : List R → E} : wE (eArgs ((true, a) :: as) kk) en bx Q ↔ wE a en bx fun x b => wS b x fun ys => wE (eArgs as fun xs => kk (ys ++ xs)) en b Q :=
  wE_bind.trans (wE_post fun r b => by
    unfold wE wS
    simp only
    cases itS b r with
    | none => exact wR_st
    | some ys => exact Iff.rfl)
theorem wE_all0 {kk : List R → E} : wE (eAll [] kk) en bx Q ↔ wE (kk []) en bx Q := Iff.rfl
theorem wE_all {a : E} {as : List E} {kk : List R → E} : wE (eAll (a :: as) kk) en bx Q ↔ wE a en bx fun x b => wE (eAll as fun xs => kk (x :: xs)) en b Q := wE_bind
theorem wC_cE {kk : R → C} : wC (cE m kk) en bx D ↔ wE m en bx fun r b => wC (kk r) en b D := by
  unfold wC wE cE
  cases m en bx <;> simp only [wR_ok, wR_exc, wR_st, wT_exc, wT_st]
theorem wC_seq1 {c : C} : wC (cSeq [c]) en bx D ↔ wC c en bx D := Iff.rfl
theorem wC_seq {c d : C} {cs : List C} : wC (cSeq (c :: d :: cs)) en bx D ↔ wC c en bx { D with nx := fun en' b => wC (cSeq (d :: cs)) en' b D } := by
  unfold wC
  show wT D (match c en bx with | .nx en' bx' => cSeq (d :: cs) en' bx' | x => x) ↔ _
  cases c en bx <;> simp only [wT_nx, wT_rt, wT_ct, wT_exc, wT_st]
theorem wC_ret : wC (cRet m) en bx D ↔ wE m en bx D.rt := wC_cE.trans (wE_post fun _ _ => wT_rt)
theorem wC_retN : wC cRetN en bx D ↔ D.rt (.v .non) bx := wT_rt
theorem wC_exp : wC (cExp m) en bx D ↔ wE m en bx fun _ b => D.nx en b := wC_cE.trans (wE_post fun _ _ => wT_nx)
theorem wC_cont : wC cCont en bx D ↔ D.ct en bx := wT_ct
theorem wC_pass : wC cPass en bx D ↔ D.nx en bx := wT_nx
theorem wC_asg {i : Nat} (h : i < en.length) : wC (cAsg (.nm i) m) en bx D ↔ wE m en bx fun r b => D.nx (en.set i (some r)) b :=
  wC_cE.trans (wE_post fun r b => by
    unfold wC
    simp only [asg, if_pos h]
    exact wT_nx)
def wB (P : Bool → Prop) : R → Prop
  | .v (.bl c) => P c
  | _ => False
theorem wB_bl {P : Bool → Prop} {c : Bool} : wB P (.v (.bl c)) ↔ P c := Iff.rfl
theorem wB_ex {P : Bool → Prop} {r : R} : (∃ c, r = .v (.bl c) ∧ P c) ↔ wB P r := by
  constructor
  · rintro ⟨c, rfl, h⟩
    exact h
  · intro h
    cases r with
    | v w =>
      cases w with
      | bl c => exact ⟨c, rfl, h⟩
      | _ => exact h.elim
    | r _ => exact h.elim
    | clo _ _ => exact h.elim
/-- by a bool -/
theorem bool_E {r : R} {kk : Bool → E} {P : Bool → Prop} (h : ∀ c, wE (kk c) en bx Q ↔ P c) : wE (match r with | .v (.bl b) => kk b | _ => fun _ _ => .stuck) en bx Q ↔ wB P r := by
  cases r with
  | v w =>
    cases w with
    | bl c => exact h c
    | _ => exact wR_st
  | r _ => exact wR_st
  | clo _ _ => exact wR_st
theorem bool_C {r : R} {kk : Bool → C} {P : Bool → Prop} (h : ∀ c, wC (kk c) en bx D ↔ P c) : wC (match r with | .v (.bl b) => kk b | _ => fun _ _ => .stuck) en bx D ↔ wB P r := by
  cases r with
  | v w =>
    cases w with
    | bl c => exact h c
    | _ => exact wT_st
  | r _ => exact wT_st
  | clo _ _ => exact wT_st
theorem wE_bool {kk : Bool → E} : wE (eBool m kk) en bx Q ↔ wE m en bx fun r b1 => wB (fun c => wE (kk c) en b1 Q) r := wE_bind.trans (wE_post fun _ _ => bool_E fun _ => Iff.rfl)
theorem wC_ifB {t : E} {a b : C} : wC (cIf t a b) en bx D ↔ wE t en bx fun r b' => wB (fun c => (c = true → wC a en b' D) ∧ (c = false → wC b en b' D)) r :=
  wC_cE.trans (wE_post fun r b' => bool_C fun c => by cases c <;> simp)
theorem wE_not {a : E} : wE (eNot a) en bx Q ↔ wE a en bx fun r b1 => wB (fun c => Q (.v (.bl (!c))) b1) r := wE_bind.trans (wE_post fun _ _ => bool_E fun _ => wE_C)
theorem wE_and1 {a : E} : wE (eAnd [a]) en bx Q ↔ wE a en bx Q := Iff.rfl
theorem wE_or1 {a : E} : wE (eOr [a]) en bx Q ↔ wE a en bx Q := Iff.rfl
theorem wE_andB {a b : E} {l : List E} : wE (eAnd (a :: b :: l)) en bx Q ↔ wE a en bx fun r b1 => wB (fun c => (c = true → wE (eAnd (b :: l)) en b1 Q) ∧ (c = false → Q (.v (.bl false)) b1)) r :=
  wE_bind.trans (wE_post fun _ _ => bool_E fun c => by cases c <;> simp [wE_C])
theorem wE_orB {a b : E} {l : List E} : wE (eOr (a :: b :: l)) en bx Q ↔ wE a en bx fun r b1 => wB (fun c => (c = true → Q (.v (.bl true)) b1) ∧ (c = false → wE (eOr (b :: l)) en b1 Q)) r :=
  wE_bind.trans (wE_post fun _ _ => bool_E fun c => by cases c <;> simp [wE_C])
theorem wE_if {t a b : E} : wE (eIf t a b) en bx Q ↔ wE t en bx fun r b1 => wB (fun c => (c = true → wE a en b1 Q) ∧ (c = false → wE b en b1 Q)) r :=
  wE_bind.trans (wE_post fun _ _ => bool_E fun c => by cases c <;> simp)
theorem wE_chain {o1 o2 : Cop} {a b d : E} : wE (eChain o1 o2 a b d) en bx Q ↔ wE a en bx fun x b1 => wE b en b1 fun y b2 => wR (fun r b3 => wB (fun t => (t = true → wE d en b3 fun z b4 => wR Q (opCmp o2 [y, z] b4)) ∧ (t = false → Q (.v (.bl false)) b3)) r) (opCmp o1 [x, y] b2) :=
  wE_bind.trans (wE_post fun x b1 => wE_bind.trans (wE_post fun y b2 => wE_bind.trans (wR_post fun r b3 => bool_E fun t => by
    cases t with
    | true => simp; exact wE_bind
    | false => simp [wE_C])))
variable {a b o i e : E} {f : Op}
theorem wE_op1 : wE (eOp [a] f) en bx Q ↔ wE a en bx fun x b => wR Q (f [x] b) := wE_bind
theorem wE_op2 : wE (eOp [a, b] f) en bx Q ↔ wE a en bx fun x b1 => wE b en b1 fun y b2 => wR Q (f [x, y] b2) := wE_bind.trans (wE_post fun _ _ => wE_bind)
theorem wE_op3 : wE (eOp [a, b, e] f) en bx Q ↔ wE a en bx fun x b1 => wE b en b1 fun y b2 => wE e en b2 fun z b3 => wR Q (f [x, y, z] b3) := wE_bind.trans (wE_post fun _ _ => wE_op2 (f := fun xs => f (_ :: xs)))
theorem wE_fn0 : wE (eFn [] f) en bx Q ↔ wR Q (f [] bx) := Iff.rfl
theorem wE_fn1 : wE (eFn [(false, a)] f) en bx Q ↔ wE a en bx fun x b => wR Q (f [x] b) := wE_bind
theorem wE_fn2 : wE (eFn [(false, a), (false, b)] f) en bx Q ↔ wE a en bx fun x b1 => wE b en b1 fun y b2 => wR Q (f [x, y] b2) := wE_op2
theorem wE_fn3 : wE (eFn [(false, a), (false, b), (false, e)] f) en bx Q ↔ wE a en bx fun x b1 => wE b en b1 fun y b2 => wE e en b2 fun z b3 => wR Q (f [x, y, z] b3) := wE_op3
theorem wE_lst {m : Bool} {as : List (Bool × E)} : wE (eLst m as) en bx Q ↔ wE (eArgs as fun xs _ bx => mkL m xs bx) en bx Q := Iff.rfl
theorem wE_tup {as : List (Bool × E)} : wE (eTup as) en bx Q ↔ wE (eArgs as fun xs _ bx => mkT xs bx) en bx Q := Iff.rfl
theorem wE_lst0 : wE (eLst false []) en bx Q ↔ Q (.v (.lst [])) bx := by
  show wR Q (mkL false [] bx) ↔ _
  have : mkL false [] bx = .ok (.v (.lst [])) bx := by simp [mkL, vals, mapO, SL]
  rw [this]; exact wR_ok
theorem wE_tup0 : wE (eTup []) en bx Q ↔ Q (.v (.tup [])) bx := by
  show wR Q (mkT [] bx) ↔ _
  have : mkT [] bx = .ok (.v (.tup [])) bx := by simp [mkT, vals, mapO, SL]
  rw [this]; exact wR_ok
/-- the ends of a slice -/
def wI (P : Int → Prop) : R → Prop
  | .v (.int i) => P i
  | _ => False
theorem wI_int {P : Int → Prop} {i : Int} : wI P (.v (.int i)) ↔ P i := Iff.rfl
theorem part_E {kk : Option Int → E} : wE (ePart (some m) kk) en bx Q ↔ wE m en bx fun r b => wI (fun i => wE (kk (some i)) en b Q) r :=
  wE_bind.trans (wE_post fun r b => by
    cases r with
    | v w =>
      cases w with
      | int i => exact Iff.rfl
      | _ => exact wR_st
    | r _ => exact wR_st
    | clo _ _ => exact wR_st)
theorem part_0 {kk : Option Int → E} : wE (ePart none kk) en bx Q ↔ wE (kk none) en bx Q := Iff.rfl
theorem wE_cutA {m : Bool} : wE (eCut m a none none) en bx Q ↔ wE a en bx fun x b1 => wR Q (cutR m x none none b1) := wE_bind
theorem wE_cutL {m : Bool} : wE (eCut m a (some e) none) en bx Q ↔ wE a en bx fun x b1 => wE e en b1 fun r b2 => wI (fun i => wR Q (cutR m x (some i) none b2)) r := wE_bind.trans (wE_post fun _ _ => part_E)
theorem wE_cutR {m : Bool} : wE (eCut m a none (some e)) en bx Q ↔ wE a en bx fun x b1 => wE e en b1 fun r b2 => wI (fun i => wR Q (cutR m x none (some i) b2)) r := wE_bind.trans (wE_post fun _ _ => part_0.trans part_E)
theorem wE_cutB {m : Bool} : wE (eCut m a (some e) (some o)) en bx Q ↔ wE a en bx fun x b1 => wE e en b1 fun r b2 => wI (fun i => wE o en b2 fun r3 b3 => wI (fun j => wR Q (cutR m x (some i) (some j) b3)) r3) r :=
  wE_bind.trans (wE_post fun x b1 => part_E.trans (wE_post fun r b2 => by
    cases r with
    | v w =>
      cases w with
      | int i => exact part_E
      | _ => exact Iff.rfl
    | r _ => exact Iff.rfl
    | clo _ _ => exact Iff.rfl))
theorem wC_set : wC (cSet o i e) en bx D ↔ wE e en bx fun y b1 => wE o en b1 fun x b2 => wE i en b2 fun k b3 => ∃ b4, setR y x k b3 = some b4 ∧ D.nx en b4 :=
  wC_cE.trans (wE_post fun y b1 => wC_cE.trans (wE_post fun x b2 => wC_cE.trans (wE_post fun k b3 => by
    show wT D (match setR y x k b3 with | some b4 => .nx en b4 | none => .stuck) ↔ _
    cases e2 : setR y x k b3 with
    | none => exact ⟨fun h => (wT_st.mp h).elim, fun ⟨_, h, _⟩ => by simp at h⟩
    | some b4 => exact ⟨fun h => ⟨b4, rfl, wT_nx.mp h⟩, fun ⟨b5, h, z⟩ => by
        cases h
        exact wT_nx.mpr z⟩)))
/-- targets in a row -/
theorem wC_asgT {ts : List Tg} : wC (cAsg (.tp ts) m) en bx D ↔ wE m en bx fun r b => ∃ en', asg (.tp ts) (.one r) en b = some en' ∧ D.nx en' b :=
  wC_cE.trans (wE_post fun r b => by
    show wT D (match asg (.tp ts) (.one r) en b with | some en' => .nx en' b | none => .stuck) ↔ _
    cases e2 : asg (.tp ts) (.one r) en b with
    | none => exact ⟨fun h => (wT_st.mp h).elim, fun ⟨_, h, _⟩ => by simp at h⟩
    | some b4 => exact ⟨fun h => ⟨b4, rfl, wT_nx.mp h⟩, fun ⟨b5, h, z⟩ => by
        cases h
        exact wT_nx.mpr z⟩)
theorem wC_par {i j : Nat} (h : i ≠ j ∧ i < en.length ∧ j < en.length) : wC (cPar i j a b) en bx D ↔ wE a en bx fun x b1 => wE b en b1 fun y b2 => D.nx ((en.set i (some x)).set j (some y)) b2 :=
  wC_cE.trans (wE_post fun x b1 => wC_cE.trans (wE_post fun y b2 => by
    unfold wC
    simp only [if_pos h]
    exact wT_nx))
theorem wC_for {tg : Tg} {it : I} {body : C} {xs : List It} {g : Option (Nat × Box)} {b1 : Bx} (hit : it en bx = .ok xs g b1) : wC (cFor tg it body) en bx D ↔ wC (forGo tg body g xs) en b1 D := by
  unfold wC cFor
  rw [hit]
/-- a loop over what is at hand, the guard's box not touched: an invariant by the number of turns gone -/
theorem forGo_inv {tg : Tg} {body : C} {g : Option (Nat × Box)} (J : Nat → En → Bx → Prop) (hg : ∀ n en b, J n en b → guarded b g = true) : ∀ (xs : List It) (n : Nat) (en : En) (bx : Bx), J n en bx →
    (∀ (j : Nat) (x : It) (en : En) (b : Bx), xs[j]? = some x → J (n + j) en b → ∃ en', asg tg x en b = some en' ∧ wC body en' b { nx := J (n + j + 1), rt := D.rt, ct := J (n + j + 1) }) →
    (∀ en b, J (n + xs.length) en b → D.nx en b) → wC (forGo tg body g xs) en bx D
  | [], n, en, bx, h0, _, hD => by
    unfold wC forGo
    rw [if_pos (hg n en bx h0)]
    exact wT_nx.mpr (hD en bx h0)
  | x :: xs, n, en, bx, h0, hs, hD => by
    obtain ⟨en', h1, h2⟩ := hs 0 x en bx rfl h0
    unfold wC forGo
    rw [if_pos (hg n en bx h0), h1]
    have rec_ : ∀ en2 b2, J (n + 1) en2 b2 → wC (forGo tg body g xs) en2 b2 D := fun en2 b2 h => forGo_inv J hg xs (n + 1) en2 b2 h (fun j y e b hj hJ => by
      have := hs (j + 1) y e b (by simpa using hj) (by rw [show n + (j + 1) = n + 1 + j by omega]; exact hJ)
      rw [show n + (j + 1) + 1 = n + 1 + j + 1 by omega] at this
      exact this) fun e b hJ => hD e b (by rw [show n + (x :: xs).length = n + 1 + xs.length by simp; omega]; exact hJ)
    unfold wC at h2
    show wT D (match body en' bx with | .nx en2 bx2 => forGo tg body g xs en2 bx2 | .ct en2 bx2 => forGo tg body g xs en2 bx2 | r => r)
    cases e : body en' bx with
    | nx en2 b2 => rw [e] at h2; exact rec_ en2 b2 (wT_nx.mp h2)
    | ct en2 b2 => rw [e] at h2; exact rec_ en2 b2 (wT_ct.mp h2)
    | rt r b2 =>
      rw [e] at h2
      have h3 := wT_rt.mp h2
      exact wT_rt.mpr h3
    | exc _ _ _ => rw [e] at h2; exact (wT_exc.mp h2).elim
    | stuck => rw [e] at h2; exact (wT_st.mp h2).elim
theorem wC_run {n m : Nat} {c : C} {rs : List R} {Q : R → Bx → Prop} (hl : rs.length = n) (h : wC c (rs.map some ++ List.replicate (m - rs.length) none) bx { nx := fun _ b => Q (.v .non) b, rt := Q }) : wR Q (runF n m c rs bx) := by
  unfold runF run
  rw [if_pos hl]
  unfold wC at h
  cases e : c (rs.map some ++ List.replicate (m - rs.length) none) bx with
  | rt r b => rw [e] at h; exact wR_ok.mpr (wT_rt.mp h)
  | nx _ _ => rw [e] at h; exact wR_ok.mpr (wT_nx.mp h)
  | ct _ _ => rw [e] at h; exact (wT_ct.mp h).elim
  | exc _ _ _ => rw [e] at h; exact (wT_exc.mp h).elim
  | stuck => rw [e] at h; exact (wT_st.mp h).elim
end
/-! ### the pen: box n holds the script's row, the count, the number left -/
def penB (xs : List W) (i v : Int) : Box := .lst [.v (.lst xs), .v (.int i), .v (.int v)]
section
variable {bx : Bx} {n : Nat} {xs : List W} {i v : Int}
theorem pen0 (h : bx[n]? = some (penB xs i v)) : opIdx [.r n, .v (.int 0)] bx = .ok (.v (.lst xs)) bx := by
  simp [opIdx, dcO, itS, itL, h, penB, atW]
theorem pen1 (h : bx[n]? = some (penB xs i v)) : opIdx [.r n, .v (.int 1)] bx = .ok (.v (.int i)) bx := by
  simp [opIdx, dcO, itS, itL, h, penB, atW]
theorem pen2 (h : bx[n]? = some (penB xs i v)) : opIdx [.r n, .v (.int 2)] bx = .ok (.v (.int v)) bx := by
  simp [opIdx, dcO, itS, itL, h, penB, atW]
theorem penSet1 {j : Int} (h : bx[n]? = some (penB xs i v)) : setR (.v (.int j)) (.r n) (.v (.int 1)) bx = some (bx.set n (penB xs j v)) := by
  simp [setR, h, penB, atW]
theorem penSet2 {j : Int} (h : bx[n]? = some (penB xs i v)) : setR (.v (.int j)) (.r n) (.v (.int 2)) bx = some (bx.set n (penB xs i j)) := by
  simp [setR, h, penB, atW]
end
end AM
/-! text AmP2 -/
set_option Elab.async false
set_option linter.all false
set_option maxRecDepth 100000
namespace AM
open PySem
theorem lays_ints (ns : List Int) : W.lays (ns.map W.int) = true := by
  induction ns with
  | nil => rfl
  | cons a t ih => simp [W.lays, W.lay, ih]
theorem dps_ints (ns : List Int) : W.dps (ns.map W.int) ≤ 1 := by
  induction ns with
  | nil => simp [W.dps]
  | cons a t ih => simp [W.dps, W.dp]; omega
theorem isDat_ints (ns : List Int) : (W.lst (ns.map W.int)).isDat = true := by
  have := dps_ints ns
  simp [W.isDat, W.lay, lays_ints, W.dp]
  omega
def nextB : C := cSeq [cAsg (.nm 1) (eOp [eVar 0, eC (.int 1)] opIdx),
    cSet (eVar 0) (eC (.int 1)) (eOp [eVar 1, eC (.int 1)] (opBin .add false)),
    cAsg (.nm 2) (eOp [eOp [eVar 1, eC (.int 1051)] (opBin .mul false), eC (.int 53)] (opBin .add false)),
    cIf (eOp [eOp [eVar 0, eC (.int 0)] opIdx, eLst false []] (opCmp .ne)) (cSeq [cAsg (.nm 2) (eOp [eOp [eVar 0, eC (.int 0)] opIdx, eOp [eFn [(false, eVar 1)] opInt, eFn [(false, eOp [eVar 0, eC (.int 0)] opIdx)] opLen] (opBin .mod false)] opIdx)]) (cPass),
    cIf (eAnd [eOp [eVar 1, eFn [(false, eOp [eVar 0, eC (.int 0)] opIdx)] opLen] (opCmp .lt), eOp [eVar 2, eOp [eC (.int 10), eC (.int 18)] (opBin .pow false)] (opCmp .ge)]) (cSeq [cRet (eVar 2)]) (cPass),
    cAsg (.nm 3) (eOp [eFn [(false, eOp [eOp [eOp [eFn [(false, eVar 2)] opInt, eC (.int 2147483587)] (opBin .mod false), eOp [eVar 1, eC (.int 30103)] (opBin .mul false)] (opBin .add false), eC (.int 79)] (opBin .add false))] opInt, eC (.int 2147483587)] (opBin .mod false)),
    cAsg (.nm 4) (eOp [eFn [(false, eOp [eOp [eOp [eVar 3, eVar 3] (opBin .mul false), eOp [eVar 1, eC (.int 70039)] (opBin .mul false)] (opBin .add false), eC (.int 61)] (opBin .add false))] opInt, eC (.int 2147483563)] (opBin .mod false)),
    cAsg (.nm 5) (eOp [eFn [(false, eOp [eOp [eOp [eVar 4, eVar 4] (opBin .mul false), eVar 3] (opBin .add false), eOp [eOp [eVar 1, eVar 1] (opBin .mul false), eC (.int 37)] (opBin .mul false)] (opBin .add false))] opInt, eC (.int 2147483549)] (opBin .mod false)),
    cRet (eOp [eOp [eOp [eOp [eVar 5, eC (.int 2147483587)] (opBin .mul false), eVar 4] (opBin .add false), eC (.int 2147483563)] (opBin .mul false), eVar 3] (opBin .add false))]
def drawB (F : Fn) (nx : Nat) : C := cSeq [cIf (eOp [eOp [eVar 0, eC (.int 2)] opIdx, eVar 1] (opCmp .lt)) (cSeq [cSet (eVar 0) (eC (.int 2)) (eFn [(false, eVar 0)] (opCall F nx false))]) (cPass),
    cAsg (.nm 2) (eOp [eFn [(false, eOp [eVar 0, eC (.int 2)] opIdx)] opInt, eVar 1] (opBin .mod false)),
    cSet (eVar 0) (eC (.int 2)) (eOp [eOp [eVar 0, eC (.int 2)] opIdx, eVar 1] (opBin .fdiv false)),
    cRet (eVar 2)]
section
variable {bx : Bx} {i j : Int}
theorem opl_add {m : Bool} : opBin .add m [.v (.int i), .v (.int j)] bx = .ok (.v (.int (i + j))) bx := rfl
theorem opl_mul {m : Bool} (h : (i64 i || i64 j) = true) : opBin .mul m [.v (.int i), .v (.int j)] bx = .ok (.v (.int (i * j))) bx := by
  show (if (i64 i || i64 j) = true then Res.ok (.v (.int (i * j))) bx else .stuck) = _
  rw [if_pos h]
theorem opl_mod {m : Bool} (h : 0 < j) : opBin .mod m [.v (.int i), .v (.int j)] bx = .ok (.v (.int (i % j))) bx := by
  show (match (if 0 < j then some (i % j) else none) with | some k => Res.ok (.v (.int k)) bx | none => .stuck) = _
  rw [if_pos h]
theorem opl_fdiv {m : Bool} (h : 0 < j ∧ j < 1073741824) : opBin .fdiv m [.v (.int i), .v (.int j)] bx = .ok (.v (.int (i / j))) bx := by
  show (match (if 0 < j ∧ j < 1073741824 then some (i / j) else none) with | some k => Res.ok (.v (.int k)) bx | none => .stuck) = _
  rw [if_pos h]
theorem opl_int : opInt [.v (.int i)] bx = .ok (.v (.int i)) bx := rfl
theorem opl_lt : opCmp .lt [.v (.int i), .v (.int j)] bx = .ok (.v (.bl (decide (i < j)))) bx := rfl
theorem opl_ge : opCmp .ge [.v (.int i), .v (.int j)] bx = .ok (.v (.bl (decide (j ≤ i)))) bx := rfl
theorem opl_lenI {ns : List Int} : opLen [.v (.lst (ns.map W.int))] bx = .ok (.v (.int ns.length)) bx := by
  simp [opLen, lenO, itS, itL]
theorem opl_atI {ns : List Int} (h0 : 0 ≤ j) (h1 : j < ns.length) : ∃ k, k ∈ ns ∧ opIdx [.v (.lst (ns.map W.int)), .v (.int j)] bx = .ok (.v (.int k)) bx := by
  have hl : j.toNat < ns.length := by omega
  refine ⟨ns[j.toNat], List.getElem_mem hl, ?_⟩
  simp [opIdx, dcO, itS, itL, atW, h0, h1, List.getElem?_eq_getElem hl]
theorem opl_neE {ns : List Int} : opCmp .ne [.v (.lst (ns.map W.int)), .v (.lst [])] bx = .ok (.v (.bl (decide (ns ≠ [])))) bx := by
  have h2 : (W.lst ([] : List W)).isDat = true := isDat_ints []
  simp [opCmp, cmpB, eqR, view, eqW, isDat_ints, h2, okO, okB]
  cases ns <;> simp [W.pyeq, W.pyeqs]
end
end AM
/-! text AmP3 -/
set_option Elab.async false
set_option linter.all false
set_option maxRecDepth 100000
set_option maxHeartbeats 1000000
namespace AM
open PySem
section
variable {bx : Bx} {n : Nat} {ns : List Int} {i v : Int}
theorem i64_of {k : Int} (h0 : 0 ≤ k) (h : k < 2 ^ 64) : i64 k = true := by
  unfold i64
  simp
  omega
theorem opl_pow18 {m : Bool} : opBin .pow m [.v (.int 10), .v (.int 18)] bx = .ok (.v (.int (10 ^ 18))) bx := by
  simp [opBin, binR, arR, arI, i64]
/-- the mixing of a cell -/
def nextT : C := cSeq [cIf (eAnd [eOp [eVar 1, eFn [(false, eOp [eVar 0, eC (.int 0)] opIdx)] opLen] (opCmp .lt), eOp [eVar 2, eOp [eC (.int 10), eC (.int 18)] (opBin .pow false)] (opCmp .ge)]) (cSeq [cRet (eVar 2)]) (cPass),
    cAsg (.nm 3) (eOp [eFn [(false, eOp [eOp [eOp [eFn [(false, eVar 2)] opInt, eC (.int 2147483587)] (opBin .mod false), eOp [eVar 1, eC (.int 30103)] (opBin .mul false)] (opBin .add false), eC (.int 79)] (opBin .add false))] opInt, eC (.int 2147483587)] (opBin .mod false)),
    cAsg (.nm 4) (eOp [eFn [(false, eOp [eOp [eOp [eVar 3, eVar 3] (opBin .mul false), eOp [eVar 1, eC (.int 70039)] (opBin .mul false)] (opBin .add false), eC (.int 61)] (opBin .add false))] opInt, eC (.int 2147483563)] (opBin .mod false)),
    cAsg (.nm 5) (eOp [eFn [(false, eOp [eOp [eOp [eVar 4, eVar 4] (opBin .mul false), eVar 3] (opBin .add false), eOp [eOp [eVar 1, eVar 1] (opBin .mul false), eC (.int 37)] (opBin .mul false)] (opBin .add false))] opInt, eC (.int 2147483549)] (opBin .mod false)),
    cRet (eOp [eOp [eOp [eOp [eVar 5, eC (.int 2147483587)] (opBin .mul false), eVar 4] (opBin .add false), eC (.int 2147483563)] (opBin .mul false), eVar 3] (opBin .add false))]
theorem i64c {a b : Int} (h : i64 b = true) : (i64 a || i64 b) = true := by rw [h]; simp
theorem i64l {a b : Int} (h : i64 a = true) : (i64 a || i64 b) = true := by rw [h]; simp
theorem modlt {a b : Int} (hb : 0 < b) (hb2 : b < 2 ^ 64) : i64 (a % b) = true := i64_of (Int.emod_nonneg a (by omega)) (Int.lt_trans (Int.emod_lt_of_pos a hb) hb2)
theorem nextT_ok {c0 : Int} {i' : Int} (g : bx[n]? = some (penB (ns.map W.int) i' v)) (h0 : 0 ≤ i) (h1 : i < 2 ^ 62) :
    wC nextT [some (.r n), some (.v (.int i)), some (.v (.int c0)), none, none, none] bx { nx := fun _ _ => False, rt := fun r b => ∃ k : Int, 0 ≤ k ∧ r = .v (.int k) ∧ b = bx } := by
  have k1 : i64 30103 = true := by decide
  have k2 : i64 70039 = true := by decide
  have k3 : i64 37 = true := by decide
  have k4 : i64 2147483587 = true := by decide
  have k5 : i64 2147483563 = true := by decide
  have k6 : ∀ a : Int, i64 (a % 2147483587) = true := fun a => modlt (by decide) (by decide)
  have k7 : ∀ a : Int, i64 (a % 2147483563) = true := fun a => modlt (by decide) (by decide)
  have k8 : i64 i = true := i64_of h0 (by omega)
  unfold nextT
  simp [wC_seq, wC_seq1, wC_ret, wC_pass, wE_lst0, opl_neE, wE_andB, wE_and1, wB_bl, opl_int, opl_pow18, opl_lenI, opl_lt, opl_ge, wC_asg, wC_set, wE_op1, wE_op2, wE_fn1, wE_C, wR_ok, wE_var, opl_add, opl_mul, opl_mod, k1, k2, k3, k4, k5, k6, k7, k8, pen0 g, wC_ifB]
  have key : ∀ a b c : Int, 0 ≤ (a % 2147483549 * 2147483587 + b % 2147483563) * 2147483563 + c % 2147483587 := fun a b c => by
    have q1 := Int.emod_nonneg a (show (2147483549 : Int) ≠ 0 by decide)
    have q2 := Int.emod_nonneg b (show (2147483563 : Int) ≠ 0 by decide)
    have q3 := Int.emod_nonneg c (show (2147483587 : Int) ≠ 0 by decide)
    omega
  exact ⟨fun _ => ⟨fun h => by omega, fun _ => key _ _ _⟩, fun _ => key _ _ _⟩
theorem next_ok (h : bx[n]? = some (penB (ns.map W.int) i v)) (h0 : 0 ≤ i) (h1 : i < 2 ^ 62) :
    wC nextB [some (.r n), none, none, none, none, none] bx { nx := fun _ _ => False, rt := fun r b => ∃ k : Int, 0 ≤ k ∧ r = .v (.int k) ∧ b = bx.set n (penB (ns.map W.int) (i + 1) v) } := by
  have hl : n < bx.length := by
    rw [List.getElem?_eq_some_iff] at h
    exact h.1
  have g : (bx.set n (penB (ns.map W.int) (i + 1) v))[n]? = some (penB (ns.map W.int) (i + 1) v) := by rw [List.getElem?_set_self hl]
  have e : nextB = cSeq (cAsg (.nm 1) (eOp [eVar 0, eC (.int 1)] opIdx) :: cSet (eVar 0) (eC (.int 1)) (eOp [eVar 1, eC (.int 1)] (opBin .add false)) :: cAsg (.nm 2) (eOp [eOp [eVar 1, eC (.int 1051)] (opBin .mul false), eC (.int 53)] (opBin .add false)) ::
    cIf (eOp [eOp [eVar 0, eC (.int 0)] opIdx, eLst false []] (opCmp .ne)) (cSeq [cAsg (.nm 2) (eOp [eOp [eVar 0, eC (.int 0)] opIdx, eOp [eFn [(false, eVar 1)] opInt, eFn [(false, eOp [eVar 0, eC (.int 0)] opIdx)] opLen] (opBin .mod false)] opIdx)]) (cPass) :: [nextT]) := rfl
  rw [e]
  have m1 : i64 1051 = true := by decide
  have tail : ∀ c0 : Int, wC nextT [some (.r n), some (.v (.int i)), some (.v (.int c0)), none, none, none] (bx.set n (penB (ns.map W.int) (i + 1) v)) { nx := fun _ _ => False, rt := fun r b => ∃ k : Int, 0 ≤ k ∧ r = .v (.int k) ∧ b = bx.set n (penB (ns.map W.int) (i + 1) v) } := fun c0 => nextT_ok g h0 h1
  simp [wC_seq, wC_seq1, wC_pass, wE_lst0, opl_neE, wB_bl, opl_int, opl_lenI, wC_asg, wC_set, wE_op1, wE_op2, wE_fn1, wE_C, wR_ok, wE_var, opl_add, opl_mul, m1, pen1 h, penSet1 h, pen0 g, wC_ifB]
  refine ⟨fun hn => ?_, fun _ => tail _⟩
  have hp : (0 : Int) < ns.length := by
    have := List.length_pos_iff.mpr hn
    omega
  rw [opl_mod hp, wR_ok]
  obtain ⟨k, _, e⟩ := opl_atI (bx := bx.set n (penB (ns.map W.int) (i + 1) v)) (Int.emod_nonneg i (by omega)) (Int.emod_lt_of_pos i hp)
  rw [e, wR_ok]
  exact tail k
/-- the next draw's number, left in a call -/
theorem next_run (h : bx[n]? = some (penB (ns.map W.int) i v)) (h0 : 0 ≤ i) (h1 : i < 2 ^ 62) : ∃ k : Int, 0 ≤ k ∧ runF 1 6 nextB [.r n] bx = .ok (.v (.int k)) (bx.set n (penB (ns.map W.int) (i + 1) v)) := by
  have z := next_ok h h0 h1
  obtain ⟨r, b, e, k, hk, rfl, rfl⟩ := wR_get (wC_run (n := 1) (m := 6) (c := nextB) (rs := [.r n]) (bx := bx) (Q := fun r b => ∃ k : Int, 0 ≤ k ∧ r = .v (.int k) ∧ b = bx.set n (penB (ns.map W.int) (i + 1) v)) rfl (wC_mono z (fun _ _ h => h.elim) (fun _ _ h => h) (fun _ _ h => h.elim)))
  exact ⟨k, hk, e⟩
theorem backOk_set {b' : Box} (hb : boxLt bx.length b' = true) : ∀ (m : Nat) (l : Bx) (n : Nat), boxLt m b' = true → backOk m l (l.set n b') = true
  | m, [], n, _ => rfl
  | m, a :: l, 0, h => by
    have rfl_ : ∀ l : Bx, backOk m l l = true := fun l => by
      induction l with
      | nil => rfl
      | cons a t ih => simp [backOk, ih]
    simp [backOk, h, rfl_]
  | m, a :: l, n + 1, h => by simp [backOk, backOk_set hb m l n h]
theorem settle_pen {k : Int} {j u : Int} (hl : n < bx.length) : settle bx (.ok (.v (.int k)) (bx.set n (penB (ns.map W.int) j u))) = .ok (.v (.int k)) (bx.set n (penB (ns.map W.int) j u)) := by
  have hb : ∀ m, boxLt m (penB (ns.map W.int) j u) = true := fun m => by simp [boxLt, penB, refLt]
  unfold settle
  have e : backOk bx.length bx (bx.set n (penB (ns.map W.int) j u)) = true := backOk_set (bx := bx) (hb _) _ _ _ (hb _)
  simp [viewF, e, List.take_of_length_le]
def DrawP (bx : Bx) (n : Nat) (ns : List Int) (i u : Int) (r : R) (b : Bx) : Prop := ∃ (k j v' : Int), 0 ≤ k ∧ k < u ∧ i ≤ j ∧ j ≤ i + 1 ∧ 0 ≤ v' ∧ r = .v (.int k) ∧ b = bx.set n (penB (ns.map W.int) j v')
/-- a digit drawn: 0 up to under, the pen stays a pen -/
theorem draw_run {F : Fn} {nx : Nat} {u : Int} (hF : F nx = runF 1 6 nextB) (h : bx[n]? = some (penB (ns.map W.int) i v)) (h0 : 0 ≤ i) (h1 : i < 2 ^ 62) (hv : 0 ≤ v) (u0 : 0 < u) (u1 : u < 1073741824) :
    ∃ (k j v' : Int), 0 ≤ k ∧ k < u ∧ i ≤ j ∧ j ≤ i + 1 ∧ 0 ≤ v' ∧ runF 2 3 (drawB F nx) [.r n, .v (.int u)] bx = .ok (.v (.int k)) (bx.set n (penB (ns.map W.int) j v')) := by
  have hl : n < bx.length := by
    rw [List.getElem?_eq_some_iff] at h
    exact h.1
  -- behind the refill
  let tailB : C := cSeq [cAsg (.nm 2) (eOp [eFn [(false, eOp [eVar 0, eC (.int 2)] opIdx)] opInt, eVar 1] (opBin .mod false)), cSet (eVar 0) (eC (.int 2)) (eOp [eOp [eVar 0, eC (.int 2)] opIdx, eVar 1] (opBin .fdiv false)), cRet (eVar 2)]
  have tail : ∀ (j x : Int) (b : Bx), b[n]? = some (penB (ns.map W.int) j x) → 0 ≤ x → wC tailB [some (.r n), some (.v (.int u)), none] b { nx := fun _ _ => False, rt := fun r b2 => r = .v (.int (x % u)) ∧ b2 = b.set n (penB (ns.map W.int) j (x / u)) } := fun j x b hb hx => by
    show wC (cSeq _) _ _ _
    simp [wC_seq, wC_seq1, wC_ret, opl_int, wC_asg, wC_set, wE_op1, wE_op2, wE_fn1, wE_C, wR_ok, wE_var, opl_mod u0, opl_fdiv ⟨u0, u1⟩, pen2 hb, penSet2 hb]
  have all : wC (drawB F nx) [some (.r n), some (.v (.int u)), none] bx { nx := fun _ _ => False, rt := DrawP bx n ns i u } := by
    have e : drawB F nx = cSeq [cIf (eOp [eOp [eVar 0, eC (.int 2)] opIdx, eVar 1] (opCmp .lt)) (cSeq [cSet (eVar 0) (eC (.int 2)) (eFn [(false, eVar 0)] (opCall F nx false))]) (cPass), tailB] := rfl
    rw [e]
    have wk : ∀ (j x : Int), 0 ≤ x → i ≤ j → j ≤ i + 1 → ∀ b, b[n]? = some (penB (ns.map W.int) j x) → (∀ q, b.set n q = bx.set n q) → wC tailB [some (.r n), some (.v (.int u)), none] b { nx := fun _ _ => False, rt := DrawP bx n ns i u } := fun j x hx hj1 hj2 b hb hs => by
      refine wC_mono (tail j x b hb hx) (fun _ _ h => h.elim) ?_ (fun _ _ h => h.elim)
      rintro r b2 ⟨rfl, rfl⟩
      exact ⟨_, j, _, Int.emod_nonneg _ (by omega), Int.emod_lt_of_pos _ u0, hj1, hj2, Int.ediv_nonneg hx (by omega), rfl, hs _⟩
    obtain ⟨k, hk, ek⟩ := next_run h h0 h1
    have ec : opCall F nx false [.r n] bx = .ok (.v (.int k)) (bx.set n (penB (ns.map W.int) (i + 1) v)) := by
      show settle bx (F nx [.r n] bx) = _
      rw [hF, ek]
      exact settle_pen hl
    have g : (bx.set n (penB (ns.map W.int) (i + 1) v))[n]? = some (penB (ns.map W.int) (i + 1) v) := by rw [List.getElem?_set_self hl]
    simp [wC_seq, wC_seq1, wC_pass, wB_bl, opl_lt, wC_set, wE_op1, wE_op2, wE_fn1, wE_C, wR_ok, wE_var, pen2 h, wC_ifB, ec, penSet2 g]
    exact ⟨fun _ => wk (i + 1) k hk (by omega) (by omega) _ (by rw [List.getElem?_set_self hl]) (fun q => by simp), fun _ => wk i v hv (by omega) (by omega) _ h (fun q => rfl)⟩
  obtain ⟨r, b, e, k, j, v', a1, a2, a3, a4, a5, rfl, rfl⟩ := wR_get (wC_run (n := 2) (m := 3) (c := drawB F nx) (rs := [.r n, .v (.int u)]) (bx := bx) (Q := DrawP bx n ns i u) rfl (wC_mono all (fun _ _ h => h.elim) (fun _ _ h => h) (fun _ _ h => h.elim)))
  exact ⟨k, j, v', a1, a2, a3, a4, a5, e⟩
theorem mkL_v {ws : List W} (h : ws.length ≤ SL) : mkL false (ws.map .v) bx = .ok (.v (.lst ws)) bx := by
  have e : vals (ws.map R.v) = some ws := by
    clear h
    induction ws with
    | nil => rfl
    | cons a t ih =>
      have ih : mapO valO (t.map R.v) = some t := ih
      show (match valO (R.v a) with | some y => (mapO valO (t.map R.v)).map (y :: ·) | none => none) = _
      rw [ih]; rfl
  unfold mkL
  rw [if_pos (by simpa using h), e]; rfl
theorem opl_addL {a b : List W} (h : a.length + b.length ≤ SL) : opBin .add false [.v (.lst a), .v (.lst b)] bx = .ok (.v (.lst (a ++ b))) bx := by
  show mkL false (a.map .v ++ b.map .v) bx = _
  rw [← List.map_append]
  exact mkL_v (by simpa using h)
theorem opl_addLn {a b : List W} (h : a.length + b.length < 16777217) : opBin .add false [.v (.lst a), .v (.lst b)] bx = .ok (.v (.lst (a ++ b))) bx := opl_addL (Nat.le_of_lt_succ h)
end
end AM
/-! text AmP4 -/
set_option Elab.async false
set_option linter.all false
set_option maxRecDepth 100000
/-! AmP4: comprehensions in the calculus. -/
namespace AM
open PySem
section
variable {bx : Bx} {en : En}
/-- [elt for x in xs], nothing changed on the way -/
theorem lc_one {elt : E} {it : I} {i : Nat} {xs : List W} {f : W → W} (hit : it en bx = .ok (xs.map fun x => .one (.v x)) none bx) (hi : i < en.length) (he : ∀ x ∈ xs, elt (en.set i (some (.v x))) bx = .ok (.v (f x)) bx) :
    lcGo elt [⟨.nm i, it, []⟩] en bx = some (xs.map (fun x => R.v (f x)), bx) := by
  have turns : ∀ ys : List W, (∀ x ∈ ys, elt (en.set i (some (.v x))) bx = .ok (.v (f x)) bx) → lcTurns (lcGo elt []) (.nm i) [] none en (ys.map fun x => .one (.v x)) bx = some (ys.map (fun x => R.v (f x)), bx) := fun ys => by
    induction ys with
    | nil => intro _; rfl
    | cons y t ih =>
      intro h
      have h1 := h y List.mem_cons_self
      have h2 := ih fun x m => h x (List.mem_cons_of_mem _ m)
      have ha : asg (.nm i) (.one (.v y)) en bx = some (en.set i (some (.v y))) := by
        simp [asg, hi]
      rw [List.map_cons]
      unfold lcTurns
      simp only [guarded, if_true, ha, testsO]
      have hb : lcGo elt [] (en.set i (some (.v y))) bx = some ([.v (f y)], bx) := by
        unfold lcGo
        rw [h1]
      rw [hb]
      simp only [h2]
      rfl
  unfold lcGo
  simp only [hit]
  exact turns xs he
theorem eLc_one {elt : E} {it : I} {i : Nat} {own : List Nat} {xs : List W} {f : W → W} (hit : it (wipeE en own) bx = .ok (xs.map fun x => .one (.v x)) none bx) (hi : i < (wipeE en own).length) (hl : xs.length ≤ SL) (he : ∀ x ∈ xs, elt ((wipeE en own).set i (some (.v x))) bx = .ok (.v (f x)) bx) :
    eLc false own [⟨.nm i, it, []⟩] elt en bx = .ok (.v (.lst (xs.map f))) bx := by
  unfold eLc
  rw [lc_one hit hi he]
  have := mkL_v (bx := bx) (ws := xs.map f) (by simpa using hl)
  rw [List.map_map] at this
  exact this
end
end AM
/-! text AmP5 -/
set_option Elab.async false
set_option linter.all false
set_option maxRecDepth 100000
/-! AmP5: the pen is made. -/
namespace AM
open PySem
theorem vals_W (ws : List W) : vals (ws.map R.v) = some ws := by
  induction ws with
  | nil => rfl
  | cons a t ih =>
    have ih : mapO valO (t.map R.v) = some t := ih
    show (match valO (R.v a) with | some y => (mapO valO (t.map R.v)).map (y :: ·) | none => none) = _
    rw [ih]; rfl
theorem cut60 {α : Type} (ns : List α) : cutL none (some 60) ns = ns.take 60 := by
  show (ns.take (cutAt 60 ns.length)).drop 0 = _
  rw [List.drop_zero]
  unfold cutAt
  simp
def penC : C := cSeq [cRet (eLst true [(false, eFn [(false, eCut false (eVar 0) none (some (eC (.int 60))))] (opList false)), (false, eC (.int 0)), (false, eC (.int 0))])]
def scrW (ns : List Int) : R := .v (.scr (ns.map W.int))
theorem pen_made (ns : List Int) (h : ns.length ≤ 63) : runF 1 1 penC [scrW ns] [] = .ok (.r 0) [penB ((ns.take 60).map W.int) 0 0] := by
  have hs : (ns.take 60).length ≤ SL := by unfold SL; simp; omega
  have e1 : cutR false (scrW ns) none (some 60) [] = .ok (.v (.lst ((ns.take 60).map W.int))) [] := by
    show mkL false (cutL none (some 60) ((ns.map W.int).map .v)) [] = _
    rw [cut60]
    unfold mkL
    rw [← List.map_take, ← List.map_take, if_pos (by simpa using hs), vals_W]; rfl
  have e2 : opList false [.v (.lst ((ns.take 60).map W.int))] [] = .ok (.v (.lst ((ns.take 60).map W.int))) [] := by
    show mkL false (((ns.take 60).map W.int).map .v) [] = _
    unfold mkL
    rw [if_pos (by simpa using hs), vals_W]; rfl
  have e3 : ∀ en, eFn [(false, eCut false (eVar 0) none (some (eC (.int 60))))] (opList false) (some (scrW ns) :: en) [] = .ok (.v (.lst ((ns.take 60).map W.int))) [] := fun en => by
    show (match cutR false (scrW ns) none (some 60) [] with | .ok r bx' => opList false [r] bx' | .exc w bx' => .exc w bx' | .stuck => .stuck) = _
    rw [e1]; exact e2
  unfold runF run penC
  rw [if_pos (show [scrW ns].length = 1 from rfl)]
  show (match (cSeq [cRet (eLst true [(false, eFn [(false, eCut false (eVar 0) none (some (eC (.int 60))))] (opList false)), (false, eC (.int 0)), (false, eC (.int 0))])]) [some (scrW ns)] [] with
    | .nx _ bx' => Res.ok (.v .non) bx' | .rt r bx' => .ok r bx' | .exc w _ bx' => .exc w bx' | _ => .stuck) = _
  have e4 : (eLst true [(false, eFn [(false, eCut false (eVar 0) none (some (eC (.int 60))))] (opList false)), (false, eC (.int 0)), (false, eC (.int 0))]) [some (scrW ns)] [] = .ok (.r 0) [penB ((ns.take 60).map W.int) 0 0] := by
    show (match eFn [(false, eCut false (eVar 0) none (some (eC (.int 60))))] (opList false) [some (scrW ns)] [] with | .ok r bx' => mkL true [r, .v (.int 0), .v (.int 0)] bx' | .exc w bx' => .exc w bx' | .stuck => .stuck) = _
    rw [e3]; rfl
  show (match (match (eLst true [(false, eFn [(false, eCut false (eVar 0) none (some (eC (.int 60))))] (opList false)), (false, eC (.int 0)), (false, eC (.int 0))]) [some (scrW ns)] [] with | .ok r bx' => Ct.rt r bx' | .exc w bx' => .exc w [some (scrW ns)] bx' | .stuck => .stuck) with
    | .nx _ bx' => Res.ok (.v .non) bx' | .rt r bx' => .ok r bx' | .exc w _ bx' => .exc w bx' | _ => .stuck) = _
  rw [e4]
end AM
/-! text K24p -/
set_option Elab.async false
set_option linter.all false
set_option maxRecDepth 100000
set_option maxHeartbeats 4000000
namespace AM.K24
open PySem AM
section
variable {bx : Bx} {F : Fn}
theorem b1_eq : b1 F = nextB := rfl
theorem b2_eq : b2 F = drawB F 1 := rfl
/-- the classes asked of, in order -/
def ask : List Nat := [2, 3, 4, 5, 6, 7, 8, 9, 10, 11, 12, 13, 14, 15, 16, 17, 1, 18, 19, 20]
theorem settle_v {w : W} : settle bx (.ok (.v w) bx) = .ok (.v w) bx := by
  have r : ∀ (m : Nat) (l : Bx), backOk m l l = true := fun m l => by
    induction l with
    | nil => rfl
    | cons a t ih => simp [backOk, ih]
  simp [settle, viewF, r]
theorem mk1 {a : W} : mkL false [.v a] bx = .ok (.v (.lst [a])) bx := mkL_v (ws := [a]) (by simp [SL])
theorem mk2 {a b : W} : mkL false [.v a, .v b] bx = .ok (.v (.lst [a, b])) bx := mkL_v (ws := [a, b]) (by simp [SL])
theorem mk3 {a b c : W} : mkL false [.v a, .v b, .v c] bx = .ok (.v (.lst [a, b, c])) bx := mkL_v (ws := [a, b, c]) (by simp [SL])
theorem mk4 {a b c d : W} : mkL false [.v a, .v b, .v c, .v d] bx = .ok (.v (.lst [a, b, c, d])) bx := mkL_v (ws := [a, b, c, d]) (by simp [SL])
theorem mk5 {a b c d e : W} : mkL false [.v a, .v b, .v c, .v d, .v e] bx = .ok (.v (.lst [a, b, c, d, e])) bx := mkL_v (ws := [a, b, c, d, e]) (by simp [SL])
theorem exc_all : ∀ c, c < 21 → T.exc c = true := by decide
theorem isC_run {c d : Nat} {l : List W} (hc : c < 21) (hd : d < 21) : opIsC T d [.v (.exn c l)] bx = .ok (.v (.bl (T.sub c d))) bx := by
  have e : typO T bx (.v (.exn c l)) = some (Sum.inr c) := by
    show (if c < T.n ∧ T.exc c = true then some (Sum.inr c) else none) = _
    rw [if_pos ⟨hc, exc_all c hc⟩]
  show (if d < T.n then (match typO T bx (.v (.exn c l)) with
    | some (.inl _) => okB false bx
    | some (.inr d') => okB (T.sub d' d) bx
    | none => .stuck) else .stuck) = _
  rw [if_pos (show d < T.n from hd), e]; rfl
theorem cls_run {c : Nat} {l : List W} (hc : c < 21) : runF 1 2 (b3 F) [.v (.exn c l)] bx = .ok (.v (.lst (ask.map fun d => .bl (T.sub c d)))) bx := by
  have q : ∀ d, d < 21 → opIsC T d [.v (.exn c l)] bx = .ok (.v (.bl (T.sub c d))) bx := fun d hd => isC_run hc hd
  refine wR_eq (wC_run rfl ?_)
  show wC (b3 F) [some (.v (.exn c l)), none] bx _
  unfold b3
  simp [wC_seq, wC_seq1, wC_ret, wC_asg, wE_lst, wE_args, wE_argsN, wE_op1, wE_op2, wE_C, wR_ok, wE_var, q 1 (by decide), q 2 (by decide), q 3 (by decide), q 4 (by decide), q 5 (by decide), q 6 (by decide), q 7 (by decide), q 8 (by decide), q 9 (by decide), q 10 (by decide), q 11 (by decide), q 12 (by decide), q 13 (by decide), q 14 (by decide), q 15 (by decide), q 16 (by decide), q 17 (by decide), q 18 (by decide), q 19 (by decide), q 20 (by decide), mk1, mk2, mk3, opl_addLn, ask]
/-- the errors made, in order -/
def errs (k : Int) : List W := [.exn 2 [], .exn 3 [], .exn 4 [], .exn 5 [], .exn 6 [], .exn 7 [], .exn 8 [], .exn 9 [], .exn 10 [], .exn 11 [], .exn 12 [], .exn 13 [], .exn 14 [], .exn 15 [], .exn 16 [], .exn 17 [], .exn 1 [.int k], .exn 18 [], .exn 19 [], .exn 20 []]
theorem exn_run {c : Nat} {w : W} : opExn c [.v w] bx = .ok (.v (.exn c [])) bx := rfl
theorem x1_run {k : Int} (hk : k.natAbs.log2 < 1920) (h : F 6 [.v (.int k)] bx = .ok (.v .non) bx) : opX1 F 6 1 [.v (.int k)] bx = .ok (.v (.exn 1 [.int k])) bx := by
  show (if k.natAbs.log2 < 1920 then (match F 6 [.v (.int k)] bx with | .ok _ _ => Res.ok (.v (.exn 1 [.int k])) bx | _ => .stuck) else .stuck) = _
  rw [if_pos hk, h]
theorem made_run {s : Str} {k : Int} (hk : k.natAbs.log2 < 1920) (h : F 6 [.v (.int k)] bx = .ok (.v .non) bx) : runF 2 3 (b4 F) [.v (.str s), .v (.int k)] bx = .ok (.v (.lst (errs k))) bx := by
  refine wR_eq (wC_run rfl ?_)
  show wC (b4 F) [some (.v (.str s)), some (.v (.int k)), none] bx _
  unfold b4
  simp [wC_seq, wC_seq1, wC_ret, wC_asg, wE_lst, wE_args, wE_argsN, wE_op1, wE_op2, wE_C, wR_ok, wE_var, exn_run, x1_run hk h, mk1, mk2, mk3, mk4, mk5, opl_addLn, errs]
/-- what is asked at the i-th error -/
theorem same_all : ∀ i, i < 20 → W.pyeqs (ask.map fun d => .bl (T.sub (ask.getD i 0) d)) ((List.range 20).map fun j => .bl (decide (j = i))) = true := by decide +kernel
theorem lt_all : ∀ i, i < 20 → ask.getD i 0 < 21 := by decide +kernel
theorem err_at {k : Int} {i : Nat} (hi : i < 20) : ∃ l, (errs k)[i]? = some (.exn (ask.getD i 0) l) := by
  have h : ∀ i, i < 20 → i = 16 ∨ i ≠ 16 := fun i _ => by omega
  have a : errs k = ask.map fun c => if c = 1 then .exn 1 [.int k] else .exn c [] := rfl
  rw [a, List.getElem?_map]
  have hl : i < ask.length := hi
  rw [List.getElem?_eq_getElem hl]
  have g : ask.getD i 0 = ask[i] := by rw [List.getD_eq_getElem?_getD, List.getElem?_eq_getElem hl]; rfl
  rw [g]
  by_cases e : ask[i] = 1
  · exact ⟨[.int k], by simp [e]⟩
  · exact ⟨[], by simp [e]⟩
theorem lays_bls {α : Type} (f : α → Bool) (l : List α) : W.lays (l.map fun x => W.bl (f x)) = true := by
  induction l with
  | nil => rfl
  | cons a t ih => simp [W.lays, W.lay, ih]
theorem dps_bls {α : Type} (f : α → Bool) (l : List α) : W.dps (l.map fun x => W.bl (f x)) ≤ 1 := by
  induction l with
  | nil => simp [W.dps]
  | cons a t ih => simp [W.dps, W.dp]; omega
theorem isDat_bls {α : Type} (f : α → Bool) (l : List α) : (W.lst (l.map fun x => W.bl (f x))).isDat = true := by
  have := dps_bls f l
  simp [W.isDat, W.lay, lays_bls, W.dp]
  omega
theorem ne_same {a b : List W} (h1 : (W.lst a).isDat = true) (h2 : (W.lst b).isDat = true) (h : W.pyeqs a b = true) : opCmp .ne [.v (.lst a), .v (.lst b)] bx = .ok (.v (.bl false)) bx := by
  simp [opCmp, cmpB, eqR, view, eqW, h1, h2, okO, okB, W.pyeq, h]
def innerB (F : Fn) : C := cSeq [cIf (eOp [eFn [(false, eOp [eVar 5, eVar 6] opIdx)] (opCall F 3 false), eLc false [7] [⟨.nm 7, iRange1 (eFn [(false, eVar 5)] opLen), []⟩] (eOp [eVar 7, eVar 6] (opCmp .eq))] (opCmp .ne)) (cSeq [cRet (eC (.bl false))]) (cPass),
    cIf (eOr [eNot (eOp [eOp [eVar 5, eVar 6] opIdx] (opIsC T 0)), eNot (eOp [eOp [eVar 5, eVar 6] opIdx] (opIsVE T))]) (cSeq [cRet (eC (.bl false))]) (cPass)]
theorem inner_ok {i : Nat} {m : Int} {s t w num jv : Option R} (hi : i < 20) (hF : F 3 = runF 1 2 (b3 F')) : wC (innerB F) [s, some (.r 0), t, w, num, some (.v (.lst (errs m))), some (.v (.int i)), jv] bx { nx := fun en b => b = bx ∧ ∃ jv', en = [s, some (.r 0), t, w, num, some (.v (.lst (errs m))), some (.v (.int i)), jv'], rt := fun _ _ => False } := by
  obtain ⟨l, hl⟩ := err_at (k := m) hi
  have hc := lt_all i hi
  have s1 := same_all i hi
  have s2 : T.sub (ask.getD i 0) 0 = true := (show ∀ i, i < 20 → T.sub (ask.getD i 0) 0 = true by decide +kernel) i hi
  generalize ask.getD i 0 = c at hl hc s1 s2
  have e1 : opIdx [.v (.lst (errs m)), .v (.int i)] bx = .ok (.v (.exn c l)) bx := by
    have hn : (i : Int) < ((errs m).map R.v).length := by
      show (i : Int) < (20 : Nat)
      omega
    show (match (atW i ((errs m).map R.v).length).bind fun j => ((errs m).map R.v)[j]? with | some r => Res.ok r bx | none => .stuck) = _
    have h3 : atW i ((errs m).map R.v).length = some i := by
      unfold atW
      rw [if_pos (by omega), if_pos hn]
      simp
    rw [h3]
    simp [hl]
  have e2 : F 3 [.v (.exn c l)] bx = .ok (.v (.lst (ask.map fun d => .bl (T.sub c d)))) bx := by
    rw [hF]
    exact cls_run hc
  have e3 : opCall F 3 false [.v (.exn c l)] bx = .ok (.v (.lst (ask.map fun d => .bl (T.sub c d)))) bx := by
    show settle bx (F 3 _ bx) = _
    rw [e2]
    exact settle_v
  have e4 : eLc false [7] [⟨.nm 7, iRange1 (eFn [(false, eVar 5)] opLen), []⟩] (eOp [eVar 7, eVar 6] (opCmp .eq)) [s, some (.r 0), t, w, num, some (.v (.lst (errs m))), some (.v (.int i)), jv] bx = .ok (.v (.lst ((List.range 20).map fun j => .bl (decide (j = i))))) bx := by
    have z := eLc_one (bx := bx) (en := [s, some (.r 0), t, w, num, some (.v (.lst (errs m))), some (.v (.int i)), jv]) (elt := eOp [eVar 7, eVar 6] (opCmp .eq)) (it := iRange1 (eFn [(false, eVar 5)] opLen)) (i := 7) (own := [7]) (xs := (List.range 20).map fun (j : Nat) => W.int j) (f := fun x => match x with | .int j => .bl (decide (j = i)) | x => x) ?_ (by simp [wipeE]) (by simp [SL]) ?_
    · rw [z, List.map_map]
      have y : (List.range 20).map ((fun x => match x with | W.int j => W.bl (decide (j = i)) | x => x) ∘ fun (j : Nat) => W.int j) = (List.range 20).map fun j => W.bl (decide (j = i)) := List.map_congr_left fun j _ => by
        show W.bl (decide ((j : Int) = i)) = W.bl (decide (j = i))
        rw [show decide ((j : Int) = (i : Int)) = decide (j = i) from decide_eq_decide.mpr (by omega)]
      rw [y]
    · simp [wipeE, iRange1, iBind, eArgs, eBind, eVar, opLen, lenO, itS, itL, range1K, rangeI, errs]
    · intro x hx
      obtain ⟨j, _, rfl⟩ := List.mem_map.mp hx
      simp [wipeE, eOp, eAll, eBind, eVar, opCmp, cmpB, eqR, view, eqW, W.isDat, W.lay, W.dp, okO, okB, W.pyeq]
      rfl
  have e5 : opCmp .ne [.v (.lst (ask.map fun d => .bl (T.sub c d))), .v (.lst ((List.range 20).map fun j => .bl (decide (j = i))))] bx = .ok (.v (.bl false)) bx := ne_same (isDat_bls _ _) (isDat_bls _ _) s1
  have e6 : opIsC T 0 [.v (.exn c l)] bx = .ok (.v (.bl (T.sub c 0))) bx := isC_run hc (by decide)
  have e8 : opIsVE T [.v (.exn c l)] bx = .ok (.v (.bl true)) bx := by
    have e : typO T bx (.v (.exn c l)) = some (Sum.inr c) := by
      show (if c < T.n ∧ T.exc c = true then some (Sum.inr c) else none) = _
      rw [if_pos ⟨hc, exc_all _ hc⟩]
    show (match typO T bx (.v (.exn c l)) with
      | some (.inl _) => okB false bx
      | some (.inr d') => okB (T.exc d') bx
      | none => .stuck) = _
    rw [e]
    show okB (T.exc c) bx = _
    rw [exc_all _ hc]
    rfl
  unfold innerB
  simp [wC_seq, wC_seq1, wC_pass, wC_ifB, wE_op1, wE_op2, wE_fn1, wE_C, wR_ok, wE_var, wE_orB, wE_or1, wE_not, wB_bl, e1, e3, wE_of e4, e5, e6, s2, e8]
end
end AM.K24
/-! text K24r -/
set_option Elab.async false
set_option linter.all false
set_option maxRecDepth 100000
set_option maxHeartbeats 4000000
namespace AM.K24
open PySem AM
section
variable {bx : Bx} {F F' : Fn} {ns : List Int}
def reprW (w : W) : Option Str := match W.toD w with
  | some d => if d.showable = true ∧ d.shown.length ≤ SL ∧ d.depth ≤ 60 then some d.shown else none
  | none => none
theorem repr_run {w : W} : opRepr [.v w] bx = (match reprW w with | some t => .ok (.v (.str t)) bx | none => .stuck) := by
  show (match (some w).bind W.toD with
    | some d => if d.showable = true ∧ d.shown.length ≤ SL ∧ d.depth ≤ 60 then Res.ok (.v (.str d.shown)) bx else .stuck
    | none => .stuck) = _
  unfold reprW
  cases e : W.toD w with
  | none => simp [e]
  | some d =>
    simp only [Option.bind_some, e]
    split <;> rfl
def big : Int := 10 ^ 20
def nums : List Int := [0, 1, 7, big]
theorem rep_all : nums.all (fun m => match reprW (.lst [.int m, .int m]) with | some t => (W.str t).isDat | none => false) = true := by decide +kernel
theorem rep_num {m : Int} (h : m ∈ nums) : ∃ t, (∀ bx, opRepr [.v (.lst [.int m, .int m])] bx = .ok (.v (.str t)) bx) ∧ (W.str t).isDat = true := by
  have z := List.all_eq_true.mp rep_all m h
  cases e : reprW (.lst [.int m, .int m]) with
  | none => simp [e] at z
  | some t =>
    simp only [e] at z
    exact ⟨t, fun bx => by rw [repr_run, e], z⟩
theorem ne_str {t : Str} (h : (W.str t).isDat = true) : opCmp .ne [.v (.str t), .v (.str t)] bx = .ok (.v (.bl false)) bx := by
  simp [opCmp, cmpB, eqR, view, eqW, h, okO, okB, W.pyeq]
theorem ve_run {c : Nat} {l : List W} (hc : c < 21) : opIsVE T [.v (.exn c l)] bx = .ok (.v (.bl true)) bx := by
  have e : typO T bx (.v (.exn c l)) = some (Sum.inr c) := by
    show (if c < T.n ∧ T.exc c = true then some (Sum.inr c) else none) = _
    rw [if_pos ⟨hc, exc_all _ hc⟩]
  show (match typO T bx (.v (.exn c l)) with
    | some (.inl _) => okB false bx
    | some (.inr d') => okB (T.exc d') bx
    | none => .stuck) = _
  rw [e]
  show okB (T.exc c) bx = _
  rw [exc_all _ hc]
  rfl
theorem base_none : (ask.map fun d => T.sub 0 d).any id = false := by decide +kernel
theorem any_run : opAny [.v (.lst (ask.map fun d => .bl (T.sub 0 d)))] bx = .ok (.v (.bl false)) bx := by
  have b : ∀ l : List Nat, boolsO ((l.map fun d => W.bl (T.sub 0 d)).map R.v) = some (l.map fun d => T.sub 0 d) := fun l => by
    induction l with
    | nil => rfl
    | cons a t ih => simp [boolsO] at *; simp [ih]
  show (match (boolsO ((ask.map fun d => W.bl (T.sub 0 d)).map R.v)) with | some bs => okB (bs.any id) bx | none => .stuck) = _
  rw [b]
  show okB _ bx = _
  rw [base_none]
  rfl
theorem draw1 {i v u : Int} (hF : F 2 = runF 2 3 (b2 F')) (hF1 : F' 1 = runF 1 6 (b1 F'')) (h0 : 0 ≤ i) (h1 : i < 2 ^ 62) (hv : 0 ≤ v) (u0 : 0 < u) (u1 : u < 1073741824) :
    ∃ (k j v' : Int), 0 ≤ k ∧ k < u ∧ i ≤ j ∧ j ≤ i + 1 ∧ 0 ≤ v' ∧ opCall F 2 false [.r 0, .v (.int u)] [penB (ns.map W.int) i v] = .ok (.v (.int k)) [penB (ns.map W.int) j v'] := by
  obtain ⟨k, j, v', a1, a2, a3, a4, a5, e⟩ := draw_run (F := F') (nx := 1) (n := 0) (bx := [penB (ns.map W.int) i v]) hF1 rfl h0 h1 hv u0 u1
  refine ⟨k, j, v', a1, a2, a3, a4, a5, ?_⟩
  show settle _ (F 2 _ _) = _
  rw [hF]
  show settle _ (runF 2 3 (drawB F' 1) _ _) = _
  rw [e]
  exact settle_pen (n := 0) (by simp)
end
end AM.K24
/-! text K24s -/
set_option Elab.async false
set_option linter.all false
set_option maxRecDepth 100000
set_option maxHeartbeats 4000000
namespace AM.K24
open PySem AM
section
variable {bx : Bx} {F F' F'' : Fn} {ns : List Int}
theorem idx_l {ws : List W} {k : Int} (h0 : 0 ≤ k) (h1 : k < ws.length) : ∃ w, w ∈ ws ∧ opIdx [.v (.lst ws), .v (.int k)] bx = .ok (.v w) bx := by
  have hl : k.toNat < ws.length := by omega
  refine ⟨ws[k.toNat], List.getElem_mem hl, ?_⟩
  simp [opIdx, dcO, itS, itL, atW, h0, h1, List.getElem?_eq_getElem hl]
def bod (F : Fn) : C := cSeq [cAsg (.nm 3) (eOp [eLst false [(false, eC (.str "")), (false, eC (.str "no")), (false, eC (.str "a longer word")), (false, eC (.str "0"))], eFn [(false, eVar 1), (false, eC (.int 4))] (opCall F 2 false)] opIdx),
    cAsg (.nm 4) (eOp [eLst false [(false, eC (.int 0)), (false, eC (.int 1)), (false, eC (.int 7)), (false, eOp [eC (.int 10), eC (.int 20)] (opBin .pow false))], eFn [(false, eVar 1), (false, eC (.int 4))] (opCall F 2 false)] opIdx),
    cAsg (.nm 5) (eFn [(false, eVar 3), (false, eVar 4)] (opCall F 4 false)),
    cFor (.nm 6) (iRange1 (eFn [(false, eVar 5)] opLen)) (innerB F),
    cIf (eOp [eFn [(false, eLst false [(false, eOp [eOp [eVar 5, eC (.int 16)] opIdx] (opLn 1)), (false, eOp [eOp [eVar 4] (opX1 F 6 1)] (opLn 1))])] opRepr, eFn [(false, eLst false [(false, eVar 4), (false, eVar 4)])] opRepr] (opCmp .ne)) (cSeq [cRet (eC (.bl false))]) (cPass),
    cIf (eOr [eNot (eOp [eOp [eVar 3] (opExn 0)] (opIsVE T)), eFn [(false, eFn [(false, eOp [eVar 3] (opExn 0))] (opCall F 3 false))] opAny]) (cSeq [cRet (eC (.bl false))]) (cPass)]
theorem b5_eq : b5 F = cSeq [cAsg (.nm 1) (eFn [(false, eVar 0)] (opCall F 0 true)), cFor (.nm 2) (iRange1 (eC (.int 3))) (bod F), cRet (eC (.bl true))] := rfl
def txts : List W := [.str "", .str "no", .str "a longer word", .str "0"]
theorem pow20 {m : Bool} : opBin .pow m [.v (.int 10), .v (.int 20)] bx = .ok (.v (.int big)) bx := by
  simp [opBin, binR, arR, arI, i64, big]
theorem nums_small : ∀ m ∈ nums, m.natAbs.log2 < 1920 := by decide +kernel
def Mid (ns : List Int) (n : Nat) (en : En) (b : Bx) : Prop := ∃ (i v : Int), 0 ≤ i ∧ i ≤ 2 * n ∧ 0 ≤ v ∧ b = [penB (ns.map W.int) i v] ∧ ∃ s t w m f k j, en = [s, some (.r 0), t, w, m, f, k, j]
theorem turn_ok {n : Nat} {en : En} {b : Bx} (hn : n < 1000) (h : Mid ns n en b) (h2 : F 2 = runF 2 3 (b2 F')) (h1 : F' 1 = runF 1 6 (b1 F'')) (h4 : F 4 = runF 2 3 (b4 F')) (h3 : F 3 = runF 1 2 (b3 F')) (h6' : ∀ rs b, F' 6 rs b = .ok (.v .non) b) (h6 : ∀ rs b, F 6 rs b = .ok (.v .non) b) :
    wC (bod F) en b { nx := Mid ns (n + 1), rt := fun _ _ => False } := by
  obtain ⟨i, v, i0, i1, v0, rfl, s, t, w, m, f, k, j, rfl⟩ := h
  obtain ⟨d1, i', v', a0, a1, a2, a3, a4, e1⟩ := draw1 (ns := ns) (u := 4) h2 h1 i0 (by omega) v0 (by decide) (by decide)
  obtain ⟨d2, i'', v'', c0, c1, c2, c3, c4, e2⟩ := draw1 (ns := ns) (u := 4) h2 h1 (show 0 ≤ i' by omega) (by omega) a4 (by decide) (by decide)
  obtain ⟨w1, m1, q1⟩ := idx_l (bx := [penB (ns.map W.int) i' v']) (ws := txts) a0 (by simpa [txts] using a1)
  obtain ⟨w2, m2, q2⟩ := idx_l (bx := [penB (ns.map W.int) i'' v'']) (ws := nums.map W.int) c0 (by simpa [nums] using c1)
  obtain ⟨sw, rfl⟩ : ∃ sw, w1 = .str sw := by
    simp [txts] at m1
    rcases m1 with h | h | h | h <;> exact ⟨_, h⟩
  obtain ⟨mm, hm, rfl⟩ := List.mem_map.mp m2
  have hs := nums_small mm hm
  obtain ⟨tx, hrep, hdat⟩ := rep_num hm
  have l1 : ∀ bx, mkL false [.v (.str ""), .v (.str "no"), .v (.str "a longer word"), .v (.str "0")] bx = .ok (.v (.lst txts)) bx := fun bx => mk4
  have l2 : ∀ bx, mkL false [.v (.int 0), .v (.int 1), .v (.int 7), .v (.int big)] bx = .ok (.v (.lst (nums.map W.int))) bx := fun bx => mk4
  have e4 : ∀ bx, opCall F 4 false [.v (.str sw), .v (.int mm)] bx = .ok (.v (.lst (errs mm))) bx := fun bx => by
    show settle bx (F 4 _ bx) = _
    rw [h4, made_run hs (h6' _ _)]
    exact settle_v
  have e3 : ∀ bx, opCall F 3 false [.v (.exn 0 [])] bx = .ok (.v (.lst (ask.map fun d => .bl (T.sub 0 d)))) bx := fun bx => by
    show settle bx (F 3 _ bx) = _
    rw [h3, cls_run (by decide)]
    exact settle_v
  have ix : ∀ bx, opIdx [.v (.lst (errs mm)), .v (.int 16)] bx = .ok (.v (.exn 1 [.int mm])) bx := fun bx => rfl
  have ln : ∀ bx, opLn 1 [.v (.exn 1 [.int mm])] bx = .ok (.v (.int mm)) bx := fun bx => rfl
  have mx : ∀ bx, opX1 F 6 1 [.v (.int mm)] bx = .ok (.v (.exn 1 [.int mm])) bx := fun bx => x1_run hs (h6 _ _)
  have xe : ∀ bx, opExn 0 [.v (.str sw)] bx = .ok (.v (.exn 0 [])) bx := fun bx => rfl
  have ve : ∀ bx, opIsVE T [.v (.exn 0 [])] bx = .ok (.v (.bl true)) bx := fun bx => ve_run (by decide)
  have loop : ∀ en0, (∃ k j, en0 = [s, some (.r 0), t, some (.v (.str sw)), some (.v (.int mm)), some (.v (.lst (errs mm))), k, j]) → ∀ Q : Dz, (∀ k j, Q.nx [s, some (.r 0), t, some (.v (.str sw)), some (.v (.int mm)), some (.v (.lst (errs mm))), k, j] [penB (ns.map W.int) i'' v'']) →
      wC (cFor (.nm 6) (iRange1 (eFn [(false, eVar 5)] opLen)) (innerB F)) en0 [penB (ns.map W.int) i'' v''] Q := fun en0 ⟨k, j, he⟩ Q hQ => by
    subst he
    have hit : (iRange1 (eFn [(false, eVar 5)] opLen)) [s, some (.r 0), t, some (.v (.str sw)), some (.v (.int mm)), some (.v (.lst (errs mm))), k, j] [penB (ns.map W.int) i'' v''] = .ok (rangeI 0 20) none [penB (ns.map W.int) i'' v''] := by
      simp [iRange1, iBind, eArgs, eBind, eVar, opLen, lenO, itS, itL, range1K, errs]
    rw [wC_for hit]
    refine forGo_inv (fun n en b => b = [penB (ns.map W.int) i'' v''] ∧ ∃ k j, en = [s, some (.r 0), t, some (.v (.str sw)), some (.v (.int mm)), some (.v (.lst (errs mm))), k, j]) (fun _ _ _ _ => rfl) _ 0 _ _ ⟨rfl, _, _, rfl⟩ ?_ ?_
    · rintro n x en b hx ⟨rfl, k, j, rfl⟩
      obtain ⟨p, hp, rfl⟩ : ∃ p : Nat, p < 20 ∧ x = .one (.v (.int p)) := by
        have := List.mem_of_getElem? hx
        simp [rangeI] at this
        obtain ⟨p, hp, e⟩ := this
        exact ⟨p, hp, e.symm⟩
      refine ⟨[s, some (.r 0), t, some (.v (.str sw)), some (.v (.int mm)), some (.v (.lst (errs mm))), some (.v (.int p)), j], rfl, ?_⟩
      have z := inner_ok (bx := [penB (ns.map W.int) i'' v'']) (F := F) (F' := F') (m := mm) (s := s) (t := t) (w := some (.v (.str sw))) (num := some (.v (.int mm))) (jv := j) hp h3
      refine wC_mono z ?_ (fun _ _ h => h.elim) (fun _ _ h => h.elim)
      rintro en2 b2 ⟨rfl, j', rfl⟩
      exact ⟨rfl, _, _, rfl⟩
    · rintro en b ⟨rfl, k, j, rfl⟩
      exact hQ k j
  have e1' : opCall F 2 false [.r 0, .v (.int 4)] [penB (ns.map W.int) i v] = _ := e1
  unfold bod
  simp only [wC_seq, wC_seq1]
  rw [wC_asg (by simp)]
  simp only [wE_op2, wE_lst, wE_args, wE_argsN, wE_C, wR_ok, wE_fn2, l1]
  rw [wE_var (r := .r 0) rfl]
  simp only [e1, wR_ok, q1]
  rw [wC_asg (by simp)]
  simp only [wE_op2, wE_lst, wE_args, wE_argsN, wE_C, wR_ok, wE_fn2, pow20, l2]
  rw [wE_var (r := .r 0) rfl]
  simp only [e2, wR_ok, q2]
  rw [wC_asg (by simp)]
  rw [wE_fn2]
  rw [wE_var (r := .v (.str sw)) rfl]
  rw [wE_var (r := .v (.int mm)) rfl]
  rw [e4, wR_ok]
  dsimp only [List.set]

  have lp0 := loop
  have hen : ∃ k' j', ([s, some (.r 0), t, some (.v (.str sw)), some (.v (.int mm)), some (.v (.lst (errs mm))), k, j] : En) = [s, some (.r 0), t, some (.v (.str sw)), some (.v (.int mm)), some (.v (.lst (errs mm))), k', j'] := ⟨k, j, rfl⟩
  apply loop
  · exact hen
  intro k j
  dsimp only
  have nes : ∀ bx, opCmp .ne [.v (.str tx), .v (.str tx)] bx = .ok (.v (.bl false)) bx := fun bx => ne_str hdat
  have mk : ∀ bx, mkL false [.v (.int mm), .v (.int mm)] bx = .ok (.v (.lst [.int mm, .int mm])) bx := fun bx => mk2
  have an : ∀ bx, opAny [.v (.lst (ask.map fun d => .bl (T.sub 0 d)))] bx = .ok (.v (.bl false)) bx := fun bx => any_run
  simp [wC_ifB, wC_pass, wE_op2, wE_op1, wE_fn1, wE_lst, wE_args, wE_argsN, wE_C, wR_ok, wE_var, wB_bl, wE_orB, wE_or1, wE_not, ix, ln, mx, mk, hrep, nes, xe, ve, e3, an]
  exact ⟨i'', v'', by omega, by push_cast; omega, c4, rfl, _, _, _, _, _, _, _, rfl⟩
theorem plain (ns : List Int) (hl : ns.length ≤ 63) : ∃ bx, fns 20 5 [scrW ns] [] = .ok (.v (.bl true)) bx := by
  have key : wR (fun r _ => r = .v (.bl true)) (fns 20 5 [scrW ns] []) := by
    show wR _ (runF 1 8 (b5 (fns 19)) [scrW ns] [])
    refine wC_run rfl ?_
    show wC (b5 (fns 19)) [some (scrW ns), none, none, none, none, none, none, none] [] _
    rw [b5_eq]
    have p0 : opCall (fns 19) 0 true [scrW ns] [] = .ok (.r 0) [penB ((ns.take 60).map W.int) 0 0] := pen_made ns hl
    simp only [wC_seq, wC_seq1]
    simp [wC_asg, wE_fn1, wE_var, p0, wR_ok]
    have hit : (iRange1 (eC (.int 3))) [some (scrW ns), some (.r 0), none, none, none, none, none, none] [penB ((ns.take 60).map W.int) 0 0] = .ok (rangeI 0 3) none [penB ((ns.take 60).map W.int) 0 0] := by
      simp [iRange1, iBind, eC, ePure, range1K]
    rw [← List.map_take, wC_for hit]
    refine forGo_inv (Mid (ns.take 60)) (fun _ _ _ _ => rfl) _ 0 _ _ ⟨0, 0, by decide, by decide, by decide, rfl, _, _, _, _, _, _, _, rfl⟩ ?_ ?_
    · intro n x en b hx hM
      obtain ⟨i, v, i0, i1, v0, rfl, s, t, w, m, f, k, j, rfl⟩ := hM
      obtain ⟨p, rfl⟩ : ∃ p : Int, x = .one (.v (.int p)) := by
        have := List.mem_of_getElem? hx
        simp [rangeI] at this
        obtain ⟨p, hp, e⟩ := this
        exact ⟨_, e.symm⟩
      have hn : n < 3 := by
        have := (List.getElem?_eq_some_iff.mp hx).1
        simpa [rangeI] using this
      refine ⟨_, rfl, ?_⟩
      have z := turn_ok (ns := ns.take 60) (n := 0 + n) (F := fns 19) (F' := fns 18) (F'' := fns 17) (by omega) ⟨i, v, i0, i1, v0, rfl, s, some (.v (.int p)), w, m, f, k, j, rfl⟩ rfl rfl rfl rfl (fun _ _ => rfl) (fun _ _ => rfl)
      exact wC_mono z (fun _ _ h => h) (fun _ _ h => h.elim) (fun _ _ h => h.elim)
    · rintro en b -
      show wC (cRet (eC (.bl true))) en b _
      rw [wC_ret, wE_C]
  obtain ⟨r, b, e, rfl⟩ := wR_get key
  exact ⟨b, e⟩
end
end AM.K24
/-! text K24z -/
set_option Elab.async false
set_option linter.all false
set_option maxRecDepth 100000
set_option maxHeartbeats 0
open PySem PySem.W PySem.Calls PyProof.Rows
theorem PySem.Challenge.cw_rootpaths_k24_errors_holds : PySem.Challenge.rw_rootpaths_k24_errors.Holds := by
  w_on; o_law
  refine HandSHeadRun.head_any (r := OpenLaw.row PySem.Challenge.rw_rootpaths_k24_errors) (q := view (OpenLaw.row PySem.Challenge.rw_rootpaths_k24_errors).prog [28]) (H := AM.K24.hk) (ob := AM.K24.ob) (M := 30000) (loose := AM.K24.loose) (d := HandSHeadRun.topDef (OpenLaw.row PySem.Challenge.rw_rootpaths_k24_errors).prog 28) (kwd := []) AM.K24.ob_eq
    (by kernel_rfl) (fun s => by kernel_rfl) AM.K24.run (by kernel_rfl) (by kernel_rfl) (by kernel_rfl) (by rfl) (by first | assumption | decide +kernel) (by decide +kernel) ⟨rfl, rfl, rfl, rfl, rfl, by decide +kernel⟩ ?hw ?hc
  case hw => w_witness2
  case hc =>
    refine AM.walk_M (l := PySem.Challenge.rw_rootpaths_k24_errors) (n := 63) rfl (by decide) (by kernel_rfl) fun w mg h Y G => ?_
    obtain ⟨K, KX, c, e, hx⟩ := Y
    exact ⟨K, AM.K24.caK K, 20, AM.K24.fns 20 5, KX, by decide, AM.K24.plain, fun base hb hg => (AM.K24.all (AM.K24.ds KX G c) (AM.K24.gl rfl KX G c e hx) 20).f5⟩
