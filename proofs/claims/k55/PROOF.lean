import PyProof.Rows.All
import Wide.All
import OpenK.AllK
import Wide.FinOn
import HandS.ForMost
import HandS.HeadHook4
import HandS.HeadWalk
import HandS.HeadNt
import HandS.Head3
import HandS.HeadEnd
import HandS.IsInst
import HandS.Gcd
import HandS.Wide
import HandS.TupAny
import HandS.ClsMeth
import KE.KOpsOwn
import HandS.Star
import HandS.Property
import HandS.Style
import HandS.WideBits
import KE.KCallOwn
import HandS.Walk
import HandS.Iter
import HandS.Zip
import HandS.Rev
import HandS.Comp
import HandS.OwnEq
import PyProof.NeKinds
import KE.KFmtOwn
import PyProof.InstNe
import KE.GoesMore
import KE.GoesEnum
import HandS.FStr
import HandS.StrMore
import HandS.Text
import HandS.OwnIter
import HandS.IterVal
import PyProof.WalksMore
import HandS.Defaults
import PySem.Challenge.RW_indicial_k55_power_products
set_option Elab.async false
set_option linter.all false
set_option maxRecDepth 100000
/-! IvA: the small language: data, store, syntax, evaluator. -/
namespace Iv
open PySem L2

/-- data: immutable trees; `frl` a list that nobody changes any more; `scr` the script; `ref` a place of the store -/
inductive DV where
  | non | bl (b : Bool) | int (i : Int) | str (x : List Nat)
  | tup (ds : List DV) | obj (c : String) (ds : List DV) | frl (ds : List DV) | scr (ds : List DV) | ref (i : Nat) | cls (c : String)

inductive Cell where
  | lst (ds : List DV) | ins (c : String) (fs : List (String × DV)) | dead

abbrev Store := List Cell
abbrev Env := List (Option DV)
abbrev RE := Option (DV × Store)
abbrev Key := String × String

/-- the functions; the first number: so many levels deeper -/
structure Orc where
  call : Nat → Key → List DV → Store → RE
  lv : Nat

inductive Bop where | add | sub | mul | fdiv | mod | pow
inductive Cop where | eq | ne | lt | le | gt | ge
inductive Blt where | len | int | str | abs | max2 | min2 | tuple | list | divmod | gcd | lcm | isi (c : String) | ist (T : String)
inductive Bm where | append | pop | pop1 | join | zfill | items
  deriving DecidableEq

inductive Tg where | one (i : Nat) | many (is : List Nat)

mutual
inductive E where
  | var (i : Nat) | cint (i : Int) | cbl (b : Bool) | cnon | cstr (s : String) | glob (x : String)
  | bin (op : Bop) (a b : E) | neg (a : E) | cmp (op : Cop) (a b : E)
  | isN (pos : Bool) (a : E) | and_ (a b : E) | or_ (a b : E) | not_ (a : E) | ite (c a b : E)
  | call (f : String) (as : Es) | mk (c : String) (as : Es) | mth (o : E) (c m : String) (as : Es) | prop (o : E) (c m : String) | app (o : E) (c : String) (as : Es)
  | fld (o : E) (f : String) | ix (a i : E) | slTo (a h : E) | slFrom (a l : E) | sl (a l h : E) | slRev (a : E)
  | tup (as : Es) | lst (as : Es) | lc (t : Tg) (it : It) (el : E) | lcIf (t : Tg) (it : It) (c el : E)
  | blt (f : Blt) (as : Es) | frz (i : Nat)
  | pop0 (i : Nat) | join (s : String) (e : E) | zfill (e n : E) | fstr (as : Es) | fmt (e : E) | isB (b : Bool) (a : E) | lsto (e : E) | cmth (k c m : String) (as : Es) | mkv (i : Nat) (as : Es)
inductive Es where | nil | cons (e : E) (r : Es)
inductive It where | seq (e : E) | range (as : Es) | enum (e : E) | zip (a b : E) | rev (e : E) | own (e : E)
end

mutual
inductive S where
  | asg (i : Nat) (e : E) | new (i : Nat) (e : E) | asgT (is : List Nat) (e : E) | par (i j : Nat) (a b : E)
  | sfld (f : String) (e : E) | item (o i e : E) | aug (i : Nat) (op : Bop) (e : E) | ex (e : E)
  | app (i : Nat) (e : E) | pop (i : Nat)
  | if_ (c : E) (a b : Ss) | while_ (c : E) (b : Ss) | for_ (t : Tg) (it : It) (b : Ss)
  | ret (e : E) | retN | cont | brk | pass | never
inductive Ss where | nil | cons (s : S) (r : Ss)
end

structure Fn where
  nm : List String
  np : Nat
  dfl : List DV
  body : Ss

structure Gi where
  fn : Key → Option Fn
  fld : String → List String
  cst : String → Option DV
  cls : String → Bool
  mths : List String
  itf : String → Option String
  cmc : String → Option (String × String)

/-! ### values -/
def mulOk (a b : Int) : Prop := a.natAbs.log2 + b.natAbs.log2 < 1000000
def divOk (a b : Int) : Prop := b ≠ 0 ∧ b.natAbs.log2 < 9000
instance (a b : Int) : Decidable (mulOk a b) := by unfold mulOk; infer_instance
instance (a b : Int) : Decidable (divOk a b) := by unfold divOk; infer_instance
def intOp : Bop → Int → Int → Option Int
  | .add, a, b => some (a + b)
  | .sub, a, b => some (a - b)
  | .mul, a, b => if mulOk a b then some (a * b) else none
  | .fdiv, a, b => if divOk a b then some (a.fdiv b) else none
  | .mod, a, b => if b ≠ 0 then some (a.fmod b) else none
  | .pow, a, b => if 0 ≤ b ∧ b ≤ 1000 ∧ a.natAbs < 2 ^ 64 then some (a ^ b.toNat) else none
def Bop.dun : Bop → String
  | .add => "__add__" | .sub => "__sub__" | .mul => "__mul__" | .fdiv => "__floordiv__" | .mod => "__mod__" | .pow => "__pow__"
def binD (O : Orc) : Bop → DV → DV → Store → RE
  | op, .int a, .int b, S => match intOp op a b with | some k => some (.int k, S) | none => none
  | op, .obj c ds, .obj c' ds', S => if c = c' ∧ c ≠ "" then O.call 0 (c, op.dun) [.obj c ds, .obj c' ds'] S else none
  | .add, .str a, .str b, S => if a.length + b.length ≤ 16777216 then some (.str (a ++ b), S) else none
  | .add, .frl a, .frl b, S => if a.length + b.length ≤ 16777216 then some (.frl (a ++ b), S) else none
  | .add, .tup a, .tup b, S => if a.length + b.length ≤ 16777216 then some (.tup (a ++ b), S) else none
  | _, _, _, _ => none

/-! ### == -/
mutual
/- data that lie still -/
def hard : DV → Bool
  | .tup ds => hardL ds
  | .obj _ ds => hardL ds
  | .frl ds => hardL ds
  | .scr _ => false
  | .ref _ => false
  | .cls _ => false
  | _ => true
def hardL : List DV → Bool
  | [] => true
  | d :: ds => hard d && hardL ds
end
def eqR : DV → Bool
  | .obj _ _ => true | .int _ => true | .str _ => true | .non => true | .bl _ => true | _ => false
open Classical in
mutual
noncomputable def eqD (O : Orc) : Nat → DV → DV → Store → Option Bool
  | _, .non, .non, _ => some true
  | _, .non, .int _, _ => some false
  | _, .int _, .non, _ => some false
  | _, .non, .str _, _ => some false
  | _, .str _, .non, _ => some false
  | _, .int a, .int b, _ => some (a == b)
  | _, .bl a, .bl b, _ => some (a == b)
  | _, .str a, .str b, _ => some (a == b)
  | d, .tup as, .tup bs, S => if d < 100 then eqL O (d + 1) as bs S else none
  | d, .frl as, .frl bs, S => if d < 100 then (if as.length = bs.length then eqL O (d + 1) as bs S else some false) else none
  | d, .obj c ds, b, S => if c ≠ "" ∧ eqR b = true then (match O.call d (c, "__eq__") [.obj c ds, b] S with
    | some (.bl r, S1) => if S1 = S then some r else none
    | _ => none) else none
  | _, _, _, _ => none
/- an object is equal to itself inside a list or tuple, whatever its own == says -/
noncomputable def eqL (O : Orc) : Nat → List DV → List DV → Store → Option Bool
  | _, [], [], _ => some true
  | _, [], _ :: _, _ => some false
  | _, _ :: _, [], _ => some false
  | d, a :: as, b :: bs, S => match eqD O d a b S with
    | some true => eqL O d as bs S
    | some false => if a = b ∨ hard a = false ∨ hard b = false then none else some false
    | none => none
end

/-! ### refs -/
mutual
def cloD (n : Nat) : DV → Bool
  | .tup ds => cloL n ds
  | .obj _ ds => cloL n ds
  | .frl ds => cloL n ds
  | .scr ds => cloL n ds
  | .ref i => decide (i < n)
  | _ => true
def cloL (n : Nat) : List DV → Bool
  | [] => true
  | d :: ds => cloD n d && cloL n ds
end
def cloC (n : Nat) : Cell → Bool
  | .lst ds => cloL n ds
  | .ins _ fs => cloL n (fs.map (·.2))
  | .dead => true
def cloS (n : Nat) (S : Store) : Bool := S.all (cloC n)
def pur (d : DV) : Bool := cloD 0 d
def purL (ds : List DV) : Bool := cloL 0 ds

/-! behind a call: what the callee made for itself is dropped -/
/- the first cells of S' are those of S, or bear no new place -/
def okG (n : Nat) : Store → Store → Prop
  | [], _ => True
  | c :: S, c' :: S' => (c = c' ∨ cloC n c' = true) ∧ okG n S S'
  | _ :: _, [] => False
open Classical in
noncomputable def gc (S S' : Store) (d : DV) : DV × Store :=
  if okG S.length S S' then
    if pur d = true then (d, S'.take S.length) else match d with
      | .ref k => (match S'[k]? with
        | some (.lst ds) => if S.length ≤ k ∧ purL ds = true then (.ref S.length, S'.take S.length ++ [.lst ds]) else (d, S')
        | _ => (d, S'))
      | _ => (d, S')
  else (d, S')

/-! ### targets, sequences -/
def setAll : List Nat → List DV → Env → Env
  | i :: is, d :: ds, en => setAll is ds (en.set i (some d))
  | _, _, en => en
def bindT : Tg → DV → Env → Option Env
  | .one i, d, en => some (en.set i (some d))
  | .many is, .tup ds, en => if is.length = ds.length then some (setAll is ds en) else none
  | .many _, _, _ => none
abbrev Guard := Option (Nat × List DV)
def gOk : Guard → Store → Prop
  | none, _ => True
  | some (k, ds), S => S[k]? = some (.lst ds)
def seqOf : DV → Store → Option (Guard × List DV)
  | .tup ds, _ => some (none, ds)
  | .frl ds, _ => some (none, ds)
  | .scr ds, _ => some (none, ds)
  | .ref k, S => match S[k]? with | some (.lst ds) => some (some (k, ds), ds) | _ => none
  | _, _ => none
abbrev idx (n : Nat) (i : Int) : Option Nat := L2.ixN n i
def ixD : DV → DV → Store → Option DV
  | .tup ds, .int i, _ => (idx ds.length i).bind fun k => ds[k]?
  | .frl ds, .int i, _ => (idx ds.length i).bind fun k => ds[k]?
  | .scr ds, .int i, _ => (idx ds.length i).bind fun k => ds[k]?
  | .ref k, .int i, S => match S[k]? with | some (.lst ds) => (idx ds.length i).bind fun k => ds[k]? | _ => none
  | _, _, _ => none
def cutX {α : Type} (xs : List α) (lo hi : Option Int) : List α := (xs.drop (HT.sIx xs.length 0 lo)).take (HT.sIx xs.length xs.length hi - HT.sIx xs.length 0 lo)
def slD : DV → Option Int → Option Int → Store → Option DV
  | .frl ds, lo, hi, _ => some (.frl (cutX ds lo hi))
  | .scr ds, lo, hi, _ => some (.frl (cutX ds lo hi))
  | .ref k, lo, hi, S => (match S[k]? with | some (.lst ds) => some (.frl (cutX ds lo hi)) | _ => none)
  | .tup ds, lo, hi, _ => some (.tup (cutX ds lo hi))
  | _, _, _, _ => none
def rangeL (lo hi : Int) : List DV := (List.range (hi - lo).toNat).map fun (i : Nat) => .int (lo + i)
def rangeD (hi lo : Int) : List DV := (List.range (hi - lo).toNat).map fun (i : Nat) => .int (hi - i)
def small (i : Int) : Prop := -(2 ^ 31) ≤ i ∧ i ≤ 16777216
instance (i : Int) : Decidable (small i) := by unfold small; infer_instance
open Classical in
noncomputable def lcGo (step : DV → Store → Option (Option DV × Store)) (g : Guard) : List DV → Store → Option (List DV × Store)
  | [], S => if gOk g S then some ([], S) else none
  | d :: r, S => if gOk g S then (match step d S with
    | some (o, S1) => (match lcGo step g r S1 with
      | some (l, S2) => some ((match o with | some x => x :: l | none => l), S2)
      | none => none)
    | none => none) else none

/-! ### built-ins -/
def fieldOf (G : Gi) (c f : String) (ds : List DV) : Option DV := ((G.fld c).zip ds).lookup f
def fldD (G : Gi) (d : DV) (f : String) (S : Store) : Option DV := match d with
  | .obj c ds => fieldOf G c f ds
  | .ref k => (match S[k]? with | some (.ins c fs) => if f ∈ G.fld c then fs.lookup f else none | _ => none)
  | _ => none
def isD (c : String) : DV → Option Bool
  | .obj c' _ => some (c' == c)
  | .int _ => some false
  | .non => some false
  | .str _ => some false
  | .bl _ => some false
  | .tup _ => some false
  | .frl _ => some false
  | _ => none
def tyName : DV → Option String
  | .non => some "NoneType" | .bl _ => some "bool" | .int _ => some "int" | .str _ => some "str" | .tup _ => some "tuple" | .frl _ => some "list" | _ => none
def isT (T : String) (d : DV) : Option Bool := match d with
  | .obj _ _ => some false
  | d => (tyName d).map fun n => n == T || (n == "bool" && T == "int")
def lenD (O : Orc) : DV → Store → RE
  | .tup ds, S => some (.int ds.length, S)
  | .frl ds, S => some (.int ds.length, S)
  | .scr ds, S => some (.int ds.length, S)
  | .str x, S => if x.length ≤ 16777216 then some (.int x.length, S) else none
  | .ref k, S => (match S[k]? with | some (.lst ds) => some (.int ds.length, S) | _ => none)
  | .obj c ds, S => match O.call 1 (c, "__len__") [.obj c ds] S with
    | some (.int n, S1) => if 0 ≤ n ∧ n ≤ 16777216 then some (.int n, S1) else none
    | _ => none
  | _, _ => none

/-! ### expressions -/
def gcdD (a b : Int) : Int := (Int.gcd a b : Nat)
noncomputable def bltD (O : Orc) (f : Blt) (as : List DV) (S : Store) : RE := match f with
  | .len => (match as with | [d] => lenD O d S | _ => none)
  | .int => (match as with
    | [.int i] => some (.int i, S)
    | [.bl b] => some (.int (if b then 1 else 0), S)
    | _ => none)
  | .str => (match as with
    | [.int i] => if i.natAbs.log2 < 1920 then some (.str ((toString i).toList.map Char.toNat), S) else none
    | [.obj c ds] => (match O.call 2 (c, "__str__") [.obj c ds] S with | some (.str x, S1) => some (.str x, S1) | _ => none)
    | _ => none)
  | .abs => (match as with | [.int i] => some (.int (if i < 0 then -i else i), S) | _ => none)
  | .max2 => (match as with | [.int a, .int b] => some (.int (if b > a then b else a), S) | _ => none)
  | .min2 => (match as with | [.int a, .int b] => some (.int (if b < a then b else a), S) | _ => none)
  | .tuple => (match as with
    | [.frl ds] => some (.tup ds, S)
    | [.tup ds] => some (.tup ds, S)
    | [.ref k] => (match S[k]? with | some (.lst ds) => some (.tup ds, S) | _ => none)
    | _ => none)
  | .list => (match as with
    | [.frl ds] => some (.frl ds, S)
    | [.tup ds] => some (.frl ds, S)
    | [.ref k] => (match S[k]? with | some (.lst ds) => some (.frl ds, S) | _ => none)
    | _ => none)
  | .divmod => (match as with
    | [.int a, .int b] => if 0 < b ∧ divOk a b then some (.tup [.int (a / b), .int (a % b)], S) else none
    | _ => none)
  | .gcd => (match as with | [.int a, .int b] => some (.int (gcdD a b), S) | _ => none)
  | .lcm => (match as with
    | [.int a, .int b] => if a.natAbs.log2 < 13000 ∧ b.natAbs.log2 < 13000 then some (.int (Nat.lcm a.natAbs b.natAbs : Nat), S) else none
    | _ => none)
  | .isi c => (match as with | [d] => (isD c d).map fun b => (.bl b, S) | _ => none)
  | .ist T => (match as with | [d] => (isT T d).map fun b => (.bl b, S) | _ => none)
def strsOf : List DV → Option (List (List Nat))
  | [] => some []
  | .str x :: ds => (strsOf ds).map (x :: ·)
  | _ :: _ => none
def joinL (sep : List Nat) : List (List Nat) → List Nat
  | [] => []
  | [x] => x
  | x :: y :: r => x ++ sep ++ joinL sep (y :: r)
def zfillL (x : List Nat) (n : Nat) : List Nat := List.replicate (n - x.length) 48 ++ x
def cs (x : String) : List Nat := x.toList.map Char.toNat
def clen (as : List DV) : Bool := decide (as.length ≤ 16777216)
/-! a new instance: __init__ fills it, then it is frozen -/
open Classical in
noncomputable def makeD (O : Orc) (G : Gi) (c : String) (ds : List DV) (S : Store) : RE := match O.call 1 (c, "__init__") (.ref S.length :: ds) (S ++ [.ins c []]) with
  | some (.non, S') => (match S'[S.length]? with
    | some (.ins c' fs) => if c' = c ∧ fs.map (·.1) = G.fld c ∧ purL (fs.map (·.2)) = true ∧ S' = S ++ [.ins c' fs] then some (.obj c (fs.map (·.2)), S) else none
    | _ => none)
  | _ => none
section
variable (O : Orc) (G : Gi)
mutual
noncomputable def evE : E → Env → Store → RE
  | .var i, en, S => (match en[i]? with | some (some d) => some (d, S) | _ => none)
  | .cint i, _, S => some (.int i, S)
  | .cbl b, _, S => some (.bl b, S)
  | .cnon, _, S => some (.non, S)
  | .cstr x, _, S => some (.str (cs x), S)
  | .glob x, _, S => (match G.cst x with | some d => some (d, S) | none => none)
  | .bin op a b, en, S => (match evE a en S with
    | some (x, S1) => (match evE b en S1 with | some (y, S2) => binD O op x y S2 | none => none)
    | none => none)
  | .neg a, en, S => (match evE a en S with
    | some (.int i, S1) => some (.int (-i), S1)
    | some (.obj c ds, S1) => O.call 0 (c, "__neg__") [.obj c ds] S1
    | _ => none)
  | .cmp op a b, en, S => (match evE a en S with
    | some (x, S1) => (match evE b en S1 with
      | some (y, S2) => (match op, x, y with
        | .lt, .int i, .int j => some (.bl (decide (i < j)), S2)
        | .le, .int i, .int j => some (.bl (decide (i ≤ j)), S2)
        | .gt, .int i, .int j => some (.bl (decide (j < i)), S2)
        | .ge, .int i, .int j => some (.bl (decide (j ≤ i)), S2)
        | .eq, x, y => (match eqD O 0 x y S2 with | some r => some (.bl r, S2) | none => none)
        | .ne, x, y => (match eqD O 1 x y S2 with | some r => some (.bl !r, S2) | none => none)
        | _, _, _ => none)
      | none => none)
    | none => none)
  | .isN pos a, en, S => (match evE a en S with
    | some (.non, S1) => some (.bl pos, S1)
    | some (_, S1) => some (.bl !pos, S1)
    | none => none)
  | .and_ a b, en, S => (match evE a en S with
    | some (.bl true, S1) => evE b en S1
    | some (.bl false, S1) => some (.bl false, S1)
    | _ => none)
  | .or_ a b, en, S => (match evE a en S with
    | some (.bl true, S1) => some (.bl true, S1)
    | some (.bl false, S1) => evE b en S1
    | _ => none)
  | .not_ a, en, S => (match evE a en S with
    | some (.bl r, S1) => some (.bl !r, S1)
    | _ => none)
  | .ite c a b, en, S => (match evE c en S with
    | some (.bl true, S1) => evE a en S1
    | some (.bl false, S1) => evE b en S1
    | _ => none)
  | .call f as, en, S => (match evEs as en S with | some (ds, S1) => O.call 0 ("", f) ds S1 | none => none)
  | .mk c as, en, S => (match evEs as en S with | some (ds, S1) => makeD O G c ds S1 | none => none)
  | .mth o c m as, en, S => (match evE o en S with
    | some (.obj c' es, S1) => if c' = c then (match evEs as en S1 with | some (ds, S2) => O.call 0 (c, m) (.obj c' es :: ds) S2 | none => none) else none
    | some (.ref k, S1) => (match S1[k]? with
      | some (.ins c' fs) => if c' = c ∧ (fs.lookup m).isNone = true then (match evEs as en S1 with | some (ds, S2) => O.call 0 (c, m) (.ref k :: ds) S2 | none => none) else none
      | _ => none)
    | _ => none)
  | .prop o c m, en, S => (match evE o en S with
    | some (.obj c' es, S1) => if c' = c then O.call 1 (c, m) [.obj c' es] S1 else none
    | _ => none)
  | .app o c as, en, S => (match evE o en S with
    | some (.obj c' es, S1) => if c' = c then (match evEs as en S1 with | some (ds, S2) => O.call 0 (c, "__call__") (.obj c' es :: ds) S2 | none => none) else none
    | _ => none)
  | .fld o f, en, S => (match evE o en S with
    | some (d, S1) => (match fldD G d f S1 with | some v => some (v, S1) | none => none)
    | none => none)
  | .ix a i, en, S => (match evE a en S with
    | some (x, S1) => (match evE i en S1 with
      | some (y, S2) => (match ixD x y S2 with | some v => some (v, S2) | none => none)
      | none => none)
    | none => none)
  | .slTo a h, en, S => (match evE a en S with
    | some (x, S1) => (match evE h en S1 with
      | some (.int j, S2) => (match slD x none (some j) S2 with | some v => some (v, S2) | none => none)
      | _ => none)
    | none => none)
  | .slFrom a l, en, S => (match evE a en S with
    | some (x, S1) => (match evE l en S1 with
      | some (.int i, S2) => (match slD x (some i) none S2 with | some v => some (v, S2) | none => none)
      | _ => none)
    | none => none)
  | .sl a l h, en, S => (match evE a en S with
    | some (x, S1) => (match evE l en S1 with
      | some (.int i, S2) => (match evE h en S2 with
        | some (.int j, S3) => (match slD x (some i) (some j) S3 with | some v => some (v, S3) | none => none)
        | _ => none)
      | _ => none)
    | none => none)
  | .slRev a, en, S => (match evE a en S with
    | some (.frl ds, S1) => some (.frl ds.reverse, S1)
    | some (.ref k, S1) => (match S1[k]? with | some (.lst ds) => some (.frl ds.reverse, S1) | _ => none)
    | _ => none)
  | .tup as, en, S => (match evEs as en S with | some (ds, S1) => if clen ds then some (.tup ds, S1) else none | none => none)
  | .lst as, en, S => (match evEs as en S with | some (ds, S1) => if clen ds then some (.frl ds, S1) else none | none => none)
  | .lc t it el, en, S => (match evIt it en S with
    | some (g, ds, S1) => if clen ds = false then none else (match lcGo (fun d S' => match bindT t d en with
        | some en' => (match evE el en' S' with | some (x, S2) => some (some x, S2) | none => none)
        | none => none) g ds S1 with
      | some (l, S2) => some (.frl l, S2)
      | none => none)
    | none => none)
  | .lcIf t it c el, en, S => (match evIt it en S with
    | some (g, ds, S1) => if clen ds = false then none else (match lcGo (fun d S' => match bindT t d en with
        | some en' => (match evE c en' S' with
          | some (.bl true, S2) => (match evE el en' S2 with | some (x, S3) => some (some x, S3) | none => none)
          | some (.bl false, S2) => some (none, S2)
          | _ => none)
        | none => none) g ds S1 with
      | some (l, S2) => some (.frl l, S2)
      | none => none)
    | none => none)
  | .blt f as, en, S => (match evEs as en S with | some (ds, S1) => bltD O f ds S1 | none => none)
  | .frz i, en, S => (match en[i]? with
    | some (some (.ref k)) => (match S[k]? with
      | some (.lst ds) => some (.frl ds, S.set k .dead)
      | _ => none)
    | _ => none)
  | .pop0 i, en, S => (match en[i]? with
    | some (some (.ref k)) => (match S[k]? with
      | some (.lst (d :: ds)) => some (d, S.set k (.lst ds))
      | _ => none)
    | _ => none)
  | .join s e, en, S => (match evE e en S with
    | some (d, S1) => (match seqOf d S1 with
      | some (_, ds) => (match strsOf ds with
        | some xs => if (xs.map List.length).sum + xs.length * (cs s).length ≤ 16777216 then some (.str (joinL (cs s) xs), S1) else none
        | none => none)
      | none => none)
    | none => none)
  | .zfill e n, en, S => (match evE e en S with
    | some (.str x, S1) => (match evE n en S1 with
      | some (.int j, S2) => if 0 ≤ j ∧ j ≤ 1000 ∧ x.all (fun c => decide (48 ≤ c ∧ c ≤ 57)) = true then some (.str (zfillL x j.toNat), S2) else none
      | _ => none)
    | _ => none)
  | .fstr as, en, S => (match evEs as en S with
    | some (ds, S1) => (match strsOf ds with
      | some xs => if xs.flatten.length ≤ 16777216 then some (.str xs.flatten, S1) else none
      | none => none)
    | none => none)
  | .fmt e, en, S => (match evE e en S with | some (.str x, S1) => if x.length ≤ 16777216 then some (.str x, S1) else none | _ => none)
  | .isB b a, en, S => (match evE a en S with
    | some (.bl r, S1) => some (.bl (r == b), S1)
    | _ => none)
  | .cmth k c m as, en, S => (match evEs as en S with | some (ds, S1) => O.call 0 ("", k) (.cls c :: ds) S1 | none => none)
  | .mkv i as, en, S => (match en[i]? with
    | some (some (.cls c)) => (match evEs as en S with | some (ds, S1) => if c ≠ "" then makeD O G c ds S1 else none | none => none)
    | _ => none)
  | .lsto e, en, S => (match evE e en S with
    | some (.obj c ds, S1) => (match G.itf c with
      | some f => (match fieldOf G c f ds with
        | some (.tup ds') => if 3 ≤ O.lv ∧ ds'.length ≤ 16777216 then (match G.fn (c, "__len__") with
          | some _ => (match O.call 3 (c, "__len__") [.obj c ds] S1 with
            | some (.int k, S2) => if 0 ≤ k ∧ k ≤ 16777216 then some (.frl ds', S2) else none
            | _ => none)
          | none => some (.frl ds', S1)) else none
        | _ => none)
      | none => none)
    | _ => none)
noncomputable def evEs : Es → Env → Store → Option (List DV × Store)
  | .nil, _, S => some ([], S)
  | .cons e r, en, S => (match evE e en S with
    | some (d, S1) => (match evEs r en S1 with | some (ds, S2) => some (d :: ds, S2) | none => none)
    | none => none)
noncomputable def evIt : It → Env → Store → Option (Guard × List DV × Store)
  | .seq e, en, S => (match evE e en S with
    | some (d, S1) => (match seqOf d S1 with | some (g, ds) => some (g, ds, S1) | none => none)
    | none => none)
  | .range as, en, S => (match evEs as en S with
    | some ([.int j], S1) => if small j then some (none, rangeL 0 j, S1) else none
    | some ([.int i, .int j], S1) => if small i ∧ small j then some (none, rangeL i j, S1) else none
    | some ([.int i, .int j, .int (-1)], S1) => if small i ∧ small j then some (none, rangeD i j, S1) else none
    | _ => none)
  | .enum e, en, S => (match evE e en S with
    | some (d, S1) => (match seqOf d S1 with
      | some (none, ds) => some (none, ds.zipIdx.map (fun p => .tup [.int p.2, p.1]), S1)
      | _ => none)
    | none => none)
  | .zip a b, en, S => (match evE a en S with
    | some (d, S1) => (match evE b en S1 with
      | some (d', S2) => (match d, d' with
        | .frl ds, .frl ds' => some (none, (ds.zip ds').map (fun p => .tup [p.1, p.2]), S2)
        | .tup ds, .tup ds' => some (none, (ds.zip ds').map (fun p => .tup [p.1, p.2]), S2)
        | _, _ => none)
      | none => none)
    | none => none)
  | .rev e, en, S => (match evE e en S with
    | some (.frl ds, S1) => some (none, ds.reverse, S1)
    | some (.tup ds, S1) => some (none, ds.reverse, S1)
    | _ => none)
  | .own e, en, S => (match evE e en S with
    | some (.obj c ds, S1) => (match G.itf c with
      | some f => (match fieldOf G c f ds with
        | some (.tup ds') => if 1 ≤ O.lv then some (none, ds', S1) else none
        | _ => none)
      | none => none)
    | _ => none)
end

inductive Out where
  | nx (en : Env) (S : Store) | brk (en : Env) (S : Store) | ct (en : Env) (S : Store) | rt (d : DV) (S : Store)

def whileL (c : Env → Store → RE) (b : Env → Store → Option Out) (en : Env) (S : Store) : Option Out :=
  match c en S with
  | some (.bl false, S1) => some (.nx en S1)
  | some (.bl true, S1) => (match b en S1 with
    | some (.nx en' S') => whileL c b en' S'
    | some (.ct en' S') => whileL c b en' S'
    | some (.brk en' S') => some (.nx en' S')
    | some (.rt d S') => some (.rt d S')
    | none => none)
  | _ => none
partial_fixpoint

open Classical in
noncomputable def forL (t : Tg) (b : Env → Store → Option Out) (g : Guard) : List DV → Env → Store → Option Out
  | [], en, S => if gOk g S then some (.nx en S) else none
  | d :: r, en, S => if gOk g S then (match bindT t d en with
    | some en1 => (match b en1 S with
      | some (.nx en' S') => forL t b g r en' S'
      | some (.ct en' S') => forL t b g r en' S'
      | some (.brk en' S') => some (.nx en' S')
      | some (.rt d S') => some (.rt d S')
      | none => none)
    | none => none) else none

mutual
noncomputable def evS : S → Env → Store → Option Out
  | .asg i e, en, S => (match evE O G e en S with | some (d, S1) => some (.nx (en.set i (some d)) S1) | none => none)
  | .new i e, en, S => (match evE O G e en S with
    | some (.frl ds, S1) => some (.nx (en.set i (some (.ref S1.length))) (S1 ++ [.lst ds]))
    | _ => none)
  | .asgT is e, en, S => (match evE O G e en S with
    | some (d, S1) => (match bindT (.many is) d en with | some en' => some (.nx en' S1) | none => none)
    | none => none)
  | .par i j a b, en, S => (match evE O G a en S with
    | some (d, S1) => (match evE O G b en S1 with
      | some (d', S2) => some (.nx ((en.set i (some d)).set j (some d')) S2)
      | none => none)
    | none => none)
  | .sfld f e, en, S => (match evE O G e en S with
    | some (d, S1) => (match (en[0]? : Option (Option DV)) with
      | some (some (DV.ref k)) => (match S1[k]? with
        | some (.ins c fs) => if f ∈ G.fld c ∧ G.cls c = true ∧ (fs.lookup f).isNone = true ∧ fs.length < 900 then some (.nx en (S1.set k (.ins c (fs ++ [(f, d)])))) else none
        | _ => none)
      | _ => none)
    | none => none)
  | .item o i e, en, S => (match evE O G e en S with
    | some (d, S1) => (match evE O G o en S1 with
      | some (.ref k, S2) => (match evE O G i en S2 with
        | some (.int j, S3) => (match S3[k]? with
          | some (.lst ds) => (match idx ds.length j with | some n => some (.nx en (S3.set k (.lst (ds.set n d)))) | none => none)
          | _ => none)
        | _ => none)
      | _ => none)
    | none => none)
  | .aug i op e, en, S => (match (en[i]? : Option (Option DV)) with
    | some (some (DV.int a)) => (match evE O G e en S with
      | some (.int b, S1) => (match op with
        | .add => some (.nx (en.set i (some (.int (a + b)))) S1)
        | .sub => some (.nx (en.set i (some (.int (a - b)))) S1)
        | _ => none)
      | _ => none)
    | _ => none)
  | .ex e, en, S => (match evE O G e en S with | some (_, S1) => some (.nx en S1) | none => none)
  | .app i e, en, S => (match (en[i]? : Option (Option DV)) with
    | some (some (DV.ref k)) => (match S[k]? with
      | some (.lst _) => (match evE O G e en S with
        | some (d, S1) => (match S1[k]? with
          | some (.lst ds) => if ds.length < 16777216 then some (.nx en (S1.set k (.lst (ds ++ [d])))) else none
          | _ => none)
        | none => none)
      | _ => none)
    | _ => none)
  | .pop i, en, S => (match (en[i]? : Option (Option DV)) with
    | some (some (DV.ref k)) => (match S[k]? with
      | some (.lst ds) => if ds ≠ [] then some (.nx en (S.set k (.lst ds.dropLast))) else none
      | _ => none)
    | _ => none)
  | .if_ c a b, en, S => (match evE O G c en S with
    | some (.bl true, S1) => evB a en S1
    | some (.bl false, S1) => evB b en S1
    | _ => none)
  | .while_ c b, en, S => whileL (evE O G c) (evB b) en S
  | .for_ t it b, en, S => (match evIt O G it en S with
    | some (g, ds, S1) => forL t (evB b) g ds en S1
    | none => none)
  | .ret e, en, S => (match evE O G e en S with | some (d, S1) => some (.rt d S1) | none => none)
  | .retN, _, S => some (.rt .non S)
  | .cont, en, S => some (.ct en S)
  | .brk, en, S => some (.brk en S)
  | .pass, en, S => some (.nx en S)
  | .never, _, _ => none
noncomputable def evB : Ss → Env → Store → Option Out
  | .nil, en, S => some (.nx en S)
  | .cons s r, en, S => (match evS s en S with
    | some (.nx en' S') => evB r en' S'
    | x => x)
end

/-! ### functions -/
noncomputable def evFn (fn : Fn) (ds : List DV) (S : Store) : RE :=
  if ds.length = fn.np then
    (match evB O G fn.body (ds.map some ++ List.replicate (fn.nm.length - fn.np) none) S with
    | some (.rt d S') => some (gc S S' d)
    | some (.nx _ S') => some (gc S S' .non)
    | _ => none)
  else none
/-- the arguments with the defaults behind them -/
def fillD (fn : Fn) (ds : List DV) : List DV := ds ++ fn.dfl.drop (ds.length + fn.dfl.length - fn.np)
end
noncomputable def orc (G : Gi) : Nat → Orc
  | 0 => ⟨fun _ _ _ _ => none, 0⟩
  | n + 1 => ⟨fun d k ds S => match d with
    | 0 => (match G.fn k with | some fn => evFn (orc G n) G fn (fillD fn ds) S | none => none)
    | d + 1 => (orc G n).call d k ds S, n + 1⟩
theorem orc_lv {G : Gi} : ∀ n, (orc G n).lv = n
  | 0 => by rw [orc]
  | n + 1 => by rw [orc]
theorem orc_zero {G : Gi} {n : Nat} {k : Key} {ds : List DV} {S : Store} : (orc G (n + 1)).call 0 k ds S = (match G.fn k with | some fn => evFn (orc G n) G fn (fillD fn ds) S | none => none) := by rw [orc]
theorem orc_succ {G : Gi} {n d : Nat} {k : Key} {ds : List DV} {S : Store} : (orc G (n + 1)).call (d + 1) k ds S = (orc G n).call d k ds S := by rw [orc]
theorem orc_none {G : Gi} {d : Nat} {k : Key} {ds : List DV} {S : Store} : (orc G 0).call d k ds S = none := by rw [orc]
theorem orc_low {G : Gi} {k : Key} {ds : List DV} {S : Store} {r : DV × Store} : ∀ {d n : Nat}, (orc G n).call d k ds S = some r → ∃ j, n = j + d + 1 ∧ (orc G (j + 1)).call 0 k ds S = some r
  | d, 0, h => by rw [orc_none] at h; cases h
  | 0, n + 1, h => ⟨n, by omega, h⟩
  | d + 1, n + 1, h => by
    rw [orc_succ] at h
    obtain ⟨j, e, h2⟩ := orc_low h
    exact ⟨j, by omega, h2⟩
theorem orc_add {G : Gi} {k : Key} {ds : List DV} {S : Store} : ∀ {d n : Nat}, (orc G (n + d)).call d k ds S = (orc G n).call 0 k ds S
  | 0, n => rfl
  | d + 1, n => by rw [← Nat.add_assoc, orc_succ]; exact orc_add
end Iv
namespace Iv
open PySem L2
abbrev st (x : String) : Str := Str.ofString x
def freeNames : List String := ["len", "range", "int", "str", "abs", "max", "min", "tuple", "list", "divmod", "isinstance", "enumerate", "zip", "reversed", "iter"]
def tyNames : List String := ["NoneType", "bool", "int", "str", "tuple", "list"]
end Iv

set_option Elab.async false
set_option linter.all false
set_option maxRecDepth 100000
set_option maxHeartbeats 40000000
/-! K55A: the defs of law k55 in the small language (printed by ir.py). -/
namespace K55
open PySem Iv
def f_written_integer : Fn := ⟨["n", "pieces", "low"], 1, [],
 (.cons (.if_ (.cmp .lt (.var 0) (.cint 0))
 (.cons (.ret (.bin .add (.cstr "-") (.call "written_integer" (.cons (.neg (.var 0)) .nil))))
 .nil)
 .nil)
 (.cons (.new 1 (.lst .nil))
 (.cons (.while_ (.cmp .ge (.var 0) (.bin .pow (.cint 10) (.cint 50)))
 (.cons (.asgT [0, 2] (.blt .divmod (.cons (.var 0) (.cons (.bin .pow (.cint 10) (.cint 50)) .nil))))
 (.cons (.app 1 (.zfill (.blt .str (.cons (.var 2) .nil)) (.glob "PIECE")))
 .nil)))
 (.cons (.app 1 (.blt .str (.cons (.var 0) .nil)))
 (.cons (.ret (.join "" (.slRev (.var 1))))
 .nil)))))⟩
def Ratio___init__ : Fn := ⟨["self", "n", "d", "common"], 3, [.int 1],
 (.cons (.if_ (.cmp .eq (.var 2) (.cint 0))
 (.cons .never
 .nil)
 .nil)
 (.cons (.asg 3 (.ite (.cmp .gt (.var 2) (.cint 0)) (.blt .gcd (.cons (.var 1) (.cons (.var 2) .nil))) (.neg (.blt .gcd (.cons (.var 1) (.cons (.var 2) .nil))))))
 (.cons (.sfld "n" (.bin .fdiv (.var 1) (.var 3)))
 (.cons (.sfld "d" (.bin .fdiv (.var 2) (.var 3)))
 .nil))))⟩
def Ratio___add__ : Fn := ⟨["self", "other"], 2, [],
 (.cons (.ret (.mk "Ratio" (.cons (.bin .add (.bin .mul (.fld (.var 0) "n") (.fld (.var 1) "d")) (.bin .mul (.fld (.var 1) "n") (.fld (.var 0) "d"))) (.cons (.bin .mul (.fld (.var 0) "d") (.fld (.var 1) "d")) .nil))))
 .nil)⟩
def Ratio___sub__ : Fn := ⟨["self", "other"], 2, [],
 (.cons (.ret (.mk "Ratio" (.cons (.bin .sub (.bin .mul (.fld (.var 0) "n") (.fld (.var 1) "d")) (.bin .mul (.fld (.var 1) "n") (.fld (.var 0) "d"))) (.cons (.bin .mul (.fld (.var 0) "d") (.fld (.var 1) "d")) .nil))))
 .nil)⟩
def Ratio___mul__ : Fn := ⟨["self", "other"], 2, [],
 (.cons (.ret (.mk "Ratio" (.cons (.bin .mul (.fld (.var 0) "n") (.fld (.var 1) "n")) (.cons (.bin .mul (.fld (.var 0) "d") (.fld (.var 1) "d")) .nil))))
 .nil)⟩
def Ratio___neg__ : Fn := ⟨["self"], 1, [],
 (.cons (.ret (.mk "Ratio" (.cons (.neg (.fld (.var 0) "n")) (.cons (.fld (.var 0) "d") .nil))))
 .nil)⟩
def Ratio___eq__ : Fn := ⟨["self", "other"], 2, [],
 (.cons (.ret (.and_ (.blt (.isi "Ratio") (.cons (.var 1) .nil)) (.and_ (.cmp .eq (.fld (.var 0) "n") (.fld (.var 1) "n")) (.cmp .eq (.fld (.var 0) "d") (.fld (.var 1) "d")))))
 .nil)⟩
def Ratio___str__ : Fn := ⟨["self"], 1, [],
 (.cons (.if_ (.cmp .eq (.fld (.var 0) "d") (.cint 1))
 (.cons (.ret (.join "" (.lst (.cons (.call "written_integer" (.cons (.fld (.var 0) "n") .nil)) .nil))))
 .nil)
 .nil)
 (.cons (.ret (.join "/" (.lst (.cons (.call "written_integer" (.cons (.fld (.var 0) "n") .nil)) (.cons (.call "written_integer" (.cons (.fld (.var 0) "d") .nil)) .nil)))))
 .nil))⟩
def Ratio_inverse : Fn := ⟨["self"], 1, [],
 (.cons (.ret (.mk "Ratio" (.cons (.fld (.var 0) "d") (.cons (.fld (.var 0) "n") .nil))))
 .nil)⟩
def Ratio_over : Fn := ⟨["self", "other"], 2, [],
 (.cons (.ret (.mk "Ratio" (.cons (.bin .mul (.fld (.var 0) "n") (.fld (.var 1) "d")) (.cons (.bin .mul (.fld (.var 0) "d") (.fld (.var 1) "n")) .nil))))
 .nil)⟩
def Ratio_power : Fn := ⟨["self", "k", "_", "n", "d"], 2, [],
 (.cons (.if_ (.cmp .lt (.var 1) (.cint 0))
 (.cons (.ret (.mth (.mth (.var 0) "Ratio" "inverse" .nil) "Ratio" "power" (.cons (.neg (.var 1)) .nil)))
 .nil)
 .nil)
 (.cons (.asgT [3, 4] (.tup (.cons (.cint 1) (.cons (.cint 1) .nil))))
 (.cons (.for_ (.one 2) (.range (.cons (.var 1) .nil))
 (.cons (.asg 3 (.bin .mul (.var 3) (.fld (.var 0) "n")))
 (.cons (.asg 4 (.bin .mul (.var 4) (.fld (.var 0) "d")))
 .nil)))
 (.cons (.ret (.mk "Ratio" (.cons (.var 3) (.cons (.var 4) .nil))))
 .nil))))⟩
def Ratio_compare : Fn := ⟨["self", "other", "gap"], 2, [],
 (.cons (.asg 2 (.bin .sub (.bin .mul (.fld (.var 0) "n") (.fld (.var 1) "d")) (.bin .mul (.fld (.var 1) "n") (.fld (.var 0) "d"))))
 (.cons (.ret (.bin .sub (.blt .int (.cons (.cmp .gt (.var 2) (.cint 0)) .nil)) (.blt .int (.cons (.cmp .lt (.var 2) (.cint 0)) .nil))))
 .nil))⟩
def Ratio_floor : Fn := ⟨["self"], 1, [],
 (.cons (.ret (.bin .fdiv (.fld (.var 0) "n") (.fld (.var 0) "d")))
 .nil)⟩
def Ratio_is_zero : Fn := ⟨["self"], 1, [],
 (.cons (.ret (.cmp .eq (.fld (.var 0) "n") (.cint 0)))
 .nil)⟩
def f_zero : Fn := ⟨[], 0, [],
 (.cons (.ret (.mk "Ratio" (.cons (.cint 0) .nil)))
 .nil)⟩
def f_one : Fn := ⟨[], 0, [],
 (.cons (.ret (.mk "Ratio" (.cons (.cint 1) .nil)))
 .nil)⟩
def f__trimmed : Fn := ⟨["row", "size"], 1, [],
 (.cons (.asg 1 (.blt .len (.cons (.var 0) .nil)))
 (.cons (.while_ (.and_ (.cmp .gt (.var 1) (.cint 0)) (.cmp .eq (.fld (.ix (.var 0) (.bin .sub (.var 1) (.cint 1))) "n") (.cint 0)))
 (.cons (.asg 1 (.bin .sub (.var 1) (.cint 1)))
 .nil))
 (.cons (.ret (.blt .tuple (.cons (.slTo (.var 0) (.var 1)) .nil)))
 .nil)))⟩
def Poly___init__ : Fn := ⟨["self", "row", "c"], 2, [],
 (.cons (.sfld "row" (.call "_trimmed" (.cons (.lc (.one 2) (.seq (.var 1)) (.ite (.blt (.ist "int") (.cons (.var 2) .nil)) (.mk "Ratio" (.cons (.var 2) .nil)) (.var 2))) .nil)))
 .nil)⟩
def Poly___add__ : Fn := ⟨["self", "other", "out", "long", "short", "a", "b"], 2, [],
 (.cons (.par 3 4 (.fld (.var 0) "row") (.fld (.var 1) "row"))
 (.cons (.if_ (.cmp .lt (.blt .len (.cons (.var 3) .nil)) (.blt .len (.cons (.var 4) .nil)))
 (.cons (.par 3 4 (.var 4) (.var 3))
 .nil)
 .nil)
 (.cons (.asg 2 (.lc (.many [5, 6]) (.zip (.var 3) (.var 4)) (.bin .add (.var 5) (.var 6))))
 (.cons (.ret (.mk "Poly" (.cons (.bin .add (.var 2) (.blt .list (.cons (.slFrom (.var 3) (.blt .len (.cons (.var 4) .nil))) .nil))) .nil)))
 .nil))))⟩
def Poly___neg__ : Fn := ⟨["self", "c"], 1, [],
 (.cons (.ret (.mk "Poly" (.cons (.lc (.one 1) (.seq (.fld (.var 0) "row")) (.neg (.var 1))) .nil)))
 .nil)⟩
def Poly___sub__ : Fn := ⟨["self", "other"], 2, [],
 (.cons (.ret (.bin .add (.var 0) (.neg (.var 1))))
 .nil)⟩
def Poly___mul__ : Fn := ⟨["self", "other", "out", "at", "a", "_", "k", "b"], 2, [],
 (.cons (.new 2 (.lc (.one 5) (.range (.cons (.bin .add (.blt .len (.cons (.fld (.var 0) "row") .nil)) (.blt .len (.cons (.fld (.var 1) "row") .nil))) .nil)) (.mk "Ratio" (.cons (.cint 0) .nil))))
 (.cons (.for_ (.many [3, 4]) (.enum (.fld (.var 0) "row"))
 (.cons (.if_ (.cmp .eq (.fld (.var 4) "n") (.cint 0))
 (.cons .cont
 .nil)
 .nil)
 (.cons (.for_ (.many [6, 7]) (.enum (.fld (.var 1) "row"))
 (.cons (.if_ (.cmp .ne (.fld (.var 7) "n") (.cint 0))
 (.cons (.item (.var 2) (.bin .add (.var 3) (.var 6)) (.bin .add (.ix (.var 2) (.bin .add (.var 3) (.var 6))) (.bin .mul (.var 4) (.var 7))))
 .nil)
 .nil)
 .nil))
 .nil)))
 (.cons (.ret (.mk "Poly" (.cons (.frz 2) .nil)))
 .nil)))⟩
def Poly___eq__ : Fn := ⟨["self", "other"], 2, [],
 (.cons (.ret (.and_ (.blt (.isi "Poly") (.cons (.var 1) .nil)) (.cmp .eq (.fld (.var 0) "row") (.fld (.var 1) "row"))))
 .nil)⟩
def Poly___floordiv__ : Fn := ⟨["self", "other"], 2, [],
 (.cons (.ret (.ix (.mth (.var 0) "Poly" "divided" (.cons (.var 1) .nil)) (.cint 0)))
 .nil)⟩
def Poly___mod__ : Fn := ⟨["self", "other"], 2, [],
 (.cons (.ret (.ix (.mth (.var 0) "Poly" "divided" (.cons (.var 1) .nil)) (.cint 1)))
 .nil)⟩
def Poly___call__ : Fn := ⟨["self", "x", "out", "c"], 2, [],
 (.cons (.asg 2 (.mk "Ratio" (.cons (.cint 0) .nil)))
 (.cons (.for_ (.one 3) (.rev (.blt .list (.cons (.fld (.var 0) "row") .nil)))
 (.cons (.asg 2 (.bin .add (.bin .mul (.var 2) (.var 1)) (.var 3)))
 .nil))
 (.cons (.ret (.var 2))
 .nil)))⟩
def Poly_divided : Fn := ⟨["self", "other", "inverse", "rest", "size", "out", "k", "factor", "_", "at", "c"], 2, [],
 (.cons (.asg 2 (.mth (.mth (.var 1) "Poly" "last" .nil) "Ratio" "inverse" .nil))
 (.cons (.new 3 (.blt .list (.cons (.fld (.var 0) "row") .nil)))
 (.cons (.asg 4 (.blt .max2 (.cons (.cint 0) (.cons (.bin .add (.bin .sub (.blt .len (.cons (.fld (.var 0) "row") .nil)) (.blt .len (.cons (.fld (.var 1) "row") .nil))) (.cint 1)) .nil))))
 (.cons (.new 5 (.lc (.one 8) (.range (.cons (.var 4) .nil)) (.mk "Ratio" (.cons (.cint 0) .nil))))
 (.cons (.for_ (.one 6) (.range (.cons (.bin .sub (.var 4) (.cint 1)) (.cons (.neg (.cint 1)) (.cons (.neg (.cint 1)) .nil))))
 (.cons (.asg 7 (.bin .mul (.ix (.var 3) (.bin .sub (.bin .add (.var 6) (.blt .len (.cons (.fld (.var 1) "row") .nil))) (.cint 1))) (.var 2)))
 (.cons (.item (.var 5) (.var 6) (.var 7))
 (.cons (.if_ (.cmp .eq (.fld (.var 7) "n") (.cint 0))
 (.cons .cont
 .nil)
 .nil)
 (.cons (.for_ (.many [9, 10]) (.enum (.fld (.var 1) "row"))
 (.cons (.if_ (.cmp .ne (.fld (.var 10) "n") (.cint 0))
 (.cons (.item (.var 3) (.bin .add (.var 6) (.var 9)) (.bin .sub (.ix (.var 3) (.bin .add (.var 6) (.var 9))) (.bin .mul (.var 7) (.var 10))))
 .nil)
 .nil)
 .nil))
 .nil)))))
 (.cons (.ret (.tup (.cons (.mk "Poly" (.cons (.frz 5) .nil)) (.cons (.mk "Poly" (.cons (.frz 3) .nil)) .nil))))
 .nil))))))⟩
def Poly_degree : Fn := ⟨["self"], 1, [],
 (.cons (.ret (.bin .sub (.blt .len (.cons (.fld (.var 0) "row") .nil)) (.cint 1)))
 .nil)⟩
def Poly_is_zero : Fn := ⟨["self"], 1, [],
 (.cons (.ret (.cmp .eq (.blt .len (.cons (.fld (.var 0) "row") .nil)) (.cint 0)))
 .nil)⟩
def Poly_last : Fn := ⟨["self"], 1, [],
 (.cons (.if_ (.cmp .eq (.blt .len (.cons (.fld (.var 0) "row") .nil)) (.cint 0))
 (.cons .never
 .nil)
 .nil)
 (.cons (.ret (.ix (.fld (.var 0) "row") (.bin .sub (.blt .len (.cons (.fld (.var 0) "row") .nil)) (.cint 1))))
 .nil))⟩
def Poly_coefficient : Fn := ⟨["self", "k"], 2, [],
 (.cons (.if_ (.or_ (.cmp .lt (.var 1) (.cint 0)) (.cmp .ge (.var 1) (.blt .len (.cons (.fld (.var 0) "row") .nil))))
 (.cons (.ret (.mk "Ratio" (.cons (.cint 0) .nil)))
 .nil)
 .nil)
 (.cons (.ret (.ix (.fld (.var 0) "row") (.var 1)))
 .nil))⟩
def Poly_scaled : Fn := ⟨["self", "r", "c"], 2, [],
 (.cons (.ret (.mk "Poly" (.cons (.lc (.one 2) (.seq (.fld (.var 0) "row")) (.bin .mul (.var 1) (.var 2))) .nil)))
 .nil)⟩
def Poly_power : Fn := ⟨["self", "k", "out", "_"], 2, [],
 (.cons (.asg 2 (.mk "Poly" (.cons (.tup (.cons (.cint 1) .nil)) .nil)))
 (.cons (.for_ (.one 3) (.range (.cons (.var 1) .nil))
 (.cons (.asg 2 (.bin .mul (.var 2) (.var 0)))
 .nil))
 (.cons (.ret (.var 2))
 .nil)))⟩
def Poly_monic : Fn := ⟨["self"], 1, [],
 (.cons (.if_ (.cmp .eq (.blt .len (.cons (.fld (.var 0) "row") .nil)) (.cint 0))
 (.cons (.ret (.var 0))
 .nil)
 .nil)
 (.cons (.ret (.mth (.var 0) "Poly" "scaled" (.cons (.mth (.mth (.var 0) "Poly" "last" .nil) "Ratio" "inverse" .nil) .nil)))
 .nil))⟩
def Poly_derivative : Fn := ⟨["self", "k"], 1, [],
 (.cons (.ret (.mk "Poly" (.cons (.lc (.one 1) (.range (.cons (.cint 1) (.cons (.blt .len (.cons (.fld (.var 0) "row") .nil)) .nil))) (.bin .mul (.mk "Ratio" (.cons (.var 1) .nil)) (.ix (.fld (.var 0) "row") (.var 1)))) .nil)))
 .nil)⟩
def Poly_primitive : Fn := ⟨["self", "c", "numbers", "scale", "common"], 1, [],
 (.cons (.asgT [3, 4] (.tup (.cons (.cint 1) (.cons (.cint 0) .nil))))
 (.cons (.for_ (.one 1) (.seq (.fld (.var 0) "row"))
 (.cons (.asg 3 (.blt .lcm (.cons (.var 3) (.cons (.fld (.var 1) "d") .nil))))
 .nil))
 (.cons (.for_ (.one 1) (.seq (.fld (.var 0) "row"))
 (.cons (.asg 4 (.blt .gcd (.cons (.var 4) (.cons (.bin .mul (.fld (.var 1) "n") (.bin .fdiv (.var 3) (.fld (.var 1) "d"))) .nil))))
 .nil))
 (.cons (.if_ (.cmp .lt (.fld (.mth (.var 0) "Poly" "last" .nil) "n") (.cint 0))
 (.cons (.asg 4 (.neg (.var 4)))
 .nil)
 .nil)
 (.cons (.asg 2 (.blt .tuple (.cons (.lc (.one 1) (.seq (.fld (.var 0) "row")) (.bin .fdiv (.bin .mul (.fld (.var 1) "n") (.bin .fdiv (.var 3) (.fld (.var 1) "d"))) (.var 4))) .nil)))
 (.cons (.ret (.tup (.cons (.mk "Ratio" (.cons (.var 4) (.cons (.var 3) .nil))) (.cons (.var 2) .nil))))
 .nil))))))⟩
def f_constant : Fn := ⟨["r"], 1, [],
 (.cons (.ret (.mk "Poly" (.cons (.tup (.cons (.var 0) .nil)) .nil)))
 .nil)⟩
def f__primitive_row : Fn := ⟨["row", "size", "common", "n"], 1, [],
 (.cons (.asg 1 (.blt .len (.cons (.var 0) .nil)))
 (.cons (.while_ (.and_ (.cmp .gt (.var 1) (.cint 0)) (.cmp .eq (.ix (.var 0) (.bin .sub (.var 1) (.cint 1))) (.cint 0)))
 (.cons (.asg 1 (.bin .sub (.var 1) (.cint 1)))
 .nil))
 (.cons (.asg 2 (.cint 0))
 (.cons (.for_ (.one 3) (.seq (.slTo (.var 0) (.var 1)))
 (.cons (.asg 2 (.blt .gcd (.cons (.var 2) (.cons (.var 3) .nil))))
 .nil))
 (.cons (.if_ (.cmp .lt (.var 2) (.cint 2))
 (.cons (.ret (.slTo (.var 0) (.var 1)))
 .nil)
 .nil)
 (.cons (.ret (.lc (.one 3) (.seq (.slTo (.var 0) (.var 1))) (.bin .fdiv (.var 3) (.var 2))))
 .nil))))))⟩
def f__integer_rest : Fn := ⟨["first", "second", "rest", "head", "common", "times", "factor", "shift", "at", "n"], 2, [],
 (.cons (.new 2 (.blt .list (.cons (.var 0) .nil)))
 (.cons (.asg 3 (.ix (.var 1) (.bin .sub (.blt .len (.cons (.var 1) .nil)) (.cint 1))))
 (.cons (.while_ (.cmp .ge (.blt .len (.cons (.var 2) .nil)) (.blt .len (.cons (.var 1) .nil)))
 (.cons (.asg 4 (.blt .gcd (.cons (.var 3) (.cons (.ix (.var 2) (.bin .sub (.blt .len (.cons (.var 2) .nil)) (.cint 1))) .nil))))
 (.cons (.asg 5 (.bin .fdiv (.var 3) (.var 4)))
 (.cons (.asg 6 (.bin .fdiv (.ix (.var 2) (.bin .sub (.blt .len (.cons (.var 2) .nil)) (.cint 1))) (.var 4)))
 (.cons (.asg 7 (.bin .sub (.blt .len (.cons (.var 2) .nil)) (.blt .len (.cons (.var 1) .nil))))
 (.cons (.new 2 (.lc (.one 9) (.seq (.var 2)) (.bin .mul (.var 5) (.var 9))))
 (.cons (.for_ (.many [8, 9]) (.enum (.var 1))
 (.cons (.item (.var 2) (.bin .add (.var 7) (.var 8)) (.bin .sub (.ix (.var 2) (.bin .add (.var 7) (.var 8))) (.bin .mul (.var 6) (.var 9))))
 .nil))
 (.cons (.while_ (.and_ (.cmp .gt (.blt .len (.cons (.var 2) .nil)) (.cint 0)) (.cmp .eq (.ix (.var 2) (.bin .sub (.blt .len (.cons (.var 2) .nil)) (.cint 1))) (.cint 0)))
 (.cons (.pop 2)
 .nil))
 .nil))))))))
 (.cons (.ret (.call "_primitive_row" (.cons (.frz 2) .nil)))
 .nil))))⟩
def f_common_divisor : Fn := ⟨["p", "q", "head", "first", "second", "n"], 2, [],
 (.cons (.if_ (.or_ (.mth (.var 0) "Poly" "is_zero" .nil) (.mth (.var 1) "Poly" "is_zero" .nil))
 (.cons (.ret (.ite (.mth (.var 1) "Poly" "is_zero" .nil) (.mth (.var 0) "Poly" "monic" .nil) (.mth (.var 1) "Poly" "monic" .nil)))
 .nil)
 .nil)
 (.cons (.if_ (.or_ (.cmp .eq (.mth (.var 0) "Poly" "degree" .nil) (.cint 0)) (.cmp .eq (.mth (.var 1) "Poly" "degree" .nil) (.cint 0)))
 (.cons (.ret (.mk "Poly" (.cons (.tup (.cons (.cint 1) .nil)) .nil)))
 .nil)
 .nil)
 (.cons (.par 3 4 (.blt .list (.cons (.ix (.mth (.var 0) "Poly" "primitive" .nil) (.cint 1)) .nil)) (.blt .list (.cons (.ix (.mth (.var 1) "Poly" "primitive" .nil) (.cint 1)) .nil)))
 (.cons (.while_ (.cmp .gt (.blt .len (.cons (.var 4) .nil)) (.cint 0))
 (.cons (.par 3 4 (.var 4) (.call "_integer_rest" (.cons (.var 3) (.cons (.var 4) .nil))))
 .nil))
 (.cons (.asg 2 (.ix (.var 3) (.bin .sub (.blt .len (.cons (.var 3) .nil)) (.cint 1))))
 (.cons (.ret (.mk "Poly" (.cons (.lc (.one 5) (.seq (.var 3)) (.mk "Ratio" (.cons (.var 5) (.cons (.var 2) .nil)))) .nil)))
 .nil))))))⟩
def RatFun___init__ : Fn := ⟨["self", "num", "den", "common", "low", "scale"], 3, [],
 (.cons (.if_ (.mth (.var 2) "Poly" "is_zero" .nil)
 (.cons .never
 .nil)
 .nil)
 (.cons (.if_ (.mth (.var 1) "Poly" "is_zero" .nil)
 (.cons (.sfld "num" (.var 1))
 (.cons (.sfld "den" (.call "constant" (.cons (.call "one" .nil) .nil)))
 .nil))
 (.cons (.if_ (.cmp .eq (.mth (.var 2) "Poly" "degree" .nil) (.cint 0))
 (.cons (.sfld "num" (.mth (.var 1) "Poly" "scaled" (.cons (.mth (.mth (.var 2) "Poly" "last" .nil) "Ratio" "inverse" .nil) .nil)))
 (.cons (.sfld "den" (.call "constant" (.cons (.call "one" .nil) .nil)))
 .nil))
 (.cons (.asg 3 (.call "common_divisor" (.cons (.var 1) (.cons (.var 2) .nil))))
 (.cons (.asg 4 (.bin .fdiv (.var 2) (.var 3)))
 (.cons (.asg 5 (.mth (.mth (.var 4) "Poly" "last" .nil) "Ratio" "inverse" .nil))
 (.cons (.sfld "num" (.mth (.bin .fdiv (.var 1) (.var 3)) "Poly" "scaled" (.cons (.var 5) .nil)))
 (.cons (.sfld "den" (.mth (.var 4) "Poly" "scaled" (.cons (.var 5) .nil)))
 .nil))))))
 .nil))
 .nil))⟩
def RatFun___eq__ : Fn := ⟨["self", "other"], 2, [],
 (.cons (.ret (.and_ (.blt (.isi "RatFun") (.cons (.var 1) .nil)) (.and_ (.cmp .eq (.fld (.var 0) "num") (.fld (.var 1) "num")) (.cmp .eq (.fld (.var 0) "den") (.fld (.var 1) "den")))))
 .nil)⟩
def RatFun___add__ : Fn := ⟨["self", "other"], 2, [],
 (.cons (.if_ (.cmp .eq (.fld (.var 0) "den") (.fld (.var 1) "den"))
 (.cons (.ret (.mk "RatFun" (.cons (.bin .add (.fld (.var 0) "num") (.fld (.var 1) "num")) (.cons (.fld (.var 0) "den") .nil))))
 .nil)
 .nil)
 (.cons (.ret (.mk "RatFun" (.cons (.bin .add (.bin .mul (.fld (.var 0) "num") (.fld (.var 1) "den")) (.bin .mul (.fld (.var 1) "num") (.fld (.var 0) "den"))) (.cons (.bin .mul (.fld (.var 0) "den") (.fld (.var 1) "den")) .nil))))
 .nil))⟩
def RatFun___sub__ : Fn := ⟨["self", "other"], 2, [],
 (.cons (.if_ (.cmp .eq (.fld (.var 0) "den") (.fld (.var 1) "den"))
 (.cons (.ret (.mk "RatFun" (.cons (.bin .sub (.fld (.var 0) "num") (.fld (.var 1) "num")) (.cons (.fld (.var 0) "den") .nil))))
 .nil)
 .nil)
 (.cons (.ret (.mk "RatFun" (.cons (.bin .sub (.bin .mul (.fld (.var 0) "num") (.fld (.var 1) "den")) (.bin .mul (.fld (.var 1) "num") (.fld (.var 0) "den"))) (.cons (.bin .mul (.fld (.var 0) "den") (.fld (.var 1) "den")) .nil))))
 .nil))⟩
def RatFun___mul__ : Fn := ⟨["self", "other"], 2, [],
 (.cons (.ret (.mk "RatFun" (.cons (.bin .mul (.fld (.var 0) "num") (.fld (.var 1) "num")) (.cons (.bin .mul (.fld (.var 0) "den") (.fld (.var 1) "den")) .nil))))
 .nil)⟩
def RatFun___neg__ : Fn := ⟨["self"], 1, [],
 (.cons (.ret (.mk "RatFun" (.cons (.neg (.fld (.var 0) "num")) (.cons (.fld (.var 0) "den") .nil))))
 .nil)⟩
def RatFun___floordiv__ : Fn := ⟨["self", "other"], 2, [],
 (.cons (.if_ (.mth (.fld (.var 1) "num") "Poly" "is_zero" .nil)
 (.cons .never
 .nil)
 .nil)
 (.cons (.ret (.mk "RatFun" (.cons (.bin .mul (.fld (.var 0) "num") (.fld (.var 1) "den")) (.cons (.bin .mul (.fld (.var 0) "den") (.fld (.var 1) "num")) .nil))))
 .nil))⟩
def RatFun___call__ : Fn := ⟨["self", "q", "below"], 2, [],
 (.cons (.asg 2 (.app (.fld (.var 0) "den") "Poly" (.cons (.var 1) .nil)))
 (.cons (.if_ (.mth (.var 2) "Ratio" "is_zero" .nil)
 (.cons (.ret .cnon)
 .nil)
 .nil)
 (.cons (.ret (.mth (.app (.fld (.var 0) "num") "Poly" (.cons (.var 1) .nil)) "Ratio" "over" (.cons (.var 2) .nil)))
 .nil)))⟩
def RatFun_is_zero : Fn := ⟨["self"], 1, [],
 (.cons (.ret (.mth (.fld (.var 0) "num") "Poly" "is_zero" .nil))
 .nil)⟩
def RatFun_derivative : Fn := ⟨["self", "top"], 1, [],
 (.cons (.asg 1 (.bin .sub (.bin .mul (.mth (.fld (.var 0) "num") "Poly" "derivative" .nil) (.fld (.var 0) "den")) (.bin .mul (.fld (.var 0) "num") (.mth (.fld (.var 0) "den") "Poly" "derivative" .nil))))
 (.cons (.ret (.mk "RatFun" (.cons (.var 1) (.cons (.bin .mul (.fld (.var 0) "den") (.fld (.var 0) "den")) .nil))))
 .nil))⟩
def RatFun_log_derivative : Fn := ⟨["self"], 1, [],
 (.cons (.if_ (.mth (.fld (.var 0) "num") "Poly" "is_zero" .nil)
 (.cons .never
 .nil)
 .nil)
 (.cons (.ret (.bin .fdiv (.mth (.var 0) "RatFun" "derivative" .nil) (.var 0)))
 .nil))⟩
def RatFun_inverse : Fn := ⟨["self"], 1, [],
 (.cons (.if_ (.mth (.fld (.var 0) "num") "Poly" "is_zero" .nil)
 (.cons .never
 .nil)
 .nil)
 (.cons (.ret (.mk "RatFun" (.cons (.fld (.var 0) "den") (.cons (.fld (.var 0) "num") .nil))))
 .nil))⟩
def RatFun_power : Fn := ⟨["self", "k"], 2, [],
 (.cons (.if_ (.cmp .lt (.var 1) (.cint 0))
 (.cons (.ret (.mth (.mth (.var 0) "RatFun" "inverse" .nil) "RatFun" "power" (.cons (.neg (.var 1)) .nil)))
 .nil)
 .nil)
 (.cons (.ret (.mk "RatFun" (.cons (.mth (.fld (.var 0) "num") "Poly" "power" (.cons (.var 1) .nil)) (.cons (.mth (.fld (.var 0) "den") "Poly" "power" (.cons (.var 1) .nil)) .nil))))
 .nil))⟩
def RatFun_degree : Fn := ⟨["self"], 1, [],
 (.cons (.if_ (.mth (.fld (.var 0) "num") "Poly" "is_zero" .nil)
 (.cons .never
 .nil)
 .nil)
 (.cons (.ret (.bin .sub (.mth (.fld (.var 0) "num") "Poly" "degree" .nil) (.mth (.fld (.var 0) "den") "Poly" "degree" .nil)))
 .nil))⟩
def f_of_poly : Fn := ⟨["p"], 1, [],
 (.cons (.ret (.mk "RatFun" (.cons (.var 0) (.cons (.call "constant" (.cons (.call "one" .nil) .nil)) .nil))))
 .nil)⟩
def f_of_ratio : Fn := ⟨["q"], 1, [],
 (.cons (.ret (.call "of_poly" (.cons (.call "constant" (.cons (.var 0) .nil)) .nil)))
 .nil)⟩
def f_added : Fn := ⟨["items", "total", "item"], 1, [],
 (.cons (.asg 1 (.call "of_ratio" (.cons (.call "zero" .nil) .nil)))
 (.cons (.for_ (.one 2) (.seq (.var 0))
 (.cons (.asg 1 (.bin .add (.var 1) (.var 2)))
 .nil))
 (.cons (.ret (.var 1))
 .nil)))⟩
def f_multiplied : Fn := ⟨["items", "total", "item"], 1, [],
 (.cons (.asg 1 (.call "of_ratio" (.cons (.call "one" .nil) .nil)))
 (.cons (.for_ (.one 2) (.seq (.var 0))
 (.cons (.asg 1 (.bin .mul (.var 1) (.var 2)))
 .nil))
 (.cons (.ret (.var 1))
 .nil)))⟩
def f_part_of : Fn := ⟨["e"], 1, [],
 (.cons (.ret (.bin .sub (.var 0) (.mk "Ratio" (.cons (.mth (.var 0) "Ratio" "floor" .nil) .nil))))
 .nil)⟩
def f_in_order : Fn := ⟨["numbers", "found", "number", "at"], 1, [],
 (.cons (.asg 1 (.lst .nil))
 (.cons (.for_ (.one 2) (.seq (.var 0))
 (.cons (.asg 3 (.cint 0))
 (.cons (.while_ (.and_ (.cmp .lt (.var 3) (.blt .len (.cons (.var 1) .nil))) (.cmp .lt (.mth (.ix (.var 1) (.var 3)) "Ratio" "compare" (.cons (.var 2) .nil)) (.cint 0)))
 (.cons (.aug 3 .add (.cint 1))
 .nil))
 (.cons (.if_ (.or_ (.cmp .eq (.var 3) (.blt .len (.cons (.var 1) .nil))) (.cmp .ne (.ix (.var 1) (.var 3)) (.var 2)))
 (.cons (.asg 1 (.bin .add (.bin .add (.slTo (.var 1) (.var 3)) (.lst (.cons (.var 2) .nil))) (.slFrom (.var 1) (.var 3))))
 .nil)
 .nil)
 .nil))))
 (.cons (.ret (.var 1))
 .nil)))⟩
def f_line : Fn := ⟨["s"], 1, [],
 (.cons (.ret (.mk "Poly" (.cons (.tup (.cons (.neg (.var 0)) (.cons (.mk "Ratio" (.cons (.cint 1) .nil)) .nil))) .nil)))
 .nil)⟩
def PowerProduct___init__ : Fn := ⟨["self", "factors", "points", "kept", "point", "total", "s", "e", "_"], 2, [],
 (.cons (.asg 2 (.call "in_order" (.cons (.lc (.many [6, 8]) (.seq (.var 1)) (.var 6)) .nil)))
 (.cons (.new 3 (.lst .nil))
 (.cons (.for_ (.one 4) (.seq (.var 2))
 (.cons (.asg 5 (.mk "Ratio" (.cons (.cint 0) .nil)))
 (.cons (.for_ (.many [6, 7]) (.seq (.var 1))
 (.cons (.if_ (.cmp .eq (.var 6) (.var 4))
 (.cons (.asg 5 (.bin .add (.var 5) (.var 7)))
 .nil)
 .nil)
 .nil))
 (.cons (.if_ (.not_ (.mth (.call "part_of" (.cons (.var 5) .nil)) "Ratio" "is_zero" .nil))
 (.cons (.app 3 (.tup (.cons (.var 4) (.cons (.call "part_of" (.cons (.var 5) .nil)) .nil))))
 .nil)
 .nil)
 .nil))))
 (.cons (.sfld "pairs" (.blt .tuple (.cons (.var 3) .nil)))
 .nil))))⟩
def PowerProduct_without_factors : Fn := ⟨["cls"], 1, [],
 (.cons (.ret (.mkv 0 (.cons (.tup .nil) .nil)))
 .nil)⟩
def PowerProduct___len__ : Fn := ⟨["self"], 1, [],
 (.cons (.ret (.blt .len (.cons (.fld (.var 0) "pairs") .nil)))
 .nil)⟩
def PowerProduct___eq__ : Fn := ⟨["self", "other"], 2, [],
 (.cons (.ret (.and_ (.blt (.isi "PowerProduct") (.cons (.var 1) .nil)) (.cmp .eq (.fld (.var 0) "pairs") (.fld (.var 1) "pairs"))))
 .nil)⟩
def PowerProduct___mul__ : Fn := ⟨["self", "other"], 2, [],
 (.cons (.ret (.mk "PowerProduct" (.cons (.bin .add (.fld (.var 0) "pairs") (.fld (.var 1) "pairs")) .nil)))
 .nil)⟩
def PowerProduct_exponent : Fn := ⟨["self", "s", "point", "e"], 2, [],
 (.cons (.for_ (.many [2, 3]) (.seq (.fld (.var 0) "pairs"))
 (.cons (.if_ (.cmp .eq (.var 2) (.var 1))
 (.cons (.ret (.var 3))
 .nil)
 .nil)
 .nil))
 (.cons (.ret (.mk "Ratio" (.cons (.cint 0) .nil)))
 .nil))⟩
def PowerProduct_surplus : Fn := ⟨["self", "other", "found", "s", "e"], 2, [],
 (.cons (.new 2 (.lst .nil))
 (.cons (.for_ (.many [3, 4]) (.seq (.fld (.var 0) "pairs"))
 (.cons (.if_ (.cmp .gt (.mth (.bin .add (.var 4) (.mth (.var 1) "PowerProduct" "exponent" (.cons (.var 3) .nil))) "Ratio" "floor" .nil) (.cint 0))
 (.cons (.app 2 (.call "of_poly" (.cons (.call "line" (.cons (.var 3) .nil)) .nil)))
 .nil)
 .nil)
 .nil))
 (.cons (.ret (.call "multiplied" (.cons (.frz 2) .nil)))
 .nil)))⟩
def PowerProduct_log_derivative : Fn := ⟨["self", "s", "e"], 1, [],
 (.cons (.ret (.call "added" (.cons (.lc (.many [1, 2]) (.seq (.fld (.var 0) "pairs")) (.mk "RatFun" (.cons (.call "constant" (.cons (.var 2) .nil)) (.cons (.call "line" (.cons (.var 1) .nil)) .nil)))) .nil)))
 .nil)⟩
def PowerProduct___str__ : Fn := ⟨["self", "pieces", "s", "e", "base"], 1, [],
 (.cons (.new 1 (.lst .nil))
 (.cons (.for_ (.many [2, 3]) (.seq (.fld (.var 0) "pairs"))
 (.cons (.asg 4 (.cstr "x"))
 (.cons (.if_ (.cmp .gt (.fld (.var 2) "n") (.cint 0))
 (.cons (.asg 4 (.fstr (.cons (.cstr "(x - ") (.cons (.fmt (.blt .str (.cons (.var 2) .nil))) (.cons (.cstr ")") .nil)))))
 .nil)
 .nil)
 (.cons (.if_ (.cmp .lt (.fld (.var 2) "n") (.cint 0))
 (.cons (.asg 4 (.fstr (.cons (.cstr "(x + ") (.cons (.fmt (.blt .str (.cons (.neg (.var 2)) .nil))) (.cons (.cstr ")") .nil)))))
 .nil)
 .nil)
 (.cons (.app 1 (.fstr (.cons (.fmt (.var 4)) (.cons (.cstr "^(") (.cons (.fmt (.blt .str (.cons (.var 3) .nil))) (.cons (.cstr ")") .nil))))))
 .nil)))))
 (.cons (.if_ (.cmp .eq (.blt .len (.cons (.var 1) .nil)) (.cint 0))
 (.cons (.ret (.cstr "1"))
 .nil)
 .nil)
 (.cons (.ret (.join "*" (.var 1)))
 .nil))))⟩
def f__law_numbers : Fn := ⟨["_law_script", "_law_found", "_law_k", "_law_cell", "_law_turn", "_law_i", "_law_mixed"], 1, [],
 (.cons (.new 1 (.lst .nil))
 (.cons (.for_ (.one 2) (.range (.cons (.blt .min2 (.cons (.blt .len (.cons (.var 0) .nil)) (.cons (.cint 63) .nil))) .nil))
 (.cons (.asg 3 (.blt .abs (.cons (.ix (.var 0) (.var 2)) .nil)))
 (.cons (.if_ (.cmp .ge (.var 3) (.bin .pow (.cint 10) (.cint 18)))
 (.cons (.for_ (.one 4) (.range (.cons (.cint 60) .nil))
 (.cons (.if_ (.cmp .gt (.var 3) (.cint 0))
 (.cons (.app 1 (.bin .mod (.var 3) (.cint 1009)))
 (.cons (.asg 3 (.bin .fdiv (.var 3) (.cint 1009)))
 .nil))
 .nil)
 .nil))
 .nil)
 (.cons (.for_ (.one 5) (.range (.cons (.cint 5) .nil))
 (.cons (.asg 3 (.bin .mod (.bin .add (.bin .add (.bin .mul (.var 3) (.cint 48271)) (.bin .mul (.cint 69621) (.bin .add (.var 5) (.var 2)))) (.cint 11)) (.cint 2147483647)))
 (.cons (.asg 6 (.bin .mod (.bin .add (.bin .mul (.var 3) (.cint 16807)) (.bin .fdiv (.var 3) (.cint 65536))) (.cint 2147483629)))
 (.cons (.app 1 (.bin .mod (.var 6) (.cint 1009)))
 .nil))))
 .nil))
 .nil)))
 (.cons (.ret (.var 1))
 .nil)))⟩
def f__law_next : Fn := ⟨["_law_numbers_here", "_law_many"], 2, [],
 (.cons (.if_ (.cmp .eq (.blt .len (.cons (.var 0) .nil)) (.cint 0))
 (.cons (.ret (.cint 0))
 .nil)
 .nil)
 (.cons (.ret (.bin .mod (.pop0 0) (.var 1)))
 .nil))⟩
def f__law_pairs : Fn := ⟨["_law_numbers_here", "_law_found", "_law_turn", "_law_s"], 1, [],
 (.cons (.new 1 (.lst .nil))
 (.cons (.for_ (.one 2) (.range (.cons (.call "_law_next" (.cons (.var 0) (.cons (.cint 5) .nil))) .nil))
 (.cons (.asg 3 (.bin .sub (.call "_law_next" (.cons (.var 0) (.cons (.cint 6) .nil))) (.cint 2)))
 (.cons (.app 1 (.tup (.cons (.var 3) (.cons (.tup (.cons (.bin .sub (.call "_law_next" (.cons (.var 0) (.cons (.cint 7) .nil))) (.cint 3)) (.cons (.bin .add (.cint 1) (.call "_law_next" (.cons (.var 0) (.cons (.cint 3) .nil)))) .nil))) .nil))))
 .nil)))
 (.cons (.ret (.frz 1))
 .nil)))⟩
def f__law_given : Fn := ⟨["_law_pairs_here", "_law_s", "_law_e"], 1, [],
 (.cons (.ret (.blt .tuple (.cons (.lc (.many [1, 2]) (.seq (.var 0)) (.tup (.cons (.mk "Ratio" (.cons (.var 1) .nil)) (.cons (.mk "Ratio" (.cons (.ix (.var 2) (.cint 0)) (.cons (.ix (.var 2) (.cint 1)) .nil))) .nil)))) .nil)))
 .nil)⟩
def f__law_sixths : Fn := ⟨["_law_pairs_here", "_law_s", "_law_total", "_law_point", "_law_e"], 2, [],
 (.cons (.asg 2 (.cint 0))
 (.cons (.for_ (.many [3, 4]) (.seq (.var 0))
 (.cons (.if_ (.cmp .eq (.var 3) (.var 1))
 (.cons (.asg 2 (.bin .add (.var 2) (.bin .mul (.ix (.var 4) (.cint 0)) (.bin .fdiv (.cint 6) (.ix (.var 4) (.cint 1))))))
 .nil)
 .nil)
 .nil))
 (.cons (.ret (.var 2))
 .nil)))⟩
def f__law_due : Fn := ⟨["_law_pairs_here", "_law_found", "_law_s", "_law_rest"], 1, [],
 (.cons (.new 1 (.lst .nil))
 (.cons (.for_ (.one 2) (.range (.cons (.neg (.cint 2)) (.cons (.cint 4) .nil)))
 (.cons (.asg 3 (.bin .mod (.blt .int (.cons (.call "_law_sixths" (.cons (.var 0) (.cons (.var 2) .nil))) .nil)) (.cint 6)))
 (.cons (.if_ (.cmp .ne (.var 3) (.cint 0))
 (.cons (.app 1 (.tup (.cons (.mk "Ratio" (.cons (.var 2) .nil)) (.cons (.mk "Ratio" (.cons (.var 3) (.cons (.cint 6) .nil))) .nil))))
 .nil)
 .nil)
 .nil)))
 (.cons (.ret (.frz 1))
 .nil)))⟩
def f__law_text : Fn := ⟨["_law_pairs_here", "_law_pieces", "_law_s", "_law_e", "_law_base"], 1, [],
 (.cons (.new 1 (.lst .nil))
 (.cons (.for_ (.many [2, 3]) (.seq (.call "_law_due" (.cons (.var 0) .nil)))
 (.cons (.asg 4 (.cstr "x"))
 (.cons (.if_ (.cmp .gt (.fld (.var 2) "n") (.cint 0))
 (.cons (.asg 4 (.bin .add (.bin .add (.cstr "(x - ") (.blt .str (.cons (.fld (.var 2) "n") .nil))) (.cstr ")")))
 .nil)
 .nil)
 (.cons (.if_ (.cmp .lt (.fld (.var 2) "n") (.cint 0))
 (.cons (.asg 4 (.bin .add (.bin .add (.cstr "(x + ") (.blt .str (.cons (.neg (.fld (.var 2) "n")) .nil))) (.cstr ")")))
 .nil)
 .nil)
 (.cons (.app 1 (.bin .add (.bin .add (.bin .add (.bin .add (.bin .add (.var 4) (.cstr "^(")) (.blt .str (.cons (.fld (.var 3) "n") .nil))) (.cstr "/")) (.blt .str (.cons (.fld (.var 3) "d") .nil))) (.cstr ")")))
 .nil)))))
 (.cons (.if_ (.cmp .eq (.blt .len (.cons (.var 1) .nil)) (.cint 0))
 (.cons (.ret (.cstr "1"))
 .nil)
 .nil)
 (.cons (.ret (.join "*" (.var 1)))
 .nil))))⟩
def f_law : Fn := ⟨["_law_script", "_law_numbers_here", "_law_one", "_law_two", "_law_a", "_law_b", "_law_at", "_law_due_here", "_law_s", "_law_slope", "_law_plain", "_law_e"], 1, [],
 (.cons (.asg 1 (.call "_law_numbers" (.cons (.var 0) .nil)))
 (.cons (.asg 2 (.call "_law_pairs" (.cons (.var 1) .nil)))
 (.cons (.asg 3 (.call "_law_pairs" (.cons (.var 1) .nil)))
 (.cons (.asg 4 (.mk "PowerProduct" (.cons (.call "_law_given" (.cons (.var 2) .nil)) .nil)))
 (.cons (.asg 5 (.mk "PowerProduct" (.cons (.blt .list (.cons (.call "_law_given" (.cons (.var 3) .nil)) .nil)) .nil)))
 (.cons (.if_ (.or_ (.cmp .ne (.lsto (.var 4)) (.call "_law_due" (.cons (.var 2) .nil))) (.or_ (.cmp .ne (.blt .len (.cons (.var 4) .nil)) (.blt .len (.cons (.call "_law_due" (.cons (.var 2) .nil)) .nil))) (.cmp .ne (.blt .str (.cons (.var 4) .nil)) (.call "_law_text" (.cons (.var 2) .nil)))))
 (.cons (.ret (.cbl false))
 .nil)
 .nil)
 (.cons (.if_ (.or_ (.cmp .ne (.var 4) (.mk "PowerProduct" (.cons (.call "_law_given" (.cons (.slRev (.var 2)) .nil)) .nil))) (.cmp .ne (.cmp .eq (.var 4) (.var 5)) (.cmp .eq (.call "_law_due" (.cons (.var 2) .nil)) (.call "_law_due" (.cons (.var 3) .nil)))))
 (.cons (.ret (.cbl false))
 .nil)
 .nil)
 (.cons (.if_ (.or_ (.cmp .ne (.bin .mul (.var 4) (.var 5)) (.mk "PowerProduct" (.cons (.call "_law_given" (.cons (.bin .add (.var 2) (.var 3)) .nil)) .nil))) (.cmp .ne (.bin .mul (.var 5) (.var 4)) (.bin .mul (.var 4) (.var 5))))
 (.cons (.ret (.cbl false))
 .nil)
 .nil)
 (.cons (.asg 6 (.mk "Ratio" (.cons (.bin .add (.cint 7) (.call "_law_next" (.cons (.var 1) (.cons (.cint 5) .nil)))) .nil)))
 (.cons (.asg 7 (.mk "Ratio" (.cons (.cint 1) .nil)))
 (.cons (.for_ (.one 8) (.range (.cons (.neg (.cint 2)) (.cons (.cint 4) .nil)))
 (.cons (.if_ (.cmp .ge (.bin .add (.bin .mod (.blt .int (.cons (.call "_law_sixths" (.cons (.var 2) (.cons (.var 8) .nil))) .nil)) (.cint 6)) (.bin .mod (.blt .int (.cons (.call "_law_sixths" (.cons (.var 3) (.cons (.var 8) .nil))) .nil)) (.cint 6))) (.cint 6))
 (.cons (.asg 7 (.bin .mul (.var 7) (.bin .sub (.var 6) (.mk "Ratio" (.cons (.var 8) .nil)))))
 .nil)
 .nil)
 .nil))
 (.cons (.if_ (.cmp .ne (.app (.mth (.var 4) "PowerProduct" "surplus" (.cons (.var 5) .nil)) "RatFun" (.cons (.var 6) .nil)) (.var 7))
 (.cons (.ret (.cbl false))
 .nil)
 .nil)
 (.cons (.asg 9 (.mk "Ratio" (.cons (.cint 0) .nil)))
 (.cons (.for_ (.many [8, 11]) (.seq (.call "_law_due" (.cons (.var 2) .nil)))
 (.cons (.asg 9 (.bin .add (.var 9) (.mth (.var 11) "Ratio" "over" (.cons (.bin .sub (.var 6) (.var 8)) .nil))))
 .nil))
 (.cons (.if_ (.or_ (.cmp .ne (.app (.mth (.var 4) "PowerProduct" "log_derivative" .nil) "RatFun" (.cons (.var 6) .nil)) (.var 9)) (.isN true (.app (.mth (.var 4) "PowerProduct" "log_derivative" .nil) "RatFun" (.cons (.var 6) .nil))))
 (.cons (.ret (.cbl false))
 .nil)
 .nil)
 (.cons (.asg 10 (.cmth "PowerProduct.without_factors" "PowerProduct" "without_factors" .nil))
 (.cons (.ret (.and_ (.cmp .eq (.blt .len (.cons (.var 10) .nil)) (.cint 0)) (.and_ (.cmp .eq (.blt .str (.cons (.var 10) .nil)) (.cstr "1")) (.and_ (.cmp .eq (.bin .mul (.var 4) (.var 10)) (.var 4)) (.isB false (.cmp .eq (.var 4) (.cint 1)))))))
 .nil)))))))))))))))))⟩
def tab : List (Key × Fn × Nat × Option Nat) := [
 (("", "written_integer"), f_written_integer, 8, none),
 (("Ratio", "__init__"), Ratio___init__, 9, some 0),
 (("Ratio", "__add__"), Ratio___add__, 9, some 1),
 (("Ratio", "__sub__"), Ratio___sub__, 9, some 2),
 (("Ratio", "__mul__"), Ratio___mul__, 9, some 3),
 (("Ratio", "__neg__"), Ratio___neg__, 9, some 4),
 (("Ratio", "__eq__"), Ratio___eq__, 9, some 5),
 (("Ratio", "__str__"), Ratio___str__, 9, some 6),
 (("Ratio", "inverse"), Ratio_inverse, 9, some 7),
 (("Ratio", "over"), Ratio_over, 9, some 8),
 (("Ratio", "power"), Ratio_power, 9, some 9),
 (("Ratio", "compare"), Ratio_compare, 9, some 10),
 (("Ratio", "floor"), Ratio_floor, 9, some 12),
 (("Ratio", "is_zero"), Ratio_is_zero, 9, some 13),
 (("", "zero"), f_zero, 10, none),
 (("", "one"), f_one, 11, none),
 (("", "_trimmed"), f__trimmed, 13, none),
 (("Poly", "__init__"), Poly___init__, 14, some 0),
 (("Poly", "__add__"), Poly___add__, 14, some 1),
 (("Poly", "__neg__"), Poly___neg__, 14, some 2),
 (("Poly", "__sub__"), Poly___sub__, 14, some 3),
 (("Poly", "__mul__"), Poly___mul__, 14, some 4),
 (("Poly", "__eq__"), Poly___eq__, 14, some 5),
 (("Poly", "__floordiv__"), Poly___floordiv__, 14, some 6),
 (("Poly", "__mod__"), Poly___mod__, 14, some 7),
 (("Poly", "__call__"), Poly___call__, 14, some 8),
 (("Poly", "divided"), Poly_divided, 14, some 10),
 (("Poly", "degree"), Poly_degree, 14, some 11),
 (("Poly", "is_zero"), Poly_is_zero, 14, some 12),
 (("Poly", "last"), Poly_last, 14, some 13),
 (("Poly", "coefficient"), Poly_coefficient, 14, some 14),
 (("Poly", "scaled"), Poly_scaled, 14, some 16),
 (("Poly", "power"), Poly_power, 14, some 17),
 (("Poly", "monic"), Poly_monic, 14, some 18),
 (("Poly", "derivative"), Poly_derivative, 14, some 19),
 (("Poly", "primitive"), Poly_primitive, 14, some 23),
 (("", "constant"), f_constant, 15, none),
 (("", "_primitive_row"), f__primitive_row, 17, none),
 (("", "_integer_rest"), f__integer_rest, 18, none),
 (("", "common_divisor"), f_common_divisor, 19, none),
 (("RatFun", "__init__"), RatFun___init__, 21, some 0),
 (("RatFun", "__eq__"), RatFun___eq__, 21, some 1),
 (("RatFun", "__add__"), RatFun___add__, 21, some 2),
 (("RatFun", "__sub__"), RatFun___sub__, 21, some 3),
 (("RatFun", "__mul__"), RatFun___mul__, 21, some 4),
 (("RatFun", "__neg__"), RatFun___neg__, 21, some 5),
 (("RatFun", "__floordiv__"), RatFun___floordiv__, 21, some 6),
 (("RatFun", "__call__"), RatFun___call__, 21, some 7),
 (("RatFun", "is_zero"), RatFun_is_zero, 21, some 8),
 (("RatFun", "derivative"), RatFun_derivative, 21, some 11),
 (("RatFun", "log_derivative"), RatFun_log_derivative, 21, some 12),
 (("RatFun", "inverse"), RatFun_inverse, 21, some 13),
 (("RatFun", "power"), RatFun_power, 21, some 14),
 (("RatFun", "degree"), RatFun_degree, 21, some 16),
 (("", "of_poly"), f_of_poly, 22, none),
 (("", "of_ratio"), f_of_ratio, 23, none),
 (("", "added"), f_added, 24, none),
 (("", "multiplied"), f_multiplied, 25, none),
 (("", "part_of"), f_part_of, 27, none),
 (("", "in_order"), f_in_order, 28, none),
 (("", "line"), f_line, 29, none),
 (("PowerProduct", "__init__"), PowerProduct___init__, 30, some 0),
 (("PowerProduct", "__len__"), PowerProduct___len__, 30, some 3),
 (("PowerProduct", "__eq__"), PowerProduct___eq__, 30, some 4),
 (("PowerProduct", "__mul__"), PowerProduct___mul__, 30, some 5),
 (("PowerProduct", "exponent"), PowerProduct_exponent, 30, some 6),
 (("PowerProduct", "surplus"), PowerProduct_surplus, 30, some 7),
 (("PowerProduct", "log_derivative"), PowerProduct_log_derivative, 30, some 8),
 (("PowerProduct", "__str__"), PowerProduct___str__, 30, some 9),
 (("", "_law_numbers"), f__law_numbers, 32, none),
 (("", "_law_next"), f__law_next, 33, none),
 (("", "_law_pairs"), f__law_pairs, 34, none),
 (("", "_law_given"), f__law_given, 35, none),
 (("", "_law_sixths"), f__law_sixths, 36, none),
 (("", "_law_due"), f__law_due, 37, none),
 (("", "_law_text"), f__law_text, 38, none),
 (("", "law"), f_law, 39, none)]
def clss : List String := ["Ratio", "Poly", "RatFun", "PowerProduct"]
def flds : String → List String
  | "Ratio" => ["n", "d"]
  | "Poly" => ["row"]
  | "RatFun" => ["num", "den"]
  | "PowerProduct" => ["pairs"]
  | _ => []
def cmt : List (String × String × String × Fn × Nat × Option Nat) := [("PowerProduct.without_factors", "PowerProduct", "without_factors", PowerProduct_without_factors, 30, some 1)]
def G : Gi := ⟨fun k => if k == ("", "PowerProduct.without_factors") then some PowerProduct_without_factors else (tab.find? fun t => t.1 == k).map fun t => t.2.1, flds, fun x => if x == "PIECE" then some (.int 50) else none, fun c => clss.contains c, ["gcd", "lcm"], fun c => if c == "PowerProduct" then some "pairs" else none, fun k => if k == "PowerProduct.without_factors" then some ("PowerProduct", "without_factors") else none⟩
def prog : Program := PySem.Challenge.pw_indicial_k55_power_products
def stmtAt (i : Nat) (j : Option Nat) : Stmt := match j with
  | none => prog.main.body.getD i (.Pass ⟨0, 0, 0, 0⟩)
  | some j => (match prog.main.body.getD i (.Pass ⟨0, 0, 0, 0⟩) with | .ClassDef _ _ _ b _ _ _ _ _ _ _ => b.getD j (.Pass ⟨0, 0, 0, 0⟩) | s => s)
end K55

set_option Elab.async false
set_option linter.all false
set_option maxRecDepth 100000
set_option maxHeartbeats 4000000
/-! IwB: a law's text as data: what the head is to tell. -/
namespace Iv
open PySem L2 PySem.Spec PyProof.Rows
/-- a law's text: the defs (key, what it says, where it stands), the classes, the constants -/
structure Txt where
  G : Gi
  tab : List (Key × Fn × He.DefD)
  clss : List String
  numc : List (String × Int)
  itd : List (String × String × He.DefD)
  cmd : List (String × String × String × Fn × He5.DefA)
section
variable (T : Txt)
def Txt.fa : List He.Fa :=
  T.tab.map (fun t => if t.1.1 == "" then .glo (st t.1.2) else .meth (st t.1.1) (st t.1.2)) ++
  (T.clss.flatMap fun c => [.glo (st c), .cls (st c), .keep (st c)] ++ (T.G.fld c).map fun f => .noat (st c) (st f)) ++
  freeNames.map (fun x => .free (st x)) ++ (T.numc.map (fun p => .int (st p.1) p.2) ++ T.itd.map fun t => .meth (st t.1) (st "__iter__"))
def Txt.fn : List He.DefD := (T.tab.map fun t => t.2.2) ++ T.itd.map fun t => t.2.2
def Txt.fnC : List He5.DefA := T.cmd.map fun t => t.2.2.2.2
def clA (K : PySem.W.Frag) (c : String) : Addr := He.ga K (st c)
def Txt.ex1 (K : PySem.W.Frag) : Bool := T.clss.all fun c =>
  PySem.W.selfFirst K (clA K c) && PySem.W.makesIn K (clA K c) && He.eqO (PySem.W.findIn K (.ref (clA K c)) "__class__") (some (some (.builtin "object.__class__"))) &&
  decide (PySem.W.mroIn K (clA K c) (.type "object") = some true) && He.eqO (PySem.W.findIn K (.ref (clA K c)) "__ne__") (some (some (.builtin "object.__ne__")))
def Txt.ex2 (K : PySem.W.Frag) : Bool := T.clss.all fun c => T.clss.all fun c' =>
  decide (PySem.W.kitOne K (.ref (clA K c)) (.ref (clA K c')) = some (c == c')) && ((c == c') || decide (PySem.W.subIn K (.ref (clA K c')) (.ref (clA K c)) = some false)) && ((c == c') || !(clA K c == clA K c'))
def Txt.ex3 (K : PySem.W.Frag) : Bool := T.clss.all fun c => tyNames.all fun t =>
  decide (PySem.W.kitOne K (.type t) (.ref (clA K c)) = some false) && decide (PySem.W.kitOne K (.ref (clA K c)) (.type t) = some false) && decide (PySem.W.subIn K (.type t) (.ref (clA K c)) = some false)
def Txt.ex4 (K : PySem.W.Frag) : Bool :=
  He.eqO (PySem.W.specialIn K (.builtin "object.__class__") "__get__") (some (some (.builtin "getset_descriptor.__get__"))) && decide (PySem.W.takesIn K (.builtin "object.__class__") = some true) &&
  (T.G.mths.all fun x => He.eqO (PySem.W.nsIn K mainGlobals (st x)) (some (some (.builtin ("math." ++ x))))) &&
  T.tab.all fun t => (t.1.1 == "") || PySem.W.fnIn K (He.ma K (clA K t.1.1) (st t.1.2))
def Txt.ex5 (K : PySem.W.Frag) : Bool := T.itd.all fun t =>
  He.eqO (PySem.W.findIn K (.ref (clA K t.1)) "__length_hint__") (some none) && ((T.G.fn (t.1, "__len__")).isSome || He.eqO (PySem.W.findIn K (.ref (clA K t.1)) "__len__") (some none))
def Txt.ex6 (K : PySem.W.Frag) : Bool := T.cmd.all fun t =>
  PySem.W.readsIn K (clA K t.2.1) (.type "type") && He.eqO (PySem.W.specialIn K (.ref (clA K t.2.1)) "__getattribute__") (some (some (.builtin "type.__getattribute__"))) &&
  He5.wrapB K (clA K t.2.1) "classmethod" "classmethod.__get__" (st t.2.2.1) && PySem.W.fnIn K (He5.wf K (clA K t.2.1) "classmethod" (st t.2.2.1))
def Txt.ex (K : PySem.W.Frag) : Bool := T.ex1 K && T.ex2 K && T.ex3 K && T.ex4 K && T.ex5 K && T.ex6 K
/-! the head's hook -/
abbrev AlI : Type := He.AlD × Bool × He.AlD
def obsI (K : PySem.W.Frag) : AlI := (He.obsD T.fa T.fn K, T.ex K, He5.obsA [] T.fnC K)
def valI : AlI := (He.valD T.fn, true, He5.valA T.fnC)
/-- what is looked at: what the names reach in n steps, and the interpreter's own table if a classmethod is read -/
def asI (n : Nat) (g : Addr → Option Obj) : List Addr := if T.cmd.isEmpty then He.asD g n else
  He.asD g n ++ cStatics :: T.cmd.flatMap fun t => match g (t.2.2.2.2.at_ (He.frT g (He.asD g n))) with
    | some o => He.refsD o
    | none => []
structure SaysI (K : PySem.W.Frag) : Prop where
  d : He.SaysD T.fa T.fn K
  more : T.ex K = true
  c : He5.SaysA [] T.fnC K
def obsIG (n : Nat) (g : Addr → Option Obj) : AlI := obsI T (He.frT g (asI T n g))
def hookI (n : Nat) : PySem.W.Hook where
  α := AlI
  obs := fun s => obsIG T n s.heap.get?
  val := fun _ => valI T
  says := fun _ h => ∃ K : PySem.W.Frag, K.In h ∧ SaysI T K
  of := fun _ _ e => ⟨_, He.frT_in, ⟨congrArg (fun z : AlI => z.1) e, congrArg (fun z : AlI => z.2.1) e, congrArg (fun z : AlI => z.2.2) e⟩⟩
  keeps := fun _ _ _ ⟨K, hK, c⟩ k => ⟨K, PySem.W.Frag.In.keeps hK k, c⟩
theorem obsI_eq {n : Nat} {g : Addr → Option Obj} {s : Shared} (h : ∀ a, g a = s.heap.get? a) : obsIG T n g = (hookI T n).obs s := by
  have e : g = s.heap.get? := funext h
  rw [e] <;> rfl
end
end Iv

set_option Elab.async false
set_option linter.all false
set_option maxRecDepth 1000000
set_option maxHeartbeats 0
/-! K55G: law k55's text as data. -/
namespace K55
open PySem PySem.Spec PyProof.Rows L2 Iv
def dOf (t : Iv.Key × Fn × Nat × Option Nat) : He.DefD := match stmtAt t.2.2.1 t.2.2.2 with
  | .FunctionDef name args body _ _ _ scope _ _ _ => ⟨(if t.1.1 == "" then (st t.1.2, none) else (st t.1.1, some (st t.1.2))), name, (if t.1.1 == "" then name else st (t.1.1 ++ "." ++ t.1.2)), args, body, scope, t.2.1.dfl.map (fun d => match d with | .int i => .int i | _ => .non), []⟩
  | _ => ⟨(st "", none), st "", st "", ⟨[], [], none, [], [], none, []⟩, [], ⟨.function, [], false, false, []⟩, [], []⟩
def dIt : He.DefD := match stmtAt 30 (some 2) with
  | .FunctionDef name args body _ _ _ scope _ _ _ => ⟨(st "PowerProduct", some (st "__iter__")), name, st "PowerProduct.__iter__", args, body, scope, [], []⟩
  | _ => ⟨(st "", none), st "", st "", ⟨[], [], none, [], [], none, []⟩, [], ⟨.function, [], false, false, []⟩, [], []⟩
def dCm : He5.DefA := match stmtAt 30 (some 1) with
  | .FunctionDef name args body _ _ _ scope _ _ _ => ⟨fun K => He5.wf K (clA K "PowerProduct") "classmethod" (st "without_factors"), name, st "PowerProduct.without_factors", args, body, scope, [], []⟩
  | _ => ⟨fun K => He5.wf K (clA K "PowerProduct") "classmethod" (st "without_factors"), st "", st "", ⟨[], [], none, [], [], none, []⟩, [], ⟨.function, [], false, false, []⟩, [], []⟩
def T : Iv.Txt := ⟨G, tab.map fun t => (t.1, t.2.1, dOf t), clss, [("PIECE", 50)], [("PowerProduct", "pairs", dIt)], [("PowerProduct.without_factors", "PowerProduct", "without_factors", PowerProduct_without_factors, dCm)]⟩
abbrev R : PySem.W.OpenRow := PySem.W.OpenLaw.row PySem.Challenge.rw_indicial_k55_power_products
abbrev hk : PySem.W.Hook := hookI T 4
def ob (s : PySem.W.SharedT) : AlI := obsIG T 4 (HandSHeadRun.getT s)
theorem ob_eq (s : PySem.W.SharedT) : ob s = hk.obs s.abs := obsI_eq T (HandSHeadRun.getT_eq s)
def loose : List PySem.Str := ["_wall", "__name__", "Fault", "ZeroDivisor", "Refused", "PIECE", "written_integer", "Ratio", "zero", "one", "_trimmed", "Poly", "constant", "_primitive_row", "_integer_rest", "common_divisor", "RatFun", "of_poly", "of_ratio", "added", "multiplied", "part_of", "in_order", "line", "PowerProduct", "_law_numbers", "_law_next", "_law_pairs", "_law_given", "_law_sixths", "_law_due", "_law_text"]
end K55

set_option Elab.async false
set_option linter.all false
set_option maxRecDepth 1000000
set_option maxHeartbeats 0
/-! K55H: the head of law k55. -/
namespace K55
open PySem PySem.Spec PyProof.Rows L2 Iv
theorem run (w : World) : HandSHeadRun.RunEqI R (PySem.W.view R.prog [0, 39]) hk ob 20000 loose w := by
  unfold HandSHeadRun.RunEqI
  kernel_rfl
end K55

set_option linter.all false
/-! M1: rationals; polynomials as lists of rationals, by their values. -/
namespace Mq
/-! ### values of a row -/
def ev : List Rat → Rat → Rat
  | [], _ => 0
  | c :: p, x => c + x * ev p x
theorem ev_nil (x : Rat) : ev [] x = 0 := rfl
theorem ev_cons (c : Rat) (p : List Rat) (x : Rat) : ev (c :: p) x = c + x * ev p x := rfl
/-- without zeros at the end -/
def trim : List Rat → List Rat
  | [] => []
  | c :: p => match trim p with
    | [] => if c = 0 then [] else [c]
    | d :: r => c :: d :: r
def Tr (p : List Rat) : Prop := p.getLast? ≠ some 0
theorem tr_nil : Tr [] := by simp [Tr]
theorem Tr.tail {c : Rat} {p : List Rat} (h : Tr (c :: p)) : Tr p := by
  unfold Tr at *
  cases p with
  | nil => simp
  | cons d r => simpa [List.getLast?_cons_cons] using h
theorem tr_trim : ∀ p : List Rat, Tr (trim p)
  | [] => tr_nil
  | c :: p => by
    have ih := tr_trim p
    unfold trim
    split
    · split
      · exact tr_nil
      · simpa [Tr] using ‹¬c = 0›
    · rename_i d r e
      rw [e] at ih
      unfold Tr at *
      simpa [List.getLast?_cons_cons] using ih
theorem trim_of : ∀ {p : List Rat}, Tr p → trim p = p
  | [], _ => rfl
  | c :: p, h => by
    have ih := trim_of h.tail
    unfold trim
    rw [ih]
    cases p with
    | nil =>
      have : c ≠ 0 := by simpa [Tr] using h
      simp [this]
    | cons d r => rfl
theorem ev_trim (x : Rat) : ∀ p : List Rat, ev (trim p) x = ev p x
  | [] => rfl
  | c :: p => by
    have ih := ev_trim x p
    unfold trim
    split
    · rename_i e
      rw [e] at ih
      simp only [ev] at ih ⊢
      split
      · rename_i h; rw [← ih, h]; simp [ev]; grind
      · rw [← ih]; simp [ev]
    · rename_i d r e
      rw [e] at ih
      simp only [ev] at ih ⊢
      rw [ih]
theorem div_nonneg {a b : Rat} (ha : 0 ≤ a) (hb : 0 < b) : 0 ≤ a / b := by
  rw [Rat.div_def]; exact Rat.mul_nonneg ha (Rat.le_of_lt (Rat.inv_pos.mpr hb))
/-- a row that is not zero is far from zero for great x -/
theorem far : ∀ {p : List Rat}, Tr p → p ≠ [] → ∃ B d : Rat, 0 < d ∧ 1 ≤ B ∧ ∀ x, B ≤ x → d ≤ ev p x ∨ ev p x ≤ -d
  | [], _, h => absurd rfl h
  | c :: p, ht, _ => by
    by_cases hp : p = []
    · subst hp
      have hc : c ≠ 0 := by simpa [Tr] using ht
      simp only [ev]
      by_cases h0 : 0 < c
      · exact ⟨1, c, h0, by grind, fun x _ => by grind⟩
      · exact ⟨1, -c, by grind, by grind, fun x _ => by grind⟩
    · obtain ⟨B, d, hd, hB, h⟩ := far ht.tail hp
      -- x * d ≥ d + |c|
      let k : Rat := if 0 ≤ c then c else -c
      have hk : 0 ≤ k ∧ c ≤ k ∧ -k ≤ c := by grind
      refine ⟨B + k / d + 1, d, hd, ?_, fun x hx => ?_⟩
      · have : 0 ≤ k / d := div_nonneg hk.1 hd
        grind
      · have h1 : 0 ≤ k / d := div_nonneg hk.1 hd
        have h2 : B ≤ x := by grind
        have h3 : (k / d) * d = k := Rat.div_mul_cancel (by grind)
        have h4 : (k / d + 1) * d ≤ x * d := Rat.mul_le_mul_of_nonneg_right (by grind) (by grind)
        have h5 : k + d ≤ x * d := by grind
        simp only [ev]
        have hx0 : 0 ≤ x := by grind
        rcases h x h2 with h6 | h6
        · left
          have : x * d ≤ x * ev p x := Rat.mul_le_mul_of_nonneg_left h6 hx0
          grind
        · right
          have : x * ev p x ≤ x * (-d) := Rat.mul_le_mul_of_nonneg_left h6 hx0
          grind
/-- eventually -/
def Ev (φ : Rat → Prop) : Prop := ∃ B : Rat, ∀ x, B ≤ x → φ x
theorem Ev.and {φ ψ : Rat → Prop} (h : Ev φ) (k : Ev ψ) : Ev fun x => φ x ∧ ψ x := by
  obtain ⟨B, h⟩ := h
  obtain ⟨C, k⟩ := k
  refine ⟨if B ≤ C then C else B, fun x hx => ?_⟩
  split at hx <;> exact ⟨h x (by grind), k x (by grind)⟩
theorem Ev.mono {φ ψ : Rat → Prop} (h : Ev φ) (i : ∀ x, φ x → ψ x) : Ev ψ := let ⟨B, h⟩ := h; ⟨B, fun x hx => i x (h x hx)⟩
theorem Ev.all {φ : Rat → Prop} (h : ∀ x, φ x) : Ev φ := ⟨0, fun x _ => h x⟩
theorem Ev.ex {φ : Rat → Prop} (h : Ev φ) : ∃ x, φ x := let ⟨B, h⟩ := h; ⟨B, h B (by grind)⟩
theorem ev_ne {p : List Rat} (h : Tr p) (hp : p ≠ []) : Ev fun x => ev p x ≠ 0 := by
  obtain ⟨B, d, hd, _, k⟩ := far h hp
  exact ⟨B, fun x hx => by rcases k x hx with q | q <;> grind⟩
/-- difference -/
def subL : List Rat → List Rat → List Rat
  | [], q => q.map (- ·)
  | p, [] => p
  | a :: p, b :: q => (a - b) :: subL p q
theorem ev_neg (x : Rat) : ∀ p : List Rat, ev (p.map (- ·)) x = - ev p x
  | [] => by simp [ev]
  | c :: p => by simp only [List.map_cons, ev, ev_neg x p]; grind
theorem ev_sub (x : Rat) : ∀ p q : List Rat, ev (subL p q) x = ev p x - ev q x
  | [], q => by simp only [subL, ev_neg, ev]; grind
  | a :: p, [] => by simp only [subL, ev]; grind
  | a :: p, b :: q => by simp only [subL, ev, ev_sub x p q]; grind
theorem ev_zero : ∀ {p : List Rat}, Ev (fun x => ev p x = 0) → trim p = [] := by
  intro p h
  by_cases hp : trim p = []
  · exact hp
  · obtain ⟨x, h1, h2⟩ := ((ev_ne (tr_trim p) hp).and h).ex
    rw [ev_trim] at h1
    exact absurd h2 h1
theorem trim_zero : ∀ {p : List Rat}, trim p = [] → ∀ c ∈ p, c = 0
  | [], _, c, h => by cases h
  | d :: p, h, c, hc => by
    unfold trim at h
    split at h
    · rename_i e
      split at h
      · rcases List.mem_cons.mp hc with r | r
        · rw [r]; assumption
        · exact trim_zero e c r
      · cases h
    · cases h
theorem zero_trim : ∀ {p : List Rat}, (∀ c ∈ p, c = 0) → trim p = []
  | [], _ => rfl
  | d :: p, h => by
    unfold trim
    rw [zero_trim fun c hc => h c (List.mem_cons_of_mem _ hc)]
    simp [h d (by simp)]
theorem sub_zero_eq : ∀ {p q : List Rat}, (∀ c ∈ subL p q, c = 0) → trim p = trim q
  | [], q, h => by
    rw [zero_trim (p := q) fun c hc => by
      have := h (-c) (by simp only [subL]; exact List.mem_map.mpr ⟨c, hc, rfl⟩)
      grind]
    rfl
  | a :: p, [], h => by
    rw [zero_trim (p := a :: p) (by simpa [subL] using h)]
    rfl
  | a :: p, b :: q, h => by
    have h1 : a - b = 0 := h _ (by simp [subL])
    have h2 := sub_zero_eq (p := p) (q := q) fun c hc => h c (by simp [subL, hc])
    have e : a = b := by grind
    unfold trim
    rw [h2, e]
theorem ev_inj {p q : List Rat} (h : Ev fun x => ev p x = ev q x) : trim p = trim q :=
  sub_zero_eq (trim_zero (ev_zero (h.mono fun x e => by rw [ev_sub, e]; grind)))
theorem ev_ext {p q : List Rat} (hp : Tr p) (hq : Tr q) (h : Ev fun x => ev p x = ev q x) : p = q := by
  rw [← trim_of hp, ← trim_of hq]; exact ev_inj h
end Mq

set_option linter.all false
/-! M2: the ring of polynomials. -/
namespace Mq
def addL : List Rat → List Rat → List Rat
  | [], q => q
  | p, [] => p
  | a :: p, b :: q => (a + b) :: addL p q
theorem ev_add (x : Rat) : ∀ p q : List Rat, ev (addL p q) x = ev p x + ev q x
  | [], q => by simp only [addL, ev]; grind
  | a :: p, [] => by simp only [addL, ev]; grind
  | a :: p, b :: q => by simp only [addL, ev, ev_add x p q]; grind
def sclL (c : Rat) (p : List Rat) : List Rat := p.map (c * ·)
theorem ev_scl (c x : Rat) : ∀ p : List Rat, ev (sclL c p) x = c * ev p x
  | [] => by simp [sclL, ev]
  | a :: p => by
    have := ev_scl c x p
    simp only [sclL] at this
    simp only [sclL, List.map_cons, ev, this]; grind
def mulL : List Rat → List Rat → List Rat
  | [], _ => []
  | a :: p, q => addL (sclL a q) (0 :: mulL p q)
theorem ev_mul (x : Rat) : ∀ p q : List Rat, ev (mulL p q) x = ev p x * ev q x
  | [], q => by simp [mulL, ev]
  | a :: p, q => by simp only [mulL, ev_add, ev_scl, ev, ev_mul x p q]; grind
def Pl := { p : List Rat // Tr p }
namespace Pl
def val (p : Pl) (x : Rat) : Rat := ev p.1 x
def mk (l : List Rat) : Pl := ⟨trim l, tr_trim l⟩
theorem val_mk (l : List Rat) (x : Rat) : (mk l).val x = ev l x := ev_trim x l
theorem ext' {p q : Pl} (h : Ev fun x => p.val x = q.val x) : p = q := Subtype.ext (ev_ext p.2 q.2 h)
theorem ext {p q : Pl} (h : ∀ x, p.val x = q.val x) : p = q := ext' (.all h)
def C (c : Rat) : Pl := mk [c]
theorem val_C (c x : Rat) : (C c).val x = c := by rw [C, val_mk]; simp only [ev]; grind
def X : Pl := mk [0, 1]
theorem val_X (x : Rat) : X.val x = x := by rw [X, val_mk]; simp only [ev]; grind
instance : Add Pl := ⟨fun p q => mk (addL p.1 q.1)⟩
instance : Mul Pl := ⟨fun p q => mk (mulL p.1 q.1)⟩
instance : Neg Pl := ⟨fun p => mk (p.1.map (- ·))⟩
instance : Sub Pl := ⟨fun p q => mk (subL p.1 q.1)⟩
theorem val_add (p q : Pl) (x : Rat) : (p + q).val x = p.val x + q.val x := (val_mk _ x).trans (ev_add x _ _)
theorem val_mul (p q : Pl) (x : Rat) : (p * q).val x = p.val x * q.val x := (val_mk _ x).trans (ev_mul x _ _)
theorem val_neg (p : Pl) (x : Rat) : (-p).val x = -p.val x := (val_mk _ x).trans (ev_neg x _)
theorem val_sub (p q : Pl) (x : Rat) : (p - q).val x = p.val x - q.val x := (val_mk _ x).trans (ev_sub x _ _)
instance : NatCast Pl := ⟨fun n => C n⟩
instance : IntCast Pl := ⟨fun n => C n⟩
instance (n : Nat) : OfNat Pl n := ⟨C n⟩
instance : SMul Nat Pl := ⟨fun n p => C n * p⟩
instance : SMul Int Pl := ⟨fun n p => C n * p⟩
def pow (p : Pl) : Nat → Pl
  | 0 => C 1
  | n + 1 => pow p n * p
instance : HPow Pl Nat Pl := ⟨pow⟩
theorem val_ofNat (n : Nat) (x : Rat) : (OfNat.ofNat n : Pl).val x = n := val_C _ x
theorem val_0 (x : Rat) : (0 : Pl).val x = 0 := (val_C ((0 : Nat) : Rat) x).trans rfl
theorem val_1 (x : Rat) : (1 : Pl).val x = 1 := (val_C ((1 : Nat) : Rat) x).trans rfl
theorem val_nsmul (n : Nat) (p : Pl) (x : Rat) : (n • p).val x = n * p.val x := by show (C n * p).val x = _; rw [val_mul, val_C]
theorem val_zsmul (n : Int) (p : Pl) (x : Rat) : (n • p).val x = n * p.val x := by show (C n * p).val x = _; rw [val_mul, val_C]
theorem val_pow_succ (p : Pl) (n : Nat) : p ^ (n + 1) = p ^ n * p := rfl
instance : Lean.Grind.CommRing Pl where
  add_zero a := ext fun x => by rw [val_add, val_0]; grind
  add_comm a b := ext fun x => by rw [val_add, val_add]; grind
  add_assoc a b c := ext fun x => by simp only [val_add]; grind
  mul_assoc a b c := ext fun x => by simp only [val_mul]; grind
  mul_one a := ext fun x => by rw [val_mul, val_1]; grind
  one_mul a := ext fun x => by rw [val_mul, val_1]; grind
  left_distrib a b c := ext fun x => by simp only [val_mul, val_add]; grind
  right_distrib a b c := ext fun x => by simp only [val_mul, val_add]; grind
  zero_mul a := ext fun x => by rw [val_mul, val_0]; grind
  mul_zero a := ext fun x => by rw [val_mul, val_0]; grind
  mul_comm a b := ext fun x => by simp only [val_mul]; grind
  pow_zero a := ext fun x => by rw [val_1]; show (C 1).val x = 1; rw [val_C]
  pow_succ a n := rfl
  ofNat_succ n := ext fun x => by rw [val_add, val_1]; show (C _).val x = (C _).val x + 1; rw [val_C, val_C]; push_cast; rfl
  ofNat_eq_natCast n := rfl
  nsmul_eq_natCast_mul n a := rfl
  neg_add_cancel a := ext fun x => by rw [val_add, val_neg, val_0]; grind
  sub_eq_add_neg a b := ext fun x => by rw [val_sub, val_add, val_neg]; grind
  neg_zsmul i a := ext fun x => by rw [val_neg, val_zsmul, val_zsmul]; push_cast; grind
  zsmul_natCast_eq_nsmul n a := ext fun x => by rw [val_nsmul, val_zsmul]; push_cast; rfl
  intCast_ofNat n := ext fun x => by show (C _).val x = (C _).val x; rfl
  intCast_neg i := ext fun x => by show (C _).val x = (-(C _)).val x; rw [val_neg, val_C, val_C]; push_cast; rfl
example (p q r : Pl) : (p + q) * (p - q) + r * 2 = p * p - q * q + 2 * r := by grind
example (p q r u : Pl) (h : p * u = q) : (p + r) * u = q + r * u := by grind
end Pl
end Mq

set_option linter.all false
/-! M3: lengths, division, common divisors. -/
namespace Mq
theorem addL_len : ∀ p q : List Rat, (addL p q).length = max p.length q.length
  | [], q => by simp [addL]
  | a :: p, [] => by simp [addL]
  | a :: p, b :: q => by simp [addL, addL_len p q]
theorem addL_last : ∀ {p q : List Rat}, p.length < q.length → (addL p q).getLast? = q.getLast?
  | [], q, _ => by simp [addL]
  | a :: p, [], h => by simp at h
  | a :: p, b :: q, h => by
    have h' : p.length < q.length := by simpa using h
    have ih := addL_last h'
    simp only [addL]
    cases q with
    | nil => simp at h'
    | cons c r =>
      have hne : addL p (c :: r) ≠ [] := by
        intro e
        have := addL_len p (c :: r)
        rw [e] at this
        simp at this; omega
      rw [List.getLast?_cons_cons]
      rw [← ih]
      cases e : addL p (c :: r) with
      | nil => exact absurd e hne
      | cons u v => rw [List.getLast?_cons_cons]
theorem sclL_last (c : Rat) (p : List Rat) : (sclL c p).getLast? = p.getLast?.map (c * ·) := by unfold sclL; rw [List.getLast?_map]
theorem sclL_len (c : Rat) (p : List Rat) : (sclL c p).length = p.length := by simp [sclL]
theorem mulL_len : ∀ {p q : List Rat}, p ≠ [] → q ≠ [] → (mulL p q).length = p.length + q.length - 1
  | [], _, h, _ => absurd rfl h
  | [a], q, _, hq => by
    have : 0 < q.length := List.length_pos_iff.mpr hq
    simp [mulL, addL_len, sclL_len]; omega
  | a :: b :: p, q, _, hq => by
    have h0 : 0 < q.length := List.length_pos_iff.mpr hq
    have ih := mulL_len (p := b :: p) (q := q) (by simp) hq
    rw [mulL, addL_len, sclL_len, List.length_cons, ih]
    simp; omega
theorem mulL_last : ∀ {p q : List Rat} {u v : Rat}, p.getLast? = some u → q.getLast? = some v → (mulL p q).getLast? = some (u * v)
  | [], _, _, _, h, _ => by simp at h
  | [a], q, u, v, h, hv => by
    have hu : a = u := by simpa using h
    subst hu
    simp only [mulL]
    cases q with
    | nil => simp at hv
    | cons b r =>
      cases r with
      | nil =>
        have : b = v := by simpa using hv
        subst this
        simp [sclL, addL]; grind
      | cons c r =>
        have : addL (sclL a (b :: c :: r)) [0] = (a * b + 0) :: sclL a (c :: r) := by simp [sclL, addL]
        rw [this]
        have h3 : (sclL a (c :: r)).getLast? = some (a * v) := by rw [sclL_last]; rw [List.getLast?_cons_cons] at hv; rw [hv]; rfl
        simp only [sclL, List.map_cons] at h3 ⊢
        rw [List.getLast?_cons_cons]; exact h3
  | a :: b :: p, q, u, v, h, hv => by
    have hq : q ≠ [] := by intro e; subst e; simp at hv
    have h0 : 0 < q.length := List.length_pos_iff.mpr hq
    rw [List.getLast?_cons_cons] at h
    have ih := mulL_last (p := b :: p) (q := q) h hv
    have hl := mulL_len (p := b :: p) (q := q) (by simp) hq
    rw [mulL, addL_last]
    · cases e : mulL (b :: p) q with
      | nil => rw [e] at ih; simp at ih
      | cons x y => rw [List.getLast?_cons_cons, ← e]; exact ih
    · rw [sclL_len, List.length_cons, hl]; simp; omega
namespace Pl
def len (p : Pl) : Nat := p.1.length
def lc (p : Pl) : Rat := p.1.getLast?.getD 0
theorem one_list : (1 : Pl).1 = [1] := by
  show trim [((1 : Nat) : Rat)] = [1]
  simp [trim]
theorem zero_list : (0 : Pl).1 = [] := by
  show trim [((0 : Nat) : Rat)] = []
  simp [trim]
theorem eq_zero {p : Pl} : p = 0 ↔ p.1 = [] := ⟨fun h => by rw [h, zero_list], fun h => Subtype.ext (by rw [h, zero_list])⟩
theorem len_zero {p : Pl} : p.len = 0 ↔ p = 0 := by rw [eq_zero]; unfold len; exact List.length_eq_zero_iff
theorem len_pos {p : Pl} : 0 < p.len ↔ p ≠ 0 := by rw [ne_eq, ← len_zero]; omega
theorem lc_some {p : Pl} (h : p ≠ 0) : p.1.getLast? = some p.lc := by
  unfold lc
  cases e : p.1.getLast? with
  | none => exact absurd (eq_zero.mpr (List.getLast?_eq_none_iff.mp e)) h
  | some u => rfl
theorem lc_ne {p : Pl} (h : p ≠ 0) : p.lc ≠ 0 := by
  have := p.2
  unfold Tr at this
  rw [lc_some h] at this
  simpa using this
theorem val_ne {p : Pl} (h : p ≠ 0) : Ev fun x => p.val x ≠ 0 := ev_ne p.2 fun e => h (eq_zero.mpr e)
theorem mul_ne {p q : Pl} (hp : p ≠ 0) (hq : q ≠ 0) : p * q ≠ 0 := fun e => by
  obtain ⟨x, h1, h2⟩ := ((val_ne hp).and (val_ne hq)).ex
  have : (p * q).val x = 0 := by rw [e, val_0]
  rw [val_mul] at this
  rcases Rat.mul_eq_zero.mp this with h | h
  · exact h1 h
  · exact h2 h
theorem mul_list {p q : Pl} (hp : p ≠ 0) (hq : q ≠ 0) : (p * q).1 = mulL p.1 q.1 := by
  show trim (mulL p.1 q.1) = _
  refine trim_of ?_
  unfold Tr
  rw [mulL_last (lc_some hp) (lc_some hq)]
  have h := lc_ne hp
  have h' := lc_ne hq
  simp only [ne_eq, Option.some.injEq]
  intro e
  rcases Rat.mul_eq_zero.mp e with h3 | h3 <;> contradiction
theorem len_mul {p q : Pl} (hp : p ≠ 0) (hq : q ≠ 0) : (p * q).len = p.len + q.len - 1 := by
  unfold len
  rw [mul_list hp hq, mulL_len (fun e => hp (eq_zero.mpr e)) (fun e => hq (eq_zero.mpr e))]
theorem lc_mul (p q : Pl) : (p * q).lc = p.lc * q.lc := by
  by_cases hp : p = 0
  · subst hp
    have : (0 : Pl) * q = 0 := by grind
    rw [this]
    simp [lc, zero_list]
  · by_cases hq : q = 0
    · subst hq
      have : p * 0 = 0 := by grind
      rw [this]
      simp [lc, zero_list]
    · unfold lc
      rw [mul_list hp hq, mulL_last (lc_some hp) (lc_some hq), lc_some hp, lc_some hq]; rfl
theorem mul_cancel {p q r : Pl} (hp : p ≠ 0) (h : p * q = p * r) : q = r := by
  by_cases e : q - r = 0
  · grind
  · exact absurd (show p * (q - r) = 0 by grind) (mul_ne hp e)
/-! lengths of sums -/
theorem trim_len : ∀ p : List Rat, (trim p).length ≤ p.length
  | [] => Nat.le_refl _
  | c :: p => by
    have ih := trim_len p
    unfold trim
    split
    · split <;> simp
    · rename_i d r e
      rw [e] at ih
      simpa using ih
theorem len_mk (l : List Rat) : (mk l).len ≤ l.length := trim_len l
theorem len_add (p q : Pl) : (p + q).len ≤ max p.len q.len := by
  have := len_mk (addL p.1 q.1)
  rw [addL_len] at this
  exact this
theorem len_neg (p : Pl) : (-p).len ≤ p.len := by
  have := len_mk (p.1.map (- ·))
  rw [List.length_map] at this
  exact this
theorem len_sub (p q : Pl) : (p - q).len ≤ max p.len q.len := by
  have e : p - q = p + -q := by grind
  rw [e]
  have h1 := len_add p (-q)
  have h2 := len_neg q
  omega
/-- only one way to divide -/
theorem div_unique {d q q' r r' : Pl} (h : q * d + r = q' * d + r') (hr : r.len < d.len) (hr' : r'.len < d.len) : q = q' ∧ r = r' := by
  have hd : d ≠ 0 := len_pos.mp (by omega)
  by_cases e : q - q' = 0
  · constructor <;> grind
  · have h1 := len_mul e hd
    have h2 : (q - q') * d = r' - r := by grind
    rw [h2] at h1
    have h3 := len_sub r' r
    have h4 := len_pos.mpr e
    omega
theorem len_C (c : Rat) : (C c).len ≤ 1 := len_mk [c]
theorem C_list {c : Rat} (h : c ≠ 0) : (C c).1 = [c] := by show trim [c] = [c]; simp [trim, h]
theorem C_ne {c : Rat} (h : c ≠ 0) : C c ≠ 0 := fun e => by rw [eq_zero, C_list h] at e; cases e
theorem C_zero : C 0 = 0 := rfl
theorem C_one : C 1 = 1 := rfl
theorem C_mul (a b : Rat) : C (a * b) = C a * C b := ext fun x => by simp only [val_mul, val_C]
theorem C_add (a b : Rat) : C (a + b) = C a + C b := ext fun x => by simp only [val_add, val_C]
theorem C_sub (a b : Rat) : C (a - b) = C a - C b := ext fun x => by simp only [val_sub, val_C]
theorem C_neg (a : Rat) : C (-a) = -C a := ext fun x => by simp only [val_neg, val_C]
theorem lc_C (c : Rat) : (C c).lc = c := by
  by_cases h : c = 0
  · subst h; simp [C_zero, lc, zero_list]
  · simp [lc, C_list h]
theorem of_len_one {p : Pl} (h : p.len = 1) : p = C p.lc := by
  obtain ⟨l, hl⟩ := p
  cases l with
  | nil => cases h
  | cons c r =>
    cases r with
    | nil => exact ext fun x => by rw [val_C]; simp only [val, ev, lc, List.getLast?_singleton, Option.getD_some]; grind
    | cons _ _ => simp [len] at h
theorem C_inv {c : Rat} (h : c ≠ 0) : C c⁻¹ * C c = 1 := by rw [← C_mul, Rat.inv_mul_cancel _ h]; rfl
/-! divisibility -/
def dvd (d p : Pl) : Prop := ∃ q, p = d * q
theorem dvd_refl (p : Pl) : dvd p p := ⟨1, by grind⟩
theorem dvd_zero (p : Pl) : dvd p 0 := ⟨0, by grind⟩
theorem dvd_trans {a b c : Pl} : dvd a b → dvd b c → dvd a c := fun ⟨u, h⟩ ⟨v, k⟩ => ⟨u * v, by grind⟩
theorem dvd_mul {a b : Pl} (c : Pl) (h : dvd a b) : dvd a (b * c) := let ⟨u, h⟩ := h; ⟨u * c, by grind⟩
theorem dvd_mul' {a b : Pl} (c : Pl) (h : dvd a b) : dvd a (c * b) := let ⟨u, h⟩ := h; ⟨u * c, by grind⟩
theorem dvd_add {a b c : Pl} (h : dvd a b) (k : dvd a c) : dvd a (b + c) := let ⟨u, h⟩ := h; let ⟨v, k⟩ := k; ⟨u + v, by grind⟩
theorem dvd_sub {a b c : Pl} (h : dvd a b) (k : dvd a c) : dvd a (b - c) := let ⟨u, h⟩ := h; let ⟨v, k⟩ := k; ⟨u - v, by grind⟩
theorem dvd_len {a b : Pl} (h : dvd a b) (hb : b ≠ 0) : a.len ≤ b.len := by
  obtain ⟨q, rfl⟩ := h
  by_cases ha : a = 0
  · exact absurd (show a * q = 0 by grind) hb
  · by_cases hq : q = 0
    · exact absurd (show a * q = 0 by grind) hb
    · rw [len_mul ha hq]
      have := len_pos.mpr hq
      omega
def monic (p : Pl) : Prop := p.lc = 1
theorem monic_ne {p : Pl} (h : monic p) : p ≠ 0 := fun e => by subst e; simp [monic, lc, zero_list] at h
theorem dvd_antisymm {a b : Pl} (h : dvd a b) (k : dvd b a) (ha : monic a) (hb : monic b) : a = b := by
  have na := monic_ne ha
  have nb := monic_ne hb
  have l1 := dvd_len h nb
  have l2 := dvd_len k na
  obtain ⟨q, e⟩ := h
  have hq : q ≠ 0 := fun z => nb (by grind)
  have l3 := len_mul na hq
  rw [← e] at l3
  have l4 := len_pos.mpr na
  have l5 := len_pos.mpr hq
  have hq1 := of_len_one (p := q) (by omega)
  have e2 : b.lc = a.lc * q.lc := by rw [← lc_mul, ← e]
  unfold monic at ha hb
  have : q.lc = 1 := by grind
  rw [this, C_one] at hq1
  grind
/-- the greatest common divisor -/
structure IsGcd (p q g : Pl) : Prop where
  mon : monic g
  left : dvd g p
  right : dvd g q
  bez : ∃ u v, g = u * p + v * q
theorem IsGcd.great {p q g d : Pl} (h : IsGcd p q g) (hp : dvd d p) (hq : dvd d q) : dvd d g := by
  obtain ⟨u, v, e⟩ := h.bez
  rw [e]
  exact dvd_add (dvd_mul' u hp) (dvd_mul' v hq)
theorem IsGcd.unique {p q g g' : Pl} (h : IsGcd p q g) (h' : IsGcd p q g') : g = g' :=
  dvd_antisymm (h'.great h.left h.right) (h.great h'.left h'.right) h.mon h'.mon
def coprime (p q : Pl) : Prop := ∃ u v, u * p + v * q = 1
theorem coprime.symm {p q : Pl} : coprime p q → coprime q p := fun ⟨u, v, h⟩ => ⟨v, u, by grind⟩
theorem coprime.dvd {a b c : Pl} (h : coprime a b) (k : Pl.dvd a (b * c)) : Pl.dvd a c := by
  obtain ⟨u, v, e⟩ := h
  obtain ⟨w, f⟩ := k
  exact ⟨u * c + v * w, by grind⟩
end Pl
end Mq

set_option linter.all false
/-! Pg: the program's defs in the small language (printed by ir.py). -/
namespace Pg
open Iv
def f_written_integer : Fn := ⟨["n", "pieces", "low"], 1, [],
 (.cons (.if_ (.cmp .lt (.var 0) (.cint 0))
 (.cons (.ret (.bin .add (.cstr "-") (.call "written_integer" (.cons (.neg (.var 0)) .nil))))
 .nil)
 .nil)
 (.cons (.new 1 (.lst .nil))
 (.cons (.while_ (.cmp .ge (.var 0) (.bin .pow (.cint 10) (.cint 50)))
 (.cons (.asgT [0, 2] (.blt .divmod (.cons (.var 0) (.cons (.bin .pow (.cint 10) (.cint 50)) .nil))))
 (.cons (.app 1 (.zfill (.blt .str (.cons (.var 2) .nil)) (.glob "PIECE")))
 .nil)))
 (.cons (.app 1 (.blt .str (.cons (.var 0) .nil)))
 (.cons (.ret (.join "" (.slRev (.var 1))))
 .nil)))))⟩
def Ratio___init__ : Fn := ⟨["self", "n", "d", "common"], 3, [.int 1],
 (.cons (.if_ (.cmp .eq (.var 2) (.cint 0))
 (.cons .never
 .nil)
 .nil)
 (.cons (.asg 3 (.ite (.cmp .gt (.var 2) (.cint 0)) (.blt .gcd (.cons (.var 1) (.cons (.var 2) .nil))) (.neg (.blt .gcd (.cons (.var 1) (.cons (.var 2) .nil))))))
 (.cons (.sfld "n" (.bin .fdiv (.var 1) (.var 3)))
 (.cons (.sfld "d" (.bin .fdiv (.var 2) (.var 3)))
 .nil))))⟩
def Ratio___add__ : Fn := ⟨["self", "other"], 2, [],
 (.cons (.ret (.mk "Ratio" (.cons (.bin .add (.bin .mul (.fld (.var 0) "n") (.fld (.var 1) "d")) (.bin .mul (.fld (.var 1) "n") (.fld (.var 0) "d"))) (.cons (.bin .mul (.fld (.var 0) "d") (.fld (.var 1) "d")) .nil))))
 .nil)⟩
def Ratio___sub__ : Fn := ⟨["self", "other"], 2, [],
 (.cons (.ret (.mk "Ratio" (.cons (.bin .sub (.bin .mul (.fld (.var 0) "n") (.fld (.var 1) "d")) (.bin .mul (.fld (.var 1) "n") (.fld (.var 0) "d"))) (.cons (.bin .mul (.fld (.var 0) "d") (.fld (.var 1) "d")) .nil))))
 .nil)⟩
def Ratio___mul__ : Fn := ⟨["self", "other"], 2, [],
 (.cons (.ret (.mk "Ratio" (.cons (.bin .mul (.fld (.var 0) "n") (.fld (.var 1) "n")) (.cons (.bin .mul (.fld (.var 0) "d") (.fld (.var 1) "d")) .nil))))
 .nil)⟩
def Ratio___neg__ : Fn := ⟨["self"], 1, [],
 (.cons (.ret (.mk "Ratio" (.cons (.neg (.fld (.var 0) "n")) (.cons (.fld (.var 0) "d") .nil))))
 .nil)⟩
def Ratio___eq__ : Fn := ⟨["self", "other"], 2, [],
 (.cons (.ret (.and_ (.blt (.isi "Ratio") (.cons (.var 1) .nil)) (.and_ (.cmp .eq (.fld (.var 0) "n") (.fld (.var 1) "n")) (.cmp .eq (.fld (.var 0) "d") (.fld (.var 1) "d")))))
 .nil)⟩
def Ratio___str__ : Fn := ⟨["self"], 1, [],
 (.cons (.if_ (.cmp .eq (.fld (.var 0) "d") (.cint 1))
 (.cons (.ret (.join "" (.lst (.cons (.call "written_integer" (.cons (.fld (.var 0) "n") .nil)) .nil))))
 .nil)
 .nil)
 (.cons (.ret (.join "/" (.lst (.cons (.call "written_integer" (.cons (.fld (.var 0) "n") .nil)) (.cons (.call "written_integer" (.cons (.fld (.var 0) "d") .nil)) .nil)))))
 .nil))⟩
def Ratio_inverse : Fn := ⟨["self"], 1, [],
 (.cons (.ret (.mk "Ratio" (.cons (.fld (.var 0) "d") (.cons (.fld (.var 0) "n") .nil))))
 .nil)⟩
def Ratio_over : Fn := ⟨["self", "other"], 2, [],
 (.cons (.ret (.mk "Ratio" (.cons (.bin .mul (.fld (.var 0) "n") (.fld (.var 1) "d")) (.cons (.bin .mul (.fld (.var 0) "d") (.fld (.var 1) "n")) .nil))))
 .nil)⟩
def Ratio_power : Fn := ⟨["self", "k", "_", "n", "d"], 2, [],
 (.cons (.if_ (.cmp .lt (.var 1) (.cint 0))
 (.cons (.ret (.mth (.mth (.var 0) "Ratio" "inverse" .nil) "Ratio" "power" (.cons (.neg (.var 1)) .nil)))
 .nil)
 .nil)
 (.cons (.asgT [3, 4] (.tup (.cons (.cint 1) (.cons (.cint 1) .nil))))
 (.cons (.for_ (.one 2) (.range (.cons (.var 1) .nil))
 (.cons (.asg 3 (.bin .mul (.var 3) (.fld (.var 0) "n")))
 (.cons (.asg 4 (.bin .mul (.var 4) (.fld (.var 0) "d")))
 .nil)))
 (.cons (.ret (.mk "Ratio" (.cons (.var 3) (.cons (.var 4) .nil))))
 .nil))))⟩
def Ratio_compare : Fn := ⟨["self", "other", "gap"], 2, [],
 (.cons (.asg 2 (.bin .sub (.bin .mul (.fld (.var 0) "n") (.fld (.var 1) "d")) (.bin .mul (.fld (.var 1) "n") (.fld (.var 0) "d"))))
 (.cons (.ret (.bin .sub (.blt .int (.cons (.cmp .gt (.var 2) (.cint 0)) .nil)) (.blt .int (.cons (.cmp .lt (.var 2) (.cint 0)) .nil))))
 .nil))⟩
def Ratio_floor : Fn := ⟨["self"], 1, [],
 (.cons (.ret (.bin .fdiv (.fld (.var 0) "n") (.fld (.var 0) "d")))
 .nil)⟩
def Ratio_is_zero : Fn := ⟨["self"], 1, [],
 (.cons (.ret (.cmp .eq (.fld (.var 0) "n") (.cint 0)))
 .nil)⟩
def f_zero : Fn := ⟨[], 0, [],
 (.cons (.ret (.mk "Ratio" (.cons (.cint 0) .nil)))
 .nil)⟩
def f_one : Fn := ⟨[], 0, [],
 (.cons (.ret (.mk "Ratio" (.cons (.cint 1) .nil)))
 .nil)⟩
def f__trimmed : Fn := ⟨["row", "size"], 1, [],
 (.cons (.asg 1 (.blt .len (.cons (.var 0) .nil)))
 (.cons (.while_ (.and_ (.cmp .gt (.var 1) (.cint 0)) (.cmp .eq (.fld (.ix (.var 0) (.bin .sub (.var 1) (.cint 1))) "n") (.cint 0)))
 (.cons (.asg 1 (.bin .sub (.var 1) (.cint 1)))
 .nil))
 (.cons (.ret (.blt .tuple (.cons (.slTo (.var 0) (.var 1)) .nil)))
 .nil)))⟩
def Poly___init__ : Fn := ⟨["self", "row", "c"], 2, [],
 (.cons (.sfld "row" (.call "_trimmed" (.cons (.lc (.one 2) (.seq (.var 1)) (.ite (.blt (.ist "int") (.cons (.var 2) .nil)) (.mk "Ratio" (.cons (.var 2) .nil)) (.var 2))) .nil)))
 .nil)⟩
def Poly___add__ : Fn := ⟨["self", "other", "out", "long", "short", "a", "b"], 2, [],
 (.cons (.par 3 4 (.fld (.var 0) "row") (.fld (.var 1) "row"))
 (.cons (.if_ (.cmp .lt (.blt .len (.cons (.var 3) .nil)) (.blt .len (.cons (.var 4) .nil)))
 (.cons (.par 3 4 (.var 4) (.var 3))
 .nil)
 .nil)
 (.cons (.asg 2 (.lc (.many [5, 6]) (.zip (.var 3) (.var 4)) (.bin .add (.var 5) (.var 6))))
 (.cons (.ret (.mk "Poly" (.cons (.bin .add (.var 2) (.blt .list (.cons (.slFrom (.var 3) (.blt .len (.cons (.var 4) .nil))) .nil))) .nil)))
 .nil))))⟩
def Poly___neg__ : Fn := ⟨["self", "c"], 1, [],
 (.cons (.ret (.mk "Poly" (.cons (.lc (.one 1) (.seq (.fld (.var 0) "row")) (.neg (.var 1))) .nil)))
 .nil)⟩
def Poly___sub__ : Fn := ⟨["self", "other"], 2, [],
 (.cons (.ret (.bin .add (.var 0) (.neg (.var 1))))
 .nil)⟩
def Poly___mul__ : Fn := ⟨["self", "other", "out", "at", "a", "_", "k", "b"], 2, [],
 (.cons (.new 2 (.lc (.one 5) (.range (.cons (.bin .add (.blt .len (.cons (.fld (.var 0) "row") .nil)) (.blt .len (.cons (.fld (.var 1) "row") .nil))) .nil)) (.mk "Ratio" (.cons (.cint 0) .nil))))
 (.cons (.for_ (.many [3, 4]) (.enum (.fld (.var 0) "row"))
 (.cons (.if_ (.cmp .eq (.fld (.var 4) "n") (.cint 0))
 (.cons .cont
 .nil)
 .nil)
 (.cons (.for_ (.many [6, 7]) (.enum (.fld (.var 1) "row"))
 (.cons (.if_ (.cmp .ne (.fld (.var 7) "n") (.cint 0))
 (.cons (.item (.var 2) (.bin .add (.var 3) (.var 6)) (.bin .add (.ix (.var 2) (.bin .add (.var 3) (.var 6))) (.bin .mul (.var 4) (.var 7))))
 .nil)
 .nil)
 .nil))
 .nil)))
 (.cons (.ret (.mk "Poly" (.cons (.frz 2) .nil)))
 .nil)))⟩
def Poly___eq__ : Fn := ⟨["self", "other"], 2, [],
 (.cons (.ret (.and_ (.blt (.isi "Poly") (.cons (.var 1) .nil)) (.cmp .eq (.fld (.var 0) "row") (.fld (.var 1) "row"))))
 .nil)⟩
def Poly___floordiv__ : Fn := ⟨["self", "other"], 2, [],
 (.cons (.ret (.ix (.mth (.var 0) "Poly" "divided" (.cons (.var 1) .nil)) (.cint 0)))
 .nil)⟩
def Poly___mod__ : Fn := ⟨["self", "other"], 2, [],
 (.cons (.ret (.ix (.mth (.var 0) "Poly" "divided" (.cons (.var 1) .nil)) (.cint 1)))
 .nil)⟩
def Poly___call__ : Fn := ⟨["self", "x", "out", "c"], 2, [],
 (.cons (.asg 2 (.mk "Ratio" (.cons (.cint 0) .nil)))
 (.cons (.for_ (.one 3) (.rev (.blt .list (.cons (.fld (.var 0) "row") .nil)))
 (.cons (.asg 2 (.bin .add (.bin .mul (.var 2) (.var 1)) (.var 3)))
 .nil))
 (.cons (.ret (.var 2))
 .nil)))⟩
def Poly_divided : Fn := ⟨["self", "other", "inverse", "rest", "size", "out", "k", "factor", "_", "at", "c"], 2, [],
 (.cons (.asg 2 (.mth (.mth (.var 1) "Poly" "last" .nil) "Ratio" "inverse" .nil))
 (.cons (.new 3 (.blt .list (.cons (.fld (.var 0) "row") .nil)))
 (.cons (.asg 4 (.blt .max2 (.cons (.cint 0) (.cons (.bin .add (.bin .sub (.blt .len (.cons (.fld (.var 0) "row") .nil)) (.blt .len (.cons (.fld (.var 1) "row") .nil))) (.cint 1)) .nil))))
 (.cons (.new 5 (.lc (.one 8) (.range (.cons (.var 4) .nil)) (.mk "Ratio" (.cons (.cint 0) .nil))))
 (.cons (.for_ (.one 6) (.range (.cons (.bin .sub (.var 4) (.cint 1)) (.cons (.neg (.cint 1)) (.cons (.neg (.cint 1)) .nil))))
 (.cons (.asg 7 (.bin .mul (.ix (.var 3) (.bin .sub (.bin .add (.var 6) (.blt .len (.cons (.fld (.var 1) "row") .nil))) (.cint 1))) (.var 2)))
 (.cons (.item (.var 5) (.var 6) (.var 7))
 (.cons (.if_ (.cmp .eq (.fld (.var 7) "n") (.cint 0))
 (.cons .cont
 .nil)
 .nil)
 (.cons (.for_ (.many [9, 10]) (.enum (.fld (.var 1) "row"))
 (.cons (.if_ (.cmp .ne (.fld (.var 10) "n") (.cint 0))
 (.cons (.item (.var 3) (.bin .add (.var 6) (.var 9)) (.bin .sub (.ix (.var 3) (.bin .add (.var 6) (.var 9))) (.bin .mul (.var 7) (.var 10))))
 .nil)
 .nil)
 .nil))
 .nil)))))
 (.cons (.ret (.tup (.cons (.mk "Poly" (.cons (.frz 5) .nil)) (.cons (.mk "Poly" (.cons (.frz 3) .nil)) .nil))))
 .nil))))))⟩
def Poly_degree : Fn := ⟨["self"], 1, [],
 (.cons (.ret (.bin .sub (.blt .len (.cons (.fld (.var 0) "row") .nil)) (.cint 1)))
 .nil)⟩
def Poly_is_zero : Fn := ⟨["self"], 1, [],
 (.cons (.ret (.cmp .eq (.blt .len (.cons (.fld (.var 0) "row") .nil)) (.cint 0)))
 .nil)⟩
def Poly_last : Fn := ⟨["self"], 1, [],
 (.cons (.if_ (.cmp .eq (.blt .len (.cons (.fld (.var 0) "row") .nil)) (.cint 0))
 (.cons .never
 .nil)
 .nil)
 (.cons (.ret (.ix (.fld (.var 0) "row") (.bin .sub (.blt .len (.cons (.fld (.var 0) "row") .nil)) (.cint 1))))
 .nil))⟩
def Poly_coefficient : Fn := ⟨["self", "k"], 2, [],
 (.cons (.if_ (.or_ (.cmp .lt (.var 1) (.cint 0)) (.cmp .ge (.var 1) (.blt .len (.cons (.fld (.var 0) "row") .nil))))
 (.cons (.ret (.mk "Ratio" (.cons (.cint 0) .nil)))
 .nil)
 .nil)
 (.cons (.ret (.ix (.fld (.var 0) "row") (.var 1)))
 .nil))⟩
def Poly_scaled : Fn := ⟨["self", "r", "c"], 2, [],
 (.cons (.ret (.mk "Poly" (.cons (.lc (.one 2) (.seq (.fld (.var 0) "row")) (.bin .mul (.var 1) (.var 2))) .nil)))
 .nil)⟩
def Poly_power : Fn := ⟨["self", "k", "out", "_"], 2, [],
 (.cons (.asg 2 (.mk "Poly" (.cons (.tup (.cons (.cint 1) .nil)) .nil)))
 (.cons (.for_ (.one 3) (.range (.cons (.var 1) .nil))
 (.cons (.asg 2 (.bin .mul (.var 2) (.var 0)))
 .nil))
 (.cons (.ret (.var 2))
 .nil)))⟩
def Poly_monic : Fn := ⟨["self"], 1, [],
 (.cons (.if_ (.cmp .eq (.blt .len (.cons (.fld (.var 0) "row") .nil)) (.cint 0))
 (.cons (.ret (.var 0))
 .nil)
 .nil)
 (.cons (.ret (.mth (.var 0) "Poly" "scaled" (.cons (.mth (.mth (.var 0) "Poly" "last" .nil) "Ratio" "inverse" .nil) .nil)))
 .nil))⟩
def Poly_derivative : Fn := ⟨["self", "k"], 1, [],
 (.cons (.ret (.mk "Poly" (.cons (.lc (.one 1) (.range (.cons (.cint 1) (.cons (.blt .len (.cons (.fld (.var 0) "row") .nil)) .nil))) (.bin .mul (.mk "Ratio" (.cons (.var 1) .nil)) (.ix (.fld (.var 0) "row") (.var 1)))) .nil)))
 .nil)⟩
def Poly_primitive : Fn := ⟨["self", "c", "numbers", "scale", "common"], 1, [],
 (.cons (.asgT [3, 4] (.tup (.cons (.cint 1) (.cons (.cint 0) .nil))))
 (.cons (.for_ (.one 1) (.seq (.fld (.var 0) "row"))
 (.cons (.asg 3 (.blt .lcm (.cons (.var 3) (.cons (.fld (.var 1) "d") .nil))))
 .nil))
 (.cons (.for_ (.one 1) (.seq (.fld (.var 0) "row"))
 (.cons (.asg 4 (.blt .gcd (.cons (.var 4) (.cons (.bin .mul (.fld (.var 1) "n") (.bin .fdiv (.var 3) (.fld (.var 1) "d"))) .nil))))
 .nil))
 (.cons (.if_ (.cmp .lt (.fld (.mth (.var 0) "Poly" "last" .nil) "n") (.cint 0))
 (.cons (.asg 4 (.neg (.var 4)))
 .nil)
 .nil)
 (.cons (.asg 2 (.blt .tuple (.cons (.lc (.one 1) (.seq (.fld (.var 0) "row")) (.bin .fdiv (.bin .mul (.fld (.var 1) "n") (.bin .fdiv (.var 3) (.fld (.var 1) "d"))) (.var 4))) .nil)))
 (.cons (.ret (.tup (.cons (.mk "Ratio" (.cons (.var 4) (.cons (.var 3) .nil))) (.cons (.var 2) .nil))))
 .nil))))))⟩
def f_constant : Fn := ⟨["r"], 1, [],
 (.cons (.ret (.mk "Poly" (.cons (.tup (.cons (.var 0) .nil)) .nil)))
 .nil)⟩
def f__primitive_row : Fn := ⟨["row", "size", "common", "n"], 1, [],
 (.cons (.asg 1 (.blt .len (.cons (.var 0) .nil)))
 (.cons (.while_ (.and_ (.cmp .gt (.var 1) (.cint 0)) (.cmp .eq (.ix (.var 0) (.bin .sub (.var 1) (.cint 1))) (.cint 0)))
 (.cons (.asg 1 (.bin .sub (.var 1) (.cint 1)))
 .nil))
 (.cons (.asg 2 (.cint 0))
 (.cons (.for_ (.one 3) (.seq (.slTo (.var 0) (.var 1)))
 (.cons (.asg 2 (.blt .gcd (.cons (.var 2) (.cons (.var 3) .nil))))
 .nil))
 (.cons (.if_ (.cmp .lt (.var 2) (.cint 2))
 (.cons (.ret (.slTo (.var 0) (.var 1)))
 .nil)
 .nil)
 (.cons (.ret (.lc (.one 3) (.seq (.slTo (.var 0) (.var 1))) (.bin .fdiv (.var 3) (.var 2))))
 .nil))))))⟩
def f__integer_rest : Fn := ⟨["first", "second", "rest", "head", "common", "times", "factor", "shift", "at", "n"], 2, [],
 (.cons (.new 2 (.blt .list (.cons (.var 0) .nil)))
 (.cons (.asg 3 (.ix (.var 1) (.bin .sub (.blt .len (.cons (.var 1) .nil)) (.cint 1))))
 (.cons (.while_ (.cmp .ge (.blt .len (.cons (.var 2) .nil)) (.blt .len (.cons (.var 1) .nil)))
 (.cons (.asg 4 (.blt .gcd (.cons (.var 3) (.cons (.ix (.var 2) (.bin .sub (.blt .len (.cons (.var 2) .nil)) (.cint 1))) .nil))))
 (.cons (.asg 5 (.bin .fdiv (.var 3) (.var 4)))
 (.cons (.asg 6 (.bin .fdiv (.ix (.var 2) (.bin .sub (.blt .len (.cons (.var 2) .nil)) (.cint 1))) (.var 4)))
 (.cons (.asg 7 (.bin .sub (.blt .len (.cons (.var 2) .nil)) (.blt .len (.cons (.var 1) .nil))))
 (.cons (.new 2 (.lc (.one 9) (.seq (.var 2)) (.bin .mul (.var 5) (.var 9))))
 (.cons (.for_ (.many [8, 9]) (.enum (.var 1))
 (.cons (.item (.var 2) (.bin .add (.var 7) (.var 8)) (.bin .sub (.ix (.var 2) (.bin .add (.var 7) (.var 8))) (.bin .mul (.var 6) (.var 9))))
 .nil))
 (.cons (.while_ (.and_ (.cmp .gt (.blt .len (.cons (.var 2) .nil)) (.cint 0)) (.cmp .eq (.ix (.var 2) (.bin .sub (.blt .len (.cons (.var 2) .nil)) (.cint 1))) (.cint 0)))
 (.cons (.pop 2)
 .nil))
 .nil))))))))
 (.cons (.ret (.call "_primitive_row" (.cons (.frz 2) .nil)))
 .nil))))⟩
def f_common_divisor : Fn := ⟨["p", "q", "head", "first", "second", "n"], 2, [],
 (.cons (.if_ (.or_ (.mth (.var 0) "Poly" "is_zero" .nil) (.mth (.var 1) "Poly" "is_zero" .nil))
 (.cons (.ret (.ite (.mth (.var 1) "Poly" "is_zero" .nil) (.mth (.var 0) "Poly" "monic" .nil) (.mth (.var 1) "Poly" "monic" .nil)))
 .nil)
 .nil)
 (.cons (.if_ (.or_ (.cmp .eq (.mth (.var 0) "Poly" "degree" .nil) (.cint 0)) (.cmp .eq (.mth (.var 1) "Poly" "degree" .nil) (.cint 0)))
 (.cons (.ret (.mk "Poly" (.cons (.tup (.cons (.cint 1) .nil)) .nil)))
 .nil)
 .nil)
 (.cons (.par 3 4 (.blt .list (.cons (.ix (.mth (.var 0) "Poly" "primitive" .nil) (.cint 1)) .nil)) (.blt .list (.cons (.ix (.mth (.var 1) "Poly" "primitive" .nil) (.cint 1)) .nil)))
 (.cons (.while_ (.cmp .gt (.blt .len (.cons (.var 4) .nil)) (.cint 0))
 (.cons (.par 3 4 (.var 4) (.call "_integer_rest" (.cons (.var 3) (.cons (.var 4) .nil))))
 .nil))
 (.cons (.asg 2 (.ix (.var 3) (.bin .sub (.blt .len (.cons (.var 3) .nil)) (.cint 1))))
 (.cons (.ret (.mk "Poly" (.cons (.lc (.one 5) (.seq (.var 3)) (.mk "Ratio" (.cons (.var 5) (.cons (.var 2) .nil)))) .nil)))
 .nil))))))⟩
def RatFun___init__ : Fn := ⟨["self", "num", "den", "common", "low", "scale"], 3, [],
 (.cons (.if_ (.mth (.var 2) "Poly" "is_zero" .nil)
 (.cons .never
 .nil)
 .nil)
 (.cons (.if_ (.mth (.var 1) "Poly" "is_zero" .nil)
 (.cons (.sfld "num" (.var 1))
 (.cons (.sfld "den" (.call "constant" (.cons (.call "one" .nil) .nil)))
 .nil))
 (.cons (.if_ (.cmp .eq (.mth (.var 2) "Poly" "degree" .nil) (.cint 0))
 (.cons (.sfld "num" (.mth (.var 1) "Poly" "scaled" (.cons (.mth (.mth (.var 2) "Poly" "last" .nil) "Ratio" "inverse" .nil) .nil)))
 (.cons (.sfld "den" (.call "constant" (.cons (.call "one" .nil) .nil)))
 .nil))
 (.cons (.asg 3 (.call "common_divisor" (.cons (.var 1) (.cons (.var 2) .nil))))
 (.cons (.asg 4 (.bin .fdiv (.var 2) (.var 3)))
 (.cons (.asg 5 (.mth (.mth (.var 4) "Poly" "last" .nil) "Ratio" "inverse" .nil))
 (.cons (.sfld "num" (.mth (.bin .fdiv (.var 1) (.var 3)) "Poly" "scaled" (.cons (.var 5) .nil)))
 (.cons (.sfld "den" (.mth (.var 4) "Poly" "scaled" (.cons (.var 5) .nil)))
 .nil))))))
 .nil))
 .nil))⟩
def RatFun___eq__ : Fn := ⟨["self", "other"], 2, [],
 (.cons (.ret (.and_ (.blt (.isi "RatFun") (.cons (.var 1) .nil)) (.and_ (.cmp .eq (.fld (.var 0) "num") (.fld (.var 1) "num")) (.cmp .eq (.fld (.var 0) "den") (.fld (.var 1) "den")))))
 .nil)⟩
def RatFun___add__ : Fn := ⟨["self", "other"], 2, [],
 (.cons (.if_ (.cmp .eq (.fld (.var 0) "den") (.fld (.var 1) "den"))
 (.cons (.ret (.mk "RatFun" (.cons (.bin .add (.fld (.var 0) "num") (.fld (.var 1) "num")) (.cons (.fld (.var 0) "den") .nil))))
 .nil)
 .nil)
 (.cons (.ret (.mk "RatFun" (.cons (.bin .add (.bin .mul (.fld (.var 0) "num") (.fld (.var 1) "den")) (.bin .mul (.fld (.var 1) "num") (.fld (.var 0) "den"))) (.cons (.bin .mul (.fld (.var 0) "den") (.fld (.var 1) "den")) .nil))))
 .nil))⟩
def RatFun___sub__ : Fn := ⟨["self", "other"], 2, [],
 (.cons (.if_ (.cmp .eq (.fld (.var 0) "den") (.fld (.var 1) "den"))
 (.cons (.ret (.mk "RatFun" (.cons (.bin .sub (.fld (.var 0) "num") (.fld (.var 1) "num")) (.cons (.fld (.var 0) "den") .nil))))
 .nil)
 .nil)
 (.cons (.ret (.mk "RatFun" (.cons (.bin .sub (.bin .mul (.fld (.var 0) "num") (.fld (.var 1) "den")) (.bin .mul (.fld (.var 1) "num") (.fld (.var 0) "den"))) (.cons (.bin .mul (.fld (.var 0) "den") (.fld (.var 1) "den")) .nil))))
 .nil))⟩
def RatFun___mul__ : Fn := ⟨["self", "other"], 2, [],
 (.cons (.ret (.mk "RatFun" (.cons (.bin .mul (.fld (.var 0) "num") (.fld (.var 1) "num")) (.cons (.bin .mul (.fld (.var 0) "den") (.fld (.var 1) "den")) .nil))))
 .nil)⟩
def RatFun___neg__ : Fn := ⟨["self"], 1, [],
 (.cons (.ret (.mk "RatFun" (.cons (.neg (.fld (.var 0) "num")) (.cons (.fld (.var 0) "den") .nil))))
 .nil)⟩
def RatFun___floordiv__ : Fn := ⟨["self", "other"], 2, [],
 (.cons (.if_ (.mth (.fld (.var 1) "num") "Poly" "is_zero" .nil)
 (.cons .never
 .nil)
 .nil)
 (.cons (.ret (.mk "RatFun" (.cons (.bin .mul (.fld (.var 0) "num") (.fld (.var 1) "den")) (.cons (.bin .mul (.fld (.var 0) "den") (.fld (.var 1) "num")) .nil))))
 .nil))⟩
def RatFun___call__ : Fn := ⟨["self", "q", "below"], 2, [],
 (.cons (.asg 2 (.app (.fld (.var 0) "den") "Poly" (.cons (.var 1) .nil)))
 (.cons (.if_ (.mth (.var 2) "Ratio" "is_zero" .nil)
 (.cons (.ret .cnon)
 .nil)
 .nil)
 (.cons (.ret (.mth (.app (.fld (.var 0) "num") "Poly" (.cons (.var 1) .nil)) "Ratio" "over" (.cons (.var 2) .nil)))
 .nil)))⟩
def RatFun_is_zero : Fn := ⟨["self"], 1, [],
 (.cons (.ret (.mth (.fld (.var 0) "num") "Poly" "is_zero" .nil))
 .nil)⟩
def RatFun_derivative : Fn := ⟨["self", "top"], 1, [],
 (.cons (.asg 1 (.bin .sub (.bin .mul (.mth (.fld (.var 0) "num") "Poly" "derivative" .nil) (.fld (.var 0) "den")) (.bin .mul (.fld (.var 0) "num") (.mth (.fld (.var 0) "den") "Poly" "derivative" .nil))))
 (.cons (.ret (.mk "RatFun" (.cons (.var 1) (.cons (.bin .mul (.fld (.var 0) "den") (.fld (.var 0) "den")) .nil))))
 .nil))⟩
def RatFun_log_derivative : Fn := ⟨["self"], 1, [],
 (.cons (.if_ (.mth (.fld (.var 0) "num") "Poly" "is_zero" .nil)
 (.cons .never
 .nil)
 .nil)
 (.cons (.ret (.bin .fdiv (.mth (.var 0) "RatFun" "derivative" .nil) (.var 0)))
 .nil))⟩
def RatFun_inverse : Fn := ⟨["self"], 1, [],
 (.cons (.if_ (.mth (.fld (.var 0) "num") "Poly" "is_zero" .nil)
 (.cons .never
 .nil)
 .nil)
 (.cons (.ret (.mk "RatFun" (.cons (.fld (.var 0) "den") (.cons (.fld (.var 0) "num") .nil))))
 .nil))⟩
def RatFun_power : Fn := ⟨["self", "k"], 2, [],
 (.cons (.if_ (.cmp .lt (.var 1) (.cint 0))
 (.cons (.ret (.mth (.mth (.var 0) "RatFun" "inverse" .nil) "RatFun" "power" (.cons (.neg (.var 1)) .nil)))
 .nil)
 .nil)
 (.cons (.ret (.mk "RatFun" (.cons (.mth (.fld (.var 0) "num") "Poly" "power" (.cons (.var 1) .nil)) (.cons (.mth (.fld (.var 0) "den") "Poly" "power" (.cons (.var 1) .nil)) .nil))))
 .nil))⟩
def RatFun_degree : Fn := ⟨["self"], 1, [],
 (.cons (.if_ (.mth (.fld (.var 0) "num") "Poly" "is_zero" .nil)
 (.cons .never
 .nil)
 .nil)
 (.cons (.ret (.bin .sub (.mth (.fld (.var 0) "num") "Poly" "degree" .nil) (.mth (.fld (.var 0) "den") "Poly" "degree" .nil)))
 .nil))⟩
def f_of_poly : Fn := ⟨["p"], 1, [],
 (.cons (.ret (.mk "RatFun" (.cons (.var 0) (.cons (.call "constant" (.cons (.call "one" .nil) .nil)) .nil))))
 .nil)⟩
def f_of_ratio : Fn := ⟨["q"], 1, [],
 (.cons (.ret (.call "of_poly" (.cons (.call "constant" (.cons (.var 0) .nil)) .nil)))
 .nil)⟩
def f_added : Fn := ⟨["items", "total", "item"], 1, [],
 (.cons (.asg 1 (.call "of_ratio" (.cons (.call "zero" .nil) .nil)))
 (.cons (.for_ (.one 2) (.seq (.var 0))
 (.cons (.asg 1 (.bin .add (.var 1) (.var 2)))
 .nil))
 (.cons (.ret (.var 1))
 .nil)))⟩
def f_multiplied : Fn := ⟨["items", "total", "item"], 1, [],
 (.cons (.asg 1 (.call "of_ratio" (.cons (.call "one" .nil) .nil)))
 (.cons (.for_ (.one 2) (.seq (.var 0))
 (.cons (.asg 1 (.bin .mul (.var 1) (.var 2)))
 .nil))
 (.cons (.ret (.var 1))
 .nil)))⟩
def f_part_of : Fn := ⟨["e"], 1, [],
 (.cons (.ret (.bin .sub (.var 0) (.mk "Ratio" (.cons (.mth (.var 0) "Ratio" "floor" .nil) .nil))))
 .nil)⟩
def f_in_order : Fn := ⟨["numbers", "found", "number", "at"], 1, [],
 (.cons (.asg 1 (.lst .nil))
 (.cons (.for_ (.one 2) (.seq (.var 0))
 (.cons (.asg 3 (.cint 0))
 (.cons (.while_ (.and_ (.cmp .lt (.var 3) (.blt .len (.cons (.var 1) .nil))) (.cmp .lt (.mth (.ix (.var 1) (.var 3)) "Ratio" "compare" (.cons (.var 2) .nil)) (.cint 0)))
 (.cons (.aug 3 .add (.cint 1))
 .nil))
 (.cons (.if_ (.or_ (.cmp .eq (.var 3) (.blt .len (.cons (.var 1) .nil))) (.cmp .ne (.ix (.var 1) (.var 3)) (.var 2)))
 (.cons (.asg 1 (.bin .add (.bin .add (.slTo (.var 1) (.var 3)) (.lst (.cons (.var 2) .nil))) (.slFrom (.var 1) (.var 3))))
 .nil)
 .nil)
 .nil))))
 (.cons (.ret (.var 1))
 .nil)))⟩
def f_line : Fn := ⟨["s"], 1, [],
 (.cons (.ret (.mk "Poly" (.cons (.tup (.cons (.neg (.var 0)) (.cons (.mk "Ratio" (.cons (.cint 1) .nil)) .nil))) .nil)))
 .nil)⟩
def PowerProduct___init__ : Fn := ⟨["self", "factors", "points", "kept", "point", "total", "s", "e", "_"], 2, [],
 (.cons (.asg 2 (.call "in_order" (.cons (.lc (.many [6, 8]) (.seq (.var 1)) (.var 6)) .nil)))
 (.cons (.new 3 (.lst .nil))
 (.cons (.for_ (.one 4) (.seq (.var 2))
 (.cons (.asg 5 (.mk "Ratio" (.cons (.cint 0) .nil)))
 (.cons (.for_ (.many [6, 7]) (.seq (.var 1))
 (.cons (.if_ (.cmp .eq (.var 6) (.var 4))
 (.cons (.asg 5 (.bin .add (.var 5) (.var 7)))
 .nil)
 .nil)
 .nil))
 (.cons (.if_ (.not_ (.mth (.call "part_of" (.cons (.var 5) .nil)) "Ratio" "is_zero" .nil))
 (.cons (.app 3 (.tup (.cons (.var 4) (.cons (.call "part_of" (.cons (.var 5) .nil)) .nil))))
 .nil)
 .nil)
 .nil))))
 (.cons (.sfld "pairs" (.blt .tuple (.cons (.var 3) .nil)))
 .nil))))⟩
def PowerProduct_without_factors : Fn := ⟨["cls"], 1, [],
 (.cons (.ret (.mkv 0 (.cons (.tup .nil) .nil)))
 .nil)⟩
def PowerProduct___len__ : Fn := ⟨["self"], 1, [],
 (.cons (.ret (.blt .len (.cons (.fld (.var 0) "pairs") .nil)))
 .nil)⟩
def PowerProduct___eq__ : Fn := ⟨["self", "other"], 2, [],
 (.cons (.ret (.and_ (.blt (.isi "PowerProduct") (.cons (.var 1) .nil)) (.cmp .eq (.fld (.var 0) "pairs") (.fld (.var 1) "pairs"))))
 .nil)⟩
def PowerProduct___mul__ : Fn := ⟨["self", "other"], 2, [],
 (.cons (.ret (.mk "PowerProduct" (.cons (.bin .add (.fld (.var 0) "pairs") (.fld (.var 1) "pairs")) .nil)))
 .nil)⟩
def PowerProduct_exponent : Fn := ⟨["self", "s", "point", "e"], 2, [],
 (.cons (.for_ (.many [2, 3]) (.seq (.fld (.var 0) "pairs"))
 (.cons (.if_ (.cmp .eq (.var 2) (.var 1))
 (.cons (.ret (.var 3))
 .nil)
 .nil)
 .nil))
 (.cons (.ret (.mk "Ratio" (.cons (.cint 0) .nil)))
 .nil))⟩
def PowerProduct_surplus : Fn := ⟨["self", "other", "found", "s", "e"], 2, [],
 (.cons (.new 2 (.lst .nil))
 (.cons (.for_ (.many [3, 4]) (.seq (.fld (.var 0) "pairs"))
 (.cons (.if_ (.cmp .gt (.mth (.bin .add (.var 4) (.mth (.var 1) "PowerProduct" "exponent" (.cons (.var 3) .nil))) "Ratio" "floor" .nil) (.cint 0))
 (.cons (.app 2 (.call "of_poly" (.cons (.call "line" (.cons (.var 3) .nil)) .nil)))
 .nil)
 .nil)
 .nil))
 (.cons (.ret (.call "multiplied" (.cons (.frz 2) .nil)))
 .nil)))⟩
def PowerProduct_log_derivative : Fn := ⟨["self", "s", "e"], 1, [],
 (.cons (.ret (.call "added" (.cons (.lc (.many [1, 2]) (.seq (.fld (.var 0) "pairs")) (.mk "RatFun" (.cons (.call "constant" (.cons (.var 2) .nil)) (.cons (.call "line" (.cons (.var 1) .nil)) .nil)))) .nil)))
 .nil)⟩
def PowerProduct___str__ : Fn := ⟨["self", "pieces", "s", "e", "base"], 1, [],
 (.cons (.new 1 (.lst .nil))
 (.cons (.for_ (.many [2, 3]) (.seq (.fld (.var 0) "pairs"))
 (.cons (.asg 4 (.cstr "x"))
 (.cons (.if_ (.cmp .gt (.fld (.var 2) "n") (.cint 0))
 (.cons (.asg 4 (.fstr (.cons (.cstr "(x - ") (.cons (.fmt (.blt .str (.cons (.var 2) .nil))) (.cons (.cstr ")") .nil)))))
 .nil)
 .nil)
 (.cons (.if_ (.cmp .lt (.fld (.var 2) "n") (.cint 0))
 (.cons (.asg 4 (.fstr (.cons (.cstr "(x + ") (.cons (.fmt (.blt .str (.cons (.neg (.var 2)) .nil))) (.cons (.cstr ")") .nil)))))
 .nil)
 .nil)
 (.cons (.app 1 (.fstr (.cons (.fmt (.var 4)) (.cons (.cstr "^(") (.cons (.fmt (.blt .str (.cons (.var 3) .nil))) (.cons (.cstr ")") .nil))))))
 .nil)))))
 (.cons (.if_ (.cmp .eq (.blt .len (.cons (.var 1) .nil)) (.cint 0))
 (.cons (.ret (.cstr "1"))
 .nil)
 .nil)
 (.cons (.ret (.join "*" (.var 1)))
 .nil))))⟩
end Pg

set_option linter.all false
set_option maxRecDepth 100000
set_option exponentiation.threshold 500000
/-! EvA: evaluation of the program's defs: base, Ratio. -/
namespace Ev
open Iv
/-- the text has the program's defs -/
structure Base (G : Gi) : Prop where
  r_init : G.fn ("Ratio", "__init__") = some Pg.Ratio___init__
  r_add : G.fn ("Ratio", "__add__") = some Pg.Ratio___add__
  r_sub : G.fn ("Ratio", "__sub__") = some Pg.Ratio___sub__
  r_mul : G.fn ("Ratio", "__mul__") = some Pg.Ratio___mul__
  r_neg : G.fn ("Ratio", "__neg__") = some Pg.Ratio___neg__
  r_eq : G.fn ("Ratio", "__eq__") = some Pg.Ratio___eq__
  r_inverse : G.fn ("Ratio", "inverse") = some Pg.Ratio_inverse
  r_over : G.fn ("Ratio", "over") = some Pg.Ratio_over
  r_is_zero : G.fn ("Ratio", "is_zero") = some Pg.Ratio_is_zero
  g_one : G.fn ("", "one") = some Pg.f_one
  g_trimmed : G.fn ("", "_trimmed") = some Pg.f__trimmed
  p_init : G.fn ("Poly", "__init__") = some Pg.Poly___init__
  p_add : G.fn ("Poly", "__add__") = some Pg.Poly___add__
  p_neg : G.fn ("Poly", "__neg__") = some Pg.Poly___neg__
  p_sub : G.fn ("Poly", "__sub__") = some Pg.Poly___sub__
  p_mul : G.fn ("Poly", "__mul__") = some Pg.Poly___mul__
  p_eq : G.fn ("Poly", "__eq__") = some Pg.Poly___eq__
  p_floordiv : G.fn ("Poly", "__floordiv__") = some Pg.Poly___floordiv__
  p_mod : G.fn ("Poly", "__mod__") = some Pg.Poly___mod__
  p_call : G.fn ("Poly", "__call__") = some Pg.Poly___call__
  p_divided : G.fn ("Poly", "divided") = some Pg.Poly_divided
  p_degree : G.fn ("Poly", "degree") = some Pg.Poly_degree
  p_is_zero : G.fn ("Poly", "is_zero") = some Pg.Poly_is_zero
  p_last : G.fn ("Poly", "last") = some Pg.Poly_last
  p_coefficient : G.fn ("Poly", "coefficient") = some Pg.Poly_coefficient
  p_scaled : G.fn ("Poly", "scaled") = some Pg.Poly_scaled
  p_monic : G.fn ("Poly", "monic") = some Pg.Poly_monic
  p_primitive : G.fn ("Poly", "primitive") = some Pg.Poly_primitive
  g_constant : G.fn ("", "constant") = some Pg.f_constant
  g_primitive_row : G.fn ("", "_primitive_row") = some Pg.f__primitive_row
  g_integer_rest : G.fn ("", "_integer_rest") = some Pg.f__integer_rest
  g_common_divisor : G.fn ("", "common_divisor") = some Pg.f_common_divisor
  f_init : G.fn ("RatFun", "__init__") = some Pg.RatFun___init__
  f_eq : G.fn ("RatFun", "__eq__") = some Pg.RatFun___eq__
  f_add : G.fn ("RatFun", "__add__") = some Pg.RatFun___add__
  f_sub : G.fn ("RatFun", "__sub__") = some Pg.RatFun___sub__
  f_mul : G.fn ("RatFun", "__mul__") = some Pg.RatFun___mul__
  f_neg : G.fn ("RatFun", "__neg__") = some Pg.RatFun___neg__
  f_call : G.fn ("RatFun", "__call__") = some Pg.RatFun___call__
  f_is_zero : G.fn ("RatFun", "is_zero") = some Pg.RatFun_is_zero
  g_of_poly : G.fn ("", "of_poly") = some Pg.f_of_poly
  g_of_ratio : G.fn ("", "of_ratio") = some Pg.f_of_ratio
  fr : G.fld "Ratio" = ["n", "d"]
  fp : G.fld "Poly" = ["row"]
  ff : G.fld "RatFun" = ["num", "den"]
  cr : G.cls "Ratio" = true
  cp : G.cls "Poly" = true
  cf : G.cls "RatFun" = true
/-- a call that gives a value and leaves the store -/
def PF (G : Gi) (d : Nat) (k : Key) (ds : List DV) (v : DV) : Prop := ∀ n S, d ≤ n → (orc G n).call 0 k ds S = some (v, S)
theorem PF.low {G : Gi} {d : Nat} {k : Key} {ds : List DV} {v : DV} (h : PF G d k ds v) {n j : Nat} {S : Store} (hn : d + j ≤ n) : (orc G n).call j k ds S = some (v, S) := by
  obtain ⟨m, rfl⟩ : ∃ m, n = m + j := ⟨n - j, by omega⟩
  rw [orc_add]; exact h m S (by omega)
theorem okG_self {n : Nat} : ∀ {S T : Store}, okG n S (S ++ T)
  | [], _ => trivial
  | c :: S, T => ⟨.inl rfl, okG_self⟩
theorem gc_pure {S T : Store} {d : DV} (h : pur d = true) : gc S (S ++ T) d = (d, S) := by
  unfold gc
  rw [if_pos okG_self, if_pos h, List.take_left']
  rfl
theorem gc_self {S : Store} {d : DV} (h : pur d = true) : gc S S d = (d, S) := by
  have := gc_pure (S := S) (T := []) h
  rwa [List.append_nil] at this
/-- from the body -/
theorem pf_of {G : Gi} {d : Nat} {k : Key} {ds : List DV} {v : DV} {fn : Fn} (hG : G.fn k = some fn) (hl : (fillD fn ds).length = fn.np) (hp : pur v = true)
    (h : ∀ n S, d ≤ n → ∃ T, evB (orc G n) G fn.body ((fillD fn ds).map some ++ List.replicate (fn.nm.length - fn.np) none) S = some (.rt v (S ++ T)) ∨ (v = .non ∧ ∃ en, evB (orc G n) G fn.body ((fillD fn ds).map some ++ List.replicate (fn.nm.length - fn.np) none) S = some (.nx en (S ++ T)))) :
    PF G (d + 1) k ds v := by
  intro n S hn
  obtain ⟨m, rfl⟩ : ∃ m, n = m + 1 := ⟨n - 1, by omega⟩
  rw [orc_zero, hG]
  dsimp only
  unfold evFn
  rw [if_pos hl]
  obtain ⟨T, e | ⟨rfl, en, e⟩⟩ := h m S (by omega)
  · rw [e]; exact congrArg some (gc_pure hp)
  · rw [e]; exact congrArg some (gc_pure hp)
theorem okG_last {n : Nat} {c0 c : Cell} (h : cloC n c = true) : ∀ {S : Store}, okG n (S ++ [c0]) (S ++ [c])
  | [] => ⟨.inr h, trivial⟩
  | x :: S => ⟨.inl rfl, okG_last h⟩
theorem gc_last {S : Store} {c0 c : Cell} (h : cloC (S.length + 1) c = true) : gc (S ++ [c0]) (S ++ [c]) .non = (.non, S ++ [c]) := by
  unfold gc
  have e : (S ++ [c0]).length = S.length + 1 := by simp
  rw [if_pos (by rw [e]; exact okG_last h), if_pos (show pur .non = true from rfl), e, List.take_of_length_le (by simp)]
/-! ### Ratio -/
def R (q : Rat) : DV := .obj "Ratio" [.int q.num, .int q.den]
theorem pur_R (q : Rat) : pur (R q) = true := rfl
abbrev big : Nat := 4000
/-- no great number -/
def Sm (q : Rat) : Prop := q.num.natAbs < 2 ^ big ∧ q.den < 2 ^ big
theorem mul_ok {a b : Int} (ha : a.natAbs < 2 ^ 400000) (hb : b.natAbs < 2 ^ 400000) : mulOk a b := by
  unfold mulOk
  have h1 : a.natAbs.log2 < 400001 := by
    by_cases h : a.natAbs = 0
    · rw [h]; decide
    · exact Nat.lt_succ_of_lt ((Nat.log2_lt h).mpr ha)
  have h2 : b.natAbs.log2 < 400001 := by
    by_cases h : b.natAbs = 0
    · rw [h]; decide
    · exact Nat.lt_succ_of_lt ((Nat.log2_lt h).mpr hb)
  omega
theorem div_ok {a b : Int} (hb : b.natAbs < 2 ^ 9000) (h0 : b ≠ 0) : divOk a b := ⟨h0, (Nat.log2_lt (by omega)).mpr hb⟩
theorem gcd_facts {n d : Int} (hd : d ≠ 0) : gcdD n d ≠ 0 ∧ 0 < gcdD n d ∧ gcdD n d ∣ n ∧ gcdD n d ∣ d ∧ (gcdD n d).natAbs ≤ d.natAbs := by
  have h : 0 < Int.gcd n d := Int.gcd_pos_of_ne_zero_right _ hd
  unfold gcdD
  refine ⟨by omega, by omega, Int.gcd_dvd_left .., Int.gcd_dvd_right .., ?_⟩
  exact Nat.le_of_dvd (by omega) (Int.natAbs_dvd_natAbs.mpr (Int.gcd_dvd_right ..))
theorem fdiv_of_dvd {a b : Int} (h : b ∣ a) : a.fdiv b = a / b := by rw [Int.fdiv_eq_ediv]; simp [h]
theorem num_pos {n d : Int} (h : 0 < d) : n / gcdD n d = (Rat.divInt n d).num := by
  rw [Rat.num_divInt, Int.sign_eq_one_of_pos h, Int.one_mul]; unfold gcdD; rw [Int.gcd_comm]
theorem den_pos' {n d : Int} (h : 0 < d) : d / gcdD n d = (Rat.divInt n d).den := by
  rw [Rat.den_divInt, if_neg (by omega), Int.natCast_ediv]; unfold gcdD; rw [Int.gcd_comm, Int.natAbs_of_nonneg (by omega)]
theorem num_neg {n d : Int} (h : d < 0) : n / (- gcdD n d) = (Rat.divInt n d).num := by
  have e : Rat.divInt n d = Rat.divInt (-n) (-d) := by rw [Rat.neg_divInt_neg]
  have := num_pos (n := -n) (d := -d) (by omega)
  rw [e, ← this]
  have g : gcdD (-n) (-d) = gcdD n d := by unfold gcdD; rw [Int.gcd_neg, Int.neg_gcd]
  rw [g, Int.ediv_neg, Int.neg_ediv_of_dvd (gcd_facts (by omega)).2.2.1]
theorem den_neg' {n d : Int} (h : d < 0) : d / (- gcdD n d) = (Rat.divInt n d).den := by
  have e : Rat.divInt n d = Rat.divInt (-n) (-d) := by rw [Rat.neg_divInt_neg]
  have := den_pos' (n := -n) (d := -d) (by omega)
  rw [e, ← this]
  have g : gcdD (-n) (-d) = gcdD n d := by unfold gcdD; rw [Int.gcd_neg, Int.neg_gcd]
  rw [g, Int.ediv_neg, Int.neg_ediv_of_dvd (gcd_facts (by omega)).2.2.2.1]
theorem Ratio_init {G : Gi} (b : Base G) {n d : Int} (hd : d ≠ 0) (hs : d.natAbs < 2 ^ 9000) (m : Nat) (S : Store) :
    (orc G (m + 1)).call 0 ("Ratio", "__init__") [.ref S.length, .int n, .int d] (S ++ [.ins "Ratio" []]) = some (.non, S ++ [.ins "Ratio" [("n", .int (Rat.divInt n d).num), ("d", .int (Rat.divInt n d).den)]]) := by
  rw [orc_zero, b.r_init]
  dsimp only
  unfold evFn
  have e : fillD Pg.Ratio___init__ [.ref S.length, .int n, .int d] = [.ref S.length, .int n, .int d] := rfl
  rw [e]
  have h0 : (d == 0) = false := by simpa using hd
  obtain ⟨g1, g2, g3, g4, g5⟩ := gcd_facts (n := n) hd
  have gs : (gcdD n d).natAbs < 2 ^ 9000 := by omega
  have ok1 : divOk n (gcdD n d) := div_ok gs g1
  have ok2 : divOk d (gcdD n d) := div_ok gs g1
  have ok3 : divOk n (-gcdD n d) := div_ok (by simpa using gs) (by omega)
  have ok4 : divOk d (-gcdD n d) := div_ok (by simpa using gs) (by omega)
  have gcS : ∀ a b : Int, gc (S ++ [.ins "Ratio" []]) (S ++ [.ins "Ratio" [("n", .int a), ("d", .int b)]]) .non = (.non, S ++ [.ins "Ratio" [("n", .int a), ("d", .int b)]]) := fun a b => gc_last (by simp [cloC, cloL, cloD])
  by_cases hp : 0 < d
  · simp [Pg.Ratio___init__, evB, evS, evE, evEs, eqD, h0, bltD, hp, binD, intOp, ok1, ok2, b.fr, b.cr, fdiv_of_dvd g3, fdiv_of_dvd g4, num_pos hp, den_pos' hp, gcS]
  · have hn : d < 0 := by omega
    simp [Pg.Ratio___init__, evB, evS, evE, evEs, eqD, h0, bltD, hp, binD, intOp, ok3, ok4, b.fr, b.cr, fdiv_of_dvd (Int.neg_dvd.mpr g3), fdiv_of_dvd (Int.neg_dvd.mpr g4), num_neg hn, den_neg' hn, gcS]
/-- Ratio(n, d) -/
theorem mk_Ratio {G : Gi} (b : Base G) {n d : Int} (hd : d ≠ 0) (hs : d.natAbs < 2 ^ 9000) {m : Nat} (hm : 2 ≤ m) (S : Store) :
    makeD (orc G m) G "Ratio" [.int n, .int d] S = some (R (Rat.divInt n d), S) := by
  obtain ⟨k, rfl⟩ : ∃ k, m = k + 1 + 1 := ⟨m - 2, by omega⟩
  unfold makeD
  rw [orc_succ, Ratio_init b hd hs]
  simp [b.fr, purL, cloL, cloD, R]
theorem mk_Ratio1 {G : Gi} (b : Base G) {n : Int} {m : Nat} (hm : 2 ≤ m) (S : Store) :
    makeD (orc G m) G "Ratio" [.int n] S = some (R n, S) := by
  have h := mk_Ratio b (n := n) (d := 1) (by decide) (by decide) hm S
  have e : Rat.divInt n 1 = n := by
    rw [Rat.divInt_eq_div]; grind
  rw [e] at h
  rw [← h]
  obtain ⟨k, rfl⟩ : ∃ k, m = k + 1 + 1 := ⟨m - 2, by omega⟩
  unfold makeD
  rw [orc_succ, orc_succ, orc_zero, orc_zero, b.r_init]
  rfl
/-- a body that is one return -/
theorem pf_ret {G : Gi} {d : Nat} {k : Key} {ds : List DV} {v : DV} {fn : Fn} {e : E} (hG : G.fn k = some fn) (hb : fn.body = .cons (.ret e) .nil) (hl : (fillD fn ds).length = fn.np) (hp : pur v = true)
    (h : ∀ n S, d ≤ n → evE (orc G n) G e ((fillD fn ds).map some ++ List.replicate (fn.nm.length - fn.np) none) S = some (v, S)) : PF G (d + 1) k ds v := by
  refine pf_of hG hl hp fun n S hn => ⟨[], .inl ?_⟩
  rw [hb, List.append_nil]
  simp only [evB, evS, h n S hn]
/-! sizes -/
theorem mul_lt {a c : Int} {k j : Nat} (ha : a.natAbs < 2 ^ k) (hc : c.natAbs < 2 ^ j) : (a * c).natAbs < 2 ^ (k + j) := by
  rw [Int.natAbs_mul, Nat.pow_add]
  exact Nat.mul_lt_mul'' ha hc
theorem add_lt {a c : Int} {k : Nat} (ha : a.natAbs < 2 ^ k) (hc : c.natAbs < 2 ^ k) : (a + c).natAbs < 2 ^ (k + 1) := by
  have := Int.natAbs_add_le a c
  rw [Nat.pow_succ]; omega
theorem sub_lt {a c : Int} {k : Nat} (ha : a.natAbs < 2 ^ k) (hc : c.natAbs < 2 ^ k) : (a - c).natAbs < 2 ^ (k + 1) := by
  have := Int.natAbs_sub_le a c
  rw [Nat.pow_succ]; omega
theorem up {a : Int} {k j : Nat} (ha : a.natAbs < 2 ^ k) (h : k ≤ j) : a.natAbs < 2 ^ j := Nat.lt_of_lt_of_le ha (Nat.pow_le_pow_right (by decide) h)
theorem Sm.n {q : Rat} (h : Sm q) : q.num.natAbs < 2 ^ big := h.1
theorem Sm.d {q : Rat} (h : Sm q) : (q.den : Int).natAbs < 2 ^ big := by simpa using h.2
theorem mok {a c : Int} (ha : a.natAbs < 2 ^ big) (hc : c.natAbs < 2 ^ big) : mulOk a c := mul_ok (up ha (by decide)) (up hc (by decide))
theorem den_ne (q : Rat) : (q.den : Int) ≠ 0 := by have := q.den_nz; omega
theorem r_add (x y : Rat) : Rat.divInt (x.num * y.den + y.num * x.den) (x.den * y.den) = x + y := by
  rw [Rat.add_def', ← Rat.divInt_ofNat]; norm_cast
theorem r_sub (x y : Rat) : Rat.divInt (x.num * y.den - y.num * x.den) (x.den * y.den) = x - y := by
  rw [Rat.sub_def', ← Rat.divInt_ofNat]; norm_cast
theorem r_mul (x y : Rat) : Rat.divInt (x.num * y.num) (x.den * y.den) = x * y := by
  rw [Rat.mul_def', ← Rat.divInt_ofNat]; norm_cast
theorem r_neg (x : Rat) : Rat.divInt (-x.num) x.den = -x := by
  rw [← Rat.neg_divInt, Rat.num_divInt_den]
theorem r_inv (x : Rat) : Rat.divInt x.den x.num = x⁻¹ := (Rat.inv_def x).symm
theorem r_over (x y : Rat) : Rat.divInt (x.num * y.den) (x.den * y.num) = x / y := by
  rw [Rat.div_def, ← r_inv y, ← Rat.divInt_mul_divInt, Rat.num_divInt_den]
theorem isD_R (q : Rat) : isD "Ratio" (R q) = some true := rfl
section
variable {G : Gi} (b : Base G)
include b
theorem fld_n (q : Rat) (S : Store) : fldD G (R q) "n" S = some (.int q.num) := by
  show ((G.fld "Ratio").zip _).lookup "n" = _
  rw [b.fr]; rfl
theorem fld_d (q : Rat) (S : Store) : fldD G (R q) "d" S = some (.int q.den) := by
  show ((G.fld "Ratio").zip _).lookup "d" = _
  rw [b.fr]; rfl
theorem Ratio_add {x y : Rat} (hx : Sm x) (hy : Sm y) : PF G 3 ("Ratio", "__add__") [R x, R y] (R (x + y)) := by
  refine pf_ret b.r_add rfl rfl rfl fun n S hn => ?_
  have := mk_Ratio b (n := x.num * y.den + y.num * x.den) (d := x.den * y.den) (Int.mul_ne_zero (den_ne x) (den_ne y)) (up (mul_lt hx.d hy.d) (by decide)) hn S
  rw [r_add] at this
  simp [Pg.Ratio___add__, fillD, evE, evEs, fld_n b, fld_d b, binD, intOp, mok hx.n hy.d, mok hy.n hx.d, mok hx.d hy.d, this]
theorem Ratio_sub {x y : Rat} (hx : Sm x) (hy : Sm y) : PF G 3 ("Ratio", "__sub__") [R x, R y] (R (x - y)) := by
  refine pf_ret b.r_sub rfl rfl rfl fun n S hn => ?_
  have := mk_Ratio b (n := x.num * y.den - y.num * x.den) (d := x.den * y.den) (Int.mul_ne_zero (den_ne x) (den_ne y)) (up (mul_lt hx.d hy.d) (by decide)) hn S
  rw [r_sub] at this
  simp [Pg.Ratio___sub__, fillD, evE, evEs, fld_n b, fld_d b, binD, intOp, mok hx.n hy.d, mok hy.n hx.d, mok hx.d hy.d, this]
theorem Ratio_mul {x y : Rat} (hx : Sm x) (hy : Sm y) : PF G 3 ("Ratio", "__mul__") [R x, R y] (R (x * y)) := by
  refine pf_ret b.r_mul rfl rfl rfl fun n S hn => ?_
  have := mk_Ratio b (n := x.num * y.num) (d := x.den * y.den) (Int.mul_ne_zero (den_ne x) (den_ne y)) (up (mul_lt hx.d hy.d) (by decide)) hn S
  rw [r_mul] at this
  simp [Pg.Ratio___mul__, fillD, evE, evEs, fld_n b, fld_d b, binD, intOp, mok hx.n hy.n, mok hx.d hy.d, this]
theorem Ratio_neg {x : Rat} (hx : Sm x) : PF G 3 ("Ratio", "__neg__") [R x] (R (-x)) := by
  refine pf_ret b.r_neg rfl rfl rfl fun n S hn => ?_
  have := mk_Ratio b (n := -x.num) (d := x.den) (den_ne x) (up hx.d (by decide)) hn S
  rw [r_neg] at this
  simp [Pg.Ratio___neg__, fillD, evE, evEs, fld_n b, fld_d b, this]
theorem Ratio_inverse {x : Rat} (hx : Sm x) (h0 : x ≠ 0) : PF G 3 ("Ratio", "inverse") [R x] (R x⁻¹) := by
  refine pf_ret b.r_inverse rfl rfl rfl fun n S hn => ?_
  have := mk_Ratio b (n := x.den) (d := x.num) (fun e => h0 (Rat.num_eq_zero.mp e)) (up hx.n (by decide)) hn S
  rw [r_inv] at this
  simp [Pg.Ratio_inverse, fillD, evE, evEs, fld_n b, fld_d b, this]
theorem Ratio_over {x y : Rat} (hx : Sm x) (hy : Sm y) (h0 : y ≠ 0) : PF G 3 ("Ratio", "over") [R x, R y] (R (x / y)) := by
  refine pf_ret b.r_over rfl rfl rfl fun n S hn => ?_
  have := mk_Ratio b (n := x.num * y.den) (d := x.den * y.num) (Int.mul_ne_zero (den_ne x) (fun e => h0 (Rat.num_eq_zero.mp e))) (up (mul_lt hx.d hy.n) (by decide)) hn S
  rw [r_over] at this
  simp [Pg.Ratio_over, fillD, evE, evEs, fld_n b, fld_d b, binD, intOp, mok hx.n hy.d, mok hx.d hy.n, this]
theorem Ratio_eq (x y : Rat) : PF G 1 ("Ratio", "__eq__") [R x, R y] (.bl (decide (x = y))) := by
  refine pf_ret b.r_eq rfl rfl rfl fun n S hn => ?_
  have e : decide (x = y) = (decide (x.num = y.num) && decide (x.den = y.den)) := by
    rw [← Bool.decide_and]; congr 1; exact propext ⟨fun h => by rw [h]; exact ⟨rfl, rfl⟩, fun h => Rat.ext h.1 h.2⟩
  by_cases h1 : x.num = y.num <;> by_cases h2 : x.den = y.den <;> simp [Pg.Ratio___eq__, fillD, evE, evEs, fld_n b, fld_d b, bltD, isD_R, eqD, e, h1, h2, Bool.beq_eq_decide_eq, Int.natCast_inj]
theorem Ratio_is_zero (x : Rat) : PF G 1 ("Ratio", "is_zero") [R x] (.bl (decide (x = 0))) := by
  refine pf_ret b.r_is_zero rfl rfl rfl fun n S hn => ?_
  have e : decide (x = 0) = decide (x.num = 0) := by congr 1; exact propext Rat.num_eq_zero.symm
  simp [Pg.Ratio_is_zero, fillD, evE, evEs, fld_n b, fld_d b, eqD, e, Bool.beq_eq_decide_eq]
theorem f_one : PF G 3 ("", "one") [] (R 1) := by
  refine pf_ret b.g_one rfl rfl rfl fun n S hn => ?_
  simpa [Pg.f_one, fillD, evE, evEs] using mk_Ratio1 b (n := 1) hn S
end
end Ev

set_option linter.all false
set_option maxRecDepth 100000
set_option exponentiation.threshold 500000
/-! EvB: polynomials. -/
namespace Ev
open Iv Mq
instance : DecidableEq Pl := inferInstanceAs (DecidableEq { p : List Rat // Tr p })
def P (p : Pl) : DV := .obj "Poly" [.tup (p.1.map R)]
theorem cloL_R (n : Nat) : ∀ l : List Rat, cloL n (l.map R) = true
  | [] => rfl
  | c :: l => by simp [cloL, cloD, R, cloL_R n l]
theorem pur_P (p : Pl) : pur (P p) = true := by simp [pur, P, cloD, cloL, cloL_R]
theorem lcGo_all {step : DV → Store → Option (Option DV × Store)} {f : DV → DV} : ∀ {ds : List DV} {S : Store}, (∀ d ∈ ds, ∀ S, step d S = some (some (f d), S)) → lcGo step none ds S = some (ds.map f, S)
  | [], S, _ => by simp [lcGo, gOk]
  | d :: ds, S, h => by
    have ih := lcGo_all (ds := ds) (S := S) fun e he => h e (List.mem_cons_of_mem _ he)
    simp [lcGo, gOk, h d (by simp), ih]
theorem idx_nat {k n : Nat} (h : k < n) : idx n (k : Int) = some k := by
  unfold idx L2.ixN
  simp; omega
theorem trim_ne {c : Rat} (h : c ≠ 0) : ∀ l : List Rat, trim (l ++ [c]) = l ++ [c]
  | [] => by simp [trim, h]
  | a :: l => by
    rw [List.cons_append, trim, trim_ne h l]
    cases l <;> rfl
theorem trim_z : ∀ l : List Rat, trim (l ++ [0]) = trim l
  | [] => by simp [trim]
  | a :: l => by rw [List.cons_append, trim, trim_z l]; rfl
theorem trim_snoc (l : List Rat) (c : Rat) : trim (l ++ [c]) = if c = 0 then trim l else l ++ [c] := by
  split
  · rename_i h; rw [h]; exact trim_z l
  · exact trim_ne ‹_› l
theorem trim_take {l : List Rat} {k : Nat} (h : k < l.length) : trim (l.take (k + 1)) = if l[k] = 0 then trim (l.take k) else l.take (k + 1) := by
  rw [List.take_succ_eq_append_getElem h, trim_snoc]
theorem trim_pre : ∀ l : List Rat, l.take (trim l).length = trim l
  | [] => rfl
  | c :: l => by
    have ih := trim_pre l
    unfold trim
    split
    · split <;> simp
    · rename_i d r e
      rw [e] at ih
      simp at ih ⊢
      exact ih
theorem slTo_nat {α : Type} (l : List α) (k : Nat) : cutX l none (some (k : Int)) = l.take k := by
  unfold cutX HT.sIx
  simp only [List.drop_zero, Nat.sub_zero]
  rw [if_neg (by omega), Int.toNat_natCast]
  by_cases h : k ≤ l.length
  · rw [Nat.min_eq_left h]
  · rw [Nat.min_eq_right (by omega), List.take_of_length_le (Nat.le_refl _), List.take_of_length_le (by omega)]
/-! ### steps -/
section
variable {O : Orc} {G : Gi}
theorem while_next {c : Iv.Env → Store → RE} {b : Iv.Env → Store → Option Out} {en en' : Iv.Env} {S S1 S' : Store} {r : Option Out} (h1 : c en S = some (.bl true, S1)) (h2 : b en S1 = some (.nx en' S')) (h3 : whileL c b en' S' = r) : whileL c b en S = r := by
  rw [whileL, h1]; simp only [h2]; exact h3
theorem while_done {c : Iv.Env → Store → RE} {b : Iv.Env → Store → Option Out} {en : Iv.Env} {S S1 : Store} (h1 : c en S = some (.bl false, S1)) : whileL c b en S = some (.nx en S1) := by
  rw [whileL, h1]
theorem for_nil {t : Tg} {b : Iv.Env → Store → Option Out} {en : Iv.Env} {S : Store} : forL t b none [] en S = some (.nx en S) := by simp [forL, gOk]
theorem for_next {t : Tg} {b : Iv.Env → Store → Option Out} {d : DV} {ds : List DV} {en en1 en' : Iv.Env} {S S' : Store} {r : Option Out} (h1 : bindT t d en = some en1) (h2 : b en1 S = some (.nx en' S')) (h3 : forL t b none ds en' S' = r) : forL t b none (d :: ds) en S = r := by
  simp [forL, gOk, h1, h2, h3]
theorem for_cont {t : Tg} {b : Iv.Env → Store → Option Out} {d : DV} {ds : List DV} {en en1 en' : Iv.Env} {S S' : Store} {r : Option Out} (h1 : bindT t d en = some en1) (h2 : b en1 S = some (.ct en' S')) (h3 : forL t b none ds en' S' = r) : forL t b none (d :: ds) en S = r := by
  simp [forL, gOk, h1, h2, h3]
theorem b_nx {s : S} {r : Ss} {en en' : Iv.Env} {S S' : Store} {o : Option Out} (h1 : evS O G s en S = some (.nx en' S')) (h2 : evB O G r en' S' = o) : evB O G (.cons s r) en S = o := by
  rw [evB, h1]; exact h2
theorem b_rt {s : S} {r : Ss} {en : Iv.Env} {S S' : Store} {d : DV} (h1 : evS O G s en S = some (.rt d S')) : evB O G (.cons s r) en S = some (.rt d S') := by
  rw [evB, h1]
theorem b_ct {s : S} {r : Ss} {en en' : Iv.Env} {S S' : Store} (h1 : evS O G s en S = some (.ct en' S')) : evB O G (.cons s r) en S = some (.ct en' S') := by
  rw [evB, h1]
theorem s_while {c : E} {b : Ss} {en : Iv.Env} {S : Store} {o : Option Out} (h : whileL (evE O G c) (evB O G b) en S = o) : evS O G (.while_ c b) en S = o := by rw [evS]; exact h
theorem s_for {t : Tg} {it : It} {b : Ss} {en : Iv.Env} {S S1 : Store} {ds : List DV} {o : Option Out} (h1 : evIt O G it en S = some (none, ds, S1)) (h : forL t (evB O G b) none ds en S1 = o) : evS O G (.for_ t it b) en S = o := by rw [evS, h1]; exact h
theorem s_asg {i : Nat} {e : E} {en : Iv.Env} {S S1 : Store} {d : DV} (h : evE O G e en S = some (d, S1)) : evS O G (.asg i e) en S = some (.nx (en.set i (some d)) S1) := by rw [evS, h]
theorem s_new {i : Nat} {e : E} {en : Iv.Env} {S S1 : Store} {ds : List DV} (h : evE O G e en S = some (.frl ds, S1)) : evS O G (.new i e) en S = some (.nx (en.set i (some (.ref S1.length))) (S1 ++ [.lst ds])) := by rw [evS, h]
theorem s_ret {e : E} {en : Iv.Env} {S S1 : Store} {d : DV} (h : evE O G e en S = some (d, S1)) : evS O G (.ret e) en S = some (.rt d S1) := by rw [evS, h]
theorem s_true {c : E} {p q : Ss} {en : Iv.Env} {S S1 : Store} {o : Option Out} (h : evE O G c en S = some (.bl true, S1)) (h2 : evB O G p en S1 = o) : evS O G (.if_ c p q) en S = o := by rw [evS, h]; exact h2
theorem s_false {c : E} {p q : Ss} {en : Iv.Env} {S S1 : Store} {o : Option Out} (h : evE O G c en S = some (.bl false, S1)) (h2 : evB O G q en S1 = o) : evS O G (.if_ c p q) en S = o := by rw [evS, h]; exact h2
end
section
variable {G : Gi} (b : Base G)
include b
theorem trimmed_while {O : Orc} {S : Store} (l : List Rat) : ∀ k, k ≤ l.length →
    whileL (evE O G (.and_ (.cmp .gt (.var 1) (.cint 0)) (.cmp .eq (.fld (.ix (.var 0) (.bin .sub (.var 1) (.cint 1))) "n") (.cint 0)))) (evB O G (.cons (.asg 1 (.bin .sub (.var 1) (.cint 1))) .nil))
      [some (.frl (l.map R)), some (.int k)] S = some (.nx [some (.frl (l.map R)), some (.int (trim (l.take k)).length)] S)
  | 0, _ => by
    refine while_done (S1 := S) ?_
    simp [evE]
  | k + 1, h => by
    have hi : ixD (.frl (l.map R)) (.int k) S = some (R (l[k]'(by omega))) := by
      simp [ixD, idx_nat (show k < l.length by omega), List.getElem?_eq_getElem (show k < l.length by omega)]
    have e1 : ((k : Int) + 1) - 1 = k := by omega
    have e2 : (0 : Int) < (k : Int) + 1 := by omega
    rw [trim_take (by omega)]
    by_cases hz : l[k] = 0
    · have hn : (l[k]).num = 0 := by rw [hz]; rfl
      rw [if_pos hz]
      refine while_next (S1 := S) ?_ ?_ (trimmed_while l k (by omega))
      · simp [evE, e2, binD, intOp, e1, hi, fld_n b, eqD, hn]
      · simp [evE, evB, evS, binD, intOp, e1]
    · have hn : ((l[k]).num == 0) = false := by simpa using fun e => hz (Rat.num_eq_zero.mp e)
      have e3 : min (k + 1) l.length = k + 1 := by omega
      rw [if_neg hz, List.length_take, e3]
      refine while_done (S1 := S) ?_
      simp [evE, e2, binD, intOp, e1, hi, fld_n b, eqD, hn]
theorem f_trimmed (l : List Rat) : PF G 1 ("", "_trimmed") [.frl (l.map R)] (.tup ((trim l).map R)) := by
  refine pf_of b.g_trimmed rfl (by simp [pur, cloD, cloL_R]) fun n S hn => ⟨[], .inl ?_⟩
  have w := trimmed_while b (O := orc G n) (S := S) l l.length (Nat.le_refl _)
  rw [List.take_length] at w
  rw [List.append_nil]
  refine b_nx (s_asg (d := .int l.length) (S1 := S) ?_) (b_nx (s_while (o := some (.nx [some (.frl (l.map R)), some (.int (trim l).length)] S)) w) (b_rt (s_ret ?_)))
  · simp [fillD, evE, evEs, bltD, lenD]
  · have e : (l.map R).take (trim l).length = (trim l).map R := by rw [← List.map_take, trim_pre]
    simp [evE, evEs, slD, slTo_nat, bltD, e]

omit b in
theorem row_ok {c : Cell} {S : Store} (h : cloC (S.length + 1) c = true) : gc (S ++ [.ins "Poly" []]) (S ++ [c]) .non = (.non, S ++ [c]) := gc_last h
/-- what may stand in a row: a number, an integer -/
def cv : DV → DV
  | .int i => R i
  | d => d
omit b in
theorem cv_R (l : List Rat) : (l.map R).map cv = l.map R := by
  rw [List.map_map]; rfl
theorem Poly_init {ds : List DV} {l : List Rat} (hd : ∀ d ∈ ds, (∃ i, d = .int i) ∨ ∃ q, d = R q) (hl : ds.map cv = l.map R) (hz : ds.length ≤ 16777216) {row : DV} (hr : row = .frl ds ∨ row = .tup ds) {m : Nat} (hm : 2 ≤ m) (S : Store) :
    (orc G (m + 1)).call 0 ("Poly", "__init__") [.ref S.length, row] (S ++ [.ins "Poly" []]) = some (.non, S ++ [.ins "Poly" [("row", .tup ((trim l).map R))]]) := by
  rw [orc_zero, b.p_init]
  dsimp only
  unfold evFn
  have e : fillD Pg.Poly___init__ [.ref S.length, row] = [.ref S.length, row] := rfl
  rw [e, if_pos (show [DV.ref S.length, row].length = Pg.Poly___init__.np from rfl)]
  have hseq : ∀ T : Store, evIt (orc G m) G (.seq (.var 1)) [some (.ref S.length), some row, none] T = some (none, ds, T) := fun T => by
    rcases hr with rfl | rfl <;> simp [evIt, evE, seqOf]
  have hlc : ∀ T : Store, evE (orc G m) G (.lc (.one 2) (.seq (.var 1)) (.ite (.blt (.ist "int") (.cons (.var 2) .nil)) (.mk "Ratio" (.cons (.var 2) .nil)) (.var 2))) [some (.ref S.length), some row, none] T = some (.frl (l.map R), T) := fun T => by
    rw [evE, hseq]
    have hc : clen ds = true := by simpa [clen] using hz
    simp only [hc, Bool.true_eq_false, if_false]
    rw [lcGo_all (f := cv), hl]
    intro d hd' T
    rcases hd d hd' with ⟨i, rfl⟩ | ⟨q, rfl⟩
    · simp [bindT, evE, evEs, bltD, isT, tyName, mk_Ratio1 b hm, cv]
    · simp [bindT, evE, evEs, bltD, isT, R, cv]
  have ht := (f_trimmed b l).low (n := m) (j := 0) (by omega) (S := S ++ [.ins "Poly" []])
  have hs : evB (orc G m) G Pg.Poly___init__.body (List.map some [.ref S.length, row] ++ List.replicate (Pg.Poly___init__.nm.length - Pg.Poly___init__.np) none) (S ++ [.ins "Poly" []]) =
      some (.nx [some (.ref S.length), some row, none] (S ++ [.ins "Poly" [("row", .tup ((trim l).map R))]])) := by
    have h1 := hlc (S ++ [.ins "Poly" []])
    simp only [Pg.Poly___init__, List.map_cons, List.map_nil, List.length_cons, List.length_nil, List.replicate, List.cons_append, List.nil_append, Nat.reduceAdd, Nat.reduceSub, evB, evS]
    have h2 : evEs (orc G m) G (.cons (.lc (.one 2) (.seq (.var 1)) (.ite (.blt (.ist "int") (.cons (.var 2) .nil)) (.mk "Ratio" (.cons (.var 2) .nil)) (.var 2))) .nil) [some (.ref S.length), some row, none] (S ++ [.ins "Poly" []]) = some ([.frl (l.map R)], S ++ [.ins "Poly" []]) := by
      rw [evEs, h1]; rfl
    rw [evE, h2]
    simp [ht, b.fp, b.cp]
  rw [hs]
  exact congrArg some (gc_last (by simp [cloC, cloL, cloD, cloL_R]))
theorem mk_Poly {ds : List DV} {l : List Rat} (hd : ∀ d ∈ ds, (∃ i, d = .int i) ∨ ∃ q, d = R q) (hl : ds.map cv = l.map R) (hz : ds.length ≤ 16777216) {row : DV} (hr : row = .frl ds ∨ row = .tup ds) {m : Nat} (hm : 4 ≤ m) (S : Store) :
    makeD (orc G m) G "Poly" [row] S = some (P (Pl.mk l), S) := by
  obtain ⟨k, rfl⟩ : ∃ k, m = k + 1 + 1 := ⟨m - 2, by omega⟩
  unfold makeD
  rw [orc_succ, Poly_init b hd hl hz hr (by omega)]
  simp [b.fp, purL, cloL, cloD, cloL_R, P, Pl.mk]
theorem mk_PolyR {l : List Rat} (hz : l.length ≤ 16777216) {row : DV} (hr : row = .frl (l.map R) ∨ row = .tup (l.map R)) {m : Nat} (hm : 4 ≤ m) (S : Store) :
    makeD (orc G m) G "Poly" [row] S = some (P (Pl.mk l), S) :=
  mk_Poly b (ds := l.map R) (fun d hd => .inr (by obtain ⟨q, _, rfl⟩ := List.mem_map.mp hd; exact ⟨q, rfl⟩)) (cv_R l) (by simpa using hz) hr hm S
theorem fld_row (p : Pl) (S : Store) : fldD G (P p) "row" S = some (.tup (p.1.map R)) := by
  show ((G.fld "Poly").zip _).lookup "row" = _
  rw [b.fp]; rfl
/-! ### small methods -/
theorem Poly_degree (p : Pl) : PF G 1 ("Poly", "degree") [P p] (.int ((p.len : Int) - 1)) := by
  refine pf_ret b.p_degree rfl rfl rfl fun n S hn => ?_
  simp [Pg.Poly_degree, fillD, evE, evEs, fld_row b, bltD, lenD, binD, intOp, Pl.len]
theorem Poly_is_zero (p : Pl) : PF G 1 ("Poly", "is_zero") [P p] (.bl (decide (p = 0))) := by
  refine pf_ret b.p_is_zero rfl rfl rfl fun n S hn => ?_
  have e : decide (p = 0) = ((p.1.length : Int) == 0) := by
    rw [Bool.beq_eq_decide_eq]; congr 1
    exact propext (Pl.len_zero.symm.trans (by unfold Pl.len; omega))
  simp [Pg.Poly_is_zero, fillD, evE, evEs, fld_row b, bltD, lenD, eqD, e]
theorem ix_last {p : Pl} (h : p ≠ 0) (S : Store) : ixD (.tup (p.1.map R)) (.int ((p.1.length : Int) - 1)) S = some (R p.lc) := by
  have hl := Pl.len_pos.mpr h
  unfold Pl.len at hl
  have e : (p.1.length : Int) - 1 = ((p.1.length - 1 : Nat) : Int) := by omega
  have h2 := Pl.lc_some h
  rw [List.getLast?_eq_getElem?] at h2
  rw [e]
  simp [ixD, idx_nat (show p.1.length - 1 < p.1.length by omega), h2]
theorem Poly_last {p : Pl} (h : p ≠ 0) : PF G 1 ("Poly", "last") [P p] (R p.lc) := by
  refine pf_of b.p_last rfl rfl fun n S hn => ⟨[], .inl ?_⟩
  have hl := Pl.len_pos.mpr h
  have e : ((p.1.length : Int) == 0) = false := by
    unfold Pl.len at hl; simpa using (by omega : (p.1.length : Int) ≠ 0)
  rw [List.append_nil]
  refine b_nx (s_false (S1 := S) (o := some (.nx [some (P p)] S)) ?_ ?_) (b_rt (s_ret ?_))
  · simp [fillD, evE, evEs, fld_row b, bltD, lenD, eqD, e]
  · simp [evB, fillD, Pg.Poly_last]
  · simp [evE, evEs, fld_row b, bltD, lenD, binD, intOp, ix_last b h]
def coef (p : Pl) (k : Int) : Rat := if 0 ≤ k then p.1.getD k.toNat 0 else 0
theorem Poly_coefficient (p : Pl) (k : Int) : PF G 3 ("Poly", "coefficient") [P p, .int k] (R (coef p k)) := by
  refine pf_of b.p_coefficient rfl rfl fun n S hn => ⟨[], .inl ?_⟩
  rw [List.append_nil]
  by_cases h0 : k < 0
  · refine b_rt (s_true (S1 := S) ?_ (b_rt (s_ret (S1 := S) ?_)))
    · simp [fillD, evE, h0]
    · have : coef p k = 0 := by unfold coef; rw [if_neg (by omega)]
      simpa [fillD, Pg.Poly_coefficient, evE, evEs, this] using mk_Ratio1 b (n := 0) (m := n) hn S
  · by_cases h1 : (p.1.length : Int) ≤ k
    · refine b_rt (s_true (S1 := S) ?_ (b_rt (s_ret (S1 := S) ?_)))
      · simp [fillD, evE, evEs, h0, h1, fld_row b, bltD, lenD]
      · have : coef p k = 0 := by unfold coef; rw [if_pos (by omega), List.getD_eq_getElem?_getD, List.getElem?_eq_none (by omega)]; rfl
        simpa [fillD, Pg.Poly_coefficient, evE, evEs, this] using mk_Ratio1 b (n := 0) (m := n) hn S
    · obtain ⟨i, rfl⟩ : ∃ i : Nat, k = i := ⟨k.toNat, by omega⟩
      have hi : i < p.1.length := by omega
      refine b_nx (s_false (S1 := S) (o := some (.nx [some (P p), some (.int i)] S)) ?_ ?_) (b_rt (s_ret ?_))
      · simp [fillD, evE, evEs, h0, h1, fld_row b, bltD, lenD]
      · simp [evB, fillD, Pg.Poly_coefficient]
      · have : coef p i = p.1[i] := by unfold coef; rw [if_pos (by omega)]; simp [List.getD_eq_getElem?_getD, List.getElem?_eq_getElem hi]
        simp [evE, fld_row b, ixD, idx_nat hi, List.getElem?_eq_getElem hi, this]
theorem f_constant (q : Rat) : PF G 5 ("", "constant") [R q] (P (Pl.C q)) := by
  refine pf_ret b.g_constant rfl rfl (pur_P _) fun n S hn => ?_
  have := mk_PolyR b (l := [q]) (by simp) (row := .tup [R q]) (.inr rfl) hn S
  simpa [fillD, Pg.f_constant, evE, evEs, clen, Pl.C] using this
end
end Ev

set_option linter.all false
set_option maxRecDepth 100000
set_option exponentiation.threshold 500000
/-! EvC: sums, products of polynomials; sizes. -/
namespace Ev
open Iv Mq
/-! ### sizes -/
/-- a fraction over D with a numerator up to N -/
def Sz (D N : Nat) (q : Rat) : Prop := 0 < D ∧ ∃ n : Int, q * D = n ∧ n.natAbs ≤ N
theorem Sz.mono {D N M : Nat} {q : Rat} (h : Sz D N q) (hm : N ≤ M) : Sz D M q := let ⟨h0, n, e, l⟩ := h; ⟨h0, n, e, Nat.le_trans l hm⟩
theorem Sz.up {D N : Nat} {q : Rat} (h : Sz D N q) {k : Nat} (hk : 0 < k) : Sz (D * k) (N * k) q := by
  obtain ⟨h0, n, e, l⟩ := h
  refine ⟨Nat.mul_pos h0 hk, n * k, by push_cast; grind, ?_⟩
  rw [Int.natAbs_mul]; exact Nat.mul_le_mul l (by simp)
theorem Sz.add {D N M : Nat} {q r : Rat} (h : Sz D N q) (k : Sz D M r) : Sz D (N + M) (q + r) := by
  obtain ⟨h0, n, e, l⟩ := h
  obtain ⟨_, m, f, l'⟩ := k
  exact ⟨h0, n + m, by push_cast; grind, Nat.le_trans (Int.natAbs_add_le ..) (Nat.add_le_add l l')⟩
theorem Sz.neg {D N : Nat} {q : Rat} (h : Sz D N q) : Sz D N (-q) := by
  obtain ⟨h0, n, e, l⟩ := h
  exact ⟨h0, -n, by push_cast; grind, by simpa using l⟩
theorem Sz.sub {D N M : Nat} {q r : Rat} (h : Sz D N q) (k : Sz D M r) : Sz D (N + M) (q - r) := by
  have := h.add k.neg
  have e : q - r = q + -r := by grind
  rw [e]; exact this
theorem Sz.mul {D E N M : Nat} {q r : Rat} (h : Sz D N q) (k : Sz E M r) : Sz (D * E) (N * M) (q * r) := by
  obtain ⟨h0, n, e, l⟩ := h
  obtain ⟨h1, m, f, l'⟩ := k
  exact ⟨Nat.mul_pos h0 h1, n * m, by push_cast; grind, by rw [Int.natAbs_mul]; exact Nat.mul_le_mul l l'⟩
theorem Sz.zero {D N : Nat} (h : 0 < D) : Sz D N 0 := ⟨h, 0, by grind, Nat.zero_le _⟩
theorem Sz.divInt {D N : Nat} {q : Rat} (h : Sz D N q) : ∃ n : Int, q = Rat.divInt n D ∧ n.natAbs ≤ N := by
  obtain ⟨h0, n, e, l⟩ := h
  refine ⟨n, ?_, l⟩
  have : (D : Rat) ≠ 0 := by have : D ≠ 0 := by omega
                             exact_mod_cast this
  have e2 : ((D : Int) : Rat) = (D : Rat) := by norm_cast
  rw [Rat.divInt_eq_div, ← e, e2]
  grind
theorem divInt_le {n : Int} {D : Nat} (h : 0 < D) : (Rat.divInt n D).num.natAbs ≤ n.natAbs ∧ (Rat.divInt n D).den ≤ D := by
  have h' : (0 : Int) < D := by omega
  constructor
  · rw [← num_pos h', Int.natAbs_ediv_of_dvd (gcd_facts (n := n) (by omega)).2.2.1]
    exact Nat.div_le_self _ _
  · have := den_pos' (n := n) h'
    have h2 : ((Rat.divInt n D).den : Int) ≤ D := by rw [← this]; exact Int.ediv_le_self _ (by omega)
    omega
theorem Sz.sm {D N : Nat} {q : Rat} (h : Sz D N q) (hD : D < 2 ^ big) (hN : N < 2 ^ big) : Sm q := by
  obtain ⟨n, rfl, l⟩ := h.divInt
  have := divInt_le (n := n) h.1
  exact ⟨by omega, by omega⟩
theorem Sz.le {D N : Nat} {q : Rat} (h : Sz D N q) : q.num.natAbs ≤ N ∧ q.den ≤ D := by
  obtain ⟨n, rfl, l⟩ := h.divInt
  have := divInt_le (n := n) h.1
  exact ⟨by omega, this.2⟩
theorem Sz.self (q : Rat) : Sz q.den q.num.natAbs q := by
  have h := q.den_pos
  refine ⟨h, q.num, ?_, Nat.le_refl _⟩
  have := Rat.mkRat_self q
  rw [Rat.mkRat_eq_div] at this
  have hd : (q.den : Rat) ≠ 0 := by exact_mod_cast q.den_nz
  grind
/-- all of a row -/
def PS (D N : Nat) (l : List Rat) : Prop := 0 < D ∧ ∀ c ∈ l, Sz D N c
def SmL (l : List Rat) : Prop := ∀ c ∈ l, Sm c
theorem PS.sm {D N : Nat} {l : List Rat} (h : PS D N l) (hD : D < 2 ^ big) (hN : N < 2 ^ big) : SmL l := fun c hc => (h.2 c hc).sm hD hN
theorem Sm.inv {q : Rat} (h : Sm q) (h0 : q ≠ 0) : Sm q⁻¹ := by
  have : q.num ≠ 0 := fun e => h0 (Rat.num_eq_zero.mp e)
  unfold Sm at *
  rw [Rat.num_inv, Rat.den_inv, if_neg this]
  constructor
  · rw [Int.natAbs_mul]
    have : q.num.sign.natAbs ≤ 1 := by
      rcases Int.lt_trichotomy q.num 0 with h | h | h
      · rw [Int.sign_eq_neg_one_of_neg h]; decide
      · rw [h]; decide
      · rw [Int.sign_eq_one_of_pos h]; decide
    have h2 : (q.den : Int).natAbs = q.den := by simp
    rw [h2]
    calc q.num.sign.natAbs * q.den ≤ 1 * q.den := Nat.mul_le_mul_right _ this
      _ < _ := by rw [Nat.one_mul]; exact h.2
  · exact h.1
theorem Sm.neg {q : Rat} (h : Sm q) : Sm (-q) := by
  unfold Sm at *
  rw [Rat.neg_num, Rat.neg_den, Int.natAbs_neg]; exact h
theorem lcGo_map {α : Type} {step : DV → Store → Option (Option DV × Store)} {enc f : α → DV} : ∀ {xs : List α} {S : Store}, (∀ x ∈ xs, ∀ S, step (enc x) S = some (some (f x), S)) → lcGo step none (xs.map enc) S = some (xs.map f, S)
  | [], S, _ => by simp [lcGo, gOk]
  | x :: xs, S, h => by
    have ih := lcGo_map (xs := xs) (S := S) fun e he => h e (List.mem_cons_of_mem _ he)
    simp [lcGo, gOk, h x (by simp), ih]
theorem ev_lc {O : Orc} {G : Gi} {α : Type} {t : Tg} {it : It} {el : E} {en : Iv.Env} {S S1 : Store} {xs : List α} {enc : α → DV} {f : α → DV} (h1 : evIt O G it en S = some (none, xs.map enc, S1)) (hz : xs.length ≤ 16777216)
    (h : ∀ x ∈ xs, ∃ en', bindT t (enc x) en = some en' ∧ ∀ S, evE O G el en' S = some (f x, S)) : evE O G (.lc t it el) en S = some (.frl (xs.map f), S1) := by
  rw [evE, h1]
  have hc : clen (xs.map enc) = true := by simpa [clen] using hz
  simp only [hc, Bool.true_eq_false, if_false]
  rw [lcGo_map (f := f)]
  intro x hx S
  obtain ⟨en', e1, e2⟩ := h x hx
  rw [e1]; simp only [e2]
theorem slFrom_nat {α : Type} (l : List α) (k : Nat) : cutX l (some (k : Int)) none = l.drop k := by
  unfold cutX HT.sIx
  simp only []
  rw [if_neg (by omega), Int.toNat_natCast]
  by_cases h : k ≤ l.length
  · rw [Nat.min_eq_left h, List.take_of_length_le (by simp)]
  · rw [Nat.min_eq_right (by omega), List.drop_of_length_le (Nat.le_refl _), List.drop_of_length_le (by omega)]; simp
theorem addL_zip : ∀ p q : List Rat, q.length ≤ p.length → addL p q = (p.zip q).map (fun x => x.1 + x.2) ++ p.drop q.length
  | [], [], _ => rfl
  | [], _ :: _, h => by simp at h
  | a :: p, [], _ => by simp [addL]
  | a :: p, b :: q, h => by simp [addL, addL_zip p q (by simpa using h)]
section
variable {G : Gi} (b : Base G)
include b
theorem add_tail {p q : Pl} (hp : SmL p.1) (hq : SmL q.1) (hl : q.1.length ≤ p.1.length) (hz : p.1.length ≤ 1000000) {n : Nat} (hn : 4 ≤ n) (s0 s1 o : Option DV) (S : Store) :
    evB (orc G n) G (.cons (.asg 2 (.lc (.many [5, 6]) (.zip (.var 3) (.var 4)) (.bin .add (.var 5) (.var 6)))) (.cons (.ret (.mk "Poly" (.cons (.bin .add (.var 2) (.blt .list (.cons (.slFrom (.var 3) (.blt .len (.cons (.var 4) .nil))) .nil))) .nil))) .nil))
      [s0, s1, o, some (.tup (p.1.map R)), some (.tup (q.1.map R)), none, none] S = some (.rt (P (p + q)) S) := by
  refine b_nx (s_asg (S1 := S) (ev_lc (xs := p.1.zip q.1) (enc := fun x => .tup [R x.1, R x.2]) (f := fun x => R (x.1 + x.2)) (S1 := S) ?_ (by rw [List.length_zip]; omega) fun x hx => ⟨[s0, s1, o, some (.tup (p.1.map R)), some (.tup (q.1.map R)), some (R x.1), some (R x.2)], by simp [bindT, setAll], fun S => ?_⟩)) (b_rt (s_ret ?_))
  · simp [evIt, evE, List.zip_map', Function.comp_def]
    rw [List.zip_map]
    simp [Function.comp_def]
  · have h1 := hp x.1 (List.of_mem_zip hx).1
    have h2 := hq x.2 (List.of_mem_zip hx).2
    have := (Ratio_add b h1 h2).low (n := n) (j := 0) (by omega) (S := S)
    simp [evE, binD, R, Bop.dun] at this ⊢
    exact this
  · have e : (p.1.zip q.1).map (fun x => R (x.1 + x.2)) ++ (p.1.drop q.1.length).map R = (addL p.1 q.1).map R := by
      rw [addL_zip _ _ hl, List.map_append, List.map_map]; rfl
    have hm := mk_PolyR b (l := addL p.1 q.1) (row := .frl ((addL p.1 q.1).map R)) (by rw [addL_len]; omega) (.inl rfl) hn S
    have hs : min p.1.length q.1.length + (p.1.length - q.1.length) ≤ 16777216 := by omega
    simp [evE, evEs, bltD, lenD, slD, slFrom_nat, ← List.map_drop, binD, hs, e, hm]
    rfl
theorem Poly_add {p q : Pl} (hp : SmL p.1) (hq : SmL q.1) (hz : p.1.length ≤ 1000000) (hz' : q.1.length ≤ 1000000) : PF G 5 ("Poly", "__add__") [P p, P q] (P (p + q)) := by
  refine pf_of b.p_add rfl (pur_P _) fun n S hn => ⟨[], .inl ?_⟩
  rw [List.append_nil]
  have hpar : evS (orc G n) G (.par 3 4 (.fld (.var 0) "row") (.fld (.var 1) "row")) (List.map some (fillD Pg.Poly___add__ [P p, P q]) ++ List.replicate (Pg.Poly___add__.nm.length - Pg.Poly___add__.np) none) S =
      some (.nx [some (P p), some (P q), none, some (.tup (p.1.map R)), some (.tup (q.1.map R)), none, none] S) := by
    simp [evS, evE, fillD, Pg.Poly___add__, fld_row b]
  refine b_nx hpar ?_
  by_cases h : p.1.length < q.1.length
  · have e : p + q = q + p := by grind
    rw [e]
    refine b_nx (s_true (S1 := S) (o := some (.nx [some (P p), some (P q), none, some (.tup (q.1.map R)), some (.tup (p.1.map R)), none, none] S)) ?_ ?_) (add_tail b hq hp (by omega) hz' hn _ _ _ S)
    · simp [evE, evEs, bltD, lenD, h]
    · simp [evB, evS, evE]
  · refine b_nx (s_false (S1 := S) (o := some (.nx [some (P p), some (P q), none, some (.tup (p.1.map R)), some (.tup (q.1.map R)), none, none] S)) ?_ ?_) (add_tail b hp hq (by omega) hz hn _ _ _ S)
    · simp [evE, evEs, bltD, lenD, h]
    · simp [evB]
theorem it_row {O : Orc} {i : Nat} {en : Iv.Env} {p : Pl} (h : en[i]? = some (some (P p))) (S : Store) : evIt O G (.seq (.fld (.var i) "row")) en S = some (none, p.1.map R, S) := by
  simp [evIt, evE, h, fld_row b, seqOf]
theorem Poly_neg {p : Pl} (hp : SmL p.1) (hz : p.1.length ≤ 1000000) : PF G 5 ("Poly", "__neg__") [P p] (P (-p)) := by
  refine pf_ret b.p_neg rfl rfl (pur_P _) fun n S hn => ?_
  have h1 := ev_lc (O := orc G n) (G := G) (t := .one 1) (it := .seq (.fld (.var 0) "row")) (el := .neg (.var 1)) (en := [some (P p), none]) (S := S) (S1 := S) (xs := p.1) (enc := R) (f := fun c => R (-c)) (it_row b rfl S) (by omega) fun c hc => ⟨[some (P p), some (R c)], rfl, fun S => by
    have := (Ratio_neg b (hp c hc)).low (n := n) (j := 0) (by omega) (S := S)
    simp [evE, R] at this ⊢
    exact this⟩
  have e : p.1.map (fun c => R (-c)) = (p.1.map (- ·)).map R := by rw [List.map_map]; rfl
  rw [e] at h1
  have hm := mk_PolyR b (l := p.1.map (- ·)) (row := .frl ((p.1.map (- ·)).map R)) (by rw [List.length_map]; omega) (.inl rfl) hn S
  have h2 : evEs (orc G n) G (.cons (.lc (.one 1) (.seq (.fld (.var 0) "row")) (.neg (.var 1))) .nil) [some (P p), none] S = some ([.frl ((p.1.map (- ·)).map R)], S) := by rw [evEs, h1]; rfl
  show evE (orc G n) G (.mk "Poly" _) [some (P p), none] S = _
  rw [evE, h2]
  exact hm
theorem Poly_sub {p q : Pl} (hp : SmL p.1) (hq : SmL q.1) (hz : p.1.length ≤ 1000000) (hz' : q.1.length ≤ 1000000) : PF G 6 ("Poly", "__sub__") [P p, P q] (P (p - q)) := by
  refine pf_ret b.p_sub rfl rfl (pur_P _) fun n S hn => ?_
  have hn1 := (Poly_neg b hq hz').low (n := n) (j := 0) (by omega) (S := S)
  have hs : SmL (-q).1 := fun c hc => by
    have e : (-q).1 = q.1.map (- ·) := trim_of (by
      have := q.2
      unfold Tr at *
      rw [List.getLast?_map]
      intro h
      cases hl : q.1.getLast? with
      | none => rw [hl] at h; cases h
      | some c =>
        rw [hl] at h this
        have : -c = 0 := by simpa using h
        have h0 : c = 0 := by grind
        subst h0; exact ‹¬ some (0 : Rat) = some 0› rfl)
    rw [e] at hc
    obtain ⟨d, hd, rfl⟩ := List.mem_map.mp hc
    exact (hq d hd).neg
  have hl : (-q).1.length ≤ 1000000 := Nat.le_trans (Pl.len_neg q) hz'
  have ha := (Poly_add b hp hs hz hl).low (n := n) (j := 0) (by omega) (S := S)
  have e : p + -q = p - q := by grind
  rw [e] at ha
  show evE (orc G n) G (.bin .add (.var 0) (.neg (.var 1))) [some (P p), some (P q)] S = _
  simp [evE, P] at hn1 ha ⊢
  rw [hn1]
  simpa [binD, Bop.dun] using ha
theorem Poly_scaled {p : Pl} {r : Rat} (hp : SmL p.1) (hr : Sm r) (hz : p.1.length ≤ 1000000) : PF G 5 ("Poly", "scaled") [P p, R r] (P (Pl.C r * p)) := by
  refine pf_ret b.p_scaled rfl rfl (pur_P _) fun n S hn => ?_
  have h1 := ev_lc (O := orc G n) (G := G) (t := .one 2) (it := .seq (.fld (.var 0) "row")) (el := .bin .mul (.var 1) (.var 2)) (en := [some (P p), some (R r), none]) (S := S) (S1 := S) (xs := p.1) (enc := R) (f := fun c => R (r * c)) (it_row b rfl S) (by omega) fun c hc => ⟨[some (P p), some (R r), some (R c)], rfl, fun S => by
    have := (Ratio_mul b hr (hp c hc)).low (n := n) (j := 0) (by omega) (S := S)
    simp [evE, R, binD, Bop.dun] at this ⊢
    exact this⟩
  have e : p.1.map (fun c => R (r * c)) = (sclL r p.1).map R := by unfold sclL; rw [List.map_map]; rfl
  rw [e] at h1
  have hm := mk_PolyR b (l := sclL r p.1) (row := .frl ((sclL r p.1).map R)) (by rw [sclL_len]; omega) (.inl rfl) hn S
  have h2 : evEs (orc G n) G (.cons (.lc (.one 2) (.seq (.fld (.var 0) "row")) (.bin .mul (.var 1) (.var 2))) .nil) [some (P p), some (R r), none] S = some ([.frl ((sclL r p.1).map R)], S) := by rw [evEs, h1]; rfl
  have e2 : Pl.mk (sclL r p.1) = Pl.C r * p := Pl.ext fun x => by rw [Pl.val_mk, ev_scl, Pl.val_mul, Pl.val_C]; rfl
  show evE (orc G n) G (.mk "Poly" _) [some (P p), some (R r), none] S = _
  rw [evE, h2, ← e2]
  exact hm
omit b in
theorem lc_mem {p : Pl} (h : p ≠ 0) : p.lc ∈ p.1 := List.mem_of_getLast? (Pl.lc_some h)
/-- the monic multiple -/
def mon (p : Pl) : Pl := if p = 0 then p else Pl.C p.lc⁻¹ * p
theorem Poly_monic {p : Pl} (hp : SmL p.1) (hz : p.1.length ≤ 1000000) : PF G 6 ("Poly", "monic") [P p] (P (mon p)) := by
  refine pf_of b.p_monic rfl (pur_P _) fun n S hn => ⟨[], .inl ?_⟩
  rw [List.append_nil]
  by_cases h : p = 0
  · subst h
    refine b_rt (s_true (S1 := S) ?_ (b_rt (s_ret (S1 := S) ?_)))
    · simp [fillD, evE, evEs, fld_row b, bltD, lenD, eqD, Pl.zero_list]
    · simp [fillD, Pg.Poly_monic, evE, mon]
  · have hl := Pl.len_pos.mpr h
    have e : ((p.1.length : Int) == 0) = false := by
      unfold Pl.len at hl; simpa using (by omega : (p.1.length : Int) ≠ 0)
    have hs := hp _ (lc_mem h)
    have h1 := (Poly_last b h).low (n := n) (j := 0) (by omega) (S := S)
    have h2 := (Ratio_inverse b hs (Pl.lc_ne h)).low (n := n) (j := 0) (by omega) (S := S)
    have h3 := (Poly_scaled b hp (hs.inv (Pl.lc_ne h)) hz).low (n := n) (j := 0) (by omega) (S := S)
    refine b_nx (s_false (S1 := S) (o := some (.nx [some (P p)] S)) ?_ ?_) (b_rt (s_ret ?_))
    · simp [fillD, evE, evEs, fld_row b, bltD, lenD, eqD, e]
    · simp [evB, fillD, Pg.Poly_monic]
    · simp [evE, evEs, P, R] at h1 h2 h3 ⊢
      simp [h1, h2, h3, mon, h, P]
/-! ### == -/
omit b in
theorem eqL_R {O : Orc} {d : Nat} (hO : ∀ (x y : Rat) S, O.call d ("Ratio", "__eq__") [R x, R y] S = some (.bl (decide (x = y)), S)) (S : Store) : ∀ ps qs : List Rat, eqL O d (ps.map R) (qs.map R) S = some (decide (ps = qs))
  | [], [] => by simp [eqL]
  | [], _ :: _ => by simp [eqL]
  | _ :: _, [] => by simp [eqL]
  | p :: ps, q :: qs => by
    have ih := eqL_R hO S ps qs
    have h := hO p q S
    simp only [R] at h
    by_cases e : p = q
    · subst e
      simp [eqL, eqD, R, eqR, h]
      simpa [R] using ih
    · have hh : hard (.obj "Ratio" [.int p.num, .int p.den]) = true ∧ hard (.obj "Ratio" [.int q.num, .int q.den]) = true := ⟨rfl, rfl⟩
      have hne : ¬ (p.num = q.num ∧ p.den = q.den) := fun h => e (Rat.ext h.1 h.2)
      simp [eqL, eqD, R, eqR, h, e, hh.1, hh.2]
      exact fun h1 h2 => hne ⟨h1, by exact_mod_cast h2⟩
theorem Poly_eq (p q : Pl) : PF G 4 ("Poly", "__eq__") [P p, P q] (.bl (decide (p = q))) := by
  refine pf_ret b.p_eq rfl rfl rfl fun n S hn => ?_
  have e : decide (p = q) = decide (p.1 = q.1) := by congr 1; exact propext ⟨fun h => by rw [h], fun h => Subtype.ext h⟩
  have h := eqL_R (O := orc G n) (d := 1) (fun x y S => (Ratio_eq b x y).low (by omega)) S p.1 q.1
  have h1 := fld_row b p S
  have h2 := fld_row b q S
  simp only [P] at h1 h2
  simp [Pg.Poly___eq__, fillD, evE, evEs, h1, h2, bltD, isD, P, eqD, h, e]
end
end Ev

set_option linter.all false
set_option maxRecDepth 100000
set_option exponentiation.threshold 500000
/-! EvD: products, values, division. -/
namespace Ev
open Iv Mq
theorem PS.mono {D N M : Nat} {l : List Rat} (h : PS D N l) (hm : N ≤ M) : PS D M l := ⟨h.1, fun c hc => (h.2 c hc).mono hm⟩
theorem PS.set {D N M : Nat} {l : List Rat} (h : PS D N l) {i : Nat} {c : Rat} (hc : Sz D M c) (hm : N ≤ M) : PS D M (l.set i c) := ⟨h.1, fun d hd => by
  rcases List.mem_or_eq_of_mem_set hd with h1 | h1
  · exact (h.2 d h1).mono hm
  · rw [h1]; exact hc⟩
theorem ev_set (x : Rat) : ∀ (l : List Rat) (i : Nat) (h : i < l.length) (c : Rat), ev (l.set i c) x = ev l x + (c - l[i]) * x ^ i
  | a :: l, 0, _, c => by simp only [List.set_cons_zero, ev, List.getElem_cons_zero, Rat.pow_zero]; grind
  | a :: l, i + 1, h, c => by
    have ih := ev_set x l i (by simpa using h) c
    simp only [List.set_cons_succ, ev, List.getElem_cons_succ, ih, Rat.pow_succ]; grind
theorem ev_rep (x : Rat) : ∀ n : Nat, ev (List.replicate n 0) x = 0
  | 0 => rfl
  | n + 1 => by simp only [List.replicate_succ, ev, ev_rep x n]; grind
def encI (p : Rat × Nat) : DV := .tup [.int p.2, R p.1]
theorem enumI (l : List Rat) (k : Nat) : ((l.map R).zipIdx k).map (fun p => DV.tup [.int p.2, p.1]) = (l.zipIdx k).map encI := by
  rw [List.zipIdx_map, List.map_map]; rfl
theorem ix_store (S : Store) (l : List Rat) {i : Nat} (h : i < l.length) : ixD (.ref S.length) (.int i) (S ++ [.lst (l.map R)]) = some (R l[i]) := by
  simp [ixD, idx_nat h, List.getElem?_eq_getElem h]
section
variable {G : Gi} (b : Base G)
include b
theorem lc_zeros {O : Nat} (hO : 2 ≤ O) {i : Nat} {e : Es} {en : Iv.Env} {L : Nat} (hL : L ≤ 1000000) (hi : i < en.length) (S : Store) (h : evEs (orc G O) G e en S = some ([.int L], S)) :
    evE (orc G O) G (.lc (.one i) (.range e) (.mk "Ratio" (.cons (.cint 0) .nil))) en S = some (.frl ((List.replicate L 0).map R), S) := by
  have h1 := ev_lc (O := orc G O) (G := G) (t := .one i) (it := .range e) (el := .mk "Ratio" (.cons (.cint 0) .nil)) (en := en) (S := S) (S1 := S) (xs := List.range L) (enc := fun k => .int (0 + k)) (f := fun _ => R 0) (by
    have hs : small L := by unfold small; omega
    simp [evIt, h, hs, rangeL]) (by simp; omega) fun k _ => ⟨en.set i (some (.int (0 + k))), rfl, fun S => by
    have := mk_Ratio1 b (n := 0) hO S
    simpa [evE, evEs] using this⟩
  rw [h1]
  simp [List.map_const']
def mulBody : Ss := (.cons (.if_ (.cmp .ne (.fld (.var 7) "n") (.cint 0))
 (.cons (.item (.var 2) (.bin .add (.var 3) (.var 6)) (.bin .add (.ix (.var 2) (.bin .add (.var 3) (.var 6))) (.bin .mul (.var 4) (.var 7))))
 .nil)
 .nil)
 .nil)
theorem mul_inner {O : Nat} (hO : 4 ≤ O) {D M : Nat} {a : Rat} {i : Nat} {p q : DV} (S : Store) (ha : Sm a) (hD : D < 2 ^ big) : ∀ (qs : List Rat) (k : Nat) (s5 s6 s7 : Option DV) (acc : List Rat) (B : Nat), SmL qs → (∀ c ∈ qs, Sz D M (a * c)) → PS D B acc → B + qs.length * M < 2 ^ big → i + k + qs.length ≤ acc.length →
    ∃ (acc' : List Rat) (t6 t7 : Option DV), forL (.many [6, 7]) (evB (orc G O) G mulBody) none ((qs.zipIdx k).map encI) [some p, some q, some (.ref S.length), some (.int i), some (R a), s5, s6, s7] (S ++ [.lst (acc.map R)]) =
      some (.nx [some p, some q, some (.ref S.length), some (.int i), some (R a), s5, t6, t7] (S ++ [.lst (acc'.map R)])) ∧ acc'.length = acc.length ∧ (∀ x, ev acc' x = ev acc x + a * x ^ (i + k) * ev qs x) ∧ PS D (B + qs.length * M) acc'
  | [], k, s5, s6, s7, acc, B, _, _, hB, _, _ => ⟨acc, s6, s7, for_nil, rfl, fun x => by simp only [ev]; grind, by simpa using hB⟩
  | c :: qs, k, s5, s6, s7, acc, B, hq, hc, hB, hlt, hlen => by
    have hik : i + k < acc.length := by simp at hlen; omega
    have hsz := hc c (by simp)
    have hm : B + M < 2 ^ big := by
      have : B + M ≤ B + (c :: qs).length * M := by rw [List.length_cons, Nat.add_mul]; omega
      omega
    have hbind : ∀ s6 s7 : Option DV, bindT (.many [6, 7]) (encI (c, k)) [some p, some q, some (.ref S.length), some (.int i), some (R a), s5, s6, s7] = some [some p, some q, some (.ref S.length), some (.int i), some (R a), s5, some (.int k), some (R c)] := fun s6 s7 => by simp [bindT, encI, setAll]
    by_cases h0 : c = 0
    · obtain ⟨acc', t6, t7, h1, h2, h3, h4⟩ := mul_inner (i := i) (p := p) (q := q) hO S ha hD qs (k + 1) s5 (some (.int k)) (some (R c)) acc B (fun d hd => hq d (by simp [hd])) (fun d hd => hc d (by simp [hd])) hB (by rw [List.length_cons, Nat.add_mul] at hlt; omega) (by simp at hlen; omega)
      refine ⟨acc', t6, t7, ?_, h2, fun x => ?_, h4.mono (by rw [List.length_cons, Nat.add_mul]; omega)⟩
      · refine for_next (hbind s6 s7) (b_nx (o := some (.nx _ _)) (s_false (S1 := S ++ [.lst (acc.map R)]) (o := some (.nx _ _)) ?_ (by rw [evB])) (by rw [evB])) h1
        have hn : c.num = 0 := by rw [h0]; rfl
        simp [evE, fld_n b, eqD, hn]
      · rw [h3, h0]; simp only [ev]; rw [← Nat.add_assoc, Rat.pow_succ]; grind
    · have hadd : Sz D (B + M) (acc[i + k] + a * c) := (hB.2 _ (List.getElem_mem hik)).add hsz
      have hB' : PS D (B + M) (acc.set (i + k) (acc[i + k] + a * c)) := hB.set hadd (by omega)
      obtain ⟨acc', t6, t7, h1, h2, h3, h4⟩ := mul_inner (i := i) (p := p) (q := q) hO S ha hD qs (k + 1) s5 (some (.int k)) (some (R c)) (acc.set (i + k) (acc[i + k] + a * c)) (B + M) (fun d hd => hq d (by simp [hd])) (fun d hd => hc d (by simp [hd])) hB' (by rw [List.length_cons, Nat.add_mul] at hlt; omega) (by simp at hlen ⊢; omega)
      refine ⟨acc', t6, t7, ?_, by simpa using h2, fun x => ?_, h4.mono (by rw [List.length_cons, Nat.add_mul]; omega)⟩
      · have e1 : (i : Int) + (k : Int) = ((i + k : Nat) : Int) := by push_cast; rfl
        have hix : ixD (.ref S.length) (.int ((i : Int) + (k : Int))) (S ++ [.lst (acc.map R)]) = some (.obj "Ratio" [.int (acc[i + k]).num, .int (acc[i + k]).den]) := by rw [e1]; exact ix_store S acc hik
        have hid : idx acc.length ((i : Int) + (k : Int)) = some (i + k) := by rw [e1]; exact idx_nat hik
        have hmul := (Ratio_mul b ha (hq c (by simp))).low (n := O) (j := 0) (by omega) (S := S ++ [.lst (acc.map R)])
        have hsum := (Ratio_add b ((hB.2 _ (List.getElem_mem hik)).sm hD (by omega)) (hsz.sm hD (by omega))).low (n := O) (j := 0) (by omega) (S := S ++ [.lst (acc.map R)])
        refine for_next (hbind s6 s7) (b_nx (o := some (.nx _ _)) (s_true (S1 := S ++ [.lst (acc.map R)]) (o := some (.nx [some p, some q, some (.ref S.length), some (.int i), some (R a), s5, some (.int k), some (R c)] (S ++ [.lst ((acc.set (i + k) (acc[i + k] + a * c)).map R)]))) ?_ ?_) (by rw [evB])) h1
        · have hn : (c.num == 0) = false := by simpa using fun e => h0 (Rat.num_eq_zero.mp e)
          simp [evE, fld_n b, eqD, hn]
        · simp only [R] at hmul hsum
          simp [evB, evS, evE, binD, intOp, R, Bop.dun, hix, hmul, hsum, hid]
      · rw [h3, ev_set x _ _ hik]; simp only [ev]; rw [← Nat.add_assoc, Rat.pow_succ]; grind
def mulOuter : Ss := (.cons (.if_ (.cmp .eq (.fld (.var 4) "n") (.cint 0))
 (.cons .cont
 .nil)
 .nil)
 (.cons (.for_ (.many [6, 7]) (.enum (.fld (.var 1) "row"))
 mulBody)
 .nil))
theorem it_enum {O : Orc} {i : Nat} {en : Iv.Env} {p : Pl} (h : en[i]? = some (some (P p))) (S : Store) : evIt O G (.enum (.fld (.var i) "row")) en S = some (none, (p.1.zipIdx 0).map encI, S) := by
  have := enumI p.1 0
  simp [evIt, evE, h, fld_row b, seqOf] at this ⊢
  exact this
theorem mul_outer {O : Nat} (hO : 4 ≤ O) {D M : Nat} {q : Pl} {p : DV} (S : Store) (hq : SmL q.1) (hD : D < 2 ^ big) : ∀ (ps : List Rat) (k : Nat) (s3 s4 s5 s6 s7 : Option DV) (acc : List Rat) (B : Nat), SmL ps → (∀ a ∈ ps, ∀ c ∈ q.1, Sz D M (a * c)) → PS D B acc → B + ps.length * (q.1.length * M) < 2 ^ big → k + ps.length + q.1.length ≤ acc.length →
    ∃ (acc' : List Rat) (t3 t4 t6 t7 : Option DV), forL (.many [3, 4]) (evB (orc G O) G mulOuter) none ((ps.zipIdx k).map encI) [some p, some (P q), some (.ref S.length), s3, s4, s5, s6, s7] (S ++ [.lst (acc.map R)]) =
      some (.nx [some p, some (P q), some (.ref S.length), t3, t4, s5, t6, t7] (S ++ [.lst (acc'.map R)])) ∧ acc'.length = acc.length ∧ (∀ x, ev acc' x = ev acc x + x ^ k * ev ps x * ev q.1 x) ∧ PS D (B + ps.length * (q.1.length * M)) acc'
  | [], k, s3, s4, s5, s6, s7, acc, B, _, _, hB, _, _ => ⟨acc, s3, s4, s6, s7, for_nil, rfl, fun x => by simp only [ev]; grind, by simpa using hB⟩
  | a :: ps, k, s3, s4, s5, s6, s7, acc, B, hp, hc, hB, hlt, hlen => by
    have hl1 : (a :: ps).length * (q.1.length * M) = ps.length * (q.1.length * M) + q.1.length * M := by rw [List.length_cons, Nat.add_mul]; omega
    rw [hl1] at hlt ⊢
    have hbind : bindT (.many [3, 4]) (encI (a, k)) [some p, some (P q), some (.ref S.length), s3, s4, s5, s6, s7] = some [some p, some (P q), some (.ref S.length), some (.int k), some (R a), s5, s6, s7] := by simp [bindT, encI, setAll]
    by_cases h0 : a = 0
    · obtain ⟨acc', t3, t4, t6, t7, h1, h2, h3, h4⟩ := mul_outer (p := p) hO S hq hD ps (k + 1) (some (.int k)) (some (R a)) s5 s6 s7 acc B (fun d hd => hp d (by simp [hd])) (fun d hd => hc d (by simp [hd])) hB (by omega) (by simp at hlen; omega)
      refine ⟨acc', t3, t4, t6, t7, ?_, h2, fun x => ?_, h4.mono (by omega)⟩
      · refine for_cont hbind (b_ct (s_true (S1 := S ++ [.lst (acc.map R)]) (o := some (.ct _ _)) ?_ (b_ct (by rw [evS])))) h1
        have hn : a.num = 0 := by rw [h0]; rfl
        simp [evE, fld_n b, eqD, hn]
      · rw [h3, h0]; simp only [ev]; rw [Rat.pow_succ]; grind
    · obtain ⟨acc1, u6, u7, g1, g2, g3, g4⟩ := mul_inner (i := k) (p := p) (q := P q) b hO S (hp a (by simp)) hD q.1 0 s5 s6 s7 acc B hq (fun c hc' => hc a (by simp) c hc') hB (by omega) (by simp at hlen; omega)
      obtain ⟨acc', t3, t4, t6, t7, h1, h2, h3, h4⟩ := mul_outer (p := p) hO S hq hD ps (k + 1) (some (.int k)) (some (R a)) s5 u6 u7 acc1 (B + q.1.length * M) (fun d hd => hp d (by simp [hd])) (fun d hd => hc d (by simp [hd])) g4 (by omega) (by simp at hlen; omega)
      refine ⟨acc', t3, t4, t6, t7, ?_, by omega, fun x => ?_, h4.mono (by omega)⟩
      · refine for_next hbind (b_nx (o := some (.nx _ _)) (s_false (S1 := S ++ [.lst (acc.map R)]) (o := some (.nx _ _)) ?_ (by rw [evB])) (b_nx (o := some (.nx _ _)) (s_for (S1 := S ++ [.lst (acc.map R)]) (it_enum b (by rfl) _) g1) (by rw [evB]))) h1
        have hn : (a.num == 0) = false := by simpa using fun e => h0 (Rat.num_eq_zero.mp e)
        simp [evE, fld_n b, eqD, hn]
      · rw [h3, g3]; simp only [ev, Nat.add_zero]; rw [Rat.pow_succ]; grind
omit b in
theorem gc_mk {S T : Store} {d : DV} (h : pur d = true) : gc S (S ++ T) d = (d, S) := gc_pure h
/-- the product -/
theorem Poly_mul {p q : Pl} {D M : Nat} (hp : SmL p.1) (hq : SmL q.1) (h0 : 0 < D) (hc : ∀ a ∈ p.1, ∀ c ∈ q.1, Sz D M (a * c)) (hD : D < 2 ^ big) (hM : p.1.length * (q.1.length * M) < 2 ^ big) (hz : p.1.length ≤ 1000) (hz' : q.1.length ≤ 1000) :
    PF G 5 ("Poly", "__mul__") [P p, P q] (P (p * q)) := by
  refine pf_of b.p_mul rfl (pur_P _) fun n S hn => ?_
  have hz1 := lc_zeros b (O := n) (by omega) (i := 5) (e := .cons (.bin .add (.blt .len (.cons (.fld (.var 0) "row") .nil)) (.blt .len (.cons (.fld (.var 1) "row") .nil))) .nil) (en := [some (P p), some (P q), none, none, none, none, none, none]) (L := p.1.length + q.1.length) (by omega) (by simp) S (by
    simp [evEs, evE, fld_row b, bltD, lenD, binD, intOp])
  obtain ⟨acc, t3, t4, t6, t7, h1, h2, h3, h4⟩ := mul_outer b hn (p := P p) (q := q) (D := D) (M := M) S hq hD p.1 0 none none none none none (List.replicate (p.1.length + q.1.length) 0) 0 hp hc ⟨h0, fun c hc => by rw [(List.mem_replicate.mp hc).2]; exact Sz.zero h0⟩ (by omega) (by simp)
  refine ⟨[.dead], .inl ?_⟩
  refine b_nx (s_new hz1) (b_nx (s_for (it_enum b (p := p) (by rfl) _) h1) (b_rt (s_ret ?_)))
  have e : Pl.mk acc = p * q := Pl.ext fun x => by rw [Pl.val_mk, h3, ev_rep, Pl.val_mul]; simp only [Pl.val, Rat.pow_zero]; grind
  have hm := mk_PolyR b (l := acc) (row := .frl (acc.map R)) (by simp at h2; omega) (.inl rfl) hn (S ++ [.dead])
  rw [e] at hm
  simp [evE, evEs, hm]
end
end Ev

set_option linter.all false
set_option maxRecDepth 100000
set_option exponentiation.threshold 500000
/-! EvE: values, division. -/
namespace Ev
open Iv Mq
theorem Sz.num_pow {D N E : Nat} {q : Rat} (h : Sz D N q) (hE : 0 < E) (k : Nat) : Sz (D * E ^ k) (N * E ^ k) q := h.up (Nat.pow_pos hE)
theorem ix_store2 (S T : Store) (l : List Rat) {i : Nat} (h : i < l.length) : ixD (.ref S.length) (.int i) (S ++ .lst (l.map R) :: T) = some (R l[i]) := by
  simp [ixD, idx_nat h, List.getElem?_eq_getElem h]
theorem ev_horner (x : Rat) : ∀ l : List Rat, l.reverse.foldl (fun v c => v * x + c) 0 = ev l x
  | [] => rfl
  | c :: l => by rw [List.reverse_cons, List.foldl_append, ev_horner x l]; simp only [List.foldl, ev]; grind
section
variable {G : Gi} (b : Base G)
include b
theorem call_loop {O : Nat} (hO : 3 ≤ O) {D N E M : Nat} {x : Rat} {s0 : DV} (S : Store) (hx : Sz E M x) (hEM : E ≤ M) : ∀ (ls : List Rat) (k : Nat) (v : Rat) (s3 : Option DV), (∀ c ∈ ls, Sz D N c) → Sz (D * E ^ k) (k * (N * M ^ k)) v → D * E ^ (k + ls.length) < 2 ^ big → (k + ls.length) * (N * M ^ (k + ls.length)) < 2 ^ big → D < 2 ^ big → N < 2 ^ big → Sm x → 0 < M →
    ∃ t3, forL (.one 3) (evB (orc G O) G (.cons (.asg 2 (.bin .add (.bin .mul (.var 2) (.var 1)) (.var 3))) .nil)) none (ls.map R) [some s0, some (R x), some (R v), s3] S =
      some (.nx [some s0, some (R x), some (R (ls.foldl (fun v c => v * x + c) v)), t3] S)
  | [], k, v, s3, _, _, _, _, _, _, _, _ => ⟨s3, for_nil⟩
  | c :: ls, k, v, s3, hc, hv, h1, h2, h3, h4, hsx, hM => by
    have hE : 0 < E := hx.1
    have hk : k + (c :: ls).length = (k + 1) + ls.length := by simp; omega
    rw [hk] at h1 h2
    have hmul : Sz (D * E ^ (k + 1)) (k * (N * M ^ (k + 1))) (v * x) := by
      have := hv.mul hx
      rw [Nat.mul_assoc, ← Nat.pow_succ] at this
      refine this.mono (Nat.le_of_eq ?_)
      rw [Nat.pow_succ]; simp only [Nat.mul_assoc]
    have hc' : Sz (D * E ^ (k + 1)) (N * M ^ (k + 1)) c := ((hc c (by simp)).num_pow hE (k + 1)).mono (Nat.mul_le_mul_left _ (Nat.pow_le_pow_left hEM _))
    have hsum : Sz (D * E ^ (k + 1)) ((k + 1) * (N * M ^ (k + 1))) (v * x + c) := (hmul.add hc').mono (by rw [Nat.add_mul, Nat.one_mul]; exact Nat.le_refl _)
    have hDk : D * E ^ (k + 1) ≤ D * E ^ (k + 1 + ls.length) := Nat.mul_le_mul_left _ (Nat.pow_le_pow_right hE (by omega))
    have hDk0 : D * E ^ k ≤ D * E ^ (k + 1) := Nat.mul_le_mul_left _ (Nat.pow_le_pow_right hE (by omega))
    have hNk : (k + 1) * (N * M ^ (k + 1)) ≤ (k + 1 + ls.length) * (N * M ^ (k + 1 + ls.length)) := Nat.mul_le_mul (by omega) (Nat.mul_le_mul_left _ (Nat.pow_le_pow_right hM (by omega)))
    have hNk0 : k * (N * M ^ k) ≤ (k + 1) * (N * M ^ (k + 1)) := Nat.mul_le_mul (by omega) (Nat.mul_le_mul_left _ (Nat.pow_le_pow_right hM (by omega)))
    have hNk1 : k * (N * M ^ (k + 1)) ≤ (k + 1) * (N * M ^ (k + 1)) := Nat.mul_le_mul_right _ (by omega)
    obtain ⟨t3, h⟩ := call_loop hO (s0 := s0) S hx hEM ls (k + 1) (v * x + c) (some (R c)) (fun d hd => hc d (by simp [hd])) hsum (by omega) (by omega) h3 h4 hsx hM
    refine ⟨t3, for_next (en1 := [some s0, some (R x), some (R v), some (R c)]) rfl (b_nx (o := some (.nx _ _)) (s_asg (S1 := S) (d := R (v * x + c)) ?_) (by rw [evB]; rfl)) h⟩
    have e1 := (Ratio_mul b (hv.sm (by omega) (by omega)) hsx).low (n := O) (j := 0) (by omega) (S := S)
    have e2 := (Ratio_add b (hmul.sm (by omega) (by omega)) ((hc c (by simp)).sm h3 h4)).low (n := O) (j := 0) (by omega) (S := S)
    simp only [R] at e1 e2
    simp [evE, binD, R, Bop.dun, e1, e2]
theorem Poly_call {p : Pl} {x : Rat} {D N E M : Nat} (hp : PS D N p.1) (hx : Sz E M x) (hEM : E ≤ M) (h1 : D * E ^ p.1.length < 2 ^ big) (h2 : p.1.length * (N * M ^ p.1.length) < 2 ^ big) (hD : D < 2 ^ big) (hN : N < 2 ^ big) (hM : M < 2 ^ big) :
    PF G 4 ("Poly", "__call__") [P p, R x] (R (p.val x)) := by
  refine pf_of b.p_call rfl rfl fun n S hn => ⟨[], .inl ?_⟩
  have hM0 : 0 < M := Nat.lt_of_lt_of_le hx.1 hEM
  obtain ⟨t3, h⟩ := call_loop b (O := n) hn (s0 := P p) S hx hEM p.1.reverse 0 0 none (fun c hc => hp.2 c (List.mem_reverse.mp hc)) (by simpa using Sz.zero hp.1) (by simpa using h1) (by simpa using h2) hD hN (hx.sm (by omega) hM) hM0
  rw [ev_horner] at h
  rw [List.append_nil]
  refine b_nx (s_asg (S1 := S) (d := R 0) ?_) (b_nx (s_for (S1 := S) (ds := p.1.reverse.map R) ?_ h) (b_rt (s_ret (S1 := S) ?_)))
  · have := mk_Ratio1 b (n := 0) (m := n) (by omega) S
    simpa [evE, evEs] using this
  · simp [fillD, evIt, evE, evEs, fld_row b, bltD, List.map_reverse]
  · simp [evE, Pl.val]
/-! ### division -/
def divBody : Ss := (.cons (.if_ (.cmp .ne (.fld (.var 10) "n") (.cint 0))
 (.cons (.item (.var 3) (.bin .add (.var 6) (.var 9)) (.bin .sub (.ix (.var 3) (.bin .add (.var 6) (.var 9))) (.bin .mul (.var 7) (.var 10))))
 .nil)
 .nil)
 .nil)
theorem div_inner {O : Nat} (hO : 4 ≤ O) {D M : Nat} {a : Rat} {i : Nat} {p q s2 s4 s5 : Option DV} (S T : Store) (ha : Sm a) (hD : D < 2 ^ big) : ∀ (qs : List Rat) (k : Nat) (s8 s9 s10 : Option DV) (acc : List Rat) (B : Nat), SmL qs → (∀ c ∈ qs, Sz D M (a * c)) → PS D B acc → B + qs.length * M < 2 ^ big → i + k + qs.length ≤ acc.length →
    ∃ (acc' : List Rat) (t9 t10 : Option DV), forL (.many [9, 10]) (evB (orc G O) G divBody) none ((qs.zipIdx k).map encI) [p, q, s2, some (.ref S.length), s4, s5, some (.int i), some (R a), s8, s9, s10] (S ++ .lst (acc.map R) :: T) =
      some (.nx [p, q, s2, some (.ref S.length), s4, s5, some (.int i), some (R a), s8, t9, t10] (S ++ .lst (acc'.map R) :: T)) ∧ acc'.length = acc.length ∧ (∀ x, ev acc' x = ev acc x - a * x ^ (i + k) * ev qs x) ∧ PS D (B + qs.length * M) acc' ∧
      (∀ j, i + k + qs.length ≤ j → acc'[j]? = acc[j]?) ∧ (∀ j, j < i + k → acc'[j]? = acc[j]?) ∧ (∀ c, qs.getLast? = some c → ∀ u, acc[i + k + qs.length - 1]? = some u → acc'[i + k + qs.length - 1]? = some (u - a * c))
  | [], k, s8, s9, s10, acc, B, _, _, hB, _, _ => ⟨acc, s9, s10, for_nil, rfl, fun x => by simp only [ev]; grind, by simpa using hB, fun _ _ => rfl, fun _ _ => rfl, fun c h => by simp at h⟩
  | c :: qs, k, s8, s9, s10, acc, B, hq, hc, hB, hlt, hlen => by
    have hik : i + k < acc.length := by simp at hlen; omega
    have hsz := hc c (by simp)
    have hm : B + M < 2 ^ big := by
      have : B + M ≤ B + (c :: qs).length * M := by rw [List.length_cons, Nat.add_mul]; omega
      omega
    have hbind : bindT (.many [9, 10]) (encI (c, k)) [p, q, s2, some (.ref S.length), s4, s5, some (.int i), some (R a), s8, s9, s10] = some [p, q, s2, some (.ref S.length), s4, s5, some (.int i), some (R a), s8, some (.int k), some (R c)] := by simp [bindT, encI, setAll]
    have hlast : ∀ {acc1 acc' : List Rat}, acc1[i + k]? = some (acc[i + k] - a * c) → (∀ j, i + (k + 1) ≤ j → acc1[j]? = acc[j]?) →
        (∀ j, j < i + (k + 1) → acc'[j]? = acc1[j]?) → (∀ c, qs.getLast? = some c → ∀ u, acc1[i + (k + 1) + qs.length - 1]? = some u → acc'[i + (k + 1) + qs.length - 1]? = some (u - a * c)) →
        ∀ d, (c :: qs).getLast? = some d → ∀ u, acc[i + k + (c :: qs).length - 1]? = some u → acc'[i + k + (c :: qs).length - 1]? = some (u - a * d) := by
      intro acc1 acc' e1 e2 e3 e4 d hd u hu
      cases qs with
      | nil =>
        have : c = d := by simpa using hd
        subst this
        simp only [List.length_cons, List.length_nil, Nat.zero_add, Nat.add_sub_cancel] at hu ⊢
        rw [e3 _ (by omega), e1]
        rw [List.getElem?_eq_getElem hik] at hu
        cases hu; rfl
      | cons c' qs' =>
        rw [List.getLast?_cons_cons] at hd
        have e : i + k + (c :: c' :: qs').length - 1 = i + (k + 1) + (c' :: qs').length - 1 := by simp; omega
        rw [e] at hu ⊢
        exact e4 d hd u (by rw [e2 _ (by simp)]; exact hu)
    by_cases h0 : c = 0
    · obtain ⟨acc', t9, t10, h1, h2, h3, h4, h5, h6, h7⟩ := div_inner (i := i) (p := p) (q := q) (s2 := s2) (s4 := s4) (s5 := s5) hO S T ha hD qs (k + 1) s8 (some (.int k)) (some (R c)) acc B (fun d hd => hq d (by simp [hd])) (fun d hd => hc d (by simp [hd])) hB (by rw [List.length_cons, Nat.add_mul] at hlt; omega) (by simp at hlen; omega)
      refine ⟨acc', t9, t10, ?_, h2, fun x => ?_, h4.mono (by rw [List.length_cons, Nat.add_mul]; omega), fun j hj => h5 j (by simp at hj; omega), fun j hj => h6 j (by omega), hlast (acc1 := acc) (by rw [List.getElem?_eq_getElem hik, h0]; congr 1; grind) (fun _ _ => rfl) h6 h7⟩
      · refine for_next hbind (b_nx (o := some (.nx _ _)) (s_false (S1 := S ++ .lst (acc.map R) :: T) (o := some (.nx _ _)) ?_ (by rw [evB])) (by rw [evB])) h1
        have hn : c.num = 0 := by rw [h0]; rfl
        simp [evE, fld_n b, eqD, hn]
      · rw [h3, h0]; simp only [ev]; rw [← Nat.add_assoc, Rat.pow_succ]; grind
    · have hadd : Sz D (B + M) (acc[i + k] - a * c) := (hB.2 _ (List.getElem_mem hik)).sub hsz
      have hB' : PS D (B + M) (acc.set (i + k) (acc[i + k] - a * c)) := hB.set hadd (by omega)
      obtain ⟨acc', t9, t10, h1, h2, h3, h4, h5, h6, h7⟩ := div_inner (i := i) (p := p) (q := q) (s2 := s2) (s4 := s4) (s5 := s5) hO S T ha hD qs (k + 1) s8 (some (.int k)) (some (R c)) (acc.set (i + k) (acc[i + k] - a * c)) (B + M) (fun d hd => hq d (by simp [hd])) (fun d hd => hc d (by simp [hd])) hB' (by rw [List.length_cons, Nat.add_mul] at hlt; omega) (by simp at hlen ⊢; omega)
      refine ⟨acc', t9, t10, ?_, by simpa using h2, fun x => ?_, h4.mono (by rw [List.length_cons, Nat.add_mul]; omega), fun j hj => ?_, fun j hj => ?_, hlast (acc1 := acc.set (i + k) (acc[i + k] - a * c)) (by rw [List.getElem?_set_self hik]) (fun j hj => by rw [List.getElem?_set_ne (by omega)]) h6 h7⟩
      · have e1 : (i : Int) + (k : Int) = ((i + k : Nat) : Int) := by push_cast; rfl
        have hix : ixD (.ref S.length) (.int ((i : Int) + (k : Int))) (S ++ .lst (acc.map R) :: T) = some (.obj "Ratio" [.int (acc[i + k]).num, .int (acc[i + k]).den]) := by
          rw [e1]; exact ix_store2 S T acc hik
        have hid : idx acc.length ((i : Int) + (k : Int)) = some (i + k) := by rw [e1]; exact idx_nat hik
        have hmul := (Ratio_mul b ha (hq c (by simp))).low (n := O) (j := 0) (by omega) (S := S ++ .lst (acc.map R) :: T)
        have hsum := (Ratio_sub b ((hB.2 _ (List.getElem_mem hik)).sm hD (by omega)) (hsz.sm hD (by omega))).low (n := O) (j := 0) (by omega) (S := S ++ .lst (acc.map R) :: T)
        refine for_next hbind (b_nx (o := some (.nx _ _)) (s_true (S1 := S ++ .lst (acc.map R) :: T) (o := some (.nx [p, q, s2, some (.ref S.length), s4, s5, some (.int i), some (R a), s8, some (.int k), some (R c)] (S ++ .lst ((acc.set (i + k) (acc[i + k] - a * c)).map R) :: T))) ?_ ?_) (by rw [evB])) h1
        · have hn : (c.num == 0) = false := by simpa using fun e => h0 (Rat.num_eq_zero.mp e)
          simp [evE, fld_n b, eqD, hn]
        · simp only [R] at hmul hsum
          simp [evB, evS, evE, binD, intOp, R, Bop.dun, hix, hmul, hsum, hid]
      · rw [h3, ev_set x _ _ hik]; simp only [ev]; rw [← Nat.add_assoc, Rat.pow_succ]; grind
      · rw [h5 j (by simp at hj; omega), List.getElem?_set_ne (by simp at hj; omega)]
      · rw [h6 j (by omega), List.getElem?_set_ne (by omega)]
def divOuter : Ss := (.cons (.asg 7 (.bin .mul (.ix (.var 3) (.bin .sub (.bin .add (.var 6) (.blt .len (.cons (.fld (.var 1) "row") .nil))) (.cint 1))) (.var 2)))
 (.cons (.item (.var 5) (.var 6) (.var 7))
 (.cons (.if_ (.cmp .eq (.fld (.var 7) "n") (.cint 0))
 (.cons .cont
 .nil)
 .nil)
 (.cons (.for_ (.many [9, 10]) (.enum (.fld (.var 1) "row"))
 divBody)
 .nil))))
omit b in
/-- n - 1, .., 0 -/
def desc : Nat → List DV
  | 0 => []
  | n + 1 => .int n :: desc n
omit b in
theorem rangeD_desc : ∀ n : Nat, rangeD ((n : Int) - 1) (-1) = desc n
  | 0 => rfl
  | n + 1 => by
    have ih := rangeD_desc n
    unfold rangeD at *
    have e1 : (((n + 1 : Nat) : Int) - 1 - -1).toNat = n + 1 := by omega
    have e2 : ((n : Int) - 1 - -1).toNat = n := by omega
    rw [e2] at ih
    rw [e1, List.range_succ_eq_map, List.map_cons, List.map_map, desc, ← ih]
    congr 1
    · congr 1; omega
    · refine List.map_congr_left fun a _ => ?_
      simp only [Function.comp]; congr 1; push_cast; omega
/-- one quotient after the other -/
theorem div_outer {O : Nat} (hO : 4 ≤ O) {I J E M : Nat} {d : Pl} {p : DV} {s4 s8 : Option DV} (hd : d ≠ 0) (S : Store) (hdS : PS E M d.1) (hdm : SmL d.1) (hi : Sz I J d.lc⁻¹) (hI : I < 2 ^ big) (hJ : J < 2 ^ big) (hM : 0 < M) : ∀ (n : Nat) (s6 s7 s9 s10 : Option DV) (rest out : List Rat) (D N : Nat),
    PS D N rest → D * (I * E) ^ n < 2 ^ big → N * (I * E + d.1.length * (J * M)) ^ n < 2 ^ big → (0 < n → D * I < 2 ^ big ∧ N * J < 2 ^ big) → (∀ j, n + d.1.length - 1 ≤ j → ∀ u, rest[j]? = some u → u = 0) → (∀ j, j < n → ∀ u, out[j]? = some u → u = 0) → n ≤ out.length → (0 < n → n + d.1.length - 1 ≤ rest.length) →
    ∃ (rest' out' : List Rat) (t6 t7 t9 t10 : Option DV), forL (.one 6) (evB (orc G O) G divOuter) none (desc n) [some p, some (P d), some (R d.lc⁻¹), some (.ref S.length), s4, some (.ref (S.length + 1)), s6, s7, s8, s9, s10] (S ++ [.lst (rest.map R), .lst (out.map R)]) =
      some (.nx [some p, some (P d), some (R d.lc⁻¹), some (.ref S.length), s4, some (.ref (S.length + 1)), t6, t7, s8, t9, t10] (S ++ [.lst (rest'.map R), .lst (out'.map R)])) ∧
      rest'.length = rest.length ∧ out'.length = out.length ∧ (∀ x, ev out' x * ev d.1 x + ev rest' x = ev out x * ev d.1 x + ev rest x) ∧ (∀ j, d.1.length - 1 ≤ j → ∀ u, rest'[j]? = some u → u = 0)
  | 0, s6, s7, s9, s10, rest, out, D, N, _, _, _, _, hz, _, _, _ => ⟨rest, out, s6, s7, s9, s10, for_nil, rfl, rfl, fun x => rfl, fun j hj => hz j (by omega)⟩
  | n + 1, s6, s7, s9, s10, rest, out, D, N, hr, hD, hN, hDN, hz, hoz, hol, hrl => by
    have hdl := Pl.len_pos.mpr hd
    unfold Pl.len at hdl
    have hI0 : 0 < I := hi.1
    have hE0 : 0 < E := hdS.1
    have hIE : 0 < I * E := Nat.mul_pos hI0 hE0
    have hJ0 : 0 < J := by
      obtain ⟨_, m, e, l⟩ := hi
      rcases Nat.eq_zero_or_pos J with h | h
      · subst h
        have : m = 0 := by omega
        subst this
        have hI' : (I : Rat) ≠ 0 := by exact_mod_cast (show I ≠ 0 by omega)
        have : d.lc⁻¹ = 0 := by
          rcases Rat.mul_eq_zero.mp (show d.lc⁻¹ * (I : Rat) = 0 by simpa using e) with h | h
          · exact h
          · exact absurd h hI'
        have := Rat.mul_inv_cancel _ (Pl.lc_ne hd)
        grind
      · exact h
    obtain ⟨hDI, hNJ⟩ := hDN (by omega)
    have hrl := hrl (by omega)
    have hidx : n + d.1.length - 1 < rest.length := by omega
    -- the factor
    let u := rest[n + d.1.length - 1]
    have hu : Sz D N u := hr.2 _ (List.getElem_mem hidx)
    have hf : Sz (D * I) (N * J) (u * d.lc⁻¹) := hu.mul hi
    have hDb : D < 2 ^ big := Nat.lt_of_le_of_lt (Nat.le_mul_of_pos_right _ hI0) hDI
    have hNb : N < 2 ^ big := Nat.lt_of_le_of_lt (Nat.le_mul_of_pos_right _ hJ0) hNJ
    have hfs : Sm (u * d.lc⁻¹) := hf.sm hDI hNJ
    have W0 : 0 < I * E + d.1.length * (J * M) := by omega
    have hDn : D * (I * E) ≤ D * (I * E) ^ (n + 1) := Nat.mul_le_mul_left _ (by rw [Nat.pow_succ]; exact Nat.le_mul_of_pos_left _ (Nat.pow_pos hIE))
    have hNn : N * (I * E + d.1.length * (J * M)) ≤ N * (I * E + d.1.length * (J * M)) ^ (n + 1) := Nat.mul_le_mul_left _ (by rw [Nat.pow_succ]; exact Nat.le_mul_of_pos_left _ (Nat.pow_pos W0))
    have hr2 : PS (D * (I * E)) (N * (I * E)) rest := ⟨Nat.mul_pos hr.1 hIE, fun c hc => (hr.2 c hc).up hIE⟩
    have hfc : ∀ c ∈ d.1, Sz (D * (I * E)) (N * (J * M)) (u * d.lc⁻¹ * c) := fun c hc => by
      have := hf.mul (hdS.2 c hc)
      rw [Nat.mul_assoc, Nat.mul_assoc] at this
      exact this
    have hB : N * (I * E) + d.1.length * (N * (J * M)) = N * (I * E + d.1.length * (J * M)) := by
      rw [Nat.mul_add]; congr 1; simp only [Nat.mul_left_comm]
    have hml := fun T : Store => (Ratio_mul b (hu.sm hDb hNb) (hi.sm hI hJ)).low (n := O) (j := 0) (by omega) (S := T)
    have e1 : (n : Int) + (d.1.length : Int) - 1 = ((n + d.1.length - 1 : Nat) : Int) := by omega
    have hasg : ∀ s6 s7 s9 s10 : Option DV, evS (orc G O) G (.asg 7 (.bin .mul (.ix (.var 3) (.bin .sub (.bin .add (.var 6) (.blt .len (.cons (.fld (.var 1) "row") .nil))) (.cint 1))) (.var 2))) [some p, some (P d), some (R d.lc⁻¹), some (.ref S.length), s4, some (.ref (S.length + 1)), some (.int n), s7, s8, s9, s10] (S ++ [.lst (rest.map R), .lst (out.map R)]) =
        some (.nx [some p, some (P d), some (R d.lc⁻¹), some (.ref S.length), s4, some (.ref (S.length + 1)), some (.int n), some (R (u * d.lc⁻¹)), s8, s9, s10] (S ++ [.lst (rest.map R), .lst (out.map R)])) := fun s6 s7 s9 s10 => by
      have hix : ixD (.ref S.length) (.int ((n : Int) + (d.1.length : Int) - 1)) (S ++ [.lst (rest.map R), .lst (out.map R)]) = some (.obj "Ratio" [.int u.num, .int u.den]) := by
        rw [e1]; exact ix_store2 S [.lst (out.map R)] rest hidx
      have hm := hml (S ++ [.lst (rest.map R), .lst (out.map R)])
      generalize d.lc⁻¹ = v at hm ⊢
      simp only [R] at hm
      simp [evS, evE, evEs, fld_row b, bltD, lenD, binD, intOp, hix, R, Bop.dun, hm]
    have hitem : ∀ s9 s10 : Option DV, evS (orc G O) G (.item (.var 5) (.var 6) (.var 7)) [some p, some (P d), some (R d.lc⁻¹), some (.ref S.length), s4, some (.ref (S.length + 1)), some (.int n), some (R (u * d.lc⁻¹)), s8, s9, s10] (S ++ [.lst (rest.map R), .lst (out.map R)]) =
        some (.nx [some p, some (P d), some (R d.lc⁻¹), some (.ref S.length), s4, some (.ref (S.length + 1)), some (.int n), some (R (u * d.lc⁻¹)), s8, s9, s10] (S ++ [.lst (rest.map R), .lst ((out.set n (u * d.lc⁻¹)).map R)])) := fun s9 s10 => by
      have hid : idx out.length (n : Int) = some n := idx_nat (by omega)
      have h1 : (S ++ [Cell.lst (rest.map R), Cell.lst (out.map R)])[S.length + 1]? = some (.lst (out.map R)) := by
        rw [List.getElem?_append_right (by omega)]; simp
      have h2 : (S ++ [Cell.lst (rest.map R), Cell.lst (out.map R)]).set (S.length + 1) (.lst ((out.set n (u * d.lc⁻¹)).map R)) = S ++ [.lst (rest.map R), .lst ((out.set n (u * d.lc⁻¹)).map R)] := by
        rw [List.set_append_right _ _ (by omega)]; simp
      rw [List.map_set] at h2
      simp [evS, evE, h1, hid, h2, List.map_set]
    have hn0 : ∀ w, out[n]? = some w → w = 0 := hoz n (by omega)
    have hon : out[n]'(by omega) = 0 := hn0 _ (List.getElem?_eq_getElem (by omega))
    have hev : ∀ x, ev (out.set n (u * d.lc⁻¹)) x = ev out x + u * d.lc⁻¹ * x ^ n := fun x => by
      rw [ev_set x _ _ (by omega), hon]; grind
    have hoz' : ∀ j, j < n → ∀ w, (out.set n (u * d.lc⁻¹))[j]? = some w → w = 0 := fun j hj w hw => by
      rw [List.getElem?_set_ne (by omega)] at hw; exact hoz j (by omega) w hw
    have hbind : bindT (.one 6) (.int n) [some p, some (P d), some (R d.lc⁻¹), some (.ref S.length), s4, some (.ref (S.length + 1)), s6, s7, s8, s9, s10] = some [some p, some (P d), some (R d.lc⁻¹), some (.ref S.length), s4, some (.ref (S.length + 1)), some (.int n), s7, s8, s9, s10] := rfl
    have hul : rest[n + d.1.length - 1]? = some u := List.getElem?_eq_getElem hidx
    by_cases h0 : u * d.lc⁻¹ = 0
    · have hu0 : u = 0 := by
        have := Rat.mul_inv_cancel _ (Pl.lc_ne hd)
        grind
      have hz' : ∀ j, n + d.1.length - 1 ≤ j → ∀ w, rest[j]? = some w → w = 0 := fun j hj w hw => by
        by_cases hj' : j = n + d.1.length - 1
        · subst hj'; rw [hul] at hw; cases hw; exact hu0
        · exact hz j (by omega) w hw
      have hDle : D * (I * E) ^ n ≤ D * (I * E) ^ (n + 1) := Nat.mul_le_mul_left _ (Nat.pow_le_pow_right hIE (by omega))
      have hNle : N * (I * E + d.1.length * (J * M)) ^ n ≤ N * (I * E + d.1.length * (J * M)) ^ (n + 1) := Nat.mul_le_mul_left _ (Nat.pow_le_pow_right W0 (by omega))
      obtain ⟨rest', out', t6, t7, t9, t10, g1, g2, g3, g4, g5⟩ := div_outer hO (p := p) (s4 := s4) (s8 := s8) hd S hdS hdm hi hI hJ hM n (some (.int n)) (some (R (u * d.lc⁻¹))) s9 s10 rest (out.set n (u * d.lc⁻¹)) D N hr (by omega) (by omega) (fun _ => ⟨hDI, hNJ⟩) hz' hoz' (by simp; omega) (fun _ => by omega)
      refine ⟨rest', out', t6, t7, t9, t10, ?_, g2, by simpa using g3, fun x => ?_, g5⟩
      · refine for_cont hbind (b_nx (hasg (some (.int n)) s7 s9 s10) (b_nx (hitem s9 s10) (b_ct (s_true (S1 := S ++ [.lst (rest.map R), .lst ((out.set n (u * d.lc⁻¹)).map R)]) (o := some (.ct _ _)) ?_ (b_ct (by rw [evS])))))) g1
        have hn : (u * d.lc⁻¹).num = 0 := by rw [h0]; rfl
        simp [evE, fld_n b, eqD, hn]
      · rw [g4, hev, h0]; grind
    · obtain ⟨rest1, v9, v10, k1, k2, k3, k4, k5, k6, k7⟩ := div_inner b (i := n) (p := some p) (q := some (P d)) (s2 := some (R d.lc⁻¹)) (s4 := s4) (s5 := some (.ref (S.length + 1))) hO (D := D * (I * E)) (M := N * (J * M)) S [.lst ((out.set n (u * d.lc⁻¹)).map R)] hfs (by omega) d.1 0 s8 s9 s10 rest (N * (I * E)) hdm hfc hr2 (by rw [hB]; omega) (by omega)
      rw [hB] at k4
      have hz1 : ∀ j, n + d.1.length - 1 ≤ j → ∀ w, rest1[j]? = some w → w = 0 := fun j hj w hw => by
        by_cases hj' : j = n + d.1.length - 1
        · subst hj'
          have := k7 d.lc (Pl.lc_some hd) u (by simpa using hul)
          simp only [Nat.add_zero] at this
          rw [this] at hw
          have h3 := Rat.mul_inv_cancel _ (Pl.lc_ne hd)
          cases hw; grind
        · rw [k5 j (by omega)] at hw; exact hz j (by omega) w hw
      have hpw : D * (I * E) * (I * E) ^ n = D * (I * E) ^ (n + 1) := by rw [Nat.pow_succ, Nat.mul_assoc, Nat.mul_comm (I * E)]
      have hpw2 : N * (I * E + d.1.length * (J * M)) * (I * E + d.1.length * (J * M)) ^ n = N * (I * E + d.1.length * (J * M)) ^ (n + 1) := by rw [Nat.pow_succ, Nat.mul_assoc, Nat.mul_comm (I * E + d.1.length * (J * M))]
      have hnext : 0 < n → D * (I * E) * I < 2 ^ big ∧ N * (I * E + d.1.length * (J * M)) * J < 2 ^ big := fun hn0 => by
        obtain ⟨m, rfl⟩ : ∃ m, n = m + 1 := ⟨n - 1, by omega⟩
        constructor
        · refine Nat.lt_of_le_of_lt ?_ hD
          rw [← hpw]
          refine Nat.mul_le_mul_left _ ?_
          rw [Nat.pow_succ]
          exact Nat.le_trans (Nat.le_mul_of_pos_right _ hE0) (Nat.le_mul_of_pos_left _ (Nat.pow_pos hIE))
        · refine Nat.lt_of_le_of_lt ?_ hN
          rw [← hpw2]
          refine Nat.mul_le_mul_left _ ?_
          rw [Nat.pow_succ]
          refine Nat.le_trans ?_ (Nat.le_mul_of_pos_left _ (Nat.pow_pos W0))
          have : J ≤ d.1.length * (J * M) := Nat.le_trans (Nat.le_mul_of_pos_right _ hM) (Nat.le_mul_of_pos_left _ hdl)
          omega
      obtain ⟨rest', out', t6, t7, t9, t10, g1, g2, g3, g4, g5⟩ := div_outer hO (p := p) (s4 := s4) (s8 := s8) hd S hdS hdm hi hI hJ hM n (some (.int n)) (some (R (u * d.lc⁻¹))) v9 v10 rest1 (out.set n (u * d.lc⁻¹)) (D * (I * E)) (N * (I * E + d.1.length * (J * M))) k4 (by omega) (by omega) hnext hz1 hoz' (by simp; omega) (fun _ => by omega)
      · refine ⟨rest', out', t6, t7, t9, t10, ?_, by omega, by simpa using g3, fun x => ?_, g5⟩
        · refine for_next hbind (b_nx (hasg (some (.int n)) s7 s9 s10) (b_nx (hitem s9 s10) (b_nx (o := some (.nx _ _)) (s_false (S1 := S ++ [.lst (rest.map R), .lst ((out.set n (u * d.lc⁻¹)).map R)]) (o := some (.nx _ _)) ?_ (by rw [evB])) (b_nx (o := some (.nx _ _)) (s_for (S1 := S ++ [.lst (rest.map R), .lst ((out.set n (u * d.lc⁻¹)).map R)]) (it_enum b (by rfl) _) k1) (by rw [evB]))))) g1
          have hn : ((u * d.lc⁻¹).num == 0) = false := by simpa using fun e => h0 (Rat.num_eq_zero.mp e)
          simp [evE, fld_n b, eqD, hn]
        · rw [g4, hev, k3]; simp only [Nat.add_zero]; grind
end
end Ev

set_option linter.all false
set_option maxRecDepth 100000
set_option exponentiation.threshold 500000
/-! EvF: division of polynomials. -/
namespace Ev
open Iv Mq
theorem trim_short : ∀ (l : List Rat) (m : Nat), (∀ j, m ≤ j → ∀ u, l[j]? = some u → u = 0) → (trim l).length ≤ m
  | [], m, _ => by simp [trim]
  | a :: l, 0, h => by
    rw [zero_trim (p := a :: l) fun c hc => by
      obtain ⟨j, hj⟩ := List.getElem?_of_mem hc
      exact h j (Nat.zero_le _) c hj]
    simp
  | a :: l, m + 1, h => by
    have ih := trim_short l m fun j hj u hu => h (j + 1) (by omega) u (by simpa using hu)
    unfold trim
    split
    · split <;> simp
    · rename_i d r e
      rw [e] at ih
      simpa using ih
section
variable {G : Gi} (b : Base G)
include b
theorem Poly_divided {p d q r : Pl} (h : p = q * d + r) (hr : r.len < d.len) {D N E M I J : Nat} (hp : PS D N p.1) (hd : PS E M d.1) (hi : Sz I J d.lc⁻¹) (hI : I < 2 ^ big) (hJ : J < 2 ^ big) (hD : D < 2 ^ big) (hN : N < 2 ^ big) (hE : E < 2 ^ big) (hM : M < 2 ^ big) (hM0 : 0 < M)
    (h1 : D * (I * E) ^ (p.1.length + 1 - d.1.length) < 2 ^ big) (h2 : N * (I * E + d.1.length * (J * M)) ^ (p.1.length + 1 - d.1.length) < 2 ^ big) (h3 : D * I < 2 ^ big) (h4 : N * J < 2 ^ big) (hz : p.1.length ≤ 1000) (hz' : d.1.length ≤ 1000) :
    PF G 5 ("Poly", "divided") [P p, P d] (.tup [P q, P r]) := by
  have hd0 : d ≠ 0 := Pl.len_pos.mp (by omega)
  have hdl := Pl.len_pos.mpr hd0
  unfold Pl.len at hdl
  refine pf_of b.p_divided rfl (by simp [pur, cloD, cloL, P, cloL_R]) fun n S hn => ?_
  have hdm : SmL d.1 := hd.sm hE hM
  let sz := p.1.length + 1 - d.1.length
  have e1 := (Poly_last b hd0).low (n := n) (j := 0) (by omega) (S := S)
  have e2 := (Ratio_inverse b (hdm _ (lc_mem hd0)) (Pl.lc_ne hd0)).low (n := n) (j := 0) (by omega) (S := S)
  obtain ⟨rest, out, t6, t7, t9, t10, g1, g2, g3, g4, g5⟩ := div_outer b hn (p := P p) (s4 := some (.int sz)) (s8 := none) hd0 S hd hdm hi hI hJ hM0 sz none none none none p.1 (List.replicate sz 0) D N hp h1 h2 (fun _ => ⟨h3, h4⟩)
    (fun j hj u hu => by
      have := (List.getElem?_eq_some_iff.mp hu).1
      have : sz = p.1.length + 1 - d.1.length := rfl
      omega)
    (fun j hj u hu => by rw [List.getElem?_replicate] at hu; split at hu <;> simp_all) (by simp)
    (fun hs => by have : sz = p.1.length + 1 - d.1.length := rfl; omega)
  have hq : Pl.mk out = q ∧ Pl.mk rest = r := by
    refine Pl.div_unique (d := d) (Pl.ext fun x => ?_) ?_ hr
    · rw [← h, Pl.val_add, Pl.val_mul, Pl.val_mk, Pl.val_mk]
      have := g4 x
      rw [ev_rep] at this
      simp only [Pl.val] at this ⊢
      grind
    · have := trim_short rest (d.1.length - 1) g5
      show (trim rest).length < _
      unfold Pl.len; omega
  have hsz : (if (p.1.length : Int) - (d.1.length : Int) + 1 > 0 then (p.1.length : Int) - (d.1.length : Int) + 1 else 0) = (sz : Int) := by
    have : sz = p.1.length + 1 - d.1.length := rfl
    split <;> omega
  have hzl := lc_zeros b (O := n) (by omega) (i := 8) (e := .cons (.var 4) .nil) (en := [some (P p), some (P d), some (R d.lc⁻¹), some (.ref S.length), some (.int sz), none, none, none, none, none, none]) (L := sz) (by have : sz = p.1.length + 1 - d.1.length := rfl; omega) (by simp) (S ++ [.lst (p.1.map R)]) (by simp [evEs, evE])
  refine ⟨[.dead, .dead], .inl ?_⟩
  have henv : List.map some (fillD Pg.Poly_divided [P p, P d]) ++ List.replicate (Pg.Poly_divided.nm.length - Pg.Poly_divided.np) none = [some (P p), some (P d), none, none, none, none, none, none, none, none, none] := rfl
  rw [henv]
  refine b_nx (en' := [some (P p), some (P d), some (R d.lc⁻¹), none, none, none, none, none, none, none, none]) (S' := S) (s_asg (d := R d.lc⁻¹) ?_)
    (b_nx (en' := [some (P p), some (P d), some (R d.lc⁻¹), some (.ref S.length), none, none, none, none, none, none, none]) (S' := S ++ [.lst (p.1.map R)]) (s_new (S1 := S) (ds := p.1.map R) ?_)
    (b_nx (en' := [some (P p), some (P d), some (R d.lc⁻¹), some (.ref S.length), some (.int sz), none, none, none, none, none, none]) (S' := S ++ [.lst (p.1.map R)]) (s_asg (d := .int sz) ?_)
    (b_nx (en' := [some (P p), some (P d), some (R d.lc⁻¹), some (.ref S.length), some (.int sz), some (.ref (S.length + 1)), none, none, none, none, none]) (S' := S ++ [.lst (p.1.map R), .lst ((List.replicate sz 0).map R)]) ?_
    (b_nx (en' := [some (P p), some (P d), some (R d.lc⁻¹), some (.ref S.length), some (.int sz), some (.ref (S.length + 1)), t6, t7, none, t9, t10]) (S' := S ++ [.lst (rest.map R), .lst (out.map R)]) (s_for (S1 := S ++ [.lst (p.1.map R), .lst ((List.replicate sz 0).map R)]) (ds := desc sz) ?_ ?_) (b_rt (s_ret ?_))))))
  · generalize d.lc⁻¹ = v at e2 ⊢
    simp only [P, R] at e1 e2
    simp [evE, evEs, P, R, e1, e2]
  · simp [evE, evEs, fld_row b, bltD]
  · simp [evE, evEs, fld_row b, bltD, lenD, binD, intOp]
    simpa using hsz
  · have e : (S ++ [Cell.lst (p.1.map R)]).length = S.length + 1 := by simp
    have h := s_new (i := 5) hzl
    rw [e, List.append_assoc] at h
    exact h
  · have hs : small ((sz : Int) - 1) := by
      have : sz = p.1.length + 1 - d.1.length := rfl
      unfold small; omega
    have hs1 : small (-1) := by decide
    have := rangeD_desc sz
    simp [evIt, evEs, evE, binD, intOp, hs, hs1, this]
  · exact g1
  · have m1 := mk_PolyR b (l := out) (row := .frl (out.map R)) (by simp at g3; have : sz = p.1.length + 1 - d.1.length := rfl; omega) (.inl rfl) hn (S ++ [.lst (rest.map R), .dead])
    have m2 := mk_PolyR b (l := rest) (row := .frl (rest.map R)) (by omega) (.inl rfl) hn (S ++ [.dead, .dead])
    rw [hq.1] at m1
    rw [hq.2] at m2
    have c1 : (S ++ [Cell.lst (rest.map R), Cell.lst (out.map R)])[S.length + 1]? = some (.lst (out.map R)) := by
      rw [List.getElem?_append_right (by omega)]; simp
    have c2 : (S ++ [Cell.lst (rest.map R), Cell.lst (out.map R)]).set (S.length + 1) .dead = S ++ [.lst (rest.map R), .dead] := by
      rw [List.set_append_right _ _ (by omega)]; simp
    simp [evE, evEs, c1, c2, m1, m2, clen]
theorem Poly_floordiv {p d q r : Pl} (h : PF G 5 ("Poly", "divided") [P p, P d] (.tup [P q, P r])) : PF G 6 ("Poly", "__floordiv__") [P p, P d] (P q) := by
  refine pf_ret b.p_floordiv rfl rfl (pur_P _) fun n S hn => ?_
  have h1 := h.low (n := n) (j := 0) (by omega) (S := S)
  simp only [P] at h1
  simp [Pg.Poly___floordiv__, fillD, evE, evEs, P, h1, ixD, idx, L2.ixN]
theorem Poly_mod {p d q r : Pl} (h : PF G 5 ("Poly", "divided") [P p, P d] (.tup [P q, P r])) : PF G 6 ("Poly", "__mod__") [P p, P d] (P r) := by
  refine pf_ret b.p_mod rfl rfl (pur_P _) fun n S hn => ?_
  have h1 := h.low (n := n) (j := 0) (by omega) (S := S)
  simp only [P] at h1
  simp [Pg.Poly___mod__, fillD, evE, evEs, P, h1, ixD, idx, L2.ixN]
end
end Ev

set_option linter.all false
set_option maxRecDepth 100000
set_option exponentiation.threshold 500000
/-! EvG: rows of integers, the common divisor. -/
namespace Ev
open Iv Mq
abbrev Z (ns : List Int) : List DV := ns.map DV.int
def itrim : List Int → List Int
  | [] => []
  | c :: p => match itrim p with
    | [] => if c = 0 then [] else [c]
    | d :: r => c :: d :: r
theorem itrim_ne {c : Int} (h : c ≠ 0) : ∀ l : List Int, itrim (l ++ [c]) = l ++ [c]
  | [] => by simp [itrim, h]
  | a :: l => by
    rw [List.cons_append, itrim, itrim_ne h l]
    cases l <;> rfl
theorem itrim_z : ∀ l : List Int, itrim (l ++ [0]) = itrim l
  | [] => by simp [itrim]
  | a :: l => by rw [List.cons_append, itrim, itrim_z l]; rfl
theorem itrim_snoc (l : List Int) (c : Int) : itrim (l ++ [c]) = if c = 0 then itrim l else l ++ [c] := by
  split
  · rename_i h; rw [h]; exact itrim_z l
  · exact itrim_ne ‹_› l
theorem itrim_take {l : List Int} {k : Nat} (h : k < l.length) : itrim (l.take (k + 1)) = if l[k] = 0 then itrim (l.take k) else l.take (k + 1) := by
  rw [List.take_succ_eq_append_getElem h, itrim_snoc]
theorem itrim_pre : ∀ l : List Int, l.take (itrim l).length = itrim l
  | [] => rfl
  | c :: l => by
    have ih := itrim_pre l
    unfold itrim
    split
    · split <;> simp
    · rename_i d r e
      rw [e] at ih
      simp at ih ⊢
      exact ih
theorem itrim_len : ∀ p : List Int, (itrim p).length ≤ p.length
  | [] => Nat.le_refl _
  | c :: p => by
    have ih := itrim_len p
    unfold itrim
    split
    · split <;> simp
    · rename_i d r e
      rw [e] at ih
      simpa using ih
theorem itrim_mem {l : List Int} {c : Int} (h : c ∈ itrim l) : c ∈ l := by
  rw [← itrim_pre] at h; exact List.mem_of_mem_take h
theorem itrim_last : ∀ l : List Int, (itrim l).getLast? ≠ some 0
  | [] => by simp [itrim]
  | c :: p => by
    have ih := itrim_last p
    unfold itrim
    split
    · split
      · simp
      · simpa using ‹¬c = 0›
    · rename_i d r e
      rw [e] at ih
      simpa [List.getLast?_cons_cons] using ih
def qs (ns : List Int) : List Rat := ns.map (fun n : Int => (n : Rat))
/-- the polynomial of a row of integers -/
def IP (ns : List Int) : Pl := Pl.mk (qs ns)
theorem val_IP (ns : List Int) (x : Rat) : (IP ns).val x = ev (qs ns) x := Pl.val_mk _ x
theorem itrim_cast : ∀ l : List Int, qs (itrim l) = trim (qs l)
  | [] => rfl
  | c :: l => by
    have ih := itrim_cast l
    simp only [qs, List.map_cons] at ih ⊢
    simp only [itrim, trim, ← ih]
    cases itrim l with
    | nil =>
      by_cases h : c = 0
      · simp [h]
      · have : ¬ ((c : Rat) = 0) := by exact_mod_cast h
        simp [h, this]
    | cons d r => rfl
theorem IP_itrim (l : List Int) : IP (itrim l) = IP l := Subtype.ext (by
  show trim _ = trim _
  rw [itrim_cast, trim_of (tr_trim _)])
theorem ev_iset (x : Rat) (l : List Int) (i : Nat) (h : i < l.length) (c : Int) : ev (qs (l.set i c)) x = ev (qs l) x + ((c : Rat) - (l[i] : Rat)) * x ^ i := by
  unfold qs; rw [List.map_set, ev_set x _ _ (by simpa using h)]; simp
/-- every entry is at most B -/
def IB (B : Nat) (l : List Int) : Prop := ∀ c ∈ l, c.natAbs ≤ B
theorem IB.mono {B C : Nat} {l : List Int} (h : IB B l) (hc : B ≤ C) : IB C l := fun c hc' => Nat.le_trans (h c hc') hc
def lim : Nat := 2 ^ 8990
theorem lim_lt {a : Nat} (h : a ≤ lim) : a < 2 ^ 9000 := Nat.lt_of_le_of_lt h (by unfold lim; decide)
theorem lim_lt4 {a : Nat} (h : a ≤ lim) : a < 2 ^ 400000 := Nat.lt_of_lt_of_le (lim_lt h) (Nat.pow_le_pow_right (by decide) (by decide))
section
variable {G : Gi} (b : Base G)
include b
theorem prow_while {O : Orc} {S : Store} {o2 o3 : Option DV} (l : List Int) : ∀ k, k ≤ l.length →
    whileL (evE O G (.and_ (.cmp .gt (.var 1) (.cint 0)) (.cmp .eq (.ix (.var 0) (.bin .sub (.var 1) (.cint 1))) (.cint 0)))) (evB O G (.cons (.asg 1 (.bin .sub (.var 1) (.cint 1))) .nil))
      [some (.frl (Z l)), some (.int k), o2, o3] S = some (.nx [some (.frl (Z l)), some (.int (itrim (l.take k)).length), o2, o3] S)
  | 0, _ => by
    refine while_done (S1 := S) ?_
    simp [evE]
  | k + 1, h => by
    have hi : ixD (.frl (Z l)) (.int k) S = some (.int (l[k]'(by omega))) := by
      simp [ixD, idx_nat (show k < l.length by omega), List.getElem?_eq_getElem (show k < l.length by omega)]
    have e1 : ((k : Int) + 1) - 1 = k := by omega
    have e2 : (0 : Int) < (k : Int) + 1 := by omega
    rw [itrim_take (by omega)]
    by_cases hz : l[k] = 0
    · rw [if_pos hz]
      refine while_next (S1 := S) ?_ ?_ (prow_while l k (by omega))
      · simp [evE, e2, binD, intOp, e1, hi, eqD, hz]
      · simp [evE, evB, evS, binD, intOp, e1]
    · have hn : (l[k] == 0) = false := by simpa using hz
      have e3 : min (k + 1) l.length = k + 1 := by omega
      rw [if_neg hz, List.length_take, e3]
      refine while_done (S1 := S) ?_
      simp [evE, e2, binD, intOp, e1, hi, eqD, hn]
def gcdL (g : Int) : List Int → Int
  | [] => g
  | c :: l => gcdL (gcdD g c) l
omit b in
theorem gcdL_dvd : ∀ (l : List Int) (g : Int), gcdL g l ∣ g ∧ ∀ c ∈ l, gcdL g l ∣ c
  | [], g => ⟨Int.dvd_refl g, fun c h => by cases h⟩
  | c :: l, g => by
    obtain ⟨h1, h2⟩ := gcdL_dvd l (gcdD g c)
    have e1 : gcdD g c ∣ g := Int.gcd_dvd_left ..
    have e2 : gcdD g c ∣ c := Int.gcd_dvd_right ..
    refine ⟨Int.dvd_trans h1 e1, fun d hd => ?_⟩
    rcases List.mem_cons.mp hd with rfl | hd
    · exact Int.dvd_trans h1 e2
    · exact h2 d hd
omit b in
theorem gcdL_nonneg : ∀ (l : List Int) (g : Int), 0 ≤ g → 0 ≤ gcdL g l
  | [], g, h => h
  | c :: l, g, _ => gcdL_nonneg l _ (by unfold gcdD; omega)
omit b in
theorem gcdL_le {l : List Int} {B : Nat} (hB : IB B l) (h2 : gcdL 0 (itrim l) ≠ 0) : (gcdL 0 (itrim l)).natAbs ≤ B := by
  by_cases h : itrim l = []
  · rw [h] at h2; exact absurd rfl h2
  · obtain ⟨c, hc⟩ : ∃ c, (itrim l).getLast? = some c := by
      cases e : (itrim l).getLast? with
      | none => exact absurd (List.getLast?_eq_none_iff.mp e) h
      | some c => exact ⟨c, rfl⟩
    have hm := List.mem_of_getLast? hc
    have h0 : c ≠ 0 := fun e => itrim_last l (by rw [hc, e])
    have hd := (gcdL_dvd (itrim l) 0).2 c hm
    exact Nat.le_trans (Nat.le_of_dvd (by omega) (Int.natAbs_dvd_natAbs.mpr hd)) (hB c (itrim_mem hm))
omit b in
theorem cloL_Z (n : Nat) : ∀ l : List Int, cloL n (Z l) = true
  | [] => rfl
  | c :: l => by simp [cloL, cloD, cloL_Z n l]
theorem gcd_loop {O : Orc} {S : Store} {s0 s1 : Option DV} : ∀ (l : List Int) (g : Int) (s3 : Option DV), ∃ t3, forL (.one 3) (evB O G (.cons (.asg 2 (.blt .gcd (.cons (.var 2) (.cons (.var 3) .nil)))) .nil)) none (Z l) [s0, s1, some (.int g), s3] S = some (.nx [s0, s1, some (.int (gcdL g l)), t3] S)
  | [], g, s3 => ⟨s3, for_nil⟩
  | c :: l, g, s3 => by
    obtain ⟨t3, h⟩ := gcd_loop (O := O) (S := S) (s0 := s0) (s1 := s1) l (gcdD g c) (some (.int c))
    refine ⟨t3, for_next (en1 := [s0, s1, some (.int g), some (.int c)]) (en' := [s0, s1, some (.int (gcdD g c)), some (.int c)]) (S' := S) rfl ?_ h⟩
    simp [evB, evS, evE, evEs, bltD]
/-- the row divided by its greatest common divisor -/
def prim (l : List Int) : List Int := if gcdL 0 (itrim l) < 2 then itrim l else (itrim l).map (· / gcdL 0 (itrim l))
theorem f_primitive_row {l : List Int} (hB : IB lim l) (hz : l.length ≤ 1000000) : PF G 1 ("", "_primitive_row") [.frl (Z l)] (.frl (Z (prim l))) := by
  refine pf_of b.g_primitive_row rfl (by simp only [pur, cloD]; exact cloL_Z _ _) fun n S hn => ⟨[], .inl ?_⟩
  have henv : List.map some (fillD Pg.f__primitive_row [.frl (Z l)]) ++ List.replicate (Pg.f__primitive_row.nm.length - Pg.f__primitive_row.np) none = [some (.frl (Z l)), none, none, none] := rfl
  rw [henv, List.append_nil]
  have w := prow_while b (O := orc G n) (S := S) (o2 := none) (o3 := none) l l.length (Nat.le_refl _)
  rw [List.take_length] at w
  obtain ⟨t3, hg⟩ := gcd_loop b (O := orc G n) (S := S) (s0 := some (.frl (Z l))) (s1 := some (.int (itrim l).length)) (itrim l) 0 none
  have e : (Z l).take (itrim l).length = Z (itrim l) := by rw [← List.map_take, itrim_pre]
  have hsl : ∀ (o2 o3 : Option DV), evE (orc G n) G (.slTo (.var 0) (.var 1)) [some (.frl (Z l)), some (.int (itrim l).length), o2, o3] S = some (.frl (Z (itrim l)), S) := fun o2 o3 => by
    simp [evE, slD, slTo_nat]
    rw [← List.map_take, itrim_pre]
  refine b_nx (en' := [some (.frl (Z l)), some (.int l.length), none, none]) (S' := S) (s_asg (d := .int l.length) ?_)
    (b_nx (en' := [some (.frl (Z l)), some (.int (itrim l).length), none, none]) (S' := S) (s_while w)
    (b_nx (en' := [some (.frl (Z l)), some (.int (itrim l).length), some (.int 0), none]) (S' := S) (s_asg (d := .int 0) ?_)
    (b_nx (en' := [some (.frl (Z l)), some (.int (itrim l).length), some (.int (gcdL 0 (itrim l))), t3]) (S' := S) (s_for (S1 := S) (ds := Z (itrim l)) ?_ hg) ?_)))
  · simp [evE, evEs, bltD, lenD]
  · simp [evE]
  · have := hsl (some (.int 0)) none
    simp [evIt, this, seqOf]
  · by_cases h2 : gcdL 0 (itrim l) < 2
    · refine b_rt (s_true (S1 := S) ?_ (b_rt (s_ret ?_)))
      · simp [evE, h2]
      · rw [hsl]; simp [prim, h2]
    · have hne : gcdL 0 (itrim l) ≠ 0 := by omega
      have hdv := (gcdL_dvd (itrim l) 0).2
      have hlc := ev_lc (O := orc G n) (G := G) (t := .one 3) (it := .seq (.slTo (.var 0) (.var 1))) (el := .bin .fdiv (.var 3) (.var 2)) (en := [some (.frl (Z l)), some (.int (itrim l).length), some (.int (gcdL 0 (itrim l))), t3]) (S := S) (S1 := S) (xs := itrim l) (enc := DV.int) (f := fun c => .int (c / gcdL 0 (itrim l))) (by
        have := hsl (some (.int (gcdL 0 (itrim l)))) t3
        simp [evIt, this, seqOf]) (by have := itrim_len l; omega) fun c hc => ⟨[some (.frl (Z l)), some (.int (itrim l).length), some (.int (gcdL 0 (itrim l))), some (.int c)], rfl, fun S => by
          have hg : (gcdL 0 (itrim l)).natAbs < 2 ^ 9000 := by
            have := gcdL_le hB hne
            exact lim_lt this
          have := div_ok (a := c) hg hne
          simp [evE, binD, intOp, this, fdiv_of_dvd (hdv c hc)]⟩
      refine b_nx (en' := [some (.frl (Z l)), some (.int (itrim l).length), some (.int (gcdL 0 (itrim l))), t3]) (S' := S) (s_false (S1 := S) ?_ (by rw [evB])) (b_rt (s_ret ?_))
      · simp [evE, h2]
      · rw [hlc]; simp [prim, h2, Function.comp_def]
end
end Ev

set_option linter.all false
set_option maxRecDepth 100000
set_option exponentiation.threshold 500000
/-! EvH: the rest of rows of integers. -/
namespace Ev
open Iv Mq
def encZ (p : Int × Nat) : DV := .tup [.int p.2, .int p.1]
theorem enumZ (l : List Int) (k : Nat) : ((Z l).zipIdx k).map (fun p => DV.tup [.int p.2, p.1]) = (l.zipIdx k).map encZ := by
  rw [List.zipIdx_map, List.map_map]; rfl
theorem lcGo_mapG {α : Type} {step : DV → Store → Option (Option DV × Store)} {enc f : α → DV} {g : Guard} {S : Store} (hg : gOk g S) : ∀ {xs : List α}, (∀ x ∈ xs, step (enc x) S = some (some (f x), S)) → lcGo step g (xs.map enc) S = some (xs.map f, S)
  | [], _ => by simp [lcGo, hg]
  | x :: xs, h => by
    have ih := lcGo_mapG hg (xs := xs) fun e he => h e (List.mem_cons_of_mem _ he)
    simp [lcGo, hg, h x (by simp), ih]
theorem ev_lcG {O : Orc} {G : Gi} {α : Type} {t : Tg} {it : It} {el : E} {en : Iv.Env} {S S1 : Store} {g : Guard} {xs : List α} {enc f : α → DV} (h1 : evIt O G it en S = some (g, xs.map enc, S1)) (hg : gOk g S1) (hz : xs.length ≤ 16777216)
    (h : ∀ x ∈ xs, ∃ en', bindT t (enc x) en = some en' ∧ evE O G el en' S1 = some (f x, S1)) : evE O G (.lc t it el) en S = some (.frl (xs.map f), S1) := by
  rw [evE, h1]
  have hc : clen (xs.map enc) = true := by simpa [clen] using hz
  simp only [hc, Bool.true_eq_false, if_false]
  rw [lcGo_mapG (f := f) hg]
  intro x hx
  obtain ⟨en', e1, e2⟩ := h x hx
  rw [e1]; simp only [e2]
theorem ixz (S T : Store) (l : List Int) {i : Nat} (h : i < l.length) : ixD (.ref S.length) (.int i) (S ++ .lst (Z l) :: T) = some (.int l[i]) := by
  simp [ixD, idx_nat h, List.getElem?_eq_getElem h]
theorem mok9 {a c : Int} (ha : a.natAbs ≤ lim) (hc : c.natAbs ≤ lim) : mulOk a c := mul_ok (lim_lt4 ha) (lim_lt4 hc)
section
variable {G : Gi} (b : Base G)
include b
def restBody : Ss := (.cons (.item (.var 2) (.bin .add (.var 7) (.var 8)) (.bin .sub (.ix (.var 2) (.bin .add (.var 7) (.var 8))) (.bin .mul (.var 6) (.var 9)))) .nil)
theorem rest_inner {a : Int} {i C : Nat} (orig : List Int) (ho : IB C orig) (ha : a.natAbs ≤ lim) : ∀ (l : List Int) (k : Nat) (acc : List Int), IB lim l → (∀ c ∈ l, (a * c).natAbs ≤ C) → IB (2 * C) acc → (∀ j, i + k ≤ j → acc[j]? = orig[j]?) → i + k + l.length ≤ acc.length →
    ∃ (acc' : List Int), acc'.length = acc.length ∧ (∀ x, ev (qs acc') x = ev (qs acc) x - a * x ^ (i + k) * ev (qs l) x) ∧ IB (2 * C) acc' ∧
      (∀ j, j < i + k → acc'[j]? = acc[j]?) ∧ (∀ c, l.getLast? = some c → ∀ u, orig[i + k + l.length - 1]? = some u → acc'[i + k + l.length - 1]? = some (u - a * c)) ∧
      ∀ (O : Orc) (S : Store) (s0 s1 s3 s4 s5 s8 s9 : Option DV), ∃ t8 t9 : Option DV, forL (.many [8, 9]) (evB O G restBody) none ((l.zipIdx k).map encZ) [s0, s1, some (.ref S.length), s3, s4, s5, some (.int a), some (.int i), s8, s9] (S ++ [.lst (Z acc)]) =
      some (.nx [s0, s1, some (.ref S.length), s3, s4, s5, some (.int a), some (.int i), t8, t9] (S ++ [.lst (Z acc')]))
  | [], k, acc, _, _, hB, _, _ => ⟨acc, rfl, fun x => by simp only [qs, List.map_nil, ev]; grind, hB, fun _ _ => rfl, fun c h => by simp at h, fun O S s0 s1 s3 s4 s5 s8 s9 => ⟨s8, s9, for_nil⟩⟩
  | c :: l, k, acc, hl, hc, hB, heq, hlen => by
    have hik : i + k < acc.length := by simp at hlen; omega
    have hao : acc[i + k]? = orig[i + k]? := heq _ (Nat.le_refl _)
    rw [List.getElem?_eq_getElem hik] at hao
    have hob : (acc[i + k]).natAbs ≤ C := ho _ (List.mem_of_getElem? hao.symm)
    have hsz := hc c (by simp)
    have hnew : (acc[i + k] - a * c).natAbs ≤ 2 * C := by have := Int.natAbs_sub_le (acc[i + k]) (a * c); omega
    have hB' : IB (2 * C) (acc.set (i + k) (acc[i + k] - a * c)) := fun d hd => by
      rcases List.mem_or_eq_of_mem_set hd with h1 | h1
      · exact hB d h1
      · rw [h1]; exact hnew
    obtain ⟨acc', h2, h3, h4, h6, h7, h1⟩ := rest_inner (i := i) orig ho ha l (k + 1) (acc.set (i + k) (acc[i + k] - a * c)) (fun d hd => hl d (by simp [hd])) (fun d hd => hc d (by simp [hd])) hB' (fun j hj => by rw [List.getElem?_set_ne (by omega)]; exact heq j (by omega)) (by simp at hlen ⊢; omega)
    refine ⟨acc', by simpa using h2, fun x => ?_, h4, fun j hj => ?_, fun d hd u hu => ?_, fun O S s0 s1 s3 s4 s5 s8 s9 => ?_⟩
    · rw [h3, ev_iset x _ _ hik]; simp only [qs, List.map_cons, ev]; rw [← Nat.add_assoc, Rat.pow_succ]; push_cast; grind
    · rw [h6 j (by omega), List.getElem?_set_ne (by omega)]
    · cases l with
      | nil =>
        have : c = d := by simpa using hd
        subst this
        simp only [List.length_cons, List.length_nil, Nat.zero_add, Nat.add_sub_cancel] at hu ⊢
        rw [h6 _ (by omega), List.getElem?_set_self hik]
        rw [← hao] at hu
        cases hu; rfl
      | cons c' l' =>
        rw [List.getLast?_cons_cons] at hd
        have e : i + k + (c :: c' :: l').length - 1 = i + (k + 1) + (c' :: l').length - 1 := by simp; omega
        rw [e] at hu ⊢
        exact h7 d hd u hu
    · have hbind : bindT (.many [8, 9]) (encZ (c, k)) [s0, s1, some (.ref S.length), s3, s4, s5, some (.int a), some (.int i), s8, s9] = some [s0, s1, some (.ref S.length), s3, s4, s5, some (.int a), some (.int i), some (.int k), some (.int c)] := by simp [bindT, encZ, setAll]
      have e1 : (i : Int) + (k : Int) = ((i + k : Nat) : Int) := by push_cast; rfl
      have hix : ixD (.ref S.length) (.int ((i : Int) + (k : Int))) (S ++ [.lst (Z acc)]) = some (.int acc[i + k]) := by
        rw [e1]; exact ixz S [] acc hik
      have hid : idx acc.length ((i : Int) + (k : Int)) = some (i + k) := by rw [e1]; exact idx_nat hik
      have hm : mulOk a c := mok9 ha (hl c (by simp))
      obtain ⟨t8, t9, h1⟩ := h1 O S s0 s1 s3 s4 s5 (some (.int k)) (some (.int c))
      refine ⟨t8, t9, for_next hbind (en' := [s0, s1, some (.ref S.length), s3, s4, s5, some (.int a), some (.int i), some (.int k), some (.int c)]) (S' := S ++ [.lst (Z (acc.set (i + k) (acc[i + k] - a * c)))]) ?_ h1⟩
      simp [restBody, evB, evS, evE, binD, intOp, hix, hid, hm, List.map_set]
/-- zeros at the end go -/
theorem rest_pop {O : Orc} {s0 s1 s3 s4 s5 s6 s7 s8 s9 : Option DV} (S : Store) (l : List Int) : ∀ k, k ≤ l.length →
    whileL (evE O G (.and_ (.cmp .gt (.blt .len (.cons (.var 2) .nil)) (.cint 0)) (.cmp .eq (.ix (.var 2) (.bin .sub (.blt .len (.cons (.var 2) .nil)) (.cint 1))) (.cint 0)))) (evB O G (.cons (.pop 2) .nil))
      [s0, s1, some (.ref S.length), s3, s4, s5, s6, s7, s8, s9] (S ++ [.lst (Z (l.take k))]) = some (.nx [s0, s1, some (.ref S.length), s3, s4, s5, s6, s7, s8, s9] (S ++ [.lst (Z (itrim (l.take k)))]))
  | 0, _ => by
    refine while_done (S1 := S ++ [.lst (Z (l.take 0))]) ?_
    simp [evE, evEs, bltD, lenD]
  | k + 1, h => by
    have hl : (l.take (k + 1)).length = k + 1 := by simp; omega
    have hi : ixD (.ref S.length) (.int k) (S ++ [.lst (Z (l.take (k + 1)))]) = some (.int (l[k]'(by omega))) := by
      have := ixz S [] (l.take (k + 1)) (i := k) (by omega)
      rw [this]; simp
    have e1 : ((k : Int) + 1) - 1 = k := by omega
    have e2 : (0 : Int) < (k : Int) + 1 := by omega
    have e3 : (Z (l.take (k + 1))).length = k + 1 := by rw [List.length_map, hl]
    rw [itrim_take (by omega)]
    by_cases hz : l[k] = 0
    · rw [if_pos hz]
      refine while_next (S1 := S ++ [.lst (Z (l.take (k + 1)))]) ?_ ?_ (rest_pop S l k (by omega))
      · have hm : min (k + 1) l.length = k + 1 := by omega
        simp only [Z, List.map_take] at hi
        simp [evE, evEs, bltD, lenD, e2, binD, intOp, e1, eqD, hz, hm, hi]
      · have hne : Z (l.take (k + 1)) ≠ [] := fun e => by rw [e] at e3; simp at e3
        have hd : (Z (l.take (k + 1))).dropLast = Z (l.take k) := by
          rw [← List.map_dropLast, List.take_succ_eq_append_getElem (by omega), List.dropLast_concat]
        have hl0 : l ≠ [] := fun e => by rw [e] at h; simp at h
        simp only [Z, List.map_take] at hd
        simp [evB, evS, hd, hl0]
    · have hn : (l[k] == 0) = false := by simpa using hz
      rw [if_neg hz]
      refine while_done (S1 := S ++ [.lst (Z (l.take (k + 1)))]) ?_
      have hm : min (k + 1) l.length = k + 1 := by omega
      simp only [Z, List.map_take] at hi
      simp [evE, evEs, bltD, lenD, e2, binD, intOp, e1, eqD, hn, hm, hi]
def whileBody : Ss := (.cons (.asg 4 (.blt .gcd (.cons (.var 3) (.cons (.ix (.var 2) (.bin .sub (.blt .len (.cons (.var 2) .nil)) (.cint 1))) .nil))))
 (.cons (.asg 5 (.bin .fdiv (.var 3) (.var 4)))
 (.cons (.asg 6 (.bin .fdiv (.ix (.var 2) (.bin .sub (.blt .len (.cons (.var 2) .nil)) (.cint 1))) (.var 4)))
 (.cons (.asg 7 (.bin .sub (.blt .len (.cons (.var 2) .nil)) (.blt .len (.cons (.var 1) .nil))))
 (.cons (.new 2 (.lc (.one 9) (.seq (.var 2)) (.bin .mul (.var 5) (.var 9))))
 (.cons (.for_ (.many [8, 9]) (.enum (.var 1))
 restBody)
 (.cons (.while_ (.and_ (.cmp .gt (.blt .len (.cons (.var 2) .nil)) (.cint 0)) (.cmp .eq (.ix (.var 2) (.bin .sub (.blt .len (.cons (.var 2) .nil)) (.cint 1))) (.cint 0)))
 (.cons (.pop 2)
 .nil))
 .nil)))))))
omit b in
theorem ev_iscale (x : Rat) (t : Int) (l : List Int) : ev (qs (l.map (t * ·))) x = t * ev (qs l) x := by
  have : qs (l.map (t * ·)) = sclL t (qs l) := by unfold qs sclL; rw [List.map_map, List.map_map]; refine List.map_congr_left fun a _ => ?_; simp
  rw [this, ev_scl]
theorem rest_step {head lead : Int} {B M : Nat} {s cur : List Int} (hs : s.getLast? = some head) (hh : head ≠ 0) (hc : cur.getLast? = some lead) (hl : s.length ≤ cur.length) (hB : IB B cur) (hM : IB M s) (hlim : 2 * (M * B) ≤ lim) (hMl : M ≤ lim) (hBl : B ≤ lim) (hz : cur.length ≤ 1000) :
    ∃ (cur' : List Int) (t : Int) (u : Pl), (itrim cur').length < cur.length ∧ t ≠ 0 ∧ (∀ x, ev (qs cur') x = t * ev (qs cur) x - u.val x * ev (qs s) x) ∧ IB (2 * (M * B)) cur' ∧ ∀ (O : Orc) (U : Store) (s0 s4 s5 s6 s7 s8 s9 : Option DV), ∃ (t4 t5 t6 t7 t8 t9 : Option DV), evB O G whileBody [s0, some (.frl (Z s)), some (.ref U.length), some (.int head), s4, s5, s6, s7, s8, s9] (U ++ [.lst (Z cur)]) =
      some (.nx [s0, some (.frl (Z s)), some (.ref (U ++ [Cell.lst (Z cur)]).length), some (.int head), t4, t5, t6, t7, t8, t9] ((U ++ [.lst (Z cur)]) ++ [.lst (Z (itrim cur'))])) := by
  have hsl : 0 < s.length := by rcases s with _ | ⟨_, _⟩ <;> simp at hs ⊢
  have hcl : 0 < cur.length := by omega
  obtain ⟨g1, g2, g3, g4, g5⟩ := gcd_facts (n := lead) hh
  have gc : gcdD head lead = gcdD lead head := by unfold gcdD; rw [Int.gcd_comm]
  have hhm : head.natAbs ≤ M := hM _ (List.mem_of_getLast? hs)
  have hlm : lead.natAbs ≤ B := hB _ (List.mem_of_getLast? hc)
  obtain ⟨g, hgdef⟩ : ∃ g, gcdD lead head = g := ⟨_, rfl⟩
  rw [hgdef] at g1 g2 g3 g4 g5 gc
  have hgb : g.natAbs < 2 ^ 9000 := lim_lt (Nat.le_trans g5 (Nat.le_trans hhm hMl))
  have d1 := div_ok (a := head) hgb g1
  have d2 := div_ok (a := lead) hgb g1
  have ht0 : head / g ≠ 0 := fun e => hh (by rw [← Int.ediv_mul_cancel g4, e]; simp)
  have htM : (head / g).natAbs ≤ M := by
    rw [Int.natAbs_ediv_of_dvd g4]; exact Nat.le_trans (Nat.div_le_self _ _) hhm
  have hfB : (lead / g).natAbs ≤ B := by
    rw [Int.natAbs_ediv_of_dvd g3]; exact Nat.le_trans (Nat.div_le_self _ _) hlm
  have hC : IB (M * B) (cur.map (head / g * ·)) := fun c hc' => by
    obtain ⟨d, hd, rfl⟩ := List.mem_map.mp hc'
    rw [Int.natAbs_mul]; exact Nat.mul_le_mul htM (hB d hd)
  have hfs : ∀ c ∈ s, (lead / g * c).natAbs ≤ M * B := fun c hc' => by
    rw [Int.natAbs_mul, Nat.mul_comm M B]; exact Nat.mul_le_mul hfB (hM c hc')
  obtain ⟨acc, k2, k3, k4, k5, k6, k1⟩ := rest_inner b (i := cur.length - s.length) (cur.map (head / g * ·)) hC (by omega : (lead / g).natAbs ≤ lim) s 0 (cur.map (head / g * ·)) (hM.mono hMl) hfs (hC.mono (by omega)) (fun _ _ => rfl) (by simp; omega)
  have k2 : acc.length = cur.length := by simpa using k2
  have hidx : (cur.map (head / g * ·))[cur.length - s.length + 0 + s.length - 1]? = some (head / g * lead) := by
    have e : cur.length - s.length + 0 + s.length - 1 = cur.length - 1 := by omega
    rw [e, List.getElem?_map]
    rw [List.getLast?_eq_getElem?] at hc
    rw [hc]; rfl
  have hlast := k6 head hs _ hidx
  have hz0 : head / g * lead - lead / g * head = 0 := by
    have h1 := Int.ediv_mul_cancel g4
    have h2 := Int.ediv_mul_cancel g3
    have : head / g * lead = lead / g * head := by
      calc head / g * lead = head / g * (lead / g * g) := by rw [h2]
        _ = lead / g * (head / g * g) := by grind
        _ = _ := by rw [h1]
    omega
  rw [hz0] at hlast
  have hlen : (itrim acc).length < cur.length := by
    have e : cur.length - s.length + 0 + s.length - 1 = cur.length - 1 := by omega
    rw [e] at hlast
    have hne : acc ≠ [] := fun e => by rw [e] at k2; simp at k2; omega
    have h1 : acc = acc.dropLast ++ [0] := by
      have h2 : acc.getLast? = some 0 := by rw [List.getLast?_eq_getElem?, k2]; exact hlast
      have h3 := List.dropLast_concat_getLast hne
      rw [List.getLast?_eq_some_getLast hne] at h2
      rw [Option.some.inj h2] at h3
      exact h3.symm
    rw [h1, itrim_z]
    have := itrim_len acc.dropLast
    simp at this; omega
  have e1 : (cur.length : Int) - 1 = ((cur.length - 1 : Nat) : Int) := by omega
  refine ⟨acc, head / g, Pl.C ((lead / g : Int) : Rat) * Pl.X ^ (cur.length - s.length), hlen, ht0, fun x => ?_, k4, fun O U s0 s4 s5 s6 s7 s8 s9 => ?_⟩
  · rw [k3, ev_iscale, Pl.val_mul, Pl.val_C, Nat.add_zero]
    have : ∀ n : Nat, (Pl.X ^ n).val x = x ^ n := fun n => by
      induction n with
      | zero => show (Pl.C 1).val x = _; rw [Pl.val_C]; simp
      | succ n ih => rw [Pl.val_pow_succ, Pl.val_mul, Pl.val_X, ih, Rat.pow_succ]
    rw [this]
  · obtain ⟨U1, hU1⟩ : ∃ U1 : Store, U1 = U ++ [Cell.lst (Z cur)] := ⟨_, rfl⟩
    rw [← hU1]
    obtain ⟨t8, t9, k1⟩ := k1 O U1 s0 (some (.frl (Z s))) (some (.int head)) (some (.int g)) (some (.int (head / g))) s8 s9
    have hUk : U1[U.length]? = some (.lst (Z cur)) := by rw [hU1]; simp
    have hix : ixD (.ref U.length) (.int ((cur.length : Int) - 1)) U1 = some (.int lead) := by
      rw [hU1, e1, ixz U [] cur (by omega)]
      rw [List.getLast?_eq_getElem?, List.getElem?_eq_getElem (by omega)] at hc
      rw [Option.some.inj hc]
    have hsh : (cur.length : Int) - (s.length : Int) = ((cur.length - s.length : Nat) : Int) := by omega
    have hpop := rest_pop b (O := O) (s0 := s0) (s1 := some (.frl (Z s))) (s3 := some (.int head)) (s4 := some (.int g)) (s5 := some (.int (head / g))) (s6 := some (.int (lead / g))) (s7 := some (.int ((cur.length - s.length : Nat) : Int))) (s8 := t8) (s9 := t9) U1 acc acc.length (Nat.le_refl _)
    rw [List.take_length] at hpop
    refine ⟨some (.int g), some (.int (head / g)), some (.int (lead / g)), some (.int ((cur.length - s.length : Nat) : Int)), t8, t9, ?_⟩
    refine b_nx (en' := [s0, some (.frl (Z s)), some (.ref U.length), some (.int head), some (.int g), s5, s6, s7, s8, s9]) (S' := U1) (s_asg (d := .int g) ?_)
      (b_nx (en' := [s0, some (.frl (Z s)), some (.ref U.length), some (.int head), some (.int g), some (.int (head / g)), s6, s7, s8, s9]) (S' := U1) (s_asg (d := .int (head / g)) ?_)
      (b_nx (en' := [s0, some (.frl (Z s)), some (.ref U.length), some (.int head), some (.int g), some (.int (head / g)), some (.int (lead / g)), s7, s8, s9]) (S' := U1) (s_asg (d := .int (lead / g)) ?_)
      (b_nx (en' := [s0, some (.frl (Z s)), some (.ref U.length), some (.int head), some (.int g), some (.int (head / g)), some (.int (lead / g)), some (.int ((cur.length - s.length : Nat) : Int)), s8, s9]) (S' := U1) (s_asg (d := .int ((cur.length - s.length : Nat) : Int)) ?_)
      (b_nx (en' := [s0, some (.frl (Z s)), some (.ref U1.length), some (.int head), some (.int g), some (.int (head / g)), some (.int (lead / g)), some (.int ((cur.length - s.length : Nat) : Int)), s8, s9]) (S' := U1 ++ [.lst (Z (cur.map (head / g * ·)))]) (s_new (S1 := U1) (ds := Z (cur.map (head / g * ·))) ?_)
      (b_nx (en' := [s0, some (.frl (Z s)), some (.ref U1.length), some (.int head), some (.int g), some (.int (head / g)), some (.int (lead / g)), some (.int ((cur.length - s.length : Nat) : Int)), t8, t9]) (S' := U1 ++ [.lst (Z acc)]) (s_for (S1 := U1 ++ [.lst (Z (cur.map (head / g * ·)))]) ?_ k1)
      (b_nx (s_while hpop) (by rw [evB])))))))
    · simp [evE, evEs, bltD, lenD, binD, intOp, hix, gc, hUk]
    · have : head.fdiv g = head / g := fdiv_of_dvd g4
      have hd1 : divOk head g := d1
      simp [evE, binD, intOp, hd1, this]
    · have : lead.fdiv g = lead / g := fdiv_of_dvd g3
      have hd2 : divOk lead g := d2
      simp [evE, evEs, bltD, lenD, binD, intOp, hix, hd2, this, hUk]
    · simp [evE, evEs, bltD, lenD, binD, intOp, hsh, hUk]
    · have hgd : gOk (some (U.length, Z cur)) U1 := by simp [gOk, hUk]
      have hlc := ev_lcG (O := O) (G := G) (t := .one 9) (it := .seq (.var 2)) (el := .bin .mul (.var 5) (.var 9)) (en := [s0, some (.frl (Z s)), some (.ref U.length), some (.int head), some (.int g), some (.int (head / g)), some (.int (lead / g)), some (.int ((cur.length - s.length : Nat) : Int)), s8, s9]) (S := U1) (xs := cur) (enc := DV.int) (f := fun c => .int (head / g * c)) (by simp [evIt, evE, seqOf, hUk]) hgd (by omega) fun c hc' => ⟨_, rfl, by
          have hm : mulOk (head / g) c := mok9 (by omega) (Nat.le_trans (hB c hc') hBl)
          simp [evE, binD, intOp, hm]⟩
      have e : Z (cur.map (head / g * ·)) = cur.map fun c => .int (head / g * c) := by simp [Function.comp_def]
      rw [e]; exact hlc
    · have := enumZ s 0
      simp [evIt, evE, seqOf] at this ⊢
      exact this
set_option maxHeartbeats 1000000 in
theorem rest_loop {head : Int} {M : Nat} {s : List Int} (hs : s.getLast? = some head) (hh : head ≠ 0) (hM : IB M s) (hM0 : 0 < M) (hMl : M ≤ lim) : ∀ (n : Nat) (cur : List Int) (B : Nat), cur.length ≤ n → n ≤ 1000 → IB B cur → B * (2 * M) ^ (cur.length + 1 - s.length) ≤ lim →
    ∃ (cur' : List Int) (t : Rat) (u : Pl), cur'.length < s.length ∧ cur'.length ≤ cur.length ∧ t ≠ 0 ∧ (∀ x, ev (qs cur') x = t * ev (qs cur) x - u.val x * ev (qs s) x) ∧ IB (B * (2 * M) ^ (cur.length + 1 - s.length)) cur' ∧ ∀ (O : Orc) (U : Store) (s0 s4 s5 s6 s7 s8 s9 : Option DV), ∃ (T : Store) (t4 t5 t6 t7 t8 t9 : Option DV), whileL (evE O G (.cmp .ge (.blt .len (.cons (.var 2) .nil)) (.blt .len (.cons (.var 1) .nil)))) (evB O G whileBody) [s0, some (.frl (Z s)), some (.ref U.length), some (.int head), s4, s5, s6, s7, s8, s9] (U ++ [.lst (Z cur)]) =
      some (.nx [s0, some (.frl (Z s)), some (.ref (U ++ T).length), some (.int head), t4, t5, t6, t7, t8, t9] ((U ++ T) ++ [.lst (Z cur')]))
  | 0, cur, B, hn, hn1, hB, hlim => by
    have hsl : 0 < s.length := by rcases s with _ | ⟨_, _⟩ <;> simp at hs ⊢
    refine ⟨cur, 1, 0, by omega, Nat.le_refl _, by decide, fun x => by rw [Pl.val_0]; grind, ?_, fun O U s0 s4 s5 s6 s7 s8 s9 => ⟨[], s4, s5, s6, s7, s8, s9, ?_⟩⟩
    rotate_left
    · rw [List.append_nil]
      refine while_done (S1 := U ++ [.lst (Z cur)]) ?_
      have : ¬ ((s.length : Int) ≤ (cur.length : Int)) := by omega
      simp [evE, evEs, bltD, lenD, this]
    · have : cur.length + 1 - s.length = 0 := by omega
      rw [this]; simpa using hB
  | n + 1, cur, B, hn, hn1, hB, hlim => by
    have hsl : 0 < s.length := by rcases s with _ | ⟨_, _⟩ <;> simp at hs ⊢
    by_cases hl : cur.length < s.length
    · refine ⟨cur, 1, 0, hl, Nat.le_refl _, by decide, fun x => by rw [Pl.val_0]; grind, ?_, fun O U s0 s4 s5 s6 s7 s8 s9 => ⟨[], s4, s5, s6, s7, s8, s9, ?_⟩⟩
      rotate_left
      · rw [List.append_nil]
        refine while_done (S1 := U ++ [.lst (Z cur)]) ?_
        have : ¬ ((s.length : Int) ≤ (cur.length : Int)) := by omega
        simp [evE, evEs, bltD, lenD, this]
      · have : cur.length + 1 - s.length = 0 := by omega
        rw [this]; simpa using hB
    · obtain ⟨k, hk⟩ : ∃ k, cur.length + 1 - s.length = k + 1 := ⟨cur.length - s.length, by omega⟩
      obtain ⟨lead, hc⟩ : ∃ lead, cur.getLast? = some lead := by
        cases e : cur.getLast? with
        | none => rw [List.getLast?_eq_none_iff.mp e] at hl; simp only [List.length_nil] at hl; omega
        | some l => exact ⟨l, rfl⟩
      have hp0 : 0 < (2 * M) ^ k := Nat.pow_pos (by omega)
      have hst : 2 * (M * B) * (2 * M) ^ k = B * (2 * M) ^ (cur.length + 1 - s.length) := by
        rw [hk, Nat.pow_succ]; grind
      have h2 : 2 * (M * B) ≤ lim := Nat.le_trans (Nat.le_mul_of_pos_right _ hp0) (by rw [hst]; exact hlim)
      have hBl : B ≤ lim := Nat.le_trans (Nat.le_mul_of_pos_right _ (Nat.pow_pos (show 0 < 2 * M by omega))) hlim
      obtain ⟨cur1, t, u, g2, g3, g4, g5, g1⟩ := rest_step b hs hh hc (by omega) hB hM h2 hMl hBl (by omega)
      have hexp : (itrim cur1).length + 1 - s.length ≤ k := by omega
      have hle : 2 * (M * B) * (2 * M) ^ ((itrim cur1).length + 1 - s.length) ≤ B * (2 * M) ^ (cur.length + 1 - s.length) := by
        rw [← hst]; exact Nat.mul_le_mul_left _ (Nat.pow_le_pow_right (by omega) hexp)
      have hn2 : (itrim cur1).length ≤ n := by omega
      obtain ⟨cur', t', u', h2, h3, h4, h5, h6, h1⟩ := rest_loop hs hh hM hM0 hMl n (itrim cur1) (2 * (M * B)) hn2 (by omega) (fun c hc => g5 c (itrim_mem hc)) (Nat.le_trans hle hlim)
      have hit : ∀ x, ev (qs (itrim cur1)) x = ev (qs cur1) x := fun x => by rw [itrim_cast, ev_trim]
      refine ⟨cur', t' * t, Pl.C t' * u + u', h2, by omega, fun e => ?_, fun x => ?_, h6.mono hle, fun O U s0 s4 s5 s6 s7 s8 s9 => ?_⟩
      rotate_right
      · obtain ⟨t4, t5, t6, t7, t8, t9, g1⟩ := g1 O U s0 s4 s5 s6 s7 s8 s9
        obtain ⟨T, v4, v5, v6, v7, v8, v9, h1⟩ := h1 O (U ++ [Cell.lst (Z cur)]) s0 t4 t5 t6 t7 t8 t9
        refine ⟨Cell.lst (Z cur) :: T, v4, v5, v6, v7, v8, v9, ?_⟩
        have e : U ++ Cell.lst (Z cur) :: T = (U ++ [Cell.lst (Z cur)]) ++ T := by simp
        rw [e]
        refine while_next (S1 := U ++ [.lst (Z cur)]) ?_ g1 h1
        have : ((s.length : Int) ≤ (cur.length : Int)) := by omega
        simp [evE, evEs, bltD, lenD]
        omega
      · rcases Rat.mul_eq_zero.mp e with e | e
        · exact h4 e
        · exact g3 (by exact_mod_cast e)
      · rw [h5, hit, g4, Pl.val_add, Pl.val_mul, Pl.val_C]; grind
end
end Ev

set_option linter.all false
set_option maxRecDepth 100000
set_option exponentiation.threshold 500000
/-! EvI: the common divisor. -/
namespace Ev
open Iv Mq
theorem prim_last (l : List Int) : (prim l).getLast? ≠ some 0 := by
  have h := itrim_last l
  unfold prim
  split
  · exact h
  · rw [List.getLast?_map]
    intro e
    cases hl : (itrim l).getLast? with
    | none => rw [hl] at e; cases e
    | some c =>
      rw [hl] at e h
      have e : c / gcdL 0 (itrim l) = 0 := by simpa using e
      have hd := (gcdL_dvd (itrim l) 0).2 c (List.mem_of_getLast? hl)
      have := Int.ediv_mul_cancel hd
      rw [e] at this
      apply h; congr 1; omega
theorem prim_len (l : List Int) : (prim l).length ≤ l.length := by
  have := itrim_len l
  unfold prim
  split
  · exact this
  · rw [List.length_map]; exact this
theorem prim_IB {B : Nat} {l : List Int} (h : IB B l) : IB B (prim l) := by
  unfold prim
  split
  · exact fun c hc => h c (itrim_mem hc)
  · intro c hc
    obtain ⟨d, hd, rfl⟩ := List.mem_map.mp hc
    have h1 := (gcdL_dvd (itrim l) 0).2 d hd
    rw [Int.natAbs_ediv_of_dvd h1]
    exact Nat.le_trans (Nat.div_le_self _ _) (h d (itrim_mem hd))
theorem prim_val (l : List Int) : ∃ k : Int, k ≠ 0 ∧ ∀ x, ev (qs l) x = k * ev (qs (prim l)) x := by
  have hit : ∀ x, ev (qs (itrim l)) x = ev (qs l) x := fun x => by rw [itrim_cast, ev_trim]
  unfold prim
  split
  · exact ⟨1, by decide, fun x => by rw [hit]; grind⟩
  · refine ⟨gcdL 0 (itrim l), by omega, fun x => ?_⟩
    rw [← hit, ← ev_iscale]
    congr 1
    unfold qs
    rw [List.map_map, List.map_map]
    refine List.map_congr_left fun c hc => ?_
    have h1 := (gcdL_dvd (itrim l) 0).2 c hc
    simp only [Function.comp]
    rw [Int.mul_ediv_cancel' h1]
def Lin (p q h : Pl) : Prop := ∃ u v, h = u * p + v * q
theorem Lin.trans {p q f s h : Pl} : Lin p q f → Lin p q s → Lin f s h → Lin p q h := fun ⟨a, b, e⟩ ⟨c, d, f⟩ ⟨u, v, g⟩ => ⟨u * a + v * c, u * b + v * d, by grind⟩
theorem Lin.left (p q : Pl) : Lin p q p := ⟨1, 0, by grind⟩
theorem Lin.right (p q : Pl) : Lin p q q := ⟨0, 1, by grind⟩
section
variable {G : Gi} (b : Base G)
include b
theorem f_integer_rest {f s : List Int} {head : Int} {B M : Nat} (hs : s.getLast? = some head) (hh : head ≠ 0) (hB : IB B f) (hM : IB M s) (hM0 : 0 < M) (hMl : M ≤ lim) (hz : f.length ≤ 1000) (hlim : B * (2 * M) ^ (f.length + 1 - s.length) ≤ lim) :
    ∃ r : List Int, PF G 2 ("", "_integer_rest") [.frl (Z f), .frl (Z s)] (.frl (Z r)) ∧ r.length < s.length ∧ r.length ≤ f.length ∧ r.getLast? ≠ some 0 ∧ IB (B * (2 * M) ^ (f.length + 1 - s.length)) r ∧ Lin (IP f) (IP s) (IP r) ∧ Lin (IP s) (IP r) (IP f) := by
  obtain ⟨cur, t, u, h2, h3, h4, h5, h6, h1⟩ := rest_loop b hs hh hM hM0 hMl f.length f B (Nat.le_refl _) hz hB hlim
  obtain ⟨k, hk, hv⟩ := prim_val cur
  have hkq : (k : Rat) ≠ 0 := by exact_mod_cast hk
  have hcl : IB lim cur := h6.mono hlim
  refine ⟨prim cur, ?_, Nat.lt_of_le_of_lt (prim_len cur) h2, Nat.le_trans (prim_len cur) h3, prim_last cur, prim_IB h6, ⟨Pl.C (t / k), -(Pl.C (1 / k) * u), ?_⟩, ⟨Pl.C (1 / t) * u, Pl.C (k / t), ?_⟩⟩
  · refine pf_of b.g_integer_rest rfl (by simp only [pur, cloD]; exact cloL_Z _ _) fun n S hn => ?_
    have henv : List.map some (fillD Pg.f__integer_rest [.frl (Z f), .frl (Z s)]) ++ List.replicate (Pg.f__integer_rest.nm.length - Pg.f__integer_rest.np) none = [some (.frl (Z f)), some (.frl (Z s)), none, none, none, none, none, none, none, none] := rfl
    rw [henv]
    obtain ⟨T, t4, t5, t6, t7, t8, t9, w⟩ := h1 (orc G n) S (some (.frl (Z f))) none none none none none none
    have hsl : 0 < s.length := by rcases s with _ | ⟨_, _⟩ <;> simp at hs ⊢
    have e1 : (s.length : Int) - 1 = ((s.length - 1 : Nat) : Int) := by omega
    have hix : ∀ S : Store, ixD (.frl (Z s)) (.int ((s.length : Int) - 1)) S = some (.int head) := fun S => by
      rw [e1]
      rw [List.getLast?_eq_getElem?] at hs
      simp [ixD, idx_nat (show s.length - 1 < s.length by omega), hs]
    refine ⟨T ++ [.dead], .inl ?_⟩
    refine b_nx (en' := [some (.frl (Z f)), some (.frl (Z s)), some (.ref S.length), none, none, none, none, none, none, none]) (S' := S ++ [Cell.lst (Z f)]) (s_new (S1 := S) (ds := Z f) ?_)
      (b_nx (en' := [some (.frl (Z f)), some (.frl (Z s)), some (.ref S.length), some (.int head), none, none, none, none, none, none]) (S' := S ++ [Cell.lst (Z f)]) (s_asg (d := .int head) ?_)
      (b_nx (en' := [some (.frl (Z f)), some (.frl (Z s)), some (.ref (S ++ T).length), some (.int head), t4, t5, t6, t7, t8, t9]) (S' := (S ++ T) ++ [Cell.lst (Z cur)]) (s_while ?_) (b_rt (s_ret ?_))))
    · simp [evE, evEs, bltD]
    · simp [evE, evEs, bltD, lenD, binD, intOp, hix]
    · exact w
    · have hp := (f_primitive_row b hcl (by omega)).low (n := n) (j := 0) (by omega) (S := (S ++ T) ++ [.dead])
      have e : S ++ (T ++ [Cell.dead]) = (S ++ T) ++ [Cell.dead] := by simp
      rw [e]
      generalize S ++ T = W at hp ⊢
      simp [evE, evEs, hp]
  · refine Pl.ext fun x => ?_
    have e := hv x
    rw [h5] at e
    rw [Pl.val_add, Pl.val_mul, Pl.val_mul, Pl.val_C, Pl.val_neg, Pl.val_mul, Pl.val_C, val_IP, val_IP, val_IP]
    grind
  · refine Pl.ext fun x => ?_
    have e := hv x
    rw [h5] at e
    rw [Pl.val_add, Pl.val_mul, Pl.val_mul, Pl.val_C, Pl.val_mul, Pl.val_C, val_IP, val_IP, val_IP]
    grind
end
end Ev

set_option linter.all false
set_option maxRecDepth 100000
set_option exponentiation.threshold 500000
/-! EvJ: primitive, common_divisor. -/
namespace Ev
open Iv Mq
def lcmL (g : Nat) : List Rat → Nat
  | [] => g
  | c :: l => lcmL (Nat.lcm g c.den) l
theorem lcmL_dvd : ∀ (l : List Rat) (g : Nat), g ∣ lcmL g l ∧ ∀ c ∈ l, c.den ∣ lcmL g l
  | [], g => ⟨Nat.dvd_refl g, fun c h => by cases h⟩
  | c :: l, g => by
    obtain ⟨h1, h2⟩ := lcmL_dvd l (Nat.lcm g c.den)
    refine ⟨Nat.dvd_trans (Nat.dvd_lcm_left ..) h1, fun d hd => ?_⟩
    rcases List.mem_cons.mp hd with rfl | hd
    · exact Nat.dvd_trans (Nat.dvd_lcm_right ..) h1
    · exact h2 d hd
theorem lcmL_least : ∀ (l : List Rat) (g D : Nat), g ∣ D → (∀ c ∈ l, c.den ∣ D) → lcmL g l ∣ D
  | [], g, D, h, _ => h
  | c :: l, g, D, h, h2 => lcmL_least l _ D (Nat.lcm_dvd h (h2 c (by simp))) fun d hd => h2 d (by simp [hd])
theorem Sz.den_dvd {D N : Nat} {q : Rat} (h : Sz D N q) : q.den ∣ D := by
  obtain ⟨n, rfl, l⟩ := h.divInt
  have h' : (0 : Int) < D := by have := h.1; omega
  rw [← Int.natCast_dvd_natCast, ← den_pos' h']
  exact Int.ediv_dvd_of_dvd (gcd_facts (n := n) (by omega)).2.2.2.1
/-- the numerator over L -/
def nmr (L : Nat) (c : Rat) : Int := c.num * (L / c.den : Int)
theorem nmr_val {L : Nat} {c : Rat} (h : c.den ∣ L) : (nmr L c : Rat) = c * L := by
  obtain ⟨k, rfl⟩ := h
  have hd : (c.den : Int) ≠ 0 := den_ne c
  have e : (((c.den * k : Nat) : Int) / (c.den : Int)) = k := by push_cast; exact Int.mul_ediv_cancel_left _ hd
  unfold nmr
  rw [e]
  have h1 : c * c.den = c.num := by
    have := Rat.mkRat_self c
    rw [Rat.mkRat_eq_div] at this
    have hd : (c.den : Rat) ≠ 0 := by exact_mod_cast c.den_nz
    grind
  push_cast
  grind
theorem nmr_le {L D N : Nat} {c : Rat} (h : c.den ∣ L) (hs : Sz D N c) (hL : L ≤ D) : (nmr L c).natAbs ≤ N := by
  obtain ⟨h0, n, e, l⟩ := hs
  have e1 := nmr_val h
  have e2 : nmr L c * D = n * L := by
    have : ((nmr L c * D : Int) : Rat) = ((n * L : Int) : Rat) := by push_cast; rw [e1]; grind
    exact_mod_cast this
  have e3 : (nmr L c).natAbs * D = n.natAbs * L := by
    have := congrArg Int.natAbs e2
    rw [Int.natAbs_mul, Int.natAbs_mul] at this
    simpa using this
  have : (nmr L c).natAbs * D ≤ N * D := by
    rw [e3]; exact Nat.mul_le_mul l hL
  exact Nat.le_of_mul_le_mul_right this h0
section
variable {G : Gi} (b : Base G)
include b
theorem lcm_loop {O : Orc} {S : Store} {s0 s2 s4 : Option DV} {D : Nat} (hD : D < 2 ^ big) (hD0 : 0 < D) : ∀ (l : List Rat) (g : Nat) (s1 : Option DV), g ∣ D → (∀ c ∈ l, c.den ∣ D) → ∃ t1, forL (.one 1) (evB O G (.cons (.asg 3 (.blt .lcm (.cons (.var 3) (.cons (.fld (.var 1) "d") .nil)))) .nil)) none (l.map R) [s0, s1, s2, some (.int g), s4] S = some (.nx [s0, t1, s2, some (.int (lcmL g l : Nat)), s4] S)
  | [], g, s1, _, _ => ⟨s1, for_nil⟩
  | c :: l, g, s1, hg, hl => by
    have hc := hl c (by simp)
    obtain ⟨t1, h⟩ := lcm_loop (O := O) (S := S) (s0 := s0) (s2 := s2) (s4 := s4) hD hD0 l (Nat.lcm g c.den) (some (R c)) (Nat.lcm_dvd hg hc) (fun d hd => hl d (by simp [hd]))
    refine ⟨t1, for_next (en1 := [s0, some (R c), s2, some (.int g), s4]) (en' := [s0, some (R c), s2, some (.int (Nat.lcm g c.den : Nat)), s4]) (S' := S) rfl ?_ h⟩
    have lg : ∀ {a : Nat}, a ∣ D → a.log2 < 13000 := fun {a} ha => by
      have h1 : a ≤ D := Nat.le_of_dvd hD0 ha
      by_cases h : a = 0
      · rw [h]; decide
      · exact Nat.lt_trans ((Nat.log2_lt h).mpr (Nat.lt_of_le_of_lt h1 hD)) (by decide)
    simp [evB, evS, evE, evEs, bltD, fld_d b, lg hg, lg hc]
theorem gcd_loop2 {O : Orc} {S : Store} {s0 s2 : Option DV} {L N : Nat} (hL : L < 2 ^ big) (hN : ∀ c : Rat, c.den ∣ L → c.num.natAbs < 2 ^ big → True) : ∀ (l : List Rat) (g : Int) (s1 : Option DV), (∀ c ∈ l, c.den ∣ L) → SmL l → ∃ t1, forL (.one 1) (evB O G (.cons (.asg 4 (.blt .gcd (.cons (.var 4) (.cons (.bin .mul (.fld (.var 1) "n") (.bin .fdiv (.var 3) (.fld (.var 1) "d"))) .nil)))) .nil)) none (l.map R) [s0, s1, s2, some (.int L), some (.int g)] S = some (.nx [s0, t1, s2, some (.int L), some (.int (gcdL g (l.map (nmr L))))] S)
  | [], g, s1, _, _ => ⟨s1, for_nil⟩
  | c :: l, g, s1, hl, hs => by
    have hc := hl c (by simp)
    have hsc := hs c (by simp)
    obtain ⟨t1, h⟩ := gcd_loop2 (O := O) (S := S) (s0 := s0) (s2 := s2) (N := N) hL hN l (gcdD g (nmr L c)) (some (R c)) (fun d hd => hl d (by simp [hd])) (fun d hd => hs d (by simp [hd]))
    refine ⟨t1, for_next (en1 := [s0, some (R c), s2, some (.int L), some (.int g)]) (en' := [s0, some (R c), s2, some (.int L), some (.int (gcdD g (nmr L c)))]) (S' := S) rfl ?_ h⟩
    have d1 : divOk (L : Int) c.den := div_ok (up hsc.d (by decide)) (den_ne c)
    have e1 : (L : Int).fdiv c.den = L / c.den := fdiv_of_dvd (Int.natCast_dvd_natCast.mpr hc)
    have hLq : ((L : Int) / (c.den : Int)).natAbs < 2 ^ big := by
      rw [← Int.natCast_ediv, Int.natAbs_natCast]
      exact Nat.lt_of_le_of_lt (Nat.div_le_self _ _) hL
    have m1 : mulOk c.num ((L : Int) / (c.den : Int)) := mok hsc.n hLq
    simp [evB, evS, evE, evEs, bltD, fld_d b, fld_n b, binD, intOp, d1, e1, m1, nmr]
theorem Poly_primitive {p : Pl} (hp0 : p ≠ 0) {D N : Nat} (hp : PS D N p.1) (hD : D < 2 ^ big) (hN : N < 2 ^ big) (hz : p.1.length ≤ 1000) :
    ∃ (r : Rat) (ns : List Int), PF G 3 ("Poly", "primitive") [P p] (.tup [R r, .tup (Z ns)]) ∧ ns.length = p.1.length ∧ IB N ns ∧ ns.getLast? ≠ some 0 ∧ ∃ k : Rat, k ≠ 0 ∧ IP ns = Pl.C k * p := by
  obtain ⟨L, hLd⟩ : ∃ L, lcmL 1 p.1 = L := ⟨_, rfl⟩
  have hdv := (lcmL_dvd p.1 1).2
  rw [hLd] at hdv
  have hLD : L ∣ D := hLd ▸ lcmL_least p.1 1 D (Nat.one_dvd _) fun c hc => (hp.2 c hc).den_dvd
  have hLle : L ≤ D := Nat.le_of_dvd hp.1 hLD
  have hL0 : 0 < L := Nat.pos_of_dvd_of_pos hLD hp.1
  have hsm := hp.sm hD hN
  obtain ⟨g0, hg0⟩ : ∃ g0, gcdL 0 (p.1.map (nmr L)) = g0 := ⟨_, rfl⟩
  have hgd := (gcdL_dvd (p.1.map (nmr L)) 0).2
  rw [hg0] at hgd
  have hlcm := lc_mem hp0
  have hlast0 : nmr L p.lc ≠ 0 := fun e => by
    have := nmr_val (hdv _ hlcm)
    rw [e] at this
    have hl := Pl.lc_ne hp0
    have hLq : (L : Rat) ≠ 0 := by exact_mod_cast (show L ≠ 0 by omega)
    have : p.lc * (L : Rat) = 0 := by rw [← this]; rfl
    rcases Rat.mul_eq_zero.mp this with h | h <;> contradiction
  have hg1 : g0 ≠ 0 := fun e => hlast0 (by
    have := hgd _ (List.mem_map.mpr ⟨_, hlcm, rfl⟩)
    rw [e] at this
    exact Int.zero_dvd.mp this)
  have hgN : g0.natAbs ≤ N := by
    have := hgd _ (List.mem_map.mpr ⟨_, hlcm, rfl⟩)
    exact Nat.le_trans (Nat.le_of_dvd (by omega) (Int.natAbs_dvd_natAbs.mpr this)) (nmr_le (hdv _ hlcm) (hp.2 _ hlcm) hLle)
  -- the sign
  obtain ⟨g, hgs⟩ : ∃ g : Int, g = (if p.lc.num < 0 then -g0 else g0) := ⟨_, rfl⟩
  have hgne : g ≠ 0 := by rw [hgs]; split <;> omega
  have hgb : g.natAbs < 2 ^ 9000 := by
    have : g.natAbs = g0.natAbs := by rw [hgs]; split <;> simp
    rw [this]; exact Nat.lt_of_le_of_lt hgN (Nat.lt_of_lt_of_le hN (Nat.pow_le_pow_right (by decide) (by decide)))
  have hgd2 : ∀ c ∈ p.1, g ∣ nmr L c := fun c hc => by
    have := hgd _ (List.mem_map.mpr ⟨c, hc, rfl⟩)
    rw [hgs]; split
    · exact Int.neg_dvd.mpr this
    · exact this
  have hgq : (g : Rat) ≠ 0 := by exact_mod_cast hgne
  have hLq : (L : Rat) ≠ 0 := by exact_mod_cast (show L ≠ 0 by omega)
  refine ⟨Rat.divInt g L, p.1.map fun c => nmr L c / g, ?_, by simp, ?_, ?_, (L : Rat) / g, ?_, ?_⟩
  · refine pf_of b.p_primitive rfl (by simp only [pur, cloD, cloL, Bool.and_true]; simp only [R, cloD, cloL, Bool.and_true, Bool.true_and]; exact cloL_Z _ _) fun n S hn => ⟨[], .inl ?_⟩
    have henv : List.map some (fillD Pg.Poly_primitive [P p]) ++ List.replicate (Pg.Poly_primitive.nm.length - Pg.Poly_primitive.np) none = [some (P p), none, none, none, none] := rfl
    rw [henv, List.append_nil]
    obtain ⟨t1, w1⟩ := lcm_loop b (O := orc G n) (S := S) (s0 := some (P p)) (s2 := none) (s4 := some (.int 0)) hD hp.1 p.1 1 none (Nat.one_dvd _) (fun c hc => (hp.2 c hc).den_dvd)
    rw [hLd] at w1
    obtain ⟨u1, w2⟩ := gcd_loop2 b (O := orc G n) (S := S) (s0 := some (P p)) (s2 := none) (L := L) (N := 0) (Nat.lt_of_le_of_lt hLle hD) (fun _ _ _ => trivial) p.1 0 t1 hdv hsm
    rw [hg0] at w2
    have hla := (Poly_last b hp0).low (n := n) (j := 0) (by omega) (S := S)
    have hmk := mk_Ratio b (n := g) (d := L) (by omega) (by
      have : (L : Int).natAbs < 2 ^ big := by simpa using Nat.lt_of_le_of_lt hLle hD
      exact up this (by decide)) (m := n) hn S
    have hlc := ev_lc (O := orc G n) (G := G) (t := .one 1) (it := .seq (.fld (.var 0) "row")) (el := .bin .fdiv (.bin .mul (.fld (.var 1) "n") (.bin .fdiv (.var 3) (.fld (.var 1) "d"))) (.var 4)) (en := [some (P p), u1, none, some (.int L), some (.int g)]) (S := S) (S1 := S) (xs := p.1) (enc := R) (f := fun c => .int (nmr L c / g)) (it_row b rfl S) (by omega) fun c hc => ⟨_, rfl, fun S => by
      have hsc := hsm c hc
      have d1 : divOk (L : Int) c.den := div_ok (up hsc.d (by decide)) (den_ne c)
      have e1 : (L : Int).fdiv c.den = L / c.den := fdiv_of_dvd (Int.natCast_dvd_natCast.mpr (hdv c hc))
      have hLq : ((L : Int) / (c.den : Int)).natAbs < 2 ^ big := by
        rw [← Int.natCast_ediv, Int.natAbs_natCast]
        exact Nat.lt_of_le_of_lt (Nat.div_le_self _ _) (Nat.lt_of_le_of_lt hLle hD)
      have m1 : mulOk c.num ((L : Int) / (c.den : Int)) := mok hsc.n hLq
      have d2 : divOk (c.num * ((L : Int) / (c.den : Int))) g := div_ok hgb hgne
      have e2 : (c.num * ((L : Int) / (c.den : Int))).fdiv g = c.num * ((L : Int) / (c.den : Int)) / g := fdiv_of_dvd (hgd2 c hc)
      simp [evE, fld_n b, fld_d b, binD, intOp, d1, e1, m1, d2, e2, nmr]⟩
    refine b_nx (en' := [some (P p), none, none, some (.int 1), some (.int 0)]) (S' := S) ?_
      (b_nx (en' := [some (P p), t1, none, some (.int L), some (.int 0)]) (S' := S) (s_for (S1 := S) (it_row b rfl S) w1)
      (b_nx (en' := [some (P p), u1, none, some (.int L), some (.int g0)]) (S' := S) (s_for (S1 := S) (it_row b rfl S) w2)
      (b_nx (en' := [some (P p), u1, none, some (.int L), some (.int g)]) (S' := S) ?_
      (b_nx (en' := [some (P p), u1, some (.tup (p.1.map fun c => .int (nmr L c / g))), some (.int L), some (.int g)]) (S' := S) (s_asg ?_) (b_rt (s_ret ?_))))))
    · simp [evS, evE, evEs, clen, bindT, setAll]
    · have hl : evE (orc G n) G (.fld (.mth (.var 0) "Poly" "last" .nil) "n") [some (P p), u1, none, some (.int L), some (.int g0)] S = some (.int p.lc.num, S) := by
        simp only [P] at hla
        simp [evE, evEs, P, hla, fld_n b]
      by_cases hneg : p.lc.num < 0
      · rw [if_pos hneg] at hgs
        refine s_true (S1 := S) ?_ ?_
        · rw [evE, hl]; simp [evE, hneg]
        · simp [evB, evS, evE, hgs]
      · rw [if_neg hneg] at hgs
        refine s_false (S1 := S) ?_ ?_
        · rw [evE, hl]; simp [evE, hneg]
        · simp [evB, hgs]
    · have : evEs (orc G n) G (.cons (.lc (.one 1) (.seq (.fld (.var 0) "row")) (.bin .fdiv (.bin .mul (.fld (.var 1) "n") (.bin .fdiv (.var 3) (.fld (.var 1) "d"))) (.var 4))) .nil) [some (P p), u1, none, some (.int L), some (.int g)] S = some ([.frl (p.1.map fun c => .int (nmr L c / g))], S) := by rw [evEs, hlc]; rfl
      rw [evE, this]; rfl
    · have e : Z (p.1.map fun c => nmr L c / g) = p.1.map fun c => .int (nmr L c / g) := by simp [Function.comp_def]
      rw [e]
      simp [evE, evEs, hmk, clen]
  · intro c hc
    obtain ⟨d, hd, rfl⟩ := List.mem_map.mp hc
    rw [Int.natAbs_ediv_of_dvd (hgd2 d hd)]
    exact Nat.le_trans (Nat.div_le_self _ _) (nmr_le (hdv d hd) (hp.2 d hd) hLle)
  · rw [List.getLast?_map, Pl.lc_some hp0]
    intro e
    have e : nmr L p.lc / g = 0 := by simpa using e
    have := Int.ediv_mul_cancel (hgd2 _ hlcm)
    rw [e] at this
    omega
  · intro e
    have : (L : Rat) = 0 := by grind
    exact hLq this
  · refine Pl.ext fun x => ?_
    rw [val_IP, Pl.val_mul, Pl.val_C]
    have : qs (p.1.map fun c => nmr L c / g) = sclL ((L : Rat) / g) p.1 := by
      unfold qs sclL
      rw [List.map_map]
      refine List.map_congr_left fun c hc => ?_
      simp only [Function.comp]
      have e1 := nmr_val (hdv c hc)
      have e2 : ((nmr L c / g : Int) : Rat) * g = nmr L c := by
        have := Int.ediv_mul_cancel (hgd2 c hc)
        exact_mod_cast this
      grind
    rw [this, ev_scl]; rfl
end
end Ev

set_option linter.all false
set_option maxRecDepth 100000
set_option exponentiation.threshold 500000
/-! EvK: common_divisor. -/
namespace Ev
open Iv Mq
/-- how the sizes of the remainder sequence may grow -/
def W (a b : Nat) : Nat := if a < b then (b + 2 - a) * 3 ^ a else (a + 2 - b) * 3 ^ b
theorem three_pow : ∀ k : Nat, k + 3 ≤ 3 ^ (k + 1)
  | 0 => by decide
  | k + 1 => by have := three_pow k; rw [Nat.pow_succ]; omega
theorem W1 {a b c : Nat} (h : b ≤ a) (hc : c < b) : (a + 2 - b) * W b c ≤ W a b := by
  unfold W
  rw [if_neg (by omega), if_neg (by omega)]
  refine Nat.mul_le_mul_left _ ?_
  obtain ⟨k, rfl⟩ : ∃ k, b = c + (k + 1) := ⟨b - c - 1, by omega⟩
  have := three_pow k
  rw [Nat.pow_add, Nat.mul_comm (3 ^ c)]
  exact Nat.mul_le_mul_right _ (by omega)
theorem W2 {a b c : Nat} (h : a < b) (hc : c ≤ a) : W b c ≤ W a b := by
  unfold W
  rw [if_pos h, if_neg (by omega)]
  obtain ⟨k, rfl⟩ : ∃ k, a = c + k := ⟨a - c, by omega⟩
  clear hc
  induction k with
  | zero => exact Nat.le_refl _
  | succ k ih =>
    refine Nat.le_trans (ih (by omega)) ?_
    have e : 3 ^ (c + (k + 1)) = 3 * 3 ^ (c + k) := by rw [← Nat.add_assoc, Nat.pow_succ, Nat.mul_comm]
    rw [e, ← Nat.mul_assoc]
    exact Nat.mul_le_mul_right _ (by omega)
theorem W_pos (a b : Nat) : 2 ≤ W a b := by
  unfold W
  split
  · exact Nat.le_trans (by omega) (Nat.le_mul_of_pos_right _ (Nat.pow_pos (by decide)))
  · exact Nat.le_trans (by omega) (Nat.le_mul_of_pos_right _ (Nat.pow_pos (by decide)))
theorem W_ge {a b : Nat} (h : b ≤ a) : a + 2 - b ≤ W a b := by
  unfold W
  rw [if_neg (by omega)]
  exact Nat.le_mul_of_pos_right _ (Nat.pow_pos (by decide))
section
variable {G : Gi} (b : Base G)
include b
theorem cd_loop {s0 s1 s2 s5 : Option DV} : ∀ (n : Nat) (f s : List Int) (X : Nat), s.length ≤ n → f.getLast? ≠ some 0 → s.getLast? ≠ some 0 → f ≠ [] → IB X f → IB X s → 1 ≤ X → f.length ≤ 1000 → s.length ≤ 1000 → (2 * X) ^ W f.length s.length ≤ lim →
    ∃ f' : List Int, f' ≠ [] ∧ f'.getLast? ≠ some 0 ∧ IB lim f' ∧ f'.length ≤ 1000 ∧ Lin (IP f) (IP s) (IP f') ∧ Pl.dvd (IP f') (IP f) ∧ Pl.dvd (IP f') (IP s) ∧
      ∀ (m : Nat) (S : Store), 2 ≤ m → whileL (evE (orc G m) G (.cmp .gt (.blt .len (.cons (.var 4) .nil)) (.cint 0))) (evB (orc G m) G (.cons (.par 3 4 (.var 4) (.call "_integer_rest" (.cons (.var 3) (.cons (.var 4) .nil)))) .nil)) [s0, s1, s2, some (.frl (Z f)), some (.frl (Z s)), s5] S =
        some (.nx [s0, s1, s2, some (.frl (Z f')), some (.frl (Z [])), s5] S)
  | n, f, [], X, hn, hf, hs, hf0, hB, hM, hX, hz, hz', hlim => by
    refine ⟨f, hf0, hf, hB.mono ?_, hz, Lin.left _ _, Pl.dvd_refl _, ⟨0, Pl.ext fun x => ?_⟩, fun m S hm => ?_⟩
    · refine Nat.le_trans ?_ hlim
      have := W_pos f.length ([] : List Int).length
      calc X ≤ (2 * X) ^ 1 := by rw [Nat.pow_one]; omega
        _ ≤ _ := Nat.pow_le_pow_right (by omega) (by omega)
    · rw [val_IP, Pl.val_mul, Pl.val_0]; simp only [qs, List.map_nil, ev]; grind
    · refine while_done (S1 := S) ?_
      simp [evE, evEs, bltD, lenD]
  | 0, f, c :: s, X, hn, hf, hs, hf0, hB, hM, hX, hz, hz', hlim => by simp at hn
  | n + 1, f, c :: s, X, hn, hf, hs, hf0, hB, hM, hX, hz, hz', hlim => by
    obtain ⟨head, hh⟩ : ∃ h, (c :: s).getLast? = some h := by
      cases e : (c :: s).getLast? with
      | none => simp at e
      | some h => exact ⟨h, rfl⟩
    have hh0 : head ≠ 0 := fun e => hs (by rw [hh, e])
    have hY : 1 ≤ 2 * X := by omega
    have hXl : X ≤ lim := Nat.le_trans (by
      have := W_pos f.length (c :: s).length
      calc X ≤ (2 * X) ^ 1 := by rw [Nat.pow_one]; omega
        _ ≤ _ := Nat.pow_le_pow_right (by omega) (by omega)) hlim
    -- the next pair
    have next : ∀ (r : List Int) (X' : Nat), PF G 2 ("", "_integer_rest") [.frl (Z f), .frl (Z (c :: s))] (.frl (Z r)) → r.length < (c :: s).length → r.getLast? ≠ some 0 → IB X' r → IB X' (c :: s) → 1 ≤ X' → Lin (IP f) (IP (c :: s)) (IP r) → Lin (IP (c :: s)) (IP r) (IP f) → (2 * X') ^ W (c :: s).length r.length ≤ lim →
        ∃ f' : List Int, f' ≠ [] ∧ f'.getLast? ≠ some 0 ∧ IB lim f' ∧ f'.length ≤ 1000 ∧ Lin (IP f) (IP (c :: s)) (IP f') ∧ Pl.dvd (IP f') (IP f) ∧ Pl.dvd (IP f') (IP (c :: s)) ∧
          ∀ (m : Nat) (S : Store), 2 ≤ m → whileL (evE (orc G m) G (.cmp .gt (.blt .len (.cons (.var 4) .nil)) (.cint 0))) (evB (orc G m) G (.cons (.par 3 4 (.var 4) (.call "_integer_rest" (.cons (.var 3) (.cons (.var 4) .nil)))) .nil)) [s0, s1, s2, some (.frl (Z f)), some (.frl (Z (c :: s))), s5] S =
            some (.nx [s0, s1, s2, some (.frl (Z f')), some (.frl (Z [])), s5] S) := by
      intro r X' hpf hrl hrlast hr hs' hX' l1 l2 hlim'
      obtain ⟨f', k1, k2, k3, k4, k5, k6, k7, k8⟩ := cd_loop n (c :: s) r X' (by omega) hs hrlast (by simp) hs' hr hX' hz' (by omega) hlim'
      refine ⟨f', k1, k2, k3, k4, Lin.trans (Lin.right _ _) l1 k5, ?_, k6, fun m S hm => ?_⟩
      · obtain ⟨u, v, e⟩ := l2
        rw [e]; exact Pl.dvd_add (Pl.dvd_mul' _ k6) (Pl.dvd_mul' _ k7)
      · refine while_next (S1 := S) ?_ ?_ (k8 m S hm)
        · simp [evE, evEs, bltD, lenD]
        · have := hpf.low (n := m) (j := 0) (by omega) (S := S)
          simp [evB, evS, evE, evEs] at this ⊢
          rw [this]
    by_cases hlt : f.length < (c :: s).length
    · have e : f.length + 1 - (c :: s).length = 0 := by omega
      obtain ⟨r, g1, g2, g3, g4, g5, g6, g7⟩ := f_integer_rest b hh hh0 hB hM (by omega) hXl hz (by rw [e]; simpa using hXl)
      rw [e] at g5
      refine next r X g1 g2 g4 (by simpa using g5) hM hX g6 g7 (Nat.le_trans (Nat.pow_le_pow_right (by omega) (W2 hlt g3)) hlim)
    · have hW := W_ge (a := f.length) (b := (c :: s).length) (by omega)
      have hp : 2 * (X * (2 * X) ^ (f.length + 1 - (c :: s).length)) = (2 * X) ^ (f.length + 2 - (c :: s).length) := by
        have e : f.length + 2 - (c :: s).length = (f.length + 1 - (c :: s).length) + 1 := by omega
        rw [e, Nat.pow_succ, ← Nat.mul_assoc, Nat.mul_comm]
      have hp1 : (2 * X) ^ (f.length + 2 - (c :: s).length) ≤ lim := Nat.le_trans (Nat.pow_le_pow_right (by omega) hW) hlim
      obtain ⟨r, g1, g2, g3, g4, g5, g6, g7⟩ := f_integer_rest b hh hh0 hB hM (by omega) hXl hz (Nat.le_trans (Nat.le_mul_of_pos_left _ (show 0 < 2 by decide)) (by rw [hp]; exact hp1))
      have hX1 : X ≤ X * (2 * X) ^ (f.length + 1 - (c :: s).length) := Nat.le_mul_of_pos_right _ (Nat.pow_pos (by omega))
      refine next r _ g1 g2 g4 g5 (hM.mono hX1) (by omega) g6 g7 ?_
      rw [hp, ← Nat.pow_mul]
      exact Nat.le_trans (Nat.pow_le_pow_right (by omega) (W1 (by omega) g2)) hlim
omit b in
theorem IP_zero {ns : List Int} (h : ns.getLast? ≠ some 0) (h0 : ns ≠ []) : IP ns ≠ 0 := by
  intro e
  obtain ⟨c, hc⟩ : ∃ c, ns.getLast? = some c := by
    cases e : ns.getLast? with
    | none => exact absurd (List.getLast?_eq_none_iff.mp e) h0
    | some c => exact ⟨c, rfl⟩
  have hc0 : c ≠ 0 := fun e => h (by rw [hc, e])
  have ht : Tr (qs ns) := by
    unfold Tr qs
    rw [List.getLast?_map, hc]
    simp only [Option.map_some, ne_eq, Option.some.injEq]
    exact_mod_cast hc0
  have : (IP ns).1 = qs ns := trim_of ht
  rw [Pl.eq_zero, this] at e
  have : (qs ns).length = 0 := by rw [e]; rfl
  unfold qs at this
  rw [List.length_map] at this
  exact h0 (List.length_eq_zero_iff.mp this)
omit b in
theorem IP_lc {ns : List Int} {c : Int} (h : ns.getLast? = some c) (h0 : c ≠ 0) : (IP ns).lc = c := by
  have ht : Tr (qs ns) := by
    unfold Tr qs
    rw [List.getLast?_map, h]
    simp only [Option.map_some, ne_eq, Option.some.injEq]
    exact_mod_cast h0
  have : (IP ns).1 = qs ns := trim_of ht
  unfold Pl.lc
  rw [this]
  unfold qs
  rw [List.getLast?_map, h]; rfl
/-- the common divisor of polynomials that are not constant -/
theorem cd_main {p q : Pl} (hp0 : p ≠ 0) (hq0 : q ≠ 0) (hp1 : p.1.length ≠ 1) (hq1 : q.1.length ≠ 1) {D N E M X : Nat} (hp : PS D N p.1) (hq : PS E M q.1) (hD : D < 2 ^ big) (hN : N < 2 ^ big) (hE : E < 2 ^ big) (hM : M < 2 ^ big) (hNX : N ≤ X) (hMX : M ≤ X) (hX : 1 ≤ X) (hz : p.1.length ≤ 1000) (hz' : q.1.length ≤ 1000) (hlim : (2 * X) ^ W p.1.length q.1.length ≤ lim) :
    ∃ g : Pl, Pl.IsGcd p q g ∧ PF G 5 ("", "common_divisor") [P p, P q] (P g) := by
  obtain ⟨r1, ns, e1, l1, b1, n1, k1, hk1, v1⟩ := Poly_primitive b hp0 hp hD hN hz
  obtain ⟨r2, ms, e2, l2, b2, n2, k2, hk2, v2⟩ := Poly_primitive b hq0 hq hE hM hz'
  have hn0 : ns ≠ [] := fun e => by
    have := Pl.len_pos.mpr hp0
    rw [e] at l1; unfold Pl.len at this; simp at l1; rw [l1] at this; simp at this
  obtain ⟨f', h1, h2, h3, h4, h5, h6, h7, h8⟩ := cd_loop b (s0 := some (P p)) (s1 := some (P q)) (s2 := none) (s5 := none) ms.length ns ms X (Nat.le_refl _) n1 n2 hn0 (b1.mono hNX) (b2.mono hMX) hX (by omega) (by omega) (by rw [l1, l2]; exact hlim)
  obtain ⟨head, hh⟩ : ∃ h, f'.getLast? = some h := by
    cases e : f'.getLast? with
    | none => exact absurd (List.getLast?_eq_none_iff.mp e) h1
    | some h => exact ⟨h, rfl⟩
  have hh0 : head ≠ 0 := fun e => h2 (by rw [hh, e])
  have hhq : (head : Rat) ≠ 0 := by exact_mod_cast hh0
  have hlc := IP_lc hh hh0
  have hc1 : Pl.C (1 / k1) * Pl.C k1 = 1 := by rw [← Pl.C_mul]; have : 1 / k1 * k1 = 1 := by grind
                                               rw [this]; rfl
  have hc2 : Pl.C (1 / k2) * Pl.C k2 = 1 := by rw [← Pl.C_mul]; have : 1 / k2 * k2 = 1 := by grind
                                               rw [this]; rfl
  have hch : Pl.C (1 / (head : Rat)) * Pl.C head = 1 := by rw [← Pl.C_mul]; have : 1 / (head : Rat) * head = 1 := by grind
                                                           rw [this]; rfl
  refine ⟨Pl.C (1 / (head : Rat)) * IP f', ⟨?_, ?_, ?_, ?_⟩, ?_⟩
  · unfold Pl.monic
    rw [Pl.lc_mul, Pl.lc_C, hlc]; grind
  · obtain ⟨u, e⟩ := h6
    exact ⟨Pl.C head * Pl.C (1 / k1) * u, by grind⟩
  · obtain ⟨u, e⟩ := h7
    exact ⟨Pl.C head * Pl.C (1 / k2) * u, by grind⟩
  · obtain ⟨u, v, e⟩ := h5
    exact ⟨Pl.C (1 / (head : Rat)) * u * Pl.C k1, Pl.C (1 / (head : Rat)) * v * Pl.C k2, by grind⟩
  · refine pf_of b.g_common_divisor rfl (pur_P _) fun n S hn => ⟨[], .inl ?_⟩
    have henv : List.map some (fillD Pg.f_common_divisor [P p, P q]) ++ List.replicate (Pg.f_common_divisor.nm.length - Pg.f_common_divisor.np) none = [some (P p), some (P q), none, none, none, none] := rfl
    rw [henv, List.append_nil]
    have z1 := (Poly_is_zero b p).low (n := n) (j := 0) (by omega) (S := S)
    have z2 := (Poly_is_zero b q).low (n := n) (j := 0) (by omega) (S := S)
    have d1 := (Poly_degree b p).low (n := n) (j := 0) (by omega) (S := S)
    have d2 := (Poly_degree b q).low (n := n) (j := 0) (by omega) (S := S)
    have c1 := e1.low (n := n) (j := 0) (by omega) (S := S)
    have c2 := e2.low (n := n) (j := 0) (by omega) (S := S)
    have hx1 : (((p.len : Int) - 1) == 0) = false := by unfold Pl.len; simp; omega
    have hx2 : (((q.len : Int) - 1) == 0) = false := by unfold Pl.len; simp; omega
    have w := h8 n S (by omega)
    have i1 : idx 2 1 = some 1 := rfl
    have hix : ixD (.frl (Z f')) (.int ((f'.length : Int) - 1)) S = some (.int head) := by
      have : 0 < f'.length := List.length_pos_iff.mpr h1
      have e : (f'.length : Int) - 1 = ((f'.length - 1 : Nat) : Int) := by omega
      rw [List.getLast?_eq_getElem?] at hh
      rw [e]
      simp [ixD, idx_nat (show f'.length - 1 < f'.length by omega), hh]
    have hhl : head.natAbs ≤ lim := h3 _ (List.mem_of_getLast? hh)
    have hlc2 := ev_lc (O := orc G n) (G := G) (t := .one 5) (it := .seq (.var 3)) (el := .mk "Ratio" (.cons (.var 5) (.cons (.var 2) .nil))) (en := [some (P p), some (P q), some (.int head), some (.frl (Z f')), some (.frl (Z [])), none]) (S := S) (S1 := S) (xs := f') (enc := DV.int) (f := fun c => R (Rat.divInt c head)) (by simp [evIt, evE, seqOf]) (by omega) fun c hc => ⟨_, rfl, fun S => by
      have := mk_Ratio b (n := c) (d := head) hh0 (lim_lt hhl) (m := n) (by omega) S
      simp [evE, evEs, this]⟩
    have e9 : f'.map (fun c => R (Rat.divInt c head)) = (sclL (1 / (head : Rat)) (qs f')).map R := by
      unfold sclL qs
      rw [List.map_map, List.map_map]
      refine List.map_congr_left fun c _ => ?_
      simp only [Function.comp]
      rw [Rat.divInt_eq_div]; congr 1; grind
    rw [e9] at hlc2
    have hm := mk_PolyR b (l := sclL (1 / (head : Rat)) (qs f')) (row := .frl ((sclL (1 / (head : Rat)) (qs f')).map R)) (by rw [sclL_len]; unfold qs; rw [List.length_map]; omega) (.inl rfl) (m := n) (by omega) S
    have e10 : Pl.mk (sclL (1 / (head : Rat)) (qs f')) = Pl.C (1 / (head : Rat)) * IP f' := Pl.ext fun x => by rw [Pl.val_mk, ev_scl, Pl.val_mul, Pl.val_C, val_IP]
    rw [e10] at hm
    refine b_nx (en' := [some (P p), some (P q), none, none, none, none]) (S' := S) (s_false (S1 := S) ?_ (by rw [evB]))
      (b_nx (en' := [some (P p), some (P q), none, none, none, none]) (S' := S) (s_false (S1 := S) ?_ (by rw [evB]))
      (b_nx (en' := [some (P p), some (P q), none, some (.frl (Z ns)), some (.frl (Z ms)), none]) (S' := S) ?_
      (b_nx (en' := [some (P p), some (P q), none, some (.frl (Z f')), some (.frl (Z [])), none]) (S' := S) (s_while ?_)
      (b_nx (en' := [some (P p), some (P q), some (.int head), some (.frl (Z f')), some (.frl (Z [])), none]) (S' := S) (s_asg ?_) (b_rt (s_ret ?_))))))
    · simp only [P] at z1 z2
      simp [evE, evEs, P, z1, z2, hp0, hq0]
    · simp only [P] at d1 d2
      simp [evE, evEs, P, d1, d2, hx1, hx2, eqD]
    · simp only [P] at c1 c2
      simp [evS, evE, evEs, P, c1, c2, ixD, i1, bltD]
    · exact w
    · simp [evE, evEs, bltD, lenD, binD, intOp, hix]
    · have h2 : evEs (orc G n) G (.cons (.lc (.one 5) (.seq (.var 3)) (.mk "Ratio" (.cons (.var 5) (.cons (.var 2) .nil)))) .nil) [some (P p), some (P q), some (.int head), some (.frl (Z f')), some (.frl (Z [])), none] S = some ([.frl ((sclL (1 / (head : Rat)) (qs f')).map R)], S) := by rw [evEs, hlc2]; rfl
      rw [evE, h2]
      exact hm
end
end Ev

set_option linter.all false
set_option maxRecDepth 100000
set_option exponentiation.threshold 500000
/-! EvL: common_divisor where it is easy; RatFun. -/
namespace Ev
open Iv Mq
section
variable {G : Gi} (b : Base G)
include b
theorem cd_zero {p q : Pl} (h : p = 0 ∨ q = 0) (hp : SmL p.1) (hq : SmL q.1) (hz : p.1.length ≤ 1000000) (hz' : q.1.length ≤ 1000000) : PF G 7 ("", "common_divisor") [P p, P q] (P (if q = 0 then mon p else mon q)) := by
  refine pf_of b.g_common_divisor rfl (pur_P _) fun n S hn => ⟨[], .inl ?_⟩
  have henv : List.map some (fillD Pg.f_common_divisor [P p, P q]) ++ List.replicate (Pg.f_common_divisor.nm.length - Pg.f_common_divisor.np) none = [some (P p), some (P q), none, none, none, none] := rfl
  rw [henv, List.append_nil]
  have z1 := (Poly_is_zero b p).low (n := n) (j := 0) (by omega) (S := S)
  have z2 := (Poly_is_zero b q).low (n := n) (j := 0) (by omega) (S := S)
  have m1 := (Poly_monic b hp hz).low (n := n) (j := 0) (by omega) (S := S)
  have m2 := (Poly_monic b hq hz').low (n := n) (j := 0) (by omega) (S := S)
  simp only [P] at z1 z2 m1 m2
  refine b_rt (s_true (S1 := S) ?_ (b_rt (s_ret (S1 := S) ?_)))
  · by_cases h1 : p = 0
    · rw [decide_eq_true h1] at z1
      simp [evE, evEs, P, z1]
    · rw [decide_eq_false h1] at z1
      rw [decide_eq_true (h.resolve_left h1)] at z2
      simp [evE, evEs, P, z1, z2]
  · by_cases h2 : q = 0
    · rw [decide_eq_true h2] at z2
      rw [if_pos h2]
      simp [evE, evEs, P, z2, m1]
    · rw [decide_eq_false h2] at z2
      rw [if_neg h2]
      simp [evE, evEs, P, z2, m2]
theorem cd_one {p q : Pl} (hp0 : p ≠ 0) (hq0 : q ≠ 0) (h : p.len = 1 ∨ q.len = 1) : PF G 5 ("", "common_divisor") [P p, P q] (P 1) := by
  refine pf_of b.g_common_divisor rfl (pur_P _) fun n S hn => ⟨[], .inl ?_⟩
  have henv : List.map some (fillD Pg.f_common_divisor [P p, P q]) ++ List.replicate (Pg.f_common_divisor.nm.length - Pg.f_common_divisor.np) none = [some (P p), some (P q), none, none, none, none] := rfl
  rw [henv, List.append_nil]
  have z1 := (Poly_is_zero b p).low (n := n) (j := 0) (by omega) (S := S)
  have z2 := (Poly_is_zero b q).low (n := n) (j := 0) (by omega) (S := S)
  have d1 := (Poly_degree b p).low (n := n) (j := 0) (by omega) (S := S)
  have d2 := (Poly_degree b q).low (n := n) (j := 0) (by omega) (S := S)
  have hm := mk_Poly b (ds := [.int 1]) (l := [1]) (row := .tup [.int 1]) (by simp) rfl (by simp) (.inr rfl) (m := n) (by omega) S
  have e1 : Pl.mk [1] = 1 := rfl
  rw [e1] at hm
  simp only [P] at z1 z2 d1 d2
  refine b_nx (en' := [some (P p), some (P q), none, none, none, none]) (S' := S) (s_false (S1 := S) ?_ (by rw [evB])) (b_rt (s_true (S1 := S) ?_ (b_rt (s_ret (S1 := S) ?_))))
  · simp [evE, evEs, P, z1, z2, hp0, hq0]
  · by_cases h1 : p.len = 1
    · simp [evE, evEs, P, d1, d2, h1, eqD]
    · have h2 := h.resolve_left h1
      have hx1 : (((p.len : Int) - 1) == 0) = false := by simp; omega
      simp [evE, evEs, P, d1, d2, h2, eqD, hx1]
  · simp [evE, evEs, clen, hm]
/-! ### RatFun -/
omit b in
def RF (n d : Pl) : DV := .obj "RatFun" [P n, P d]
omit b in
theorem pur_RF (n d : Pl) : pur (RF n d) = true := by simp [pur, RF, P, cloD, cloL, cloL_R]
omit b in
theorem gc_RF {S : Store} {n d : Pl} : gc (S ++ [.ins "RatFun" []]) (S ++ [.ins "RatFun" [("num", P n), ("den", P d)]]) .non = (.non, S ++ [.ins "RatFun" [("num", P n), ("den", P d)]]) :=
  gc_last (by simp [cloC, cloL, cloD, P, cloL_R])
/-- from what __init__ leaves -/
theorem mk_RF_of {n d u v : Pl} {k : Nat} (h : ∀ (m : Nat) (S : Store), k ≤ m → ∃ en, evB (orc G m) G Pg.RatFun___init__.body [some (.ref S.length), some (P n), some (P d), none, none, none] (S ++ [.ins "RatFun" []]) = some (.nx en (S ++ [.ins "RatFun" [("num", P u), ("den", P v)]]))) {m : Nat} (hm : k + 2 ≤ m) (S : Store) :
    makeD (orc G m) G "RatFun" [P n, P d] S = some (RF u v, S) := by
  obtain ⟨j, rfl⟩ : ∃ j, m = j + 1 + 1 := ⟨m - 2, by omega⟩
  unfold makeD
  rw [orc_succ, orc_zero, b.f_init]
  dsimp only
  unfold evFn
  obtain ⟨en, e⟩ := h j S (by omega)
  have hl : (fillD Pg.RatFun___init__ [.ref S.length, P n, P d]).length = Pg.RatFun___init__.np := rfl
  have henv : List.map some (fillD Pg.RatFun___init__ [.ref S.length, P n, P d]) ++ List.replicate (Pg.RatFun___init__.nm.length - Pg.RatFun___init__.np) none = [some (.ref S.length), some (P n), some (P d), none, none, none] := rfl
  rw [if_pos hl, henv, e]
  dsimp only
  rw [gc_RF]
  simp [b.ff, purL, cloL, cloD, cloL_R, P, RF]
theorem mk_RF_zero {d : Pl} (hd : d ≠ 0) {m : Nat} (hm : 8 ≤ m) (S : Store) : makeD (orc G m) G "RatFun" [P 0, P d] S = some (RF 0 1, S) := by
  refine mk_RF_of b (k := 6) (fun m S hm => ⟨[some (.ref S.length), some (P 0), some (P d), none, none, none], ?_⟩) hm S
  have z1 := (Poly_is_zero b d).low (n := m) (j := 0) (by omega) (S := S ++ [Cell.ins "RatFun" []])
  have z2 := (Poly_is_zero b 0).low (n := m) (j := 0) (by omega) (S := S ++ [Cell.ins "RatFun" []])
  have c1 := (f_one b).low (n := m) (j := 0) (by omega) (S := S ++ [.ins "RatFun" [("num", P 0)]])
  have c2 := (f_constant b 1).low (n := m) (j := 0) (by omega) (S := S ++ [.ins "RatFun" [("num", P 0)]])
  have e1 : Pl.C 1 = 1 := rfl
  rw [e1] at c2
  rw [decide_eq_false hd] at z1
  rw [decide_eq_true rfl] at z2
  simp only [P, R] at z1 z2 c1 c2
  simp [Pg.RatFun___init__, evB, evS, evE, evEs, P, z1, z2, c1, b.cf, b.ff]
  simp at c2
  simp [c2, b.cf, b.ff]
theorem mk_RF_const {n d : Pl} (hn : n ≠ 0) (hd : d.len = 1) (hs : SmL n.1) (hs' : Sm d.lc) (hz : n.1.length ≤ 1000000) {m : Nat} (hm : 8 ≤ m) (S : Store) : makeD (orc G m) G "RatFun" [P n, P d] S = some (RF (Pl.C d.lc⁻¹ * n) 1, S) := by
  have hd0 : d ≠ 0 := Pl.len_pos.mp (by omega)
  refine mk_RF_of b (k := 6) (fun m S hm => ⟨[some (.ref S.length), some (P n), some (P d), none, none, none], ?_⟩) hm S
  have z1 := (Poly_is_zero b d).low (n := m) (j := 0) (by omega) (S := S ++ [Cell.ins "RatFun" []])
  have z2 := (Poly_is_zero b n).low (n := m) (j := 0) (by omega) (S := S ++ [Cell.ins "RatFun" []])
  have d1 := (Poly_degree b d).low (n := m) (j := 0) (by omega) (S := S ++ [Cell.ins "RatFun" []])
  have l1 := (Poly_last b hd0).low (n := m) (j := 0) (by omega) (S := S ++ [Cell.ins "RatFun" []])
  have i1 := (Ratio_inverse b hs' (Pl.lc_ne hd0)).low (n := m) (j := 0) (by omega) (S := S ++ [Cell.ins "RatFun" []])
  have s1 := (Poly_scaled b hs (hs'.inv (Pl.lc_ne hd0)) hz).low (n := m) (j := 0) (by omega) (S := S ++ [Cell.ins "RatFun" []])
  have c1 := (f_one b).low (n := m) (j := 0) (by omega) (S := S ++ [.ins "RatFun" [("num", P (Pl.C d.lc⁻¹ * n))]])
  have c2 := (f_constant b 1).low (n := m) (j := 0) (by omega) (S := S ++ [.ins "RatFun" [("num", P (Pl.C d.lc⁻¹ * n))]])
  have e1 : Pl.C 1 = 1 := rfl
  rw [e1] at c2
  rw [decide_eq_false hd0] at z1
  rw [decide_eq_false hn] at z2
  rw [hd] at d1
  generalize d.lc⁻¹ = w at i1 s1 c1 c2 ⊢
  simp only [P, R] at z1 z2 d1 l1 i1 s1 c1 c2
  simp [Pg.RatFun___init__, evB, evS, evE, evEs, P, z1, z2, d1, eqD, l1, i1, s1, c1, b.cf, b.ff]
  simp at c2
  simp [c2, b.cf, b.ff]
theorem mk_RF_gen {n d g u v : Pl} (hn : n ≠ 0) (hd : d ≠ 0) (hd1 : d.len ≠ 1) (hv : v ≠ 0) (h1 : PF G 5 ("", "common_divisor") [P n, P d] (P g)) (h2 : PF G 5 ("Poly", "divided") [P n, P g] (.tup [P u, P 0])) (h3 : PF G 5 ("Poly", "divided") [P d, P g] (.tup [P v, P 0]))
    (hu : SmL u.1) (hv' : SmL v.1) (hz : u.1.length ≤ 1000000) (hz' : v.1.length ≤ 1000000) {m : Nat} (hm : 8 ≤ m) (S : Store) : makeD (orc G m) G "RatFun" [P n, P d] S = some (RF (Pl.C v.lc⁻¹ * u) (Pl.C v.lc⁻¹ * v), S) := by
  have hs' : Sm v.lc := hv' _ (lc_mem hv)
  refine mk_RF_of b (k := 6) (fun m S hm => ⟨[some (.ref S.length), some (P n), some (P d), some (P g), some (P v), some (R v.lc⁻¹)], ?_⟩) hm S
  have z1 := (Poly_is_zero b d).low (n := m) (j := 0) (by omega) (S := S ++ [Cell.ins "RatFun" []])
  have z2 := (Poly_is_zero b n).low (n := m) (j := 0) (by omega) (S := S ++ [Cell.ins "RatFun" []])
  have d1 := (Poly_degree b d).low (n := m) (j := 0) (by omega) (S := S ++ [Cell.ins "RatFun" []])
  have g1 := h1.low (n := m) (j := 0) (by omega) (S := S ++ [Cell.ins "RatFun" []])
  have g2 := (Poly_floordiv b h2).low (n := m) (j := 0) (by omega) (S := S ++ [Cell.ins "RatFun" []])
  have g3 := (Poly_floordiv b h3).low (n := m) (j := 0) (by omega) (S := S ++ [Cell.ins "RatFun" []])
  have l1 := (Poly_last b hv).low (n := m) (j := 0) (by omega) (S := S ++ [Cell.ins "RatFun" []])
  have i1 := (Ratio_inverse b hs' (Pl.lc_ne hv)).low (n := m) (j := 0) (by omega) (S := S ++ [Cell.ins "RatFun" []])
  have s1 := (Poly_scaled b hu (hs'.inv (Pl.lc_ne hv)) hz).low (n := m) (j := 0) (by omega) (S := S ++ [Cell.ins "RatFun" []])
  have s2 := (Poly_scaled b hv' (hs'.inv (Pl.lc_ne hv)) hz').low (n := m) (j := 0) (by omega) (S := S ++ [.ins "RatFun" [("num", P (Pl.C v.lc⁻¹ * u))]])
  have hx : (((d.len : Int) - 1) == 0) = false := by simp; omega
  rw [decide_eq_false hd] at z1
  rw [decide_eq_false hn] at z2
  generalize v.lc⁻¹ = w at i1 s1 s2 ⊢
  simp only [P, R] at z1 z2 d1 g1 g2 g3 l1 i1 s1 s2
  simp [Pg.RatFun___init__, evB, evS, evE, evEs, P, R, z1, z2, d1, hx, eqD, g1, g2, g3, l1, i1, s1, s2, b.cf, b.ff, binD, Bop.dun]
end
end Ev

set_option linter.all false
set_option maxRecDepth 100000
set_option exponentiation.threshold 500000
/-! EvM: sizes of sums and products; coprime polynomials; RatFun of coprime ones. -/
namespace Ev
open Iv Mq
theorem PS.addL {D N M : Nat} : ∀ {p q : List Rat}, PS D N p → PS D M q → PS D (N + M) (addL p q)
  | [], q, h, k => ⟨h.1, fun c hc => (k.2 c hc).mono (by omega)⟩
  | a :: p, [], h, k => ⟨h.1, fun c hc => (h.2 c hc).mono (by omega)⟩
  | a :: p, b :: q, h, k => by
    have ih := PS.addL (p := p) (q := q) ⟨h.1, fun c hc => h.2 c (.tail _ hc)⟩ ⟨h.1, fun c hc => k.2 c (.tail _ hc)⟩
    refine ⟨h.1, fun c hc => ?_⟩
    simp only [Mq.addL, List.mem_cons] at hc
    rcases hc with rfl | hc
    · exact (h.2 a (.head _)).add (k.2 b (.head _))
    · exact ih.2 c hc
theorem PS.sclL {D N E M : Nat} {r : Rat} {p : List Rat} (hr : Sz E M r) (h : PS D N p) : PS (E * D) (M * N) (sclL r p) :=
  ⟨Nat.mul_pos hr.1 h.1, fun c hc => by
    obtain ⟨d, hd, rfl⟩ := List.mem_map.mp hc
    exact hr.mul (h.2 d hd)⟩
theorem PS.mulL {D N E M : Nat} (hE : 0 < E) : ∀ {p q : List Rat}, PS D N p → PS E M q → PS (D * E) (p.length * (N * M)) (mulL p q)
  | [], q, h, k => ⟨Nat.mul_pos h.1 hE, fun c hc => by cases hc⟩
  | a :: p, q, h, k => by
    have ih := PS.mulL (p := p) (q := q) hE ⟨h.1, fun c hc => h.2 c (.tail _ hc)⟩ k
    have i2 : PS (D * E) (p.length * (N * M)) (0 :: Mq.mulL p q) := ⟨ih.1, fun c hc => by
      rcases List.mem_cons.mp hc with rfl | hc
      · exact Sz.zero ih.1
      · exact ih.2 c hc⟩
    have := (PS.sclL (h.2 a (.head _)) k).addL i2
    rw [show (a :: p).length * (N * M) = N * M + p.length * (N * M) by rw [List.length_cons, Nat.add_mul, Nat.one_mul, Nat.add_comm]]
    exact this
theorem trim_mem {c : Rat} : ∀ {l : List Rat}, c ∈ trim l → c ∈ l := fun {l} h => by
  rw [← trim_pre l] at h
  exact List.mem_of_mem_take h
theorem PS.trim {D N : Nat} {l : List Rat} (h : PS D N l) : PS D N (trim l) := ⟨h.1, fun c hc => h.2 c (trim_mem hc)⟩
theorem PS.add {D N M : Nat} {p q : Pl} (h : PS D N p.1) (k : PS D M q.1) : PS D (N + M) (p + q).1 := (h.addL k).trim
theorem PS.mul {D N E M : Nat} {p q : Pl} (h : PS D N p.1) (k : PS E M q.1) : PS (D * E) (p.1.length * (N * M)) (p * q).1 := (PS.mulL k.1 h k).trim
theorem PS.C {D N : Nat} {c : Rat} (h : Sz D N c) : PS D N (Pl.C c).1 := ⟨h.1, fun d hd => by
  have := trim_mem hd
  rw [List.mem_singleton.mp this]; exact h⟩
theorem PS.scaled {D N E M : Nat} {c : Rat} {p : Pl} (h : Sz E M c) (k : PS D N p.1) : PS (E * D) (M * N) (Pl.C c * p).1 := by
  have e : Pl.C c * p = Pl.mk (Mq.sclL c p.1) := Pl.ext fun x => by rw [Pl.val_mul, Pl.val_mk, ev_scl, Pl.val_C]; rfl
  rw [e]
  exact (PS.sclL h k).trim
theorem PS.one : PS 1 1 (1 : Pl).1 := by
  rw [Pl.one_list]
  exact ⟨by decide, fun c hc => by rw [List.mem_singleton.mp hc]; exact ⟨by decide, 1, by grind, by decide⟩⟩
theorem PS.zero {D N : Nat} (h : 0 < D) : PS D N (0 : Pl).1 := by
  rw [Pl.zero_list]
  exact ⟨h, fun c hc => by cases hc⟩
/-- from the sizes of the factors -/
theorem Poly_mul' {G : Gi} (b : Base G) {p q : Pl} {D N E M : Nat} (h : PS D N p.1) (k : PS E M q.1) (hD : D < 2 ^ big) (hN : N < 2 ^ big) (hE : E < 2 ^ big) (hM : M < 2 ^ big) (hDE : D * E < 2 ^ big) (hm : p.1.length * (q.1.length * (N * M)) < 2 ^ big) (hz : p.1.length ≤ 1000) (hz' : q.1.length ≤ 1000) :
    PF G 5 ("Poly", "__mul__") [P p, P q] (P (p * q)) :=
  Poly_mul b (h.sm hD hN) (k.sm hE hM) (Nat.mul_pos h.1 k.1) (fun a ha c hc => (h.2 a ha).mul (k.2 c hc)) hDE hm hz hz'
end Ev
namespace Mq.Pl
theorem coprime.mul {p q r : Pl} : coprime p q → coprime p r → coprime p (q * r) := fun ⟨u, v, h⟩ ⟨w, z, k⟩ =>
  ⟨u * w * p + u * z * r + v * q * w, v * z, by grind⟩
theorem coprime.addl {p q r : Pl} : coprime p q → coprime (p + r * q) q := fun ⟨u, v, h⟩ => ⟨u, v - u * r, by grind⟩
theorem coprime.of_mul {p q r : Pl} : coprime (p * q) r → coprime q r := fun ⟨u, v, h⟩ => ⟨u * p, v, by grind⟩
theorem coprime.one_right (p : Pl) : coprime p 1 := ⟨0, 1, by grind⟩
theorem coprime.C_left {c : Rat} (h : c ≠ 0) (p : Pl) : coprime (C c) p := ⟨C c⁻¹, 0, by have := C_inv h; grind⟩
theorem coprime.lin {s t : Rat} (h : s ≠ t) : coprime (X - C s) (X - C t) := by
  have h1 : t - s ≠ 0 := by grind
  refine ⟨C (t - s)⁻¹, -C (t - s)⁻¹, ?_⟩
  have h2 : C (t - s)⁻¹ * C (t - s) = 1 := C_inv h1
  rw [C_sub] at h2
  grind
theorem lc_one : lc 1 = 1 := lc_C 1
theorem monic_one : monic 1 := lc_one
theorem monic.mul {p q : Pl} (h : monic p) (k : monic q) : monic (p * q) := by
  unfold monic at *
  rw [lc_mul, h, k]; grind
theorem lin_list (s : Rat) : (X - C s).1 = [-s, 1] := by
  have e : X - C s = mk [-s, 1] := ext fun x => by rw [val_sub, val_X, val_C, val_mk]; simp only [ev]; grind
  rw [e]
  exact trim_of (by simp [Tr])
theorem monic_lin (s : Rat) : monic (X - C s) := by
  unfold monic lc; rw [lin_list]; rfl
theorem len_lin (s : Rat) : (X - C s).len = 2 := by unfold len; rw [lin_list]; rfl
/-- one quotient has one reduced form -/
theorem canon {u v n d : Pl} (h : coprime u v) (hm : monic v) (k : coprime n d) (km : monic d) (e : u * d = n * v) : u = n ∧ v = d := by
  have h1 : dvd v d := h.symm.dvd (c := d) ⟨n, by grind⟩
  have h2 : dvd d v := k.symm.dvd (c := v) ⟨u, by grind⟩
  have h3 := dvd_antisymm h1 h2 hm km
  subst h3
  refine ⟨?_, rfl⟩
  have : v * u = v * n := by grind
  exact mul_cancel (monic_ne hm) this
theorem gcd_one {p q g : Pl} (h : IsGcd p q g) (k : coprime p q) : g = 1 := by
  obtain ⟨u, v, e⟩ := k
  refine h.unique ⟨monic_one, ⟨p, by grind⟩, ⟨q, by grind⟩, ⟨u, v, e.symm⟩⟩
theorem monic_len1 {p : Pl} (h : monic p) (k : p.len = 1) : p = 1 := by
  have := of_len_one k
  rw [h] at this
  exact this
end Mq.Pl
namespace Ev
open Iv Mq
theorem lc_inv_one {d : Pl} (h : Pl.monic d) : d.lc⁻¹ = 1 := by rw [h]; grind
section
variable {G : Gi} (b : Base G)
include b
theorem div_one {p : Pl} {D N : Nat} (hp : PS D N p.1) (hD : D < 2 ^ big) (hN : N < 2 ^ big) (h2 : N * 2 ^ p.1.length < 2 ^ big) (hz : p.1.length ≤ 1000) : PF G 5 ("Poly", "divided") [P p, P 1] (.tup [P p, P 0]) := by
  have h1 : (1 : Pl).1.length = 1 := by rw [Pl.one_list]; rfl
  have z : (2 : Nat) ^ 0 < 2 ^ big := Nat.pow_lt_pow_right (by decide) (by decide)
  refine Poly_divided b (p := p) (d := 1) (q := p) (r := 0) (by grind) (by unfold Pl.len; rw [Pl.zero_list, h1]; decide) hp PS.one (I := 1) (J := 1) ?_ (by simpa using z) (by simpa using z) hD hN (by simpa using z) (by simpa using z) (by decide) ?_ ?_ (by simpa using hD) (by simpa using hN) hz (by rw [h1]; decide)
  · rw [Pl.lc_one]; exact ⟨by decide, 1, by grind, by decide⟩
  · simpa using hD
  · rw [h1]; simpa using h2
/-- the quotient of coprime polynomials, the divisor monic -/
theorem mk_RF_co {n d : Pl} (hn : n ≠ 0) (hc : Pl.coprime n d) (hm : Pl.monic d) {D N E M X : Nat} (hp : PS D N n.1) (hq : PS E M d.1) (hD : D < 2 ^ big) (hN : N * 2 ^ n.1.length < 2 ^ big) (hE : E < 2 ^ big) (hM : M * 2 ^ d.1.length < 2 ^ big) (hNX : N ≤ X) (hMX : M ≤ X) (hX : 1 ≤ X) (hz : n.1.length ≤ 1000) (hz' : d.1.length ≤ 1000) (hlim : (2 * X) ^ W n.1.length d.1.length ≤ lim) {m : Nat} (hm8 : 8 ≤ m) (S : Store) :
    makeD (orc G m) G "RatFun" [P n, P d] S = some (RF n d, S) := by
  have hN' : N < 2 ^ big := Nat.lt_of_le_of_lt (Nat.le_mul_of_pos_right _ (Nat.pow_pos (by decide))) hN
  have hM' : M < 2 ^ big := Nat.lt_of_le_of_lt (Nat.le_mul_of_pos_right _ (Nat.pow_pos (by decide))) hM
  have hd0 := Pl.monic_ne hm
  have c1 : ∀ p : Pl, Pl.C (1 : Rat) * p = p := fun p => by
    have : Pl.C (1 : Rat) = 1 := rfl
    rw [this]; grind
  by_cases hl : d.len = 1
  · have e := Pl.monic_len1 hm hl
    have := mk_RF_const b hn hl (hp.sm hD hN') ((hq.sm hE hM') _ (lc_mem hd0)) (by omega) hm8 S
    rw [lc_inv_one hm, c1] at this
    rw [this, e]
  · have hcd : PF G 5 ("", "common_divisor") [P n, P d] (P 1) := by
      by_cases h1 : n.len = 1
      · exact cd_one b hn hd0 (.inl h1)
      · obtain ⟨g, hg, h⟩ := cd_main b hn hd0 h1 hl hp hq hD hN' hE hM' hNX hMX hX hz hz' hlim
        rw [Pl.gcd_one hg hc] at h
        exact h
    have := mk_RF_gen b hn hd0 hl hd0 hcd (div_one b hp hD hN' hN hz) (div_one b hq hE hM' hM hz') (hp.sm hD hN') (hq.sm hE hM') (by omega) (by omega) hm8 S
    rw [lc_inv_one hm, c1, c1] at this
    exact this
/-! ### the methods -/
omit b in
theorem hRF (n d : Pl) : RF n d = .obj "RatFun" [.obj "Poly" [.tup (n.1.map R)], .obj "Poly" [.tup (d.1.map R)]] := rfl
theorem fld_num (n d : Pl) (S : Store) : fldD G (RF n d) "num" S = some (P n) := by
  show ((G.fld "RatFun").zip _).lookup "num" = _
  rw [b.ff]; rfl
theorem fld_den (n d : Pl) (S : Store) : fldD G (RF n d) "den" S = some (P d) := by
  show ((G.fld "RatFun").zip _).lookup "den" = _
  rw [b.ff]; rfl
theorem RF_is_zero (n d : Pl) : PF G 2 ("RatFun", "is_zero") [RF n d] (.bl (decide (n = 0))) := by
  refine pf_ret b.f_is_zero rfl rfl rfl fun m S hm => ?_
  have z := (Poly_is_zero b n).low (n := m) (j := 0) (by omega) (S := S)
  simp only [P] at z
  simp [Pg.RatFun_is_zero, fillD, evE, evEs, fld_num b, P, z]
theorem RF_call {n d : Pl} {x v w : Rat} (h1 : PF G 4 ("Poly", "__call__") [P d, R x] (R w)) (h2 : PF G 4 ("Poly", "__call__") [P n, R x] (R v)) (hw : w ≠ 0) (hs : Sm w) (hs' : Sm v) :
    PF G 5 ("RatFun", "__call__") [RF n d, R x] (R (v / w)) := by
  refine pf_of b.f_call rfl rfl fun m S hm => ⟨[], .inl ?_⟩
  rw [List.append_nil]
  have c1 := h1.low (n := m) (j := 0) (by omega) (S := S)
  have c2 := h2.low (n := m) (j := 0) (by omega) (S := S)
  have z := (Ratio_is_zero b w).low (n := m) (j := 0) (by omega) (S := S)
  have o := (Ratio_over b hs' hs hw).low (n := m) (j := 0) (by omega) (S := S)
  rw [decide_eq_false hw] at z
  refine b_nx (en' := [some (RF n d), some (R x), some (R w)]) (S' := S) (s_asg ?_) (b_nx (en' := [some (RF n d), some (R x), some (R w)]) (S' := S) (s_false (S1 := S) ?_ (by rw [evB])) (b_rt (s_ret ?_)))
  · simp only [P, R] at c1
    simp [fillD, evE, evEs, fld_den b, P, R, c1]
  · simp only [R] at z
    simp [evE, evEs, R, z]
  · generalize v / w = t at o ⊢
    simp only [P, R] at c2 o
    simp [evE, evEs, fld_num b, P, R, c2, o]
theorem RF_mul {n d n' d' u v : Pl} {a c : Pl} (h1 : PF G 5 ("Poly", "__mul__") [P n, P n'] (P a)) (h2 : PF G 5 ("Poly", "__mul__") [P d, P d'] (P c)) (hm : ∀ m S, 8 ≤ m → makeD (orc G m) G "RatFun" [P a, P c] S = some (RF u v, S)) : PF G 9 ("RatFun", "__mul__") [RF n d, RF n' d'] (RF u v) := by
  refine pf_ret b.f_mul rfl rfl (pur_RF _ _) fun m S h8 => ?_
  have c1 := h1.low (n := m) (j := 0) (by omega) (S := S)
  have c2 := h2.low (n := m) (j := 0) (by omega) (S := S)
  have k := hm m S h8
  simp only [P] at c1 c2 k
  simp [Pg.RatFun___mul__, fillD, evE, evEs, fld_num b, fld_den b, binD, Bop.dun, P, c1, c2, k]
theorem RF_add_ne {n d n' d' u v : Pl} {a c e f : Pl} (hne : d ≠ d') (h1 : PF G 5 ("Poly", "__mul__") [P n, P d'] (P a)) (h2 : PF G 5 ("Poly", "__mul__") [P n', P d] (P c)) (h3 : PF G 5 ("Poly", "__mul__") [P d, P d'] (P e)) (h4 : PF G 5 ("Poly", "__add__") [P a, P c] (P f))
    (hm : ∀ m S, 8 ≤ m → makeD (orc G m) G "RatFun" [P f, P e] S = some (RF u v, S)) : PF G 9 ("RatFun", "__add__") [RF n d, RF n' d'] (RF u v) := by
  refine pf_of b.f_add rfl (pur_RF _ _) fun m S h8 => ⟨[], .inl ?_⟩
  rw [List.append_nil]
  have q := (Poly_eq b d d').low (n := m) (j := 0) (by omega) (S := S)
  rw [decide_eq_false hne] at q
  have c1 := h1.low (n := m) (j := 0) (by omega) (S := S)
  have c2 := h2.low (n := m) (j := 0) (by omega) (S := S)
  have c3 := h3.low (n := m) (j := 0) (by omega) (S := S)
  have c4 := h4.low (n := m) (j := 0) (by omega) (S := S)
  have k := hm m S h8
  refine b_nx (en' := [some (RF n d), some (RF n' d')]) (S' := S) (s_false (S1 := S) ?_ (by rw [evB]; rfl)) (b_rt (s_ret ?_))
  · simp only [P] at q
    simp [fillD, evE, evEs, fld_den b, P, eqD, eqR, q]
  · simp only [P] at c1 c2 c3 c4 k
    simp [evE, evEs, fld_num b, fld_den b, binD, Bop.dun, P, c1, c2, c3, c4, k]
theorem f_of_poly {p : Pl} (hs : SmL p.1) (hz : p.1.length ≤ 1000000) : PF G 9 ("", "of_poly") [P p] (RF p 1) := by
  refine pf_ret b.g_of_poly rfl rfl (pur_RF _ _) fun m S h8 => ?_
  have c1 := (f_one b).low (n := m) (j := 0) (by omega) (S := S)
  have c2 := (f_constant b 1).low (n := m) (j := 0) (by omega) (S := S)
  have e1 : Pl.C 1 = 1 := rfl
  rw [e1] at c2
  have k : makeD (orc G m) G "RatFun" [P p, P 1] S = some (RF p 1, S) := by
    by_cases hp : p = 0
    · subst hp; exact mk_RF_zero b (Pl.monic_ne Pl.monic_one) h8 S
    · have := mk_RF_const b hp (d := 1) (by unfold Pl.len; rw [Pl.one_list]; rfl) hs (by rw [Pl.lc_one]; exact (Sz.sm (D := 1) (N := 1) ⟨by decide, 1, by grind, by decide⟩ (by decide) (by decide))) hz h8 S
      rw [Pl.lc_one] at this
      have e : Pl.C (1 : Rat)⁻¹ * p = p := by
        have : (1 : Rat)⁻¹ = 1 := by grind
        rw [this, e1]; grind
      rw [e] at this
      exact this
  simp only [P, R] at c1 c2 k
  simp [Pg.f_of_poly, fillD, evE, evEs, P, c1] at c2 k ⊢
  simp [c2, k]
theorem f_of_ratio {q : Rat} (hs : Sm q) : PF G 10 ("", "of_ratio") [R q] (RF (Pl.C q) 1) := by
  refine pf_ret b.g_of_ratio rfl rfl (pur_RF _ _) fun m S h8 => ?_
  have c2 := (f_constant b q).low (n := m) (j := 0) (by omega) (S := S)
  have k := (f_of_poly b (p := Pl.C q) (fun c hc => by rw [List.mem_singleton.mp (trim_mem hc)]; exact hs) (Nat.le_trans (Pl.len_C q) (by decide))).low (n := m) (j := 0) (by omega) (S := S)
  simp only [P, R] at c2 k
  simp [Pg.f_of_ratio, fillD, evE, evEs, R, P, c2, k]
end
end Ev

set_option linter.all false
set_option maxRecDepth 100000
set_option exponentiation.threshold 500000
/-! EvN: power products: small methods, in_order. -/
namespace Ev
open Iv Mq
structure BaseP (G : Gi) : Prop extends Base G where
  g_written : G.fn ("", "written_integer") = some Pg.f_written_integer
  c_piece : G.cst "PIECE" = some (.int 50)
  r_str : G.fn ("Ratio", "__str__") = some Pg.Ratio___str__
  r_compare : G.fn ("Ratio", "compare") = some Pg.Ratio_compare
  r_floor : G.fn ("Ratio", "floor") = some Pg.Ratio_floor
  g_zero : G.fn ("", "zero") = some Pg.f_zero
  g_added : G.fn ("", "added") = some Pg.f_added
  g_multiplied : G.fn ("", "multiplied") = some Pg.f_multiplied
  g_part_of : G.fn ("", "part_of") = some Pg.f_part_of
  g_in_order : G.fn ("", "in_order") = some Pg.f_in_order
  g_line : G.fn ("", "line") = some Pg.f_line
  pp_init : G.fn ("PowerProduct", "__init__") = some Pg.PowerProduct___init__
  pp_len : G.fn ("PowerProduct", "__len__") = some Pg.PowerProduct___len__
  pp_eq : G.fn ("PowerProduct", "__eq__") = some Pg.PowerProduct___eq__
  pp_mul : G.fn ("PowerProduct", "__mul__") = some Pg.PowerProduct___mul__
  pp_exponent : G.fn ("PowerProduct", "exponent") = some Pg.PowerProduct_exponent
  pp_surplus : G.fn ("PowerProduct", "surplus") = some Pg.PowerProduct_surplus
  pp_log : G.fn ("PowerProduct", "log_derivative") = some Pg.PowerProduct_log_derivative
  pp_str : G.fn ("PowerProduct", "__str__") = some Pg.PowerProduct___str__
  fpp : G.fld "PowerProduct" = ["pairs"]
  cpp : G.cls "PowerProduct" = true
theorem e_or_t {O : Orc} {G : Gi} {a c : E} {en : Iv.Env} {S S1 : Store} (h : evE O G a en S = some (.bl true, S1)) : evE O G (.or_ a c) en S = some (.bl true, S1) := by rw [evE, h]
theorem e_or_f {O : Orc} {G : Gi} {a c : E} {en : Iv.Env} {S S1 : Store} {r : RE} (h : evE O G a en S = some (.bl false, S1)) (h2 : evE O G c en S1 = r) : evE O G (.or_ a c) en S = r := by rw [evE, h]; exact h2
theorem e_and_t {O : Orc} {G : Gi} {a c : E} {en : Iv.Env} {S S1 : Store} {r : RE} (h : evE O G a en S = some (.bl true, S1)) (h2 : evE O G c en S1 = r) : evE O G (.and_ a c) en S = r := by rw [evE, h]; exact h2
theorem e_and_f {O : Orc} {G : Gi} {a c : E} {en : Iv.Env} {S S1 : Store} (h : evE O G a en S = some (.bl false, S1)) : evE O G (.and_ a c) en S = some (.bl false, S1) := by rw [evE, h]
def cmpR (x y : Rat) : Int := if y < x then 1 else if x < y then -1 else 0
theorem lt_num {x y : Rat} : x < y ↔ x.num * y.den < y.num * x.den := Rat.lt_iff x y
section
variable {G : Gi} (b : BaseP G)
include b
theorem Ratio_compare {x y : Rat} (hx : Sm x) (hy : Sm y) : PF G 1 ("Ratio", "compare") [R x, R y] (.int (cmpR x y)) := by
  refine pf_of b.r_compare rfl rfl fun n S hn => ⟨[], .inl ?_⟩
  rw [List.append_nil]
  have h1 := @lt_num x y
  have h2 := @lt_num y x
  refine b_nx (en' := [some (R x), some (R y), some (.int (x.num * y.den - y.num * x.den))]) (S' := S) (s_asg ?_) (b_rt (s_ret ?_))
  · simp [fillD, evE, evEs, fld_n b.toBase, fld_d b.toBase, binD, intOp, mok hx.n hy.d, mok hy.n hx.d]
  · simp only [evE, evEs, bltD, binD, intOp, List.getElem?_cons_zero, List.getElem?_cons_succ]
    unfold cmpR
    by_cases c1 : y < x
    · have g := h2.mp c1
      have a1 : decide (0 < x.num * (y.den : Int) - y.num * x.den) = true := decide_eq_true (by omega)
      have a2 : decide (x.num * (y.den : Int) - y.num * x.den < 0) = false := decide_eq_false (by omega)
      simp only [a1, a2, c1]; simp [intOp]
    · by_cases c2 : x < y
      · have g := h1.mp c2
        have a1 : decide (0 < x.num * (y.den : Int) - y.num * x.den) = false := decide_eq_false (by omega)
        have a2 : decide (x.num * (y.den : Int) - y.num * x.den < 0) = true := decide_eq_true (by omega)
        simp only [a1, a2, c1, c2]; simp [intOp]
      · have g1 : ¬ _ := fun g => c1 (h2.mpr g)
        have g2 : ¬ _ := fun g => c2 (h1.mpr g)
        have a1 : decide (0 < x.num * (y.den : Int) - y.num * x.den) = false := decide_eq_false (by omega)
        have a2 : decide (x.num * (y.den : Int) - y.num * x.den < 0) = false := decide_eq_false (by omega)
        simp only [a1, a2, c1, c2]; simp [intOp]
theorem Ratio_floor {x : Rat} (hx : Sm x) : PF G 1 ("Ratio", "floor") [R x] (.int x.floor) := by
  refine pf_ret b.r_floor rfl rfl rfl fun n S hn => ?_
  have e : x.num.fdiv x.den = x.floor := by
    rw [Int.fdiv_eq_ediv, if_pos (.inl (by omega)), Rat.floor_def]; omega
  simp [Pg.Ratio_floor, fillD, evE, evEs, fld_n b.toBase, fld_d b.toBase, binD, intOp, div_ok (up hx.d (by decide)) (den_ne x), e]
theorem f_zero : PF G 3 ("", "zero") [] (R 0) := by
  refine pf_ret b.g_zero rfl rfl rfl fun n S hn => ?_
  simpa [Pg.f_zero, fillD, evE, evEs] using mk_Ratio1 b.toBase (n := 0) hn S
/-- a rational less its floor -/
def part (e : Rat) : Rat := e - (e.floor : Rat)
omit b in
theorem Sm_int {k : Int} (h : k.natAbs < 2 ^ big) : Sm (k : Rat) := ⟨by simpa using h, by simp⟩
theorem f_part_of {x : Rat} (hx : Sm x) (hf : x.floor.natAbs < 2 ^ big) : PF G 4 ("", "part_of") [R x] (R (part x)) := by
  refine pf_ret b.g_part_of rfl rfl rfl fun n S hn => ?_
  have h1 := (Ratio_floor b hx).low (n := n) (j := 0) (by omega) (S := S)
  have h2 := mk_Ratio1 b.toBase (n := x.floor) (m := n) (by omega) S
  have h3 := (Ratio_sub b.toBase hx (Sm_int hf)).low (n := n) (j := 0) (by omega) (S := S)
  unfold part
  generalize (x.floor : Rat) = f at h2 h3 ⊢
  generalize x - f = d at h3 ⊢
  simp only [R] at h1 h2 h3
  simp [Pg.f_part_of, fillD, evE, evEs, R, h1, h2, binD, Bop.dun, h3]
theorem f_line {s : Rat} (hs : Sm s) : PF G 5 ("", "line") [R s] (P (Pl.X - Pl.C s)) := by
  refine pf_ret b.g_line rfl rfl (pur_P _) fun n S hn => ?_
  have h1 := (Ratio_neg b.toBase hs).low (n := n) (j := 0) (by omega) (S := S)
  have h2 := mk_Ratio1 b.toBase (n := 1) (m := n) (by omega) S
  have h3 := mk_PolyR b.toBase (l := [-s, 1]) (row := .tup [R (-s), R 1]) (by simp) (.inr rfl) (m := n) (by omega) S
  have e : Pl.mk [-s, 1] = Pl.X - Pl.C s := Pl.ext fun x => by rw [Pl.val_sub, Pl.val_X, Pl.val_C, Pl.val_mk]; simp only [ev]; grind
  rw [e] at h3
  generalize -s = t at h1 h3
  simp only [R] at h1 h2 h3
  simp at h2 h3
  simp [Pg.f_line, fillD, evE, evEs, R, h1, h2, clen, h3]
end
/-! ### in_order -/
def insR (s : Rat) : List Rat → List Rat
  | [] => [s]
  | t :: l => if t < s then t :: insR s l else if t = s then t :: l else s :: t :: l
/-- how many stand ahead -/
def ahead (s : Rat) : List Rat → Nat
  | [] => 0
  | t :: l => if t < s then ahead s l + 1 else 0
theorem ahead_le (s : Rat) : ∀ l, ahead s l ≤ l.length
  | [] => Nat.le_refl _
  | t :: l => by have := ahead_le s l; unfold ahead; split <;> simp <;> omega
theorem insR_of (s : Rat) : ∀ l : List Rat, insR s l = if l[ahead s l]? = some s then l else l.take (ahead s l) ++ [s] ++ l.drop (ahead s l)
  | [] => by simp [insR, ahead]
  | t :: l => by
    have ih := insR_of s l
    unfold insR ahead
    by_cases h : t < s
    · rw [if_pos h, if_pos h, ih]
      split <;> simp_all
    · rw [if_neg h, if_neg h]
      simp
theorem cmpR_lt {x y : Rat} : cmpR x y < 0 ↔ x < y := by
  unfold cmpR
  by_cases h : y < x
  · rw [if_pos h]; constructor <;> intro g <;> grind
  · rw [if_neg h]
    by_cases k : x < y <;> simp [k]
theorem hard_R (q : Rat) : hard (R q) = true := rfl
section
variable {G : Gi} (b : BaseP G)
include b
theorem order_while {O : Nat} (hO : 1 ≤ O) {s : Rat} {s0 : Option DV} (hs : Sm s) {S : Store} : ∀ (suf pre : List Rat), SmL suf →
    whileL (evE (orc G O) G (.and_ (.cmp .lt (.var 3) (.blt .len (.cons (.var 1) .nil))) (.cmp .lt (.mth (.ix (.var 1) (.var 3)) "Ratio" "compare" (.cons (.var 2) .nil)) (.cint 0)))) (evB (orc G O) G (.cons (.aug 3 .add (.cint 1)) .nil)) [s0, some (.frl ((pre ++ suf).map R)), some (R s), some (.int pre.length)] S =
      some (.nx [s0, some (.frl ((pre ++ suf).map R)), some (R s), some (.int ((pre.length + ahead s suf : Nat)))] S)
  | [], pre, h => by
    refine while_done (S1 := S) ?_
    simp [evE, evEs, bltD, lenD]
  | t :: suf, pre, h => by
    have hc := (Ratio_compare b (h t (.head _)) hs).low (n := O) (j := 0) (by omega) (S := S)
    have hix : ixD (.frl ((pre ++ t :: suf).map R)) (.int pre.length) S = some (R t) := by
      simp [ixD, idx_nat (show pre.length < pre.length + (suf.length + 1) by omega)]
    have hl : ((pre.length : Int) < ((pre ++ t :: suf).map R).length) := by simp; omega
    have hcond : evE (orc G O) G (.and_ (.cmp .lt (.var 3) (.blt .len (.cons (.var 1) .nil))) (.cmp .lt (.mth (.ix (.var 1) (.var 3)) "Ratio" "compare" (.cons (.var 2) .nil)) (.cint 0))) [s0, some (.frl ((pre ++ t :: suf).map R)), some (R s), some (.int pre.length)] S = some (.bl (decide (t < s)), S) := by
      have e : decide (t < s) = decide (cmpR t s < 0) := by congr 1; exact propext cmpR_lt.symm
      have hl2 : decide ((pre.length : Int) < ((pre ++ t :: suf).map R).length) = true := decide_eq_true hl
      rw [e]
      simp only [R] at hc
      simp only [evE, evEs, bltD, lenD, List.getElem?_cons_zero, List.getElem?_cons_succ, hl2, hix]
      simp [R, hc]
    by_cases hts : t < s
    · rw [decide_eq_true hts] at hcond
      have ih := order_while hO (s0 := s0) hs (S := S) suf (pre ++ [t]) (fun c hc => h c (.tail _ hc))
      refine while_next (S1 := S) (S' := S) (en' := [s0, some (.frl ((pre ++ t :: suf).map R)), some (R s), some (.int (pre.length + 1))]) hcond ?_ ?_
      · simp [evB, evS, evE]
      · simp only [List.append_assoc, List.cons_append, List.nil_append, List.length_append, List.length_cons, List.length_nil] at ih
        have e2 : ahead s (t :: suf) = ahead s suf + 1 := by rw [ahead, if_pos hts]
        rw [e2, show pre.length + (ahead s suf + 1) = pre.length + (0 + 1) + ahead s suf by omega]
        exact_mod_cast ih
    · rw [decide_eq_false hts] at hcond
      have e2 : ahead s (t :: suf) = 0 := by rw [ahead, if_neg hts]
      rw [e2]
      exact while_done hcond
theorem SmL_insR {s : Rat} (hs : Sm s) : ∀ {l : List Rat}, SmL l → SmL (insR s l)
  | [], h => fun c hc => by rw [List.mem_singleton.mp hc]; exact hs
  | t :: l, h => by
    unfold insR
    have ih := SmL_insR hs (l := l) fun c hc => h c (.tail _ hc)
    split
    · intro c hc
      rcases List.mem_cons.mp hc with rfl | hc
      · exact h _ (.head _)
      · exact ih c hc
    · split
      · exact h
      · intro c hc
        rcases List.mem_cons.mp hc with rfl | hc
        · exact hs
        · exact h c hc
omit b in
theorem insR_len (s : Rat) : ∀ l : List Rat, (insR s l).length ≤ l.length + 1
  | [] => by simp [insR]
  | t :: l => by have := insR_len s l; unfold insR; (split; · simp; omega); (split <;> simp)
def inO (found : List Rat) (xs : List Rat) : List Rat := xs.foldl (fun l s => insR s l) found
theorem order_for {O : Nat} (hO : 2 ≤ O) {s0 : Option DV} {S : Store} : ∀ (xs found : List Rat) (s2 s3 : Option DV), SmL xs → SmL found → found.length + xs.length ≤ 1000000 → ∃ t2 t3,
    forL (.one 2) (evB (orc G O) G (.cons (.asg 3 (.cint 0))
 (.cons (.while_ (.and_ (.cmp .lt (.var 3) (.blt .len (.cons (.var 1) .nil))) (.cmp .lt (.mth (.ix (.var 1) (.var 3)) "Ratio" "compare" (.cons (.var 2) .nil)) (.cint 0)))
 (.cons (.aug 3 .add (.cint 1))
 .nil))
 (.cons (.if_ (.or_ (.cmp .eq (.var 3) (.blt .len (.cons (.var 1) .nil))) (.cmp .ne (.ix (.var 1) (.var 3)) (.var 2)))
 (.cons (.asg 1 (.bin .add (.bin .add (.slTo (.var 1) (.var 3)) (.lst (.cons (.var 2) .nil))) (.slFrom (.var 1) (.var 3))))
 .nil)
 .nil)
 .nil)))) none (xs.map R) [s0, some (.frl (found.map R)), s2, s3] S = some (.nx [s0, some (.frl ((inO found xs).map R)), t2, t3] S)
  | [], found, s2, s3, h, hf, hz => ⟨s2, s3, for_nil⟩
  | s :: xs, found, s2, s3, h, hf, hz => by
    have hs := h s (.head _)
    obtain ⟨t2, t3, ih⟩ := order_for hO (s0 := s0) (S := S) xs (insR s found) (some (R s)) (some (.int (ahead s found : Nat))) (fun c hc => h c (.tail _ hc)) (SmL_insR b hs hf) (by have := insR_len s found; simp at hz; omega)
    refine ⟨t2, t3, for_next (en1 := [s0, some (.frl (found.map R)), some (R s), s3]) rfl ?_ ih⟩
    have w := order_while b (O := O) (by omega) (s0 := s0) hs (S := S) found [] hf
    have ha := ahead_le s found
    refine b_nx (en' := [s0, some (.frl (found.map R)), some (R s), some (.int 0)]) (S' := S) (s_asg (by rw [evE])) (b_nx (en' := [s0, some (.frl (found.map R)), some (R s), some (.int (ahead s found : Nat))]) (S' := S) (s_while ?_) (b_nx (en' := [s0, some (.frl ((insR s found).map R)), some (R s), some (.int (ahead s found : Nat))]) (S' := S) ?_ (by rw [evB])))
    · simpa using w
    · have happ : evB (orc G O) G (.cons (.asg 1 (.bin .add (.bin .add (.slTo (.var 1) (.var 3)) (.lst (.cons (.var 2) .nil))) (.slFrom (.var 1) (.var 3)))) .nil) [s0, some (.frl (found.map R)), some (R s), some (.int (ahead s found : Nat))] S = some (.nx [s0, some (.frl ((found.take (ahead s found) ++ [s] ++ found.drop (ahead s found)).map R)), some (R s), some (.int (ahead s found : Nat))] S) := by
        have k1 : min (ahead s found) found.length + 1 ≤ 16777216 := by simp at hz; omega
        have k2 : min (ahead s found) found.length + 1 + (found.length - ahead s found) ≤ 16777216 := by simp at hz; omega
        simp [evB, evS, evE, evEs, slD, slTo_nat, slFrom_nat, clen, binD, k1, k2, List.map_take, List.map_drop]
      rw [insR_of]
      by_cases he : ahead s found = found.length
      · have hg : found[ahead s found]? ≠ some s := by rw [he]; simp
        rw [if_neg hg]
        refine s_true (S1 := S) ?_ happ
        simp [evE, evEs, bltD, lenD, eqD, he]
      · have hlt : ahead s found < found.length := by omega
        have hq := (Ratio_eq b.toBase found[ahead s found] s).low (n := O) (j := 1) (by omega) (S := S)
        have hix : ixD (.frl (found.map R)) (.int (ahead s found)) S = some (R found[ahead s found]) := by
          simp [ixD, idx_nat hlt, hlt]
        have hne : ((ahead s found : Int) == (found.length : Int)) = false := by simp; omega
        have hc : evE (orc G O) G (.or_ (.cmp .eq (.var 3) (.blt .len (.cons (.var 1) .nil))) (.cmp .ne (.ix (.var 1) (.var 3)) (.var 2))) [s0, some (.frl (found.map R)), some (R s), some (.int (ahead s found : Nat))] S = some (.bl (!decide (found[ahead s found] = s)), S) := by
          have hd : evE (orc G O) G (.cmp .ne (.ix (.var 1) (.var 3)) (.var 2)) [s0, some (.frl (found.map R)), some (R s), some (.int (ahead s found : Nat))] S = some (.bl (!decide (found[ahead s found] = s)), S) := by
            generalize hg : found[ahead s found] = t at hix hq
            simp only [R] at hq
            simp only [evE, List.getElem?_cons_zero, List.getElem?_cons_succ, hix]
            simp [R, eqD, eqR, hq]
          refine e_or_f (S1 := S) ?_ hd
          simp [evE, evEs, bltD, lenD, eqD, hne]
        by_cases hg : found[ahead s found] = s
        · rw [decide_eq_true hg] at hc
          rw [if_pos (by rw [List.getElem?_eq_getElem hlt, hg])]
          exact s_false (S1 := S) hc (by rw [evB])
        · rw [decide_eq_false hg] at hc
          rw [if_neg (by rw [List.getElem?_eq_getElem hlt]; simpa using hg)]
          exact s_true (S1 := S) hc happ
theorem f_in_order {xs : List Rat} (h : SmL xs) (hz : xs.length ≤ 1000000) : PF G 3 ("", "in_order") [.frl (xs.map R)] (.frl ((inO [] xs).map R)) := by
  refine pf_of b.g_in_order rfl (by simp [pur, cloD, cloL_R]) fun n S hn => ⟨[], .inl ?_⟩
  rw [List.append_nil]
  obtain ⟨t2, t3, w⟩ := order_for b hn (s0 := some (.frl (xs.map R))) (S := S) xs [] none none h (fun c hc => by cases hc) (by simpa using hz)
  refine b_nx (en' := [some (.frl (xs.map R)), some (.frl []), none, none]) (S' := S) (s_asg (by simp [evE, evEs, clen])) (b_nx (s_for (S1 := S) (ds := xs.map R) ?_ w) (b_rt (s_ret (by simp [evE]))))
  simp [evIt, evE, seqOf]
end
end Ev

set_option linter.all false
set_option maxRecDepth 100000
set_option exponentiation.threshold 500000
/-! EvO: PowerProduct.__init__. -/
namespace Ev
open Iv Mq
def enc2 (x : Rat × Rat) : DV := .tup [R x.1, R x.2]
theorem cloL_2 (n : Nat) : ∀ l : List (Rat × Rat), cloL n (l.map enc2) = true
  | [] => rfl
  | x :: l => by simp [cloL, enc2, cloD, R, cloL_2 n l]
/-- the sum of the exponents at p, on t -/
def totF (p : Rat) (fs : List (Rat × Rat)) (t : Rat) : Rat := fs.foldl (fun t x => if x.1 = p then t + x.2 else t) t
def keep (fs : List (Rat × Rat)) (p : Rat) : Option (Rat × Rat) := if part (totF p fs 0) = 0 then none else some (p, part (totF p fs 0))
/-- the factors of a power product -/
def PPf (fs : List (Rat × Rat)) : List (Rat × Rat) := (inO [] (fs.map (·.1))).filterMap (keep fs)
def PD (l : List (Rat × Rat)) : DV := .obj "PowerProduct" [.tup (l.map enc2)]
theorem pur_PD (l : List (Rat × Rat)) : pur (PD l) = true := by simp [pur, PD, cloD, cloL, cloL_2]
theorem floor_le {D N : Nat} {q : Rat} (h : Sz D N q) : q.floor.natAbs ≤ N := by
  rw [Rat.floor_def]
  exact Nat.le_trans (Int.natAbs_ediv_le_natAbs _ _) h.le.1
structure FS (D N : Nat) (fs : List (Rat × Rat)) : Prop where
  pos : 0 < D
  pt : ∀ x ∈ fs, Sm x.1
  ex : ∀ x ∈ fs, Sz D N x.2
  d : D < 2 ^ big
  n : N * (fs.length + 1) < 2 ^ big
  z : fs.length ≤ 1000000
theorem totF_sz {D N : Nat} {p : Rat} : ∀ (fs : List (Rat × Rat)) (t : Rat) (B : Nat), (∀ x ∈ fs, Sz D N x.2) → Sz D B t → Sz D (B + N * fs.length) (totF p fs t)
  | [], t, B, h, k => k
  | x :: fs, t, B, h, k => by
    unfold totF
    rw [List.foldl_cons]
    have hx := h x (.head _)
    have hr := fun y hy => h y (.tail _ hy)
    by_cases e : x.1 = p
    · rw [if_pos e]
      have := totF_sz (p := p) fs (t + x.2) (B + N) hr (k.add hx)
      refine this.mono ?_
      rw [List.length_cons, Nat.mul_add]; omega
    · rw [if_neg e]
      have := totF_sz (p := p) fs t B hr k
      refine this.mono ?_
      rw [List.length_cons, Nat.mul_add]; omega
def ppInner : Ss := (.cons (.if_ (.cmp .eq (.var 6) (.var 4))
 (.cons (.asg 5 (.bin .add (.var 5) (.var 7)))
 .nil)
 .nil)
 .nil)
def ppOuter : Ss := (.cons (.asg 5 (.mk "Ratio" (.cons (.cint 0) .nil)))
 (.cons (.for_ (.many [6, 7]) (.seq (.var 1)) ppInner)
 (.cons (.if_ (.not_ (.mth (.call "part_of" (.cons (.var 5) .nil)) "Ratio" "is_zero" .nil))
 (.cons (.app 3 (.tup (.cons (.var 4) (.cons (.call "part_of" (.cons (.var 5) .nil)) .nil))))
 .nil)
 .nil)
 .nil)))
theorem gc_last2 {S : Store} {c0 c : Cell} {T : Store} (h : cloC (S.length + 1) c = true) : gc (S ++ [c0]) (S ++ c :: T) .non = (.non, S ++ [c]) := by
  unfold gc
  have e : (S ++ [c0]).length = S.length + 1 := by simp
  have ok : ∀ S : Store, ∀ n, cloC n c = true → okG n (S ++ [c0]) (S ++ c :: T) := by
    intro S n h
    induction S with
    | nil => exact ⟨.inr h, by unfold okG; trivial⟩
    | cons x S ih => exact ⟨.inl rfl, ih⟩
  rw [if_pos (by rw [e]; exact ok S _ h), if_pos (show pur .non = true from rfl), e]
  have : S ++ c :: T = (S ++ [c]) ++ T := by simp
  rw [this, List.take_left' (by simp)]
section
variable {G : Gi} (b : BaseP G)
include b
theorem pp_inner {O : Nat} (hO : 3 ≤ O) {D N : Nat} {p : Rat} {s0 s1 s2 s3 s8 : Option DV} {S : Store} (hD : D < 2 ^ big) (hp : Sm p) : ∀ (fs : List (Rat × Rat)) (t : Rat) (B : Nat) (s6 s7 : Option DV), (∀ x ∈ fs, Sm x.1) → (∀ x ∈ fs, Sz D N x.2) → Sz D B t → B + N * (fs.length + 1) < 2 ^ big → ∃ t6 t7,
    forL (.many [6, 7]) (evB (orc G O) G ppInner) none (fs.map enc2) [s0, s1, s2, s3, some (R p), some (R t), s6, s7, s8] S = some (.nx [s0, s1, s2, s3, some (R p), some (R (totF p fs t)), t6, t7, s8] S)
  | [], t, B, s6, s7, h1, h2, ht, hB => ⟨s6, s7, for_nil⟩
  | x :: fs, t, B, s6, s7, h1, h2, ht, hB => by
    have hx := h2 x (.head _)
    have hr1 := fun y hy => h1 y (.tail _ hy)
    have hr2 := fun y hy => h2 y (.tail _ hy)
    have hl : N * ((x :: fs).length + 1) = N + N * (fs.length + 1) := by rw [List.length_cons, Nat.mul_add N (fs.length + 1) 1]; omega
    have hm : N ≤ N * (fs.length + 1) := Nat.le_mul_of_pos_right _ (by omega)
    have hq := (Ratio_eq b.toBase x.1 p).low (n := O) (j := 0) (by omega) (S := S)
    have hc : evE (orc G O) G (.cmp .eq (.var 6) (.var 4)) [s0, s1, s2, s3, some (R p), some (R t), some (R x.1), some (R x.2), s8] S = some (.bl (decide (x.1 = p)), S) := by
      generalize x.1 = a at hq ⊢
      simp only [R] at hq
      simp [evE, R, eqD, eqR, hq]
    have hb : bindT (.many [6, 7]) (enc2 x) [s0, s1, s2, s3, some (R p), some (R t), s6, s7, s8] = some [s0, s1, s2, s3, some (R p), some (R t), some (R x.1), some (R x.2), s8] := rfl
    have e0 : totF p (x :: fs) t = totF p fs (if x.1 = p then t + x.2 else t) := rfl
    by_cases e : x.1 = p
    · have ha := (Ratio_add b.toBase (ht.sm hD (by omega)) (hx.sm hD (by omega))).low (n := O) (j := 0) (by omega) (S := S)
      obtain ⟨t6, t7, ih⟩ := pp_inner hO (s0 := s0) (s1 := s1) (s2 := s2) (s3 := s3) (s8 := s8) (S := S) hD hp fs (t + x.2) (B + N) (some (R x.1)) (some (R x.2)) hr1 hr2 (ht.add hx) (by omega)
      rw [e0, if_pos e]
      rw [decide_eq_true e] at hc
      refine ⟨t6, t7, for_next hb (b_nx (en' := [s0, s1, s2, s3, some (R p), some (R (t + x.2)), some (R x.1), some (R x.2), s8]) (S' := S) (s_true (S1 := S) hc ?_) (by rw [evB])) ih⟩
      generalize t + x.2 = u at ha
      generalize x.2 = v at ha
      simp only [R] at ha
      simp [evB, evS, evE, R, binD, Bop.dun, ha]
    · obtain ⟨t6, t7, ih⟩ := pp_inner hO (s0 := s0) (s1 := s1) (s2 := s2) (s3 := s3) (s8 := s8) (S := S) hD hp fs t B (some (R x.1)) (some (R x.2)) hr1 hr2 ht (by omega)
      rw [e0, if_neg e]
      rw [decide_eq_false e] at hc
      exact ⟨t6, t7, for_next hb (b_nx (en' := [s0, s1, s2, s3, some (R p), some (R t), some (R x.1), some (R x.2), s8]) (S' := S) (s_false (S1 := S) hc (by rw [evB])) (by rw [evB])) ih⟩
theorem pp_outer {O : Nat} (hO : 4 ≤ O) {D N : Nat} {fs : List (Rat × Rat)} {row : DV} (hr : row = .frl (fs.map enc2) ∨ row = .tup (fs.map enc2)) {s0 s2 s8 : Option DV} (S : Store) {c : Cell} (F : FS D N fs) : ∀ (ps : List Rat) (acc : List (Rat × Rat)) (s4 s5 s6 s7 : Option DV), SmL ps → acc.length + ps.length ≤ 1000000 → ∃ t4 t5 t6 t7,
    forL (.one 4) (evB (orc G O) G ppOuter) none (ps.map R) [s0, some row, s2, some (.ref (S.length + 1)), s4, s5, s6, s7, s8] (S ++ [c, .lst (acc.map enc2)]) = some (.nx [s0, some row, s2, some (.ref (S.length + 1)), t4, t5, t6, t7, s8] (S ++ [c, .lst ((acc ++ ps.filterMap (keep fs)).map enc2)]))
  | [], acc, s4, s5, s6, s7, hp, hz => ⟨s4, s5, s6, s7, by rw [List.filterMap_nil, List.append_nil]; exact for_nil⟩
  | p :: ps, acc, s4, s5, s6, s7, hp, hz => by
    let T : Store := S ++ [c, .lst (acc.map enc2)]
    have hp0 := hp p (.head _)
    have hz0 := Sz.zero (N := 0) F.pos
    have hN := F.n
    have ht := totF_sz (p := p) fs 0 0 F.ex hz0
    have hNl : N * fs.length ≤ N * (fs.length + 1) := Nat.mul_le_mul_left _ (by omega)
    have hsm : Sm (totF p fs 0) := ht.sm F.d (by omega)
    have hfl := floor_le ht
    obtain ⟨t6, t7, hin⟩ := pp_inner b (O := O) (by omega) (s0 := s0) (s1 := some row) (s2 := s2) (s3 := some (.ref (S.length + 1))) (s8 := s8) (S := T) F.d hp0 fs 0 0 s6 s7 F.pt F.ex hz0 (by omega)
    have hz1 := mk_Ratio1 b.toBase (n := 0) (m := O) (by omega) T
    have hpo := (f_part_of b hsm (by omega)).low (n := O) (j := 0) (by omega) (S := T)
    have hiz := (Ratio_is_zero b.toBase (part (totF p fs 0))).low (n := O) (j := 0) (by omega) (S := T)
    have hseq : ∀ en : Iv.Env, en[1]? = some (some row) → evIt (orc G O) G (.seq (.var 1)) en T = some (none, fs.map enc2, T) := fun en he => by
      rcases hr with rfl | rfl <;> simp [evIt, evE, he, seqOf]
    have hcond : evE (orc G O) G (.not_ (.mth (.call "part_of" (.cons (.var 5) .nil)) "Ratio" "is_zero" .nil)) [s0, some row, s2, some (.ref (S.length + 1)), some (R p), some (R (totF p fs 0)), t6, t7, s8] T = some (.bl (!decide (part (totF p fs 0) = 0)), T) := by
      generalize totF p fs 0 = t at hpo hiz ⊢
      generalize part t = w at hpo hiz ⊢
      simp only [R] at hpo hiz
      simp [evE, evEs, R, hpo, hiz]
    have hk : keep fs p = if part (totF p fs 0) = 0 then none else some (p, part (totF p fs 0)) := rfl
    by_cases e : part (totF p fs 0) = 0
    · rw [decide_eq_true e] at hcond
      rw [if_pos e] at hk
      obtain ⟨u4, u5, u6, u7, ih⟩ := pp_outer hO hr (s0 := s0) (s2 := s2) (s8 := s8) S (c := c) F ps acc (some (R p)) (some (R (totF p fs 0))) t6 t7 (fun c hc => hp c (.tail _ hc)) (by simp at hz; omega)
      rw [List.filterMap_cons, hk]
      refine ⟨u4, u5, u6, u7, for_next (en1 := [s0, some row, s2, some (.ref (S.length + 1)), some (R p), s5, s6, s7, s8]) rfl ?_ ih⟩
      refine b_nx (en' := [s0, some row, s2, some (.ref (S.length + 1)), some (R p), some (R 0), s6, s7, s8]) (S' := T) (s_asg ?_) (b_nx (en' := [s0, some row, s2, some (.ref (S.length + 1)), some (R p), some (R (totF p fs 0)), t6, t7, s8]) (S' := T) (s_for (S1 := T) (hseq _ rfl) hin) (b_nx (en' := [s0, some row, s2, some (.ref (S.length + 1)), some (R p), some (R (totF p fs 0)), t6, t7, s8]) (S' := T) (s_false (S1 := T) hcond (by rw [evB])) (by rw [evB])))
      simpa [evE, evEs] using hz1
    · rw [decide_eq_false e] at hcond
      rw [if_neg e] at hk
      obtain ⟨u4, u5, u6, u7, ih⟩ := pp_outer hO hr (s0 := s0) (s2 := s2) (s8 := s8) S (c := c) F ps (acc ++ [(p, part (totF p fs 0))]) (some (R p)) (some (R (totF p fs 0))) t6 t7 (fun c hc => hp c (.tail _ hc)) (by simp at hz ⊢; omega)
      rw [List.filterMap_cons, hk]
      rw [List.append_assoc, List.singleton_append] at ih
      refine ⟨u4, u5, u6, u7, for_next (en1 := [s0, some row, s2, some (.ref (S.length + 1)), some (R p), s5, s6, s7, s8]) rfl ?_ ih⟩
      refine b_nx (en' := [s0, some row, s2, some (.ref (S.length + 1)), some (R p), some (R 0), s6, s7, s8]) (S' := T) (s_asg ?_) (b_nx (en' := [s0, some row, s2, some (.ref (S.length + 1)), some (R p), some (R (totF p fs 0)), t6, t7, s8]) (S' := T) (s_for (S1 := T) (hseq _ rfl) hin) (b_nx (en' := [s0, some row, s2, some (.ref (S.length + 1)), some (R p), some (R (totF p fs 0)), t6, t7, s8]) (S' := S ++ [c, .lst ((acc ++ [(p, part (totF p fs 0))]).map enc2)]) (s_true (S1 := T) hcond ?_) (by rw [evB])))
      · simpa [evE, evEs] using hz1
      · have g1 : T[S.length + 1]? = some (.lst (acc.map enc2)) := by
          show (S ++ [c, .lst (acc.map enc2)])[S.length + 1]? = _
          rw [List.getElem?_append_right (by omega)]; simp
        have g2 : ∀ x, T.set (S.length + 1) x = S ++ [c, x] := fun x => by
          show (S ++ [c, .lst (acc.map enc2)]).set (S.length + 1) x = _
          rw [List.set_append_right _ _ (by omega)]; simp
        have g3 : acc.length < 16777216 := by simp at hz; omega
        generalize totF p fs 0 = t at hpo ⊢
        generalize part t = w at hpo ⊢
        simp only [R] at hpo
        simp [evB, evS, evE, evEs, R, hpo, g1, g2, g3, clen, enc2]
end
end Ev

set_option linter.all false
set_option maxRecDepth 100000
set_option exponentiation.threshold 500000
/-! EvP: PowerProduct: init, len, ==, *, exponent. -/
namespace Ev
open Iv Mq
theorem inO_len : ∀ (xs found : List Rat), (inO found xs).length ≤ found.length + xs.length
  | [], found => Nat.le_refl _
  | s :: xs, found => by
    have h1 := inO_len xs (insR s found)
    have h2 := insR_len s found
    unfold inO at *
    rw [List.foldl_cons, List.length_cons]; omega
theorem SmL_inO : ∀ {xs found : List Rat}, SmL xs → SmL found → SmL (inO found xs)
  | [], found, h, k => k
  | s :: xs, found, h, k => SmL_inO (xs := xs) (found := insR s found) (fun c hc => h c (.tail _ hc)) (by
    have hs := h s (.head _)
    clear h
    induction found with
    | nil => intro c hc; rw [List.mem_singleton.mp hc]; exact hs
    | cons t l ih =>
      have ih := ih fun c hc => k c (.tail _ hc)
      unfold insR
      split
      · intro c hc
        rcases List.mem_cons.mp hc with rfl | hc
        · exact k _ (.head _)
        · exact ih c hc
      · split
        · exact k
        · intro c hc
          rcases List.mem_cons.mp hc with rfl | hc
          · exact hs
          · exact k c hc)
theorem PPf_len (fs : List (Rat × Rat)) : (PPf fs).length ≤ fs.length := by
  unfold PPf
  have h1 := inO_len (fs.map (·.1)) []
  have h2 := List.length_filterMap_le (keep fs) (inO [] (fs.map (·.1)))
  simp at h1; omega
def expo (s : Rat) : List (Rat × Rat) → Rat
  | [] => 0
  | x :: l => if x.1 = s then x.2 else expo s l
theorem enc2_inj {x y : Rat × Rat} (h : enc2 x = enc2 y) : x = y := by
  unfold enc2 R at h
  simp at h
  obtain ⟨⟨h1, h2⟩, h3, h4⟩ := h
  exact Prod.ext (Rat.ext h1 (by omega)) (Rat.ext h3 (by omega))
theorem for_ret {t : Tg} {b : Iv.Env → Store → Option Out} {d : DV} {ds : List DV} {en en1 : Iv.Env} {S S' : Store} {r : DV} (h1 : bindT t d en = some en1) (h2 : b en1 S = some (.rt r S')) : forL t b none (d :: ds) en S = some (.rt r S') := by
  rw [forL, if_pos (show gOk none S from trivial), h1]
  dsimp only
  rw [h2]
theorem hard_2 (x : Rat × Rat) : hard (enc2 x) = true := rfl
theorem eqL_2 {O : Orc} {d : Nat} (hd : d < 100) (hO : ∀ (x y : Rat) S, O.call (d + 1) ("Ratio", "__eq__") [R x, R y] S = some (.bl (decide (x = y)), S)) (S : Store) : ∀ ps qs : List (Rat × Rat), eqL O d (ps.map enc2) (qs.map enc2) S = some (decide (ps = qs))
  | [], [] => by simp [eqL]
  | [], _ :: _ => by simp [eqL]
  | _ :: _, [] => by simp [eqL]
  | p :: ps, q :: qs => by
    have ih := eqL_2 hd hO S ps qs
    have h := eqL_R (O := O) (d := d + 1) hO S [p.1, p.2] [q.1, q.2]
    have e0 : eqD O d (enc2 p) (enc2 q) S = some (decide (p = q)) := by
      unfold enc2
      rw [eqD, if_pos hd]
      refine h.trans ?_
      congr 1
      exact decide_eq_decide.mpr ⟨fun h => by simp at h; exact Prod.ext h.1 h.2, fun h => by rw [h]⟩
    rw [List.map_cons, List.map_cons, eqL, e0]
    by_cases e : p = q
    · subst e
      simp [ih]
    · have hne : ¬ enc2 p = enc2 q := fun h => e (enc2_inj h)
      simp [e, hne, hard_2]
section
variable {G : Gi} (b : BaseP G)
include b
theorem fld_pairs (l : List (Rat × Rat)) (S : Store) : fldD G (PD l) "pairs" S = some (.tup (l.map enc2)) := by
  show ((G.fld "PowerProduct").zip _).lookup "pairs" = _
  rw [b.fpp]; rfl
theorem PP_init {D N : Nat} {fs : List (Rat × Rat)} {row : DV} (hr : row = .frl (fs.map enc2) ∨ row = .tup (fs.map enc2)) (F : FS D N fs) {m : Nat} (hm : 4 ≤ m) (S : Store) :
    (orc G (m + 1)).call 0 ("PowerProduct", "__init__") [.ref S.length, row] (S ++ [.ins "PowerProduct" []]) = some (.non, S ++ [.ins "PowerProduct" [("pairs", .tup ((PPf fs).map enc2))]]) := by
  rw [orc_zero, b.pp_init]
  dsimp only
  unfold evFn
  have e : fillD Pg.PowerProduct___init__ [.ref S.length, row] = [.ref S.length, row] := rfl
  rw [e, if_pos (show [DV.ref S.length, row].length = Pg.PowerProduct___init__.np from rfl)]
  have henv : List.map some [DV.ref S.length, row] ++ List.replicate (Pg.PowerProduct___init__.nm.length - Pg.PowerProduct___init__.np) none = [some (.ref S.length), some row, none, none, none, none, none, none, none] := rfl
  rw [henv]
  have hz := F.z
  have hfst : SmL (fs.map (·.1)) := fun c hc => by
    obtain ⟨x, hx, rfl⟩ := List.mem_map.mp hc
    exact F.pt x hx
  have hpl := inO_len (fs.map (·.1)) []
  have hseq : evIt (orc G m) G (.seq (.var 1)) [some (.ref S.length), some row, none, none, none, none, none, none, none] (S ++ [.ins "PowerProduct" []]) = some (none, fs.map enc2, S ++ [.ins "PowerProduct" []]) := by
    rcases hr with rfl | rfl <;> simp [evIt, evE, seqOf]
  have hlc := ev_lc (O := orc G m) (G := G) (t := .many [6, 8]) (el := .var 6) (enc := enc2) (f := fun x => R x.1) hseq (by omega) fun x hx => ⟨[some (.ref S.length), some row, none, none, none, none, some (R x.1), none, some (R x.2)], rfl, fun S => by simp [evE]⟩
  have e2 : fs.map (fun x => R x.1) = (fs.map (·.1)).map R := by rw [List.map_map]; rfl
  rw [e2] at hlc
  have hio := (f_in_order b hfst (by simpa using hz)).low (n := m) (j := 0) (by omega) (S := S ++ [.ins "PowerProduct" []])
  obtain ⟨t4, t5, t6, t7, ho⟩ := pp_outer b (O := m) hm hr (s0 := some (.ref S.length)) (s2 := some (.frl ((inO [] (fs.map (·.1))).map R))) (s8 := none) S (c := .ins "PowerProduct" []) F (inO [] (fs.map (·.1))) [] none none none none (SmL_inO hfst (fun c hc => by cases hc)) (by simp at hpl ⊢; omega)
  have hb : evB (orc G m) G Pg.PowerProduct___init__.body [some (.ref S.length), some row, none, none, none, none, none, none, none] (S ++ [.ins "PowerProduct" []]) =
      some (.nx [some (.ref S.length), some row, some (.frl ((inO [] (fs.map (·.1))).map R)), some (.ref (S.length + 1)), t4, t5, t6, t7, none] (S ++ [.ins "PowerProduct" [("pairs", .tup ((PPf fs).map enc2))], .lst ((PPf fs).map enc2)])) := by
    refine b_nx (en' := [some (.ref S.length), some row, some (.frl ((inO [] (fs.map (·.1))).map R)), none, none, none, none, none, none]) (S' := S ++ [.ins "PowerProduct" []]) (s_asg ?_)
      (b_nx (en' := [some (.ref S.length), some row, some (.frl ((inO [] (fs.map (·.1))).map R)), some (.ref (S.length + 1)), none, none, none, none, none]) (S' := S ++ [.ins "PowerProduct" [], .lst []]) ?_
      (b_nx (s_for (S1 := (S ++ [Cell.ins "PowerProduct" [], Cell.lst (List.map enc2 [])] : Store)) (ds := (inO [] (fs.map (fun x : Rat × Rat => x.1))).map R) (by simp [evIt, evE, seqOf]) ho)
      (b_nx ?_ (by rw [evB]))))
    · rw [evE, evEs, hlc]
      dsimp only
      rw [evEs]
      exact hio
    · simp [evS, evE, evEs, clen]
    · have k1 : (S ++ [Cell.ins "PowerProduct" [], Cell.lst ((PPf fs).map enc2)])[S.length + 1]? = some (.lst ((PPf fs).map enc2)) := by
        rw [List.getElem?_append_right (by omega)]; simp
      have k0 : (S ++ [Cell.ins "PowerProduct" [], Cell.lst ((PPf fs).map enc2)])[S.length]? = some (.ins "PowerProduct" []) := by
        rw [List.getElem?_append_right (by omega)]; simp
      have k2 : ∀ x, (S ++ [Cell.ins "PowerProduct" [], Cell.lst ((PPf fs).map enc2)]).set S.length x = S ++ [x, Cell.lst ((PPf fs).map enc2)] := fun x => by
        rw [List.set_append_right _ _ (by omega)]; simp
      have e3 : [] ++ (inO [] (fs.map (·.1))).filterMap (keep fs) = PPf fs := rfl
      rw [e3]
      simp [evS, evE, evEs, bltD, k0, k1, k2, b.fpp, b.cpp]
  rw [hb]
  exact congrArg some (gc_last2 (by simp [cloC, cloL, cloD, cloL_2]))
theorem mk_PP {D N : Nat} {fs : List (Rat × Rat)} {row : DV} (hr : row = .frl (fs.map enc2) ∨ row = .tup (fs.map enc2)) (F : FS D N fs) {m : Nat} (hm : 6 ≤ m) (S : Store) : makeD (orc G m) G "PowerProduct" [row] S = some (PD (PPf fs), S) := by
  obtain ⟨k, rfl⟩ : ∃ k, m = k + 1 + 1 := ⟨m - 2, by omega⟩
  unfold makeD
  rw [orc_succ, PP_init b hr F (by omega)]
  simp [b.fpp, purL, cloL, cloD, cloL_2, PD]
theorem PP_len {l : List (Rat × Rat)} : PF G 1 ("PowerProduct", "__len__") [PD l] (.int l.length) := by
  refine pf_ret b.pp_len rfl rfl rfl fun n S hn => ?_
  simp [Pg.PowerProduct___len__, fillD, evE, evEs, fld_pairs b, bltD, lenD]
theorem PP_eq (l l' : List (Rat × Rat)) : PF G 4 ("PowerProduct", "__eq__") [PD l, PD l'] (.bl (decide (l = l'))) := by
  refine pf_ret b.pp_eq rfl rfl rfl fun n S hn => ?_
  have h := eqL_2 (O := orc G n) (d := 1) (by decide) (fun x y S => (Ratio_eq b.toBase x y).low (by omega)) S l l'
  have h1 := fld_pairs b l S
  have h2 := fld_pairs b l' S
  simp only [PD] at h1 h2
  simp [Pg.PowerProduct___eq__, fillD, evE, evEs, h1, h2, bltD, isD, PD, eqD, h]
theorem PP_mul {D N : Nat} {l l' : List (Rat × Rat)} (F : FS D N (l ++ l')) : PF G 7 ("PowerProduct", "__mul__") [PD l, PD l'] (PD (PPf (l ++ l'))) := by
  refine pf_ret b.pp_mul rfl rfl (pur_PD _) fun n S hn => ?_
  have h1 := fld_pairs b l S
  have h2 := fld_pairs b l' S
  have hz := F.z
  rw [List.length_append] at hz
  have hm := mk_PP b (row := .tup ((l ++ l').map enc2)) (.inr rfl) F (m := n) hn S
  rw [List.map_append] at hm
  have hz1 : l.length + l'.length ≤ 16777216 := by omega
  simp only [PD] at h1 h2 hm
  simp [Pg.PowerProduct___mul__, fillD, evE, evEs, h1, h2, PD, binD, hz1, hm]
theorem expo_for {O : Nat} (hO : 1 ≤ O) {s : Rat} {s0 : Option DV} {S : Store} : ∀ (l : List (Rat × Rat)) (s2 s3 : Option DV),
    (∃ t2 t3, (∀ x ∈ l, x.1 ≠ s) ∧ forL (.many [2, 3]) (evB (orc G O) G (.cons (.if_ (.cmp .eq (.var 2) (.var 1)) (.cons (.ret (.var 3)) .nil) .nil) .nil)) none (l.map enc2) [s0, some (R s), s2, s3] S = some (.nx [s0, some (R s), t2, t3] S)) ∨
    ((∃ x ∈ l, x.1 = s) ∧ forL (.many [2, 3]) (evB (orc G O) G (.cons (.if_ (.cmp .eq (.var 2) (.var 1)) (.cons (.ret (.var 3)) .nil) .nil) .nil)) none (l.map enc2) [s0, some (R s), s2, s3] S = some (.rt (R (expo s l)) S))
  | [], s2, s3 => .inl ⟨s2, s3, (fun x hx => by cases hx), for_nil⟩
  | x :: l, s2, s3 => by
    have hq := (Ratio_eq b.toBase x.1 s).low (n := O) (j := 0) (by omega) (S := S)
    have hb : bindT (.many [2, 3]) (enc2 x) [s0, some (R s), s2, s3] = some [s0, some (R s), some (R x.1), some (R x.2)] := rfl
    have hc : evE (orc G O) G (.cmp .eq (.var 2) (.var 1)) [s0, some (R s), some (R x.1), some (R x.2)] S = some (.bl (decide (x.1 = s)), S) := by
      generalize x.1 = a at hq ⊢
      simp only [R] at hq
      simp [evE, R, eqD, eqR, hq]
    by_cases e : x.1 = s
    · rw [decide_eq_true e] at hc
      refine .inr ⟨⟨x, .head _, e⟩, ?_⟩
      have hbody : evB (orc G O) G (.cons (.if_ (.cmp .eq (.var 2) (.var 1)) (.cons (.ret (.var 3)) .nil) .nil) .nil) [s0, some (R s), some (R x.1), some (R x.2)] S = some (.rt (R x.2) S) := b_rt (s_true (S1 := S) hc (b_rt (s_ret (by simp [evE]))))
      have e0 : expo s (x :: l) = x.2 := by rw [expo, if_pos e]
      rw [e0]
      exact for_ret hb hbody
    · rw [decide_eq_false e] at hc
      have hbody : evB (orc G O) G (.cons (.if_ (.cmp .eq (.var 2) (.var 1)) (.cons (.ret (.var 3)) .nil) .nil) .nil) [s0, some (R s), some (R x.1), some (R x.2)] S = some (.nx [s0, some (R s), some (R x.1), some (R x.2)] S) := b_nx (s_false (S1 := S) hc (by rw [evB])) (by rw [evB])
      have e0 : expo s (x :: l) = expo s l := by rw [expo, if_neg e]
      rcases expo_for hO l (some (R x.1)) (some (R x.2)) with ⟨t2, t3, h1, h2⟩ | ⟨h1, h2⟩
      · refine .inl ⟨t2, t3, ?_, for_next hb hbody h2⟩
        intro y hy
        rcases List.mem_cons.mp hy with rfl | hy
        · exact e
        · exact h1 y hy
      · rw [e0]
        obtain ⟨y, hy, hy2⟩ := h1
        exact .inr ⟨⟨y, .tail _ hy, hy2⟩, for_next hb hbody h2⟩
theorem PP_exponent (l : List (Rat × Rat)) (s : Rat) : PF G 3 ("PowerProduct", "exponent") [PD l, R s] (R (expo s l)) := by
  refine pf_of b.pp_exponent rfl rfl fun n S hn => ⟨[], .inl ?_⟩
  rw [List.append_nil]
  have hseq : evIt (orc G n) G (.seq (.fld (.var 0) "pairs")) [some (PD l), some (R s), none, none] S = some (none, l.map enc2, S) := by
    simp [evIt, evE, fld_pairs b, seqOf]
  rcases expo_for b (O := n) (by omega) (s := s) (s0 := some (PD l)) (S := S) l none none with ⟨t2, t3, h1, h2⟩ | ⟨h1, h2⟩
  · have e : expo s l = 0 := by
      clear h2 hseq
      induction l with
      | nil => rfl
      | cons x l ih => rw [expo, if_neg (h1 x (.head _)), ih fun y hy => h1 y (.tail _ hy)]
    rw [e]
    have hz := mk_Ratio1 b.toBase (n := 0) (m := n) hn S
    refine b_nx (s_for hseq h2) (b_rt (s_ret ?_))
    simpa [evE, evEs] using hz
  · exact b_rt (s_for hseq h2)
end
end Ev

set_option linter.all false
set_option maxRecDepth 100000
set_option exponentiation.threshold 500000
/-! EvQ: PowerProduct: surplus, log_derivative. -/
namespace Ev
open Iv Mq
theorem lin_PS {s : Rat} (h : Sz 1 3 s) : PS 1 3 (Pl.X - Pl.C s).1 := by
  rw [Pl.lin_list]
  refine ⟨by decide, fun c hc => ?_⟩
  rcases List.mem_cons.mp hc with rfl | hc
  · exact h.neg
  · rw [List.mem_singleton.mp hc]; exact ⟨by decide, 1, by grind, by decide⟩
theorem PS.lin {D N : Nat} {p : Pl} (h : PS D N p.1) {s : Rat} (hs : Sz 1 3 s) : PS D (6 * N) (p * (Pl.X - Pl.C s)).1 := by
  have := PS.mul (lin_PS hs) h
  rw [Pl.lin_list] at this
  have e : (Pl.X - Pl.C s) * p = p * (Pl.X - Pl.C s) := by grind
  rw [e, Nat.one_mul] at this
  have e2 : [-s, 1].length * (3 * N) = 6 * N := by simp; omega
  rw [e2] at this
  exact this
def prodL (a : Pl) : List Rat → Pl
  | [] => a
  | s :: ps => prodL (a * (Pl.X - Pl.C s)) ps
def prodV (x t : Rat) (ps : List Rat) : Rat := ps.foldl (fun t s => t * (x - s)) t
theorem val_prodL (x : Rat) : ∀ (ps : List Rat) (a : Pl), (prodL a ps).val x = prodV x (a.val x) ps
  | [], a => rfl
  | s :: ps, a => by
    rw [prodL, val_prodL x ps]
    unfold prodV
    rw [List.foldl_cons, Pl.val_mul, Pl.val_sub, Pl.val_X, Pl.val_C]
theorem prodL_PS : ∀ (ps : List Rat) (a : Pl) (N : Nat), (∀ s ∈ ps, Sz 1 3 s) → PS 1 N a.1 → PS 1 (N * 6 ^ ps.length) (prodL a ps).1
  | [], a, N, h, k => by simpa [prodL] using k
  | s :: ps, a, N, h, k => by
    have := prodL_PS ps (a * (Pl.X - Pl.C s)) (6 * N) (fun t ht => h t (.tail _ ht)) (k.lin (h s (.head _)))
    rw [prodL, List.length_cons, Nat.pow_succ]
    have e : N * (6 ^ ps.length * 6) = 6 * N * 6 ^ ps.length := by rw [Nat.mul_comm (6 ^ ps.length) 6, ← Nat.mul_assoc, Nat.mul_comm N 6]
    rw [e]; exact this
theorem len_lin_mul {a : Pl} (h : a ≠ 0) (s : Rat) : (a * (Pl.X - Pl.C s)).1.length = a.1.length + 1 := by
  have := Pl.len_mul h (Pl.monic_ne (Pl.monic_lin s))
  rw [Pl.len_lin] at this
  exact this
theorem prodL_len : ∀ (ps : List Rat) (a : Pl), a ≠ 0 → (prodL a ps).1.length = a.1.length + ps.length
  | [], a, h => rfl
  | s :: ps, a, h => by
    rw [prodL, prodL_len ps _ (Pl.mul_ne h (Pl.monic_ne (Pl.monic_lin s))), len_lin_mul h, List.length_cons]; omega
theorem Sz3_sm {s : Rat} (h : Sz 1 3 s) : Sm s := h.sm (by decide) (by decide)
/-- the points at which the surplus has a factor -/
def surp (l m : List (Rat × Rat)) : List Rat := (l.filter fun x => decide (0 < (x.2 + expo x.1 m).floor)).map (·.1)
def sumV (x v : Rat) (l : List (Rat × Rat)) : Rat := l.foldl (fun v y => v + y.2 / (x - y.1)) v
def numL (n d : Pl) : List (Rat × Rat) → Pl × Pl
  | [] => (n, d)
  | x :: l => numL (n * (Pl.X - Pl.C x.1) + Pl.C x.2 * d) (d * (Pl.X - Pl.C x.1)) l
theorem W_small : ∀ a, a < 5 → ∀ b, b < 6 → W a b ≤ 243 := by decide
section
variable {G : Gi} (b : BaseP G)
include b
theorem mk_RF_poly {p : Pl} (hs : SmL p.1) (hz : p.1.length ≤ 1000000) {m : Nat} (hm : 8 ≤ m) (S : Store) : makeD (orc G m) G "RatFun" [P p, P 1] S = some (RF p 1, S) := by
  by_cases hp : p = 0
  · subst hp; exact mk_RF_zero b.toBase (Pl.monic_ne Pl.monic_one) hm S
  · have := mk_RF_const b.toBase hp (d := 1) (by unfold Pl.len; rw [Pl.one_list]; rfl) hs (by rw [Pl.lc_one]; exact (Sz.sm (D := 1) (N := 1) ⟨by decide, 1, by grind, by decide⟩ (by decide) (by decide))) hz hm S
    rw [Pl.lc_one] at this
    have e : Pl.C (1 : Rat)⁻¹ * p = p := by
      have : (1 : Rat)⁻¹ = 1 := by grind
      rw [this, show Pl.C 1 = 1 from rfl]; grind
    rw [e] at this
    exact this
theorem mul_one_one : PF G 5 ("Poly", "__mul__") [P 1, P 1] (P 1) := by
  have h1 : (1 : Pl).1.length = 1 := by rw [Pl.one_list]; rfl
  have := Poly_mul' b.toBase PS.one PS.one (by decide) (by decide) (by decide) (by decide) (by decide) (by rw [h1]; decide) (by rw [h1]; decide) (by rw [h1]; decide)
  have e : (1 : Pl) * 1 = 1 := by grind
  rw [e] at this
  exact this
theorem mult_for {O : Nat} (hO : 9 ≤ O) {s0 : Option DV} {S : Store} : ∀ (ps : List Rat) (a : Pl) (N : Nat) (s2 : Option DV), (∀ s ∈ ps, Sz 1 3 s) → a ≠ 0 → PS 1 N a.1 → a.1.length + ps.length ≤ 900 → N * 6 ^ ps.length < 2 ^ 3000 → ∃ t2,
    forL (.one 2) (evB (orc G O) G (.cons (.asg 1 (.bin .mul (.var 1) (.var 2))) .nil)) none (ps.map fun s => RF (Pl.X - Pl.C s) 1) [s0, some (RF a 1), s2] S = some (.nx [s0, some (RF (prodL a ps) 1), t2] S)
  | [], a, N, s2, h, ha, hp, hz, hN => ⟨s2, for_nil⟩
  | s :: ps, a, N, s2, h, ha, hp, hz, hN => by
    have hs := h s (.head _)
    have hl := len_lin_mul ha s
    rw [List.length_cons] at hz hN
    have e : N * 6 ^ (ps.length + 1) = 6 * N * 6 ^ ps.length := by rw [Nat.pow_succ, Nat.mul_comm (6 ^ ps.length) 6, ← Nat.mul_assoc, Nat.mul_comm N 6]
    rw [e] at hN
    have hN1 : 6 * N < 2 ^ 3000 := Nat.lt_of_le_of_lt (Nat.le_mul_of_pos_right _ (Nat.pow_pos (by decide))) hN
    have hb1 : (2 : Nat) ^ 3000 * 2 ^ 20 ≤ 2 ^ big := by rw [← Nat.pow_add]; exact Nat.pow_le_pow_right (by decide) (by decide)
    have hps := hp.lin hs
    obtain ⟨t2, ih⟩ := mult_for hO (s0 := s0) (S := S) ps (a * (Pl.X - Pl.C s)) (6 * N) (some (RF (Pl.X - Pl.C s) 1)) (fun t ht => h t (.tail _ ht)) (Pl.mul_ne ha (Pl.monic_ne (Pl.monic_lin s))) hps (by rw [hl]; omega) hN
    have hll : (Pl.X - Pl.C s).1.length = 2 := by rw [Pl.lin_list]; rfl
    have hmul := Poly_mul' b.toBase hp (lin_PS hs) (by decide) (by omega) (by decide) (by decide) (by decide) (by
      rw [hll]
      have : a.1.length * (2 * (N * 3)) ≤ 2 ^ 10 * (6 * N) := by
        rw [show 2 * (N * 3) = 6 * N by omega]; exact Nat.mul_le_mul_right _ (by omega)
      omega) (by omega) (by omega)
    have hmm := (RF_mul b.toBase hmul (mul_one_one b) (u := a * (Pl.X - Pl.C s)) (v := 1) fun m S hm => mk_RF_poly b (hps.sm (by decide) (by omega)) (by omega) hm S).low (n := O) (j := 0) (by omega) (S := S)
    refine ⟨t2, for_next (en1 := [s0, some (RF a 1), some (RF (Pl.X - Pl.C s) 1)]) rfl (b_nx (en' := [s0, some (RF (a * (Pl.X - Pl.C s)) 1), some (RF (Pl.X - Pl.C s) 1)]) (S' := S) (s_asg ?_) (by rw [evB])) ih⟩
    simp only [RF] at hmm
    simp [evE, RF, binD, Bop.dun, hmm]
theorem f_multiplied {ps : List Rat} (h : ∀ s ∈ ps, Sz 1 3 s) (hz : ps.length ≤ 800) : PF G 11 ("", "multiplied") [.frl (ps.map fun s => RF (Pl.X - Pl.C s) 1)] (RF (prodL 1 ps) 1) := by
  refine pf_of b.g_multiplied rfl (pur_RF _ _) fun n S hn => ⟨[], .inl ?_⟩
  rw [List.append_nil]
  have h1 : (1 : Pl).1.length = 1 := by rw [Pl.one_list]; rfl
  have c1 := (f_one b.toBase).low (n := n) (j := 0) (by omega) (S := S)
  have c2 := (f_of_ratio b.toBase (q := 1) (Sz.sm (D := 1) (N := 1) ⟨by decide, 1, by grind, by decide⟩ (by decide) (by decide))).low (n := n) (j := 0) (by omega) (S := S)
  rw [show Pl.C 1 = 1 from rfl] at c2
  have hp : (6 : Nat) ^ ps.length < 2 ^ 3000 := Nat.lt_of_le_of_lt (Nat.pow_le_pow_right (by decide) hz) (by decide)
  obtain ⟨t2, w⟩ := mult_for b (O := n) (by omega) (s0 := some (.frl (ps.map fun s => RF (Pl.X - Pl.C s) 1))) (S := S) ps 1 1 none h (Pl.monic_ne Pl.monic_one) PS.one (by omega) (by omega)
  refine b_nx (en' := [some (.frl (ps.map fun s => RF (Pl.X - Pl.C s) 1)), some (RF 1 1), none]) (S' := S) (s_asg ?_) (b_nx (s_for (S1 := S) (ds := ps.map fun s => RF (Pl.X - Pl.C s) 1) (by simp [evIt, evE, seqOf]) w) (b_rt (s_ret (by simp [evE]))))
  simp only [R] at c1 c2
  simp [evE, evEs, c1] at c2 ⊢
  exact c2
theorem surp_for {O : Nat} (hO : 9 ≤ O) {m : List (Rat × Rat)} {s0 : Option DV} {S : Store} : ∀ (l : List (Rat × Rat)) (acc : List Rat) (s3 s4 : Option DV), (∀ x ∈ l, Sz 1 3 x.1) → (∀ x ∈ l, Sm x.2 ∧ Sm (expo x.1 m) ∧ Sm (x.2 + expo x.1 m)) → acc.length + l.length ≤ 800 → ∃ t3 t4,
    forL (.many [3, 4]) (evB (orc G O) G (.cons (.if_ (.cmp .gt (.mth (.bin .add (.var 4) (.mth (.var 1) "PowerProduct" "exponent" (.cons (.var 3) .nil))) "Ratio" "floor" .nil) (.cint 0))
 (.cons (.app 2 (.call "of_poly" (.cons (.call "line" (.cons (.var 3) .nil)) .nil)))
 .nil)
 .nil)
 .nil)) none (l.map enc2) [s0, some (PD m), some (.ref S.length), s3, s4] (S ++ [.lst (acc.map fun s => RF (Pl.X - Pl.C s) 1)]) =
      some (.nx [s0, some (PD m), some (.ref S.length), t3, t4] (S ++ [.lst ((acc ++ surp l m).map fun s => RF (Pl.X - Pl.C s) 1)]))
  | [], acc, s3, s4, h, hs, hz => ⟨s3, s4, by rw [show surp [] m = [] from rfl, List.append_nil]; exact for_nil⟩
  | x :: l, acc, s3, s4, h, hs, hz => by
    let T : Store := S ++ [.lst (acc.map fun s => RF (Pl.X - Pl.C s) 1)]
    have hx := h x (.head _)
    obtain ⟨hs1, hs2, hs3⟩ := hs x (.head _)
    rw [List.length_cons] at hz
    have he := (PP_exponent b m x.1).low (n := O) (j := 0) (by omega) (S := T)
    have ha := (Ratio_add b.toBase hs1 hs2).low (n := O) (j := 0) (by omega) (S := T)
    have hf := (Ratio_floor b hs3).low (n := O) (j := 0) (by omega) (S := T)
    have hli := (f_line b (Sz3_sm hx)).low (n := O) (j := 0) (by omega) (S := T)
    have hop := (f_of_poly b.toBase (p := Pl.X - Pl.C x.1) ((lin_PS hx).sm (by decide) (by decide)) (by rw [Pl.lin_list]; simp)).low (n := O) (j := 0) (by omega) (S := T)
    have hb : bindT (.many [3, 4]) (enc2 x) [s0, some (PD m), some (.ref S.length), s3, s4] = some [s0, some (PD m), some (.ref S.length), some (R x.1), some (R x.2)] := rfl
    have hc : evE (orc G O) G (.cmp .gt (.mth (.bin .add (.var 4) (.mth (.var 1) "PowerProduct" "exponent" (.cons (.var 3) .nil))) "Ratio" "floor" .nil) (.cint 0)) [s0, some (PD m), some (.ref S.length), some (R x.1), some (R x.2)] T = some (.bl (decide (0 < (x.2 + expo x.1 m).floor)), T) := by
      generalize x.2 + expo x.1 m = u at ha hf ⊢
      generalize expo x.1 m = v at he ha ⊢
      simp only [PD, R] at he ha hf
      simp [evE, evEs, PD, R, he, binD, Bop.dun, ha, hf]
    by_cases e : 0 < (x.2 + expo x.1 m).floor
    · rw [decide_eq_true e] at hc
      have e0 : surp (x :: l) m = x.1 :: surp l m := by unfold surp; rw [List.filter_cons, if_pos (decide_eq_true e), List.map_cons]
      obtain ⟨t3, t4, ih⟩ := surp_for hO (m := m) (s0 := s0) (S := S) l (acc ++ [x.1]) (some (R x.1)) (some (R x.2)) (fun y hy => h y (.tail _ hy)) (fun y hy => hs y (.tail _ hy)) (by simp; omega)
      rw [List.append_assoc, List.singleton_append] at ih
      rw [e0]
      refine ⟨t3, t4, for_next hb (b_nx (en' := [s0, some (PD m), some (.ref S.length), some (R x.1), some (R x.2)]) (S' := S ++ [.lst ((acc ++ [x.1]).map fun s => RF (Pl.X - Pl.C s) 1)]) (s_true (S1 := T) hc ?_) (by rw [evB])) ih⟩
      have g1 : T[S.length]? = some (.lst (acc.map fun s => RF (Pl.X - Pl.C s) 1)) := by
        show (S ++ [Cell.lst (acc.map fun s => RF (Pl.X - Pl.C s) 1)])[S.length]? = _
        rw [List.getElem?_append_right (by omega)]; simp
      have g2 : ∀ y, T.set S.length y = S ++ [y] := fun y => by
        show (S ++ [Cell.lst (acc.map fun s => RF (Pl.X - Pl.C s) 1)]).set S.length y = _
        rw [List.set_append_right _ _ (by omega)]; simp
      have g3 : acc.length < 16777216 := by omega
      have hev : evE (orc G O) G (.call "of_poly" (.cons (.call "line" (.cons (.var 3) .nil)) .nil)) [s0, some (PD m), some (.ref S.length), some (R x.1), some (R x.2)] T = some (RF (Pl.X - Pl.C x.1) 1, T) := by
        simp [evE, evEs, hli, hop]
      show evB (orc G O) G _ _ T = _
      refine b_nx ?_ (by rw [evB])
      rw [evS]
      simp only [List.getElem?_cons_zero, List.getElem?_cons_succ, g1, hev]
      rw [if_pos (by simpa using g3), g2]
      simp
    · rw [decide_eq_false e] at hc
      have e0 : surp (x :: l) m = surp l m := by unfold surp; rw [List.filter_cons, if_neg (by simpa using e)]
      obtain ⟨t3, t4, ih⟩ := surp_for hO (m := m) (s0 := s0) (S := S) l acc (some (R x.1)) (some (R x.2)) (fun y hy => h y (.tail _ hy)) (fun y hy => hs y (.tail _ hy)) (by omega)
      rw [e0]
      exact ⟨t3, t4, for_next hb (b_nx (en' := [s0, some (PD m), some (.ref S.length), some (R x.1), some (R x.2)]) (S' := T) (s_false (S1 := T) hc (by rw [evB])) (by rw [evB])) ih⟩
theorem PP_surplus {l m : List (Rat × Rat)} (h : ∀ x ∈ l, Sz 1 3 x.1) (hs : ∀ x ∈ l, Sm x.2 ∧ Sm (expo x.1 m) ∧ Sm (x.2 + expo x.1 m)) (hz : l.length ≤ 800) : PF G 12 ("PowerProduct", "surplus") [PD l, PD m] (RF (prodL 1 (surp l m)) 1) := by
  refine pf_of b.pp_surplus rfl (pur_RF _ _) fun n S hn => ⟨[.dead], .inl ?_⟩
  obtain ⟨t3, t4, w⟩ := surp_for b (O := n) (by omega) (m := m) (s0 := some (PD l)) (S := S) l [] none none h hs (by simpa using hz)
  have hsl : (surp l m).length ≤ 800 := by
    unfold surp; rw [List.length_map]
    exact Nat.le_trans (List.length_filter_le ..) hz
  have hm := (f_multiplied b (ps := surp l m) (fun s hs => by
    unfold surp at hs
    obtain ⟨x, hx, rfl⟩ := List.mem_map.mp hs
    exact h x (List.mem_filter.mp hx).1) hsl).low (n := n) (j := 0) (by omega) (S := S ++ [.dead])
  refine b_nx (en' := [some (PD l), some (PD m), some (.ref S.length), none, none]) (S' := S ++ [.lst []]) ?_ (b_nx (s_for (S1 := (S ++ [Cell.lst []] : Store)) (ds := l.map enc2) ?_ w) (b_rt (s_ret ?_)))
  · simp [fillD, Pg.PowerProduct_surplus, evS, evE, evEs, clen]
  · simp [evIt, evE, fld_pairs b, seqOf]
  · rw [List.nil_append]
    simp [evE, evEs, hm]
end
end Ev

set_option linter.all false
set_option maxRecDepth 100000
set_option exponentiation.threshold 500000
/-! EvR: PowerProduct: log_derivative. -/
namespace Ev
open Iv Mq
/-- the k-th partial sum as a quotient -/
structure LI (k : Nat) (n d : Pl) : Prop where
  mon : Pl.monic d
  co : Pl.coprime n d
  pn : PS 6 (5 * k * 6 ^ k) n.1
  pd : PS 1 (6 ^ k) d.1
  ld : d.1.length = k + 1
  ln : n.1.length ≤ k
  vn : 0 ≤ n.val 4 ∧ (0 < k → 0 < n.val 4)
  vd : 0 < d.val 4
theorem LI0 : LI 0 0 1 where
  mon := Pl.monic_one
  co := Pl.coprime.one_right 0
  pn := PS.zero (by decide)
  pd := PS.one
  ld := by rw [Pl.one_list]; rfl
  ln := by rw [Pl.zero_list]; decide
  vn := by rw [Pl.val_0]; exact ⟨by grind, fun h => absurd h (by omega)⟩
  vd := by rw [Pl.val_1]; grind
/-- what the points and exponents keep -/
structure LX (x : Rat × Rat) : Prop where
  pt : Sz 1 3 x.1
  lt : x.1 < 4
  ex : Sz 6 5 x.2
  pos : 0 < x.2
theorem not_co_self {s : Rat} (h : Pl.coprime (Pl.X - Pl.C s) (Pl.X - Pl.C s)) : False := by
  obtain ⟨u, v, e⟩ := h
  have := Pl.dvd_len (a := Pl.X - Pl.C s) (b := 1) ⟨u + v, by grind⟩ (Pl.monic_ne Pl.monic_one)
  rw [Pl.len_lin] at this
  unfold Pl.len at this
  rw [Pl.one_list] at this
  simp at this
theorem LI_step {k : Nat} {n d : Pl} {x : Rat × Rat} (h : LI k n d) (hx : LX x) (hc : Pl.coprime (Pl.X - Pl.C x.1) d) : LI (k + 1) (n * (Pl.X - Pl.C x.1) + Pl.C x.2 * d) (d * (Pl.X - Pl.C x.1)) := by
  have hd0 := Pl.monic_ne h.mon
  have hl0 := Pl.monic_ne (Pl.monic_lin x.1)
  have hx0 : x.2 ≠ 0 := by have := hx.pos; grind
  have hll : (Pl.X - Pl.C x.1).1.length = 2 := by rw [Pl.lin_list]; rfl
  have hvd : (d * (Pl.X - Pl.C x.1)).val 4 = d.val 4 * (4 - x.1) := by rw [Pl.val_mul, Pl.val_sub, Pl.val_X, Pl.val_C]
  have hvn : (n * (Pl.X - Pl.C x.1) + Pl.C x.2 * d).val 4 = n.val 4 * (4 - x.1) + x.2 * d.val 4 := by rw [Pl.val_add, Pl.val_mul, Pl.val_mul, Pl.val_sub, Pl.val_X, Pl.val_C, Pl.val_C]
  have h4 : 0 < 4 - x.1 := by have := hx.lt; grind
  have hp1 : 0 < x.2 * d.val 4 := Rat.mul_pos hx.pos h.vd
  have hp2 : 0 ≤ n.val 4 * (4 - x.1) := Rat.mul_nonneg h.vn.1 (by grind)
  refine ⟨h.mon.mul (Pl.monic_lin _), ?_, ?_, ?_, ?_, ?_, ?_, ?_⟩
  · have c1 : Pl.coprime (n * (Pl.X - Pl.C x.1) + Pl.C x.2 * d) d := Pl.coprime.addl (Pl.coprime.symm (Pl.coprime.mul h.co.symm hc.symm))
    have c2 : Pl.coprime (n * (Pl.X - Pl.C x.1) + Pl.C x.2 * d) (Pl.X - Pl.C x.1) := by
      have := Pl.coprime.addl (r := n) (Pl.coprime.symm (Pl.coprime.mul (Pl.coprime.symm (Pl.coprime.C_left hx0 (Pl.X - Pl.C x.1))) hc))
      have e : Pl.C x.2 * d + n * (Pl.X - Pl.C x.1) = n * (Pl.X - Pl.C x.1) + Pl.C x.2 * d := by grind
      rw [e] at this
      exact this
    exact Pl.coprime.mul c1 c2
  · have a1 := h.pn.lin hx.pt
    have a2 : PS 6 (5 * 6 ^ k) (Pl.C x.2 * d).1 := PS.scaled hx.ex h.pd
    refine PS.mono (PS.add a1 a2) ?_
    have e1 : 6 * (5 * k * 6 ^ k) = 5 * k * 6 ^ (k + 1) := by rw [Nat.pow_succ, Nat.mul_comm (6 ^ k) 6, ← Nat.mul_assoc, ← Nat.mul_assoc (5 * k)]; congr 1; omega
    have e2 : 5 * (k + 1) * 6 ^ (k + 1) = 5 * k * 6 ^ (k + 1) + 5 * 6 ^ (k + 1) := by rw [Nat.mul_add 5 k 1, Nat.add_mul]
    have e3 : 5 * 6 ^ k ≤ 5 * 6 ^ (k + 1) := Nat.mul_le_mul_left _ (Nat.pow_le_pow_right (by decide) (by omega))
    omega
  · have := h.pd.lin hx.pt
    rw [Nat.pow_succ, Nat.mul_comm]; exact this
  · rw [len_lin_mul hd0, h.ld]
  · have a1 : (n * (Pl.X - Pl.C x.1)).1.length ≤ k + 1 := by
      by_cases hn : n = 0
      · have : n * (Pl.X - Pl.C x.1) = 0 := by rw [hn]; grind
        rw [this, Pl.zero_list]; simp
      · rw [len_lin_mul hn]; have := h.ln; omega
    have a2 : (Pl.C x.2 * d).1.length ≤ k + 1 := by
      have := Pl.len_mul (Pl.C_ne hx0) hd0
      have hc1 := Pl.len_C x.2
      unfold Pl.len at this hc1
      rw [this, h.ld]; omega
    have := Pl.len_add (n * (Pl.X - Pl.C x.1)) (Pl.C x.2 * d)
    unfold Pl.len at this
    omega
  · rw [hvn]; exact ⟨by grind, fun _ => by grind⟩
  · rw [hvd]; exact Rat.mul_pos h.vd h4
theorem numL_val {x : Rat} : ∀ (l : List (Rat × Rat)) (n d : Pl) (v : Rat), (∀ y ∈ l, x ≠ y.1) → d.val x ≠ 0 → n.val x = v * d.val x → (numL n d l).2.val x ≠ 0 ∧ (numL n d l).1.val x = sumV x v l * (numL n d l).2.val x
  | [], n, d, v, h, hd, e => ⟨hd, e⟩
  | y :: l, n, d, v, h, hd, e => by
    have hy : x - y.1 ≠ 0 := by have := h y (.head _); grind
    have hd' : (d * (Pl.X - Pl.C y.1)).val x = d.val x * (x - y.1) := by rw [Pl.val_mul, Pl.val_sub, Pl.val_X, Pl.val_C]
    have hn' : (n * (Pl.X - Pl.C y.1) + Pl.C y.2 * d).val x = n.val x * (x - y.1) + y.2 * d.val x := by rw [Pl.val_add, Pl.val_mul, Pl.val_mul, Pl.val_sub, Pl.val_X, Pl.val_C, Pl.val_C]
    exact numL_val l _ _ (v + y.2 / (x - y.1)) (fun z hz => h z (.tail _ hz)) (by rw [hd']; intro e0; grind) (by rw [hd', hn', e]; grind)
section
variable {G : Gi} (b : BaseP G)
include b
theorem mk_LI {k : Nat} (hk : k ≤ 4) (hk0 : 0 < k) {n d : Pl} (h : LI k n d) {m : Nat} (hm : 8 ≤ m) (S : Store) : makeD (orc G m) G "RatFun" [P n, P d] S = some (RF n d, S) := by
  have hn : n ≠ 0 := fun e => by have := h.vn.2 hk0; rw [e, Pl.val_0] at this; grind
  have h6 : 6 ^ k ≤ 6 ^ 4 := Nat.pow_le_pow_right (by decide) hk
  have hn1 : 5 * k * 6 ^ k ≤ 20 * 6 ^ 4 := Nat.mul_le_mul (by omega) h6
  have l1 := h.ln
  have l2 := h.ld
  have hp : ∀ c : Nat, c ≤ 2 ^ 15 → ∀ j : Nat, j ≤ 5 → c * 2 ^ j < 2 ^ big := fun c hc j hj => Nat.lt_of_le_of_lt (Nat.mul_le_mul hc (Nat.pow_le_pow_right (by decide) hj)) (by decide)
  refine mk_RF_co b.toBase hn h.co h.mon h.pn h.pd (X := 2 ^ 15) (by decide) (hp _ (by omega) _ (by omega)) (by decide) (hp _ (by omega) _ (by omega)) (by omega) (by omega) (by decide) (by omega) (by omega) ?_ hm S
  have hw := W_small n.1.length (by omega) d.1.length (by omega)
  refine Nat.le_trans (Nat.pow_le_pow_right (by decide) hw) ?_
  unfold lim
  decide
theorem add_for {O : Nat} (hO : 9 ≤ O) {s0 : Option DV} {S : Store} : ∀ (l : List (Rat × Rat)) (k : Nat) (n d : Pl) (s2 : Option DV), k + l.length ≤ 4 → (∀ x ∈ l, LX x) → l.Pairwise (fun x y => x.1 ≠ y.1) → (∀ x ∈ l, Pl.coprime (Pl.X - Pl.C x.1) d) → LI k n d → ∃ t2,
    forL (.one 2) (evB (orc G O) G (.cons (.asg 1 (.bin .add (.var 1) (.var 2))) .nil)) none (l.map fun x => RF (Pl.C x.2) (Pl.X - Pl.C x.1)) [s0, some (RF n d), s2] S = some (.nx [s0, some (RF (numL n d l).1 (numL n d l).2), t2] S) ∧ LI (k + l.length) (numL n d l).1 (numL n d l).2
  | [], k, n, d, s2, hk, hl, hp, hc, h => ⟨s2, for_nil, h⟩
  | x :: l, k, n, d, s2, hk, hl, hp, hc, h => by
    rw [List.length_cons] at hk
    have hx := hl x (.head _)
    have hcx := hc x (.head _)
    have h' := LI_step h hx hcx
    obtain ⟨hp1, hp2⟩ := List.pairwise_cons.mp hp
    obtain ⟨t2, ih, ih2⟩ := add_for hO (s0 := s0) (S := S) l (k + 1) (n * (Pl.X - Pl.C x.1) + Pl.C x.2 * d) (d * (Pl.X - Pl.C x.1)) (some (RF (Pl.C x.2) (Pl.X - Pl.C x.1))) (by omega) (fun y hy => hl y (.tail _ hy)) hp2 (fun y hy => Pl.coprime.mul (hc y (.tail _ hy)) (Pl.coprime.lin (fun e => hp1 y hy e.symm))) h'
    have hll : (Pl.X - Pl.C x.1).1.length = 2 := by rw [Pl.lin_list]; rfl
    have h6 : 6 ^ k ≤ 6 ^ 4 := Nat.pow_le_pow_right (by decide) (by omega)
    have hn1 : 5 * k * 6 ^ k ≤ 20 * 6 ^ 4 := Nat.mul_le_mul (by omega) h6
    have hb : (2 : Nat) ^ 100 ≤ 2 ^ big := Nat.pow_le_pow_right (by decide) (by decide)
    have l1 := h.ln
    have l2 := h.ld
    have hcl := Pl.len_C x.2
    unfold Pl.len at hcl
    have pc : PS 6 5 (Pl.C x.2).1 := PS.C hx.ex
    have hne : d ≠ Pl.X - Pl.C x.1 := fun e => by rw [e] at hcx; exact not_co_self hcx
    have q1 : n.1.length * (2 * (5 * k * 6 ^ k * 3)) ≤ 4 * (2 * (20 * 6 ^ 4 * 3)) := Nat.mul_le_mul (by omega) (by omega)
    have q2 : (Pl.C x.2).1.length * (d.1.length * (5 * 6 ^ k)) ≤ 1 * (5 * (5 * 6 ^ 4)) := Nat.mul_le_mul hcl (Nat.mul_le_mul (by omega) (by omega))
    have q3 : d.1.length * (2 * (6 ^ k * 3)) ≤ 5 * (2 * (6 ^ 4 * 3)) := Nat.mul_le_mul (by omega) (by omega)
    have m1 := Poly_mul' b.toBase h.pn (lin_PS hx.pt) (by decide) (by omega) (by decide) (by decide) (by decide) (by rw [hll]; omega) (by omega) (by omega)
    have m2 := Poly_mul' b.toBase pc h.pd (by decide) (by decide) (by decide) (by omega) (by decide) (by omega) (by omega) (by omega)
    have m3 := Poly_mul' b.toBase h.pd (lin_PS hx.pt) (by decide) (by omega) (by decide) (by decide) (by decide) (by rw [hll]; omega) (by omega) (by omega)
    have a1 := h.pn.lin hx.pt
    have a2 : PS 6 (5 * 6 ^ k) (Pl.C x.2 * d).1 := PS.scaled hx.ex h.pd
    have z1 : (n * (Pl.X - Pl.C x.1)).1.length ≤ 1000000 := by
      have := Pl.len_mk (mulL n.1 (Pl.X - Pl.C x.1).1)
      by_cases hn : n = 0
      · have : n * (Pl.X - Pl.C x.1) = 0 := by rw [hn]; grind
        rw [this, Pl.zero_list]; simp
      · rw [len_lin_mul hn]; omega
    have z2 : (Pl.C x.2 * d).1.length ≤ 1000000 := by
      have := Pl.len_mul (Pl.C_ne (show x.2 ≠ 0 by have := hx.pos; grind)) (Pl.monic_ne h.mon)
      unfold Pl.len at this
      rw [this]; omega
    have ad := Poly_add b.toBase (a1.sm (by decide) (by omega)) (a2.sm (by decide) (by omega)) z1 z2
    have hadd := (RF_add_ne b.toBase hne m1 m2 m3 ad fun m S hm => mk_LI b (by omega) (by omega) h' hm S).low (n := O) (j := 0) (by omega) (S := S)
    refine ⟨t2, for_next (en1 := [s0, some (RF n d), some (RF (Pl.C x.2) (Pl.X - Pl.C x.1))]) rfl (b_nx (en' := [s0, some (RF (n * (Pl.X - Pl.C x.1) + Pl.C x.2 * d) (d * (Pl.X - Pl.C x.1))), some (RF (Pl.C x.2) (Pl.X - Pl.C x.1))]) (S' := S) (s_asg ?_) (by rw [evB])) ih, by rw [show k + (x :: l).length = k + 1 + l.length by rw [List.length_cons]; omega]; exact ih2⟩
    generalize n * (Pl.X - Pl.C x.1) + Pl.C x.2 * d = u at hadd ⊢
    generalize d * (Pl.X - Pl.C x.1) = v at hadd ⊢
    generalize Pl.X - Pl.C x.1 = w at hadd ⊢
    simp only [RF] at hadd
    simp [evE, RF, binD, Bop.dun, hadd]
theorem f_added {l : List (Rat × Rat)} (hz : l.length ≤ 4) (hl : ∀ x ∈ l, LX x) (hp : l.Pairwise (fun x y => x.1 ≠ y.1)) : PF G 11 ("", "added") [.frl (l.map fun x => RF (Pl.C x.2) (Pl.X - Pl.C x.1))] (RF (numL 0 1 l).1 (numL 0 1 l).2) ∧ LI l.length (numL 0 1 l).1 (numL 0 1 l).2 := by
  have key : ∀ (n : Nat), 10 ≤ n → ∀ S : Store, ∃ t2, forL (.one 2) (evB (orc G n) G (.cons (.asg 1 (.bin .add (.var 1) (.var 2))) .nil)) none (l.map fun x => RF (Pl.C x.2) (Pl.X - Pl.C x.1)) [some (.frl (l.map fun x => RF (Pl.C x.2) (Pl.X - Pl.C x.1))), some (RF 0 1), none] S = some (.nx [some (.frl (l.map fun x => RF (Pl.C x.2) (Pl.X - Pl.C x.1))), some (RF (numL 0 1 l).1 (numL 0 1 l).2), t2] S) ∧ LI (0 + l.length) (numL 0 1 l).1 (numL 0 1 l).2 := fun n hn S =>
    add_for b (O := n) (by omega) l 0 0 1 none (by omega) hl hp (fun x hx => Pl.coprime.one_right _) LI0
  refine ⟨?_, by obtain ⟨_, _, h⟩ := key 10 (by omega) []; simpa using h⟩
  refine pf_of b.g_added rfl (pur_RF _ _) fun n S hn => ⟨[], .inl ?_⟩
  rw [List.append_nil]
  have c1 := (f_zero b).low (n := n) (j := 0) (by omega) (S := S)
  have c2 := (f_of_ratio b.toBase (q := 0) (Sz.sm (D := 1) (N := 1) (Sz.zero (by decide)) (by decide) (by decide))).low (n := n) (j := 0) (by omega) (S := S)
  rw [show Pl.C 0 = 0 from rfl] at c2
  obtain ⟨t2, w, _⟩ := key n (by omega) S
  refine b_nx (en' := [some (.frl (l.map fun x => RF (Pl.C x.2) (Pl.X - Pl.C x.1))), some (RF 0 1), none]) (S' := S) (s_asg ?_) (b_nx (s_for (S1 := S) (ds := l.map fun x => RF (Pl.C x.2) (Pl.X - Pl.C x.1)) (by simp [evIt, evE, seqOf]) w) (b_rt (s_ret (by simp [evE]))))
  simp only [R] at c1 c2
  simp [evE, evEs, c1] at c2 ⊢
  exact c2
theorem PP_log {l : List (Rat × Rat)} (hz : l.length ≤ 4) (hl : ∀ x ∈ l, LX x) (hp : l.Pairwise (fun x y => x.1 ≠ y.1)) : PF G 12 ("PowerProduct", "log_derivative") [PD l] (RF (numL 0 1 l).1 (numL 0 1 l).2) := by
  refine pf_ret b.pp_log rfl rfl (pur_RF _ _) fun n S hn => ?_
  have h1 := ev_lc (O := orc G n) (G := G) (t := .many [1, 2]) (it := .seq (.fld (.var 0) "pairs")) (el := .mk "RatFun" (.cons (.call "constant" (.cons (.var 2) .nil)) (.cons (.call "line" (.cons (.var 1) .nil)) .nil))) (en := [some (PD l), none, none]) (S := S) (S1 := S) (xs := l) (enc := enc2) (f := fun x => RF (Pl.C x.2) (Pl.X - Pl.C x.1)) (by simp [evIt, evE, fld_pairs b, seqOf]) (by omega) fun x hx => ⟨[some (PD l), some (R x.1), some (R x.2)], rfl, fun S => by
    have hX := hl x hx
    have hx0 : x.2 ≠ 0 := by have := hX.pos; grind
    have hcl := Pl.len_C x.2
    unfold Pl.len at hcl
    have hll : (Pl.X - Pl.C x.1).1.length = 2 := by rw [Pl.lin_list]; rfl
    have c1 := (f_constant b.toBase x.2).low (n := n) (j := 0) (by omega) (S := S)
    have c2 := (f_line b (Sz3_sm hX.pt)).low (n := n) (j := 0) (by omega) (S := S)
    have c3 := mk_RF_co b.toBase (Pl.C_ne hx0) (Pl.coprime.C_left hx0 (Pl.X - Pl.C x.1)) (Pl.monic_lin x.1) (PS.C hX.ex) (lin_PS hX.pt) (X := 5) (by decide) (Nat.lt_of_le_of_lt (Nat.mul_le_mul_left 5 (Nat.pow_le_pow_right (by decide) hcl)) (by decide)) (by decide) (by rw [hll]; decide) (by decide) (by decide) (by decide) (by omega) (by omega) (by
      have hw := W_small (Pl.C x.2).1.length (by omega) (Pl.X - Pl.C x.1).1.length (by omega)
      refine Nat.le_trans (Nat.pow_le_pow_right (by decide) hw) ?_
      unfold lim
      decide) (m := n) (by omega) S
    simp [evE, evEs, c1, c2, c3]⟩
  have h2 := (f_added b hz hl hp).1.low (n := n) (j := 0) (by omega) (S := S)
  show evE (orc G n) G (.call "added" _) [some (PD l), none, none] S = _
  have h3 : evEs (orc G n) G (.cons (.lc (.many [1, 2]) (.seq (.fld (.var 0) "pairs")) (.mk "RatFun" (.cons (.call "constant" (.cons (.var 2) .nil)) (.cons (.call "line" (.cons (.var 1) .nil)) .nil)))) .nil) [some (PD l), none, none] S = some ([.frl (l.map fun x => RF (Pl.C x.2) (Pl.X - Pl.C x.1))], S) := by rw [evEs, h1]; rfl
  rw [evE, h3]
  exact h2
end
end Ev

set_option linter.all false
set_option maxRecDepth 100000
set_option exponentiation.threshold 500000
/-! EvS: texts of numbers and power products. -/
namespace Ev
open Iv Mq
def sI (i : Int) : List Nat := (toString i).toList.map Char.toNat
/-- the text of a number that is not below 0 -/
def sR (q : Rat) : List Nat := if q.den = 1 then sI q.num else sI q.num ++ (cs "/" ++ sI q.den)
def ten : Nat := 10 ^ 50
theorem sI_len {i : Int} (h0 : 0 ≤ i) (h : i.natAbs < ten) : (sI i).length ≤ 50 := by
  obtain ⟨n, rfl⟩ : ∃ n : Nat, i = n := ⟨i.toNat, by omega⟩
  have e : toString (n : Int) = n.repr := by rw [Int.toString_eq_repr]; rfl
  unfold sI
  rw [e, Nat.repr_eq_ofList_toDigits, List.length_map, String.toList_ofList]
  exact (Nat.length_toDigits_le_iff (by decide) (by decide)).mpr h
section
variable {G : Gi} (b : BaseP G)
include b
theorem f_written {n : Int} (h0 : 0 ≤ n) (h : n.natAbs < ten) : PF G 1 ("", "written_integer") [.int n] (.str (sI n)) := by
  refine pf_of b.g_written rfl rfl fun m S hm => ⟨[.lst [.str (sI n)]], .inl ?_⟩
  have henv : List.map some (fillD Pg.f_written_integer [.int n]) ++ List.replicate (Pg.f_written_integer.nm.length - Pg.f_written_integer.np) none = [some (.int n), none, none] := rfl
  rw [henv]
  have hl := sI_len h0 h
  have hlog : n.natAbs.log2 < 1920 := by
    by_cases h0 : n.natAbs = 0
    · rw [h0]; decide
    · exact (Nat.log2_lt h0).mpr (Nat.lt_of_lt_of_le h (by unfold ten; decide))
  have hneg : decide (n < 0) = false := decide_eq_false (by omega)
  have hge : decide ((10 : Int) ^ 50 ≤ n) = false := decide_eq_false (by unfold ten at h; omega)
  refine b_nx (en' := [some (.int n), none, none]) (S' := S) (s_false (S1 := S) ?_ (by rw [evB])) (b_nx (en' := [some (.int n), some (.ref S.length), none]) (S' := S ++ [.lst []]) ?_ (b_nx (en' := [some (.int n), some (.ref S.length), none]) (S' := S ++ [.lst []]) (s_while (while_done (S1 := S ++ [.lst []]) ?_)) (b_nx (en' := [some (.int n), some (.ref S.length), none]) (S' := S ++ [.lst [.str (sI n)]]) ?_ (b_rt (s_ret ?_)))))
  · simp [evE, hneg]
  · simp [evS, evE, evEs, clen]
  · simp only [evE, binD, intOp, List.getElem?_cons_zero]
    rw [if_pos (by decide)]
    simp
    unfold ten at h; omega
  · simp [evS, evE, evEs, bltD, hlog, sI]
  · simp [evE, seqOf, strsOf, joinL]
    unfold cs; simp; omega
theorem Ratio_str {q : Rat} (h0 : 0 ≤ q.num) (h1 : q.num.natAbs < ten) (h2 : q.den < ten) : PF G 2 ("Ratio", "__str__") [R q] (.str (sR q)) := by
  refine pf_of b.r_str rfl rfl fun m S hm => ⟨[], .inl ?_⟩
  rw [List.append_nil]
  have w1 := (f_written b h0 h1).low (n := m) (j := 0) (by omega) (S := S)
  have w2 := (f_written b (n := q.den) (by omega) (by simpa using h2)).low (n := m) (j := 0) (by omega) (S := S)
  have l1 := sI_len h0 h1
  have l2 := sI_len (i := q.den) (by omega) (by simpa using h2)
  have hcond : evE (orc G m) G (.cmp .eq (.fld (.var 0) "d") (.cint 1)) [some (R q)] S = some (.bl (decide (q.den = 1)), S) := by
    have e : decide (q.den = 1) = ((q.den : Int) == 1) := by rw [Bool.beq_eq_decide_eq]; congr 1; exact propext (by omega)
    simp [evE, fld_d b.toBase, eqD, e]
  have henv : List.map some (fillD Pg.Ratio___str__ [R q]) ++ List.replicate (Pg.Ratio___str__.nm.length - Pg.Ratio___str__.np) none = [some (R q)] := rfl
  have c0 : (cs "").length = 0 := rfl
  have c1 : (cs "/").length = 1 := rfl
  rw [henv]
  by_cases hd : q.den = 1
  · rw [decide_eq_true hd] at hcond
    refine b_rt (s_true (S1 := S) hcond (b_rt (s_ret ?_)))
    have hz : ([sI q.num].map List.length).sum + [sI q.num].length * (cs "").length ≤ 16777216 := by simp [c0]; omega
    have e : sR q = sI q.num := by unfold sR; rw [if_pos hd]
    rw [e]
    simp only [evE, evEs, List.getElem?_cons_zero, fld_n b.toBase, w1]
    simp [clen, seqOf, strsOf, joinL, c0]
    omega
  · rw [decide_eq_false hd] at hcond
    refine b_nx (en' := [some (R q)]) (S' := S) (s_false (S1 := S) hcond (by rw [evB])) (b_rt (s_ret ?_))
    have e : sR q = sI q.num ++ (cs "/" ++ sI q.den) := by unfold sR; rw [if_neg hd]
    rw [e]
    simp only [evE, evEs, List.getElem?_cons_zero, fld_n b.toBase, fld_d b.toBase, w1, w2]
    simp [clen, seqOf, strsOf, joinL, c1]
    omega
/-! ### PowerProduct.__str__ -/
omit b in
def base (s : Rat) : List Nat := if 0 < s.num then cs "(x - " ++ (sR s ++ cs ")") else if s.num < 0 then cs "(x + " ++ (sR (-s) ++ cs ")") else cs "x"
omit b in
def piece (x : Rat × Rat) : List Nat := base x.1 ++ (cs "^(" ++ (sR x.2 ++ cs ")"))
omit b in
/-- what a text needs -/
structure TX (q : Rat) : Prop where
  sm : Sm q
  n : q.num.natAbs < ten
  d : q.den < ten
omit b in
theorem sR_len {q : Rat} (h : TX q) (h0 : 0 ≤ q.num) : (sR q).length ≤ 101 := by
  have l1 := sI_len h0 h.n
  have l2 := sI_len (i := q.den) (by omega) (by simpa using h.d)
  have c1 : (cs "/").length = 1 := rfl
  unfold sR
  split
  · omega
  · rw [List.length_append, List.length_append, c1]; omega
omit b in
theorem TX.neg {q : Rat} (h : TX q) : TX (-q) := ⟨h.sm.neg, by rw [Rat.neg_num, Int.natAbs_neg]; exact h.n, by rw [Rat.neg_den]; exact h.d⟩
omit b in
theorem base_len {s : Rat} (h : TX s) : (base s).length ≤ 110 := by
  have c1 : (cs "(x - ").length = 5 := rfl
  have c2 : (cs "(x + ").length = 5 := rfl
  have c3 : (cs ")").length = 1 := rfl
  have c4 : (cs "x").length = 1 := rfl
  unfold base
  split
  · have := sR_len h (by omega)
    rw [List.length_append, List.length_append, c1, c3]; omega
  · split
    · have := sR_len h.neg (by rw [Rat.neg_num]; omega)
      rw [List.length_append, List.length_append, c2, c3]; omega
    · rw [c4]; omega
omit b in
theorem piece_len {x : Rat × Rat} (h : TX x.1) (k : TX x.2) (h0 : 0 ≤ x.2.num) : (piece x).length ≤ 220 := by
  have c1 : (cs "^(").length = 2 := rfl
  have c3 : (cs ")").length = 1 := rfl
  have := base_len h
  have := sR_len k h0
  unfold piece
  rw [List.length_append, List.length_append, List.length_append, c1, c3]; omega
omit b in
def encS (x : List Nat) : DV := .str x
omit b in
theorem strsOf_map : ∀ xs : List (List Nat), strsOf (xs.map encS) = some xs
  | [] => rfl
  | x :: xs => by simp [strsOf, encS, strsOf_map xs]
def ppsBody : Ss := (.cons (.asg 4 (.cstr "x"))
 (.cons (.if_ (.cmp .gt (.fld (.var 2) "n") (.cint 0))
 (.cons (.asg 4 (.fstr (.cons (.cstr "(x - ") (.cons (.fmt (.blt .str (.cons (.var 2) .nil))) (.cons (.cstr ")") .nil)))))
 .nil)
 .nil)
 (.cons (.if_ (.cmp .lt (.fld (.var 2) "n") (.cint 0))
 (.cons (.asg 4 (.fstr (.cons (.cstr "(x + ") (.cons (.fmt (.blt .str (.cons (.neg (.var 2)) .nil))) (.cons (.cstr ")") .nil)))))
 .nil)
 .nil)
 (.cons (.app 1 (.fstr (.cons (.fmt (.var 4)) (.cons (.cstr "^(") (.cons (.fmt (.blt .str (.cons (.var 3) .nil))) (.cons (.cstr ")") .nil))))))
 .nil))))
theorem pps_for {O : Nat} (hO : 6 ≤ O) {s0 : Option DV} {S : Store} : ∀ (l : List (Rat × Rat)) (acc : List (List Nat)) (s2 s3 s4 : Option DV), (∀ x ∈ l, TX x.1 ∧ TX x.2 ∧ 0 ≤ x.2.num) → acc.length + l.length ≤ 1000 → ∃ t2 t3 t4,
    forL (.many [2, 3]) (evB (orc G O) G ppsBody) none (l.map enc2) [s0, some (.ref S.length), s2, s3, s4] (S ++ [.lst (acc.map encS)]) = some (.nx [s0, some (.ref S.length), t2, t3, t4] (S ++ [.lst ((acc ++ l.map piece).map encS)]))
  | [], acc, s2, s3, s4, h, hz => ⟨s2, s3, s4, by rw [List.map_nil (f := piece), List.append_nil]; exact for_nil⟩
  | x :: l, acc, s2, s3, s4, h, hz => by
    let T : Store := S ++ [Cell.lst (acc.map encS)]
    obtain ⟨h1, h2, h3⟩ := h x (.head _)
    rw [List.length_cons] at hz
    obtain ⟨t2, t3, t4, ih⟩ := pps_for hO (s0 := s0) (S := S) l (acc ++ [piece x]) (some (R x.1)) (some (R x.2)) (some (.str (base x.1))) (fun y hy => h y (.tail _ hy)) (by simp; omega)
    rw [List.append_assoc, List.singleton_append] at ih
    have hb : bindT (.many [2, 3]) (enc2 x) [s0, some (.ref S.length), s2, s3, s4] = some [s0, some (.ref S.length), some (R x.1), some (R x.2), s4] := rfl
    refine ⟨t2, t3, t4, for_next hb ?_ ih⟩
    have bl := base_len h1
    have pl := piece_len h1 h2 h3
    have g1 : T[S.length]? = some (.lst (acc.map encS)) := by
      show (S ++ [Cell.lst (acc.map encS)])[S.length]? = _
      rw [List.getElem?_append_right (by omega)]; simp
    have g2 : ∀ y, T.set S.length y = S ++ [y] := fun y => by
      show (S ++ [Cell.lst (acc.map encS)]).set S.length y = _
      rw [List.set_append_right _ _ (by omega)]; simp
    have g3 : acc.length < 16777216 := by omega
    have q2 := (Ratio_str b h3 h2.n h2.d).low (n := O) (j := 2) (by omega) (S := T)
    have lq2 := sR_len h2 h3
    have fin : evS (orc G O) G (.app 1 (.fstr (.cons (.fmt (.var 4)) (.cons (.cstr "^(") (.cons (.fmt (.blt .str (.cons (.var 3) .nil))) (.cons (.cstr ")") .nil)))))) [s0, some (.ref S.length), some (R x.1), some (R x.2), some (.str (base x.1))] T = some (.nx [s0, some (.ref S.length), some (R x.1), some (R x.2), some (.str (base x.1))] (S ++ [.lst ((acc ++ [piece x]).map encS)])) := by
      have e : evE (orc G O) G (.fstr (.cons (.fmt (.var 4)) (.cons (.cstr "^(") (.cons (.fmt (.blt .str (.cons (.var 3) .nil))) (.cons (.cstr ")") .nil))))) [s0, some (.ref S.length), some (R x.1), some (R x.2), some (.str (base x.1))] T = some (.str (piece x), T) := by
        have hfl : [base x.1, cs "^(", sR x.2, cs ")"].flatten = piece x := by simp [piece]
        have z1 : (base x.1).length ≤ 16777216 := by omega
        have z2 : (sR x.2).length ≤ 16777216 := by omega
        generalize x.2 = v at q2 z2 hfl ⊢
        simp only [R] at q2
        simp only [evE, evEs, List.getElem?_cons_zero, List.getElem?_cons_succ, bltD, R, z1, if_true, q2, z2, strsOf, Option.map_some, hfl]
        rw [if_pos (by omega)]
      rw [evS]
      simp only [List.getElem?_cons_zero, List.getElem?_cons_succ, g1, e]
      rw [if_pos (by simpa using g3), g2]
      simp [encS]
    have c1 : (cs "(x - ").length = 5 := rfl
    have c2 : (cs "(x + ").length = 5 := rfl
    have c3 : (cs ")").length = 1 := rfl
    have cgt : evE (orc G O) G (.cmp .gt (.fld (.var 2) "n") (.cint 0)) [s0, some (.ref S.length), some (R x.1), some (R x.2), some (.str (cs "x"))] T = some (.bl (decide (0 < x.1.num)), T) := by simp [evE, fld_n b.toBase]
    have clt : ∀ d, evE (orc G O) G (.cmp .lt (.fld (.var 2) "n") (.cint 0)) [s0, some (.ref S.length), some (R x.1), some (R x.2), some d] T = some (.bl (decide (x.1.num < 0)), T) := fun d => by simp [evE, fld_n b.toBase]
    refine b_nx (en' := [s0, some (.ref S.length), some (R x.1), some (R x.2), some (.str (cs "x"))]) (S' := T) (s_asg (by rw [evE])) ?_
    by_cases hp : 0 < x.1.num
    · have q1 := (Ratio_str b (by omega) h1.n h1.d).low (n := O) (j := 2) (by omega) (S := T)
      have lq := sR_len h1 (by omega)
      rw [decide_eq_true hp] at cgt
      have clt := clt (.str (base x.1))
      rw [decide_eq_false (by omega)] at clt
      have eb : base x.1 = cs "(x - " ++ (sR x.1 ++ cs ")") := by unfold base; rw [if_pos hp]
      refine b_nx (en' := [s0, some (.ref S.length), some (R x.1), some (R x.2), some (.str (base x.1))]) (S' := T) (s_true (S1 := T) cgt (b_nx (s_asg ?_) (by rw [evB]; rfl))) (b_nx (en' := [s0, some (.ref S.length), some (R x.1), some (R x.2), some (.str (base x.1))]) (S' := T) (s_false (S1 := T) clt (by rw [evB])) (b_nx fin (by rw [evB])))
      have z2 : (sR x.1).length ≤ 16777216 := by omega
      have hfl : [cs "(x - ", sR x.1, cs ")"].flatten = base x.1 := by rw [eb]; simp
      generalize x.1 = v at q1 z2 hfl bl ⊢
      simp only [R] at q1
      simp only [evE, evEs, List.getElem?_cons_zero, List.getElem?_cons_succ, bltD, R, q1, strsOf]
      simp only [z2, if_true, strsOf, Option.map_some, hfl]
      rw [if_pos (by omega)]
    · rw [decide_eq_false hp] at cgt
      by_cases hn : x.1.num < 0
      · have q1 := (Ratio_str b (q := -x.1) (by rw [Rat.neg_num]; omega) h1.neg.n h1.neg.d).low (n := O) (j := 2) (by omega) (S := T)
        have ng := (Ratio_neg b.toBase h1.sm).low (n := O) (j := 0) (by omega) (S := T)
        have lq := sR_len h1.neg (by rw [Rat.neg_num]; omega)
        have clt := clt (.str (cs "x"))
        rw [decide_eq_true hn] at clt
        have eb : base x.1 = cs "(x + " ++ (sR (-x.1) ++ cs ")") := by unfold base; rw [if_neg hp, if_pos hn]
        refine b_nx (en' := [s0, some (.ref S.length), some (R x.1), some (R x.2), some (.str (cs "x"))]) (S' := T) (s_false (S1 := T) cgt (by rw [evB])) (b_nx (en' := [s0, some (.ref S.length), some (R x.1), some (R x.2), some (.str (base x.1))]) (S' := T) (s_true (S1 := T) clt (b_nx (s_asg ?_) (by rw [evB]; rfl))) (b_nx fin (by rw [evB])))
        have z2 : (sR (-x.1)).length ≤ 16777216 := by omega
        have hfl : [cs "(x + ", sR (-x.1), cs ")"].flatten = base x.1 := by rw [eb]; simp
        generalize -x.1 = u at q1 z2 hfl ng
        generalize x.1 = v at q1 z2 hfl bl ng ⊢
        simp only [R] at q1 ng
        simp only [evE, evEs, List.getElem?_cons_zero, List.getElem?_cons_succ, bltD, R, ng, q1, strsOf]
        simp only [z2, if_true, strsOf, Option.map_some, hfl]
        rw [if_pos (by omega)]
      · have eb : base x.1 = cs "x" := by unfold base; rw [if_neg hp, if_neg hn]
        have clt := clt (.str (cs "x"))
        rw [decide_eq_false hn] at clt
        rw [eb] at fin
        exact b_nx (en' := [s0, some (.ref S.length), some (R x.1), some (R x.2), some (.str (cs "x"))]) (S' := T) (s_false (S1 := T) cgt (by rw [evB])) (b_nx (en' := [s0, some (.ref S.length), some (R x.1), some (R x.2), some (.str (cs "x"))]) (S' := T) (s_false (S1 := T) clt (by rw [evB])) (b_nx fin (by rw [evB, eb])))
omit b in
def PPs (l : List (Rat × Rat)) : List Nat := if l = [] then cs "1" else joinL (cs "*") (l.map piece)
theorem PP_str {l : List (Rat × Rat)} (h : ∀ x ∈ l, TX x.1 ∧ TX x.2 ∧ 0 ≤ x.2.num) (hz : l.length ≤ 1000) : PF G 7 ("PowerProduct", "__str__") [PD l] (.str (PPs l)) := by
  refine pf_of b.pp_str rfl rfl fun n S hn => ⟨[.lst ((l.map piece).map encS)], .inl ?_⟩
  have henv : List.map some (fillD Pg.PowerProduct___str__ [PD l]) ++ List.replicate (Pg.PowerProduct___str__.nm.length - Pg.PowerProduct___str__.np) none = [some (PD l), none, none, none, none] := rfl
  rw [henv]
  obtain ⟨t2, t3, t4, w⟩ := pps_for b (O := n) hn (s0 := some (PD l)) (S := S) l [] none none none h (by simpa using hz)
  rw [List.nil_append] at w
  have g1 : (S ++ [Cell.lst ((l.map piece).map encS)])[S.length]? = some (.lst ((l.map piece).map encS)) := by
    rw [List.getElem?_append_right (by omega)]; simp
  refine b_nx (en' := [some (PD l), some (.ref S.length), none, none, none]) (S' := S ++ [.lst []]) ?_ (b_nx (s_for (S1 := (S ++ [Cell.lst (List.map encS [])] : Store)) (ds := l.map enc2) ?_ w) ?_)
  · simp [evS, evE, evEs, clen]
  · simp [evIt, evE, fld_pairs b, seqOf]
  · by_cases he : l = []
    · refine b_rt (s_true (S1 := S ++ [.lst ((l.map piece).map encS)]) ?_ (b_rt (s_ret ?_)))
      · simp [evE, evEs, bltD, lenD, eqD, he]
      · rw [evE]; unfold PPs; rw [if_pos he]
    · have hne : (((l.map piece).map encS).length : Int) ≠ 0 := by
        have := List.length_pos_iff.mpr he
        simp; omega
      have hb : ((((l.map piece).map encS).length : Int) == 0) = false := by simpa using hne
      refine b_nx (en' := [some (PD l), some (.ref S.length), t2, t3, t4]) (S' := S ++ [.lst ((l.map piece).map encS)]) (s_false (S1 := S ++ [.lst ((l.map piece).map encS)]) ?_ (by rw [evB])) (b_rt (s_ret ?_))
      · simp only [evE, evEs, bltD, lenD, List.getElem?_cons_zero, List.getElem?_cons_succ, g1, eqD, hb]
      · have hs : ∀ xs : List (List Nat), (∀ x ∈ xs, x.length ≤ 220) → (xs.map List.length).sum ≤ xs.length * 220 := fun xs => by
          induction xs with
          | nil => intro _; simp
          | cons x xs ih =>
            intro h
            have a := h x (.head _)
            have := ih fun y hy => h y (.tail _ hy)
            simp only [List.map_cons, List.sum_cons, List.length_cons, Nat.add_mul]; omega
        have hsum := hs (l.map piece) fun x hx => by
          obtain ⟨y, hy, rfl⟩ := List.mem_map.mp hx
          obtain ⟨h1, h2, h3⟩ := h y hy
          exact piece_len h1 h2 h3
        have c1 : (cs "*").length = 1 := rfl
        simp only [evE, List.getElem?_cons_zero, List.getElem?_cons_succ, seqOf, g1, strsOf_map, c1]
        rw [List.length_map] at hsum ⊢
        rw [if_pos (by omega)]
        unfold PPs
        rw [if_neg he]
end
end Ev

set_option linter.all false
/-! L55: the defs of law k55 itself in the small language (printed by ir.py). -/
namespace L55
open Iv
def f__law_numbers : Fn := ⟨["_law_script", "_law_found", "_law_k", "_law_cell", "_law_turn", "_law_i", "_law_mixed"], 1, [],
 (.cons (.new 1 (.lst .nil))
 (.cons (.for_ (.one 2) (.range (.cons (.blt .min2 (.cons (.blt .len (.cons (.var 0) .nil)) (.cons (.cint 63) .nil))) .nil))
 (.cons (.asg 3 (.blt .abs (.cons (.ix (.var 0) (.var 2)) .nil)))
 (.cons (.if_ (.cmp .ge (.var 3) (.bin .pow (.cint 10) (.cint 18)))
 (.cons (.for_ (.one 4) (.range (.cons (.cint 60) .nil))
 (.cons (.if_ (.cmp .gt (.var 3) (.cint 0))
 (.cons (.app 1 (.bin .mod (.var 3) (.cint 1009)))
 (.cons (.asg 3 (.bin .fdiv (.var 3) (.cint 1009)))
 .nil))
 .nil)
 .nil))
 .nil)
 (.cons (.for_ (.one 5) (.range (.cons (.cint 5) .nil))
 (.cons (.asg 3 (.bin .mod (.bin .add (.bin .add (.bin .mul (.var 3) (.cint 48271)) (.bin .mul (.cint 69621) (.bin .add (.var 5) (.var 2)))) (.cint 11)) (.cint 2147483647)))
 (.cons (.asg 6 (.bin .mod (.bin .add (.bin .mul (.var 3) (.cint 16807)) (.bin .fdiv (.var 3) (.cint 65536))) (.cint 2147483629)))
 (.cons (.app 1 (.bin .mod (.var 6) (.cint 1009)))
 .nil))))
 .nil))
 .nil)))
 (.cons (.ret (.var 1))
 .nil)))⟩
def f__law_next : Fn := ⟨["_law_numbers_here", "_law_many"], 2, [],
 (.cons (.if_ (.cmp .eq (.blt .len (.cons (.var 0) .nil)) (.cint 0))
 (.cons (.ret (.cint 0))
 .nil)
 .nil)
 (.cons (.ret (.bin .mod (.pop0 0) (.var 1)))
 .nil))⟩
def f__law_pairs : Fn := ⟨["_law_numbers_here", "_law_found", "_law_turn", "_law_s"], 1, [],
 (.cons (.new 1 (.lst .nil))
 (.cons (.for_ (.one 2) (.range (.cons (.call "_law_next" (.cons (.var 0) (.cons (.cint 5) .nil))) .nil))
 (.cons (.asg 3 (.bin .sub (.call "_law_next" (.cons (.var 0) (.cons (.cint 6) .nil))) (.cint 2)))
 (.cons (.app 1 (.tup (.cons (.var 3) (.cons (.tup (.cons (.bin .sub (.call "_law_next" (.cons (.var 0) (.cons (.cint 7) .nil))) (.cint 3)) (.cons (.bin .add (.cint 1) (.call "_law_next" (.cons (.var 0) (.cons (.cint 3) .nil)))) .nil))) .nil))))
 .nil)))
 (.cons (.ret (.frz 1))
 .nil)))⟩
def f__law_given : Fn := ⟨["_law_pairs_here", "_law_s", "_law_e"], 1, [],
 (.cons (.ret (.blt .tuple (.cons (.lc (.many [1, 2]) (.seq (.var 0)) (.tup (.cons (.mk "Ratio" (.cons (.var 1) .nil)) (.cons (.mk "Ratio" (.cons (.ix (.var 2) (.cint 0)) (.cons (.ix (.var 2) (.cint 1)) .nil))) .nil)))) .nil)))
 .nil)⟩
def f__law_sixths : Fn := ⟨["_law_pairs_here", "_law_s", "_law_total", "_law_point", "_law_e"], 2, [],
 (.cons (.asg 2 (.cint 0))
 (.cons (.for_ (.many [3, 4]) (.seq (.var 0))
 (.cons (.if_ (.cmp .eq (.var 3) (.var 1))
 (.cons (.asg 2 (.bin .add (.var 2) (.bin .mul (.ix (.var 4) (.cint 0)) (.bin .fdiv (.cint 6) (.ix (.var 4) (.cint 1))))))
 .nil)
 .nil)
 .nil))
 (.cons (.ret (.var 2))
 .nil)))⟩
def f__law_due : Fn := ⟨["_law_pairs_here", "_law_found", "_law_s", "_law_rest"], 1, [],
 (.cons (.new 1 (.lst .nil))
 (.cons (.for_ (.one 2) (.range (.cons (.neg (.cint 2)) (.cons (.cint 4) .nil)))
 (.cons (.asg 3 (.bin .mod (.blt .int (.cons (.call "_law_sixths" (.cons (.var 0) (.cons (.var 2) .nil))) .nil)) (.cint 6)))
 (.cons (.if_ (.cmp .ne (.var 3) (.cint 0))
 (.cons (.app 1 (.tup (.cons (.mk "Ratio" (.cons (.var 2) .nil)) (.cons (.mk "Ratio" (.cons (.var 3) (.cons (.cint 6) .nil))) .nil))))
 .nil)
 .nil)
 .nil)))
 (.cons (.ret (.frz 1))
 .nil)))⟩
def f__law_text : Fn := ⟨["_law_pairs_here", "_law_pieces", "_law_s", "_law_e", "_law_base"], 1, [],
 (.cons (.new 1 (.lst .nil))
 (.cons (.for_ (.many [2, 3]) (.seq (.call "_law_due" (.cons (.var 0) .nil)))
 (.cons (.asg 4 (.cstr "x"))
 (.cons (.if_ (.cmp .gt (.fld (.var 2) "n") (.cint 0))
 (.cons (.asg 4 (.bin .add (.bin .add (.cstr "(x - ") (.blt .str (.cons (.fld (.var 2) "n") .nil))) (.cstr ")")))
 .nil)
 .nil)
 (.cons (.if_ (.cmp .lt (.fld (.var 2) "n") (.cint 0))
 (.cons (.asg 4 (.bin .add (.bin .add (.cstr "(x + ") (.blt .str (.cons (.neg (.fld (.var 2) "n")) .nil))) (.cstr ")")))
 .nil)
 .nil)
 (.cons (.app 1 (.bin .add (.bin .add (.bin .add (.bin .add (.bin .add (.var 4) (.cstr "^(")) (.blt .str (.cons (.fld (.var 3) "n") .nil))) (.cstr "/")) (.blt .str (.cons (.fld (.var 3) "d") .nil))) (.cstr ")")))
 .nil)))))
 (.cons (.if_ (.cmp .eq (.blt .len (.cons (.var 1) .nil)) (.cint 0))
 (.cons (.ret (.cstr "1"))
 .nil)
 .nil)
 (.cons (.ret (.join "*" (.var 1)))
 .nil))))⟩
def f_law : Fn := ⟨["_law_script", "_law_numbers_here", "_law_one", "_law_two", "_law_a", "_law_b", "_law_at", "_law_due_here", "_law_s", "_law_slope", "_law_plain", "_law_e"], 1, [],
 (.cons (.asg 1 (.call "_law_numbers" (.cons (.var 0) .nil)))
 (.cons (.asg 2 (.call "_law_pairs" (.cons (.var 1) .nil)))
 (.cons (.asg 3 (.call "_law_pairs" (.cons (.var 1) .nil)))
 (.cons (.asg 4 (.mk "PowerProduct" (.cons (.call "_law_given" (.cons (.var 2) .nil)) .nil)))
 (.cons (.asg 5 (.mk "PowerProduct" (.cons (.blt .list (.cons (.call "_law_given" (.cons (.var 3) .nil)) .nil)) .nil)))
 (.cons (.if_ (.or_ (.cmp .ne (.lsto (.var 4)) (.call "_law_due" (.cons (.var 2) .nil))) (.or_ (.cmp .ne (.blt .len (.cons (.var 4) .nil)) (.blt .len (.cons (.call "_law_due" (.cons (.var 2) .nil)) .nil))) (.cmp .ne (.blt .str (.cons (.var 4) .nil)) (.call "_law_text" (.cons (.var 2) .nil)))))
 (.cons (.ret (.cbl false))
 .nil)
 .nil)
 (.cons (.if_ (.or_ (.cmp .ne (.var 4) (.mk "PowerProduct" (.cons (.call "_law_given" (.cons (.slRev (.var 2)) .nil)) .nil))) (.cmp .ne (.cmp .eq (.var 4) (.var 5)) (.cmp .eq (.call "_law_due" (.cons (.var 2) .nil)) (.call "_law_due" (.cons (.var 3) .nil)))))
 (.cons (.ret (.cbl false))
 .nil)
 .nil)
 (.cons (.if_ (.or_ (.cmp .ne (.bin .mul (.var 4) (.var 5)) (.mk "PowerProduct" (.cons (.call "_law_given" (.cons (.bin .add (.var 2) (.var 3)) .nil)) .nil))) (.cmp .ne (.bin .mul (.var 5) (.var 4)) (.bin .mul (.var 4) (.var 5))))
 (.cons (.ret (.cbl false))
 .nil)
 .nil)
 (.cons (.asg 6 (.mk "Ratio" (.cons (.bin .add (.cint 7) (.call "_law_next" (.cons (.var 1) (.cons (.cint 5) .nil)))) .nil)))
 (.cons (.asg 7 (.mk "Ratio" (.cons (.cint 1) .nil)))
 (.cons (.for_ (.one 8) (.range (.cons (.neg (.cint 2)) (.cons (.cint 4) .nil)))
 (.cons (.if_ (.cmp .ge (.bin .add (.bin .mod (.blt .int (.cons (.call "_law_sixths" (.cons (.var 2) (.cons (.var 8) .nil))) .nil)) (.cint 6)) (.bin .mod (.blt .int (.cons (.call "_law_sixths" (.cons (.var 3) (.cons (.var 8) .nil))) .nil)) (.cint 6))) (.cint 6))
 (.cons (.asg 7 (.bin .mul (.var 7) (.bin .sub (.var 6) (.mk "Ratio" (.cons (.var 8) .nil)))))
 .nil)
 .nil)
 .nil))
 (.cons (.if_ (.cmp .ne (.app (.mth (.var 4) "PowerProduct" "surplus" (.cons (.var 5) .nil)) "RatFun" (.cons (.var 6) .nil)) (.var 7))
 (.cons (.ret (.cbl false))
 .nil)
 .nil)
 (.cons (.asg 9 (.mk "Ratio" (.cons (.cint 0) .nil)))
 (.cons (.for_ (.many [8, 11]) (.seq (.call "_law_due" (.cons (.var 2) .nil)))
 (.cons (.asg 9 (.bin .add (.var 9) (.mth (.var 11) "Ratio" "over" (.cons (.bin .sub (.var 6) (.var 8)) .nil))))
 .nil))
 (.cons (.if_ (.or_ (.cmp .ne (.app (.mth (.var 4) "PowerProduct" "log_derivative" .nil) "RatFun" (.cons (.var 6) .nil)) (.var 9)) (.isN true (.app (.mth (.var 4) "PowerProduct" "log_derivative" .nil) "RatFun" (.cons (.var 6) .nil))))
 (.cons (.ret (.cbl false))
 .nil)
 .nil)
 (.cons (.asg 10 (.cmth "PowerProduct.without_factors" "PowerProduct" "without_factors" .nil))
 (.cons (.ret (.and_ (.cmp .eq (.blt .len (.cons (.var 10) .nil)) (.cint 0)) (.and_ (.cmp .eq (.blt .str (.cons (.var 10) .nil)) (.cstr "1")) (.and_ (.cmp .eq (.bin .mul (.var 4) (.var 10)) (.var 4)) (.isB false (.cmp .eq (.var 4) (.cint 1)))))))
 .nil)))))))))))))))))⟩
end L55

set_option linter.all false
set_option maxRecDepth 100000
set_option exponentiation.threshold 500000
/-! L55A: law k55, the plain part: factors by sixths. -/
namespace L55
open Iv Mq Ev
def Srt (l : List Rat) : Prop := l.Pairwise (· < ·)
theorem ins_mem (s x : Rat) : ∀ l : List Rat, x ∈ insR s l ↔ x = s ∨ x ∈ l
  | [] => by simp [insR]
  | t :: l => by
    have ih := ins_mem s x l
    unfold insR
    split
    · simp only [List.mem_cons, ih]; constructor <;> intro h <;> grind
    · split
      · rename_i h1 h2; subst h2; simp
      · simp
theorem ins_srt (s : Rat) : ∀ {l : List Rat}, Srt l → Srt (insR s l)
  | [], h => by simp [insR, Srt]
  | t :: l, h => by
    obtain ⟨h1, h2⟩ := List.pairwise_cons.mp h
    unfold insR
    split
    · rename_i hts
      refine List.pairwise_cons.mpr ⟨fun x hx => ?_, ins_srt s h2⟩
      rcases (ins_mem s x l).mp hx with rfl | hx
      · exact hts
      · exact h1 x hx
    · split
      · exact h
      · refine List.pairwise_cons.mpr ⟨fun x hx => ?_, h⟩
        rcases List.mem_cons.mp hx with rfl | hx
        · grind
        · have := h1 x hx; grind
theorem inO_srt : ∀ {xs found : List Rat}, Srt found → Srt (inO found xs) ∧ ∀ x, x ∈ inO found xs ↔ x ∈ found ∨ x ∈ xs
  | [], found, h => ⟨h, fun x => by simp [inO]⟩
  | s :: xs, found, h => by
    obtain ⟨h1, h2⟩ := inO_srt (xs := xs) (ins_srt s h)
    refine ⟨h1, fun x => ?_⟩
    have := h2 x
    rw [ins_mem] at this
    show x ∈ inO (insR s found) xs ↔ _
    rw [this]; simp only [List.mem_cons]; constructor <;> intro h <;> grind
def SrtP (l : List (Rat × Rat)) : Prop := l.Pairwise fun x y => x.1 < y.1
theorem srt_ext : ∀ {l m : List (Rat × Rat)}, SrtP l → SrtP m → (∀ x, x ∈ l ↔ x ∈ m) → l = m
  | [], [], _, _, _ => rfl
  | [], y :: m, _, _, h => absurd ((h y).mpr (.head _)) (by simp)
  | x :: l, [], _, _, h => absurd ((h x).mp (.head _)) (by simp)
  | x :: l, y :: m, hl, hm, h => by
    obtain ⟨l1, l2⟩ := List.pairwise_cons.mp hl
    obtain ⟨m1, m2⟩ := List.pairwise_cons.mp hm
    have e : x = y := by
      rcases List.mem_cons.mp ((h x).mp (.head _)) with e | hx
      · exact e
      · rcases List.mem_cons.mp ((h y).mpr (.head _)) with e | hy
        · exact e.symm
        · have a := m1 x hx; have b := l1 y hy; grind
    subst e
    refine congrArg (x :: ·) (srt_ext l2 m2 fun z => ?_)
    have hz := h z
    simp only [List.mem_cons] at hz
    constructor
    · intro k
      rcases hz.mp (.inr k) with rfl | k'
      · have := l1 z k; grind
      · exact k'
    · intro k
      rcases hz.mpr (.inr k) with rfl | k'
      · have := m1 z k; grind
      · exact k'
theorem fm_srt {α : Type} {f : α → Option (Rat × Rat)} {g : α → Rat} (hf : ∀ a y, f a = some y → y.1 = g a) : ∀ {l : List α}, l.Pairwise (fun a b => g a < g b) → SrtP (l.filterMap f)
  | [], _ => .nil
  | a :: l, h => by
    obtain ⟨h1, h2⟩ := List.pairwise_cons.mp h
    have ih := fm_srt hf h2
    rw [List.filterMap_cons]
    split
    · exact ih
    · rename_i y hy
      refine List.pairwise_cons.mpr ⟨fun z hz => ?_, ih⟩
      obtain ⟨b, hb, e⟩ := List.mem_filterMap.mp hz
      rw [hf a y hy, hf b z e]
      exact h1 b hb
theorem tot_none {p : Rat} : ∀ {fs : List (Rat × Rat)} (t : Rat), (∀ x ∈ fs, x.1 ≠ p) → totF p fs t = t
  | [], t, h => rfl
  | x :: fs, t, h => by
    have e : totF p (x :: fs) t = totF p fs (if x.1 = p then t + x.2 else t) := rfl
    rw [e, if_neg (h x (.head _))]
    exact tot_none t fun y hy => h y (.tail _ hy)
theorem tot_add {p : Rat} : ∀ (fs : List (Rat × Rat)) (t : Rat), totF p fs t = t + totF p fs 0
  | [], t => by simp only [totF, List.foldl_nil]; grind
  | x :: fs, t => by
    have e : ∀ t, totF p (x :: fs) t = totF p fs (if x.1 = p then t + x.2 else t) := fun _ => rfl
    rw [e, e]
    split
    · rw [tot_add fs (t + x.2), tot_add fs (0 + x.2)]; grind
    · exact tot_add fs t
theorem tot_app {p : Rat} (fs gs : List (Rat × Rat)) : totF p (fs ++ gs) 0 = totF p fs 0 + totF p gs 0 := by
  have e : totF p (fs ++ gs) 0 = totF p gs (totF p fs 0) := List.foldl_append ..
  rw [e, tot_add]
theorem part_zero : part 0 = 0 := by decide +kernel
/-- the factors, by membership -/
theorem PPf_mem (fs : List (Rat × Rat)) (x : Rat × Rat) : x ∈ PPf fs ↔ x.2 = part (totF x.1 fs 0) ∧ x.2 ≠ 0 := by
  obtain ⟨p, e⟩ := x
  unfold PPf
  rw [List.mem_filterMap]
  have hm := (inO_srt (xs := fs.map (·.1)) (found := []) .nil).2
  constructor
  · rintro ⟨q, hq, hk⟩
    unfold keep at hk
    split at hk
    · cases hk
    · rename_i h0
      have := Option.some.inj hk
      cases this
      exact ⟨rfl, h0⟩
  · rintro ⟨h1, h2⟩
    refine ⟨p, ?_, ?_⟩
    · rw [hm p]
      right
      by_cases hc : p ∈ fs.map (·.1)
      · exact hc
      · exfalso
        have : totF p fs 0 = 0 := tot_none 0 fun x hx e => hc (by rw [← e]; exact List.mem_map.mpr ⟨x, hx, rfl⟩)
        dsimp only at h1
        rw [this, part_zero] at h1
        exact h2 h1
    · unfold keep
      dsimp only at h1 h2
      rw [← h1, if_neg h2]
theorem PPf_srt (fs : List (Rat × Rat)) : SrtP (PPf fs) := by
  refine fm_srt (g := fun p => p) (fun a y h => ?_) (inO_srt (xs := fs.map (fun x : Rat × Rat => x.1)) (found := []) .nil).1
  unfold keep at h
  split at h
  · cases h
  · rw [← Option.some.inj h]
/-! ### sixths -/
def rng : List Int := [-2, -1, 0, 1, 2, 3]
def sx (x : Int → Int) (s : Int) : Option (Rat × Rat) := if x s % 6 = 0 then none else some ((s : Rat), ((x s % 6 : Int) : Rat) / 6)
/-- the factors with x s sixths at s -/
def dueX (x : Int → Int) : List (Rat × Rat) := rng.filterMap (sx x)
theorem part_six (x : Int) : part ((x : Rat) / 6) = ((x % 6 : Int) : Rat) / 6 := by
  have h6 : (6 : Rat) ≠ 0 := by decide
  have hf : ((x : Rat) / 6).floor = x / 6 := by
    have h1 : x / 6 ≤ ((x : Rat) / 6).floor := by
      rw [Rat.le_floor_iff]
      have : 6 * (x / 6) ≤ x := by omega
      have h : ((6 * (x / 6) : Int) : Rat) ≤ (x : Rat) := by exact_mod_cast this
      rw [Rat.intCast_mul] at h
      grind
    have h2 : ((x : Rat) / 6).floor < x / 6 + 1 := by
      rw [Rat.floor_lt_iff]
      have : x < 6 * (x / 6 + 1) := by omega
      have h : (x : Rat) < ((6 * (x / 6 + 1) : Int) : Rat) := by exact_mod_cast this
      rw [Rat.intCast_mul] at h
      grind
    omega
  unfold part
  rw [hf]
  have e : ((x % 6 : Int) : Rat) = (x : Rat) - 6 * ((x / 6 : Int) : Rat) := by
    have : x % 6 = x - 6 * (x / 6) := by omega
    rw [this, Rat.intCast_sub, Rat.intCast_mul]; rfl
  rw [e]; grind
theorem six_ne {r : Int} (h : r ≠ 0) : (r : Rat) / 6 ≠ 0 := by
  have : (r : Rat) ≠ 0 := by exact_mod_cast h
  grind
theorem rng_srt : rng.Pairwise fun (a b : Int) => (a : Rat) < (b : Rat) := by
  have : rng.Pairwise (· < ·) := by decide
  exact this.imp fun h => by exact_mod_cast h
theorem dueX_srt (x : Int → Int) : SrtP (dueX x) := by
  refine fm_srt (g := fun s : Int => (s : Rat)) (fun a y h => ?_) rng_srt
  unfold sx at h
  split at h
  · cases h
  · rw [← Option.some.inj h]
theorem dueX_mem (x : Int → Int) (y : Rat × Rat) : y ∈ dueX x ↔ ∃ s ∈ rng, y.1 = (s : Rat) ∧ y.2 = ((x s % 6 : Int) : Rat) / 6 ∧ x s % 6 ≠ 0 := by
  unfold dueX
  rw [List.mem_filterMap]
  constructor
  · rintro ⟨s, hs, h⟩
    unfold sx at h
    split at h
    · cases h
    · rename_i h0
      rw [← Option.some.inj h]
      exact ⟨s, hs, rfl, rfl, h0⟩
  · rintro ⟨s, hs, h1, h2, h3⟩
    refine ⟨s, hs, ?_⟩
    unfold sx
    rw [if_neg h3, ← h1, ← h2]
/-- the power product of factors at the points of the range -/
theorem PPf_due {fs : List (Rat × Rat)} {x : Int → Int} (hp : ∀ y ∈ fs, ∃ s ∈ rng, y.1 = (s : Rat)) (ht : ∀ s ∈ rng, totF (s : Rat) fs 0 = (x s : Rat) / 6) : PPf fs = dueX x := by
  refine srt_ext (PPf_srt fs) (dueX_srt x) fun y => ?_
  rw [PPf_mem, dueX_mem]
  constructor
  · rintro ⟨h1, h2⟩
    have : ∃ s ∈ rng, y.1 = (s : Rat) := by
      apply Classical.byContradiction
      intro hn
      have : totF y.1 fs 0 = 0 := tot_none 0 fun z hz e => hn (by obtain ⟨s, hs, e2⟩ := hp z hz; exact ⟨s, hs, by rw [← e, e2]⟩)
      rw [this, part_zero] at h1
      exact h2 h1
    obtain ⟨s, hs, e⟩ := this
    rw [e, ht s hs, part_six] at h1
    refine ⟨s, hs, e, h1, fun h0 => h2 ?_⟩
    rw [h1, h0]
    decide +kernel
  · rintro ⟨s, hs, h1, h2, h3⟩
    rw [h1, ht s hs, part_six]
    exact ⟨h2, by rw [h2]; exact six_ne h3⟩
theorem dueX_pt (x : Int → Int) : ∀ y ∈ dueX x, ∃ s ∈ rng, y.1 = (s : Rat) := fun y hy => by
  obtain ⟨s, hs, h, _⟩ := (dueX_mem x y).mp hy
  exact ⟨s, hs, h⟩
/-- the exponent at a point -/
theorem fm_tot {x : Int → Int} {s : Int} : ∀ {l : List Int}, l.Nodup → totF (s : Rat) (l.filterMap (sx x)) 0 = if s ∈ l then ((x s % 6 : Int) : Rat) / 6 else 0
  | [], _ => by simp [totF]
  | a :: l, h => by
    obtain ⟨h1, h2⟩ := List.nodup_cons.mp h
    have ih := fm_tot (x := x) (s := s) h2
    rw [List.filterMap_cons]
    by_cases ha : a = s
    · subst ha
      rw [if_neg h1] at ih
      rw [if_pos (.head _)]
      by_cases h0 : x a % 6 = 0
      · have e : sx x a = none := by unfold sx; rw [if_pos h0]
        rw [e]
        dsimp only
        rw [ih, h0]; decide +kernel
      · have e : sx x a = some ((a : Rat), ((x a % 6 : Int) : Rat) / 6) := by unfold sx; rw [if_neg h0]
        rw [e]
        show totF (a : Rat) (l.filterMap (sx x)) (if (a : Rat) = (a : Rat) then 0 + ((x a % 6 : Int) : Rat) / 6 else 0) = _
        rw [if_pos rfl, tot_add, ih]; grind
    · have hne : (a : Rat) ≠ (s : Rat) := fun e => ha (by exact_mod_cast e)
      have hm : (s ∈ a :: l) ↔ s ∈ l := by simp only [List.mem_cons]; constructor <;> intro h <;> grind
      simp only [hm]
      rw [← ih]
      split
      · rfl
      · rename_i y q
        unfold sx at q
        split at q
        · cases q
        · rw [← Option.some.inj q]
          show totF (s : Rat) (l.filterMap (sx x)) (if (a : Rat) = (s : Rat) then _ else 0) = _
          rw [if_neg hne]
theorem due_tot (x : Int → Int) {s : Int} (hs : s ∈ rng) : totF (s : Rat) (dueX x) 0 = ((x s % 6 : Int) : Rat) / 6 := by
  unfold dueX
  rw [fm_tot (by decide), if_pos hs]
theorem expo_tot {s : Rat} : ∀ {l : List (Rat × Rat)}, SrtP l → expo s l = totF s l 0
  | [], _ => rfl
  | y :: l, h => by
    obtain ⟨h1, h2⟩ := List.pairwise_cons.mp h
    have ih := expo_tot (s := s) h2
    rw [expo]
    have e : totF s (y :: l) 0 = totF s l (if y.1 = s then 0 + y.2 else 0) := rfl
    rw [e]
    by_cases hy : y.1 = s
    · rw [if_pos hy, if_pos hy, tot_none _ fun z hz q => by have := h1 z hz; grind]; grind
    · rw [if_neg hy, if_neg hy, ih]
theorem due_expo (x : Int → Int) {s : Int} (hs : s ∈ rng) : expo (s : Rat) (dueX x) = ((x s % 6 : Int) : Rat) / 6 := by rw [expo_tot (dueX_srt x), due_tot x hs]
/-- the product -/
theorem due_mul (x y : Int → Int) : PPf (dueX x ++ dueX y) = dueX fun s => x s + y s := by
  have e : (dueX fun s => x s + y s) = dueX fun s => x s % 6 + y s % 6 := by
    unfold dueX
    congr 1
    funext s
    unfold sx
    have : (x s % 6 + y s % 6) % 6 = (x s + y s) % 6 := by omega
    simp only [this]
  rw [e]
  refine PPf_due (fun z hz => ?_) fun s hs => ?_
  · rcases List.mem_append.mp hz with h | h
    · exact dueX_pt x z h
    · exact dueX_pt y z h
  · rw [tot_app, due_tot x hs, due_tot y hs, Rat.intCast_add]; grind
theorem fm_surp {x y : Int → Int} : ∀ {l : List Int}, (∀ s ∈ l, s ∈ rng) → surp (l.filterMap (sx x)) (dueX y) = (l.filter fun s => decide (6 ≤ x s % 6 + y s % 6)).map fun s : Int => (s : Rat)
  | [], _ => rfl
  | a :: l, h => by
    have ih := fm_surp (x := x) (y := y) (l := l) fun s hs => h s (.tail _ hs)
    have hx := due_expo y (h a (.head _))
    rw [List.filterMap_cons]
    by_cases h0 : x a % 6 = 0
    · have e : sx x a = none := by unfold sx; rw [if_pos h0]
      rw [e]
      dsimp only
      rw [ih, List.filter_cons, if_neg]
      simp; omega
    · have e : sx x a = some ((a : Rat), ((x a % 6 : Int) : Rat) / 6) := by unfold sx; rw [if_neg h0]
      rw [e]
      dsimp only
      have hfl : (0 < (((x a % 6 : Int) : Rat) / 6 + expo (a : Rat) (dueX y)).floor) ↔ 6 ≤ x a % 6 + y a % 6 := by
        rw [hx, show (0 < (((x a % 6 : Int) : Rat) / 6 + ((y a % 6 : Int) : Rat) / 6).floor) ↔ (1 ≤ (((x a % 6 : Int) : Rat) / 6 + ((y a % 6 : Int) : Rat) / 6).floor) from Iff.rfl, Rat.le_floor_iff]
        have e1 : ((x a % 6 : Int) : Rat) / 6 + ((y a % 6 : Int) : Rat) / 6 = ((x a % 6 + y a % 6 : Int) : Rat) / 6 := by rw [Rat.intCast_add]; grind
        rw [e1]
        constructor
        · intro q
          have : ((6 : Int) : Rat) ≤ ((x a % 6 + y a % 6 : Int) : Rat) := by
            have e6 : ((6 : Int) : Rat) = 6 := rfl
            have e7 : ((1 : Int) : Rat) = 1 := rfl
            rw [e7] at q
            rw [e6]; grind
          exact_mod_cast this
        · intro q
          have : ((6 : Int) : Rat) ≤ ((x a % 6 + y a % 6 : Int) : Rat) := by exact_mod_cast q
          have e6 : ((6 : Int) : Rat) = 6 := rfl
          have e7 : ((1 : Int) : Rat) = 1 := rfl
          rw [e6] at this
          rw [e7]; grind
      have es : surp (((a : Rat), ((x a % 6 : Int) : Rat) / 6) :: l.filterMap (sx x)) (dueX y) = if 6 ≤ x a % 6 + y a % 6 then (a : Rat) :: surp (l.filterMap (sx x)) (dueX y) else surp (l.filterMap (sx x)) (dueX y) := by
        unfold surp
        rw [List.filter_cons]
        by_cases q : 6 ≤ x a % 6 + y a % 6
        · rw [if_pos q, if_pos (decide_eq_true (hfl.mpr q)), List.map_cons]
        · rw [if_neg q, if_neg]
          simpa using fun z => q (hfl.mp z)
      rw [es, List.filter_cons]
      by_cases q : 6 ≤ x a % 6 + y a % 6
      · rw [if_pos q, if_pos (decide_eq_true q), List.map_cons, ih]
      · rw [if_neg q, if_neg (by simpa using q), ih]
theorem due_surp (x y : Int → Int) : surp (dueX x) (dueX y) = (rng.filter fun s => decide (6 ≤ x s % 6 + y s % 6)).map fun s : Int => (s : Rat) := fm_surp fun _ h => h
end L55

set_option linter.all false
set_option maxRecDepth 100000
set_option exponentiation.threshold 500000
/-! L55B: law k55: its numbers. -/
namespace L55
open Iv Mq Ev
structure BaseL (G : Gi) : Prop extends BaseP G where
  l_numbers : G.fn ("", "_law_numbers") = some f__law_numbers
  l_next : G.fn ("", "_law_next") = some f__law_next
  l_pairs : G.fn ("", "_law_pairs") = some f__law_pairs
  l_given : G.fn ("", "_law_given") = some f__law_given
  l_sixths : G.fn ("", "_law_sixths") = some f__law_sixths
  l_due : G.fn ("", "_law_due") = some f__law_due
  l_text : G.fn ("", "_law_text") = some f__law_text
  l_law : G.fn ("", "law") = some f_law
  it_pp : G.itf "PowerProduct" = some "pairs"
  cm_pp : G.fn ("", "PowerProduct.without_factors") = some Pg.PowerProduct_without_factors
theorem st_get (S : Store) (c : Cell) : (S ++ [c])[S.length]? = some c := by rw [List.getElem?_append_right (Nat.le_refl _)]; simp
theorem st_set (S : Store) (c d : Cell) : (S ++ [c]).set S.length d = S ++ [d] := by rw [List.set_append_right _ _ (Nat.le_refl _)]; simp
theorem mulok_small {a b : Int} (ha : a.natAbs < 2 ^ 100) (hb : b.natAbs < 2 ^ 100) : mulOk a b := mul_ok (up ha (by decide)) (up hb (by decide))
def nb1 : Ss := (.cons (.if_ (.cmp .gt (.var 3) (.cint 0))
 (.cons (.app 1 (.bin .mod (.var 3) (.cint 1009)))
 (.cons (.asg 3 (.bin .fdiv (.var 3) (.cint 1009)))
 .nil))
 .nil)
 .nil)
def nb2 : Ss := (.cons (.asg 3 (.bin .mod (.bin .add (.bin .add (.bin .mul (.var 3) (.cint 48271)) (.bin .mul (.cint 69621) (.bin .add (.var 5) (.var 2)))) (.cint 11)) (.cint 2147483647)))
 (.cons (.asg 6 (.bin .mod (.bin .add (.bin .mul (.var 3) (.cint 16807)) (.bin .fdiv (.var 3) (.cint 65536))) (.cint 2147483629)))
 (.cons (.app 1 (.bin .mod (.var 6) (.cint 1009)))
 .nil)))
def nbO : Ss := (.cons (.asg 3 (.blt .abs (.cons (.ix (.var 0) (.var 2)) .nil)))
 (.cons (.if_ (.cmp .ge (.var 3) (.bin .pow (.cint 10) (.cint 18)))
 (.cons (.for_ (.one 4) (.range (.cons (.cint 60) .nil)) nb1)
 .nil)
 (.cons (.for_ (.one 5) (.range (.cons (.cint 5) .nil)) nb2)
 .nil))
 .nil))
theorem div1009 (c : Int) : divOk c 1009 := div_ok (by decide) (by decide)
theorem num_in1 {O : Orc} {G : Gi} {S : Store} {s0 s2 s5 s6 : Option DV} : ∀ (ts : List DV) (ns : List Int) (c : Int) (s4 : Option DV), ns.length + ts.length ≤ 100000 → ∃ ns' c' t4, ns'.length ≤ ns.length + ts.length ∧
    forL (.one 4) (evB O G nb1) none ts [s0, some (.ref S.length), s2, some (.int c), s4, s5, s6] (S ++ [.lst (Z ns)]) = some (.nx [s0, some (.ref S.length), s2, some (.int c'), t4, s5, s6] (S ++ [.lst (Z ns')]))
  | [], ns, c, s4, h => ⟨ns, c, s4, by simp, for_nil⟩
  | t :: ts, ns, c, s4, h => by
    rw [List.length_cons] at h
    by_cases hc : 0 < c
    · obtain ⟨ns', c', t4, h1, h2⟩ := num_in1 (O := O) (G := G) (S := S) (s0 := s0) (s2 := s2) (s5 := s5) (s6 := s6) ts (ns ++ [c.fmod 1009]) (c.fdiv 1009) (some t) (by simp; omega)
      refine ⟨ns', c', t4, by simp at h1 ⊢; omega, for_next (en1 := [s0, some (.ref S.length), s2, some (.int c), some t, s5, s6]) rfl (b_nx (en' := [s0, some (.ref S.length), s2, some (.int (c.fdiv 1009)), some t, s5, s6]) (S' := S ++ [.lst (Z (ns ++ [c.fmod 1009]))]) (s_true (S1 := S ++ [Cell.lst (Z ns)]) ?_ ?_) (by rw [evB])) h2⟩
      · simp [evE, hc]
      · have hl : ns.length < 16777216 := by omega
        simp [evB, evS, evE, binD, intOp, st_get, st_set, div1009, hl]
    · obtain ⟨ns', c', t4, h1, h2⟩ := num_in1 (O := O) (G := G) (S := S) (s0 := s0) (s2 := s2) (s5 := s5) (s6 := s6) ts ns c (some t) (by omega)
      refine ⟨ns', c', t4, by simp; omega, for_next (en1 := [s0, some (.ref S.length), s2, some (.int c), some t, s5, s6]) rfl (b_nx (en' := [s0, some (.ref S.length), s2, some (.int c), some t, s5, s6]) (S' := S ++ [.lst (Z ns)]) (s_false (S1 := S ++ [Cell.lst (Z ns)]) ?_ (by rw [evB])) (by rw [evB])) h2⟩
      have : decide (0 < c) = false := decide_eq_false hc
      simp [evE, this]
theorem fmod_lt {a b : Int} (hb : 0 < b) : 0 ≤ a.fmod b ∧ a.fmod b < b := ⟨Int.fmod_nonneg_of_pos a hb, Int.fmod_lt_of_pos a hb⟩
theorem num_in2 {O : Orc} {G : Gi} {S : Store} {s0 s4 : Option DV} {k : Int} (hk : k.natAbs ≤ 100) : ∀ (is ns : List Int) (c : Int) (s5 s6 : Option DV), (∀ i ∈ is, i.natAbs ≤ 100) → c.natAbs < 2 ^ 90 → ns.length + is.length ≤ 100000 → ∃ ns' c' t5 t6, ns'.length ≤ ns.length + is.length ∧
    forL (.one 5) (evB O G nb2) none (Z is) [s0, some (.ref S.length), some (.int k), some (.int c), s4, s5, s6] (S ++ [.lst (Z ns)]) = some (.nx [s0, some (.ref S.length), some (.int k), some (.int c'), s4, t5, t6] (S ++ [.lst (Z ns')]))
  | [], ns, c, s5, s6, hi, hc, h => ⟨ns, c, s5, s6, by simp, for_nil⟩
  | i :: is, ns, c, s5, s6, hi, hc, h => by
    rw [List.length_cons] at h
    have h0 := hi i (.head _)
    let c1 : Int := (c * 48271 + 69621 * (i + k) + 11).fmod 2147483647
    let m1 : Int := (c1 * 16807 + c1.fdiv 65536).fmod 2147483629
    have hc1 := fmod_lt (a := c * 48271 + 69621 * (i + k) + 11) (b := 2147483647) (by decide)
    obtain ⟨ns', c', t5, t6, g1, g2⟩ := num_in2 (O := O) (G := G) (S := S) (s0 := s0) (s4 := s4) hk is (ns ++ [m1.fmod 1009]) c1 (some (.int i)) (some (.int m1)) (fun j hj => hi j (.tail _ hj)) (by show ((c * 48271 + 69621 * (i + k) + 11).fmod 2147483647).natAbs < _; omega) (by simp; omega)
    refine ⟨ns', c', t5, t6, by simp at g1 ⊢; omega, for_next (en1 := [s0, some (.ref S.length), some (.int k), some (.int c), s4, some (.int i), s6]) rfl ?_ g2⟩
    have o1 : mulOk c 48271 := mulok_small (by omega) (by decide)
    have o2 : mulOk 69621 (i + k) := mulok_small (by decide) (by omega)
    have o3 : mulOk c1 16807 := mulok_small (by show ((c * 48271 + 69621 * (i + k) + 11).fmod 2147483647).natAbs < _; omega) (by decide)
    have o4 : divOk c1 65536 := div_ok (by decide) (by decide)
    have hl : ns.length < 16777216 := by omega
    refine b_nx (en' := [s0, some (.ref S.length), some (.int k), some (.int c1), s4, some (.int i), s6]) (S' := S ++ [.lst (Z ns)]) (s_asg ?_) (b_nx (en' := [s0, some (.ref S.length), some (.int k), some (.int c1), s4, some (.int i), some (.int m1)]) (S' := S ++ [.lst (Z ns)]) (s_asg ?_) (b_nx (en' := [s0, some (.ref S.length), some (.int k), some (.int c1), s4, some (.int i), some (.int m1)]) (S' := S ++ [.lst (Z (ns ++ [m1.fmod 1009]))]) ?_ (by rw [evB])))
    · simp [evE, binD, intOp, o1, o2, c1]
    · show _ = some (DV.int ((c1 * 16807 + c1.fdiv 65536).fmod 2147483629), _)
      generalize c1 = c1 at o3 o4
      simp [evE, binD, intOp, o3, o4]
    · simp [evS, evE, binD, intOp, st_get, st_set, hl]
theorem rng60 : rangeL 0 60 = Z ((List.range 60).map fun i : Nat => (i : Int)) := by
  unfold rangeL Z
  rw [List.map_map]
  simp only [Int.sub_zero, Int.zero_add]
  rfl
theorem rng_nat (n : Nat) : rangeL 0 n = Z ((List.range n).map fun i : Nat => (i : Int)) := by
  unfold rangeL Z
  rw [List.map_map]
  simp only [Int.sub_zero, Int.zero_add, Int.toNat_natCast]
  rfl
theorem num_out {O : Orc} {G : Gi} {S : Store} {vs : List Int} : ∀ (ks ns : List Int) (s2 s3 s4 s5 s6 : Option DV), (∀ k ∈ ks, 0 ≤ k ∧ k < 63 ∧ k < vs.length) → ns.length + ks.length * 60 ≤ 10000 → ∃ ns' t2 t3 t4 t5 t6, 
    forL (.one 2) (evB O G nbO) none (Z ks) [some (.scr (Z vs)), some (.ref S.length), s2, s3, s4, s5, s6] (S ++ [.lst (Z ns)]) = some (.nx [some (.scr (Z vs)), some (.ref S.length), t2, t3, t4, t5, t6] (S ++ [.lst (Z ns')]))
  | [], ns, s2, s3, s4, s5, s6, hk, h => ⟨ns, s2, s3, s4, s5, s6, for_nil⟩
  | k :: ks, ns, s2, s3, s4, s5, s6, hk, h => by
    rw [List.length_cons] at h
    obtain ⟨k0, k1, k2⟩ := hk k (.head _)
    obtain ⟨j, rfl⟩ : ∃ j : Nat, k = j := ⟨k.toNat, by omega⟩
    have hj : j < vs.length := by omega
    let c : Int := if vs[j] < 0 then -vs[j] else vs[j]
    have habs : evE O G (.blt .abs (.cons (.ix (.var 0) (.var 2)) .nil)) [some (.scr (Z vs)), some (.ref S.length), some (.int (j : Int)), s3, s4, s5, s6] (S ++ [.lst (Z ns)]) = some (.int c, S ++ [.lst (Z ns)]) := by
      have hix : ixD (.scr (Z vs)) (.int (j : Int)) (S ++ [.lst (Z ns)]) = some (.int vs[j]) := by
        simp [ixD, idx_nat hj, hj]
      simp only [evE, evEs, List.getElem?_cons_zero, List.getElem?_cons_succ, hix, bltD, c]
    have hrec := fun ns' (hl : ns'.length ≤ ns.length + 60) s2 s3 s4 s5 s6 => num_out (O := O) (G := G) (S := S) (vs := vs) ks ns' s2 s3 s4 s5 s6 (fun x hx => hk x (.tail _ hx)) (by omega)
    have hp : evE O G (.bin .pow (.cint 10) (.cint 18)) [some (.scr (Z vs)), some (.ref S.length), some (.int (j : Int)), some (.int c), s4, s5, s6] (S ++ [.lst (Z ns)]) = some (.int (10 ^ 18), S ++ [.lst (Z ns)]) := by
      simp only [evE, binD, intOp]
      rw [if_pos (by decide)]
      rfl
    have hcond : evE O G (.cmp .ge (.var 3) (.bin .pow (.cint 10) (.cint 18))) [some (.scr (Z vs)), some (.ref S.length), some (.int (j : Int)), some (.int c), s4, s5, s6] (S ++ [.lst (Z ns)]) = some (.bl (decide ((10 : Int) ^ 18 ≤ c)), S ++ [.lst (Z ns)]) := by
      rw [evE, evE]
      simp only [List.getElem?_cons_zero, List.getElem?_cons_succ, hp]
    by_cases hc : (10 : Int) ^ 18 ≤ c
    · rw [decide_eq_true hc] at hcond
      obtain ⟨ns1, c1, t4, g1, g2⟩ := num_in1 (O := O) (G := G) (S := S) (s0 := some (.scr (Z vs))) (s2 := some (.int (j : Int))) (s5 := s5) (s6 := s6) (rangeL 0 60) ns c s4 (by rw [rng60]; simp; omega)
      have hl : (rangeL 0 60).length = 60 := by rw [rng60]; simp
      rw [hl] at g1
      obtain ⟨ns', t2, t3, t4', t5, t6, g3⟩ := hrec ns1 g1 (some (.int (j : Int))) (some (.int c1)) t4 s5 s6
      refine ⟨ns', t2, t3, t4', t5, t6, for_next (en1 := [some (.scr (Z vs)), some (.ref S.length), some (.int (j : Int)), s3, s4, s5, s6]) rfl (b_nx (en' := [some (.scr (Z vs)), some (.ref S.length), some (.int (j : Int)), some (.int c), s4, s5, s6]) (S' := S ++ [Cell.lst (Z ns)]) (s_asg habs) (b_nx (en' := [some (.scr (Z vs)), some (.ref S.length), some (.int (j : Int)), some (.int c1), t4, s5, s6]) (S' := S ++ [Cell.lst (Z ns1)]) (s_true (S1 := S ++ [Cell.lst (Z ns)]) hcond (b_nx (s_for (S1 := S ++ [Cell.lst (Z ns)]) (ds := rangeL 0 60) ?_ g2) (by rw [evB]))) (by rw [evB]))) g3⟩
      have hs : small 60 := by decide
      simp [evIt, evEs, evE, hs]
    · rw [decide_eq_false hc] at hcond
      have hcn : c.natAbs < 2 ^ 90 := by
        have : 0 ≤ c := by show 0 ≤ (if vs[j] < 0 then -vs[j] else vs[j]); split <;> omega
        omega
      obtain ⟨ns1, c1, t5, t6, g1, g2⟩ := num_in2 (O := O) (G := G) (S := S) (s0 := some (.scr (Z vs))) (s4 := s4) (k := (j : Int)) (by omega) ((List.range 5).map fun i : Nat => (i : Int)) ns c s5 s6 (by decide) hcn (by simp; omega)
      obtain ⟨ns', t2, t3, t4', t5', t6', g3⟩ := hrec ns1 (by simp at g1; omega) (some (.int (j : Int))) (some (.int c1)) s4 t5 t6
      refine ⟨ns', t2, t3, t4', t5', t6', for_next (en1 := [some (.scr (Z vs)), some (.ref S.length), some (.int (j : Int)), s3, s4, s5, s6]) rfl (b_nx (en' := [some (.scr (Z vs)), some (.ref S.length), some (.int (j : Int)), some (.int c), s4, s5, s6]) (S' := S ++ [Cell.lst (Z ns)]) (s_asg habs) (b_nx (en' := [some (.scr (Z vs)), some (.ref S.length), some (.int (j : Int)), some (.int c1), s4, t5, t6]) (S' := S ++ [Cell.lst (Z ns1)]) (s_false (S1 := S ++ [Cell.lst (Z ns)]) hcond (b_nx (s_for (S1 := S ++ [Cell.lst (Z ns)]) (ds := rangeL 0 5) ?_ (by rw [show (5 : Int) = ((5 : Nat) : Int) from rfl, rng_nat]; exact g2)) (by rw [evB]))) (by rw [evB]))) g3⟩
      have hs : small 5 := by decide
      simp [evIt, evEs, evE, hs]
theorem purL_Z : ∀ l : List Int, purL (Z l) = true := fun l => cloL_Z 0 l
theorem gc_ref {S : Store} {ns : List Int} : gc S (S ++ [.lst (Z ns)]) (.ref S.length) = (.ref S.length, S ++ [.lst (Z ns)]) := by
  unfold gc
  rw [if_pos okG_self, if_neg (by simp [pur, cloD])]
  dsimp only
  rw [st_get]
  dsimp only
  rw [if_pos ⟨Nat.le_refl _, purL_Z ns⟩, List.take_left' rfl]
/-- the numbers of a script -/
theorem f_numbers {G : Gi} (b : BaseL G) (vs : List Int) (hz : vs.length ≤ 16777216) (n : Nat) (hn : 1 ≤ n) (S : Store) : ∃ ns, (orc G n).call 0 ("", "_law_numbers") [.scr (Z vs)] S = some (.ref S.length, S ++ [.lst (Z ns)]) := by
  obtain ⟨m, rfl⟩ : ∃ m, n = m + 1 := ⟨n - 1, by omega⟩
  let q : Nat := if vs.length < 63 then vs.length else 63
  obtain ⟨ns, t2, t3, t4, t5, t6, g⟩ := num_out (O := orc G m) (G := G) (S := S) (vs := vs) ((List.range q).map fun i : Nat => (i : Int)) [] none none none none none (fun k hk => by
    obtain ⟨i, hi, rfl⟩ := List.mem_map.mp hk
    have := List.mem_range.mp hi
    have : q ≤ vs.length ∧ q ≤ 63 := by show (if _ then _ else _) ≤ _ ∧ (if _ then _ else _) ≤ _; split <;> omega
    omega) (by
      have : q ≤ 63 := by show (if _ then _ else _) ≤ _; split <;> omega
      simp; omega)
  refine ⟨ns, ?_⟩
  rw [orc_zero, b.l_numbers]
  dsimp only
  unfold evFn
  have hl : (fillD f__law_numbers [.scr (Z vs)]).length = f__law_numbers.np := rfl
  have henv : List.map some (fillD f__law_numbers [.scr (Z vs)]) ++ List.replicate (f__law_numbers.nm.length - f__law_numbers.np) none = [some (.scr (Z vs)), none, none, none, none, none, none] := rfl
  have hb : evB (orc G m) G f__law_numbers.body [some (.scr (Z vs)), none, none, none, none, none, none] S = some (.rt (.ref S.length) (S ++ [.lst (Z ns)])) := by
    refine b_nx (en' := [some (.scr (Z vs)), some (.ref S.length), none, none, none, none, none]) (S' := S ++ [.lst (Z [])]) ?_ (b_nx (s_for (S1 := S ++ [.lst (Z [])]) (ds := rangeL 0 q) ?_ (by rw [rng_nat]; exact g)) (b_rt (s_ret (by simp [evE]))))
    · simp [evS, evE, evEs, clen]
    · have hs : small (q : Int) := by
        have : q ≤ 63 := by show (if _ then _ else _) ≤ _; split <;> omega
        unfold small; omega
      have hq : (if (63 : Int) < (vs.length : Int) then (63 : Int) else (vs.length : Int)) = (q : Int) := by
        show _ = ((if vs.length < 63 then vs.length else 63 : Nat) : Int)
        split <;> split <;> omega
      simp [evIt, evEs, evE, bltD, lenD, hq, hs]
  rw [if_pos hl, henv, hb]
  exact congrArg some gc_ref
end L55

set_option linter.all false
set_option maxRecDepth 100000
set_option exponentiation.threshold 500000
/-! L55C: law k55: pairs, sixths, due, given, text. -/
namespace L55
open Iv Mq Ev
theorem cloL_Zn (n : Nat) (l : List Int) : cloL n (Z l) = true := cloL_Z n l
theorem okG_set {n : Nat} {S : Store} {k : Nat} {c : Cell} (h : cloC n c = true) : okG n S (S.set k c) := by
  induction S generalizing k with
  | nil => trivial
  | cons x S ih =>
    cases k with
    | zero => exact ⟨.inr h, by have := okG_self (n := n) (S := S) (T := []); rwa [List.append_nil] at this⟩
    | succ k => exact ⟨.inl rfl, ih⟩
theorem okG_set_app {n : Nat} {S T : Store} {k : Nat} {c : Cell} (h : cloC n c = true) : okG n S (S.set k c ++ T) := by
  induction S generalizing k with
  | nil => unfold okG; trivial
  | cons x S ih =>
    cases k with
    | zero => exact ⟨.inr h, okG_self⟩
    | succ k => exact ⟨.inl rfl, ih⟩
theorem gc_set {S T : Store} {k : Nat} {c : Cell} {d : DV} (hp : pur d = true) (h : cloC S.length c = true) : gc S (S.set k c ++ T) d = (d, S.set k c) := by
  unfold gc
  rw [if_pos (okG_set_app h), if_pos hp, List.take_left' (by simp)]
/-- a pair of the law: a point, an exponent n/d -/
structure GP (p : Int × Int × Int) : Prop where
  s : -2 ≤ p.1 ∧ p.1 ≤ 3
  n : -3 ≤ p.2.1 ∧ p.2.1 ≤ 3
  d : 1 ≤ p.2.2 ∧ p.2.2 ≤ 3
def encP (p : Int × Int × Int) : DV := .tup [.int p.1, .tup [.int p.2.1, .int p.2.2]]
theorem cloL_P (n : Nat) : ∀ l : List (Int × Int × Int), cloL n (l.map encP) = true
  | [] => rfl
  | x :: l => by simp [cloL, encP, cloD, cloL_P n l]
section
variable {G : Gi} (b : BaseL G)
include b
/-- the next number -/
theorem f_next {many : Int} (hm : 0 < many) {k : Nat} {ns : List Int} {S : Store} (hS : S[k]? = some (.lst (Z ns))) {n j : Nat} (hn : 1 + j ≤ n) : ∃ v ns', 0 ≤ v ∧ v < many ∧ (orc G n).call j ("", "_law_next") [.ref k, .int many] S = some (.int v, S.set k (.lst (Z ns'))) := by
  obtain ⟨m, rfl⟩ : ∃ m, n = m + 1 + j := ⟨n - 1 - j, by omega⟩
  rw [orc_add, orc_zero, b.l_next]
  dsimp only
  have hl : (fillD f__law_next [.ref k, .int many]).length = f__law_next.np := rfl
  have henv : List.map some (fillD f__law_next [.ref k, .int many]) ++ List.replicate (f__law_next.nm.length - f__law_next.np) none = [some (.ref k), some (.int many)] := rfl
  have same : S.set k (.lst (Z ns)) = S := by
    apply List.ext_getElem?
    intro i
    by_cases h : k = i
    · subst h
      have := (List.getElem?_eq_some_iff.mp hS).1
      rw [List.getElem?_set_self this, hS]
    · rw [List.getElem?_set_ne h]
  cases ns with
  | nil =>
    refine ⟨0, [], by omega, hm, ?_⟩
    rw [same]
    unfold evFn
    have hb : evB (orc G m) G f__law_next.body [some (.ref k), some (.int many)] S = some (.rt (.int 0) S) := by
      refine b_rt (s_true (S1 := S) ?_ (b_rt (s_ret (by rw [evE]))))
      simp only [evE, evEs, bltD, lenD, List.getElem?_cons_zero, hS, eqD, Z, List.map_nil, List.length_nil]
      rfl
    rw [if_pos hl, henv, hb]
    exact congrArg some (gc_self rfl)
  | cons c ns =>
    obtain ⟨h1, h2⟩ := fmod_lt (a := c) hm
    refine ⟨c.fmod many, ns, h1, h2, ?_⟩
    unfold evFn
    have hb : evB (orc G m) G f__law_next.body [some (.ref k), some (.int many)] S = some (.rt (.int (c.fmod many)) (S.set k (.lst (Z ns)))) := by
      refine b_nx (en' := [some (.ref k), some (.int many)]) (S' := S) (s_false (S1 := S) ?_ (by rw [evB])) (b_rt (s_ret ?_))
      · have hne : ((((Z (c :: ns)).length : Nat) : Int) == 0) = false := by simp; omega
        simp only [evE, evEs, bltD, lenD, List.getElem?_cons_zero, hS, eqD, hne]
      · have hne : many ≠ 0 := by omega
        simp only [evE, List.getElem?_cons_zero, List.getElem?_cons_succ, hS, Z, List.map_cons, binD, intOp]
        rw [if_pos hne]
    rw [if_pos hl, henv, hb]
    have := gc_set (S := S) (T := []) (k := k) (c := .lst (Z ns)) (d := .int (c.fmod many)) rfl (cloL_Zn _ ns)
    rw [List.append_nil] at this
    exact congrArg some this
def pbody : Ss := (.cons (.asg 3 (.bin .sub (.call "_law_next" (.cons (.var 0) (.cons (.cint 6) .nil))) (.cint 2)))
 (.cons (.app 1 (.tup (.cons (.var 3) (.cons (.tup (.cons (.bin .sub (.call "_law_next" (.cons (.var 0) (.cons (.cint 7) .nil))) (.cint 3)) (.cons (.bin .add (.cint 1) (.call "_law_next" (.cons (.var 0) (.cons (.cint 3) .nil)))) .nil))) .nil))))
 .nil))
omit b in
theorem set_get {S : Store} {k : Nat} {c d : Cell} (h : S[k]? = some c) : (S.set k d)[k]? = some d := by
  rw [List.getElem?_set_self (List.getElem?_eq_some_iff.mp h).1]
theorem pairs_for {O : Nat} (hO : 1 ≤ O) {k : Nat} {S : Store} (hk : k < S.length) : ∀ (ts : List DV) (ns : List Int) (acc : List (Int × Int × Int)) (s2 s3 : Option DV), S[k]? = some (.lst (Z ns)) → acc.length + ts.length ≤ 1000 → ∃ ns' ps t2 t3, ps.length = ts.length ∧ (∀ p ∈ ps, GP p) ∧
    forL (.one 2) (evB (orc G O) G pbody) none ts [some (.ref k), some (.ref S.length), s2, s3] (S ++ [.lst (acc.map encP)]) = some (.nx [some (.ref k), some (.ref S.length), t2, t3] (S.set k (.lst (Z ns')) ++ [.lst ((acc ++ ps).map encP)]))
  | [], ns, acc, s2, s3, hS, h => ⟨ns, [], s2, s3, rfl, (fun p hp => by cases hp), by
      have same : S.set k (.lst (Z ns)) = S := by
        apply List.ext_getElem?
        intro i
        by_cases h : k = i
        · subst h; rw [List.getElem?_set_self hk, hS]
        · rw [List.getElem?_set_ne h]
      rw [same, List.append_nil]; exact for_nil⟩
  | t :: ts, ns, acc, s2, s3, hS, h => by
    rw [List.length_cons] at h
    have T0 : (S ++ [Cell.lst (acc.map encP)])[k]? = some (.lst (Z ns)) := by rw [List.getElem?_append_left hk, hS]
    obtain ⟨v1, n1, a1, a2, a3⟩ := f_next b (many := 6) (by decide) T0 (n := O) (j := 0) (by omega)
    have e1 : (S ++ [Cell.lst (acc.map encP)]).set k (.lst (Z n1)) = S.set k (.lst (Z n1)) ++ [.lst (acc.map encP)] := List.set_append_left _ _ hk
    rw [e1] at a3
    have hk1 : k < (S.set k (.lst (Z n1))).length := by simpa using hk
    have T1 : (S.set k (.lst (Z n1)) ++ [Cell.lst (acc.map encP)])[k]? = some (.lst (Z n1)) := by rw [List.getElem?_append_left hk1]; exact set_get hS
    obtain ⟨v2, n2, b1, b2, b3⟩ := f_next b (many := 7) (by decide) T1 (n := O) (j := 0) (by omega)
    have e2 : (S.set k (.lst (Z n1)) ++ [Cell.lst (acc.map encP)]).set k (.lst (Z n2)) = S.set k (.lst (Z n2)) ++ [.lst (acc.map encP)] := by rw [List.set_append_left _ _ hk1, List.set_set]
    rw [e2] at b3
    have hk2 : k < (S.set k (.lst (Z n2))).length := by simpa using hk
    have T2 : (S.set k (.lst (Z n2)) ++ [Cell.lst (acc.map encP)])[k]? = some (.lst (Z n2)) := by rw [List.getElem?_append_left hk2]; exact set_get hS
    obtain ⟨v3, n3, c1, c2, c3⟩ := f_next b (many := 3) (by decide) T2 (n := O) (j := 0) (by omega)
    have e3 : (S.set k (.lst (Z n2)) ++ [Cell.lst (acc.map encP)]).set k (.lst (Z n3)) = S.set k (.lst (Z n3)) ++ [.lst (acc.map encP)] := by rw [List.set_append_left _ _ hk2, List.set_set]
    rw [e3] at c3
    have hk3 : k < (S.set k (.lst (Z n3))).length := by simpa using hk
    obtain ⟨ns', ps, t2, t3, g1, g2, g3⟩ := pairs_for hO hk3 ts n3 (acc ++ [(v1 - 2, v2 - 3, 1 + v3)]) (some t) (some (.int (v1 - 2))) (set_get hS) (by simp; omega)
    rw [List.length_set, List.set_set, List.append_assoc, List.singleton_append] at g3
    refine ⟨ns', (v1 - 2, v2 - 3, 1 + v3) :: ps, t2, t3, by simp [g1], fun p hp => ?_, for_next (en1 := [some (.ref k), some (.ref S.length), some t, s3]) rfl (b_nx (en' := [some (.ref k), some (.ref S.length), some t, some (.int (v1 - 2))]) (S' := S.set k (.lst (Z n1)) ++ [.lst (acc.map encP)]) (s_asg ?_) (b_nx (en' := [some (.ref k), some (.ref S.length), some t, some (.int (v1 - 2))]) (S' := S.set k (.lst (Z n3)) ++ [.lst ((acc ++ [(v1 - 2, v2 - 3, 1 + v3)]).map encP)]) ?_ (by rw [evB]))) g3⟩
    · rcases List.mem_cons.mp hp with rfl | hp
      · exact ⟨by dsimp only; omega, by dsimp only; omega, by dsimp only; omega⟩
      · exact g2 p hp
    · simp [evE, evEs, a3, binD, intOp]
    · have h1 : (S.set k (.lst (Z n1)) ++ [Cell.lst (acc.map encP)])[S.length]? = some (.lst (acc.map encP)) := by
        have := st_get (S.set k (.lst (Z n1))) (.lst (acc.map encP)); rwa [List.length_set] at this
      have h3 : (S.set k (.lst (Z n3)) ++ [Cell.lst (acc.map encP)])[S.length]? = some (.lst (acc.map encP)) := by
        have := st_get (S.set k (.lst (Z n3))) (.lst (acc.map encP)); rwa [List.length_set] at this
      have h4 : ∀ d, (S.set k (.lst (Z n3)) ++ [Cell.lst (acc.map encP)]).set S.length d = S.set k (.lst (Z n3)) ++ [d] := fun d => by
        have := st_set (S.set k (.lst (Z n3))) (.lst (acc.map encP)) d; rwa [List.length_set] at this
      have hev : evE (orc G O) G (.tup (.cons (.var 3) (.cons (.tup (.cons (.bin .sub (.call "_law_next" (.cons (.var 0) (.cons (.cint 7) .nil))) (.cint 3)) (.cons (.bin .add (.cint 1) (.call "_law_next" (.cons (.var 0) (.cons (.cint 3) .nil)))) .nil))) .nil))) [some (.ref k), some (.ref S.length), some t, some (.int (v1 - 2))] (S.set k (.lst (Z n1)) ++ [.lst (acc.map encP)]) =
          some (encP (v1 - 2, v2 - 3, 1 + v3), S.set k (.lst (Z n3)) ++ [.lst (acc.map encP)]) := by
        simp [evE, evEs, b3, c3, binD, intOp, clen, encP]
      have hl : (acc.map encP).length < 16777216 := by rw [List.length_map]; omega
      rw [evS]
      simp only [List.getElem?_cons_zero, List.getElem?_cons_succ, h1, hev, h3]
      rw [if_pos hl, h4]
      simp
/-- the pairs -/
theorem f_pairs {k : Nat} {ns : List Int} {S : Store} (hS : S[k]? = some (.lst (Z ns))) {n : Nat} (hn : 2 ≤ n) : ∃ (ns' : List Int) (ps : List (Int × Int × Int)), ps.length ≤ 4 ∧ (∀ p ∈ ps, GP p) ∧ (orc G n).call 0 ("", "_law_pairs") [.ref k] S = some (.frl (ps.map encP), S.set k (.lst (Z ns'))) := by
  obtain ⟨m, rfl⟩ : ∃ m, n = m + 1 := ⟨n - 1, by omega⟩
  have hk := (List.getElem?_eq_some_iff.mp hS).1
  have T0 : (S ++ [Cell.lst []])[k]? = some (.lst (Z ns)) := by rw [List.getElem?_append_left hk, hS]
  obtain ⟨v1, n1, a1, a2, a3⟩ := f_next b (many := 5) (by decide) T0 (n := m) (j := 0) (by omega)
  have e1 : (S ++ [Cell.lst []]).set k (.lst (Z n1)) = S.set k (.lst (Z n1)) ++ [.lst []] := List.set_append_left _ _ hk
  rw [e1] at a3
  have hk1 : k < (S.set k (.lst (Z n1))).length := by simpa using hk
  obtain ⟨q, rfl⟩ : ∃ q : Nat, v1 = q := ⟨v1.toNat, by omega⟩
  obtain ⟨ns', ps, t2, t3, g1, g2, g3⟩ := pairs_for b (O := m) (by omega) hk1 (rangeL 0 q) n1 [] none none (set_get hS) (by rw [rng_nat]; simp; omega)
  rw [List.length_set, List.set_set, List.nil_append] at g3
  refine ⟨ns', ps, ?_, g2, ?_⟩
  · rw [g1, rng_nat]; simp; omega
  · rw [orc_zero, b.l_pairs]
    dsimp only
    have hl : (fillD f__law_pairs [.ref k]).length = f__law_pairs.np := rfl
    have henv : List.map some (fillD f__law_pairs [.ref k]) ++ List.replicate (f__law_pairs.nm.length - f__law_pairs.np) none = [some (.ref k), none, none, none] := rfl
    have h1 : (S.set k (.lst (Z ns')) ++ [Cell.lst (ps.map encP)])[S.length]? = some (.lst (ps.map encP)) := by
      have := st_get (S.set k (.lst (Z ns'))) (.lst (ps.map encP)); rwa [List.length_set] at this
    have h4 : ∀ d, (S.set k (.lst (Z ns')) ++ [Cell.lst (ps.map encP)]).set S.length d = S.set k (.lst (Z ns')) ++ [d] := fun d => by
      have := st_set (S.set k (.lst (Z ns'))) (.lst (ps.map encP)) d; rwa [List.length_set] at this
    have hb : evB (orc G m) G f__law_pairs.body [some (.ref k), none, none, none] S = some (.rt (.frl (ps.map encP)) (S.set k (.lst (Z ns')) ++ [.dead])) := by
      refine b_nx (en' := [some (.ref k), some (.ref S.length), none, none]) (S' := S ++ [Cell.lst []]) ?_ (b_nx (en' := [some (.ref k), some (.ref S.length), t2, t3]) (S' := S.set k (.lst (Z ns')) ++ [Cell.lst (ps.map encP)]) (s_for (S1 := S.set k (.lst (Z n1)) ++ [Cell.lst (([] : List (Int × Int × Int)).map encP)]) (ds := rangeL 0 q) ?_ g3) (b_rt (s_ret ?_)))
      · simp [evS, evE, evEs, clen]
      · have hs : small (q : Int) := by unfold small; omega
        simp [evIt, evEs, evE, a3, hs]
      · simp [evE, h1, h4]
    unfold evFn
    rw [if_pos hl, henv, hb]
    exact congrArg some (gc_set (by simp [pur, cloD, cloL_P]) (cloL_Zn _ ns'))
end
end L55

set_option linter.all false
set_option maxRecDepth 100000
set_option exponentiation.threshold 500000
/-! L55D: law k55: given, sixths, due, text. -/
namespace L55
open Iv Mq Ev
def gv (p : Int × Int × Int) : Rat × Rat := ((p.1 : Rat), (p.2.1 : Rat) / (p.2.2 : Rat))
def sixths (L : List (Int × Int × Int)) (s : Int) : Int := L.foldl (fun t p => if p.1 = s then t + p.2.1 * (6 / p.2.2) else t) 0
def sixF (s : Int) (L : List (Int × Int × Int)) (t : Int) : Int := L.foldl (fun t p => if p.1 = s then t + p.2.1 * (6 / p.2.2) else t) t
section
variable {G : Gi} (b : BaseL G)
include b
theorem f_given {L : List (Int × Int × Int)} (hL : ∀ p ∈ L, GP p) (hz : L.length ≤ 1000) : PF G 3 ("", "_law_given") [.frl (L.map encP)] (.tup ((L.map gv).map enc2)) := by
  refine pf_ret b.l_given rfl rfl (by unfold pur; simp only [cloD]; exact cloL_2 _ _) fun n S hn => ?_
  have h1 := ev_lc (O := orc G n) (G := G) (t := .many [1, 2]) (it := .seq (.var 0)) (el := .tup (.cons (.mk "Ratio" (.cons (.var 1) .nil)) (.cons (.mk "Ratio" (.cons (.ix (.var 2) (.cint 0)) (.cons (.ix (.var 2) (.cint 1)) .nil))) .nil))) (en := [some (.frl (L.map encP)), none, none]) (S := S) (S1 := S) (xs := L) (enc := encP) (f := fun p => enc2 (gv p)) (by simp [evIt, evE, seqOf]) (by omega) fun p hp => ⟨[some (.frl (L.map encP)), some (.int p.1), some (.tup [.int p.2.1, .int p.2.2])], rfl, fun S => by
    have g := hL p hp
    have hd : p.2.2 ≠ 0 := by have := g.d; omega
    have m1 := mk_Ratio1 b.toBase (n := p.1) hn S
    have m2 := mk_Ratio b.toBase (n := p.2.1) hd (by have := g.d; have h4 : (2 : Nat) ^ 2 ≤ 2 ^ 9000 := Nat.pow_le_pow_right (by decide) (by decide); omega) hn S
    have e : Rat.divInt p.2.1 p.2.2 = (p.2.1 : Rat) / (p.2.2 : Rat) := Rat.divInt_eq_div ..
    rw [e] at m2
    have i0 : ixD (.tup [.int p.2.1, .int p.2.2]) (.int 0) S = some (.int p.2.1) := rfl
    have i1 : ixD (.tup [.int p.2.1, .int p.2.2]) (.int 1) S = some (.int p.2.2) := rfl
    simp only [evE, evEs, List.getElem?_cons_zero, List.getElem?_cons_succ, m1, m2, i0, i1]
    simp [clen, enc2, gv]⟩
  have e1 : L.map (fun p => enc2 (gv p)) = (L.map gv).map enc2 := by rw [List.map_map]; rfl
  rw [e1] at h1
  have h2 : evEs (orc G n) G (.cons (.lc (.many [1, 2]) (.seq (.var 0)) (.tup (.cons (.mk "Ratio" (.cons (.var 1) .nil)) (.cons (.mk "Ratio" (.cons (.ix (.var 2) (.cint 0)) (.cons (.ix (.var 2) (.cint 1)) .nil))) .nil)))) .nil) [some (.frl (L.map encP)), none, none] S = some ([.frl ((L.map gv).map enc2)], S) := by rw [evEs, h1]; rfl
  show evE (orc G n) G (.blt .tuple _) [some (.frl (L.map encP)), none, none] S = _
  rw [evE, h2]
  rfl
theorem six_for {O : Orc} {s : Int} {S : Store} {s0 : Option DV} : ∀ (L : List (Int × Int × Int)) (t : Int) (s3 s4 : Option DV), (∀ p ∈ L, GP p) → ∃ t3 t4,
    forL (.many [3, 4]) (evB O G (.cons (.if_ (.cmp .eq (.var 3) (.var 1)) (.cons (.asg 2 (.bin .add (.var 2) (.bin .mul (.ix (.var 4) (.cint 0)) (.bin .fdiv (.cint 6) (.ix (.var 4) (.cint 1)))))) .nil) .nil) .nil)) none (L.map encP) [s0, some (.int s), some (.int t), s3, s4] S = some (.nx [s0, some (.int s), some (.int (sixF s L t)), t3, t4] S)
  | [], t, s3, s4, h => ⟨s3, s4, for_nil⟩
  | p :: L, t, s3, s4, h => by
    have g := h p (.head _)
    have hb : bindT (.many [3, 4]) (encP p) [s0, some (.int s), some (.int t), s3, s4] = some [s0, some (.int s), some (.int t), some (.int p.1), some (.tup [.int p.2.1, .int p.2.2])] := rfl
    have e0 : sixF s (p :: L) t = sixF s L (if p.1 = s then t + p.2.1 * (6 / p.2.2) else t) := rfl
    by_cases e : p.1 = s
    · obtain ⟨t3, t4, ih⟩ := six_for (O := O) (s := s) (S := S) (s0 := s0) L (t + p.2.1 * (6 / p.2.2)) (some (.int p.1)) (some (.tup [.int p.2.1, .int p.2.2])) (fun q hq => h q (.tail _ hq))
      rw [e0, if_pos e]
      refine ⟨t3, t4, for_next hb (b_nx (en' := [s0, some (.int s), some (.int (t + p.2.1 * (6 / p.2.2))), some (.int p.1), some (.tup [.int p.2.1, .int p.2.2])]) (S' := S) (s_true (S1 := S) ?_ ?_) (by rw [evB])) ih⟩
      · simp [evE, eqD, e]
      · have hd := g.d
        have hn := g.n
        have i0 : ixD (.tup [.int p.2.1, .int p.2.2]) (.int 0) S = some (.int p.2.1) := rfl
        have i1 : ixD (.tup [.int p.2.1, .int p.2.2]) (.int 1) S = some (.int p.2.2) := rfl
        have h4 : (2 : Nat) ^ 2 ≤ 2 ^ 9000 := Nat.pow_le_pow_right (by decide) (by decide)
        have o1 : divOk 6 p.2.2 := div_ok (by omega) (by omega)
        have ef : (6 : Int).fdiv p.2.2 = 6 / p.2.2 := Int.fdiv_eq_ediv_of_nonneg _ (by omega)
        have hq : (6 / p.2.2).natAbs ≤ 6 := Int.natAbs_ediv_le_natAbs _ _
        have o2 : mulOk p.2.1 (6 / p.2.2) := mulok_small (by omega) (by omega)
        simp [evB, evS, evE, i0, i1, binD, intOp, o1, ef, o2]
    · obtain ⟨t3, t4, ih⟩ := six_for (O := O) (s := s) (S := S) (s0 := s0) L t (some (.int p.1)) (some (.tup [.int p.2.1, .int p.2.2])) (fun q hq => h q (.tail _ hq))
      rw [e0, if_neg e]
      refine ⟨t3, t4, for_next hb (b_nx (en' := [s0, some (.int s), some (.int t), some (.int p.1), some (.tup [.int p.2.1, .int p.2.2])]) (S' := S) (s_false (S1 := S) ?_ (by rw [evB])) (by rw [evB])) ih⟩
      have : (p.1 == s) = false := by simpa using e
      simp [evE, eqD, this]
theorem f_sixths {L : List (Int × Int × Int)} (hL : ∀ p ∈ L, GP p) (s : Int) : PF G 1 ("", "_law_sixths") [.frl (L.map encP), .int s] (.int (sixths L s)) := by
  refine pf_of b.l_sixths rfl rfl fun n S hn => ⟨[], .inl ?_⟩
  rw [List.append_nil]
  obtain ⟨t3, t4, w⟩ := six_for b (O := orc G n) (s := s) (S := S) (s0 := some (.frl (L.map encP))) L 0 none none hL
  refine b_nx (en' := [some (.frl (L.map encP)), some (.int s), some (.int 0), none, none]) (S' := S) (s_asg (by rw [evE])) (b_nx (s_for (S1 := S) (ds := L.map encP) (by simp [evIt, evE, seqOf]) w) (b_rt (s_ret (by simp [evE]; rfl))))
def dbody : Ss := (.cons (.asg 3 (.bin .mod (.blt .int (.cons (.call "_law_sixths" (.cons (.var 0) (.cons (.var 2) .nil))) .nil)) (.cint 6)))
 (.cons (.if_ (.cmp .ne (.var 3) (.cint 0))
 (.cons (.app 1 (.tup (.cons (.mk "Ratio" (.cons (.var 2) .nil)) (.cons (.mk "Ratio" (.cons (.var 3) (.cons (.cint 6) .nil))) .nil))))
 .nil)
 .nil)
 .nil))
omit b in
theorem fmod6 (x : Int) : x.fmod 6 = x % 6 := Int.fmod_eq_emod_of_nonneg _ (by decide)
theorem due_for {O : Nat} (hO : 2 ≤ O) {L : List (Int × Int × Int)} (hL : ∀ p ∈ L, GP p) {S : Store} : ∀ (ss : List Int) (acc : List (Rat × Rat)) (s2 s3 : Option DV), acc.length + ss.length ≤ 1000 → ∃ t2 t3,
    forL (.one 2) (evB (orc G O) G dbody) none (Z ss) [some (.frl (L.map encP)), some (.ref S.length), s2, s3] (S ++ [.lst (acc.map enc2)]) = some (.nx [some (.frl (L.map encP)), some (.ref S.length), t2, t3] (S ++ [.lst ((acc ++ ss.filterMap (sx (sixths L))).map enc2)]))
  | [], acc, s2, s3, h => ⟨s2, s3, by rw [List.filterMap_nil, List.append_nil]; exact for_nil⟩
  | s :: ss, acc, s2, s3, h => by
    rw [List.length_cons] at h
    have c1 := (f_sixths b hL s).low (n := O) (j := 0) (by omega) (S := S ++ [.lst (acc.map enc2)])
    have e3 : evE (orc G O) G (.bin .mod (.blt .int (.cons (.call "_law_sixths" (.cons (.var 0) (.cons (.var 2) .nil))) .nil)) (.cint 6)) [some (.frl (L.map encP)), some (.ref S.length), some (.int s), s3] (S ++ [.lst (acc.map enc2)]) = some (.int (sixths L s % 6), S ++ [.lst (acc.map enc2)]) := by
      simp [evE, evEs, c1, bltD, binD, intOp, fmod6]
    by_cases e : sixths L s % 6 = 0
    · have es : sx (sixths L) s = none := by unfold sx; rw [if_pos e]
      obtain ⟨t2, t3, ih⟩ := due_for hO hL (S := S) ss acc (some (.int s)) (some (.int (sixths L s % 6))) (by omega)
      rw [List.filterMap_cons, es]
      refine ⟨t2, t3, for_next (en1 := [some (.frl (L.map encP)), some (.ref S.length), some (.int s), s3]) rfl (b_nx (s_asg e3) (b_nx (en' := [some (.frl (L.map encP)), some (.ref S.length), some (.int s), some (.int (sixths L s % 6))]) (S' := S ++ [.lst (acc.map enc2)]) (s_false (S1 := S ++ [.lst (acc.map enc2)]) ?_ (by rw [evB]; rfl)) (by rw [evB]))) ih⟩
      simp [evE, eqD, e]
    · have es : sx (sixths L) s = some ((s : Rat), ((sixths L s % 6 : Int) : Rat) / 6) := by unfold sx; rw [if_neg e]
      obtain ⟨t2, t3, ih⟩ := due_for hO hL (S := S) ss (acc ++ [((s : Rat), ((sixths L s % 6 : Int) : Rat) / 6)]) (some (.int s)) (some (.int (sixths L s % 6))) (by simp; omega)
      rw [List.append_assoc, List.singleton_append] at ih
      rw [List.filterMap_cons, es]
      refine ⟨t2, t3, for_next (en1 := [some (.frl (L.map encP)), some (.ref S.length), some (.int s), s3]) rfl (b_nx (s_asg e3) (b_nx (en' := [some (.frl (L.map encP)), some (.ref S.length), some (.int s), some (.int (sixths L s % 6))]) (S' := S ++ [.lst ((acc ++ [((s : Rat), ((sixths L s % 6 : Int) : Rat) / 6)]).map enc2)]) (s_true (S1 := S ++ [.lst (acc.map enc2)]) ?_ ?_) (by rw [evB]))) ih⟩
      · have hne : (sixths L s % 6 == 0) = false := by simpa using e
        simp [evE, eqD, hne]
      · have m1 := mk_Ratio1 b.toBase (n := s) hO (S ++ [.lst (acc.map enc2)])
        have m2 := mk_Ratio b.toBase (n := sixths L s % 6) (d := 6) (by decide) (by have h4 : (2 : Nat) ^ 3 ≤ 2 ^ 9000 := Nat.pow_le_pow_right (by decide) (by decide); omega) hO (S ++ [.lst (acc.map enc2)])
        have e6 : Rat.divInt (sixths L s % 6) 6 = ((sixths L s % 6 : Int) : Rat) / 6 := Rat.divInt_eq_div ..
        rw [e6] at m2
        have hl : acc.length < 16777216 := by omega
        generalize ((sixths L s % 6 : Int) : Rat) / 6 = q at m2 ⊢
        have hev : evE (orc G O) G (.tup (.cons (.mk "Ratio" (.cons (.var 2) .nil)) (.cons (.mk "Ratio" (.cons (.var 3) (.cons (.cint 6) .nil))) .nil))) ([some (.frl (L.map encP)), some (.ref S.length), some (.int s), s3].set 3 (some (.int (sixths L s % 6)))) (S ++ [.lst (acc.map enc2)]) = some (enc2 ((s : Rat), q), S ++ [.lst (acc.map enc2)]) := by
          simp only [List.set_cons_succ, List.set_cons_zero, evE, evEs, List.getElem?_cons_zero, List.getElem?_cons_succ, m1, m2]
          simp [clen, enc2]
        refine b_nx ?_ (by rw [evB])
        rw [evS]
        simp only [List.set_cons_succ, List.set_cons_zero, List.getElem?_cons_zero, List.getElem?_cons_succ, st_get] at hev ⊢
        simp only [hev, st_get]
        rw [if_pos (by simpa using hl), st_set]
        simp
theorem f_due {L : List (Int × Int × Int)} (hL : ∀ p ∈ L, GP p) : PF G 3 ("", "_law_due") [.frl (L.map encP)] (.frl ((dueX (sixths L)).map enc2)) := by
  refine pf_of b.l_due rfl (by simp [pur, cloD, cloL_2]) fun n S hn => ⟨[.dead], .inl ?_⟩
  have henv : List.map some (fillD f__law_due [.frl (L.map encP)]) ++ List.replicate (f__law_due.nm.length - f__law_due.np) none = [some (.frl (L.map encP)), none, none, none] := rfl
  rw [henv]
  obtain ⟨t2, t3, w⟩ := due_for b (O := n) hn hL (S := S) rng [] none none (by decide)
  rw [List.nil_append] at w
  refine b_nx (en' := [some (.frl (L.map encP)), some (.ref S.length), none, none]) (S' := S ++ [.lst []]) ?_ (b_nx (s_for (S1 := (S ++ [Cell.lst (([] : List (Rat × Rat)).map enc2)] : Store)) (ds := Z rng) ?_ w) (b_rt (s_ret ?_)))
  · simp [evS, evE, evEs, clen]
  · have hs1 : small (-2) := by decide
    have hs2 : small 4 := by decide
    have hr : rangeL (-2) 4 = Z rng := rfl
    simp [evIt, evEs, evE, hs1, hs2, hr]
  · simp [evE, st_get, st_set]; rfl
end
end L55

set_option linter.all false
set_option maxRecDepth 100000
set_option exponentiation.threshold 500000
/-! L55E: law k55: the text. -/
namespace L55
open Iv Mq Ev
def tbody : Ss := (.cons (.asg 4 (.cstr "x"))
 (.cons (.if_ (.cmp .gt (.fld (.var 2) "n") (.cint 0))
 (.cons (.asg 4 (.bin .add (.bin .add (.cstr "(x - ") (.blt .str (.cons (.fld (.var 2) "n") .nil))) (.cstr ")")))
 .nil)
 .nil)
 (.cons (.if_ (.cmp .lt (.fld (.var 2) "n") (.cint 0))
 (.cons (.asg 4 (.bin .add (.bin .add (.cstr "(x + ") (.blt .str (.cons (.neg (.fld (.var 2) "n")) .nil))) (.cstr ")")))
 .nil)
 .nil)
 (.cons (.app 1 (.bin .add (.bin .add (.bin .add (.bin .add (.bin .add (.var 4) (.cstr "^(")) (.blt .str (.cons (.fld (.var 3) "n") .nil))) (.cstr "/")) (.blt .str (.cons (.fld (.var 3) "d") .nil))) (.cstr ")")))
 .nil))))
/-- what the law's text needs -/
structure TL (x : Rat × Rat) : Prop where
  a : TX x.1
  b : TX x.2
  n : 0 ≤ x.2.num
  i : x.1.den = 1
  d : x.2.den ≠ 1
theorem log_ten {i : Int} (h : i.natAbs < ten) : i.natAbs.log2 < 1920 := by
  by_cases h0 : i.natAbs = 0
  · rw [h0]; decide
  · exact (Nat.log2_lt h0).mpr (Nat.lt_of_lt_of_le h (by unfold ten; decide))
theorem ev_str {O : Orc} {G : Gi} {e : E} {en : Iv.Env} {S : Store} {i : Int} (h : evE O G e en S = some (.int i, S)) (hi : i.natAbs < ten) : evE O G (.blt .str (.cons e .nil)) en S = some (.str (sI i), S) := by
  simp only [evE, evEs, h, bltD]
  rw [if_pos (log_ten hi)]
  rfl
theorem ev_add {O : Orc} {G : Gi} {e f : E} {en : Iv.Env} {S : Store} {x y : List Nat} (h : evE O G e en S = some (.str x, S)) (k : evE O G f en S = some (.str y, S)) (hz : x.length + y.length ≤ 16777216) : evE O G (.bin .add e f) en S = some (.str (x ++ y), S) := by
  simp only [evE, h, k, binD]
  rw [if_pos hz]
theorem ev_cstr {O : Orc} {G : Gi} {en : Iv.Env} {S : Store} (x : String) : evE O G (.cstr x) en S = some (.str (cs x), S) := by rw [evE]
section
variable {G : Gi} (b : BaseL G)
include b
theorem text_for {O : Nat} {s0 : Option DV} {S : Store} : ∀ (l : List (Rat × Rat)) (acc : List (List Nat)) (s2 s3 s4 : Option DV), (∀ x ∈ l, TL x) → acc.length + l.length ≤ 1000 → ∃ t2 t3 t4,
    forL (.many [2, 3]) (evB (orc G O) G tbody) none (l.map enc2) [s0, some (.ref S.length), s2, s3, s4] (S ++ [.lst (acc.map encS)]) = some (.nx [s0, some (.ref S.length), t2, t3, t4] (S ++ [.lst ((acc ++ l.map piece).map encS)]))
  | [], acc, s2, s3, s4, h, hz => ⟨s2, s3, s4, by rw [List.map_nil (f := piece), List.append_nil]; exact for_nil⟩
  | x :: l, acc, s2, s3, s4, h, hz => by
    let T : Store := S ++ [Cell.lst (acc.map encS)]
    have hx := h x (.head _)
    rw [List.length_cons] at hz
    obtain ⟨t2, t3, t4, ih⟩ := text_for (O := O) (s0 := s0) (S := S) l (acc ++ [piece x]) (some (R x.1)) (some (R x.2)) (some (.str (base x.1))) (fun y hy => h y (.tail _ hy)) (by simp; omega)
    rw [List.append_assoc, List.singleton_append] at ih
    refine ⟨t2, t3, t4, for_next (en1 := [s0, some (.ref S.length), some (R x.1), some (R x.2), s4]) rfl ?_ ih⟩
    have bl := base_len hx.a
    have l1 := sI_len hx.n hx.b.n
    have l2 := sI_len (i := x.2.den) (by omega) (by simpa using hx.b.d)
    have c1 : (cs "(x - ").length = 5 := rfl
    have c2 : (cs "(x + ").length = 5 := rfl
    have c3 : (cs ")").length = 1 := rfl
    have c4 : (cs "^(").length = 2 := rfl
    have c5 : (cs "/").length = 1 := rfl
    have g1 : T[S.length]? = some (.lst (acc.map encS)) := st_get _ _
    have g2 : ∀ y, T.set S.length y = S ++ [y] := fun y => st_set _ _ _
    have fn : ∀ d, evE (orc G O) G (.fld (.var 2) "n") [s0, some (.ref S.length), some (R x.1), some (R x.2), d] T = some (.int x.1.num, T) := fun d => by simp [evE, fld_n b.toBase]
    have en_ : ∀ d, evE (orc G O) G (.fld (.var 3) "n") [s0, some (.ref S.length), some (R x.1), some (R x.2), d] T = some (.int x.2.num, T) := fun d => by simp [evE, fld_n b.toBase]
    have ed : ∀ d, evE (orc G O) G (.fld (.var 3) "d") [s0, some (.ref S.length), some (R x.1), some (R x.2), d] T = some (.int x.2.den, T) := fun d => by simp [evE, fld_d b.toBase]
    have fin : evS (orc G O) G (.app 1 (.bin .add (.bin .add (.bin .add (.bin .add (.bin .add (.var 4) (.cstr "^(")) (.blt .str (.cons (.fld (.var 3) "n") .nil))) (.cstr "/")) (.blt .str (.cons (.fld (.var 3) "d") .nil))) (.cstr ")"))) [s0, some (.ref S.length), some (R x.1), some (R x.2), some (.str (base x.1))] T = some (.nx [s0, some (.ref S.length), some (R x.1), some (R x.2), some (.str (base x.1))] (S ++ [.lst ((acc ++ [piece x]).map encS)])) := by
      have v4 : evE (orc G O) G (.var 4) [s0, some (.ref S.length), some (R x.1), some (R x.2), some (.str (base x.1))] T = some (.str (base x.1), T) := by simp [evE]
      have a1 := ev_add v4 (ev_cstr "^(") (by omega)
      have a2 := ev_add a1 (ev_str (en_ _) hx.b.n) (by rw [List.length_append]; omega)
      have a3 := ev_add a2 (ev_cstr "/") (by rw [List.length_append, List.length_append]; omega)
      have a4 := ev_add a3 (ev_str (ed _) (by simpa using hx.b.d)) (by rw [List.length_append, List.length_append, List.length_append]; omega)
      have a5 := ev_add a4 (ev_cstr ")") (by rw [List.length_append, List.length_append, List.length_append, List.length_append]; omega)
      have e : base x.1 ++ cs "^(" ++ sI x.2.num ++ cs "/" ++ sI x.2.den ++ cs ")" = piece x := by
        unfold piece sR
        rw [if_neg hx.d]
        simp only [List.append_assoc]
      rw [e] at a5
      have hl : acc.length < 16777216 := by omega
      rw [evS]
      simp only [List.getElem?_cons_zero, List.getElem?_cons_succ, g1, a5]
      rw [if_pos (by simpa using hl), g2]
      simp [encS]
    have cgt : evE (orc G O) G (.cmp .gt (.fld (.var 2) "n") (.cint 0)) [s0, some (.ref S.length), some (R x.1), some (R x.2), some (.str (cs "x"))] T = some (.bl (decide (0 < x.1.num)), T) := by simp [evE, fld_n b.toBase]
    have clt : ∀ d, evE (orc G O) G (.cmp .lt (.fld (.var 2) "n") (.cint 0)) [s0, some (.ref S.length), some (R x.1), some (R x.2), some d] T = some (.bl (decide (x.1.num < 0)), T) := fun d => by simp [evE, fld_n b.toBase]
    refine b_nx (en' := [s0, some (.ref S.length), some (R x.1), some (R x.2), some (.str (cs "x"))]) (S' := T) (s_asg (by rw [evE])) ?_
    by_cases hp : 0 < x.1.num
    · rw [decide_eq_true hp] at cgt
      have clt := clt (.str (base x.1))
      rw [decide_eq_false (by omega)] at clt
      have lq := sI_len (i := x.1.num) (by omega) hx.a.n
      have eb : base x.1 = cs "(x - " ++ sI x.1.num ++ cs ")" := by unfold base sR; rw [if_pos hp, if_pos hx.i, List.append_assoc]
      have a1 := ev_add (ev_cstr (O := orc G O) (G := G) "(x - ") (ev_str (fn (some (.str (cs "x")))) hx.a.n) (by omega)
      have a2 := ev_add a1 (ev_cstr ")") (by rw [List.length_append]; omega)
      rw [← eb] at a2
      exact b_nx (en' := [s0, some (.ref S.length), some (R x.1), some (R x.2), some (.str (base x.1))]) (S' := T) (s_true (S1 := T) cgt (b_nx (s_asg a2) (by rw [evB]; rfl))) (b_nx (en' := [s0, some (.ref S.length), some (R x.1), some (R x.2), some (.str (base x.1))]) (S' := T) (s_false (S1 := T) clt (by rw [evB])) (b_nx fin (by rw [evB])))
    · rw [decide_eq_false hp] at cgt
      by_cases hn : x.1.num < 0
      · have clt := clt (.str (cs "x"))
        rw [decide_eq_true hn] at clt
        have hna : (-x.1.num).natAbs < ten := by rw [Int.natAbs_neg]; exact hx.a.n
        have lq := sI_len (i := -x.1.num) (by omega) hna
        have eb : base x.1 = cs "(x + " ++ sI (-x.1.num) ++ cs ")" := by unfold base sR; rw [if_neg hp, if_pos hn, Rat.neg_den, if_pos hx.i, Rat.neg_num, List.append_assoc]
        have ng : evE (orc G O) G (.neg (.fld (.var 2) "n")) [s0, some (.ref S.length), some (R x.1), some (R x.2), some (.str (cs "x"))] T = some (.int (-x.1.num), T) := by rw [evE, fn]
        have a1 := ev_add (ev_cstr (O := orc G O) (G := G) "(x + ") (ev_str ng hna) (by omega)
        have a2 := ev_add a1 (ev_cstr ")") (by rw [List.length_append]; omega)
        rw [← eb] at a2
        exact b_nx (en' := [s0, some (.ref S.length), some (R x.1), some (R x.2), some (.str (cs "x"))]) (S' := T) (s_false (S1 := T) cgt (by rw [evB])) (b_nx (en' := [s0, some (.ref S.length), some (R x.1), some (R x.2), some (.str (base x.1))]) (S' := T) (s_true (S1 := T) clt (b_nx (s_asg a2) (by rw [evB]; rfl))) (b_nx fin (by rw [evB])))
      · have eb : base x.1 = cs "x" := by unfold base; rw [if_neg hp, if_neg hn]
        have clt := clt (.str (cs "x"))
        rw [decide_eq_false hn] at clt
        rw [eb] at fin
        exact b_nx (en' := [s0, some (.ref S.length), some (R x.1), some (R x.2), some (.str (cs "x"))]) (S' := T) (s_false (S1 := T) cgt (by rw [evB])) (b_nx (en' := [s0, some (.ref S.length), some (R x.1), some (R x.2), some (.str (cs "x"))]) (S' := T) (s_false (S1 := T) clt (by rw [evB])) (b_nx fin (by rw [evB, eb])))
omit b in
theorem den_ne : ∀ r : Int, 0 < r → r < 6 → ((r : Rat) / 6).den ≠ 1 ∧ 0 ≤ ((r : Rat) / 6).num ∧ ((r : Rat) / 6).num.natAbs ≤ 6 ∧ ((r : Rat) / 6).den ≤ 6 := fun r h1 h2 => by
  have : r = 1 ∨ r = 2 ∨ r = 3 ∨ r = 4 ∨ r = 5 := by omega
  rcases this with rfl | rfl | rfl | rfl | rfl <;> decide +kernel
omit b in
theorem rng_le {s : Int} (h : s ∈ rng) : -2 ≤ s ∧ s ≤ 3 := by
  have : ∀ s ∈ rng, -2 ≤ s ∧ s ≤ 3 := by decide
  exact this s h
omit b in
theorem due_TL (x : Int → Int) : ∀ y ∈ dueX x, TL y := fun y hy => by
  obtain ⟨s, hs, h1, h2, h3⟩ := (dueX_mem x y).mp hy
  have := rng_le hs
  have h4 : (2 : Nat) ^ 4 ≤ 2 ^ big := Nat.pow_le_pow_right (by decide) (by decide)
  have ht : (10 : Nat) ^ 2 ≤ ten := Nat.pow_le_pow_right (by decide) (by decide)
  obtain ⟨d1, d2, d3, d4⟩ := den_ne (x s % 6) (by omega) (by omega)
  obtain ⟨p, e⟩ := y
  dsimp only at h1 h2
  subst h1 h2
  have n1 : ((s : Rat)).num = s := Rat.num_intCast s
  have n2 : ((s : Rat)).den = 1 := Rat.den_intCast s
  exact ⟨⟨⟨by show (s : Rat).num.natAbs < _; rw [n1]; omega, by show (s : Rat).den < _; rw [n2]; omega⟩, by show (s : Rat).num.natAbs < _; rw [n1]; omega, by show (s : Rat).den < _; rw [n2]; omega⟩, ⟨⟨by dsimp only; omega, by dsimp only; omega⟩, by dsimp only; omega, by dsimp only; omega⟩, d2, n2, d1⟩
theorem f_text {L : List (Int × Int × Int)} (hL : ∀ p ∈ L, GP p) : PF G 4 ("", "_law_text") [.frl (L.map encP)] (.str (PPs (dueX (sixths L)))) := by
  refine pf_of b.l_text rfl rfl fun n S hn => ⟨[.lst (((dueX (sixths L)).map piece).map encS)], .inl ?_⟩
  have henv : List.map some (fillD f__law_text [.frl (L.map encP)]) ++ List.replicate (f__law_text.nm.length - f__law_text.np) none = [some (.frl (L.map encP)), none, none, none, none] := rfl
  rw [henv]
  have hlen : (dueX (sixths L)).length ≤ 6 := by
    have := List.length_filterMap_le (sx (sixths L)) rng
    exact this
  have htl := due_TL (sixths L)
  have dd := (f_due b hL).low (n := n) (j := 0) (by omega) (S := S ++ [.lst []])
  generalize dueX (sixths L) = l at hlen htl dd ⊢
  obtain ⟨t2, t3, t4, w⟩ := text_for b (O := n) (s0 := some (.frl (L.map encP))) (S := S) l [] none none none htl (by simp; omega)
  rw [List.nil_append] at w
  have g1 : (S ++ [Cell.lst ((l.map piece).map encS)])[S.length]? = some (.lst ((l.map piece).map encS)) := st_get _ _
  refine b_nx (en' := [some (.frl (L.map encP)), some (.ref S.length), none, none, none]) (S' := S ++ [.lst []]) ?_ (b_nx (s_for (S1 := (S ++ [Cell.lst (List.map encS [])] : Store)) (ds := l.map enc2) ?_ w) ?_)
  · simp [evS, evE, evEs, clen]
  · simp [evIt, evE, evEs, dd, seqOf]
  · by_cases he : l = []
    · refine b_rt (s_true (S1 := S ++ [.lst ((l.map piece).map encS)]) ?_ (b_rt (s_ret ?_)))
      · simp [evE, evEs, bltD, lenD, eqD, he]
      · rw [evE]; unfold PPs; rw [if_pos he]
    · have hne : (((l.map piece).map encS).length : Int) ≠ 0 := by
        have := List.length_pos_iff.mpr he
        simp; omega
      have hb : ((((l.map piece).map encS).length : Int) == 0) = false := by simpa using hne
      refine b_nx (en' := [some (.frl (L.map encP)), some (.ref S.length), t2, t3, t4]) (S' := S ++ [.lst ((l.map piece).map encS)]) (s_false (S1 := S ++ [.lst ((l.map piece).map encS)]) ?_ (by rw [evB])) (b_rt (s_ret ?_))
      · simp only [evE, evEs, bltD, lenD, List.getElem?_cons_zero, List.getElem?_cons_succ, g1, eqD, hb]
      · have hs : ∀ xs : List (List Nat), (∀ x ∈ xs, x.length ≤ 220) → (xs.map List.length).sum ≤ xs.length * 220 := fun xs => by
          induction xs with
          | nil => intro _; simp
          | cons x xs ih =>
            intro h
            have a := h x (.head _)
            have := ih fun y hy => h y (.tail _ hy)
            simp only [List.map_cons, List.sum_cons, List.length_cons, Nat.add_mul]; omega
        have hsum := hs (l.map piece) fun x hx => by
          obtain ⟨y, hy, rfl⟩ := List.mem_map.mp hx
          exact piece_len (htl y hy).a (htl y hy).b (htl y hy).n
        have c1 : (cs "*").length = 1 := rfl
        simp only [evE, List.getElem?_cons_zero, List.getElem?_cons_succ, seqOf, g1, strsOf_map, c1]
        rw [List.length_map] at hsum ⊢
        rw [if_pos (by omega)]
        unfold PPs
        rw [if_neg he]
end
end L55

set_option linter.all false
set_option maxRecDepth 100000
set_option exponentiation.threshold 500000
/-! L55F: law k55: its statements. -/
namespace L55
open Iv Mq Ev
/-! ### sixths of lists -/
theorem sixF_add (s : Int) : ∀ (L : List (Int × Int × Int)) (t : Int), sixF s L t = t + sixF s L 0
  | [], t => by simp [sixF]
  | p :: L, t => by
    have e : ∀ t, sixF s (p :: L) t = sixF s L (if p.1 = s then t + p.2.1 * (6 / p.2.2) else t) := fun _ => rfl
    rw [e, e]
    split
    · rw [sixF_add s L (t + _), sixF_add s L (0 + _)]; omega
    · exact sixF_add s L t
theorem sixths_app (L M : List (Int × Int × Int)) (s : Int) : sixths (L ++ M) s = sixths L s + sixths M s := by
  have e : sixths (L ++ M) s = sixF s M (sixF s L 0) := List.foldl_append ..
  rw [e, sixF_add]; rfl
theorem sixths_rev : ∀ (L : List (Int × Int × Int)) (s : Int), sixths L.reverse s = sixths L s
  | [], s => rfl
  | p :: L, s => by
    have e : sixths (p :: L) s = sixths [p] s + sixths L s := sixths_app [p] L s
    rw [List.reverse_cons, sixths_app, sixths_rev L s, e]; omega
theorem gv_six {p : Int × Int × Int} (h : GP p) : (p.2.1 : Rat) / (p.2.2 : Rat) = ((p.2.1 * (6 / p.2.2) : Int) : Rat) / 6 := by
  have hd := h.d
  have : p.2.2 = 1 ∨ p.2.2 = 2 ∨ p.2.2 = 3 := by omega
  rcases this with e | e | e <;> rw [e]
  · rw [show (6 : Int) / 1 = 6 from rfl, Rat.intCast_mul, show ((6 : Int) : Rat) = 6 from rfl, show ((1 : Int) : Rat) = 1 from rfl]; grind
  · rw [show (6 : Int) / 2 = 3 from rfl, Rat.intCast_mul, show ((3 : Int) : Rat) = 3 from rfl, show ((2 : Int) : Rat) = 2 from rfl]; grind
  · rw [show (6 : Int) / 3 = 2 from rfl, Rat.intCast_mul, show ((3 : Int) : Rat) = 3 from rfl, show ((2 : Int) : Rat) = 2 from rfl]; grind
theorem tot_gv (s : Int) : ∀ (L : List (Int × Int × Int)) (t : Int), (∀ p ∈ L, GP p) → totF (s : Rat) (L.map gv) ((t : Rat) / 6) = (sixF s L t : Rat) / 6
  | [], t, h => rfl
  | p :: L, t, h => by
    have e0 : sixF s (p :: L) t = sixF s L (if p.1 = s then t + p.2.1 * (6 / p.2.2) else t) := rfl
    have e1 : totF (s : Rat) ((p :: L).map gv) ((t : Rat) / 6) = totF (s : Rat) (L.map gv) (if (p.1 : Rat) = (s : Rat) then (t : Rat) / 6 + (p.2.1 : Rat) / (p.2.2 : Rat) else (t : Rat) / 6) := rfl
    rw [e0, e1]
    by_cases q : p.1 = s
    · have q' : (p.1 : Rat) = (s : Rat) := by exact_mod_cast q
      rw [if_pos q, if_pos q', gv_six (h p (.head _)), ← tot_gv s L _ fun x hx => h x (.tail _ hx), Rat.intCast_add]
      congr 1; grind
    · have q' : ¬ (p.1 : Rat) = (s : Rat) := fun z => q (by exact_mod_cast z)
      rw [if_neg q, if_neg q']
      exact tot_gv s L t fun x hx => h x (.tail _ hx)
theorem rng_of {s : Int} (h : -2 ≤ s ∧ s ≤ 3) : s ∈ rng := by
  have : s = -2 ∨ s = -1 ∨ s = 0 ∨ s = 1 ∨ s = 2 ∨ s = 3 := by omega
  rcases this with rfl | rfl | rfl | rfl | rfl | rfl <;> decide
theorem PP_given {L : List (Int × Int × Int)} (hL : ∀ p ∈ L, GP p) : PPf (L.map gv) = dueX (sixths L) := by
  refine PPf_due (fun y hy => ?_) fun s hs => ?_
  · obtain ⟨p, hp, rfl⟩ := List.mem_map.mp hy
    exact ⟨p.1, rng_of (hL p hp).s, rfl⟩
  · have := tot_gv s L 0 hL
    have e : ((0 : Int) : Rat) / 6 = 0 := by decide +kernel
    rw [e] at this
    exact this
theorem Sz_int {k : Int} {N : Nat} (h : k.natAbs ≤ N) : Sz 1 N (k : Rat) := ⟨by decide, k, by rw [show ((1 : Nat) : Rat) = 1 from rfl]; grind, h⟩
theorem Sz_six {k : Int} {N : Nat} (h : k.natAbs ≤ N) : Sz 6 N ((k : Rat) / 6) := ⟨by decide, k, by rw [show ((6 : Nat) : Rat) = 6 from rfl]; grind, h⟩
theorem FS_given {L : List (Int × Int × Int)} (hL : ∀ p ∈ L, GP p) (hz : L.length ≤ 1000) : FS 6 18 (L.map gv) where
  pos := by decide
  pt := fun x hx => by
    obtain ⟨p, hp, rfl⟩ := List.mem_map.mp hx
    have := (hL p hp).s
    exact (Sz_int (N := 3) (by omega)).sm (by decide) (by decide)
  ex := fun x hx => by
    obtain ⟨p, hp, rfl⟩ := List.mem_map.mp hx
    have g := hL p hp
    show Sz 6 18 ((p.2.1 : Rat) / (p.2.2 : Rat))
    rw [gv_six g]
    refine Sz_six ?_
    have h1 := g.n; have h2 := g.d
    have : p.2.2 = 1 ∨ p.2.2 = 2 ∨ p.2.2 = 3 := by omega
    rcases this with e | e | e <;> rw [e] <;> omega
  d := by decide
  n := by
    rw [List.length_map]
    have h4 : (2 : Nat) ^ 20 ≤ 2 ^ big := Nat.pow_le_pow_right (by decide) (by decide)
    omega
  z := by rw [List.length_map]; omega
theorem due_LX (x : Int → Int) : ∀ y ∈ dueX x, LX y := fun y hy => by
  obtain ⟨s, hs, h1, h2, h3⟩ := (dueX_mem x y).mp hy
  have := rng_le hs
  refine ⟨?_, ?_, ?_, ?_⟩
  · rw [h1]; exact Sz_int (by omega)
  · rw [h1]
    have : s < 4 := by omega
    have h : (s : Rat) < ((4 : Int) : Rat) := by exact_mod_cast this
    exact h
  · rw [h2]; exact Sz_six (by omega)
  · rw [h2]
    have : (0 : Int) < x s % 6 := by omega
    have h : ((0 : Int) : Rat) < ((x s % 6 : Int) : Rat) := by exact_mod_cast this
    have e0 : ((0 : Int) : Rat) = 0 := rfl
    rw [e0] at h
    grind
theorem due_len (x : Int → Int) : (dueX x).length ≤ 6 := List.length_filterMap_le (sx x) rng
theorem FS_due {l : List (Rat × Rat)} (h : ∀ y ∈ l, LX y) (hz : l.length ≤ 1000) : FS 6 5 l where
  pos := by decide
  pt := fun x hx => Sz3_sm (h x hx).pt
  ex := fun x hx => (h x hx).ex
  d := by decide
  n := by
    have h4 : (2 : Nat) ^ 20 ≤ 2 ^ big := Nat.pow_le_pow_right (by decide) (by decide)
    omega
  z := by omega
theorem due_pair (x : Int → Int) : (dueX x).Pairwise fun a b => a.1 ≠ b.1 := (dueX_srt x).imp fun h e => by rw [e] at h; grind
theorem eqD_frl {O : Orc} {d : Nat} (hd : d < 99) (hO : ∀ (x y : Rat) S, O.call (d + 2) ("Ratio", "__eq__") [R x, R y] S = some (.bl (decide (x = y)), S)) (S : Store) (l m : List (Rat × Rat)) : eqD O d (.frl (l.map enc2)) (.frl (m.map enc2)) S = some (decide (l = m)) := by
  rw [eqD, if_pos (by omega)]
  by_cases h : l.length = m.length
  · rw [if_pos (by simpa using h)]
    exact eqL_2 (by omega) hO S l m
  · rw [if_neg (by simpa using h), decide_eq_false fun e => h (by rw [e])]
section
variable {G : Gi} (b : BaseL G)
include b
theorem PP_eq_int (l : List (Rat × Rat)) (k : Int) : PF G 1 ("PowerProduct", "__eq__") [PD l, .int k] (.bl false) := by
  refine pf_ret b.pp_eq rfl rfl rfl fun n S hn => ?_
  simp [Pg.PowerProduct___eq__, fillD, evE, evEs, bltD, isD]
theorem without : PF G 7 ("", "PowerProduct.without_factors") [.cls "PowerProduct"] (PD []) := by
  refine pf_ret b.cm_pp rfl rfl (pur_PD _) fun n S hn => ?_
  have hm := mk_PP b.toBaseP (fs := []) (row := .tup []) (.inr rfl) (FS_due (fun y hy => by cases hy) (by decide)) hn S
  have e : PPf [] = [] := rfl
  rw [e] at hm
  simp [Pg.PowerProduct_without_factors, fillD, evE, evEs, clen, hm]
/-- PowerProduct(_law_given(e)) -/
theorem ev_PP {n : Nat} (hn : 20 ≤ n) {L : List (Int × Int × Int)} (hL : ∀ p ∈ L, GP p) (hz : L.length ≤ 1000) {e : E} {en : Iv.Env} {S : Store} (h : evE (orc G n) G e en S = some (.frl (L.map encP), S)) :
    evE (orc G n) G (.mk "PowerProduct" (.cons (.call "_law_given" (.cons e .nil)) .nil)) en S = some (PD (dueX (sixths L)), S) := by
  have g := (f_given b hL hz).low (n := n) (j := 0) (by omega) (S := S)
  have m := mk_PP b.toBaseP (row := .tup ((L.map gv).map enc2)) (.inr rfl) (FS_given hL hz) (m := n) (by omega) S
  rw [PP_given hL] at m
  simp only [evE, evEs, h, g, m]
theorem ev_PPl {n : Nat} (hn : 20 ≤ n) {L : List (Int × Int × Int)} (hL : ∀ p ∈ L, GP p) (hz : L.length ≤ 1000) {e : E} {en : Iv.Env} {S : Store} (h : evE (orc G n) G e en S = some (.frl (L.map encP), S)) :
    evE (orc G n) G (.mk "PowerProduct" (.cons (.blt .list (.cons (.call "_law_given" (.cons e .nil)) .nil)) .nil)) en S = some (PD (dueX (sixths L)), S) := by
  have g := (f_given b hL hz).low (n := n) (j := 0) (by omega) (S := S)
  have m := mk_PP b.toBaseP (row := .frl ((L.map gv).map enc2)) (.inl rfl) (FS_given hL hz) (m := n) (by omega) S
  rw [PP_given hL] at m
  simp only [evE, evEs, h, g, bltD, m]
theorem ev_due {n : Nat} (hn : 20 ≤ n) {L : List (Int × Int × Int)} (hL : ∀ p ∈ L, GP p) {i : Nat} {en : Iv.Env} {S : Store} (h : en[i]? = some (some (.frl (L.map encP)))) :
    evE (orc G n) G (.call "_law_due" (.cons (.var i) .nil)) en S = some (.frl ((dueX (sixths L)).map enc2), S) := by
  have g := (f_due b hL).low (n := n) (j := 0) (by omega) (S := S)
  simp only [evE, evEs, h, g]
theorem ne_PD {n : Nat} (hn : 20 ≤ n) {e f : E} {en : Iv.Env} {S : Store} {l m : List (Rat × Rat)} (h1 : evE (orc G n) G e en S = some (PD l, S)) (h2 : evE (orc G n) G f en S = some (PD m, S)) : evE (orc G n) G (.cmp .ne e f) en S = some (.bl (!decide (l = m)), S) := by
  have q := (PP_eq b.toBaseP l m).low (n := n) (j := 1) (by omega) (S := S)
  simp only [PD] at h1 h2 q
  simp [evE, h1, h2, eqD, eqR, q]
theorem eq_PD {n : Nat} (hn : 20 ≤ n) {e f : E} {en : Iv.Env} {S : Store} {l m : List (Rat × Rat)} (h1 : evE (orc G n) G e en S = some (PD l, S)) (h2 : evE (orc G n) G f en S = some (PD m, S)) : evE (orc G n) G (.cmp .eq e f) en S = some (.bl (decide (l = m)), S) := by
  have q := (PP_eq b.toBaseP l m).low (n := n) (j := 0) (by omega) (S := S)
  simp only [PD] at h1 h2 q
  simp [evE, h1, h2, eqD, eqR, q]
theorem ne_R {n : Nat} (hn : 20 ≤ n) {e f : E} {en : Iv.Env} {S : Store} {x y : Rat} (h1 : evE (orc G n) G e en S = some (R x, S)) (h2 : evE (orc G n) G f en S = some (R y, S)) : evE (orc G n) G (.cmp .ne e f) en S = some (.bl (!decide (x = y)), S) := by
  have q := (Ratio_eq b.toBase x y).low (n := n) (j := 1) (by omega) (S := S)
  simp only [R] at h1 h2 q
  simp [evE, h1, h2, eqD, eqR, q]
theorem ev_lsto {n : Nat} (hn : 20 ≤ n) {l : List (Rat × Rat)} (hz : l.length ≤ 1000) {i : Nat} {en : Iv.Env} {S : Store} (h : en[i]? = some (some (PD l))) : evE (orc G n) G (.lsto (.var i)) en S = some (.frl (l.map enc2), S) := by
  have q := (PP_len b.toBaseP (l := l)).low (n := n) (j := 3) (by omega) (S := S)
  have hf : fieldOf G "PowerProduct" "pairs" [.tup (l.map enc2)] = some (.tup (l.map enc2)) := by
    unfold fieldOf; rw [b.fpp]; rfl
  have hlv : 3 ≤ (orc G n).lv ∧ l.length ≤ 16777216 := ⟨by rw [orc_lv]; omega, by omega⟩
  have h0 : (0 : Int) ≤ l.length ∧ (l.length : Int) ≤ 16777216 := ⟨by omega, by omega⟩
  simp only [PD] at q h
  simp [evE, h, b.it_pp, hf, hlv, b.pp_len, q, h0]
theorem ne_frl {n : Nat} (hn : 20 ≤ n) {e f : E} {en : Iv.Env} {S : Store} {l m : List (Rat × Rat)} (h1 : evE (orc G n) G e en S = some (.frl (l.map enc2), S)) (h2 : evE (orc G n) G f en S = some (.frl (m.map enc2), S)) : evE (orc G n) G (.cmp .ne e f) en S = some (.bl (!decide (l = m)), S) := by
  have q := eqD_frl (O := orc G n) (d := 1) (by decide) (fun x y S => (Ratio_eq b.toBase x y).low (by omega)) S l m
  simp [evE, h1, h2, q]
theorem eq_frl {n : Nat} (hn : 20 ≤ n) {e f : E} {en : Iv.Env} {S : Store} {l m : List (Rat × Rat)} (h1 : evE (orc G n) G e en S = some (.frl (l.map enc2), S)) (h2 : evE (orc G n) G f en S = some (.frl (m.map enc2), S)) : evE (orc G n) G (.cmp .eq e f) en S = some (.bl (decide (l = m)), S) := by
  have q := eqD_frl (O := orc G n) (d := 0) (by decide) (fun x y S => (Ratio_eq b.toBase x y).low (by omega)) S l m
  simp [evE, h1, h2, q]
theorem ev_len {n : Nat} (hn : 20 ≤ n) {l : List (Rat × Rat)} (hz : l.length ≤ 1000) {i : Nat} {en : Iv.Env} {S : Store} (h : en[i]? = some (some (PD l))) : evE (orc G n) G (.blt .len (.cons (.var i) .nil)) en S = some (.int l.length, S) := by
  have q := (PP_len b.toBaseP (l := l)).low (n := n) (j := 1) (by omega) (S := S)
  have h0 : (0 : Int) ≤ l.length ∧ (l.length : Int) ≤ 16777216 := ⟨by omega, by omega⟩
  simp only [PD] at q h
  simp [evE, evEs, h, bltD, lenD, q, h0]
theorem ev_strPP {n : Nat} (hn : 20 ≤ n) {l : List (Rat × Rat)} (ht : ∀ y ∈ l, TL y) (hz : l.length ≤ 1000) {i : Nat} {en : Iv.Env} {S : Store} (h : en[i]? = some (some (PD l))) : evE (orc G n) G (.blt .str (.cons (.var i) .nil)) en S = some (.str (PPs l), S) := by
  have q := (PP_str b.toBaseP (l := l) (fun x hx => ⟨(ht x hx).a, (ht x hx).b, (ht x hx).n⟩) hz).low (n := n) (j := 2) (by omega) (S := S)
  simp only [PD] at q h
  simp [evE, evEs, h, bltD, q]
theorem ev_mul {n : Nat} (hn : 20 ≤ n) {x y : Int → Int} {i j : Nat} {en : Iv.Env} {S : Store} (h1 : en[i]? = some (some (PD (dueX x)))) (h2 : en[j]? = some (some (PD (dueX y)))) : evE (orc G n) G (.bin .mul (.var i) (.var j)) en S = some (PD (dueX fun s => x s + y s), S) := by
  have l1 := due_len x
  have l2 := due_len y
  have q := (PP_mul b.toBaseP (FS_due (l := dueX x ++ dueX y) (fun z hz => by
    rcases List.mem_append.mp hz with h | h
    · exact due_LX x z h
    · exact due_LX y z h) (by simp; omega))).low (n := n) (j := 0) (by omega) (S := S)
  rw [due_mul] at q
  simp only [PD] at h1 h2 q
  simp [evE, h1, h2, binD, Bop.dun, q, PD]
end
end L55

set_option linter.all false
set_option maxRecDepth 100000
set_option exponentiation.threshold 500000
/-! L55G: law k55: surplus, logarithmic derivative, loops. -/
namespace L55
open Iv Mq Ev
def surpI (x y : Int → Int) : List Int := rng.filter fun s => decide (6 ≤ x s % 6 + y s % 6)
def bigp : (2 : Nat) ^ 200 ≤ 2 ^ big := Nat.pow_le_pow_right (by decide) (by decide)
theorem sz_at {A : Int} (h : 7 ≤ A ∧ A ≤ 11) : Sz 1 11 (A : Rat) := Sz_int (by omega)
section
variable {G : Gi} (b : BaseL G)
include b
/-- the surplus at a point -/
theorem ev_surp {n : Nat} (hn : 20 ≤ n) {x y : Int → Int} {A : Int} (hA : 7 ≤ A ∧ A ≤ 11) {i j k : Nat} {en : Iv.Env} {S : Store} (h1 : en[i]? = some (some (PD (dueX x)))) (h2 : en[j]? = some (some (PD (dueX y)))) (h3 : en[k]? = some (some (R A))) :
    evE (orc G n) G (.app (.mth (.var i) "PowerProduct" "surplus" (.cons (.var j) .nil)) "RatFun" (.cons (.var k) .nil)) en S = some (R (prodV A 1 (surp (dueX x) (dueX y))), S) := by
  have lx := due_LX x
  have ex : ∀ z ∈ dueX x, Sz 6 5 z.2 ∧ Sz 6 5 (expo z.1 (dueX y)) := fun z hz => by
    refine ⟨(lx z hz).ex, ?_⟩
    obtain ⟨s, hs, e1, _⟩ := (dueX_mem x z).mp hz
    rw [e1, due_expo y hs]
    exact Sz_six (by omega)
  have q := (PP_surplus b.toBaseP (l := dueX x) (m := dueX y) (fun z hz => (lx z hz).pt) (fun z hz => ⟨(ex z hz).1.sm (by decide) (by decide), (ex z hz).2.sm (by decide) (by decide), ((ex z hz).1.add (ex z hz).2).sm (by decide) (by decide)⟩) (by have := due_len x; omega)).low (n := n) (j := 0) (by omega) (S := S)
  have hlen : (surp (dueX x) (dueX y)).length ≤ 6 := by
    unfold surp; rw [List.length_map]
    exact Nat.le_trans (List.length_filter_le ..) (due_len x)
  have hpt : ∀ s ∈ surp (dueX x) (dueX y), Sz 1 3 s := fun s hs => by
    unfold surp at hs
    obtain ⟨z, hz, rfl⟩ := List.mem_map.mp hs
    exact (lx z (List.mem_filter.mp hz).1).pt
  generalize surp (dueX x) (dueX y) = ps at q hlen hpt ⊢
  have pp := prodL_PS ps 1 1 hpt PS.one
  have pl := prodL_len ps 1 (Pl.monic_ne Pl.monic_one)
  rw [Pl.one_list] at pl
  have h6 : 6 ^ ps.length ≤ 6 ^ 6 := Nat.pow_le_pow_right (by decide) hlen
  have hb := bigp
  have h11 : ∀ m, m ≤ 8 → 11 ^ m ≤ 11 ^ 8 := fun m hm => Nat.pow_le_pow_right (by decide) hm
  have pl' : (prodL 1 ps).1.length ≤ 7 := by rw [pl]; simp; omega
  have q1 : (prodL 1 ps).1.length * (1 * 6 ^ ps.length * 11 ^ (prodL 1 ps).1.length) ≤ 7 * (6 ^ 6 * 11 ^ 8) := by
    rw [Nat.one_mul]
    exact Nat.mul_le_mul pl' (Nat.mul_le_mul h6 (h11 _ (by omega)))
  have c1 := Poly_call b.toBase (p := prodL 1 ps) (x := (A : Rat)) pp (sz_at hA) (by decide) (by rw [Nat.one_pow]; decide) (by omega) (by decide) (by omega) (by decide)
  have c2 := Poly_call b.toBase (p := 1) (x := (A : Rat)) PS.one (sz_at hA) (by decide) (by rw [Nat.one_pow]; decide) (by rw [Pl.one_list]; decide) (by decide) (by decide) (by decide)
  rw [val_prodL, Pl.val_1] at c1
  rw [Pl.val_1] at c2
  have hsm : Sm (prodV (A : Rat) 1 ps) := by
    have hz : ∀ (l : List Rat) (t : Rat) (N : Nat), (∀ s ∈ l, Sz 1 3 s) → Sz 1 N t → Sz 1 (N * 14 ^ l.length) (prodV (A : Rat) t l) := by
      intro l
      induction l with
      | nil => intro t N _ ht; simpa [prodV] using ht
      | cons s l ih =>
        intro t N h ht
        have := ih (t * ((A : Rat) - s)) (N * 14) (fun z hz => h z (.tail _ hz)) (by
          have := ht.mul ((sz_at hA).sub (h s (.head _)))
          exact this)
        rw [List.length_cons, Nat.pow_succ]
        have e : N * (14 ^ l.length * 14) = N * 14 * 14 ^ l.length := by rw [Nat.mul_comm (14 ^ l.length) 14, ← Nat.mul_assoc]
        rw [e]
        exact this
    have h14 : 14 ^ ps.length ≤ 14 ^ 6 := Nat.pow_le_pow_right (by decide) hlen
    exact (hz ps 1 1 hpt (Sz_int (k := 1) (N := 1) (by decide))).sm (by decide) (by omega)
  have rc := (RF_call b.toBase (n := prodL 1 ps) (d := 1) (x := (A : Rat)) c2 c1 (by decide +kernel) ((Sz_int (k := 1) (N := 1) (by decide)).sm (by decide) (by decide)) hsm).low (n := n) (j := 0) (by omega) (S := S)
  have e1 : prodV (A : Rat) 1 ps / 1 = prodV (A : Rat) 1 ps := by grind
  rw [e1] at rc
  generalize prodV (A : Rat) 1 ps = v at rc ⊢
  clear c1 c2 hsm e1
  generalize (A : Rat) = a at h3 rc ⊢
  simp only [PD, RF, R] at h1 h2 h3 q rc
  simp [evE, evEs, h1, h2, h3, q, rc, R]
/-- the logarithmic derivative at a point -/
theorem ev_log {n : Nat} (hn : 20 ≤ n) {x : Int → Int} (hl4 : (dueX x).length ≤ 4) {A : Int} (hA : 7 ≤ A ∧ A ≤ 11) {i k : Nat} {en : Iv.Env} {S : Store} (h1 : en[i]? = some (some (PD (dueX x)))) (h3 : en[k]? = some (some (R A))) :
    evE (orc G n) G (.app (.mth (.var i) "PowerProduct" "log_derivative" .nil) "RatFun" (.cons (.var k) .nil)) en S = some (R (sumV A 0 (dueX x)), S) := by
  have lx := due_LX x
  have q := (PP_log b.toBaseP hl4 lx (due_pair x)).low (n := n) (j := 0) (by omega) (S := S)
  have li := (f_added b.toBaseP hl4 lx (due_pair x)).2
  obtain ⟨v1, v2⟩ := numL_val (x := (A : Rat)) (dueX x) 0 1 0 (fun y hy e => by
    have := (lx y hy).lt
    rw [← e] at this
    have h7 : ((7 : Int) : Rat) ≤ (A : Rat) := by exact_mod_cast hA.1
    have e7 : ((7 : Int) : Rat) = 7 := rfl
    rw [e7] at h7
    grind) (by rw [Pl.val_1]; decide +kernel) (by rw [Pl.val_0]; grind)
  generalize hnd : numL 0 1 (dueX x) = nd at q li v1 v2
  obtain ⟨N, D⟩ := nd
  dsimp only at q li v1 v2
  generalize (dueX x).length = m at hl4 li
  have h6 : 6 ^ m ≤ 6 ^ 4 := Nat.pow_le_pow_right (by decide) hl4
  have hn1 : 5 * m * 6 ^ m ≤ 20 * 6 ^ 4 := Nat.mul_le_mul (by omega) h6
  have l1 := li.ln
  have l2 := li.ld
  have hb := bigp
  have h11 : ∀ m, m ≤ 8 → 11 ^ m ≤ 11 ^ 8 := fun m hm => Nat.pow_le_pow_right (by decide) hm
  have q1 : N.1.length * (5 * m * 6 ^ m * 11 ^ N.1.length) ≤ 4 * (20 * 6 ^ 4 * 11 ^ 8) := Nat.mul_le_mul (by omega) (Nat.mul_le_mul hn1 (h11 _ (by omega)))
  have q2 : D.1.length * (6 ^ m * 11 ^ D.1.length) ≤ 5 * (6 ^ 4 * 11 ^ 8) := Nat.mul_le_mul (by omega) (Nat.mul_le_mul h6 (h11 _ (by omega)))
  have c1 := Poly_call b.toBase (p := N) (x := (A : Rat)) li.pn (sz_at hA) (by decide) (by rw [Nat.one_pow]; decide) (by omega) (by decide) (by omega) (by decide)
  have c2 := Poly_call b.toBase (p := D) (x := (A : Rat)) li.pd (sz_at hA) (by decide) (by rw [Nat.one_pow]; decide) (by omega) (by decide) (by omega) (by decide)
  have hv : ∀ (D0 N0 : Nat) (l : List Rat), PS D0 N0 l → Sz D0 (N0 * 12 ^ l.length) (ev l (A : Rat)) := by
    intro D0 N0 l
    induction l with
    | nil => intro h; rw [ev_nil]; exact Sz.zero h.1
    | cons c l ih =>
      intro h
      have := ih ⟨h.1, fun z hz => h.2 z (.tail _ hz)⟩
      rw [ev_cons, List.length_cons, Nat.pow_succ]
      have m1 := (sz_at hA).mul this
      rw [Nat.one_mul] at m1
      refine ((h.2 c (.head _)).add m1).mono ?_
      have : N0 ≤ N0 * 12 ^ l.length := Nat.le_mul_of_pos_right _ (Nat.pow_pos (by decide))
      have e : N0 * (12 ^ l.length * 12) = 12 * (N0 * 12 ^ l.length) := by rw [← Nat.mul_assoc, Nat.mul_comm]
      rw [e]; omega
  have h12 : ∀ m, m ≤ 8 → 12 ^ m ≤ 12 ^ 8 := fun m hm => Nat.pow_le_pow_right (by decide) hm
  have q3 : 5 * m * 6 ^ m * 12 ^ N.1.length ≤ 20 * 6 ^ 4 * 12 ^ 8 := Nat.mul_le_mul hn1 (h12 _ (by omega))
  have q4 : 6 ^ m * 12 ^ D.1.length ≤ 6 ^ 4 * 12 ^ 8 := Nat.mul_le_mul h6 (h12 _ (by omega))
  have s1 : Sm (N.val (A : Rat)) := (hv 6 _ N.1 li.pn).sm (by decide) (by omega)
  have s2 : Sm (D.val (A : Rat)) := (hv 1 _ D.1 li.pd).sm (by decide) (by omega)
  have rc := (RF_call b.toBase (n := N) (d := D) (x := (A : Rat)) c2 c1 v1 s2 s1).low (n := n) (j := 0) (by omega) (S := S)
  have e1 : N.val (A : Rat) / D.val (A : Rat) = sumV A 0 (dueX x) := by rw [v2]; grind
  rw [e1] at rc
  generalize sumV (A : Rat) 0 (dueX x) = v at rc ⊢
  clear c1 c2 s1 s2 hv e1 v1 v2
  generalize (A : Rat) = a at h3 rc ⊢
  simp only [PD, RF, R] at h1 h3 q rc
  simp [evE, evEs, h1, h3, q, rc, R]
/-! ### the loops of the law -/
def loop1 : Ss := (.cons (.if_ (.cmp .ge (.bin .add (.bin .mod (.blt .int (.cons (.call "_law_sixths" (.cons (.var 2) (.cons (.var 8) .nil))) .nil)) (.cint 6)) (.bin .mod (.blt .int (.cons (.call "_law_sixths" (.cons (.var 3) (.cons (.var 8) .nil))) .nil)) (.cint 6))) (.cint 6))
 (.cons (.asg 7 (.bin .mul (.var 7) (.bin .sub (.var 6) (.mk "Ratio" (.cons (.var 8) .nil)))))
 .nil)
 .nil)
 .nil)
theorem for1 {n : Nat} (hn : 20 ≤ n) {L1 L2 : List (Int × Int × Int)} (hL1 : ∀ p ∈ L1, GP p) (hL2 : ∀ p ∈ L2, GP p) {A : Int} (hA : 7 ≤ A ∧ A ≤ 11) {s0 s1 s4 s5 s9 s10 s11 : Option DV} {S : Store} : ∀ (ss : List Int) (t : Rat) (N : Nat) (s8 : Option DV), (∀ s ∈ ss, s ∈ rng) → Sz 1 N t → N * 14 ^ ss.length < 2 ^ 200 → ∃ t8,
    forL (.one 8) (evB (orc G n) G loop1) none (Z ss) [s0, s1, some (.frl (L1.map encP)), some (.frl (L2.map encP)), s4, s5, some (R A), some (R t), s8, s9, s10, s11] S = some (.nx [s0, s1, some (.frl (L1.map encP)), some (.frl (L2.map encP)), s4, s5, some (R A), some (R (prodV A t ((ss.filter fun s => decide (6 ≤ sixths L1 s % 6 + sixths L2 s % 6)).map fun s : Int => (s : Rat)))), t8, s9, s10, s11] S)
  | [], t, N, s8, h, ht, hN => ⟨s8, for_nil⟩
  | s :: ss, t, N, s8, h, ht, hN => by
    have hb := bigp
    have hs := rng_le (h s (.head _))
    have c1 := (f_sixths b hL1 s).low (n := n) (j := 0) (by omega) (S := S)
    have c2 := (f_sixths b hL2 s).low (n := n) (j := 0) (by omega) (S := S)
    rw [List.length_cons, Nat.pow_succ] at hN
    have hN1 : N * 14 ^ ss.length ≤ N * (14 ^ ss.length * 14) := Nat.mul_le_mul_left _ (by omega)
    have hNs : N ≤ N * 14 ^ ss.length := Nat.le_mul_of_pos_right _ (Nat.pow_pos (by decide))
    have hc : evE (orc G n) G (.cmp .ge (.bin .add (.bin .mod (.blt .int (.cons (.call "_law_sixths" (.cons (.var 2) (.cons (.var 8) .nil))) .nil)) (.cint 6)) (.bin .mod (.blt .int (.cons (.call "_law_sixths" (.cons (.var 3) (.cons (.var 8) .nil))) .nil)) (.cint 6))) (.cint 6)) [s0, s1, some (.frl (L1.map encP)), some (.frl (L2.map encP)), s4, s5, some (R A), some (R t), some (.int s), s9, s10, s11] S = some (.bl (decide (6 ≤ sixths L1 s % 6 + sixths L2 s % 6)), S) := by
      simp [evE, evEs, c1, c2, bltD, binD, intOp, fmod6]
    by_cases q : 6 ≤ sixths L1 s % 6 + sixths L2 s % 6
    · rw [decide_eq_true q] at hc
      have hsz : Sz 1 3 (s : Rat) := Sz_int (by omega)
      have hd : Sz 1 14 ((A : Rat) - (s : Rat)) := (sz_at hA).sub hsz
      obtain ⟨t8, ih⟩ := for1 hn hL1 hL2 hA (s0 := s0) (s1 := s1) (s4 := s4) (s5 := s5) (s9 := s9) (s10 := s10) (s11 := s11) (S := S) ss (t * ((A : Rat) - (s : Rat))) (N * 14) (some (.int s)) (fun z hz => h z (.tail _ hz)) (ht.mul hd) (by rw [Nat.mul_assoc, Nat.mul_comm 14]; exact hN)
      rw [List.filter_cons, if_pos (decide_eq_true q), List.map_cons]
      refine ⟨t8, for_next (en1 := [s0, s1, some (.frl (L1.map encP)), some (.frl (L2.map encP)), s4, s5, some (R A), some (R t), some (.int s), s9, s10, s11]) rfl (b_nx (en' := [s0, s1, some (.frl (L1.map encP)), some (.frl (L2.map encP)), s4, s5, some (R A), some (R (t * ((A : Rat) - (s : Rat)))), some (.int s), s9, s10, s11]) (S' := S) (s_true (S1 := S) hc (b_nx (s_asg ?_) (by rw [evB]; rfl))) (by rw [evB])) ih⟩
      have m1 := mk_Ratio1 b.toBase (n := s) (m := n) (by omega) S
      have m2 := (Ratio_sub b.toBase ((sz_at hA).sm (by decide) (by decide)) (hsz.sm (by decide) (by decide))).low (n := n) (j := 0) (by omega) (S := S)
      have m3 := (Ratio_mul b.toBase (ht.sm (by decide) (by omega)) (hd.sm (by decide) (by decide))).low (n := n) (j := 0) (by omega) (S := S)
      generalize (A : Rat) = a at m2 m3 ⊢
      generalize (s : Rat) = r at m1 m2 m3 ⊢
      generalize a - r = w at m2 m3 ⊢
      generalize t * w = u at m3 ⊢
      simp only [R] at m1 m2 m3
      simp [evE, evEs, R, m1, m2, m3, binD, Bop.dun]
    · rw [decide_eq_false q] at hc
      obtain ⟨t8, ih⟩ := for1 hn hL1 hL2 hA (s0 := s0) (s1 := s1) (s4 := s4) (s5 := s5) (s9 := s9) (s10 := s10) (s11 := s11) (S := S) ss t N (some (.int s)) (fun z hz => h z (.tail _ hz)) ht (by omega)
      rw [List.filter_cons, if_neg (by simpa using q)]
      exact ⟨t8, for_next (en1 := [s0, s1, some (.frl (L1.map encP)), some (.frl (L2.map encP)), s4, s5, some (R A), some (R t), some (.int s), s9, s10, s11]) rfl (b_nx (en' := [s0, s1, some (.frl (L1.map encP)), some (.frl (L2.map encP)), s4, s5, some (R A), some (R t), some (.int s), s9, s10, s11]) (S' := S) (s_false (S1 := S) hc (by rw [evB])) (by rw [evB])) ih⟩
theorem for2 {n : Nat} (hn : 20 ≤ n) {A : Int} (hA : 7 ≤ A ∧ A ≤ 11) {s0 s1 s2 s3 s4 s5 s7 s10 : Option DV} {S : Store} : ∀ (l : List (Rat × Rat)) (t : Rat) (D N : Nat) (s8 s11 : Option DV), (∀ x ∈ l, LX x ∧ ∃ s : Int, x.1 = (s : Rat)) → Sz D N t → D * 90 ^ l.length < 2 ^ 200 → (N + D) * 90 ^ l.length < 2 ^ 200 → ∃ t8 t11,
    forL (.many [8, 11]) (evB (orc G n) G (.cons (.asg 9 (.bin .add (.var 9) (.mth (.var 11) "Ratio" "over" (.cons (.bin .sub (.var 6) (.var 8)) .nil)))) .nil)) none (l.map enc2) [s0, s1, s2, s3, s4, s5, some (R A), s7, s8, some (R t), s10, s11] S = some (.nx [s0, s1, s2, s3, s4, s5, some (R A), s7, t8, some (R (sumV A t l)), s10, t11] S)
  | [], t, D, N, s8, s11, h, ht, hD, hN => ⟨s8, s11, for_nil⟩
  | x :: l, t, D, N, s8, s11, h, ht, hD, hN => by
    have hb := bigp
    obtain ⟨hx, s, es⟩ := h x (.head _)
    have hs : -3 ≤ s ∧ s ≤ 3 := by
      have := hx.pt.le.1
      rw [es, Rat.num_intCast] at this
      omega
    obtain ⟨w, hw⟩ : ∃ w : Nat, A - s = w := ⟨(A - s).toNat, by omega⟩
    have hw4 : 4 ≤ w ∧ w ≤ 14 := by omega
    have ew : (A : Rat) - x.1 = (w : Rat) := by
      rw [es, ← Rat.intCast_sub, hw]; rfl
    have hw0 : (w : Rat) ≠ 0 := by
      have : w ≠ 0 := by omega
      exact_mod_cast this
    have hq : Sz (6 * w) 5 (x.2 / ((A : Rat) - x.1)) := by
      obtain ⟨_, r, e, le⟩ := hx.ex
      refine ⟨by omega, r, ?_, le⟩
      rw [ew, ← e, Rat.natCast_mul]
      grind
    have ht' := ht.up (k := 6 * w) (by omega)
    have hq' := hq.up (k := D) ht.1
    rw [Nat.mul_comm (6 * w) D] at hq'
    have hsum := ht'.add hq'
    rw [List.length_cons, Nat.pow_succ] at hD hN
    have hp : 1 ≤ 90 ^ l.length := Nat.pow_pos (by decide)
    have hD' : D * (6 * w) ≤ D * 90 := Nat.mul_le_mul_left _ (by omega)
    have hN0 : N * (6 * w) ≤ N * 90 := Nat.mul_le_mul_left _ (by omega)
    have hN' : N * (6 * w) + 5 * D + D * (6 * w) ≤ (N + D) * 90 := by
      have h5 : D * (6 * w + 5) ≤ D * 90 := Nat.mul_le_mul_left _ (by omega)
      rw [Nat.mul_add] at h5
      rw [Nat.add_mul]; omega
    have hD2 : D * 90 * 90 ^ l.length < 2 ^ 200 := by rw [Nat.mul_assoc, Nat.mul_comm 90]; exact hD
    have hN2 : (N + D) * 90 * 90 ^ l.length < 2 ^ 200 := by rw [Nat.mul_assoc, Nat.mul_comm 90]; exact hN
    have hD3 : D * (6 * w) * 90 ^ l.length ≤ D * 90 * 90 ^ l.length := Nat.mul_le_mul_right _ hD'
    have hN3 : (N * (6 * w) + 5 * D + D * (6 * w)) * 90 ^ l.length ≤ (N + D) * 90 * 90 ^ l.length := Nat.mul_le_mul_right _ hN'
    have hDb : D ≤ D * 90 * 90 ^ l.length := by
      rw [Nat.mul_assoc]; exact Nat.le_mul_of_pos_right _ (Nat.mul_pos (by decide) hp)
    have hNb : N + D ≤ (N + D) * 90 * 90 ^ l.length := by
      rw [Nat.mul_assoc]; exact Nat.le_mul_of_pos_right _ (Nat.mul_pos (by decide) hp)
    obtain ⟨t8, t11, ih⟩ := for2 hn hA (s0 := s0) (s1 := s1) (s2 := s2) (s3 := s3) (s4 := s4) (s5 := s5) (s7 := s7) (s10 := s10) (S := S) l (t + x.2 / ((A : Rat) - x.1)) (D * (6 * w)) (N * (6 * w) + 5 * D) (some (R x.1)) (some (R x.2)) (fun z hz => h z (.tail _ hz)) hsum (by omega) (by omega)
    refine ⟨t8, t11, for_next (en1 := [s0, s1, s2, s3, s4, s5, some (R A), s7, some (R x.1), some (R t), s10, some (R x.2)]) rfl (b_nx (en' := [s0, s1, s2, s3, s4, s5, some (R A), s7, some (R x.1), some (R (t + x.2 / ((A : Rat) - x.1))), s10, some (R x.2)]) (S' := S) (s_asg ?_) (by rw [evB])) ih⟩
    have hw1 : ((A : Rat) - x.1) ≠ 0 := by rw [ew]; exact hw0
    have hsw : Sm ((A : Rat) - x.1) := by
      rw [es, ← Rat.intCast_sub]
      exact (Sz_int (N := 14) (by omega)).sm (by decide) (by decide)
    have m2 := (Ratio_sub b.toBase ((sz_at hA).sm (by decide) (by decide)) (Sz3_sm hx.pt)).low (n := n) (j := 0) (by omega) (S := S)
    have m3 := (Ratio_over b.toBase (hx.ex.sm (by decide) (by decide)) hsw hw1).low (n := n) (j := 0) (by omega) (S := S)
    have m4 := (Ratio_add b.toBase (ht.sm (by omega) (by omega)) (hq.sm (by omega) (by decide))).low (n := n) (j := 0) (by omega) (S := S)
    clear ht hq ht' hq' hsum ih hw1 hsw hx h es ew hw0
    generalize (A : Rat) = a at m2 m3 m4 ⊢
    obtain ⟨x1, x2⟩ := x
    dsimp only at m2 m3 m4 ⊢
    generalize a - x1 = v at m2 m3 m4 ⊢
    generalize x2 / v = u at m3 m4 ⊢
    generalize t + u = z at m4 ⊢
    simp only [R] at m2 m3 m4
    simp [evE, evEs, R, m2, m3, m4, binD, Bop.dun]
end
end L55

set_option linter.all false
set_option maxRecDepth 100000
set_option exponentiation.threshold 500000
/-! L55H: law k55 holds in the small language. -/
namespace L55
open Iv Mq Ev
theorem ne_int {O : Orc} {G : Gi} {e f : E} {en : Iv.Env} {S : Store} {i j : Int} (h1 : evE O G e en S = some (.int i, S)) (h2 : evE O G f en S = some (.int j, S)) : evE O G (.cmp .ne e f) en S = some (.bl (!(i == j)), S) := by
  simp [evE, h1, h2, eqD]
theorem eq_int {O : Orc} {G : Gi} {e f : E} {en : Iv.Env} {S : Store} {i j : Int} (h1 : evE O G e en S = some (.int i, S)) (h2 : evE O G f en S = some (.int j, S)) : evE O G (.cmp .eq e f) en S = some (.bl (i == j), S) := by
  simp [evE, h1, h2, eqD]
theorem ne_str {O : Orc} {G : Gi} {e f : E} {en : Iv.Env} {S : Store} {i j : List Nat} (h1 : evE O G e en S = some (.str i, S)) (h2 : evE O G f en S = some (.str j, S)) : evE O G (.cmp .ne e f) en S = some (.bl (!(i == j)), S) := by
  simp [evE, h1, h2, eqD]
theorem eq_str {O : Orc} {G : Gi} {e f : E} {en : Iv.Env} {S : Store} {i j : List Nat} (h1 : evE O G e en S = some (.str i, S)) (h2 : evE O G f en S = some (.str j, S)) : evE O G (.cmp .eq e f) en S = some (.bl (i == j), S) := by
  simp [evE, h1, h2, eqD]
theorem ne_bl {O : Orc} {G : Gi} {e f : E} {en : Iv.Env} {S : Store} {i j : Bool} (h1 : evE O G e en S = some (.bl i, S)) (h2 : evE O G f en S = some (.bl j, S)) : evE O G (.cmp .ne e f) en S = some (.bl (!(i == j)), S) := by
  simp [evE, h1, h2, eqD]
theorem ev_var {O : Orc} {G : Gi} {i : Nat} {en : Iv.Env} {S : Store} {d : DV} (h : en[i]? = some (some d)) : evE O G (.var i) en S = some (d, S) := by rw [evE, h]
theorem self_false {α : Type} [DecidableEq α] (a : α) : (!decide (a = a)) = false := by simp
section
variable {G : Gi} (b : BaseL G)
include b
theorem law_true {k : Nat} (hk : 40 ≤ k) (vs : List Int) (hz : vs.length ≤ 16777216) : ∃ S', evFn (orc G k) G f_law [.scr (Z vs)] [] = some (.bl true, S') := by
  obtain ⟨n0, c0⟩ := f_numbers b vs hz k (by omega) []
  obtain ⟨n1, L1, l1, g1, c1⟩ := f_pairs b (k := 0) (ns := n0) (S := [.lst (Z n0)]) rfl (n := k) (by omega)
  obtain ⟨n2, L2, l2, g2, c2⟩ := f_pairs b (k := 0) (ns := n1) (S := [.lst (Z n1)]) rfl (n := k) (by omega)
  obtain ⟨v, n3, v0, v5, c3⟩ := f_next b (many := 5) (by decide) (k := 0) (ns := n2) (S := [.lst (Z n2)]) rfl (n := k) (j := 0) (by omega)
  have hn : 20 ≤ k := by omega
  have z1 : L1.length ≤ 1000 := by omega
  have z2 : L2.length ≤ 1000 := by omega
  have hA : 7 ≤ 7 + v ∧ 7 + v ≤ 11 := by omega
  have dl1 := due_len (sixths L1)
  have dl2 := due_len (sixths L2)
  have hl4 : (dueX (sixths L1)).length ≤ 4 := by
    rw [← PP_given g1]
    have := PPf_len (L1.map gv)
    rw [List.length_map] at this; omega
  -- the environments
  let A : Int := 7 + v
  let e0 : Option DV := some (.scr (Z vs))
  let e1 : Option DV := some (.ref 0)
  let e2 : Option DV := some (.frl (L1.map encP))
  let e3 : Option DV := some (.frl (L2.map encP))
  let e4 : Option DV := some (PD (dueX (sixths L1)))
  let e5 : Option DV := some (PD (dueX (sixths L2)))
  let e6 : Option DV := some (R A)
  have hcl : (fillD f_law [.scr (Z vs)]).length = f_law.np := rfl
  have henv : List.map some [DV.scr (Z vs)] ++ List.replicate (f_law.nm.length - f_law.np) none = [e0, none, none, none, none, none, none, none, none, none, none, none] := rfl
  let T2 : Store := [.lst (Z n2)]
  let T3 : Store := [.lst (Z n3)]
  let E5 : Iv.Env := [e0, e1, e2, e3, e4, e5, none, none, none, none, none, none]
  -- first question
  have q1 : evE (orc G k) G (.or_ (.cmp .ne (.lsto (.var 4)) (.call "_law_due" (.cons (.var 2) .nil))) (.or_ (.cmp .ne (.blt .len (.cons (.var 4) .nil)) (.blt .len (.cons (.call "_law_due" (.cons (.var 2) .nil)) .nil))) (.cmp .ne (.blt .str (.cons (.var 4) .nil)) (.call "_law_text" (.cons (.var 2) .nil))))) E5 T2 = some (.bl false, T2) := by
    have a1 := ne_frl b hn (ev_lsto b hn (l := dueX (sixths L1)) (by omega) (i := 4) (en := E5) (S := T2) rfl) (ev_due b hn g1 (i := 2) (en := E5) (S := T2) rfl)
    rw [self_false] at a1
    have d1 := ev_due b hn g1 (i := 2) (en := E5) (S := T2) rfl
    have a2 : evE (orc G k) G (.blt .len (.cons (.call "_law_due" (.cons (.var 2) .nil)) .nil)) E5 T2 = some (.int (dueX (sixths L1)).length, T2) := by
      rw [evE]
      simp only [evEs, d1, bltD, lenD, List.length_map]
    have a3 := ne_int (ev_len b hn (l := dueX (sixths L1)) (by omega) (i := 4) (en := E5) (S := T2) rfl) a2
    rw [show (!(((dueX (sixths L1)).length : Int) == ((dueX (sixths L1)).length : Int))) = false by simp] at a3
    have tx := (f_text b g1).low (n := k) (j := 0) (by omega) (S := T2)
    have a4 : evE (orc G k) G (.call "_law_text" (.cons (.var 2) .nil)) E5 T2 = some (.str (PPs (dueX (sixths L1))), T2) := by
      have : E5[2]? = some (some (.frl (L1.map encP))) := rfl
      simp only [evE, evEs, this, tx]
    have a5 := ne_str (ev_strPP b hn (l := dueX (sixths L1)) (due_TL _) (by omega) (i := 4) (en := E5) (S := T2) rfl) a4
    rw [show (!(PPs (dueX (sixths L1)) == PPs (dueX (sixths L1)))) = false by simp] at a5
    exact e_or_f a1 (e_or_f a3 a5)
  -- second question
  have q2 : evE (orc G k) G (.or_ (.cmp .ne (.var 4) (.mk "PowerProduct" (.cons (.call "_law_given" (.cons (.slRev (.var 2)) .nil)) .nil))) (.cmp .ne (.cmp .eq (.var 4) (.var 5)) (.cmp .eq (.call "_law_due" (.cons (.var 2) .nil)) (.call "_law_due" (.cons (.var 3) .nil))))) E5 T2 = some (.bl false, T2) := by
    have r1 : evE (orc G k) G (.slRev (.var 2)) E5 T2 = some (.frl (L1.reverse.map encP), T2) := by
      have : E5[2]? = some (some (.frl (L1.map encP))) := rfl
      simp only [evE, this, List.map_reverse]
    have p1 := ev_PP b hn (L := L1.reverse) (fun p hp => g1 p (List.mem_reverse.mp hp)) (by simpa using z1) r1
    have ef : sixths L1.reverse = sixths L1 := funext fun s => sixths_rev L1 s
    rw [ef] at p1
    have a1 := ne_PD b hn (ev_var (i := 4) (en := E5) (S := T2) rfl) p1
    rw [self_false] at a1
    have a2 := eq_PD b hn (ev_var (O := orc G k) (G := G) (i := 4) (en := E5) (S := T2) rfl) (ev_var (i := 5) (en := E5) (S := T2) rfl) (l := dueX (sixths L1)) (m := dueX (sixths L2))
    have a3 := eq_frl b hn (ev_due b hn g1 (i := 2) (en := E5) (S := T2) rfl) (ev_due b hn g2 (i := 3) (en := E5) (S := T2) rfl)
    have a4 := ne_bl a2 a3
    rw [show (!(decide (dueX (sixths L1) = dueX (sixths L2)) == decide (dueX (sixths L1) = dueX (sixths L2)))) = false by simp] at a4
    exact e_or_f a1 a4
  -- third question
  have q3 : evE (orc G k) G (.or_ (.cmp .ne (.bin .mul (.var 4) (.var 5)) (.mk "PowerProduct" (.cons (.call "_law_given" (.cons (.bin .add (.var 2) (.var 3)) .nil)) .nil))) (.cmp .ne (.bin .mul (.var 5) (.var 4)) (.bin .mul (.var 4) (.var 5)))) E5 T2 = some (.bl false, T2) := by
    have r1 : evE (orc G k) G (.bin .add (.var 2) (.var 3)) E5 T2 = some (.frl ((L1 ++ L2).map encP), T2) := by
      have h2 : E5[2]? = some (some (.frl (L1.map encP))) := rfl
      have h3 : E5[3]? = some (some (.frl (L2.map encP))) := rfl
      simp only [evE, h2, h3, binD]
      rw [if_pos (by simp; omega), List.map_append]
    have p1 := ev_PP b hn (L := L1 ++ L2) (fun p hp => (List.mem_append.mp hp).elim (g1 p) (g2 p)) (by simp; omega) r1
    have ef : sixths (L1 ++ L2) = fun s => sixths L1 s + sixths L2 s := funext fun s => sixths_app L1 L2 s
    rw [ef] at p1
    have m1 := ev_mul b hn (x := sixths L1) (y := sixths L2) (i := 4) (j := 5) (en := E5) (S := T2) rfl rfl
    have m2 := ev_mul b hn (x := sixths L2) (y := sixths L1) (i := 5) (j := 4) (en := E5) (S := T2) rfl rfl
    have ec : (fun s => sixths L2 s + sixths L1 s) = fun s => sixths L1 s + sixths L2 s := funext fun s => Int.add_comm ..
    rw [ec] at m2
    have a1 := ne_PD b hn m1 p1
    have a2 := ne_PD b hn m2 m1
    rw [self_false] at a1 a2
    exact e_or_f a1 a2
  -- at
  have q4 : evE (orc G k) G (.mk "Ratio" (.cons (.bin .add (.cint 7) (.call "_law_next" (.cons (.var 1) (.cons (.cint 5) .nil)))) .nil)) E5 T2 = some (R (A : Rat), T3) := by
    have h1 : E5[1]? = some (some (.ref 0)) := rfl
    have m1 := mk_Ratio1 b.toBase (n := 7 + v) (m := k) (by omega) T3
    have c3' : (orc G k).call 0 ("", "_law_next") [.ref 0, .int 5] T2 = some (.int v, T3) := c3
    simp only [evE, evEs, h1, c3', binD, intOp]
    exact m1
  let E6 : Iv.Env := [e0, e1, e2, e3, e4, e5, e6, none, none, none, none, none]
  have q5 : ∀ en : Iv.Env, evE (orc G k) G (.mk "Ratio" (.cons (.cint 1) .nil)) en T3 = some (R 1, T3) := fun en => by
    have m1 := mk_Ratio1 b.toBase (n := 1) (m := k) (by omega) T3
    simp only [evE, evEs]
    exact m1
  have q5' : ∀ en : Iv.Env, evE (orc G k) G (.mk "Ratio" (.cons (.cint 0) .nil)) en T3 = some (R 0, T3) := fun en => by
    have m1 := mk_Ratio1 b.toBase (n := 0) (m := k) (by omega) T3
    simp only [evE, evEs]
    exact m1
  obtain ⟨t8, w1⟩ := for1 b hn g1 g2 hA (s0 := e0) (s1 := e1) (s4 := e4) (s5 := e5) (s9 := none) (s10 := none) (s11 := none) (S := T3) rng 1 1 none (fun s hs => hs) (Sz_int (k := 1) (N := 1) (by decide)) (by decide)
  have esp : ((rng.filter fun s => decide (6 ≤ sixths L1 s % 6 + sixths L2 s % 6)).map fun s : Int => (s : Rat)) = surp (dueX (sixths L1)) (dueX (sixths L2)) := (due_surp _ _).symm
  rw [esp] at w1
  let V : Rat := prodV (A : Rat) 1 (surp (dueX (sixths L1)) (dueX (sixths L2)))
  let E8 : Iv.Env := [e0, e1, e2, e3, e4, e5, e6, some (R V), t8, none, none, none]
  have q6 : evE (orc G k) G (.cmp .ne (.app (.mth (.var 4) "PowerProduct" "surplus" (.cons (.var 5) .nil)) "RatFun" (.cons (.var 6) .nil)) (.var 7)) E8 T3 = some (.bl false, T3) := by
    have a1 := ne_R b hn (ev_surp b hn (x := sixths L1) (y := sixths L2) (A := A) hA (i := 4) (j := 5) (k := 6) (en := E8) (S := T3) rfl rfl rfl) (ev_var (i := 7) (en := E8) (S := T3) (d := R V) rfl)
    rw [self_false] at a1
    exact a1
  obtain ⟨u8, u11, w2⟩ := for2 b hn hA (s0 := e0) (s1 := e1) (s2 := e2) (s3 := e3) (s4 := e4) (s5 := e5) (s7 := some (R V)) (s10 := none) (S := T3) (dueX (sixths L1)) 0 1 0 t8 none (fun y hy => ⟨due_LX _ y hy, by obtain ⟨s, _, h, _⟩ := (dueX_mem _ y).mp hy; exact ⟨s, h⟩⟩) (Sz.zero (by decide)) (by
      have : 90 ^ (dueX (sixths L1)).length ≤ 90 ^ 6 := Nat.pow_le_pow_right (by decide) dl1
      omega) (by
      have : 90 ^ (dueX (sixths L1)).length ≤ 90 ^ 6 := Nat.pow_le_pow_right (by decide) dl1
      omega)
  let W : Rat := sumV (A : Rat) 0 (dueX (sixths L1))
  let E9 : Iv.Env := [e0, e1, e2, e3, e4, e5, e6, some (R V), u8, some (R W), none, u11]
  have lg := ev_log b hn (x := sixths L1) hl4 (A := A) hA (i := 4) (k := 6) (en := E9) (S := T3) rfl rfl
  have q7 : evE (orc G k) G (.or_ (.cmp .ne (.app (.mth (.var 4) "PowerProduct" "log_derivative" .nil) "RatFun" (.cons (.var 6) .nil)) (.var 9)) (.isN true (.app (.mth (.var 4) "PowerProduct" "log_derivative" .nil) "RatFun" (.cons (.var 6) .nil)))) E9 T3 = some (.bl false, T3) := by
    have a1 := ne_R b hn lg (ev_var (i := 9) (en := E9) (S := T3) (d := R W) rfl)
    rw [self_false] at a1
    refine e_or_f a1 ?_
    rw [evE, lg]
    simp [R]
  have q8 : evE (orc G k) G (.cmth "PowerProduct.without_factors" "PowerProduct" "without_factors" .nil) E9 T3 = some (PD [], T3) := by
    have := (without b).low (n := k) (j := 0) (by omega) (S := T3)
    simp only [evE, evEs, this]
  let E10 : Iv.Env := [e0, e1, e2, e3, e4, e5, e6, some (R V), u8, some (R W), some (PD []), u11]
  have q9 : evE (orc G k) G (.and_ (.cmp .eq (.blt .len (.cons (.var 10) .nil)) (.cint 0)) (.and_ (.cmp .eq (.blt .str (.cons (.var 10) .nil)) (.cstr "1")) (.and_ (.cmp .eq (.bin .mul (.var 4) (.var 10)) (.var 4)) (.isB false (.cmp .eq (.var 4) (.cint 1)))))) E10 T3 = some (.bl true, T3) := by
    have a1 := eq_int (ev_len b hn (l := []) (by decide) (i := 10) (en := E10) (S := T3) rfl) (show evE (orc G k) G (.cint 0) E10 T3 = some (.int 0, T3) by rw [evE])
    have a2 := eq_str (ev_strPP b hn (l := []) (fun y hy => by cases hy) (by decide) (i := 10) (en := E10) (S := T3) rfl) (ev_cstr "1")
    have ez : (dueX fun _ => 0) = [] := by decide +kernel
    have m1 := ev_mul b hn (x := sixths L1) (y := fun _ => 0) (i := 4) (j := 10) (en := E10) (S := T3) rfl (by rw [ez]; rfl)
    have ea : (fun s => sixths L1 s + 0) = sixths L1 := funext fun s => Int.add_zero _
    rw [ea] at m1
    have a3 := eq_PD b hn m1 (ev_var (i := 4) (en := E10) (S := T3) rfl)
    rw [decide_eq_true rfl] at a3
    have a4 : evE (orc G k) G (.cmp .eq (.var 4) (.cint 1)) E10 T3 = some (.bl false, T3) := by
      have h4 : E10[4]? = some (some (PD (dueX (sixths L1)))) := rfl
      have q := (PP_eq_int b (dueX (sixths L1)) 1).low (n := k) (j := 0) (by omega) (S := T3)
      simp only [PD] at h4 q
      simp [evE, h4, eqD, eqR, q]
    refine e_and_t a1 (e_and_t a2 (e_and_t a3 ?_))
    rw [evE, a4]
    rfl
  have c0' : (orc G k).call 0 ("", "_law_numbers") [.scr (Z vs)] [] = some (.ref 0, [.lst (Z n0)]) := c0
  have c1' : (orc G k).call 0 ("", "_law_pairs") [.ref 0] [.lst (Z n0)] = some (.frl (L1.map encP), [.lst (Z n1)]) := c1
  have c2' : (orc G k).call 0 ("", "_law_pairs") [.ref 0] [.lst (Z n1)] = some (.frl (L2.map encP), [.lst (Z n2)]) := c2
  have hb : evB (orc G k) G f_law.body [e0, none, none, none, none, none, none, none, none, none, none, none] [] = some (.rt (.bl true) T3) := by
    refine b_nx (en' := [e0, e1, none, none, none, none, none, none, none, none, none, none]) (S' := [.lst (Z n0)]) (s_asg ?_) (b_nx (en' := [e0, e1, e2, none, none, none, none, none, none, none, none, none]) (S' := [.lst (Z n1)]) (s_asg ?_) (b_nx (en' := [e0, e1, e2, e3, none, none, none, none, none, none, none, none]) (S' := T2) (s_asg ?_)
      (b_nx (en' := [e0, e1, e2, e3, e4, none, none, none, none, none, none, none]) (S' := T2) (s_asg ?_) (b_nx (en' := E5) (S' := T2) (s_asg ?_)
      (b_nx (en' := E5) (S' := T2) (s_false q1 (by rw [evB])) (b_nx (en' := E5) (S' := T2) (s_false q2 (by rw [evB])) (b_nx (en' := E5) (S' := T2) (s_false q3 (by rw [evB]))
      (b_nx (en' := E6) (S' := T3) (s_asg q4) (b_nx (en' := [e0, e1, e2, e3, e4, e5, e6, some (R 1), none, none, none, none]) (S' := T3) (s_asg (q5 _)) (b_nx (en' := E8) (S' := T3) (s_for (S1 := T3) (ds := Z rng) ?_ w1)
      (b_nx (en' := E8) (S' := T3) (s_false q6 (by rw [evB])) (b_nx (en' := [e0, e1, e2, e3, e4, e5, e6, some (R V), t8, some (R 0), none, none]) (S' := T3) (s_asg (q5' _)) (b_nx (en' := E9) (S' := T3) (s_for (S1 := T3) (ds := (dueX (sixths L1)).map enc2) ?_ w2)
      (b_nx (en' := E9) (S' := T3) (s_false q7 (by rw [evB])) (b_nx (en' := E10) (S' := T3) (s_asg q8) (b_rt (s_ret q9)))))))))))))))))
    · simp only [evE, evEs, List.getElem?_cons_zero, e0, c0']
    · simp only [evE, evEs, List.getElem?_cons_zero, List.getElem?_cons_succ, e1, c1']
    · simp only [evE, evEs, List.getElem?_cons_zero, List.getElem?_cons_succ, e1, c2']
      rfl
    · exact ev_PP b hn g1 z1 (ev_var (i := 2) rfl)
    · exact ev_PPl b hn g2 z2 (ev_var (i := 3) rfl)
    · have hs1 : small (-2) := by decide
      have hs2 : small 4 := by decide
      have hr : rangeL (-2) 4 = Z rng := rfl
      simp [evIt, evEs, evE, hs1, hs2, hr]
    · have := ev_due b hn g1 (i := 2) (en := [e0, e1, e2, e3, e4, e5, e6, some (R V), t8, some (R 0), none, none]) (S := T3) rfl
      simp only [evIt, this, seqOf]
  refine ⟨(gc [] T3 (.bl true)).2, ?_⟩
  unfold evFn
  rw [if_pos (show [DV.scr (Z vs)].length = f_law.np from rfl), henv, hb]
  dsimp only
  congr 1
  have hg : gc [] T3 (.bl true) = (.bl true, T3.take ([] : Store).length) := by
    unfold gc
    rw [if_pos (show okG ([] : Store).length [] T3 from by unfold okG; trivial), if_pos (show pur (.bl true) = true from rfl)]
  rw [hg]
end
end L55

set_option Elab.async false
set_option linter.all false
set_option maxRecDepth 100000
/-! IvB: how data lie in the heap; what a state of the evaluator says of the machine's. -/
namespace Iv
open PySem L2

structure Pm where
  K : PySem.W.Frag
  cl : String → Addr
  G : Gi

abbrev SS (l : List Nat) : Str := ⟨l.toArray⟩

mutual
def repV (P : Pm) (F : Hp) (m : List Addr) : DV → V → Prop
  | .non, v => v = .non
  | .bl b, v => v = .bl b
  | .int i, v => v = .int i
  | .str x, v => v = .str (SS x)
  | .tup ds, v => ∃ a vs, v = .ref a ∧ SqT P.K F a vs ∧ repL P F m ds vs
  | .frl ds, v => ∃ a vs, v = .ref a ∧ F a = some (.lst vs) ∧ repL P F m ds vs
  | .scr ds, v => ∃ a vs, v = .ref a ∧ SqL P.K F a vs ∧ repL P F m ds vs
  | .obj c ds, v => ∃ a dx fs, v = .ref a ∧ F a = some (.ins (P.cl c) dx fs) ∧ fs.map (·.1) = (P.G.fld c).map st ∧ repL P F m ds (fs.map (·.2)) ∧ P.G.cls c = true
  | .ref k, v => ∃ a, v = .ref a ∧ m[k]? = some a
  | .cls c, v => v = .ref (P.cl c) ∧ P.G.cls c = true
def repL (P : Pm) (F : Hp) (m : List Addr) : List DV → List V → Prop
  | [], vs => vs = []
  | d :: ds, vs => ∃ v r, vs = v :: r ∧ repV P F m d v ∧ repL P F m ds r
end

/-- the frozen part and the places have grown -/
structure Ext2 (F : Hp) (m : List Addr) (F' : Hp) (m' : List Addr) : Prop where
  f : ∀ a o, F a = some o → F' a = some o
  m : ∃ t, m' = m ++ t
theorem Ext2.rfl' {F m} : Ext2 F m F m := ⟨fun _ _ h => h, [], by simp⟩
theorem Ext2.trans {F m F1 m1 F2 m2} (a : Ext2 F m F1 m1) (b : Ext2 F1 m1 F2 m2) : Ext2 F m F2 m2 :=
  ⟨fun c o h => b.f c o (a.f c o h), by
    obtain ⟨t, rfl⟩ := a.m
    obtain ⟨u, rfl⟩ := b.m
    exact ⟨t ++ u, by simp⟩⟩
theorem Ext2.get {F m F' m'} (e : Ext2 F m F' m') {k : Nat} {a : Addr} (h : m[k]? = some a) : m'[k]? = some a := by
  obtain ⟨t, rfl⟩ := e.m
  obtain ⟨h1, h2⟩ := List.getElem?_eq_some_iff.mp h
  rw [List.getElem?_append_left h1]; exact h
theorem SqT.mon {K : PySem.W.Frag} {F F' : Hp} {a : Addr} {xs : List V} (e : ∀ a o, F a = some o → F' a = some o) (h : SqT K F a xs) : SqT K F' a xs :=
  h.elim (fun h => .inl (h.elim (fun h => .inl (e _ _ h)) fun ⟨o, h⟩ => .inr ⟨o, e _ _ h⟩)) fun h => .inr h
theorem SqL.mon {K : PySem.W.Frag} {F F' : Hp} {a : Addr} {xs : List V} (e : ∀ a o, F a = some o → F' a = some o) (h : SqL K F a xs) : SqL K F' a xs :=
  h.elim (fun h => .inl (h.elim (fun h => .inl (e _ _ h)) fun ⟨o, h⟩ => .inr ⟨o, e _ _ h⟩)) fun h => .inr h

section
variable {P : Pm} {U F F' : Hp} {m m' : List Addr}
mutual
theorem repV.mon (e : Ext2 F m F' m') : ∀ {d : DV} {v : V}, repV P F m d v → repV P F' m' d v
  | .non, _, h => by simpa [repV] using h
  | .bl _, _, h => by simpa [repV] using h
  | .int _, _, h => by simpa [repV] using h
  | .str _, _, h => by simpa [repV] using h
  | .tup ds, v, h => by
    simp only [repV] at h ⊢
    obtain ⟨a, vs, h1, h2, h3⟩ := h
    exact ⟨a, vs, h1, SqT.mon e.f h2, repL.mon e h3⟩
  | .frl ds, v, h => by
    simp only [repV] at h ⊢
    obtain ⟨a, vs, h1, h2, h3⟩ := h
    exact ⟨a, vs, h1, e.f _ _ h2, repL.mon e h3⟩
  | .scr ds, v, h => by
    simp only [repV] at h ⊢
    obtain ⟨a, vs, h1, h2, h3⟩ := h
    exact ⟨a, vs, h1, SqL.mon e.f h2, repL.mon e h3⟩
  | .obj c ds, v, h => by
    simp only [repV] at h ⊢
    obtain ⟨a, dx, fs, h1, h2, h3, h4, h5⟩ := h
    exact ⟨a, dx, fs, h1, e.f _ _ h2, h3, repL.mon e h4, h5⟩
  | .ref k, v, h => by
    simp only [repV] at h ⊢
    obtain ⟨a, h1, h2⟩ := h
    exact ⟨a, h1, e.get h2⟩
  | .cls _, _, h => by simpa [repV] using h
theorem repL.mon (e : Ext2 F m F' m') : ∀ {ds : List DV} {vs : List V}, repL P F m ds vs → repL P F' m' ds vs
  | [], _, h => by simpa [repL] using h
  | d :: ds, vs, h => by
    simp only [repL] at h ⊢
    obtain ⟨v, r, h1, h2, h3⟩ := h
    exact ⟨v, r, h1, repV.mon e h2, repL.mon e h3⟩
end
theorem repL.len : ∀ {ds : List DV} {vs : List V}, repL P F m ds vs → ds.length = vs.length
  | [], _, h => by simp only [repL] at h; subst h; rfl
  | d :: ds, vs, h => by
    simp only [repL] at h
    obtain ⟨v, r, rfl, h2, h3⟩ := h
    simp [repL.len h3]
theorem repL.get : ∀ {ds : List DV} {vs : List V} {i : Nat} {d : DV}, repL P F m ds vs → ds[i]? = some d → ∃ v, vs[i]? = some v ∧ repV P F m d v
  | [], _, _, _, h, e => by simp at e
  | d :: ds, vs, i, x, h, e => by
    simp only [repL] at h
    obtain ⟨v, r, rfl, h2, h3⟩ := h
    cases i with
    | zero => simp at e; subst e; exact ⟨v, by simp, h2⟩
    | succ i =>
      simp at e
      obtain ⟨w, h4, h5⟩ := repL.get h3 e
      exact ⟨w, by simpa using h4, h5⟩
theorem repL.get' : ∀ {ds : List DV} {vs : List V} {i : Nat} {v : V}, repL P F m ds vs → vs[i]? = some v → ∃ d, ds[i]? = some d ∧ repV P F m d v := by
  intro ds vs i v h e
  have hl := h.len
  obtain ⟨h1, _⟩ := List.getElem?_eq_some_iff.mp e
  have h2 : i < ds.length := by omega
  obtain ⟨w, h3, h4⟩ := h.get (List.getElem?_eq_getElem h2)
  rw [e] at h3; cases h3
  exact ⟨_, List.getElem?_eq_getElem h2, h4⟩
theorem repL.nil : repL P F m [] [] := by simp [repL]
theorem repL.cons {d v ds vs} (h : repV P F m d v) (t : repL P F m ds vs) : repL P F m (d :: ds) (v :: vs) := by
  simp only [repL]; exact ⟨v, vs, rfl, h, t⟩
theorem repL.of : ∀ {ds : List DV} {vs : List V}, ds.length = vs.length → (∀ (i : Nat) d v, ds[i]? = some d → vs[i]? = some v → repV P F m d v) → repL P F m ds vs
  | [], [], _, _ => .nil
  | [], _ :: _, h, _ => by simp at h
  | _ :: _, [], h, _ => by simp at h
  | d :: ds, v :: vs, h, k => .cons (k 0 d v (by simp) (by simp)) (repL.of (by simpa using h) fun i d' v' h1 h2 => k (i + 1) d' v' (by simpa using h1) (by simpa using h2))
theorem repL.at {ds : List DV} {vs : List V} {i : Nat} {d : DV} {v : V} (h : repL P F m ds vs) (e : ds[i]? = some d) (e' : vs[i]? = some v) : repV P F m d v := by
  obtain ⟨w, h1, h2⟩ := h.get e
  rw [e'] at h1; cases h1; exact h2
theorem repL.app {ds es : List DV} {vs ws : List V} (h : repL P F m ds vs) (t : repL P F m es ws) : repL P F m (ds ++ es) (vs ++ ws) := by
  induction ds generalizing vs with
  | nil => simp only [repL] at h; subst h; exact t
  | cons d ds ih =>
    simp only [repL] at h
    obtain ⟨v, r, rfl, h2, h3⟩ := h
    exact .cons h2 (ih h3)
theorem repL.take {ds : List DV} {vs : List V} (n : Nat) (h : repL P F m ds vs) : repL P F m (ds.take n) (vs.take n) := by
  refine repL.of (by simp [h.len]) fun i d v h1 h2 => ?_
  rw [List.getElem?_take] at h1 h2
  split at h1
  · rename_i hl; rw [if_pos hl] at h2; exact h.at h1 h2
  · cases h1
theorem repL.drop {ds : List DV} {vs : List V} (n : Nat) (h : repL P F m ds vs) : repL P F m (ds.drop n) (vs.drop n) := by
  refine repL.of (by simp [h.len]) fun i d v h1 h2 => ?_
  rw [List.getElem?_drop] at h1 h2
  exact h.at h1 h2
theorem repL.rev {ds : List DV} {vs : List V} (h : repL P F m ds vs) : repL P F m ds.reverse vs.reverse := by
  induction ds generalizing vs with
  | nil => simp only [repL] at h; subst h; exact .nil
  | cons d ds ih =>
    simp only [repL] at h
    obtain ⟨v, r, rfl, h2, h3⟩ := h
    rw [List.reverse_cons, List.reverse_cons]
    exact (ih h3).app (.cons h2 .nil)
theorem repL.set {ds : List DV} {vs : List V} {d : DV} {v : V} (n : Nat) (h : repL P F m ds vs) (hd : repV P F m d v) : repL P F m (ds.set n d) (vs.set n v) := by
  refine repL.of (by simp [h.len]) fun i d' v' h1 h2 => ?_
  by_cases hi : n = i
  · subst hi
    by_cases hn : n < ds.length
    · rw [List.getElem?_set_self hn] at h1
      rw [List.getElem?_set_self (h.len ▸ hn)] at h2
      cases h1; cases h2; exact hd
    · rw [List.getElem?_eq_none (by simpa using hn)] at h1; cases h1
  · rw [List.getElem?_set_ne hi] at h1 h2
    exact h.at h1 h2

/-! ### the store -/
def celR (P : Pm) (F : Hp) (m : List Addr) (H : Hp) : Cell → Addr → Prop
  | .lst ds, a => ∃ vs, H a = some (.lst vs) ∧ repL P F m ds vs
  | .ins c fs, a => ∃ dx vs, H a = some (.ins (P.cl c) dx vs) ∧ vs.map (·.1) = fs.map (fun f => st f.1) ∧ repL P F m (fs.map (·.2)) (vs.map (·.2))
  | .dead, a => ∃ o, H a = some o
theorem celR.there {H : Hp} {c : Cell} {a : Addr} (h : celR P F m H c a) : ∃ o, H a = some o := by
  cases c with
  | lst ds => obtain ⟨vs, h, _⟩ := h; exact ⟨_, h⟩
  | ins c fs => obtain ⟨dx, vs, h, _⟩ := h; exact ⟨_, h⟩
  | dead => exact h
theorem celR.mon {H H' : Hp} {c : Cell} {a : Addr} (h : celR P F m H c a) (e : Ext2 F m F' m') (eh : H' a = H a) : celR P F' m' H' c a := by
  cases c with
  | lst ds => obtain ⟨vs, h, r⟩ := h; exact ⟨vs, eh.trans h, r.mon e⟩
  | ins c fs => obtain ⟨dx, vs, h, r1, r⟩ := h; exact ⟨dx, vs, eh.trans h, r1, r.mon e⟩
  | dead => obtain ⟨o, h⟩ := h; exact ⟨o, eh.trans h⟩

structure RS (P : Pm) (U F : Hp) (m : List Addr) (S : Store) (H : Hp) : Prop where
  sub : ∀ a o, F a = some o → H a = some o
  nd : m.Nodup
  len : m.length = S.length
  liv : ∀ (i : Nat) a c, m[i]? = some a → S[i]? = some c → c ≠ .dead → F a = none
  cel : ∀ (i : Nat) a c, m[i]? = some a → S[i]? = some c → celR P F m H c a
  un : ∀ a o, U a = some o → H a = some o ∧ F a = none ∧ a ∉ m

section
variable {S : Store} {H : Hp}
theorem RS.at (r : RS P U F m S H) {k : Nat} {c : Cell} (h : S[k]? = some c) : ∃ a, m[k]? = some a ∧ celR P F m H c a := by
  obtain ⟨h1, _⟩ := List.getElem?_eq_some_iff.mp h
  have h2 : k < m.length := by rw [r.len]; exact h1
  exact ⟨_, List.getElem?_eq_getElem h2, r.cel k _ c (List.getElem?_eq_getElem h2) h⟩
theorem RS.fresh (r : RS P U F m S H) {p : Addr} (h : H p = none) : F p = none ∧ p ∉ m := by
  refine ⟨?_, fun hm => ?_⟩
  · cases q : F p with
    | none => rfl
    | some o => rw [r.sub p o q] at h; cases h
  · obtain ⟨k, hk⟩ := List.getElem?_of_mem hm
    obtain ⟨h1, _⟩ := List.getElem?_eq_some_iff.mp hk
    rw [r.len] at h1
    obtain ⟨o, ho⟩ := (r.cel k p _ hk (List.getElem?_eq_getElem h1)).there
    rw [ho] at h; cases h
theorem upd_ext {F : Hp} {m : List Addr} {p : Addr} {o : HO} (h : F p = none) : Ext2 F m (upd F p o) m :=
  ⟨fun a u e => by rw [upd_ne (ne_of_none e h)]; exact e, [], by simp⟩
theorem app_ext {F : Hp} {m t : List Addr} : Ext2 F m F (m ++ t) := ⟨fun _ _ h => h, t, rfl⟩
/-- a new frozen object -/
theorem RS.frozen (r : RS P U F m S H) {p : Addr} (h : H p = none) (o : HO) : RS P U (upd F p o) m S (upd H p o) := by
  obtain ⟨hF, hm⟩ := r.fresh h
  have ne : ∀ {i : Nat} {a}, m[i]? = some a → a ≠ p := fun {i a} e z => hm (z ▸ List.mem_of_getElem? e)
  refine ⟨fun a u e => ?_, r.nd, r.len, fun i a c h1 h2 h3 => ?_, fun i a c h1 h2 => ?_, fun a u e => ?_⟩
  · by_cases hb : a = p
    · subst hb; rw [upd_same] at e ⊢; exact e
    · rw [upd_ne hb] at e ⊢; exact r.sub a u e
  · rw [upd_ne (ne h1)]; exact r.liv i a c h1 h2 h3
  · exact (r.cel i a c h1 h2).mon (upd_ext hF) (upd_ne (ne h1))
  · obtain ⟨g1, g2, g3⟩ := r.un a u e
    have hb : a ≠ p := ne_of_none g1 h
    rw [upd_ne hb, upd_ne hb]
    exact ⟨g1, g2, g3⟩
/-- a new cell -/
theorem RS.alloc (r : RS P U F m S H) {p : Addr} (h : H p = none) {o : HO} {c : Cell} (hc : celR P F (m ++ [p]) (upd H p o) c p) : RS P U F (m ++ [p]) (S ++ [c]) (upd H p o) := by
  obtain ⟨hF, hm⟩ := r.fresh h
  have cases' : ∀ {i : Nat} {a : Addr} {c' : Cell}, (m ++ [p])[i]? = some a → (S ++ [c])[i]? = some c' → (m[i]? = some a ∧ S[i]? = some c') ∨ (a = p ∧ c' = c) := by
    intro i a c' h1 h2
    by_cases hi : i < m.length
    · rw [List.getElem?_append_left hi] at h1
      rw [List.getElem?_append_left (r.len ▸ hi)] at h2
      exact .inl ⟨h1, h2⟩
    · have hi' : i = m.length := by
        have := (List.getElem?_eq_some_iff.mp h1).1
        simp at this; omega
      subst hi'
      rw [r.len] at h2
      simp at h1 h2
      exact .inr ⟨h1.symm, h2.symm⟩
  refine ⟨fun a u e => ?_, ?_, by simp [r.len], fun i a c' h1 h2 h3 => ?_, fun i a c' h1 h2 => ?_, fun a u e => ?_⟩
  · rw [upd_ne (ne_of_none e hF)]; exact r.sub a u e
  · rw [List.nodup_append]
    refine ⟨r.nd, by simp, ?_⟩
    intro a ha b hb e
    simp at hb; subst hb; subst e; exact hm ha
  · rcases cases' h1 h2 with ⟨h1, h2⟩ | ⟨rfl, rfl⟩
    · exact r.liv i a c' h1 h2 h3
    · exact hF
  · rcases cases' h1 h2 with ⟨h1, h2⟩ | ⟨rfl, rfl⟩
    · exact (r.cel i a c' h1 h2).mon app_ext (upd_ne fun z => hm (z ▸ List.mem_of_getElem? h1))
    · exact hc
  · obtain ⟨g1, g2, g3⟩ := r.un a u e
    have hb : a ≠ p := ne_of_none g1 h
    rw [upd_ne hb]
    exact ⟨g1, g2, by simp [g3, hb]⟩
theorem nodup_at {l : List Addr} (h : l.Nodup) {i j : Nat} {a : Addr} (h1 : l[i]? = some a) (h2 : l[j]? = some a) : i = j := by
  obtain ⟨x1, e1⟩ := List.getElem?_eq_some_iff.mp h1
  obtain ⟨x2, e2⟩ := List.getElem?_eq_some_iff.mp h2
  exact (List.getElem_inj h).mp (e1.trans e2.symm)
/-- a cell is written -/
theorem RS.write (r : RS P U F m S H) {k : Nat} {a : Addr} {c0 c : Cell} {o : HO} (h1 : m[k]? = some a) (h2 : S[k]? = some c0) (h3 : c0 ≠ .dead) (hc : celR P F m (upd H a o) c a) : RS P U F m (S.set k c) (upd H a o) := by
  have hF := r.liv k a c0 h1 h2 h3
  have hk := (List.getElem?_eq_some_iff.mp h2).1
  refine ⟨fun b u e => ?_, r.nd, by simp [r.len], fun i b c' g1 g2 g3 => ?_, fun i b c' g1 g2 => ?_, fun b u e => ?_⟩
  · rw [upd_ne (ne_of_none e hF)]; exact r.sub b u e
  · by_cases hi : k = i
    · subst hi; rw [h1] at g1; cases g1; exact hF
    · rw [List.getElem?_set_ne hi] at g2; exact r.liv i b c' g1 g2 g3
  · by_cases hi : k = i
    · subst hi
      rw [h1] at g1; cases g1
      rw [List.getElem?_set_self hk] at g2; cases g2
      exact hc
    · rw [List.getElem?_set_ne hi] at g2
      exact (r.cel i b c' g1 g2).mon .rfl' (upd_ne fun z => hi (nodup_at r.nd h1 (z ▸ g1)))
  · obtain ⟨g1, g2, g3⟩ := r.un b u e
    have hb : b ≠ a := fun z => g3 (z ▸ List.mem_of_getElem? h1)
    rw [upd_ne hb]
    exact ⟨g1, g2, g3⟩
/-- a list of the store is frozen -/
theorem RS.freeze (r : RS P U F m S H) {k : Nat} {a : Addr} {ds : List DV} (h1 : m[k]? = some a) (h2 : S[k]? = some (.lst ds)) :
    ∃ vs, H a = some (.lst vs) ∧ repL P F m ds vs ∧ F a = none ∧ RS P U (upd F a (.lst vs)) m (S.set k .dead) H := by
  obtain ⟨vs, hv, hr⟩ := r.cel k a _ h1 h2
  have hF := r.liv k a _ h1 h2 (by simp)
  have hk := (List.getElem?_eq_some_iff.mp h2).1
  refine ⟨vs, hv, hr, hF, fun b u e => ?_, r.nd, by simp [r.len], fun i b c' g1 g2 g3 => ?_, fun i b c' g1 g2 => ?_, fun b u e => ?_⟩
  · by_cases hb : b = a
    · subst hb; rw [upd_same] at e; cases e; exact hv
    · rw [upd_ne hb] at e; exact r.sub b u e
  · by_cases hi : k = i
    · subst hi; rw [List.getElem?_set_self hk] at g2; cases g2; exact absurd rfl g3
    · rw [List.getElem?_set_ne hi] at g2
      have ne : b ≠ a := fun z => hi (nodup_at r.nd h1 (by rw [← z]; exact g1))
      rw [upd_ne ne]
      exact r.liv i b c' g1 g2 g3
  · by_cases hi : k = i
    · subst hi
      rw [h1] at g1; cases g1
      rw [List.getElem?_set_self hk] at g2; cases g2
      exact ⟨_, hv⟩
    · rw [List.getElem?_set_ne hi] at g2
      exact (r.cel i b c' g1 g2).mon (upd_ext hF) rfl
  · obtain ⟨g1, g2, g3⟩ := r.un b u e
    have hb : b ≠ a := fun z => g3 (z ▸ List.mem_of_getElem? h1)
    rw [upd_ne hb]
    exact ⟨g1, g2, g3⟩
end

/-! ### the slots -/
structure Rn (P : Pm) (F : Hp) (m : List Addr) (en : Env) (σ : L2.St) : Prop where
  len : en.length = σ.length
  at_ : ∀ (i : Nat) d, en[i]? = some (some d) → ∃ v, σ[i]? = some (some v) ∧ repV P F m d v
theorem Rn.mon {en : Env} {σ : L2.St} (r : Rn P F m en σ) (e : Ext2 F m F' m') : Rn P F' m' en σ :=
  ⟨r.len, fun i d h => by obtain ⟨v, h1, h2⟩ := r.at_ i d h; exact ⟨v, h1, h2.mon e⟩⟩
theorem Rn.set {en : Env} {σ : L2.St} {d : DV} {v : V} (r : Rn P F m en σ) (i : Nat) (h : repV P F m d v) : Rn P F m (en.set i (some d)) (σ.set i (some v)) := by
  refine ⟨by simp [r.len], fun j d' hj => ?_⟩
  by_cases hi : i = j
  · subst hi
    have hl : i < en.length := by have := (List.getElem?_eq_some_iff.mp hj).1; simpa using this
    rw [List.getElem?_set_self hl] at hj
    cases hj
    exact ⟨v, by rw [List.getElem?_set_self (r.len ▸ hl)], h⟩
  · rw [List.getElem?_set_ne hi] at hj
    obtain ⟨w, h1, h2⟩ := r.at_ j d' hj
    exact ⟨w, by rw [List.getElem?_set_ne hi]; exact h1, h2⟩
/-- the slots may be forgotten (those that the block wipes) -/
theorem Rn.start {ds : List DV} {vs : List V} (n : Nat) (h : repL P F m ds vs) : Rn P F m (ds.map some ++ List.replicate n none) (vs.map some ++ List.replicate n none) := by
  refine ⟨by simp [h.len], fun i d hi => ?_⟩
  by_cases hl : i < ds.length
  · rw [List.getElem?_append_left (by simpa using hl), List.getElem?_map] at hi
    cases q : ds[i]? with
    | none => rw [q] at hi; cases hi
    | some x =>
      rw [q] at hi; simp at hi; subst hi
      obtain ⟨v, h1, h2⟩ := h.get q
      exact ⟨v, by rw [List.getElem?_append_left (by simpa using h.len ▸ hl), List.getElem?_map, h1]; rfl, h2⟩
  · rw [List.getElem?_append_right (by simpa using hl)] at hi
    rw [List.getElem?_replicate] at hi
    split at hi <;> cases hi
end

/-! ### closed data -/
section
variable {P : Pm} {U F F' : Hp} {m m' : List Addr}
theorem take_get {n k : Nat} {a : Addr} (h : m[k]? = some a) (hk : k < n) : (m.take n)[k]? = some a := by
  rw [List.getElem?_take, if_pos hk]; exact h
mutual
theorem repV.cut {n : Nat} : ∀ {d : DV} {v : V}, cloD n d = true → repV P F m d v → repV P F (m.take n) d v
  | .non, _, _, h => by simpa [repV] using h
  | .bl _, _, _, h => by simpa [repV] using h
  | .int _, _, _, h => by simpa [repV] using h
  | .str _, _, _, h => by simpa [repV] using h
  | .tup ds, v, hc, h => by
    simp only [repV, cloD] at h hc ⊢
    obtain ⟨a, vs, h1, h2, h3⟩ := h
    exact ⟨a, vs, h1, h2, repL.cut hc h3⟩
  | .frl ds, v, hc, h => by
    simp only [repV, cloD] at h hc ⊢
    obtain ⟨a, vs, h1, h2, h3⟩ := h
    exact ⟨a, vs, h1, h2, repL.cut hc h3⟩
  | .scr ds, v, hc, h => by
    simp only [repV, cloD] at h hc ⊢
    obtain ⟨a, vs, h1, h2, h3⟩ := h
    exact ⟨a, vs, h1, h2, repL.cut hc h3⟩
  | .obj c ds, v, hc, h => by
    simp only [repV, cloD] at h hc ⊢
    obtain ⟨a, dx, fs, h1, h2, h3, h4, h5⟩ := h
    exact ⟨a, dx, fs, h1, h2, h3, repL.cut hc h4, h5⟩
  | .ref k, v, hc, h => by
    simp only [repV, cloD, decide_eq_true_eq] at h hc ⊢
    obtain ⟨a, h1, h2⟩ := h
    exact ⟨a, h1, take_get h2 hc⟩
  | .cls _, _, _, h => by simpa [repV] using h
theorem repL.cut {n : Nat} : ∀ {ds : List DV} {vs : List V}, cloL n ds = true → repL P F m ds vs → repL P F (m.take n) ds vs
  | [], _, _, h => by simpa [repL] using h
  | d :: ds, vs, hc, h => by
    simp only [repL, cloL, Bool.and_eq_true] at h hc ⊢
    obtain ⟨v, r, h1, h2, h3⟩ := h
    exact ⟨v, r, h1, repV.cut hc.1 h2, repL.cut hc.2 h3⟩
end
mutual
theorem repV.clo : ∀ {d : DV} {v : V}, repV P F m d v → cloD m.length d = true
  | .non, _, _ => rfl
  | .bl _, _, _ => rfl
  | .int _, _, _ => rfl
  | .str _, _, _ => rfl
  | .tup ds, v, h => by
    simp only [repV, cloD] at h ⊢
    obtain ⟨a, vs, h1, h2, h3⟩ := h
    exact repL.clo h3
  | .frl ds, v, h => by
    simp only [repV, cloD] at h ⊢
    obtain ⟨a, vs, h1, h2, h3⟩ := h
    exact repL.clo h3
  | .scr ds, v, h => by
    simp only [repV, cloD] at h ⊢
    obtain ⟨a, vs, h1, h2, h3⟩ := h
    exact repL.clo h3
  | .obj c ds, v, h => by
    simp only [repV, cloD] at h ⊢
    obtain ⟨a, dx, fs, h1, h2, h3, h4, _⟩ := h
    exact repL.clo h4
  | .ref k, v, h => by
    simp only [repV, cloD, decide_eq_true_eq] at h ⊢
    obtain ⟨a, h1, h2⟩ := h
    exact (List.getElem?_eq_some_iff.mp h2).1
  | .cls _, _, _ => rfl
theorem repL.clo : ∀ {ds : List DV} {vs : List V}, repL P F m ds vs → cloL m.length ds = true
  | [], _, _ => rfl
  | d :: ds, vs, h => by
    simp only [repL, cloL, Bool.and_eq_true] at h ⊢
    obtain ⟨v, r, h1, h2, h3⟩ := h
    exact ⟨repV.clo h2, repL.clo h3⟩
end
mutual
theorem cloD.mono {a b : Nat} (h : a ≤ b) : ∀ {d : DV}, cloD a d = true → cloD b d = true
  | .non, _ => rfl
  | .bl _, _ => rfl
  | .int _, _ => rfl
  | .str _, _ => rfl
  | .tup _, x => by simp only [cloD] at x ⊢; exact cloL.mono h x
  | .frl _, x => by simp only [cloD] at x ⊢; exact cloL.mono h x
  | .scr _, x => by simp only [cloD] at x ⊢; exact cloL.mono h x
  | .obj _ _, x => by simp only [cloD] at x ⊢; exact cloL.mono h x
  | .ref k, x => by simp only [cloD, decide_eq_true_eq] at x ⊢; omega
  | .cls _, _ => rfl
theorem cloL.mono {a b : Nat} (h : a ≤ b) : ∀ {ds : List DV}, cloL a ds = true → cloL b ds = true
  | [], _ => rfl
  | d :: ds, x => by
    simp only [cloL, Bool.and_eq_true] at x ⊢
    exact ⟨cloD.mono h x.1, cloL.mono h x.2⟩
end
theorem celR.cut {H : Hp} {n : Nat} {c : Cell} {a : Addr} (h : celR P F m H c a) (hc : cloC n c = true) : celR P F (m.take n) H c a := by
  cases c with
  | lst ds => obtain ⟨vs, h, r⟩ := h; exact ⟨vs, h, r.cut hc⟩
  | ins c fs => obtain ⟨dx, vs, h, r1, r⟩ := h; exact ⟨dx, vs, h, r1, r.cut hc⟩
  | dead => exact h
theorem celR.clo {H : Hp} {c : Cell} {a : Addr} (h : celR P F m H c a) : cloC m.length c = true := by
  cases c with
  | lst ds => obtain ⟨vs, h, r⟩ := h; exact r.clo
  | ins c fs => obtain ⟨dx, vs, h, r1, r⟩ := h; exact r.clo
  | dead => rfl
theorem RS.clo {S : Store} {H : Hp} (r : RS P U F m S H) {k : Nat} {c : Cell} (h : S[k]? = some c) : cloC S.length c = true := by
  obtain ⟨a, _, h2⟩ := r.at h
  rw [← r.len]; exact h2.clo
theorem RS.trunc {S : Store} {H : Hp} (r : RS P U F m S H) (n : Nat) (h : ∀ (i : Nat) c, i < n → S[i]? = some c → cloC n c = true) : RS P U F (m.take n) (S.take n) H := by
  have g : ∀ {α : Type} {l : List α} {i : Nat} {x : α}, (l.take n)[i]? = some x → i < n ∧ l[i]? = some x := by
    intro α l i x h
    rw [List.getElem?_take] at h
    split at h
    · exact ⟨‹_›, h⟩
    · cases h
  refine ⟨r.sub, r.nd.sublist (List.take_sublist _ _), by simp [r.len], fun i a c h1 h2 h3 => ?_, fun i a c h1 h2 => ?_, fun a u e => ⟨(r.un a u e).1, (r.un a u e).2.1, fun z => (r.un a u e).2.2 (List.mem_of_mem_take z)⟩⟩
  · obtain ⟨_, h1⟩ := g h1
    obtain ⟨_, h2⟩ := g h2
    exact r.liv i a c h1 h2 h3
  · obtain ⟨hi, h1⟩ := g h1
    obtain ⟨_, h2⟩ := g h2
    exact (r.cel i a c h1 h2).cut (h i c hi h2)
theorem okG_get {n : Nat} : ∀ {S S' : Store}, okG n S S' → S.length ≤ S'.length ∧ ∀ (i : Nat) c, i < S.length → S'[i]? = some c → S[i]? = some c ∨ cloC n c = true
  | [], S', _ => ⟨Nat.zero_le _, fun i c h => absurd h (Nat.not_lt_zero _)⟩
  | x :: S, [], h => by simp [okG] at h
  | x :: S, y :: S', h => by
    simp only [okG] at h
    obtain ⟨h1, h2⟩ := okG_get h.2
    refine ⟨by simp only [List.length_cons]; omega, fun i c hi hc => ?_⟩
    cases i with
    | zero =>
      simp at hc; subst hc
      rcases h.1 with h | h
      · left; simp [h]
      · right; exact h
    | succ i =>
      simp at hc
      simpa using h2 i c (by simpa using hi) hc
/-- another new object, told nowhere -/
theorem RS.other {S : Store} {H : Hp} (r : RS P U F m S H) {p : Addr} (h : H p = none) (o : HO) : RS P U F m S (upd H p o) := by
  obtain ⟨hF, hm⟩ := r.fresh h
  refine ⟨fun a u e => ?_, r.nd, r.len, r.liv, fun i a c h1 h2 => ?_, fun a u e => ?_⟩
  · rw [upd_ne (ne_of_none e hF)]; exact r.sub a u e
  · exact (r.cel i a c h1 h2).mon .rfl' (upd_ne fun z => hm (z ▸ List.mem_of_getElem? h1))
  · obtain ⟨g1, g2, g3⟩ := r.un a u e
    rw [upd_ne (ne_of_none g1 h)]
    exact ⟨g1, g2, g3⟩
/-- an instance of the store is frozen -/
theorem RS.freezeI {S : Store} {H : Hp} (r : RS P U F m S H) {k : Nat} {a : Addr} {c : String} {fs : List (String × DV)} (h1 : m[k]? = some a) (h2 : S[k]? = some (.ins c fs)) :
    ∃ dx vs, H a = some (.ins (P.cl c) dx vs) ∧ vs.map (·.1) = fs.map (fun f => st f.1) ∧ repL P F m (fs.map (·.2)) (vs.map (·.2)) ∧ F a = none ∧ RS P U (upd F a (.ins (P.cl c) dx vs)) m (S.set k .dead) H := by
  obtain ⟨dx, vs, hv, hn, hr⟩ := r.cel k a _ h1 h2
  have hF := r.liv k a _ h1 h2 (by simp)
  have hk := (List.getElem?_eq_some_iff.mp h2).1
  refine ⟨dx, vs, hv, hn, hr, hF, fun b u e => ?_, r.nd, by simp [r.len], fun i b c' g1 g2 g3 => ?_, fun i b c' g1 g2 => ?_, fun b u e => ?_⟩
  · by_cases hb : b = a
    · subst hb; rw [upd_same] at e; cases e; exact hv
    · rw [upd_ne hb] at e; exact r.sub b u e
  · by_cases hi : k = i
    · subst hi; rw [List.getElem?_set_self hk] at g2; cases g2; exact absurd rfl g3
    · rw [List.getElem?_set_ne hi] at g2
      have ne : b ≠ a := fun z => hi (nodup_at r.nd h1 (by rw [← z]; exact g1))
      rw [upd_ne ne]
      exact r.liv i b c' g1 g2 g3
  · by_cases hi : k = i
    · subst hi
      rw [h1] at g1; cases g1
      rw [List.getElem?_set_self hk] at g2; cases g2
      exact ⟨_, hv⟩
    · rw [List.getElem?_set_ne hi] at g2
      exact (r.cel i b c' g1 g2).mon (upd_ext hF) rfl
  · obtain ⟨g1, g2, g3⟩ := r.un b u e
    have hb : b ≠ a := fun z => g3 (z ▸ List.mem_of_getElem? h1)
    rw [upd_ne hb]
    exact ⟨g1, g2, g3⟩
/-- an object is put aside: nothing below touches it -/
theorem RS.aside {S : Store} {H : Hp} (r : RS P U F m S H) {p : Addr} {o : HO} (h : H p = some o) (hF : F p = none) (hm : p ∉ m) : RS P (upd U p o) F m S H := by
  refine ⟨r.sub, r.nd, r.len, r.liv, r.cel, fun a u e => ?_⟩
  by_cases hb : a = p
  · subst hb; rw [upd_same] at e; cases e; exact ⟨h, hF, hm⟩
  · rw [upd_ne hb] at e; exact r.un a u e
/-- it is changed, and no longer aside -/
theorem RS.back {S : Store} {H : Hp} {p : Addr} {o o' : HO} (r : RS P (upd U p o) F m S H) (hU : U p = none) : RS P U F m S (upd H p o') := by
  obtain ⟨h1, h2, h3⟩ := r.un p o upd_same
  refine ⟨fun a u e => ?_, r.nd, r.len, r.liv, fun i a c g1 g2 => ?_, fun a u e => ?_⟩
  · rw [upd_ne (ne_of_none e h2)]; exact r.sub a u e
  · exact (r.cel i a c g1 g2).mon .rfl' (upd_ne fun z => h3 (z ▸ List.mem_of_getElem? g1))
  · have hb : a ≠ p := ne_of_none e hU
    rw [upd_ne hb]
    exact r.un a u (by rw [upd_ne hb]; exact e)
/-- what is aside is frozen -/
theorem RS.join {S : Store} {H : Hp} {p : Addr} {o : HO} (r : RS P (upd U p o) F m S H) (hU : U p = none) : RS P U (upd F p o) m S H ∧ F p = none := by
  obtain ⟨h1, h2, h3⟩ := r.un p o upd_same
  have ne : ∀ {i : Nat} {a}, m[i]? = some a → a ≠ p := fun {i a} e z => h3 (z ▸ List.mem_of_getElem? e)
  refine ⟨⟨fun a u e => ?_, r.nd, r.len, fun i a c g1 g2 g3 => ?_, fun i a c g1 g2 => ?_, fun a u e => ?_⟩, h2⟩
  · by_cases hb : a = p
    · subst hb; rw [upd_same] at e; cases e; exact h1
    · rw [upd_ne hb] at e; exact r.sub a u e
  · rw [upd_ne (ne g1)]; exact r.liv i a c g1 g2 g3
  · exact (r.cel i a c g1 g2).mon (upd_ext h2) rfl
  · have hb : a ≠ p := ne_of_none e hU
    obtain ⟨g1, g2, g3⟩ := r.un a u (by rw [upd_ne hb]; exact e)
    rw [upd_ne hb]
    exact ⟨g1, g2, g3⟩
end
end Iv

set_option Elab.async false
set_option linter.all false
set_option maxRecDepth 100000
/-! IvC: contexts, calls, simple expressions. -/
namespace Iv
open PySem L2 PySem.Spec PyProof.Rows

/-- a function's promise, by the evaluator -/
def spF (P : Pm) (j : Nat) (fn : Fn) : Sp := fun vs H Q _ => ∃ U F m S ds d S', RS P U F m S H ∧ repL P F m ds vs ∧ evFn (orc P.G j) P.G fn ds S = some (d, S') ∧
  ∀ F' m' v H', Ext2 F m F' m' → RS P U F' m' S' H' → repV P F' m' d v → Q v H'

/-- a classmethod -/
def CmAt (P : Pm) (K : PySem.W.Frag) (k : String) (f : Addr) : Prop := ∃ c m mc p, P.G.cmc k = some (c, m) ∧ P.G.cls c = true ∧ ClX.CRead K (P.cl c) mc ∧ ClX.CMet K (P.cl c) mc (st m) p f
structure FnAt (P : Pm) (n : Nat) (X : Cx) (key : Key) (fn : Fn) (f : Addr) : Prop where
  loc : (key.1 = "" ∧ ((P.G.cmc key.2 = none ∧ X.mg (st key.2) = some (.ref f) ∧ PySem.W.keepIn X.K (.ref f) = true) ∨ CmAt P X.K key.2 f)) ∨ (key.1 ≠ "" ∧ P.G.cls key.1 = true ∧ Meth X.K (P.cl key.1) (st key.2) f)
  fi : key.1 ≠ "" → PySem.W.fnIn X.K f = true
  ok : ∃ fd ps, (∀ j, j + 1 ≤ n → FnOk X.prog X.w X.K X.mg X.base CX0 (j + 1) f fd ps (spF P j fn)) ∧ ps.length = fn.np ∧
    ∀ a, a ≤ fn.np → fn.np ≤ a + fn.dfl.length → ∃ (dvs : List V) (us : List Value), Vals dvs us ∧ Binds X.K fd ps us ∧ ∀ F m, repL P F m (fn.dfl.drop (a + fn.dfl.length - fn.np)) dvs

structure ClsAt (P : Pm) (K : PySem.W.Frag) (c : String) : Prop where
  cl : Cls K (P.cl c)
  first : PySem.W.selfFirst K (P.cl c) = true
  noat : ∀ f ∈ P.G.fld c, NoAttr K (P.cl c) (st f)
  nofld : ∀ m fn, P.G.fn (c, m) = some fn → m ∉ P.G.fld c
  makes : PySem.W.makesIn K (P.cl c) = true
  kp : PySem.W.keepIn K (.ref (P.cl c)) = true
  dcls : PySem.W.findIn K (.ref (P.cl c)) "__class__" = some (some (.builtin "object.__class__"))
  mobj : PySem.W.mroIn K (P.cl c) (.type "object") = some true
  ne : PySem.W.findIn K (.ref (P.cl c)) "__ne__" = some (some (.builtin "object.__ne__"))

/-- a tuple's iterator, new -/
def TiO (b it : Addr) : HO := .ext fun h => h.IsTupleIter it b 0
/-- what __iter__ gives: an iterator over the tuple -/
def Qit (P : Pm) (s : Shared) (U F : Hp) (m : List Addr) (S : Store) (ds' : List DV) : VK := fun v H2 => ∃ it b ws F' m' H', v = .ref it ∧ H2 = upd H' it (TiO b it) ∧ s.heap.objs.size ≤ it ∧ H' it = none ∧
  Ext2 F m F' m' ∧ RS P U F' m' S H' ∧ SqT P.K F' b ws ∧ repL P F' m' ds' ws
def ItOk (prog : Program) (w : World) (K : PySem.W.Frag) (mg : Str → Option Value) (base : Heap) (P : Pm) (c f : String) (fi : Addr) : Prop :=
  ∀ (A : Around) (outer : List PySem.Env) (s : Shared) (H U F : Hp) (m : List Addr) (S : Store) (ds ds' : List DV) (a : Addr), Room 1 A → Env0 prog w K mg base A outer s H → RS P U F m S H → repV P F m (.obj c ds) (.ref a) → fieldOf P.G c f ds = some (.tup ds') →
    codeAny (model prog w) A (.call (.ref fi) ⟨[.ref a], []⟩) (fun r s' => match r with | .ok (.ret u) => CE outer prog w H s (Qit P s U F m S ds') u s' | _ => False) s
structure ItAt (P : Pm) (n : Nat) (X : Cx) (c f : String) : Prop where
  ex : ∃ fi, Meth X.K (P.cl c) "__iter__" fi ∧ (1 ≤ n → ItOk X.prog X.w X.K X.mg X.base P c f fi)
  hint : PySem.W.findIn X.K (.ref (P.cl c)) "__length_hint__" = some none
  len : P.G.fn (c, "__len__") = none → PySem.W.findIn X.K (.ref (P.cl c)) "__len__" = some none

def dunNames : List String := ["__neg__", "__eq__", "__len__", "__str__", "__call__", "__add__", "__sub__", "__mul__", "__floordiv__", "__mod__", "__pow__"]
structure Facts (P : Pm) (n : Nat) (X : Cx) : Prop where
  emp : ∀ m ∈ dunNames, P.G.fn ("", m) = none
  hK : X.K = P.K
  calm : X.calm = true
  room : Room n X.A
  fns : ∀ key fn, P.G.fn key = some fn → ∃ f, FnAt P n X key fn f
  cst : ∀ x d, P.G.cst x = some d → ∃ u v, X.mg (st x) = some u ∧ L2.RelV v u ∧ ∀ F m, repV P F m d v
  free : ∀ x ∈ freeNames, X.mg (st x) = none
  cls : ∀ c, P.G.cls c = true → ClsAt P X.K c
  gset : PySem.W.specialIn X.K (.builtin "object.__class__") "__get__" = some (some (.builtin "getset_descriptor.__get__")) ∧ PySem.W.takesIn X.K (.builtin "object.__class__") = some true
  kit : ∀ c c', P.G.cls c = true → P.G.cls c' = true → PySem.W.kitOne X.K (.ref (P.cl c)) (.ref (P.cl c')) = some (c == c')
  kitT : ∀ c T, P.G.cls c = true → T ∈ tyNames → PySem.W.kitOne X.K (.type T) (.ref (P.cl c)) = some false ∧ PySem.W.kitOne X.K (.ref (P.cl c)) (.type T) = some false
  sub1 : ∀ c c', P.G.cls c = true → P.G.cls c' = true → c ≠ c' → PySem.W.subIn X.K (.ref (P.cl c')) (.ref (P.cl c)) = some false
  subT : ∀ c T, P.G.cls c = true → T ∈ tyNames → PySem.W.subIn X.K (.type T) (.ref (P.cl c)) = some false
  emath : ∀ x ∈ P.G.mths, X.mg (st x) = some (.builtin ("math." ++ x))
  fcl : ∀ c f, f ∈ P.G.fld c → P.G.cls c = true
  mgc : ∀ c, P.G.cls c = true → X.mg (st c) = some (.ref (P.cl c))
  inj : ∀ c c', P.G.cls c = true → P.G.cls c' = true → P.cl c = P.cl c' → c = c'
  its : ∀ c f, P.G.itf c = some f → ItAt P n X c f

/-- what the checker knows of the place in the text -/
structure Sc where
  N : List Str
  sc : Scope
  own : Str → Bool
structure Ctx (P : Pm) (n : Nat) (c : Sc) (X : Cx) : Prop where
  fa : Facts P n X
  hN : X.N = c.N
  sc : X.env.scope = c.sc
  nd : c.N.Nodup
  own : ∀ x, c.own x = true → X.fn x = true

noncomputable abbrev Ev (P : Pm) (n : Nat) (e : E) (en : Env) (S : Store) : RE := evE (orc P.G n) P.G e en S
def tE (P : Pm) (n : Nat) (e : E) : TE := fun σ H Q => ∃ U F m en S d S', Rn P F m en σ ∧ RS P U F m S H ∧ Ev P n e en S = some (d, S') ∧
  ∀ F' m' v H', Ext2 F m F' m' → RS P U F' m' S' H' → repV P F' m' d v → Q v H'
def tEs (P : Pm) (n : Nat) (es : Es) : TA := fun σ H Q => ∃ U F m en S ds S', Rn P F m en σ ∧ RS P U F m S H ∧ evEs (orc P.G n) P.G es en S = some (ds, S') ∧
  ∀ F' m' vs H', Ext2 F m F' m' → RS P U F' m' S' H' → repL P F' m' ds vs → Q vs H'
theorem PE.imp {X : Cx} {e : Expr} {t t' : TE} (h : PE X e t) (i : ∀ σ H Q, t' σ H Q → t σ H Q) : PE X e t' := ⟨fun pins s σ H Q I q => h.run pins s σ H Q I (i σ H Q q)⟩
theorem PT.imp {X : Cx} {e : Expr} {t t' : TT} (h : PT X e t) (i : ∀ σ H Q, t' σ H Q → t σ H Q) : PT X e t' := ⟨fun pins s σ H Q I q => h.run pins s σ H Q I (i σ H Q q)⟩
theorem PA.imp {X : Cx} {es : List Expr} {t t' : TA} (h : PA X es t) (i : ∀ σ H Q, t' σ H Q → t σ H Q) : PA X es t' := ⟨fun pos pins s σ H Q I q => h.run pos pins s σ H Q I (i σ H Q q)⟩
theorem PS.imp {X : Cx} {e : Stmt} {t t' : TS} (h : PS X e t) (i : ∀ D σ H, t' D σ H → t D σ H) : PS X e t' := ⟨fun pins s σ H D I q => h.run pins s σ H D I (i D σ H q)⟩
theorem PSs.imp {X : Cx} {e : List Stmt} {t t' : TS} (h : PSs X e t) (i : ∀ D σ H, t' D σ H → t D σ H) : PSs X e t' := ⟨fun pins s σ H D I q => h.run pins s σ H D I (i D σ H q)⟩

/-- how an expression's reading begins -/
theorem tE_intro {P : Pm} {n : Nat} {e : E} {F m en σ S H d S'} {Q : VK} (hn : Rn P F m en σ) (hs : RS P U F m S H) (he : Ev P n e en S = some (d, S'))
    (k : ∀ F' m' v H', Ext2 F m F' m' → RS P U F' m' S' H' → repV P F' m' d v → Q v H') : tE P n e σ H Q := ⟨U, F, m, en, S, d, S', hn, hs, he, k⟩

section
variable {P : Pm} {n : Nat} {c : Sc} {X : Cx} {U : Hp}

/-! ### calls -/
/-- a function called with values, somewhere below the body -/
theorem call_codeA (fa : Facts P n X) {A : Around} (hfr : A.frames = X.A.frames) {j : Nat} (hA : Room (j + 1) A) (hj : j + 1 ≤ n) {key : Key} {fn : Fn} {f : Addr} (hf : FnAt P n X key fn f) {pins σ H s Q F m S ds us d S'} {vs : List V} (I : Inv X pins σ H s) (hs : RS P U F m S H) (hr : repL P F m ds vs) (rv : Vals vs us)
    (hG : P.G.fn key = some fn) (hc : (orc P.G (j + 1)).call 0 key ds S = some (d, S')) (k : ∀ F' m' v H', Ext2 F m F' m' → RS P U F' m' S' H' → repV P F' m' d v → Q v H') :
    codeAny (model X.prog X.w) A (.call (.ref f) ⟨us, []⟩) (fun r s' => match r with | .ok (.ret u) => EP X pins σ Q u s' | .ok _ => False | .error e => X.xe e s') s := by
  obtain ⟨_, _, fd, ps, ok, hl, hb⟩ := hf
  have F1 := ok j hj
  rw [orc_zero, hG] at hc
  dsimp only at hc
  have hnp : (fillD fn ds).length = fn.np := by
    unfold evFn at hc
    split at hc
    · assumption
    · cases hc
  have h1 : ds.length ≤ fn.np := by rw [← hnp]; unfold fillD; rw [List.length_append]; omega
  have h2 : fn.np ≤ ds.length + fn.dfl.length := by
    rw [← hnp]; unfold fillD; rw [List.length_append, List.length_drop]; omega
  obtain ⟨dvs, us', rd, bd, rp⟩ := hb ds.length h1 h2
  have hsp : spF P j fn (vs ++ dvs) H Q E0 := ⟨U, F, m, S, fillD fn ds, d, S', hs, hr.app (rp F m), hc, k⟩
  have r2 : Vals (vs ++ dvs) (us ++ us') := rv.append rd
  have hlen : (us ++ us').length = ps.length := by rw [← r2.length]; exact F1.len _ _ _ _ hsp
  have e0 : Env0 X.prog X.w X.K X.mg X.base A X.stack s H := by
    have e := I.env0
    exact ⟨by rw [hfr]; exact e.frames, e.mod, e.bs, e.bsz, e.funs, e.frf, e.hok, e.bare⟩
  refine codeAny_mono (F1.run A X.stack s H ⟨us, []⟩ (us ++ us') (vs ++ dvs) Q E0 hA e0 (bd s us I.kIn hlen) r2 hsp) fun r s' hq => ?_
  cases r with
  | error e => exact False.elim hq
  | ok fl =>
    cases fl with
    | ret u => exact I.after hq
    | next => exact False.elim hq
    | brk => exact False.elim hq
    | cont => exact False.elim hq
theorem call_code (fa : Facts P n X) {j : Nat} (hj : j + 1 ≤ n) {key : Key} {fn : Fn} {f : Addr} (hf : FnAt P n X key fn f) {pins σ H s Q F m S ds us d S'} {vs : List V} (I : Inv X pins σ H s) (hs : RS P U F m S H) (hr : repL P F m ds vs) (rv : Vals vs us)
    (hG : P.G.fn key = some fn) (hc : (orc P.G (j + 1)).call 0 key ds S = some (d, S')) (k : ∀ F' m' v H', Ext2 F m F' m' → RS P U F' m' S' H' → repV P F' m' d v → Q v H') :
    codeAny (model X.prog X.w) X.A (.call (.ref f) ⟨us, []⟩) (fun r s' => match r with | .ok (.ret u) => EP X pins σ Q u s' | .ok _ => False | .error e => X.xe e s') s :=
  call_codeA fa rfl (fa.room.mono hj) hj hf I hs hr rv hG hc k
/-- d levels below -/
theorem call_low (fa : Facts P n X) {A : Around} (hfr : A.frames = X.A.frames) {lv : Nat} (hA : ∀ j, n = j + lv → Room j A) {key : Key} {fn : Fn} {f : Addr} (hf : FnAt P n X key fn f) {pins σ H s Q F m S ds us d S'} {vs : List V} (I : Inv X pins σ H s) (hs : RS P U F m S H) (hr : repL P F m ds vs) (rv : Vals vs us)
    (hG : P.G.fn key = some fn) (hc : (orc P.G n).call lv key ds S = some (d, S')) (k : ∀ F' m' v H', Ext2 F m F' m' → RS P U F' m' S' H' → repV P F' m' d v → Q v H') :
    wpAny (model X.prog X.w) A (call (.ref f) us) (EP X pins σ Q) X.xe s := by
  obtain ⟨j, e, hc'⟩ := orc_low hc
  exact wpAny_call (call_codeA fa hfr (hA (j + 1) (by omega)) (by omega) hf I hs hr rv hG hc' k)
theorem call_key' (fa : Facts P n X) {j : Nat} (hj : j + 1 ≤ n) {key : Key} {fn : Fn} {f : Addr} (hf : FnAt P n X key fn f) {pins σ H s Q F m S ds us d S'} {vs : List V} (I : Inv X pins σ H s) (hs : RS P U F m S H) (hr : repL P F m ds vs) (rv : Vals vs us)
    (hG : P.G.fn key = some fn) (hc : (orc P.G (j + 1)).call 0 key ds S = some (d, S')) (k : ∀ F' m' v H', Ext2 F m F' m' → RS P U F' m' S' H' → repV P F' m' d v → Q v H') :
    wpAny (model X.prog X.w) X.A (call (.ref f) us) (EP X pins σ Q) X.xe s := wpAny_call (call_code fa hj hf I hs hr rv hG hc k)
theorem call_key (fa : Facts P n X) {key : Key} {fn : Fn} {f : Addr} (hf : FnAt P n X key fn f) {pins σ H s Q F m S ds us d S'} {vs : List V} (I : Inv X pins σ H s) (hs : RS P U F m S H) (hr : repL P F m ds vs) (rv : Vals vs us)
    (hG : P.G.fn key = some fn) (hc : (orc P.G n).call 0 key ds S = some (d, S')) (k : ∀ F' m' v H', Ext2 F m F' m' → RS P U F' m' S' H' → repV P F' m' d v → Q v H') :
    wpAny (model X.prog X.w) X.A (call (.ref f) us) (EP X pins σ Q) X.xe s := by
  cases n with
  | zero => rw [orc_none] at hc; cases hc
  | succ j => exact call_key' fa (Nat.le_refl _) hf I hs hr rv hG hc k

theorem repL.cons_inv {F m} {d : DV} {ds : List DV} {vs : List V} (h : repL P F m (d :: ds) vs) : ∃ v r, vs = v :: r ∧ repV P F m d v ∧ repL P F m ds r := by simpa only [repL] using h
theorem repL.nil_inv {F m} {vs : List V} (h : repL P F m [] vs) : vs = [] := by simpa only [repL] using h
theorem repL.one {F m} {d : DV} {vs : List V} (h : repL P F m [d] vs) : ∃ v, vs = [v] ∧ repV P F m d v := by
  obtain ⟨v, r, rfl, h1, h2⟩ := h.cons_inv
  rw [h2.nil_inv]; exact ⟨v, rfl, h1⟩
theorem repL.two {F m} {d e : DV} {vs : List V} (h : repL P F m [d, e] vs) : ∃ v w, vs = [v, w] ∧ repV P F m d v ∧ repV P F m e w := by
  obtain ⟨v, r, rfl, h1, h2⟩ := h.cons_inv
  obtain ⟨w, rfl, h3⟩ := h2.one
  exact ⟨v, w, rfl, h1, h3⟩

/-! ### names, constants -/
theorem snd_var {i : Nat} {x : Str} {pos : Pos} (hN : X.N[i]? = some x) (hv : Vis X.env.scope x) (hd : (x == ("__debug__" : Str)) = false) (hcd : (x == ("__classdict__" : Str)) = false) : PE X (.Name x pos) (tE P n (.var i)) := by
  refine PE.imp (pe_var hN hv hd hcd) fun σ H Q ⟨U, F, m, en, S, d, S', hn, hs, he, k⟩ => ?_
  simp only [Ev, evE] at he
  split at he
  · rename_i d' hi
    cases he
    obtain ⟨v, h1, h2⟩ := hn.at_ i _ hi
    exact ⟨v, h1, k _ _ _ _ .rfl' hs h2⟩
  · cases he
theorem snd_int {i j : Int} {a pos} : PE X (.Constant (.int i) a pos) (tE P n (.cint i)) :=
  PE.imp pe_int fun σ H Q ⟨U, F, m, en, S, d, S', hn, hs, he, k⟩ => by
    simp only [Ev, evE] at he; cases he
    exact k _ _ _ _ .rfl' hs (by simp [repV])
theorem snd_bl {b : Bool} {a pos} : PE X (.Constant (.bool b) a pos) (tE P n (.cbl b)) :=
  PE.imp pe_bl fun σ H Q ⟨U, F, m, en, S, d, S', hn, hs, he, k⟩ => by
    simp only [Ev, evE] at he; cases he
    exact k _ _ _ _ .rfl' hs (by simp [repV])
theorem snd_non {a pos} : PE X (.Constant .none a pos) (tE P n .cnon) :=
  PE.imp pe_non fun σ H Q ⟨U, F, m, en, S, d, S', hn, hs, he, k⟩ => by
    simp only [Ev, evE] at he; cases he
    exact k _ _ _ _ .rfl' hs (by simp [repV])
theorem st_cs (x : String) : st x = SS (cs x) := by
  show Str.ofString x = _
  rw [Str.ofString_eq_toList]; rfl
theorem snd_str {x : String} {a pos} : PE X (.Constant (.str (st x)) a pos) (tE P n (.cstr x)) :=
  PE.imp pe_str fun σ H Q ⟨U, F, m, en, S, d, S', hn, hs, he, k⟩ => by
    simp only [Ev, evE] at he; cases he
    exact k _ _ _ _ .rfl' hs (by simp only [repV]; rw [st_cs])
theorem snd_glob (fa : Facts P n X) {x : String} {pos : Pos} {d : DV} (hd : P.G.cst x = some d) (hg : Gl X (st x)) (hdb : (st x == ("__debug__" : Str)) = false) : PE X (.Name (st x) pos) (tE P n (.glob x)) := by
  obtain ⟨u, v, hm, r, rep⟩ := fa.cst x d hd
  refine PE.imp (pe_glob hg hm r hdb) fun σ H Q ⟨U, F, m, en, S, d', S', hn, hs, he, k⟩ => ?_
  simp only [Ev, evE, hd] at he; cases he
  exact k _ _ _ _ .rfl' hs (rep _ _)

/-! ### operators -/
/-- own operators -/
theorem SqT.live {K : PySem.W.Frag} {F H : Hp} {a : Addr} {xs : List V} (e : ∀ a o, F a = some o → H a = some o) (h : SqT K F a xs) : SqT K H a xs := SqT.mon e h

theorem own_bin (fa : Facts P n X) {op : Operator} {nm : String} (hop : PySem.dunder op.info.2 = st nm) {c0 : String} {fn : Fn} {pins σ H s Q F m S ds ds' d S'} {x y : V} {v u : Value} (I : Inv X pins σ H s) (hs : RS P U F m S H)
    (hx : repV P F m (.obj c0 ds) x) (hy : repV P F m (.obj c0 ds') y) (rx : L2.RelV x v) (ry : L2.RelV y u) (hG : P.G.fn (c0, nm) = some fn) (hc0 : c0 ≠ "")
    (hc : (orc P.G n).call 0 (c0, nm) [.obj c0 ds, .obj c0 ds'] S = some (d, S')) (k : ∀ F' m' v H', Ext2 F m F' m' → RS P U F' m' S' H' → repV P F' m' d v → Q v H') :
    wpAny (model X.prog X.w) X.A (binaryOp op v u) (EP X pins σ Q) X.xe s := by
  obtain ⟨f, hf⟩ := fa.fns _ _ hG
  have hx' := hx
  have hy' := hy
  simp only [repV] at hx hy
  obtain ⟨a, dx, fs, rfl, ha, _, _⟩ := hx
  obtain ⟨b, dy, gs, rfl, hb, _, _⟩ := hy
  cases rx
  cases ry
  obtain ⟨mA, J, _⟩ := ins_get I.hok (hs.sub _ _ ha)
  obtain ⟨mB, J', _⟩ := ins_get I.hok (hs.sub _ _ hb)
  obtain ⟨od, J, _⟩ := J.look
  obtain ⟨od', J', _⟩ := J'.look
  obtain ⟨mm, hF⟩ := I.fr
  rcases id hf.loc with ⟨h0, _⟩ | ⟨_, hcl, hm⟩
  · exact absurd h0 hc0
  have hC := fa.cls _ hcl
  refine PySem.W.binop_K hF I.ok.mod.kin J J'.type hC.first (by rw [hop]; exact hm.at_) hm.fn ?_
  refine thn (call_key fa hf (us := [.ref a, .ref b]) I hs (repL.cons hx' (repL.cons hy' .nil)) (.cons rfl (.cons rfl .nil)) hG hc k) fun r s' hr => ?_
  obtain ⟨z, H', I', rz, q⟩ := hr
  cases r <;> first | exact ⟨z, H', I', rz, q⟩ | (cases z <;> simp [L2.RelV] at rz)

/-- what stands behind a result -/
def rOut (P : Pm) (U : Hp) (r : RE) (F : Hp) (m : List Addr) (Q : VK) : Prop := ∃ d S', r = some (d, S') ∧ ∀ F' m' v H', Ext2 F m F' m' → RS P U F' m' S' H' → repV P F' m' d v → Q v H'
def rBin (P : Pm) (n : Nat) (op : Bop) : R2 := fun x y H Q => ∃ U F m S d d', RS P U F m S H ∧ repV P F m d x ∧ repV P F m d' y ∧ rOut P U (binD (orc P.G n) op d d' S) F m Q
def Bop.op : Bop → Operator
  | .add => .Add | .sub => .Sub | .mul => .Mult | .fdiv => .FloorDiv | .mod => .Mod | .pow => .Pow
theorem Bop.dun_op (op : Bop) : PySem.dunder op.op.info.2 = st op.dun := by cases op <;> decide +kernel
theorem mulOk.w {a b : Int} (h : mulOk a b) : CMulW a b := h
theorem mk_int {F m} {i : Int} : repV P F m (.int i) (.int i) := by simp only [repV]
theorem mk_bl {F m} {b : Bool} : repV P F m (.bl b) (.bl b) := by simp only [repV]
theorem mk_non {F m} : repV P F m .non .non := by simp only [repV]
theorem mk_str {F m} {x : List Nat} : repV P F m (.str x) (.str (SS x)) := by simp only [repV]
theorem rep_int {F m} {i : Int} {v : V} (h : repV P F m (.int i) v) : v = .int i := by simpa only [repV] using h
theorem rep_bl {F m} {b : Bool} {v : V} (h : repV P F m (.bl b) v) : v = .bl b := by simpa only [repV] using h
theorem rep_non {F m} {v : V} (h : repV P F m .non v) : v = .non := by simpa only [repV] using h
theorem rep_str {F m} {x : List Nat} {v : V} (h : repV P F m (.str x) v) : v = .str (SS x) := by simpa only [repV] using h
theorem SS_len (x : List Nat) : (SS x).length = x.length := by simp [SS, Str.length]
theorem SS_app (x y : List Nat) : SS x ++ SS y = SS (x ++ y) := TL.ext_tl (TL.tl_append (SS x) (SS y))
theorem size_line : sizeLine = 16777216 := by decide

theorem op_bin (fa : Facts P n X) (op : Bop) : OpR X (binaryOp op.op) (rBin P n op) := by
  intro pins s σ H x y v u Q I rx ry h
  obtain ⟨U, F, m, S, d, d', hs, hx, hy, r, S', hr, k⟩ := h
  unfold binD at hr
  split at hr
  · -- ints
    rename_i a b
    rw [rep_int hx] at rx; rw [rep_int hy] at ry
    split at hr
    · rename_i j hj
      cases hr
      have fin : Q (.int j) H := k _ _ _ _ .rfl' hs (by simp [repV])
      cases op with
      | add => cases hj; exact op_add pins s σ H (.int a) (.int b) v u Q I rx ry ⟨a, b, rfl, rfl, fin⟩
      | sub => cases hj; exact op_sub pins s σ H (.int a) (.int b) v u Q I rx ry ⟨a, b, rfl, rfl, fin⟩
      | mul =>
        simp only [intOp] at hj
        split at hj
        · rename_i hm; cases hj; exact op_mulW pins s σ H (.int a) (.int b) v u Q I rx ry ⟨a, b, rfl, rfl, hm.w, fin⟩
        · cases hj
      | fdiv =>
        simp only [intOp] at hj
        split at hj
        · rename_i hm
          cases hj
          obtain ⟨t, rfl⟩ := rx
          obtain ⟨t', rfl⟩ := ry
          exact floordiv_int hm.1 ⟨.int (a.fdiv b), H, I.tok _, ⟨_, rfl⟩, fin⟩ (.inl (PyProof.noPylong_of_log2 hm.2))
        · cases hj
      | mod =>
        simp only [intOp] at hj
        split at hj
        · rename_i hm; cases hj; exact op_modN pins s σ H (.int a) (.int b) v u Q I rx ry ⟨a, b, rfl, rfl, hm, fin⟩
        · cases hj
      | pow =>
        simp only [intOp] at hj
        split at hj
        · rename_i hm; cases hj; exact op_pow pins s σ H (.int a) (.int b) v u Q I rx ry ⟨a, b, rfl, rfl, ⟨hm.1, by omega, hm.2.2⟩, fin⟩
        · cases hj
    · cases hr
  · -- own
    rename_i c0 ds c1 ds'
    split at hr
    · rename_i hcc
      obtain ⟨hcc, hc0⟩ := hcc
      subst hcc
      cases hn : n with
      | zero => subst hn; rw [orc_none] at hr; cases hr
      | succ j =>
        have hr' := hr
        rw [hn, orc_zero] at hr'
        split at hr'
        · rename_i fn hG
          exact own_bin fa op.dun_op I hs hx hy rx ry hG hc0 hr k
        · cases hr'
    · cases hr
  · -- texts
    rename_i a b
    split at hr
    · rename_i hl
      cases hr
      rw [rep_str hx] at rx; rw [rep_str hy] at ry
      exact op_add_str pins s σ H _ _ v u Q I rx ry ⟨_, _, rfl, rfl, by rw [SS_len, SS_len, size_line]; exact hl, by rw [SS_app]; exact k _ _ _ _ .rfl' hs (by simp [repV])⟩
    · cases hr
  · -- lists
    rename_i a b
    split at hr
    · rename_i hl
      cases hr
      simp only [repV] at hx hy
      obtain ⟨p, vs, rfl, h1, h2⟩ := hx
      obtain ⟨q, ws, rfl, h3, h4⟩ := hy
      have e1 := h2.len
      have e2 := h4.len
      refine op_cat pins s σ H _ _ v u Q I rx ry ⟨p, q, vs, ws, rfl, rfl, hs.sub _ _ h1, hs.sub _ _ h3, by rw [size_line]; omega, fun p' hp => ?_⟩
      have hF := (hs.fresh hp).1
      refine k _ _ _ _ (upd_ext hF) (hs.frozen hp _) ?_
      simp only [repV]
      exact ⟨p', _, rfl, upd_same, (h2.app h4).mon (upd_ext hF)⟩
    · cases hr
  · -- tuples
    rename_i a b
    split at hr
    · rename_i hl
      cases hr
      have hx' := hx
      have hy' := hy
      simp only [repV] at hx hy
      obtain ⟨p, vs, rfl, h1, h2⟩ := hx
      obtain ⟨q, ws, rfl, h3, h4⟩ := hy
      have e1 := h2.len
      have e2 := h4.len
      refine op_catA pins s σ H _ _ v u Q I rx ry ⟨p, q, vs, ws, rfl, rfl, fa.hK ▸ SqT.mon hs.sub h1, fa.hK ▸ SqT.mon hs.sub h3, by rw [size_line]; omega, fun e => ?_, fun _ e => ?_, fun _ _ p' hp => ?_⟩
      · have : a = [] := List.length_eq_zero_iff.mp (by rw [e1, e]; rfl)
        subst this
        exact k _ _ _ _ .rfl' hs hy'
      · have : b = [] := List.length_eq_zero_iff.mp (by rw [e2, e]; rfl)
        subst this
        rw [List.append_nil] at k
        exact k _ _ _ _ .rfl' hs hx'
      · have hF := (hs.fresh hp).1
        refine k _ _ _ _ (upd_ext hF) (hs.frozen hp _) ?_
        simp only [repV]
        exact ⟨p', _, rfl, .inl (.inl upd_same), (h2.app h4).mon (upd_ext hF)⟩
    · cases hr
  · cases hr
end
end Iv

set_option Elab.async false
set_option linter.all false
set_option maxRecDepth 100000
/-! IvD: expressions. -/
namespace Iv
open PySem L2 PySem.Spec PyProof.Rows
section
variable {P : Pm} {n : Nat} {c : Sc} {X : Cx} {U : Hp}

def tT (P : Pm) (n : Nat) (e : E) : TT := fun σ H Q => ∃ U F m en S b S', Rn P F m en σ ∧ RS P U F m S H ∧ Ev P n e en S = some (.bl b, S') ∧
  ∀ F' m' H', Ext2 F m F' m' → RS P U F' m' S' H' → Q b H'
/-- one part, then the rest -/
theorem tE_seq {e : E} {F m en σ S H d S'} {Q : VK} (hn : Rn P F m en σ) (hs : RS P U F m S H) (he : Ev P n e en S = some (d, S'))
    (k : ∀ F' m' v H', Ext2 F m F' m' → Rn P F' m' en σ → RS P U F' m' S' H' → repV P F' m' d v → Q v H') : tE P n e σ H Q :=
  ⟨U, F, m, en, S, d, S', hn, hs, he, fun F' m' v H' x r h => k F' m' v H' x (hn.mon x) r h⟩
theorem tT_seq {e : E} {F m en σ S H b S'} {Q : Bool → Hp → Prop} (hn : Rn P F m en σ) (hs : RS P U F m S H) (he : Ev P n e en S = some (.bl b, S'))
    (k : ∀ F' m' H', Ext2 F m F' m' → Rn P F' m' en σ → RS P U F' m' S' H' → Q b H') : tT P n e σ H Q :=
  ⟨U, F, m, en, S, b, S', hn, hs, he, fun F' m' H' x r => k F' m' H' x (hn.mon x) r⟩
theorem tEs_seq {es : Es} {F m en σ S H ds S'} {Q : List V → Hp → Prop} (hn : Rn P F m en σ) (hs : RS P U F m S H) (he : evEs (orc P.G n) P.G es en S = some (ds, S'))
    (k : ∀ F' m' vs H', Ext2 F m F' m' → Rn P F' m' en σ → RS P U F' m' S' H' → repL P F' m' ds vs → Q vs H') : tEs P n es σ H Q :=
  ⟨U, F, m, en, S, ds, S', hn, hs, he, fun F' m' vs H' x r h => k F' m' vs H' x (hn.mon x) r h⟩

/-! ### tests from values -/
theorem pt_of {e : E} {ex : Expr} (h : PE X ex (tE P n e)) (he : ∀ whole, isTrue ex X.env whole = (do let v ← whole; standAt ex.pos; holding [v] (truthy v))) : PT X ex (tT P n e) :=
  PT.imp (pt_val h he) fun σ H Q ⟨U, F, m, en, S, b, S', hn, hs, hv, k⟩ => tE_intro hn hs hv fun F' m' v H' x r hr => ⟨b, rep_bl hr, k F' m' H' x r⟩

/-! ### operators -/
theorem snd_bin (fa : Facts P n X) {op : Bop} {a b : E} {ea eb : Expr} {pos : Pos} (ha : PE X ea (tE P n a)) (hb : PE X eb (tE P n b)) : PE X (.BinOp ea op.op eb pos) (tE P n (.bin op a b)) := by
  refine PE.imp (pe_op (op_bin fa op) ha hb) fun σ H Q ⟨U, F, m, en, S, d, S', hn, hs, he, k⟩ => ?_
  simp only [Ev, evE] at he
  split at he
  · rename_i x S1 h1
    split at he
    · rename_i y S2 h2
      refine tE_seq hn hs h1 fun F1 m1 v1 H1 x1 n1 r1 p1 => ?_
      refine tE_seq n1 r1 h2 fun F2 m2 v2 H2 x2 n2 r2 p2 => ?_
      exact ⟨U, F2, m2, S2, x, y, r2, p1.mon x2, p2, d, S', he, fun F' m' v H' x3 => k F' m' v H' ((x1.trans x2).trans x3)⟩
    · cases he
  · cases he

def rNeg (P : Pm) (n : Nat) : V → Hp → VK → Prop := fun x H Q => ∃ U F m S d, RS P U F m S H ∧ repV P F m d x ∧
  rOut P U (match d with | .int i => some (.int (-i), S) | .obj c ds => (orc P.G n).call 0 (c, "__neg__") [.obj c ds] S | _ => none) F m Q
theorem un_negD (fa : Facts P n X) : UnR X (unaryOp .USub) (rNeg P n) := by
  intro pins s σ H x v Q I rx h
  obtain ⟨U, F, m, S, d, hs, hx, r, S', hr, k⟩ := h
  split at hr
  · cases hr
    rw [rep_int hx] at rx
    exact un_neg pins s σ H _ v Q I rx ⟨_, rfl, k _ _ _ _ .rfl' hs (by simp [repV])⟩
  · rename_i c0 ds
    cases hn : n with
    | zero => subst hn; rw [orc_none] at hr; cases hr
    | succ j =>
      have hr' := hr
      rw [hn, orc_zero] at hr'
      split at hr'
      · rename_i fn hG
        obtain ⟨f, hf⟩ := fa.fns _ _ hG
        have hx' := hx
        simp only [repV] at hx
        obtain ⟨a, dx, fs, rfl, ha, _, _⟩ := hx
        cases rx
        obtain ⟨mA, J, _⟩ := ins_get I.hok (hs.sub _ _ ha)
        obtain ⟨od, J, _⟩ := J.look
        obtain ⟨mm, hF⟩ := I.fr
        rcases id hf.loc with ⟨h0, _⟩ | ⟨_, hcl, hm⟩
        · simp only at h0
          subst h0
          rw [fa.emp _ (by simp [dunNames])] at hG; cases hG
        · refine PySem.W.ksp_neg hF I.ok.mod.kin J hm.at_ hm.fn ?_
          exact call_key fa hf (us := [.ref a]) I hs (repL.cons hx' .nil) (.cons rfl .nil) hG hr k
      · cases hr'
  · cases hr
theorem snd_neg (fa : Facts P n X) {a : E} {ea : Expr} {pos : Pos} (ha : PE X ea (tE P n a)) : PE X (.UnaryOp .USub ea pos) (tE P n (.neg a)) := by
  refine PE.imp (pe_un (un_negD fa) ha) fun σ H Q ⟨U, F, m, en, S, d, S', hn, hs, he, k⟩ => ?_
  simp only [Ev, evE] at he
  split at he
  · rename_i i S1 h1
    refine tE_seq hn hs h1 fun F1 m1 v1 H1 x1 n1 r1 p1 => ?_
    exact ⟨U, F1, m1, S1, _, r1, p1, d, S', he, fun F' m' v H' x3 => k F' m' v H' (x1.trans x3)⟩
  · rename_i c0 ds S1 h1
    refine tE_seq hn hs h1 fun F1 m1 v1 H1 x1 n1 r1 p1 => ?_
    exact ⟨U, F1, m1, S1, _, r1, p1, d, S', he, fun F' m' v H' x3 => k F' m' v H' (x1.trans x3)⟩
  · cases he

/-! ### orders of ints, is None -/
def Cop.op : Cop → CmpOp
  | .eq => .Eq | .ne => .NotEq | .lt => .Lt | .le => .LtE | .gt => .Gt | .ge => .GtE
noncomputable def cmpD (O : Orc) (op : Cop) (x y : DV) (S : Store) : RE := match op, x, y with
  | .lt, .int i, .int j => some (.bl (decide (i < j)), S)
  | .le, .int i, .int j => some (.bl (decide (i ≤ j)), S)
  | .gt, .int i, .int j => some (.bl (decide (j < i)), S)
  | .ge, .int i, .int j => some (.bl (decide (j ≤ i)), S)
  | .eq, x, y => (match eqD O 0 x y S with | some r => some (.bl r, S) | none => none)
  | .ne, x, y => (match eqD O 1 x y S with | some r => some (.bl !r, S) | none => none)
  | _, _, _ => none
def rCmp (P : Pm) (n : Nat) (op : Cop) : R2 := fun x y H Q => ∃ U F m S d d', RS P U F m S H ∧ repV P F m d x ∧ repV P F m d' y ∧ rOut P U (cmpD (orc P.G n) op d d' S) F m Q
theorem cmpD_bl {O : Orc} {op : Cop} {x y d : DV} {S S' : Store} (h : cmpD O op x y S = some (d, S')) : ∃ b, d = .bl b := by
  unfold cmpD at h
  split at h <;> first | (cases h; exact ⟨_, rfl⟩) | (split at h <;> first | (cases h; exact ⟨_, rfl⟩) | cases h) | cases h
/-- what == and != of data want; IvEq gives it -/
def EqOk (P : Pm) (n : Nat) (X : Cx) : Prop := OpR X (compareOp .Eq) (rCmp P n .eq) ∧ OpR X (compareOp .NotEq) (rCmp P n .ne)
theorem op_cmp (eo : EqOk P n X) (op : Cop) : OpR X (compareOp op.op) (rCmp P n op) := by
  cases op with
  | eq => exact eo.1
  | ne => exact eo.2
  | _ =>
    intro pins s σ H x y v u Q I rx ry h
    obtain ⟨U, F, m, S, d, d', hs, hx, hy, r, S', hr, k⟩ := h
    unfold cmpD at hr
    split at hr <;> first | contradiction | skip
    all_goals first | cases hr | skip
    all_goals
      rename_i i j _
      rw [rep_int hx] at rx; rw [rep_int hy] at ry
      have fin := k _ _ _ _ .rfl' hs mk_bl
      first
        | exact op_lt pins s σ H (.int i) (.int j) v u Q I rx ry ⟨i, j, rfl, rfl, fin⟩
        | exact op_le pins s σ H (.int i) (.int j) v u Q I rx ry ⟨i, j, rfl, rfl, fin⟩
        | exact op_gt pins s σ H (.int i) (.int j) v u Q I rx ry ⟨i, j, rfl, rfl, fin⟩
        | exact op_ge pins s σ H (.int i) (.int j) v u Q I rx ry ⟨i, j, rfl, rfl, fin⟩
end
end Iv

set_option Elab.async false
set_option linter.all false
set_option maxRecDepth 100000
/-! IvE: expressions, further. -/
namespace Iv
open PySem L2 PySem.Spec PyProof.Rows
section
variable {P : Pm} {n : Nat} {c : Sc} {X : Cx} {U : Hp}

theorem snd_cmp (eo : EqOk P n X) {op : Cop} {a b : E} {ea eb : Expr} {pos : Pos} (ha : PE X ea (tE P n a)) (hb : PE X eb (tE P n b)) (hm : behindInMarks op.op eb = false) :
    PE X (.Compare ea [op.op] [eb] pos) (tE P n (.cmp op a b)) ∧ PT X (.Compare ea [op.op] [eb] pos) (tT P n (.cmp op a b)) := by
  have key : ∀ σ H Q, tE P n (.cmp op a b) σ H Q → tOp (rCmp P n op) (tE P n a) (tE P n b) σ H Q := fun σ H Q ⟨U, F, m, en, S, d, S', hn, hs, he, k⟩ => by
    simp only [Ev, evE] at he
    split at he
    · rename_i x S1 h1
      split at he
      · rename_i y S2 h2
        refine tE_seq hn hs h1 fun F1 m1 v1 H1 x1 n1 r1 p1 => ?_
        refine tE_seq n1 r1 h2 fun F2 m2 v2 H2 x2 n2 r2 p2 => ?_
        exact ⟨U, F2, m2, S2, x, y, r2, p1.mon x2, p2, d, S', he, fun F' m' v H' x3 => k F' m' v H' ((x1.trans x2).trans x3)⟩
      · cases he
    · cases he
  refine ⟨PE.imp (pe_cmpR (op_cmp eo op) ha hb hm) key, PT.imp (pt_cmpR (op_cmp eo op) ha hb hm) fun σ H Q ⟨U, F, m, en, S, b', S', hn, hs, he, k⟩ => ?_⟩
  exact key σ H _ ⟨U, F, m, en, S, _, S', hn, hs, he, fun F' m' v H' x r h => ⟨b', rep_bl h, k F' m' H' x r⟩⟩

theorem isN_rep {F m} {d : DV} {v : V} (h : repV P F m d v) : decide (v = .non) = (match d with | .non => true | _ => false) := by
  cases d <;> simp only [repV] at h
  · subst h; simp
  · subst h; simp
  · subst h; simp
  · subst h; simp
  · obtain ⟨a, vs, rfl, _⟩ := h; simp
  · obtain ⟨a, dx, fs, rfl, _⟩ := h; simp
  · obtain ⟨a, vs, rfl, _⟩ := h; simp
  · obtain ⟨a, vs, rfl, _⟩ := h; simp
  · obtain ⟨a, rfl, _⟩ := h; simp
  · obtain ⟨rfl, _⟩ := h; simp
theorem snd_isN {pos' : Bool} {a : E} {ea : Expr} {j p pos} (ha : PE X ea (tE P n a)) :
    PE X (.Compare ea [if pos' then .Is else .IsNot] [.Constant .none j p] pos) (tE P n (.isN pos' a)) ∧ PT X (.Compare ea [if pos' then .Is else .IsNot] [.Constant .none j p] pos) (tT P n (.isN pos' a)) := by
  have key : ∀ {Q : VK} {U F m en σ S H d S'}, Rn P F m en σ → RS P U F m S H → Ev P n (.isN pos' a) en S = some (d, S') → (∀ F' m' v H', Ext2 F m F' m' → RS P U F' m' S' H' → repV P F' m' d v → Q v H') →
      tE P n a σ H (fun x H1 => Q (.bl (if pos' then decide (x = .non) else !decide (x = .non))) H1) := by
    intro Q U F m en σ S H d S' hn hs he k
    simp only [Ev, evE] at he
    split at he
    · rename_i S1 h1
      cases he
      refine tE_seq hn hs h1 fun F1 m1 v1 H1 x1 n1 r1 p1 => ?_
      refine k F1 m1 _ H1 x1 r1 ?_
      rw [isN_rep p1]
      cases pos' <;> simp [repV]
    · rename_i d1 S1 hd h1
      cases he
      refine tE_seq hn hs h1 fun F1 m1 v1 H1 x1 n1 r1 p1 => ?_
      refine k F1 m1 _ H1 x1 r1 ?_
      rw [isN_rep p1]
      cases d1 <;> first | exact absurd rfl hd | (cases pos' <;> simp [repV])
    · cases he
  cases pos' with
  | true =>
    refine ⟨PE.imp (pe_cmp (pc_isN ha)) fun σ H Q ⟨U, F, m, en, S, d, S', hn, hs, he, k⟩ => key hn hs he k, PT.imp (pt_cmp (pc_isN ha)) fun σ H Q ⟨U, F, m, en, S, b', S', hn, hs, he, k⟩ => ?_⟩
    exact key (Q := fun x H1 => ∃ c, x = .bl c ∧ Q c H1) hn hs he fun F' m' v H' x r h => ⟨b', rep_bl h, k F' m' H' x r⟩
  | false =>
    refine ⟨PE.imp (pe_cmp (pc_notN ha)) fun σ H Q ⟨U, F, m, en, S, d, S', hn, hs, he, k⟩ => key hn hs he k, PT.imp (pt_cmp (pc_notN ha)) fun σ H Q ⟨U, F, m, en, S, b', S', hn, hs, he, k⟩ => ?_⟩
    exact key (Q := fun x H1 => ∃ c, x = .bl c ∧ Q c H1) hn hs he fun F' m' v H' x r h => ⟨b', rep_bl h, k F' m' H' x r⟩

/-! ### and, or, not, if else -/
theorem snd_and {a b : E} {ea eb : Expr} {rest : List Expr} {pos : Pos} (ha : PE X ea (tE P n a)) (hb : PE X (.BoolOp .And (eb :: rest) pos) (tE P n b)) (ta : PT X ea (tT P n a)) (tb : PW X (.BoolOp .And (eb :: rest) pos) (tT P n b)) :
    PE X (.BoolOp .And (ea :: eb :: rest) pos) (tE P n (.and_ a b)) ∧ PW X (.BoolOp .And (ea :: eb :: rest) pos) (tT P n (.and_ a b)) := by
  constructor
  · refine PE.imp (pe_and ha hb) fun σ H Q ⟨U, F, m, en, S, d, S', hn, hs, he, k⟩ => ?_
    simp only [Ev, evE] at he
    split at he
    · rename_i S1 h1
      refine tE_seq hn hs h1 fun F1 m1 v1 H1 x1 n1 r1 p1 => ⟨true, rep_bl p1, ?_⟩
      rw [if_pos rfl]
      exact ⟨U, F1, m1, en, S1, d, S', n1, r1, he, fun F' m' v H' x3 => k F' m' v H' (x1.trans x3)⟩
    · rename_i S1 h1
      cases he
      refine tE_seq hn hs h1 fun F1 m1 v1 H1 x1 n1 r1 p1 => ⟨false, rep_bl p1, ?_⟩
      rw [if_neg Bool.false_ne_true]
      exact k F1 m1 _ H1 x1 r1 mk_bl
    · cases he
  · have w := pw_and (pos := pos) ta tb
    refine ⟨fun whole pins s σ H Q I h => w.run whole pins s σ H Q I ?_⟩
    obtain ⟨U, F, m, en, S, b', S', hn, hs, he, k⟩ := h
    simp only [Ev, evE] at he
    split at he
    · rename_i S1 h1
      refine tT_seq hn hs h1 fun F1 m1 H1 x1 n1 r1 => ?_
      rw [if_pos rfl]
      exact ⟨U, F1, m1, en, S1, b', S', n1, r1, he, fun F' m' H' x3 => k F' m' H' (x1.trans x3)⟩
    · rename_i S1 h1
      cases he
      refine tT_seq hn hs h1 fun F1 m1 H1 x1 n1 r1 => ?_
      rw [if_neg Bool.false_ne_true]
      exact k F1 m1 H1 x1 r1
    · cases he
theorem snd_or {a b : E} {ea eb : Expr} {rest : List Expr} {pos : Pos} (ha : PE X ea (tE P n a)) (hb : PE X (.BoolOp .Or (eb :: rest) pos) (tE P n b)) (ta : PT X ea (tT P n a)) (tb : PW X (.BoolOp .Or (eb :: rest) pos) (tT P n b)) :
    PE X (.BoolOp .Or (ea :: eb :: rest) pos) (tE P n (.or_ a b)) ∧ PW X (.BoolOp .Or (ea :: eb :: rest) pos) (tT P n (.or_ a b)) := by
  constructor
  · refine PE.imp (pe_or ha hb) fun σ H Q ⟨U, F, m, en, S, d, S', hn, hs, he, k⟩ => ?_
    simp only [Ev, evE] at he
    split at he
    · rename_i S1 h1
      cases he
      refine tE_seq hn hs h1 fun F1 m1 v1 H1 x1 n1 r1 p1 => ⟨true, rep_bl p1, ?_⟩
      rw [if_pos rfl]
      exact k F1 m1 _ H1 x1 r1 mk_bl
    · rename_i S1 h1
      refine tE_seq hn hs h1 fun F1 m1 v1 H1 x1 n1 r1 p1 => ⟨false, rep_bl p1, ?_⟩
      rw [if_neg Bool.false_ne_true]
      exact ⟨U, F1, m1, en, S1, d, S', n1, r1, he, fun F' m' v H' x3 => k F' m' v H' (x1.trans x3)⟩
    · cases he
  · have w := pw_or (pos := pos) ta tb
    refine ⟨fun whole pins s σ H Q I h => w.run whole pins s σ H Q I ?_⟩
    obtain ⟨U, F, m, en, S, b', S', hn, hs, he, k⟩ := h
    simp only [Ev, evE] at he
    split at he
    · rename_i S1 h1
      cases he
      refine tT_seq hn hs h1 fun F1 m1 H1 x1 n1 r1 => ?_
      rw [if_pos rfl]
      exact k F1 m1 H1 x1 r1
    · rename_i S1 h1
      refine tT_seq hn hs h1 fun F1 m1 H1 x1 n1 r1 => ?_
      rw [if_neg Bool.false_ne_true]
      exact ⟨U, F1, m1, en, S1, b', S', n1, r1, he, fun F' m' H' x3 => k F' m' H' (x1.trans x3)⟩
    · cases he
theorem snd_not {a : E} {ea : Expr} {pos : Pos} (ha : PE X ea (tE P n a)) (ta : PT X ea (tT P n a)) : PE X (.UnaryOp .Not ea pos) (tE P n (.not_ a)) ∧ PT X (.UnaryOp .Not ea pos) (tT P n (.not_ a)) := by
  constructor
  · refine PE.imp (pe_not ha) fun σ H Q ⟨U, F, m, en, S, d, S', hn, hs, he, k⟩ => ?_
    simp only [Ev, evE] at he
    split at he
    · rename_i r S1 h1
      cases he
      exact tE_seq hn hs h1 fun F1 m1 v1 H1 x1 n1 r1 p1 => ⟨r, rep_bl p1, k F1 m1 _ H1 x1 r1 mk_bl⟩
    · cases he
  · refine PT.imp (pt_not ta) fun σ H Q ⟨U, F, m, en, S, b', S', hn, hs, he, k⟩ => ?_
    simp only [Ev, evE] at he
    split at he
    · rename_i r S1 h1
      cases he
      exact tT_seq hn hs h1 fun F1 m1 H1 x1 n1 r1 => k F1 m1 H1 x1 r1
    · cases he
theorem snd_ite {a b d : E} {ec ea eb : Expr} {pos : Pos} (tc : PT X ec (tT P n d)) (ha : PE X ea (tE P n a)) (hb : PE X eb (tE P n b)) : PE X (.IfExp ec ea eb pos) (tE P n (.ite d a b)) := by
  refine PE.imp (pe_ifExp tc ha hb) fun σ H Q ⟨U, F, m, en, S, d, S', hn, hs, he, k⟩ => ?_
  simp only [Ev, evE] at he
  split at he
  · rename_i S1 h1
    refine tT_seq hn hs h1 fun F1 m1 H1 x1 n1 r1 => ?_
    rw [if_pos rfl]
    exact ⟨U, F1, m1, en, S1, d, S', n1, r1, he, fun F' m' v H' x3 => k F' m' v H' (x1.trans x3)⟩
  · rename_i S1 h1
    refine tT_seq hn hs h1 fun F1 m1 H1 x1 n1 r1 => ?_
    rw [if_neg Bool.false_ne_true]
    exact ⟨U, F1, m1, en, S1, d, S', n1, r1, he, fun F' m' v H' x3 => k F' m' v H' (x1.trans x3)⟩
  · cases he

/-! ### argument lists, displays -/
theorem snd_nil : PA X [] (tEs P n .nil) := PA.imp pa_nil fun σ H Q ⟨U, F, m, en, S, ds, S', hn, hs, he, k⟩ => by
  simp only [evEs] at he; cases he
  exact k F m [] H .rfl' hs .nil
theorem snd_cons {a : E} {r : Es} {ea : Expr} {er : List Expr} (ha : PE X ea (tE P n a)) (hr : PA X er (tEs P n r)) (hst : starEach (ea :: er) X.env = (false, eval ea X.env) :: starEach er X.env) : PA X (ea :: er) (tEs P n (.cons a r)) := by
  refine PA.imp (pa_cons ha hr hst) fun σ H Q ⟨U, F, m, en, S, ds, S', hn, hs, he, k⟩ => ?_
  simp only [evEs] at he
  split at he
  · rename_i d S1 h1
    split at he
    · rename_i ds1 S2 h2
      cases he
      refine tE_seq hn hs h1 fun F1 m1 v1 H1 x1 n1 r1 p1 => ?_
      refine tEs_seq n1 r1 h2 fun F2 m2 vs H2 x2 n2 r2 p2 => ?_
      exact k F2 m2 _ H2 (x1.trans x2) r2 (.cons (p1.mon x2) p2)
    · cases he
  · cases he
theorem snd_tup {as : Es} {es : List Expr} {x1 : Nat} {pos : Pos} (ha : PA X es (tEs P n as)) : PE X (.Tuple es x1 pos) (tE P n (.tup as)) := by
  refine PE.imp (pe_tup ha) fun σ H Q ⟨U, F, m, en, S, d, S', hn, hs, he, k⟩ => ?_
  simp only [Ev, evE] at he
  split at he
  · rename_i ds S1 h1
    split at he
    · rename_i hl
      cases he
      refine tEs_seq hn hs h1 fun F1 m1 vs H1 x1 n1 r1 p1 => ⟨by rw [← p1.len, size_line]; simpa [clen] using hl, fun p hp => ?_⟩
      refine k _ _ _ _ (x1.trans (upd_ext (r1.fresh hp).1)) (r1.frozen hp _) ?_
      simp only [repV]
      exact ⟨p, _, rfl, .inl (.inl upd_same), p1.mon (upd_ext (r1.fresh hp).1)⟩
    · cases he
  · cases he
theorem snd_lst {as : Es} {es : List Expr} {pos : Pos} (ha : PA X es (tEs P n as)) : PE X (.List es pos) (tE P n (.lst as)) := by
  refine PE.imp (pe_lst ha) fun σ H Q ⟨U, F, m, en, S, d, S', hn, hs, he, k⟩ => ?_
  simp only [Ev, evE] at he
  split at he
  · rename_i ds S1 h1
    split at he
    · rename_i hl
      cases he
      refine tEs_seq hn hs h1 fun F1 m1 vs H1 x1 n1 r1 p1 => ⟨by rw [← p1.len, size_line]; simpa [clen] using hl, fun p hp => ?_⟩
      refine k _ _ _ _ (x1.trans (upd_ext (r1.fresh hp).1)) (r1.frozen hp _) ?_
      simp only [repV]
      exact ⟨p, _, rfl, upd_same, p1.mon (upd_ext (r1.fresh hp).1)⟩
    · cases he
  · cases he
end
end Iv

set_option Elab.async false
set_option linter.all false
set_option maxRecDepth 100000
/-! IvF: calls, fields, subscripts. -/
namespace Iv
open PySem L2 PySem.Spec PyProof.Rows
section
variable {P : Pm} {n : Nat} {c : Sc} {X : Cx} {U : Hp}

theorem orc_fn {key : Key} {ds : List DV} {S : Store} {r : DV × Store} (h : (orc P.G n).call 0 key ds S = some r) : ∃ fn, P.G.fn key = some fn := by
  cases n with
  | zero => rw [orc_none] at h; cases h
  | succ j =>
    rw [orc_zero] at h
    split at h
    · exact ⟨_, ‹_›⟩
    · cases h
/-! ### f(..) -/
theorem snd_call (fa : Facts P n X) {f : String} {as : Es} {p pos : Pos} {e : Expr} {es : List Expr} (hf0 : P.G.cls f = false) (hcm : P.G.cmc f = none) (hg : Gl X (st f)) (hdb : (st f == ("__debug__" : Str)) = false) (ha : PA X (e :: es) (tEs P n as))
    (he : starEach (e :: es) X.env = (false, eval e X.env) :: starEach es X.env) (hpl : (backTo pos (starEach es X.env)).any (·.1) = false) : PE X (.Call (.Name (st f) p) (e :: es) [] pos) (tE P n (.call f as)) := by
  refine ⟨fun pins s σ H Q I ⟨U, F, m, en, S, d, S', hn, hs, hv, k⟩ => ?_⟩
  simp only [Ev, evE] at hv
  split at hv
  · rename_i ds S1 h1
    obtain ⟨fn, hG⟩ := orc_fn hv
    obtain ⟨fa', hf⟩ := fa.fns _ _ hG
    rcases id hf.loc with ⟨_, ⟨_, hm, hk⟩ | ⟨_, _, _, _, hz, _⟩⟩ | ⟨h0, _⟩
    rotate_left
    · simp only at hz; rw [hcm] at hz; cases hz
    rotate_left
    · refine wpAny_Call_Name_kw (ld_glob I hg hm ?_ hdb)
      refine PySem.W.callWith_K (h₀ := X.base) I.ok.mod.kin hk (thn (ha.run pos pins s σ H (fun vs H1 => ∃ F1 m1, Ext2 F m F1 m1 ∧ RS P U F1 m1 S1 H1 ∧ repL P F1 m1 ds vs) I ?_) fun us s1 ⟨vs, H1, I1, r, F1, m1, x1, r1, p1⟩ => ⟨I1.kIn, ?_⟩) he hpl
      · exact tEs_seq hn hs h1 fun F1 m1 vs H1 x1 _ r1 p1 => ⟨F1, m1, x1, r1, p1⟩
      · exact call_key fa hf I1 r1 p1 r hG hv fun F' m' v H' x => k F' m' v H' (x1.trans x)
    · exact absurd rfl h0
  · cases hv
theorem snd_call0 (fa : Facts P n X) {f : String} {p pos : Pos} (hcm : P.G.cmc f = none) (hg : Gl X (st f)) (hdb : (st f == ("__debug__" : Str)) = false) : PE X (.Call (.Name (st f) p) [] [] pos) (tE P n (.call f .nil)) := by
  refine ⟨fun pins s σ H Q I ⟨U, F, m, en, S, d, S', hn, hs, hv, k⟩ => ?_⟩
  simp only [Ev, evE, evEs] at hv
  obtain ⟨fn, hG⟩ := orc_fn hv
  obtain ⟨fa', hf⟩ := fa.fns _ _ hG
  rcases id hf.loc with ⟨_, ⟨_, hm, hk⟩ | ⟨_, _, _, _, hz, _⟩⟩ | ⟨h0, _⟩
  rotate_left
  · simp only at hz; rw [hcm] at hz; cases hz
  rotate_left
  · refine wpAny_Call_Name_kw (ld_glob I hg hm ?_ hdb)
    exact PySem.W.callWith_K0 I.kIn hk (call_key fa hf (us := []) I hs .nil .nil hG hv k)
  · exact absurd rfl h0

/-! ### o.m(..) -/
def plain0 (o : Expr) : Bool := match o with
  | .Call (.Name _ _) [] [] _ => false
  | _ => true
theorem attr_plain {o : Expr} (h : plain0 o = true) {m : Str} {env : PySem.Env} {w : Sem Value} : attributeBase o m env w = w := by
  unfold attributeBase
  split
  · simp [plain0] at h
  · rfl
theorem meth_form {o : Expr} (h : plain0 o = true) {m : Str} {apos pos : Pos} {env : PySem.Env} {es : List Expr} (hl : (apos.endLine == pos.line) = true) (hst : (starEach es env).all (!·.1) = true) (hlen : es.length < 30) :
    eval (.Call (.Attribute o m apos) es [] pos) env = (do
      let ov ← eval o env
      standAt apos.atName
      let (f, first) ← holding [ov] (getMethod ov m (plainOf o env))
      callWith pos f first (backTo pos (starEach es env)) (backToKw pos (keywordEach [] env))) := by
  have e1 : eval (.Call (.Attribute o m apos) es [] pos) env = (do
    let ov ← attributeBase o m env (eval o env)
    standAt apos.atName
    methodCall o m apos pos env ov (es.length + ([] : List Keyword).length) (backTo pos (starEach es env)) (backToKw pos (keywordEach [] env))) := by
    rw [eval]
  rw [e1, attr_plain h]
  have e2 : ∀ ov, methodCall o m apos pos env ov (es.length + ([] : List Keyword).length) (backTo pos (starEach es env)) (backToKw pos (keywordEach [] env)) = (do
      let (f, first) ← holding [ov] (getMethod ov m (plainOf o env))
      callWith pos f first (backTo pos (starEach es env)) (backToKw pos (keywordEach [] env))) := fun ov => by
    refine mcall_line ?_ hl
    have h1 : (backTo pos (starEach es env)).all (!·.1) = true := by
      unfold backTo
      rw [List.all_map]
      rw [← hst]
      rfl
    unfold methodCallForm
    rw [h1]
    simp [backToKw, keywordEach]
    omega
  simp only [e2]

/-- a method of an own class: what stands at the object -/
theorem obj_ins {F m H S} {c0 : String} {ds : List DV} {v : V} (hs : RS P U F m S H) (h : repV P F m (.obj c0 ds) v) : ∃ a dx fs, v = .ref a ∧ H a = some (.ins (P.cl c0) dx fs) ∧ fs.map (·.1) = (P.G.fld c0).map st := by
  simp only [repV] at h
  obtain ⟨a, dx, fs, rfl, ha, hn, _⟩ := h
  exact ⟨a, dx, fs, rfl, hs.sub _ _ ha, hn⟩
theorem st_inj {a b : String} (h : st a = st b) : a = b := by
  have h1 : Str.ofString a = Str.ofString b := h
  rw [Str.ofString_eq_toList, Str.ofString_eq_toList] at h1
  injection h1 with h2
  have h3 : a.toList.map Char.toNat = b.toList.map Char.toNat := by
    have := congrArg Array.toList h2
    simpa using this
  have h4 : a.toList = b.toList := by
    generalize a.toList = l1 at h3
    generalize b.toList = l2 at h3
    induction l1 generalizing l2 with
    | nil => cases l2 with
      | nil => rfl
      | cons => simp at h3
    | cons x xs ih => cases l2 with
      | nil => simp at h3
      | cons y ys =>
        simp at h3
        rw [ih _ (by simpa using h3.2)]
        rw [Char.toNat_inj.mp h3.1]
  exact String.toList_inj.mp h4
theorem lookup_names {fs : List (Str × V)} {ns : List String} {m : String} (hn : fs.map (·.1) = ns.map st) (h : m ∉ ns) : fs.lookup (st m) = none := by
  induction fs generalizing ns with
  | nil => rfl
  | cons f fs ih =>
    cases ns with
    | nil => simp at hn
    | cons x ns =>
      simp only [List.map_cons, List.cons.injEq] at hn
      simp only [List.mem_cons, not_or] at h
      obtain ⟨g, v⟩ := f
      rw [List.lookup_cons]
      have : (st m == g) = false := by
        rw [beq_eq_false_iff_ne]
        intro e
        simp only at hn
        rw [hn.1] at e
        exact h.1 (st_inj e)
      rw [this]
      exact ih hn.2 h.2
theorem ins_names {F m H} {c0 : String} {fs : List (String × DV)} {a : Addr} (h : celR P F m H (.ins c0 fs) a) : ∃ dx vs, H a = some (.ins (P.cl c0) dx vs) ∧ vs.map (·.1) = (fs.map (·.1)).map st := by
  obtain ⟨dx, vs, h1, h2, _⟩ := h
  exact ⟨dx, vs, h1, by rw [h2, List.map_map]; rfl⟩

theorem lookup_st {fs : List (Str × V)} {gs : List (String × DV)} {m : String} (hn : fs.map (·.1) = (gs.map (·.1)).map st) (h : (gs.lookup m).isNone = true) : fs.lookup (st m) = none := by
  refine lookup_names hn fun hm => ?_
  obtain ⟨g, hg, e⟩ := List.mem_map.mp hm
  have : ∀ {l : List (String × DV)}, g ∈ l → (l.lookup m).isSome = true := by
    intro l hl
    induction l with
    | nil => cases hl
    | cons y ys ih =>
      obtain ⟨y1, y2⟩ := y
      rw [List.lookup_cons]
      cases hq : m == y1 with
      | true => rfl
      | false =>
        rcases List.mem_cons.mp hl with z | z
        · subst z; simp at e; subst e; simp at hq
        · exact ih z
  have h2 := this hg
  cases hq : gs.lookup m with
  | none => rw [hq] at h2; cases h2
  | some x => rw [hq] at h; cases h

theorem snd_mth (fa : Facts P n X) {o : E} {c0 m0 : String} {as : Es} {eo : Expr} {apos pos : Pos} {es : List Expr} (hc0 : c0 ≠ "") (ho : PE X eo (tE P n o)) (hp : plain0 eo = true) (hl : (apos.endLine == pos.line) = true) (ha : PA X es (tEs P n as))
    (hst : (starEach es X.env).all (!·.1) = true) (hes : es = [] ∨ ∃ e r, es = e :: r ∧ starEach es X.env = (false, eval e X.env) :: starEach r X.env ∧ (backTo pos (starEach r X.env)).any (·.1) = false) (hlen : es.length < 30) (has : es = [] → as = .nil) :
    PE X (.Call (.Attribute eo (st m0) apos) es [] pos) (tE P n (.mth o c0 m0 as)) := by
  refine ⟨fun pins s σ H Q I ⟨U, F, m, en, S, d, S', hn, hs, hv, k⟩ => ?_⟩
  -- what is common to both kinds of objects
  have main : ∀ (dv : DV) (S1 S2 : Store) (ds : List DV) (r : DV × Store), Ev P n o en S = some (dv, S1) → evEs (orc P.G n) P.G as en S1 = some (ds, S2) → (orc P.G n).call 0 (c0, m0) (dv :: ds) S2 = some (d, S') →
      (∀ F1 m1 H1 v, RS P U F1 m1 S1 H1 → repV P F1 m1 dv v → (∃ f fn, P.G.fn (c0, m0) = some fn ∧ FnAt P n X (c0, m0) fn f) → ∃ a dx fs, v = .ref a ∧ H1 a = some (.ins (P.cl c0) dx fs) ∧ fs.lookup (st m0) = none) →
      wpAny (model X.prog X.w) X.A (eval (.Call (.Attribute eo (st m0) apos) es [] pos) X.env) (EP X pins σ Q) X.xe s := by
    intro dv S1 S2 ds _ h1 h2 h3 hin
    obtain ⟨fn, hG⟩ := orc_fn h3
    obtain ⟨f, hf⟩ := fa.fns _ _ hG
    rcases id hf.loc with ⟨h0, _⟩ | ⟨_, hcl, hm⟩
    · exact absurd h0 hc0
    have hC := fa.cls _ hcl
    refine PySem.W.methodCall_KW (pl := plainOf eo X.env) (thn (ho.run pins s σ H (fun x H1 => ∃ F1 m1, Ext2 F m F1 m1 ∧ Rn P F1 m1 en σ ∧ RS P U F1 m1 S1 H1 ∧ repV P F1 m1 dv x) I ?_) fun u s1 ⟨x, H1, I1, rx, F1, m1, x1, n1, r1, p1⟩ => ?_) (meth_form hp hl hst hlen)
    · exact tE_seq hn hs h1 fun F1 m1 v1 H1 x1 n1 r1 p1 => ⟨F1, m1, x1, n1, r1, p1⟩
    obtain ⟨a, dx, fs, ex, ea, l⟩ := hin F1 m1 H1 x r1 p1 ⟨f, fn, hG, hf⟩
    subst ex
    obtain rfl : u = Value.ref a := rx
    refine getmeth_ok I1 ea hC.cl hm l ?_
    rcases hes with rfl | ⟨e, r, rfl, he, hpl⟩
    · rw [has rfl] at h2
      simp only [evEs] at h2
      cases h2
      exact PySem.W.callWith_K0 (first := [.ref a]) I1.kIn hm.kp (call_key fa hf (us := [.ref a]) I1 r1 (.cons p1 .nil) (.cons rfl .nil) hG h3 fun F' m' v H' x => k F' m' v H' (x1.trans x))
    · refine PySem.W.callWith_K (first := [.ref a]) (h₀ := X.base) I.ok.mod.kin hm.kp (thn (ha.run pos pins s1 σ H1 (fun vs H2 => ∃ F2 m2, Ext2 F1 m1 F2 m2 ∧ RS P U F2 m2 S2 H2 ∧ repL P F2 m2 ds vs) I1 ?_) fun us s2 ⟨vs, H2, I2, r', F2, m2, x2, r2, p2⟩ => ⟨I2.kIn, ?_⟩) he hpl
      · exact tEs_seq n1 r1 h2 fun F2 m2 vs H2 x2 _ r2 p2 => ⟨F2, m2, x2, r2, p2⟩
      · exact call_key fa hf (us := .ref a :: us) I2 r2 (.cons (p1.mon x2) p2) (.cons rfl r') hG h3 fun F' m' v H' x => k F' m' v H' ((x1.trans x2).trans x)
  simp only [Ev, evE] at hv
  split at hv
  · rename_i c' es' S1 h1
    split at hv
    · rename_i hc; subst hc
      split at hv
      · rename_i ds S2 h2
        refine main _ S1 S2 ds (d, S') h1 h2 hv fun F1 m1 H1 v r1 p1 ⟨f, fn, hG, hf⟩ => ?_
        obtain ⟨a, dx, fs, rfl, ha', hn'⟩ := obj_ins r1 p1
        rcases id hf.loc with ⟨h0, _⟩ | ⟨_, hcl, _⟩
        · exact absurd h0 hc0
        exact ⟨a, dx, fs, rfl, ha', lookup_names hn' ((fa.cls _ hcl).nofld _ _ hG)⟩
      · cases hv
    · cases hv
  · rename_i kk S1 h1
    split at hv
    · rename_i c' fs h2
      split at hv
      · rename_i hc; obtain ⟨hc, hno⟩ := hc; subst hc
        split at hv
        · rename_i ds S2 h3
          refine main _ S1 S2 ds (d, S') h1 h3 hv fun F1 m1 H1 v r1 p1 _ => ?_
          simp only [repV] at p1
          obtain ⟨a, rfl, hk⟩ := p1
          obtain ⟨dx, vs, h4, h5⟩ := ins_names (r1.cel kk a _ hk h2)
          exact ⟨a, dx, vs, rfl, h4, lookup_st h5 hno⟩
        · cases hv
      · cases hv
    · cases hv
  · cases hv
end
end Iv

set_option Elab.async false
set_option linter.all false
set_option maxRecDepth 100000
/-! IvG: new instances, properties, fields, subscripts, slices, built-ins. -/
namespace Iv
open PySem L2 PySem.Spec PyProof.Rows
section
variable {P : Pm} {n : Nat} {c : Sc} {X : Cx} {U : Hp}

/-- C(..) with values -/
theorem make_key (fa : Facts P n X) {c0 : String} (hcl : P.G.cls c0 = true) (hc0 : c0 ≠ "") {pins σ H s Q F m S ds us d S'} {vs : List V} (I : Inv X pins σ H s) (hs : RS P U F m S H) (hr : repL P F m ds vs) (rv : Vals vs us)
    (hv : makeD (orc P.G n) P.G c0 ds S = some (d, S')) (k : ∀ F' m' v H', Ext2 F m F' m' → RS P U F' m' S' H' → repV P F' m' d v → Q v H') :
    wpAny (model X.prog X.w) X.A (call (.ref (P.cl c0)) us) (EP X pins σ Q) X.xe s := by
  cases n with
  | zero => simp only [makeD, orc_none] at hv; cases hv
  | succ j =>
    have hC := fa.cls c0 hcl
    simp only [makeD, orc_succ] at hv
    split at hv
    · rename_i S1 h1
      split at hv
      · rename_i c' fs h2
        split at hv
        · rename_i hcond
          obtain ⟨rfl, hnm, hpur, hS1⟩ := hcond
          cases hv
          obtain ⟨fn, hG⟩ := orc_fn h1
          obtain ⟨f, hf⟩ := fa.fns _ _ hG
          rcases id hf.loc with ⟨h0, _⟩ | ⟨_, _, hm⟩
          · exact absurd h0 hc0
          cases j with
          | zero => rw [orc_none] at h1; cases h1
          | succ i =>
            obtain ⟨_, _, fd, ps, ok, hl, hb⟩ := hf
            have F1 := ok i (by omega)
            have h1' := h1
            rw [orc_zero, hG] at h1'
            dsimp only at h1'
            have hnp : (fillD fn (DV.ref S.length :: ds)).length = fn.np := by
              unfold evFn at h1'
              split at h1'
              · assumption
              · cases h1'
            have g1 : (DV.ref S.length :: ds).length ≤ fn.np := by rw [← hnp]; unfold fillD; rw [List.length_append]; omega
            have g2 : fn.np ≤ (DV.ref S.length :: ds).length + fn.dfl.length := by
              rw [← hnp]; unfold fillD; rw [List.length_append, List.length_drop]; omega
            obtain ⟨dvs, us', rd, bd, rp⟩ := hb (DV.ref S.length :: ds).length g1 g2
            refine run_make ⟨hC.makes, hm.at_, hm.fn, hC.kp⟩ F1 (fa.room) bd rd pass0 I rv fun x dx hx hdx hne => ?_
            have hx' : upd H dx (.own x) x = none := by rw [upd_ne (fun e => hne e.symm)]; exact hx
            have rs1 := hs.other hdx (.own x)
            have rs2 : RS P U F (m ++ [x]) (S ++ [.ins c' []]) (upd (upd H dx (.own x)) x (.ins (P.cl c') dx [])) :=
              rs1.alloc hx' ⟨dx, [], upd_same, rfl, by simpa using repL.nil⟩
            have hself : repV P F (m ++ [x]) (.ref S.length) (.ref x) := by
              simp only [repV]
              exact ⟨x, rfl, by rw [← hs.len]; simp⟩
            refine ⟨U, F, m ++ [x], S ++ [.ins c' []], fillD fn (DV.ref S.length :: ds), .non, S1, rs2, (repL.cons hself (hr.mon app_ext)).app (rp F _), h1', fun F' m' v H' x1 r1 p1 => ⟨rep_non p1, ?_⟩⟩
            -- the instance is frozen, its cell dropped
            have hm' : m'[S.length]? = some x := x1.get (by rw [← hs.len]; simp)
            have hcell : S1[S.length]? = some (.ins c' fs) := h2
            obtain ⟨dx', vs', hv1, hv2, hv3, hFx, r2⟩ := r1.freezeI hm' hcell
            have r3 := r2.trunc S.length fun i c hi hc => by
              rw [List.getElem?_set_ne (by omega)] at hc
              rw [hS1, List.getElem?_append_left hi] at hc
              exact hs.clo hc
            have e1 : (S1.set S.length .dead).take S.length = S := by
              rw [hS1]
              simp
            have e2 : m'.take S.length = m := by
              obtain ⟨t, ht⟩ := x1.m
              rw [ht, ← hs.len]
              simp
            rw [e1, e2] at r3
            have x2 : Ext2 F m (upd F' x (.ins (P.cl c') dx' vs')) m := ⟨fun a o e => (upd_ext (m := m) hFx).f _ _ (x1.f _ _ e), [], by simp⟩
            refine k _ _ _ _ x2 r3 ?_
            simp only [repV]
            refine ⟨x, dx', vs', rfl, upd_same, ?_, ?_, hcl⟩
            · rw [hv2, ← hnm, List.map_map]; rfl
            · have p2 := (hv3.cut (n := 0) hpur)
              have x3 : Ext2 F' (m'.take 0) (upd F' x (.ins (P.cl c') dx' vs')) m := ⟨(upd_ext (m := m) hFx).f, m, by simp⟩
              exact p2.mon x3
        · cases hv
      · cases hv
    · cases hv
theorem snd_mk (fa : Facts P n X) {c0 : String} {as : Es} {p pos : Pos} {e : Expr} {es : List Expr} (hcl : P.G.cls c0 = true) (hc0 : c0 ≠ "") (hg : Gl X (st c0)) (hdb : (st c0 == ("__debug__" : Str)) = false) (ha : PA X (e :: es) (tEs P n as))
    (he : starEach (e :: es) X.env = (false, eval e X.env) :: starEach es X.env) (hpl : (backTo pos (starEach es X.env)).any (·.1) = false) : PE X (.Call (.Name (st c0) p) (e :: es) [] pos) (tE P n (.mk c0 as)) := by
  refine ⟨fun pins s σ H Q I ⟨U, F, m, en, S, d, S', hn, hs, hv, k⟩ => ?_⟩
  simp only [Ev, evE] at hv
  split at hv
  · rename_i ds S1 h1
    refine wpAny_Call_Name_kw (ld_glob I hg (fa.mgc c0 hcl) ?_ hdb)
    refine PySem.W.callWith_K (h₀ := X.base) I.ok.mod.kin (fa.cls c0 hcl).kp (thn (ha.run pos pins s σ H (fun vs H1 => ∃ F1 m1, Ext2 F m F1 m1 ∧ RS P U F1 m1 S1 H1 ∧ repL P F1 m1 ds vs) I ?_) fun us s1 ⟨vs, H1, I1, r, F1, m1, x1, r1, p1⟩ => ⟨I1.kIn, ?_⟩) he hpl
    · exact tEs_seq hn hs h1 fun F1 m1 vs H1 x1 _ r1 p1 => ⟨F1, m1, x1, r1, p1⟩
    · exact make_key fa hcl hc0 I1 r1 p1 r hv fun F' m' v H' x => k F' m' v H' (x1.trans x)
  · cases hv

/-! ### o(..), o an instance -/
theorem snd_app (fa : Facts P n X) {o : E} {c0 : String} {as : Es} {eo : Expr} {pos : Pos} {e : Expr} {es : List Expr} (hc0 : c0 ≠ "") (ho : PE X eo (tE P n o)) (ha : PA X (e :: es) (tEs P n as))
    (ht : eval (.Call eo (e :: es) [] pos) X.env = (do callWith pos (← eval eo X.env) [] (backTo pos (starEach (e :: es) X.env)) (backToKw pos (keywordEach [] X.env))))
    (he : starEach (e :: es) X.env = (false, eval e X.env) :: starEach es X.env) (hpl : (backTo pos (starEach es X.env)).any (·.1) = false) : PE X (.Call eo (e :: es) [] pos) (tE P n (.app o c0 as)) := by
  refine ⟨fun pins s σ H Q I ⟨U, F, m, en, S, d, S', hn, hs, hv, k⟩ => ?_⟩
  simp only [Ev, evE] at hv
  split at hv
  · rename_i c' es' S1 h1
    split at hv
    · rename_i hc; subst hc
      split at hv
      · rename_i ds S2 h2
        obtain ⟨fn, hG⟩ := orc_fn hv
        obtain ⟨f, hf⟩ := fa.fns _ _ hG
        rcases id hf.loc with ⟨h0, _⟩ | ⟨_, hcl, hm⟩
        · exact absurd h0 hc0
        refine Call_ (thn (ho.run pins s σ H (fun x H1 => ∃ F1 m1, Ext2 F m F1 m1 ∧ Rn P F1 m1 en σ ∧ RS P U F1 m1 S1 H1 ∧ repV P F1 m1 (.obj c' es') x) I ?_) fun u s1 ⟨x, H1, I1, rx, F1, m1, x1, n1, r1, p1⟩ => ?_) ht
        · exact tE_seq hn hs h1 fun F1 m1 v1 H1 x1 n1 r1 p1 => ⟨F1, m1, x1, n1, r1, p1⟩
        obtain ⟨a, dx, fs, rfl, ea, _⟩ := obj_ins r1 p1
        obtain rfl : u = Value.ref a := rx
        refine StX.callO_with (thn (ha.run pos pins s1 σ H1 (fun vs H2 => ∃ F2 m2, Ext2 F1 m1 F2 m2 ∧ RS P U F2 m2 S2 H2 ∧ repL P F2 m2 ds vs) I1 ?_) fun us s2 ⟨vs, H2, I2, r', F2, m2, x2, r2, p2⟩ => ?_) he hpl
        · exact tEs_seq n1 r1 h2 fun F2 m2 vs H2 x2 _ r2 p2 => ⟨F2, m2, x2, r2, p2⟩
        · obtain ⟨a', dx', fs', ez, ea', _⟩ := obj_ins r2 (p1.mon x2)
          cases ez
          obtain ⟨ox, od, J, hd⟩ := StX.insC_at I2 (.inr ⟨dx', fs', ea'⟩)
          refine ⟨⟨_, ox, od, J, hd⟩, ?_⟩
          cases n with
          | zero => rw [orc_none] at hv; cases hv
          | succ j =>
            exact wpAny_call (PySem.W.kco_code I2.kIn J hd hm.at_ hm.fn (hf.fi hc0) (call_code fa (Nat.le_refl _) hf (us := .ref a :: us) I2 r2 (.cons (p1.mon x2) p2) (.cons rfl r') hG hv fun F' m' v H' x => k F' m' v H' ((x1.trans x2).trans x)))
      · cases hv
    · cases hv
  · cases hv

/-! ### o.f -/
theorem zip_lookup : ∀ {ns : List String} {ds : List DV} {f : String} {v : DV}, (ns.zip ds).lookup f = some v → ∀ {F m} {fs : List (Str × V)}, fs.map (·.1) = ns.map st → repL P F m ds (fs.map (·.2)) → ∃ w, fs.lookup (st f) = some w ∧ repV P F m v w
  | [], _, _, _, h, _, _, _, _, _ => by simp at h
  | _ :: _, [], _, _, h, _, _, _, _, _ => by simp at h
  | x :: ns, d :: ds, f, v, h, F, m, fs, hn, hr => by
    cases fs with
    | nil => simp at hn
    | cons g fs =>
      obtain ⟨g1, g2⟩ := g
      simp only [List.map_cons, List.cons.injEq] at hn hr
      obtain ⟨w, r, e, h1, h2⟩ := hr.cons_inv
      cases e
      rw [List.zip_cons_cons, List.lookup_cons] at h
      rw [List.lookup_cons]
      cases hq : f == x with
      | true =>
        rw [hq] at h
        have : (st f == g1) = true := by rw [hn.1, beq_iff_eq]; rw [beq_iff_eq.mp hq]
        rw [this]
        cases h
        exact ⟨_, rfl, h1⟩
      | false =>
        rw [hq] at h
        have : (st f == g1) = false := by
          rw [hn.1, beq_eq_false_iff_ne]
          intro e; exact (beq_eq_false_iff_ne.mp hq) (st_inj e)
        rw [this]
        exact zip_lookup h hn.2 h2
theorem lookup_zip (l : List (String × DV)) (f : String) : l.lookup f = ((l.map (·.1)).zip (l.map (·.2))).lookup f := by
  congr 1
  induction l with
  | nil => rfl
  | cons x l ih => simp only [List.map_cons, List.zip_cons_cons]; rw [← ih]
theorem snd_fld (fa : Facts P n X) {o : E} {f : String} {eo : Expr} {pos : Pos} (ho : PE X eo (tE P n o)) (hp : plain0 eo = true) (hcls : ∀ c0, f ∈ P.G.fld c0 → P.G.cls c0 = true) :
    PE X (.Attribute eo (st f) pos) (tE P n (.fld o f)) := by
  refine PE.imp (pe_fld ho (attr_plain hp)) fun σ H Q ⟨U, F, m, en, S, d, S', hn, hs, he, k⟩ => ?_
  simp only [Ev, evE] at he
  split at he
  · rename_i x S1 h1
    split at he
    · rename_i v h2
      cases he
      refine tE_seq hn hs h1 fun F1 m1 v1 H1 x1 n1 r1 p1 => ?_
      unfold fldD at h2
      split at h2
      · rename_i c0 ds
        unfold fieldOf at h2
        have hmem : f ∈ P.G.fld c0 := by
          have : ∀ {ns : List String} {ds : List DV}, (ns.zip ds).lookup f = some d → f ∈ ns := by
            intro ns ds h
            induction ns generalizing ds with
            | nil => simp at h
            | cons a ns ih =>
              cases ds with
              | nil => simp at h
              | cons b ds =>
                rw [List.zip_cons_cons, List.lookup_cons] at h
                cases hq : f == a with
                | true => rw [beq_iff_eq.mp hq]; exact List.mem_cons_self
                | false => rw [hq] at h; exact List.mem_cons_of_mem _ (ih h)
          exact this h2
        have hC := fa.cls c0 (hcls c0 hmem)
        simp only [repV] at p1
        obtain ⟨a, dx, fs, rfl, ha, hnm, hr, _⟩ := p1
        obtain ⟨w, h3, h4⟩ := zip_lookup h2 hnm hr
        exact ⟨a, P.cl c0, dx, fs, w, rfl, r1.sub _ _ ha, hC.cl, hC.noat f hmem, h3, k F1 m1 w H1 x1 r1 h4⟩
      · rename_i kk
        split at h2
        · rename_i c0 fs h3
          simp only [repV] at p1
          obtain ⟨a, rfl, hk⟩ := p1
          obtain ⟨dx, vs, h4, h5, h6⟩ := r1.cel kk a _ hk h3
          split at h2
          · rename_i hmem
            have hC := fa.cls c0 (hcls c0 hmem)
            rw [lookup_zip] at h2
            obtain ⟨w, h7, h8⟩ := zip_lookup h2 (by rw [h5, List.map_map]; rfl) h6
            exact ⟨a, P.cl c0, dx, vs, w, rfl, h4, hC.cl, hC.noat f hmem, h7, k F1 m1 w H1 x1 r1 h8⟩
          · cases h2
        · cases h2
      · cases h2
    · cases he
  · cases he
end
end Iv

set_option Elab.async false
set_option linter.all false
set_option maxRecDepth 100000
/-! IvH: subscripts, slices, built-ins by name. -/
namespace Iv
open PySem L2 PySem.Spec PyProof.Rows
section
variable {P : Pm} {n : Nat} {c : Sc} {X : Cx} {U : Hp}

theorem atI_rep {F m} {ds : List DV} {vs : List V} {i : Int} {d : DV} (h : repL P F m ds vs) (e : ((idx ds.length i).bind fun k => ds[k]?) = some d) : ∃ v, atI vs i = some v ∧ repV P F m d v := by
  unfold atI
  rw [← h.len]
  unfold idx at e
  cases hq : L2.ixN ds.length i with
  | none => rw [hq] at e; cases e
  | some k =>
    rw [hq] at e
    obtain ⟨v, h1, h2⟩ := h.get e
    exact ⟨v, h1, h2⟩
theorem ref_lst {F m S H} {k : Nat} {ds : List DV} {v : V} (hs : RS P U F m S H) (h : repV P F m (.ref k) v) (hk : S[k]? = some (.lst ds)) : ∃ a vs, v = .ref a ∧ m[k]? = some a ∧ H a = some (.lst vs) ∧ repL P F m ds vs := by
  simp only [repV] at h
  obtain ⟨a, rfl, ha⟩ := h
  obtain ⟨vs, h1, h2⟩ := hs.cel k a _ ha hk
  exact ⟨a, vs, rfl, ha, h1, h2⟩
theorem snd_ix (fa : Facts P n X) {a i : E} {ea ei : Expr} {pos : Pos} (ha : PE X ea (tE P n a)) (hi : PE X ei (tE P n i)) (hp : PlainIx ei) : PE X (.Subscript ea ei pos) (tE P n (.ix a i)) := by
  refine PE.imp (pe_ix (ix_list.or ix_tup) ha hi hp) fun σ H Q ⟨U, F, m, en, S, d, S', hn, hs, he, k⟩ => ?_
  simp only [Ev, evE] at he
  split at he
  · rename_i x S1 h1
    split at he
    · rename_i y S2 h2
      split at he
      · rename_i v h3
        cases he
        refine tE_seq hn hs h1 fun F1 m1 v1 H1 x1 n1 r1 p1 => ?_
        refine tE_seq n1 r1 h2 fun F2 m2 v2 H2 x2 n2 r2 p2 => ?_
        have p1' := p1.mon x2
        unfold ixD at h3
        split at h3
        · simp only [repV] at p1'
          obtain ⟨p, vs, rfl, h4, h5⟩ := p1'
          obtain ⟨w, h6, h7⟩ := atI_rep h5 h3
          exact .inr ⟨p, vs, _, w, rfl, rep_int p2, fa.hK ▸ SqT.mon r2.sub h4, h6, k F2 m2 w H2 (x1.trans x2) r2 h7⟩
        · simp only [repV] at p1'
          obtain ⟨p, vs, rfl, h4, h5⟩ := p1'
          obtain ⟨w, h6, h7⟩ := atI_rep h5 h3
          exact .inl ⟨p, vs, _, w, rfl, rep_int p2, .of (r2.sub _ _ h4), h6, k F2 m2 w H2 (x1.trans x2) r2 h7⟩
        · simp only [repV] at p1'
          obtain ⟨p, vs, rfl, h4, h5⟩ := p1'
          obtain ⟨w, h6, h7⟩ := atI_rep h5 h3
          exact .inl ⟨p, vs, _, w, rfl, rep_int p2, fa.hK ▸ SqL.mon r2.sub h4, h6, k F2 m2 w H2 (x1.trans x2) r2 h7⟩
        · split at h3
          · rename_i ds hk
            obtain ⟨p, vs, rfl, _, h4, h5⟩ := ref_lst r2 p1' hk
            obtain ⟨w, h6, h7⟩ := atI_rep h5 h3
            exact .inl ⟨p, vs, _, w, rfl, rep_int p2, .of h4, h6, k F2 m2 w H2 (x1.trans x2) r2 h7⟩
          · cases h3
        · cases h3
      · cases he
    · cases he
  · cases he

/-! ### slices -/
theorem cut_rep {F m} {ds : List DV} {vs : List V} (lo hi : Option Int) (h : repL P F m ds vs) : repL P F m (cutX ds lo hi) (cutV vs lo hi) := by
  unfold cutX cutV
  rw [← h.len]
  exact (h.drop _).take _
theorem sl_fin (fa : Facts P n X) {F m S H} {x : DV} {v : V} {lo hi : Option Int} {d : DV} {Q : VK} (hs : RS P U F m S H) (hx : repV P F m x v) (h : slD x lo hi S = some d) (k : ∀ F' m' w H', Ext2 F m F' m' → RS P U F' m' S H' → repV P F' m' d w → Q w H') :
    (rSlL X.K v lo hi H Q) ∨ (rSlA X.K v lo hi H Q) := by
  unfold slD at h
  have new : ∀ {ds : List DV} {vs : List V} {p : Addr}, d = .frl (cutX ds lo hi) → repL P F m ds vs → H p = none → Q (.ref p) (upd H p (.lst (cutV vs lo hi))) := by
    intro ds vs p e hr hp
    subst e
    refine k _ _ _ _ (upd_ext (hs.fresh hp).1) (hs.frozen hp _) ?_
    simp only [repV]
    exact ⟨p, _, rfl, upd_same, (cut_rep lo hi hr).mon (upd_ext (hs.fresh hp).1)⟩
  split at h
  · cases h
    simp only [repV] at hx
    obtain ⟨p, vs, rfl, h4, h5⟩ := hx
    exact .inl ⟨p, vs, rfl, .of (hs.sub _ _ h4), fun q hq => new rfl h5 hq⟩
  · cases h
    simp only [repV] at hx
    obtain ⟨p, vs, rfl, h4, h5⟩ := hx
    exact .inl ⟨p, vs, rfl, fa.hK ▸ SqL.mon hs.sub h4, fun q hq => new rfl h5 hq⟩
  · split at h
    · rename_i ds hk
      cases h
      obtain ⟨p, vs, rfl, _, h4, h5⟩ := ref_lst hs hx hk
      exact .inl ⟨p, vs, rfl, .of h4, fun q hq => new rfl h5 hq⟩
    · cases h
  · rename_i ds
    cases h
    have hx' := hx
    simp only [repV] at hx
    obtain ⟨p, vs, rfl, h4, h5⟩ := hx
    refine .inr ⟨p, vs, rfl, fa.hK ▸ SqT.mon hs.sub h4, fun ⟨g1, g2⟩ => ?_, fun _ q hq => ?_⟩
    · have e : cutX ds lo hi = ds := by
        unfold cutX
        rw [h5.len, g1, g2, List.drop_zero, Nat.sub_zero, ← h5.len, List.take_length]
      rw [e] at k
      exact k _ _ _ _ .rfl' hs hx'
    · refine k _ _ _ _ (upd_ext (hs.fresh hq).1) (hs.frozen hq _) ?_
      simp only [repV]
      exact ⟨q, _, rfl, .inl (.inl upd_same), (cut_rep lo hi h5).mon (upd_ext (hs.fresh hq).1)⟩
  · cases h
theorem snd_slTo (fa : Facts P n X) {a i : E} {ea ei : Expr} {p2 pos : Pos} (ha : PE X ea (tE P n a)) (hi : PE X ei (tE P n i)) : PE X (.Subscript ea (.Slice none (some ei) none p2) pos) (tE P n (.slTo a i)) := by
  refine PE.imp (pe_slice (sl_list.or sl_tupA) ha po_none (po_some hi)) fun σ H Q ⟨U, F, m, en, S, d, S', hn, hs, he, k⟩ => ?_
  simp only [Ev, evE] at he
  split at he
  · rename_i x S1 h1
    split at he
    · rename_i j S2 h2
      split at he
      · rename_i v h3
        cases he
        refine tE_seq hn hs h1 fun F1 m1 v1 H1 x1 n1 r1 p1 => ?_
        refine tE_seq n1 r1 h2 fun F2 m2 v2 H2 x2 n2 r2 p2 => ⟨j, rep_int p2, ?_⟩
        exact sl_fin fa r2 (p1.mon x2) h3 fun F' m' w H' x3 => k F' m' w H' ((x1.trans x2).trans x3)
      · cases he
    · cases he
  · cases he
theorem snd_slFrom (fa : Facts P n X) {a i : E} {ea ei : Expr} {p2 pos : Pos} (ha : PE X ea (tE P n a)) (hi : PE X ei (tE P n i)) : PE X (.Subscript ea (.Slice (some ei) none none p2) pos) (tE P n (.slFrom a i)) := by
  refine PE.imp (pe_slice (sl_list.or sl_tupA) ha (po_some hi) po_none) fun σ H Q ⟨U, F, m, en, S, d, S', hn, hs, he, k⟩ => ?_
  simp only [Ev, evE] at he
  split at he
  · rename_i x S1 h1
    split at he
    · rename_i j S2 h2
      split at he
      · rename_i v h3
        cases he
        refine tE_seq hn hs h1 fun F1 m1 v1 H1 x1 n1 r1 p1 => ?_
        refine tE_seq n1 r1 h2 fun F2 m2 v2 H2 x2 n2 r2 p2 => ⟨j, rep_int p2, ?_⟩
        exact sl_fin fa r2 (p1.mon x2) h3 fun F' m' w H' x3 => k F' m' w H' ((x1.trans x2).trans x3)
      · cases he
    · cases he
  · cases he
theorem snd_sl (fa : Facts P n X) {a i j : E} {ea ei ej : Expr} {p2 pos : Pos} (ha : PE X ea (tE P n a)) (hi : PE X ei (tE P n i)) (hj : PE X ej (tE P n j)) : PE X (.Subscript ea (.Slice (some ei) (some ej) none p2) pos) (tE P n (.sl a i j)) := by
  refine PE.imp (pe_slice (sl_list.or sl_tupA) ha (po_some hi) (po_some hj)) fun σ H Q ⟨U, F, m, en, S, d, S', hn, hs, he, k⟩ => ?_
  simp only [Ev, evE] at he
  split at he
  · rename_i x S1 h1
    split at he
    · rename_i j1 S2 h2
      split at he
      · rename_i j2 S3 h3
        split at he
        · rename_i v h4
          cases he
          refine tE_seq hn hs h1 fun F1 m1 v1 H1 x1 n1 r1 p1 => ?_
          refine tE_seq n1 r1 h2 fun F2 m2 v2 H2 x2 n2 r2 p2 => ⟨j1, rep_int p2, ?_⟩
          refine tE_seq n2 r2 h3 fun F3 m3 v3 H3 x3 n3 r3 p3 => ⟨j2, rep_int p3, ?_⟩
          exact sl_fin fa r3 ((p1.mon x2).mon x3) h4 fun F' m' w H' x4 => k F' m' w H' (((x1.trans x2).trans x3).trans x4)
        · cases he
      · cases he
    · cases he
  · cases he
theorem snd_slRev (fa : Facts P n X) {a : E} {ea : Expr} {kk : Nat} {p1 p2 p3 pos : Pos} (ha : PE X ea (tE P n a)) : PE X (.Subscript ea (.Slice none none (some (.UnaryOp .USub (.Constant (.int 1) kk p1) p2)) p3) pos) (tE P n (.slRev a)) := by
  refine PE.imp (pe_revL ha) fun σ H Q ⟨U, F, m, en, S, d, S', hn, hs, he, k⟩ => ?_
  have new : ∀ {F1 m1 S1 H1} {ds : List DV} {vs : List V} {p : Addr}, Ext2 F m F1 m1 → RS P U F1 m1 S1 H1 → S' = S1 → d = .frl ds.reverse → repL P F1 m1 ds vs → H1 p = none → Q (.ref p) (upd H1 p (.lst vs.reverse)) := by
    intro F1 m1 S1 H1 ds vs p x1 r1 e1 e hr hp
    subst e e1
    refine k _ _ _ _ (x1.trans (upd_ext (r1.fresh hp).1)) (r1.frozen hp _) ?_
    simp only [repV]
    exact ⟨p, _, rfl, upd_same, hr.rev.mon (upd_ext (r1.fresh hp).1)⟩
  simp only [Ev, evE] at he
  split at he
  · rename_i ds S1 h1
    cases he
    refine tE_seq hn hs h1 fun F1 m1 v1 H1 x1 n1 r1 p1 => ?_
    simp only [repV] at p1
    obtain ⟨p, vs, rfl, h4, h5⟩ := p1
    exact ⟨p, vs, rfl, .of (r1.sub _ _ h4), fun q hq => new x1 r1 rfl rfl h5 hq⟩
  · rename_i kk' S1 h1
    split at he
    · rename_i ds hk
      cases he
      refine tE_seq hn hs h1 fun F1 m1 v1 H1 x1 n1 r1 p1 => ?_
      obtain ⟨p, vs, rfl, _, h4, h5⟩ := ref_lst r1 p1 hk
      exact ⟨p, vs, rfl, .of h4, fun q hq => new x1 r1 rfl rfl h5 hq⟩
    · cases he
  · cases he
/-- the last look at a list of the store: it is frozen -/
theorem snd_frz {i : Nat} {x : Str} {pos : Pos} (hN : X.N[i]? = some x) (hv : Vis X.env.scope x) (hd : (x == ("__debug__" : Str)) = false) (hcd : (x == ("__classdict__" : Str)) = false) : PE X (.Name x pos) (tE P n (.frz i)) := by
  refine PE.imp (pe_var hN hv hd hcd) fun σ H Q ⟨U, F, m, en, S, d, S', hn, hs, he, k⟩ => ?_
  simp only [Ev, evE] at he
  split at he
  · rename_i kk hi
    split at he
    · rename_i ds hk
      cases he
      obtain ⟨v, h1, h2⟩ := hn.at_ i _ hi
      simp only [repV] at h2
      obtain ⟨a, rfl, ha⟩ := h2
      obtain ⟨vs, hv1, hv2, hF, r2⟩ := hs.freeze ha hk
      refine ⟨.ref a, h1, k _ _ _ _ (upd_ext hF) r2 ?_⟩
      simp only [repV]
      exact ⟨a, vs, rfl, upd_same, hv2.mon (upd_ext hF)⟩
    · cases he
  · cases he
end
end Iv

set_option Elab.async false
set_option linter.all false
set_option maxRecDepth 100000
/-! IvI: built-ins by name. -/
namespace Iv
open PySem L2 PySem.Spec PyProof.Rows
theorem _root_.PySem.W.call_lcm_any {prog : Program} {w : World} {A : Around} {E : Value → Shared → Prop} {s : Shared} {Q : Value → Shared → Prop} {a b : Int} {t u : Tok} (h1 : (max 1 a.natAbs).log2 < 13000) (h2 : (max a.natAbs b.natAbs).log2 < 13000)
    (hsz : ((((Nat.lcm 1 a.natAbs).lcm b.natAbs : Nat) : Int)).natAbs.log2 < bitsLine) (h : Q (.int (((Nat.lcm 1 a.natAbs).lcm b.natAbs : Nat) : Int) s.toks) { s with toks := s.toks + 1 }) :
    wpAny (model prog w) A (call (.builtin "math.lcm") [.int a t, .int b u]) Q E s :=
  PySem.call_function_meets PySem.W.MGF.kind_lcm PySem.W.MGF.plain_lcm PySem.W.MGF.entry_lcm (PySem.W.MGF.args_lcm _ _) (PySem.W.mg_run_lcm a t b u (by omega) (by omega) hsz).meets h
section
variable {P : Pm} {n : Nat} {c : Sc} {X : Cx} {U : Hp}

def Blt.name : Blt → String
  | .len => "len" | .int => "int" | .str => "str" | .abs => "abs" | .max2 => "max" | .min2 => "min" | .tuple => "tuple" | .list => "list" | .divmod => "divmod"
  | .gcd => "gcd" | .lcm => "lcm" | .isi _ => "isinstance" | .ist _ => "isinstance"
def Blt.val : Blt → Value
  | .len => .builtin "len" | .int => .type "int" | .str => .type "str" | .abs => .builtin "abs" | .max2 => .builtin "max" | .min2 => .builtin "min" | .tuple => .type "tuple" | .list => .type "list" | .divmod => .builtin "divmod"
  | .gcd => .builtin "math.gcd" | .lcm => .builtin "math.lcm" | .isi _ => .builtin "isinstance" | .ist _ => .builtin "isinstance"
def rBlt (P : Pm) (n : Nat) (f : Blt) : List V → Hp → VK → Prop := fun xs H Q => ∃ U F m S ds, RS P U F m S H ∧ repL P F m ds xs ∧ rOut P U (bltD (orc P.G n) f ds S) F m Q

theorem rep1 {F m} {d : DV} {xs : List V} (h : repL P F m [d] xs) : ∃ x, xs = [x] ∧ repV P F m d x := h.one
theorem room1 (fa : Facts P n X) : ∀ j, n = j + 1 → Room j X.A.in1 := fun j e => by
  have h := fa.room
  rw [e] at h
  exact h.in1
theorem room2 (fa : Facts P n X) : ∀ j, n = j + 2 → Room j X.A.in1.in1 := fun j e => by
  have h := fa.room
  rw [e] at h
  exact Room.in1 (Room.in1 h)
theorem lenV_of {F m S H} {d : DV} {v : V} {O : Orc} {k : Int} {S' : Store} (fa : Facts P n X) (hs : RS P U F m S H) (h : repV P F m d v) (hl : lenD O d S = some (.int k, S')) (hob : ∀ c0 ds, d ≠ .obj c0 ds) : S' = S ∧ ∃ n : Nat, k = n ∧ LenV X.K v H n := by
  unfold lenD at hl
  split at hl
  · cases hl
    simp only [repV] at h
    obtain ⟨a, vs, rfl, h1, h2⟩ := h
    exact ⟨rfl, _, rfl, .inr ⟨vs, fa.hK ▸ SqT.mon hs.sub h1, h2.len⟩⟩
  · cases hl
    simp only [repV] at h
    obtain ⟨a, vs, rfl, h1, h2⟩ := h
    exact ⟨rfl, _, rfl, .inl ⟨vs, .of (hs.sub _ _ h1), h2.len⟩⟩
  · cases hl
    simp only [repV] at h
    obtain ⟨a, vs, rfl, h1, h2⟩ := h
    exact ⟨rfl, _, rfl, .inl ⟨vs, fa.hK ▸ SqL.mon hs.sub h1, h2.len⟩⟩
  · split at hl
    · rename_i hz
      cases hl
      rw [rep_str h]
      exact ⟨rfl, _, rfl, by show (SS _).length ≤ sizeLine ∧ _ = (SS _).length; rw [SS_len, size_line]; exact ⟨hz, rfl⟩⟩
    · cases hl
  · split at hl
    · rename_i ds hk
      cases hl
      obtain ⟨a, vs, rfl, _, h1, h2⟩ := ref_lst hs h hk
      exact ⟨rfl, _, rfl, .inl ⟨vs, .of h1, h2.len⟩⟩
    · cases hl
  · exact absurd rfl (hob _ _)
  · cases hl

theorem lenD_int {O : Orc} {d r : DV} {S S' : Store} (h : lenD O d S = some (r, S')) : ∃ k, r = .int k := by
  unfold lenD at h
  split at h <;> (try split at h) <;> (try split at h) <;> first | (cases h; exact ⟨_, rfl⟩) | cases h

theorem call_len_D (fa : Facts P n X) : CallR X (.builtin "len") (rBlt P n .len) := by
  intro pins s σ H xs us Q I r ⟨U, F, m, S, ds, hs, hr, d, S', hv, k⟩
  simp only [bltD] at hv
  split at hv
  · rename_i d0
    obtain ⟨x, rfl, hx⟩ := rep1 hr
    by_cases hob : ∃ c0 es, d0 = DV.obj c0 es
    · obtain ⟨c0, es, rfl⟩ := hob
      simp only [lenD] at hv
      split at hv
      · rename_i k1 S1 h1
        split at hv
        · rename_i hb
          cases hv
          obtain ⟨fn, hG⟩ : ∃ fn, P.G.fn (c0, "__len__") = some fn := by
            obtain ⟨j, _, h2⟩ := orc_low h1
            exact orc_fn h2
          obtain ⟨f, hf⟩ := fa.fns _ _ hG
          have hx' := hx
          obtain ⟨a, dx, fs, rfl, ha, _⟩ := obj_ins hs hx
          obtain ⟨u, rfl, ru⟩ := vals1 r
          cases ru
          obtain ⟨mA, J, _⟩ := ins_get I.hok ha
          obtain ⟨od, J, _⟩ := J.look
          obtain ⟨mm, hF⟩ := I.fr
          rcases id hf.loc with ⟨h0, _⟩ | ⟨_, hcl, hm⟩
          · simp only at h0
            subst h0
            rw [fa.emp _ (by simp [dunNames])] at hG; cases hG
          · refine PySem.W.len_K hF I.ok.mod.kin J hm.at_ hm.fn ?_
            refine thn (call_low fa (A := X.A.in1) rfl (lv := 1) (room1 fa) hf (us := [.ref a]) I hs (repL.cons hx' .nil) (.cons rfl .nil) hG h1 (Q := fun v H' => v = .int k1 ∧ Q (.int k1) H') (fun F' m' v H' x1 r1 p1 => ?_)) fun u s' hq => ?_
            · rw [rep_int p1]
              exact ⟨rfl, k F' m' _ H' x1 r1 mk_int⟩
            · obtain ⟨z, H', I', rz, ez, q⟩ := hq
              subst ez
              obtain ⟨t, rfl⟩ := rz
              exact ⟨⟨hb.1, by omega⟩, .int k1, H', I'.tok _, ⟨_, rfl⟩, q⟩
        · cases hv
      · cases hv
    · obtain ⟨kk, rfl⟩ := lenD_int hv
      obtain ⟨rfl, n1, rfl, hl⟩ := lenV_of fa hs hx hv (fun c0 es e => hob ⟨c0, es, e⟩)
      exact call_len pins s σ H _ us Q I r ⟨x, n1, rfl, hl, k _ _ _ _ .rfl' hs mk_int⟩
  · cases hv
theorem call_int_D : CallR X (.type "int") (rBlt P n .int) := by
  intro pins s σ H xs us Q I r ⟨U, F, m, S, ds, hs, hr, d, S', hv, k⟩
  simp only [bltD] at hv
  split at hv
  · cases hv
    obtain ⟨x, rfl, hx⟩ := rep1 hr
    rw [rep_int hx] at r
    exact call_int1 pins s σ H _ us Q I r (.inl ⟨_, rfl, k _ _ _ _ .rfl' hs mk_int⟩)
  · cases hv
    obtain ⟨x, rfl, hx⟩ := rep1 hr
    rw [rep_bl hx] at r
    exact call_int1 pins s σ H _ us Q I r (.inr ⟨_, rfl, k _ _ _ _ .rfl' hs mk_int⟩)
  · cases hv
theorem toString_str (i : Int) : (toString i : String) = toString i := rfl
theorem call_str_D (fa : Facts P n X) : CallR X (.type "str") (rBlt P n .str) := by
  intro pins s σ H xs us Q I r ⟨U, F, m, S, ds, hs, hr, d, S', hv, k⟩
  simp only [bltD] at hv
  split at hv
  · rename_i i
    split at hv
    · rename_i hl
      cases hv
      obtain ⟨x, rfl, hx⟩ := rep1 hr
      rw [rep_int hx] at r
      refine call_str_int pins s σ H _ us Q I r ⟨_, rfl, hl, ?_⟩
      have e : (V.str (Str.ofString (toString i))) = V.str (SS ((toString i).toList.map Char.toNat)) := by rw [Str.ofString_eq_toList]
      rw [e]
      exact k _ _ _ _ .rfl' hs mk_str
    · cases hv
  · rename_i c0 es
    split at hv
    · rename_i y S1 h1
      cases hv
      obtain ⟨fn, hG⟩ : ∃ fn, P.G.fn (c0, "__str__") = some fn := by
        obtain ⟨j, _, h2⟩ := orc_low h1
        exact orc_fn h2
      obtain ⟨f, hf⟩ := fa.fns _ _ hG
      obtain ⟨x, rfl, hx⟩ := rep1 hr
      have hx' := hx
      obtain ⟨a, dx, fs, rfl, ha, _⟩ := obj_ins hs hx
      obtain ⟨u, rfl, ru⟩ := vals1 r
      cases ru
      obtain ⟨mA, J, _⟩ := ins_get I.hok ha
      obtain ⟨od, J, _⟩ := J.look
      rcases id hf.loc with ⟨h0, _⟩ | ⟨_, hcl, hm⟩
      · simp only at h0
        subst h0
        rw [fa.emp _ (by simp [dunNames])] at hG; cases hG
      · have hu : X.A.in1.in1.units < cLine := by
          obtain ⟨j, e, _⟩ := orc_low h1
          exact (room2 fa (j + 1) (by omega)).units0
        refine PySem.W.kso_call hu I.kIn J hm.at_ hm.fn ?_
        refine thn (call_low fa (A := X.A.in1.in1) rfl (lv := 2) (room2 fa) hf (us := [.ref a]) I hs (repL.cons hx' .nil) (.cons rfl .nil) hG h1 (Q := fun v H' => v = .str (SS y) ∧ Q (.str (SS y)) H') (fun F' m' v H' x1 r1 p1 => ?_)) fun u s' hq => ?_
        · rw [rep_str p1]
          exact ⟨rfl, k F' m' _ H' x1 r1 mk_str⟩
        · obtain ⟨z, H', I', rz, ez, q⟩ := hq
          subst ez
          obtain ⟨t, rfl⟩ := rz
          exact ⟨.str (SS y), H', I', ⟨_, rfl⟩, q⟩
    · cases hv
  · cases hv
theorem call_abs_D : CallR X (.builtin "abs") (rBlt P n .abs) := by
  intro pins s σ H xs us Q I r ⟨U, F, m, S, ds, hs, hr, d, S', hv, k⟩
  simp only [bltD] at hv
  split at hv
  · cases hv
    obtain ⟨x, rfl, hx⟩ := rep1 hr
    rw [rep_int hx] at r
    exact call_abs pins s σ H _ us Q I r ⟨_, rfl, k _ _ _ _ .rfl' hs mk_int⟩
  · cases hv
theorem call_max_D (fa : Facts P n X) : CallR X (.builtin "max") (rBlt P n .max2) := by
  intro pins s σ H xs us Q I r ⟨U, F, m, S, ds, hs, hr, d, S', hv, k⟩
  simp only [bltD] at hv
  split at hv
  · cases hv
    obtain ⟨x, y, rfl, hx, hy⟩ := hr.two
    rw [rep_int hx, rep_int hy] at r
    exact call_max2 fa.calm pins s σ H _ us Q I r ⟨_, _, rfl, k _ _ _ _ .rfl' hs mk_int⟩
  · cases hv
theorem call_min_D (fa : Facts P n X) : CallR X (.builtin "min") (rBlt P n .min2) := by
  intro pins s σ H xs us Q I r ⟨U, F, m, S, ds, hs, hr, d, S', hv, k⟩
  simp only [bltD] at hv
  split at hv
  · cases hv
    obtain ⟨x, y, rfl, hx, hy⟩ := hr.two
    rw [rep_int hx, rep_int hy] at r
    exact call_min2 fa.calm pins s σ H _ us Q I r ⟨_, _, rfl, k _ _ _ _ .rfl' hs mk_int⟩
  · cases hv
theorem call_tuple_D (fa : Facts P n X) : CallR X (.type "tuple") (rBlt P n .tuple) := by
  intro pins s σ H xs us Q I r ⟨U, F, m, S, ds, hs, hr, d, S', hv, k⟩
  have new : ∀ {es : List DV} {vs : List V} {p : Addr}, S' = S → d = .tup es → repL P F m es vs → H p = none → Q (.ref p) (upd H p (.tup vs)) := by
    intro es vs p e1 e hr hp
    subst e e1
    refine k _ _ _ _ (upd_ext (hs.fresh hp).1) (hs.frozen hp _) ?_
    simp only [repV]
    exact ⟨p, _, rfl, .inl (.inl upd_same), hr.mon (upd_ext (hs.fresh hp).1)⟩
  simp only [bltD] at hv
  split at hv
  · cases hv
    obtain ⟨x, rfl, hx⟩ := rep1 hr
    simp only [repV] at hx
    obtain ⟨a, vs, rfl, h1, h2⟩ := hx
    exact call_tuple_of pins s σ H _ us Q I r ⟨a, vs, rfl, .inl ⟨.of (hs.sub _ _ h1), fun p hp => new rfl rfl h2 hp⟩⟩
  · cases hv
    obtain ⟨x, rfl, hx⟩ := rep1 hr
    have hx' := hx
    simp only [repV] at hx
    obtain ⟨a, vs, rfl, h1, h2⟩ := hx
    exact call_tuple_of pins s σ H _ us Q I r ⟨a, vs, rfl, .inr ⟨fa.hK ▸ SqT.mon hs.sub h1, k _ _ _ _ .rfl' hs hx'⟩⟩
  · split at hv
    · rename_i es hk
      cases hv
      obtain ⟨x, rfl, hx⟩ := rep1 hr
      obtain ⟨a, vs, rfl, _, h1, h2⟩ := ref_lst hs hx hk
      exact call_tuple_of pins s σ H _ us Q I r ⟨a, vs, rfl, .inl ⟨.of h1, fun p hp => new rfl rfl h2 hp⟩⟩
    · cases hv
  · cases hv
theorem call_list_D (fa : Facts P n X) : CallR X (.type "list") (rBlt P n .list) := by
  intro pins s σ H xs us Q I r ⟨U, F, m, S, ds, hs, hr, d, S', hv, k⟩
  have new : ∀ {es : List DV} {vs : List V} {p : Addr}, S' = S → d = .frl es → repL P F m es vs → H p = none → Q (.ref p) (upd H p (.lst vs)) := by
    intro es vs p e1 e hr hp
    subst e e1
    refine k _ _ _ _ (upd_ext (hs.fresh hp).1) (hs.frozen hp _) ?_
    simp only [repV]
    exact ⟨p, _, rfl, upd_same, hr.mon (upd_ext (hs.fresh hp).1)⟩
  simp only [bltD] at hv
  split at hv
  · cases hv
    obtain ⟨x, rfl, hx⟩ := rep1 hr
    simp only [repV] at hx
    obtain ⟨a, vs, rfl, h1, h2⟩ := hx
    exact call_list_of pins s σ H _ us Q I r ⟨a, vs, rfl, .inl (.of (hs.sub _ _ h1)), fun p hp => new rfl rfl h2 hp⟩
  · cases hv
    obtain ⟨x, rfl, hx⟩ := rep1 hr
    simp only [repV] at hx
    obtain ⟨a, vs, rfl, h1, h2⟩ := hx
    exact call_list_of pins s σ H _ us Q I r ⟨a, vs, rfl, .inr (fa.hK ▸ SqT.mon hs.sub h1), fun p hp => new rfl rfl h2 hp⟩
  · split at hv
    · rename_i es hk
      cases hv
      obtain ⟨x, rfl, hx⟩ := rep1 hr
      obtain ⟨a, vs, rfl, _, h1, h2⟩ := ref_lst hs hx hk
      exact call_list_of pins s σ H _ us Q I r ⟨a, vs, rfl, .inl (.of h1), fun p hp => new rfl rfl h2 hp⟩
    · cases hv
  · cases hv
theorem call_divmod_D : CallR X (.builtin "divmod") (rBlt P n .divmod) := by
  intro pins s σ H xs us Q I r ⟨U, F, m, S, ds, hs, hr, d, S', hv, k⟩
  simp only [bltD] at hv
  split at hv
  · rename_i a b
    split at hv
    · rename_i hc
      cases hv
      obtain ⟨x, y, rfl, hx, hy⟩ := hr.two
      rw [rep_int hx, rep_int hy] at r
      refine call_divmodW pins s σ H _ us Q I r ⟨_, _, rfl, ⟨hc.1, PyProof.noPylong_of_log2 hc.2.2⟩, fun p hp => ?_⟩
      refine k _ _ _ _ (upd_ext (hs.fresh hp).1) (hs.frozen hp _) ?_
      simp only [repV]
      exact ⟨p, _, rfl, .inl (.inl upd_same), .cons mk_int (.cons mk_int .nil)⟩
    · cases hv
  · cases hv
theorem call_gcd_D : CallR X (.builtin "math.gcd") (rBlt P n .gcd) := by
  intro pins s σ H xs us Q I r ⟨U, F, m, S, ds, hs, hr, d, S', hv, k⟩
  simp only [bltD] at hv
  split at hv
  · cases hv
    obtain ⟨x, y, rfl, hx, hy⟩ := hr.two
    rw [rep_int hx, rep_int hy] at r
    exact cr_gcd pins s σ H _ us Q I r ⟨_, _, rfl, k _ _ _ _ .rfl' hs mk_int⟩
  · cases hv
theorem call_lcm_D : CallR X (.builtin "math.lcm") (rBlt P n .lcm) := by
  intro pins s σ H xs us Q I r ⟨U, F, m, S, ds, hs, hr, d, S', hv, k⟩
  simp only [bltD] at hv
  split at hv
  · rename_i a b
    split at hv
    · rename_i hc
      cases hv
      obtain ⟨x, y, rfl, hx, hy⟩ := hr.two
      rw [rep_int hx, rep_int hy] at r
      obtain ⟨t, u, rfl⟩ := Vals.int2 r
      have hm1 : (max 1 a.natAbs).log2 < 13000 := by
        rcases Nat.le_total 1 a.natAbs with h | h
        · rw [Nat.max_eq_right h]; exact hc.1
        · rw [Nat.max_eq_left h]; decide
      have hm2 : (max a.natAbs b.natAbs).log2 < 13000 := by
        rcases Nat.le_total a.natAbs b.natAbs with h | h
        · rw [Nat.max_eq_right h]; exact hc.2
        · rw [Nat.max_eq_left h]; exact hc.1
      have e1 : Nat.lcm 1 a.natAbs = a.natAbs := by simp
      have hsz : ((((Nat.lcm 1 a.natAbs).lcm b.natAbs : Nat) : Int)).natAbs.log2 < bitsLine := by
        rw [e1, Int.natAbs_natCast]
        have h1 : Nat.lcm a.natAbs b.natAbs ≤ a.natAbs * b.natAbs := by
          rw [← Nat.gcd_mul_lcm a.natAbs b.natAbs]
          rcases Nat.eq_zero_or_pos (Nat.gcd a.natAbs b.natAbs) with h0 | h0
          · have ha := Nat.eq_zero_of_gcd_eq_zero_left h0
            rw [ha]; simp
          · exact Nat.le_mul_of_pos_left _ h0
        have l1 : a.natAbs < 2 ^ 13000 := Nat.lt_of_lt_of_le Nat.lt_log2_self (Nat.pow_le_pow_right (by decide) hc.1)
        have l2 : b.natAbs < 2 ^ 13000 := Nat.lt_of_lt_of_le Nat.lt_log2_self (Nat.pow_le_pow_right (by decide) hc.2)
        have l3 : Nat.lcm a.natAbs b.natAbs < 2 ^ 26000 := by
          have : a.natAbs * b.natAbs < 2 ^ 13000 * 2 ^ 13000 := Nat.mul_lt_mul'' l1 l2
          rw [← Nat.pow_add] at this
          exact Nat.lt_of_le_of_lt h1 this
        have eb : bitsLine = 134217728 := by decide
        rcases Nat.eq_zero_or_pos (Nat.lcm a.natAbs b.natAbs) with h0 | h0
        · rw [h0]; decide
        · have := (Nat.log2_lt (Nat.ne_of_gt h0)).mpr l3
          omega
      refine PySem.W.call_lcm_any hm1 hm2 hsz ?_
      rw [e1]
      exact ⟨.int _, H, I.tok _, ⟨_, rfl⟩, k _ _ _ _ .rfl' hs mk_int⟩
    · cases hv
  · cases hv

theorem snd_blt {f : Blt} {as : Es} {p pos : Pos} {e : Expr} {es : List Expr} (hc : CallR X f.val (rBlt P n f)) (hv : ∃ id, f.val = .builtin id ∨ f.val = .type id) (hg : Gl X (st f.name))
    (hm : (X.mg (st f.name) = none ∧ bootBuiltins (st f.name) = some f.val) ∨ X.mg (st f.name) = some f.val ∧ ∃ id, f.val = .builtin id) (hn : st f.name ≠ ("__name__" : Str)) (hdb : (st f.name == ("__debug__" : Str)) = false) (ha : PA X (e :: es) (tEs P n as))
    (he : starEach (e :: es) X.env = (false, eval e X.env) :: starEach es X.env) (hpl : (backTo pos (starEach es X.env)).any (·.1) = false) : PE X (.Call (.Name (st f.name) p) (e :: es) [] pos) (tE P n (.blt f as)) := by
  have key : ∀ σ H Q, tE P n (.blt f as) σ H Q → tCB (rBlt P n f) (tEs P n as) σ H Q := fun σ H Q ⟨U, F, m, en, S, d, S', hn, hs, he, k⟩ => by
    simp only [Ev, evE] at he
    split at he
    · rename_i ds S1 h1
      exact tEs_seq hn hs h1 fun F1 m1 vs H1 x1 n1 r1 p1 => ⟨U, F1, m1, S1, ds, r1, p1, d, S', he, fun F' m' v H' x => k F' m' v H' (x1.trans x)⟩
    · cases he
  obtain ⟨id, hid⟩ := hv
  rcases hm with ⟨hm, hb⟩ | ⟨hm, id', hid'⟩
  · rcases hid with hid | hid
    · rw [hid] at hc hb
      exact PE.imp (pe_callB hc hg hm hb ha hn hdb he hpl) key
    · rw [hid] at hc hb
      exact PE.imp (pe_callTy hc hg hm hb ha hn hdb he hpl) key
  · rw [hid'] at hc hm
    exact PE.imp (pe_callBfun hc hg hm ha hdb he hpl) key

/-! ### isinstance -/
theorem ty_rep (fa : Facts P n X) {F m S H} {d : DV} {v : V} (hs : RS P U F m S H) (h : repV P F m d v) : (∀ T, tyName d = some T → TyX X.K H v (.type T)) ∧ ∀ c0 es, d = .obj c0 es → P.G.cls c0 = true → TyX X.K H v (.ref (P.cl c0)) := by
  refine ⟨fun T hT => ?_, fun c0 es e hcl => ?_⟩
  · cases d <;> simp only [tyName, Option.some.injEq] at hT <;> first | cases hT | skip
    · rw [rep_non h]; exact .base .non
    · rw [rep_bl h]; exact .base (.bl _)
    · rw [rep_int h]; exact .base (.int _)
    · rw [rep_str h]; exact .base (.str _)
    · simp only [repV] at h
      obtain ⟨a, vs, rfl, h1, h2⟩ := h
      have h1 : SqT X.K H a vs := fa.hK ▸ SqT.mon hs.sub h1
      rcases h1 with h1 | ⟨o, its, nn, h1, h3, _⟩
      · rcases h1 with h1 | ⟨o, h1⟩
        · exact .base (.tup h1)
        · exact .fTuple h1
      · exact .kTuple h1 h3
    · simp only [repV] at h
      obtain ⟨a, vs, rfl, h1, h2⟩ := h
      exact .base (.lst (hs.sub _ _ h1))
  · subst e
    obtain ⟨a, dx, fs, rfl, ha, _⟩ := obj_ins hs h
    have hC := fa.cls c0 hcl
    exact .base (.ins ha hC.cl hC.dcls fa.gset.1 fa.gset.2 hC.mobj)
theorem snd_isi (fa : Facts P n X) {c0 : String} {a : E} {ea : Expr} {p q pos : Pos} (hcl : P.G.cls c0 = true) (hg : Gl X "isinstance") (hg2 : Gl X (st c0)) (hdb : (st c0 == ("__debug__" : Str)) = false) (ha : PE X ea (tE P n a))
    (he : starEach [ea, .Name (st c0) q] X.env = (false, eval ea X.env) :: starEach [.Name (st c0) q] X.env) :
    PE X (.Call (.Name "isinstance" p) [ea, .Name (st c0) q] [] pos) (tE P n (.blt (.isi c0) (.cons a .nil))) := by
  have pa : PA X [ea, .Name (st c0) q] (tCons (tE P n a) (tCons (tC (.ref (P.cl c0))) tNil)) := pa_cons ha (pa_cons (pe_glob hg2 (fa.mgc c0 hcl) rfl hdb) pa_nil) he
  refine PE.imp (pe_callB call_isi hg (fa.free "isinstance" (by simp [freeNames])) boot_isinstance pa (by decide) (by decide) he) fun σ H Q ⟨U, F, m, en, S, d, S', hn, hs, hv, k⟩ => ?_
  simp only [Ev, evE, evEs] at hv
  split at hv
  · rename_i ds S1 h1
    split at h1
    · rename_i d0 S2 h2
      cases h1
      simp only [bltD] at hv
      cases hq : isD c0 d0 with
      | none => rw [hq] at hv; cases hv
      | some b =>
        rw [hq] at hv
        cases hv
        refine tE_seq hn hs h2 fun F1 m1 v1 H1 x1 n1 r1 p1 => ?_
        obtain ⟨t1, t2⟩ := ty_rep fa r1 p1
        show rIsi X.K [v1, .ref (P.cl c0)] H1 Q
        have fin : Q (.bl b) H1 := k F1 m1 _ H1 x1 r1 mk_bl
        cases d0 <;> simp only [isD, Option.some.injEq] at hq <;> first | cases hq | skip
        · exact ⟨v1, _, _, _, _, rfl, .own _, t1 _ rfl, (fa.kitT c0 _ hcl (by simp [tyNames])).1, fin⟩
        · exact ⟨v1, _, _, _, _, rfl, .own _, t1 _ rfl, (fa.kitT c0 _ hcl (by simp [tyNames])).1, fin⟩
        · exact ⟨v1, _, _, _, _, rfl, .own _, t1 _ rfl, (fa.kitT c0 _ hcl (by simp [tyNames])).1, fin⟩
        · exact ⟨v1, _, _, _, _, rfl, .own _, t1 _ rfl, (fa.kitT c0 _ hcl (by simp [tyNames])).1, fin⟩
        · exact ⟨v1, _, _, _, _, rfl, .own _, t1 _ rfl, (fa.kitT c0 _ hcl (by simp [tyNames])).1, fin⟩
        · rename_i c1 es
          have hc1 : P.G.cls c1 = true := by
            simp only [repV] at p1
            obtain ⟨_, _, _, _, _, _, _, h⟩ := p1
            exact h
          exact ⟨v1, _, _, _, _, rfl, .own _, t2 c1 es rfl hc1, fa.kit c1 c0 hc1 hcl, fin⟩
        · exact ⟨v1, _, _, _, _, rfl, .own _, t1 _ rfl, (fa.kitT c0 _ hcl (by simp [tyNames])).1, fin⟩
    · cases h1
  · cases hv
end
end Iv

set_option Elab.async false
set_option linter.all false
set_option maxRecDepth 100000
/-! IvJ: what is walked. -/
namespace Iv
open PySem L2 PySem.Spec PyProof.Rows
section
variable {P : Pm} {n : Nat} {c : Sc} {X : Cx} {U : Hp}

theorem snd_ist (fa : Facts P n X) {T : String} {a : E} {ea : Expr} {p q pos : Pos} (hT : T ∈ ["int", "str", "tuple", "list", "bool"]) (hg : Gl X "isinstance") (hg2 : Gl X (st T)) (hm2 : X.mg (st T) = none) (ha : PE X ea (tE P n a))
    (he : starEach [ea, .Name (st T) q] X.env = (false, eval ea X.env) :: starEach [.Name (st T) q] X.env) :
    PE X (.Call (.Name "isinstance" p) [ea, .Name (st T) q] [] pos) (tE P n (.blt (.ist T) (.cons a .nil))) := by
  have hb : bootBuiltins (st T) = some (.type T) := by
    simp only [List.mem_cons, List.not_mem_nil, or_false] at hT
    rcases hT with rfl | rfl | rfl | rfl | rfl <;> decide +kernel
  have hn : st T ≠ ("__name__" : Str) ∧ (st T == ("__debug__" : Str)) = false := by
    simp only [List.mem_cons, List.not_mem_nil, or_false] at hT
    rcases hT with rfl | rfl | rfl | rfl | rfl <;> exact ⟨by decide +kernel, by decide +kernel⟩
  have pa : PA X [ea, .Name (st T) q] (tCons (tE P n a) (tCons (tC (.ty T)) tNil)) := pa_cons ha (pa_cons (pe_bltn hg2 hm2 hb rfl hn.1 hn.2) pa_nil) he
  refine PE.imp (pe_callB call_isi hg (fa.free "isinstance" (by simp [freeNames])) boot_isinstance pa (by decide) (by decide) he) fun σ H Q ⟨U, F, m, en, S, d, S', hn, hs, hv, k⟩ => ?_
  simp only [Ev, evE, evEs] at hv
  split at hv
  · rename_i ds S1 h1
    split at h1
    · rename_i d0 S2 h2
      cases h1
      simp only [bltD] at hv
      cases hq : isT T d0 with
      | none => rw [hq] at hv; cases hv
      | some b =>
        rw [hq] at hv
        cases hv
        refine tE_seq hn hs h2 fun F1 m1 v1 H1 x1 n1 r1 p1 => ?_
        obtain ⟨t1, t2⟩ := ty_rep fa r1 p1
        show rIsi X.K [v1, .ty T] H1 Q
        have fin : Q (.bl b) H1 := k F1 m1 _ H1 x1 r1 mk_bl
        have plain : ∀ N, tyName d0 = some N → (∀ c0 es, d0 ≠ .obj c0 es) → rIsi X.K [v1, .ty T] H1 Q := fun N hN hne => by
          have hq' : some (N == T || (N == "bool" && T == "int")) = some b := by
            rw [← hq]
            unfold isT
            cases d0 <;> first | exact absurd rfl (hne _ _) | (simp only [tyName] at hN; cases hN; rfl) | (simp only [tyName] at hN; cases hN)
          have hb : b = (N == T || (N == "bool" && T == "int")) := by injection hq' with h; exact h.symm
          refine ⟨v1, _, _, _, _, rfl, .ty T, t1 N hN, ?_, fin⟩
          rw [hb]
          refine kit_ty ?_
          simp only [List.mem_cons, List.not_mem_nil, or_false] at hT
          have hN' : N ∈ tyNames := by
            cases d0 <;> simp only [tyName, Option.some.injEq, reduceCtorEq] at hN <;> (subst hN; simp [tyNames])
          simp only [tyNames, List.mem_cons, List.not_mem_nil, or_false] at hN'
          rcases hT with rfl | rfl | rfl | rfl | rfl <;> rcases hN' with rfl | rfl | rfl | rfl | rfl | rfl <;> kernel_rfl
        cases d0
        case obj c1 es =>
          have hc1 : P.G.cls c1 = true := by
            simp only [repV] at p1
            obtain ⟨_, _, _, _, _, _, _, h⟩ := p1
            exact h
          simp only [isT, Option.some.injEq] at hq
          subst hq
          have hT' : T ∈ tyNames := by
            simp only [List.mem_cons, List.not_mem_nil, or_false] at hT
            rcases hT with rfl | rfl | rfl | rfl | rfl <;> simp [tyNames]
          exact ⟨v1, _, _, _, _, rfl, .ty T, t2 c1 es rfl hc1, (fa.kitT c1 T hc1 hT').2, fin⟩
        all_goals first | exact plain _ rfl (fun _ _ h => nomatch h) | (simp [isT, tyName] at hq)
    · cases h1
  · cases hv

/-! ### what is walked -/
def IterR (P : Pm) (F : Hp) (m : List Addr) (g : Guard) (ds : List DV) (J : L2.It) : Prop :=
  ∃ (Gd : Hp → Prop) (Y : Nat → Hp → V → Hp → Prop), Walk J ds.length Gd Y ∧ (∀ U F1 m1 S1 H1, Ext2 F m F1 m1 → RS P U F1 m1 S1 H1 → gOk g S1 → Gd H1) ∧
    ∀ U F1 m1 S1 H1 i x H2, Ext2 F m F1 m1 → RS P U F1 m1 S1 H1 → gOk g S1 → i < ds.length → Y i H1 x H2 → ∃ F2 d, Ext2 F1 m1 F2 m1 ∧ RS P U F2 m1 S1 H2 ∧ ds[i]? = some d ∧ repV P F2 m1 d x
def tI (P : Pm) (n : Nat) (it : It) : TI := fun σ H R => ∃ U F m en S g ds S', Rn P F m en σ ∧ RS P U F m S H ∧ evIt (orc P.G n) P.G it en S = some (g, ds, S') ∧
  ∀ F' m' H' J, Ext2 F m F' m' → RS P U F' m' S' H' → IterR P F' m' g ds J → R J H'
theorem PI.imp {tg e : Expr} {t t' : TI} (h : PI X tg e t) (i : ∀ σ H R, t' σ H R → t σ H R) : PI X tg e t' := ⟨fun pins s σ H R I q => h.run pins s σ H R I (i σ H R q)⟩

theorem yat_rep {F m : _} {ds : List DV} {vs : List V} {F1 m1 S1 H1} {i : Nat} {x : V} {H2 : Hp} (hr : repL P F m ds vs) (x1 : Ext2 F m F1 m1) (r1 : RS P U F1 m1 S1 H1) (hi : i < ds.length) (y : YAt vs i H1 x H2) :
    ∃ F2 d, Ext2 F1 m1 F2 m1 ∧ RS P U F2 m1 S1 H2 ∧ ds[i]? = some d ∧ repV P F2 m1 d x := by
  obtain ⟨rfl, hx⟩ := y
  obtain ⟨d, h1, h2⟩ := hr.get' hx
  exact ⟨F1, d, .rfl', r1, h1, h2.mon x1⟩
/-- a list or a tuple -/
theorem seq_list {F m g ds} {a : Addr} {vs : List V} (fa : Facts P n X) (hr : repL P F m ds vs) (hq : ∀ U F1 m1 S1 H1, Ext2 F m F1 m1 → RS P U F1 m1 S1 H1 → gOk g S1 → SqL X.K H1 a vs) : IterR P F m g ds (Itl X.K a) := by
  refine ⟨_, _, (by rw [hr.len]; exact walk_list (K := X.K) (a := a) (xs := vs)), hq, fun _ F1 m1 S1 H1 i x H2 x1 r1 _ hi y => yat_rep hr x1 r1 hi y⟩
theorem gOk_ref {F m} {k : Nat} {a : Addr} {ds : List DV} {F1 m1 S1 H1} (ha : m[k]? = some a) (x1 : Ext2 F m F1 m1) (r1 : RS P U F1 m1 S1 H1) (hg : gOk (some (k, ds)) S1) : ∃ vs', H1 a = some (.lst vs') ∧ repL P F1 m1 ds vs' := r1.cel k a _ (x1.get ha) hg

theorem iter_seq {tg : Expr} (fa : Facts P n X) {pins σ H s F m S d g ds} {v : V} {u : Value} {R : L2.It → Hp → Prop} (I : Inv X pins σ H s) (hs : RS P U F m S H) (hv : repV P F m d v) (rv : L2.RelV v u) (h : seqOf d S = some (g, ds))
    (k : ∀ J, IterR P F m g ds J → R J H) : wpAny (model X.prog X.w) X.A (pyIter u) (PIE X pins σ tg R) X.xe s := by
  have lst : ∀ {a : Addr} {vs : List V}, u = .ref a → SqL X.K H a vs → IterR P F m g ds (Itl X.K a) → wpAny (model X.prog X.w) X.A (pyIter u) (PIE X pins σ tg R) X.xe s := by
    intro a vs e hq hi
    subst e
    obtain ⟨its, rv, p, hz⟩ := I.list hq
    refine wpAny_pyIter_list p.isList ?_
    refine ⟨s.heap.objs.size, [s.heap.objs.size], _, _, H, rfl, I.kept (t' := s.toks) fun b o e => Heap.get?_push_of_some _ e, turn_list a _, ⟨_, Heap.get?_push_size _ rfl, rfl, rfl⟩, fun b hb => ?_, k _ hi⟩
    have e : b = s.heap.objs.size := by simpa using hb
    subst e
    exact I.fpOk (Nat.le_refl _) (I.hok.fresh (Nat.le_refl _))
  unfold seqOf at h
  split at h
  · cases h
    simp only [repV] at hv
    obtain ⟨a, vs, rfl, h1, h2⟩ := hv
    obtain rfl : u = Value.ref a := rv
    have hq : SqT X.K H a vs := fa.hK ▸ SqT.mon hs.sub h1
    have hit : IterR P F m none ds (Itt X.K a) := by
      refine ⟨_, _, (by rw [h2.len]; exact walk_tup (K := X.K) (a := a) (xs := vs)), fun _ F1 m1 S1 H1 x1 r1 _ => fa.hK ▸ SqT.mon (fun b o e => r1.sub _ _ (x1.f _ _ e)) h1, fun _ F1 m1 S1 H1 i x H2 x1 r1 _ hi y => yat_rep h2 x1 r1 hi y⟩
    obtain ⟨its, rv', p, hz⟩ := I.tuple hq
    refine wpAny_pyIter_tuple (show s.heap.IsTuple a its.toArray from p) ?_
    refine ⟨s.heap.objs.size, [s.heap.objs.size], _, _, H, rfl, I.kept (t' := s.toks) fun b o e => Heap.get?_push_of_some _ e, turn_tuple a _, ⟨_, Heap.get?_push_size _ rfl, rfl, rfl⟩, fun b hb => ?_, k _ hit⟩
    have e : b = s.heap.objs.size := by simpa using hb
    subst e
    exact I.fpOk (Nat.le_refl _) (I.hok.fresh (Nat.le_refl _))
  · cases h
    simp only [repV] at hv
    obtain ⟨a, vs, rfl, h1, h2⟩ := hv
    exact lst rv (.of (hs.sub _ _ h1)) (seq_list fa h2 fun _ F1 m1 S1 H1 x1 r1 _ => .of (r1.sub _ _ (x1.f _ _ h1)))
  · cases h
    simp only [repV] at hv
    obtain ⟨a, vs, rfl, h1, h2⟩ := hv
    exact lst rv (fa.hK ▸ SqL.mon hs.sub h1) (seq_list fa h2 fun _ F1 m1 S1 H1 x1 r1 _ => fa.hK ▸ SqL.mon (fun b o e => r1.sub _ _ (x1.f _ _ e)) h1)
  · split at h
    · rename_i kk ds' hk
      cases h
      obtain ⟨a, vs, rfl, ha, h1, h2⟩ := ref_lst hs hv hk
      refine lst rv (.of h1) ⟨fun H => ∃ vs, SqL X.K H a vs ∧ vs.length = ds.length, fun i H x H' => H' = H ∧ ∀ vs, SqL X.K H a vs → vs[i]? = some x, ⟨fun i H hi ⟨vs, hq, hl⟩ => ?_, fun H ⟨vs, hq, hl⟩ => ⟨vs, hq, by omega⟩, fun i H x H' _ _ y => y⟩, fun _ F1 m1 S1 H1 x1 r1 hg => ?_, fun _ F1 m1 S1 H1 i x H2 x1 r1 hg hi y => ?_⟩
      · exact ⟨vs, vs[i]'(by omega), hq, by simp⟩
      · obtain ⟨vs', e1, e2⟩ := gOk_ref ha x1 r1 hg
        exact ⟨vs', .of e1, e2.len.symm⟩
      · obtain ⟨vs', e1, e2⟩ := gOk_ref ha x1 r1 hg
        obtain ⟨rfl, hy⟩ := y
        obtain ⟨d, g1, g2⟩ := e2.get' (hy vs' (.of e1))
        exact ⟨F1, d, .rfl', r1, g1, g2⟩
    · cases h
  · cases h

theorem snd_seq (fa : Facts P n X) {tg : Expr} {e : E} {ee : Expr} (he : PE X ee (tE P n e)) : PI X tg ee (tI P n (.seq e)) := by
  refine ⟨fun pins s σ H R I ⟨U, F, m, en, S, g, ds, S', hn, hs, hv, k⟩ => ?_⟩
  simp only [evIt] at hv
  split at hv
  · rename_i d S1 h1
    split at hv
    · rename_i g1 ds1 h2
      cases hv
      refine thn (he.run pins s σ H (fun x H1 => ∃ F1 m1, Ext2 F m F1 m1 ∧ RS P U F1 m1 S' H1 ∧ repV P F1 m1 d x) I ?_) fun u s1 ⟨x, H1, I1, rx, F1, m1, x1, r1, p1⟩ => ?_
      · exact tE_seq hn hs h1 fun F1 m1 v1 H1 x1 n1 r1 p1 => ⟨F1, m1, x1, r1, p1⟩
      · exact iter_seq fa I1 r1 p1 rx h2 fun J hJ => k F1 m1 H1 J x1 r1 hJ
    · cases hv
  · cases hv
theorem iter_range {F m} {lo : Int} {n1 : Nat} {ds : List DV} (hl : ds.length = n1) (hd : ∀ i, i < n1 → ds[i]? = some (.int (lo + (i : Nat)))) : IterR P F m none ds (Itr lo n1) := by
  subst hl
  exact ⟨_, _, walk_range, fun _ _ _ _ _ _ _ _ => trivial, fun _ F1 m1 S1 H1 i x H2 x1 r1 _ hi ⟨e, y⟩ => ⟨F1, _, .rfl', by rw [e]; exact r1, hd i hi, by rw [y]; exact mk_int⟩⟩
theorem rangeL_len (lo hi : Int) : (rangeL lo hi).length = (hi - lo).toNat := by simp [rangeL]
theorem rangeL_get {lo hi : Int} {i : Nat} (h : i < (hi - lo).toNat) : (rangeL lo hi)[i]? = some (.int (lo + (i : Nat))) := by
  simp [rangeL, h]
theorem rangeD_len (hi lo : Int) : (rangeD hi lo).length = (hi - lo).toNat := by simp [rangeD]
theorem rangeD_get {lo hi : Int} {i : Nat} (h : i < (hi - lo).toNat) : (rangeD hi lo)[i]? = some (.int (hi - (i : Nat))) := by
  simp [rangeD, h]
theorem small.b {i : Int} (h : small i) : -(2 ^ 62) ≤ i ∧ i < 2 ^ 62 := by
  unfold small at h
  omega
theorem snd_range1 (fa : Facts P n X) {tg : Expr} {a : E} {ea : Expr} {p pos : Pos} (hg : Gl X "range") (ha : PA X [ea] (tEs P n (.cons a .nil))) (hs1 : starEach [ea] X.env = [(false, eval ea X.env)]) :
    PI X tg (.Call (.Name "range" p) [ea] [] pos) (tI P n (.range (.cons a .nil))) := by
  refine PI.imp (pi_range1 hg (fa.free "range" (by simp [freeNames])) ha hs1) fun σ H R ⟨U, F, m, en, S, g, ds, S', hn, hs, hv, k⟩ => ?_
  simp only [evIt] at hv
  split at hv
  · rename_i j S1 h1
    split at hv
    · rename_i hj
      cases hv
      refine tEs_seq hn hs h1 fun F1 m1 vs H1 x1 n1 r1 p1 => ?_
      obtain ⟨v, rfl, hv⟩ := p1.one
      rw [rep_int hv]
      refine ⟨j, rfl, hj.b.1, hj.b.2, k F1 m1 H1 _ x1 r1 (iter_range (by rw [rangeL_len]; simp) fun i hi => by rw [rangeL_get (by simpa using hi)])⟩
    · cases hv
  · rename_i i j S1 h1
    exfalso
    simp only [evEs] at h1
    split at h1 <;> (try split at h1) <;> cases h1
  · rename_i i j S1 h1
    exfalso
    simp only [evEs] at h1
    split at h1 <;> (try split at h1) <;> cases h1
  · cases hv
end
end Iv

set_option Elab.async false
set_option linter.all false
set_option maxRecDepth 100000
/-! IvK: range, reversed, zip. -/
namespace Iv
open PySem L2 PySem.Spec PyProof.Rows
section
variable {P : Pm} {n : Nat} {c : Sc} {X : Cx} {U : Hp}

theorem evEs_two {a b : E} {en : Env} {S : Store} {r : List DV × Store} {O : Orc} {G : Gi} (h : evEs O G (.cons a (.cons b .nil)) en S = some r) : ∃ x y S2, r = ([x, y], S2) := by
  simp only [evEs] at h
  split at h <;> (try split at h) <;> try cases h
  rename_i h1
  split at h1 <;> cases h1
  exact ⟨_, _, _, rfl⟩
theorem snd_range2 (fa : Facts P n X) {tg : Expr} {a b : E} {ea eb : Expr} {p pos : Pos} (hg : Gl X "range") (ha : PA X [ea, eb] (tEs P n (.cons a (.cons b .nil)))) (hs1 : starEach [ea, eb] X.env = [(false, eval ea X.env), (false, eval eb X.env)]) (hs2 : starEach [eb] X.env = [(false, eval eb X.env)]) :
    PI X tg (.Call (.Name "range" p) [ea, eb] [] pos) (tI P n (.range (.cons a (.cons b .nil)))) := by
  refine PI.imp (pi_range2 hg (fa.free "range" (by simp [freeNames])) ha hs1 hs2) fun σ H R ⟨U, F, m, en, S, g, ds, S', hn, hs, hv, k⟩ => ?_
  simp only [evIt] at hv
  split at hv
  · rename_i j S1 h1
    obtain ⟨_, _, _, e⟩ := evEs_two h1
    cases e
  · rename_i i j S1 h1
    split at hv
    · rename_i hj
      cases hv
      refine tEs_seq hn hs h1 fun F1 m1 vs H1 x1 n1 r1 p1 => ?_
      obtain ⟨v, w, rfl, hv, hw⟩ := p1.two
      rw [rep_int hv, rep_int hw]
      exact ⟨i, j, rfl, ⟨hj.1.b.1, hj.1.b.2, hj.2.b.1, hj.2.b.2⟩, k F1 m1 H1 _ x1 r1 (iter_range (rangeL_len _ _) fun i hi => rangeL_get hi)⟩
    · cases hv
  · rename_i i j S1 h1
    obtain ⟨_, _, _, e⟩ := evEs_two h1
    cases e
  · cases hv
theorem evEs_three {a b d : E} {en : Env} {S : Store} {r : List DV × Store} {O : Orc} {G : Gi} (h : evEs O G (.cons a (.cons b (.cons d .nil))) en S = some r) : ∃ x y z S2, r = ([x, y, z], S2) := by
  rw [evEs] at h
  split at h
  · split at h
    · rename_i h1
      obtain ⟨x, y, S2, e⟩ := evEs_two h1
      cases e
      cases h
      exact ⟨_, _, _, _, rfl⟩
    · cases h
  · cases h
theorem snd_range3 (fa : Facts P n X) {tg : Expr} {a b d : E} {ea eb ed : Expr} {p pos : Pos} (hg : Gl X "range") (ha : PA X [ea, eb, ed] (tEs P n (.cons a (.cons b (.cons d .nil))))) (hs1 : starEach [ea, eb, ed] X.env = (false, eval ea X.env) :: starEach [eb, ed] X.env)
    (hpl : (backTo pos (starEach [eb, ed] X.env)).any (·.1) = false) : PI X tg (.Call (.Name "range" p) [ea, eb, ed] [] pos) (tI P n (.range (.cons a (.cons b (.cons d .nil))))) := by
  refine PI.imp (pi_range3 hg (fa.free "range" (by simp [freeNames])) ha hs1 hpl) fun σ H R ⟨U, F, m, en, S, g, ds, S', hn, hs, hv, k⟩ => ?_
  simp only [evIt] at hv
  split at hv
  · rename_i j S1 h1
    obtain ⟨_, _, _, _, e⟩ := evEs_three h1
    cases e
  · rename_i i j S1 h1
    obtain ⟨_, _, _, _, e⟩ := evEs_three h1
    cases e
  · rename_i i j S1 h1
    split at hv
    · rename_i hj
      cases hv
      refine tEs_seq hn hs h1 fun F1 m1 vs H1 x1 n1 r1 p1 => ?_
      obtain ⟨v, r, rfl, hv, hr⟩ := p1.cons_inv
      obtain ⟨w, z, rfl, hw, hz⟩ := hr.two
      rw [rep_int hv, rep_int hw, rep_int hz]
      refine ⟨i, j, -1, (i - j).toNat, rfl, RgC.neg hj.1.b.1 hj.1.b.2 hj.2.b.1 hj.2.b.2, k F1 m1 H1 _ x1 r1 ?_⟩
      have hl := rangeD_len i j
      refine ⟨fun _ => True, YFn fun q => .int (i + (q : Nat) * (-1)), (by rw [hl]; exact walk_rangeC), fun _ _ _ _ _ _ _ _ => trivial, fun _ F1 m1 S1 H1 q x H2 x1 r1 _ hi ⟨e, y⟩ => ⟨F1, _, .rfl', by rw [e]; exact r1, rangeD_get (by rw [← hl]; exact hi), ?_⟩⟩
      rw [y]
      show repV P F1 m1 (DV.int (i - (q : Nat))) (V.int (i + (q : Nat) * (-1 : Int)))
      have : i + (q : Nat) * (-1 : Int) = i - (q : Nat) := by omega
      rw [this]
      exact mk_int
    · cases hv
  · cases hv
theorem snd_rev (fa : Facts P n X) {tg : Expr} {e : E} {ee : Expr} {p pos : Pos} (hg : Gl X "reversed") (he : PE X ee (tE P n e)) (hst : starEach [ee] X.env = (false, eval ee X.env) :: starEach [] X.env) :
    PI X tg (.Call (.Name "reversed" p) [ee] [] pos) (tI P n (.rev e)) := by
  refine PI.imp (RT.pi_revA hg (fa.free "reversed" (by simp [freeNames])) he hst) fun σ H R ⟨U, F, m, en, S, g, ds, S', hn, hs, hv, k⟩ => ?_
  have rev_get : ∀ {F1 m1} {es : List DV} {vs : List V} {i : Nat} {x : V}, repL P F1 m1 es vs → i < es.length → vs[vs.length - 1 - i]? = some x → ∃ d, es.reverse[i]? = some d ∧ repV P F1 m1 d x := by
    intro F1 m1 es vs i x hr hi hx
    obtain ⟨d, h1, h2⟩ := hr.get' hx
    refine ⟨d, ?_, h2⟩
    rw [List.getElem?_reverse hi, hr.len]
    exact h1
  simp only [evIt] at hv
  split at hv
  · rename_i es S1 h1
    cases hv
    refine tE_seq hn hs h1 fun F1 m1 v1 H1 x1 n1 r1 p1 => ?_
    simp only [repV] at p1
    obtain ⟨a, vs, rfl, h2, h3⟩ := p1
    refine ⟨a, vs, rfl, .inl ⟨.of (r1.sub _ _ h2), k F1 m1 H1 _ x1 r1 ?_⟩⟩
    have hl : es.reverse.length = vs.length := by rw [List.length_reverse, h3.len]
    refine ⟨fun H => SqL X.K H a vs, fun i H x H' => H' = H ∧ vs[vs.length - 1 - i]? = some x, (by rw [hl]; exact walk_rev (K := X.K) (a := a) (xs := vs)), fun _ F2 m2 S2 H2 x2 r2 _ => .of (r2.sub _ _ (x2.f _ _ h2)), fun U' F2 m2 S2 H2 i x H3 x2 r2 _ hi ⟨e, y⟩ => ?_⟩
    obtain ⟨d, g1, g2⟩ := rev_get h3 (by simpa using hi) y
    exact ⟨F2, d, .rfl', by rw [e]; exact r2, g1, g2.mon x2⟩
  · rename_i es S1 h1
    cases hv
    refine tE_seq hn hs h1 fun F1 m1 v1 H1 x1 n1 r1 p1 => ?_
    simp only [repV] at p1
    obtain ⟨a, vs, rfl, h2, h3⟩ := p1
    have hq : ∀ U F2 m2 S2 H2, Ext2 F1 m1 F2 m2 → RS P U F2 m2 S2 H2 → SqT X.K H2 a vs := fun U F2 m2 S2 H2 x2 r2 => fa.hK ▸ SqT.mon (fun b o e => r2.sub _ _ (x2.f _ _ e)) h2
    refine ⟨a, vs, rfl, .inr ⟨hq _ F1 m1 _ H1 .rfl' r1, k F1 m1 H1 _ x1 r1 ?_⟩⟩
    have hl : es.reverse.length = vs.length := by rw [List.length_reverse, h3.len]
    refine ⟨fun H => SqT X.K H a vs, fun i H x H' => H' = H ∧ vs[vs.length - 1 - i]? = some x, ⟨fun i H hi hh => ⟨by rw [← hl]; exact hi, vs, vs[vs.length - 1 - i]'(by omega), hh, by simp⟩, fun H hh => by show vs.length ≤ _; omega, fun i H x H' hi hh y => ⟨y.1, y.2 vs hh⟩⟩, fun _ F2 m2 S2 H2 x2 r2 _ => hq _ F2 m2 S2 H2 x2 r2, fun U' F2 m2 S2 H2 i x H3 x2 r2 _ hi ⟨e, y⟩ => ?_⟩
    obtain ⟨d, g1, g2⟩ := rev_get h3 (by simpa using hi) y
    exact ⟨F2, d, .rfl', by rw [e]; exact r2, g1, g2.mon x2⟩
  · cases hv
/-- a new pair of two known data -/
theorem pair_new {F m S H} {T : Addr} {x y : V} {d e : DV} (r : RS P U F m S H) (hT : H T = none) (h1 : repV P F m d x) (h2 : repV P F m e y) : ∃ F2, Ext2 F m F2 m ∧ RS P U F2 m S (upd H T (.tup [x, y])) ∧ repV P F2 m (.tup [d, e]) (.ref T) := by
  refine ⟨_, upd_ext (r.fresh hT).1, r.frozen hT _, ?_⟩
  simp only [repV]
  exact ⟨T, _, rfl, .inl (.inl upd_same), (repL.cons h1 (.cons h2 .nil)).mon (upd_ext (r.fresh hT).1)⟩
theorem snd_zip (fa : Facts P n X) {a b : E} {ea eb : Expr} {p pos tpos : Pos} {elts : List Expr} {kk : Nat} (hg : Gl X "zip") (ha : PA X [ea, eb] (tEs P n (.cons a (.cons b .nil)))) (hst : starEach [ea, eb] X.env = (false, eval ea X.env) :: starEach [eb] X.env)
    (hpl : (backTo pos (starEach [eb] X.env)).any (·.1) = false) : PI X (.Tuple elts kk tpos) (.Call (.Name "zip" p) [ea, eb] [] pos) (tI P n (.zip a b)) := by
  refine PI.imp (RZ.pi_zipA hg (fa.free "zip" (by simp [freeNames])) ha hst hpl) fun σ H R ⟨U, F, m, en, S, g, ds, S', hn, hs, hv, k⟩ => ?_
  simp only [evIt] at hv
  split at hv
  · rename_i d S1 h1
    split at hv
    · rename_i d' S2 h2
      have hes : evEs (orc P.G n) P.G (.cons a (.cons b .nil)) en S = some ([d, d'], S2) := by
        simp only [evEs]
        rw [h1]
        dsimp only
        rw [h2]
      have fin : ∀ {F1 m1} {es es' : List DV} {vs vs' : List V}, repL P F1 m1 es vs → repL P F1 m1 es' vs' → ∀ U F2 m2 S2 H2 i x H3, Ext2 F1 m1 F2 m2 → RS P U F2 m2 S2 H2 → YPair (fun i => vs[i]?) (fun i => vs'[i]?) i H2 x H3 →
          ∃ F3 dd, Ext2 F2 m2 F3 m2 ∧ RS P U F3 m2 S2 H3 ∧ ((es.zip es').map (fun p => DV.tup [p.1, p.2]))[i]? = some dd ∧ repV P F3 m2 dd x := by
        intro F1 m1 es es' vs vs' hr hr' U F2 m2 S2 H2 i x H3 x2 r2 ⟨T, y, z, e1, e2, e3, e4, e5⟩
        obtain ⟨d1, g1, g2⟩ := hr.get' e4
        obtain ⟨d2, g3, g4⟩ := hr'.get' e5
        obtain ⟨F3, x3, r3, p3⟩ := pair_new r2 e2 (g2.mon x2) (g4.mon x2)
        subst e1 e3
        refine ⟨F3, _, x3, r3, ?_, p3⟩
        rw [List.getElem?_map, (List.getElem?_zip_eq_some (z := (d1, d2))).mpr ⟨g1, g3⟩]
        rfl
      split at hv
      · rename_i es es'
        cases hv
        refine tEs_seq hn hs hes fun F1 m1 vs H1 x1 n1 r1 p1 => ?_
        obtain ⟨v, w, rfl, hv, hw⟩ := p1.two
        simp only [repV] at hv hw
        obtain ⟨q, vs, rfl, h4, h5⟩ := hv
        obtain ⟨q', vs', rfl, h6, h7⟩ := hw
        refine ⟨q, q', vs, vs', rfl, .inl ⟨.of (r1.sub _ _ h4), .of (r1.sub _ _ h6), k F1 m1 H1 _ x1 r1 ?_⟩⟩
        refine ⟨fun H => SqL X.K H q vs ∧ SqL X.K H q' vs', YPair (fun i => vs[i]?) (fun i => vs'[i]?), walk_zip (K := X.K) (a := q) (b := q') (xs := vs) (ys := vs') (by simp [h5.len, h7.len]), fun _ F2 m2 S2 H2 x2 r2 _ => ⟨.of (r2.sub _ _ (x2.f _ _ h4)), .of (r2.sub _ _ (x2.f _ _ h6))⟩, fun U' F2 m2 S2 H2 i x H3 x2 r2 _ hi y => fin h5 h7 U' F2 m2 S2 H2 i x H3 x2 r2 y⟩
      · rename_i es es'
        cases hv
        refine tEs_seq hn hs hes fun F1 m1 vs H1 x1 n1 r1 p1 => ?_
        obtain ⟨v, w, rfl, hv, hw⟩ := p1.two
        simp only [repV] at hv hw
        obtain ⟨q, vs, rfl, h4, h5⟩ := hv
        obtain ⟨q', vs', rfl, h6, h7⟩ := hw
        have hq : ∀ U F2 m2 S2 H2, Ext2 F1 m1 F2 m2 → RS P U F2 m2 S2 H2 → SqT X.K H2 q vs ∧ SqT X.K H2 q' vs' := fun U F2 m2 S2 H2 x2 r2 => ⟨fa.hK ▸ SqT.mon (fun b o e => r2.sub _ _ (x2.f _ _ e)) h4, fa.hK ▸ SqT.mon (fun b o e => r2.sub _ _ (x2.f _ _ e)) h6⟩
        obtain ⟨q1, q2⟩ := hq _ F1 m1 _ H1 .rfl' r1
        refine ⟨q, q', vs, vs', rfl, .inr ⟨q1, q2, k F1 m1 H1 _ x1 r1 ?_⟩⟩
        have hl : ((es.zip es').map (fun p => DV.tup [p.1, p.2])).length = min vs.length vs'.length := by simp [h5.len, h7.len]
        refine ⟨fun H => SqT X.K H q vs ∧ SqT X.K H q' vs', YPair (fun i => vs[i]?) (fun i => vs'[i]?), ⟨fun i H hi ⟨g1, g2⟩ => ?_, fun H ⟨g1, g2⟩ => ⟨vs, vs', g1, g2, by rw [hl]; omega⟩, fun i H x H' hi ⟨g1, g2⟩ ⟨T, y, z, e1, e2, e3, e4, e5⟩ => ⟨T, y, z, e1, e2, e3, e4 _ g1, e5 _ g2⟩⟩, fun _ F2 m2 S2 H2 x2 r2 _ => hq _ F2 m2 S2 H2 x2 r2, fun U' F2 m2 S2 H2 i x H3 x2 r2 _ hi y => fin h5 h7 U' F2 m2 S2 H2 i x H3 x2 r2 y⟩
        rw [hl] at hi
        exact ⟨vs, vs', vs[i]'(by omega), vs'[i]'(by omega), g1, g2, by simp, by simp⟩
      · cases hv
    · cases hv
  · cases hv
end
end Iv

set_option Elab.async false
set_option linter.all false
set_option maxRecDepth 100000
/-! IvL: targets, comprehensions. -/
namespace Iv
open PySem L2 PySem.Spec PyProof.Rows
section
variable {P : Pm} {n : Nat} {c : Sc} {X : Cx} {U : Hp}

def setV : List Nat → List V → L2.St → L2.St
  | i :: is, v :: vs, σ => setV is vs (σ.set i (some v))
  | _, _, σ => σ
def tG (K : PySem.W.Frag) : Tg → TG
  | .one i => gName i
  | .many is => fun v σ H Q => ∃ a xs, v = .ref a ∧ SqT K H a xs ∧ xs.length = is.length ∧ Q (setV is xs σ) H
def gNames : List Nat → TGs
  | [] => gNil
  | i :: is => gCons (gName i) (gNames is)
theorem gNames_ok : ∀ {is : List Nat} {vs : List V} {σ : L2.St} {H : Hp} {Q : L2.St → Hp → Prop}, vs.length = is.length → Q (setV is vs σ) H → gNames is vs σ H Q
  | [], [], σ, H, Q, _, h => ⟨rfl, h⟩
  | [], _ :: _, _, _, _, h, _ => by simp at h
  | _ :: _, [], _, _, _, h, _ => by simp at h
  | i :: is, v :: vs, σ, H, Q, hl, h => ⟨v, vs, rfl, gNames_ok (by simpa using hl) h⟩
theorem Rn.setAll {F m} : ∀ {is : List Nat} {ds : List DV} {vs : List V} {en : Env} {σ : L2.St}, Rn P F m en σ → repL P F m ds vs → Rn P F m (Iv.setAll is ds en) (setV is vs σ)
  | [], _, _, _, _, h, _ => by simpa [Iv.setAll, setV] using h
  | _ :: _, [], _, _, _, h, hr => by rw [hr.nil_inv]; simpa [Iv.setAll, setV] using h
  | i :: is, d :: ds, vs, en, σ, h, hr => by
    obtain ⟨v, r, rfl, h1, h2⟩ := hr.cons_inv
    show Rn P F m (Iv.setAll is ds (en.set i (some d))) (setV is r (σ.set i (some v)))
    exact Rn.setAll (h.set i h1) h2
/-- a target is bound -/
theorem tG_ok (fa : Facts P n X) {F m S H} {t : Tg} {d : DV} {v : V} {en en' : Env} {σ : L2.St} {Q : L2.St → Hp → Prop} (hs : RS P U F m S H) (hd : repV P F m d v) (hn : Rn P F m en σ) (hb : bindT t d en = some en')
    (k : ∀ σ', Rn P F m en' σ' → (∀ is, t = .many is → ∃ vs, vs.length = is.length ∧ σ' = setV is vs σ) → (∀ i, t = .one i → ∃ v, σ' = σ.set i (some v)) → Q σ' H) : tG X.K t v σ H Q := by
  cases t with
  | one i =>
    simp only [bindT, Option.some.injEq] at hb
    subst hb
    exact k _ (hn.set i hd) (fun is h => nomatch h) (fun j h => by cases h; exact ⟨v, rfl⟩)
  | many is =>
    unfold bindT at hb
    split at hb
    · rename_i h; cases h
    · rename_i is' ds _ h
      cases h
      split at hb
      · rename_i hl
        cases hb
        simp only [repV] at hd
        obtain ⟨a, vs, rfl, h1, h2⟩ := hd
        refine ⟨a, vs, rfl, fa.hK ▸ SqT.mon hs.sub h1, by rw [← h2.len, hl], k _ (hn.setAll h2) (fun is h => ?_) (fun i h => nomatch h)⟩
        cases h
        exact ⟨vs, by rw [← h2.len, hl], rfl⟩
      · cases hb
    · cases hb

/-- the context of a comprehension's block -/
theorem Facts.blk (fa : Facts P n X) {s : Shared} {H : Hp} {scope : Scope} {cenv : PySem.Env} {fp : List Addr} : Facts P n (X.blk s H scope cenv fp) :=
  ⟨fa.emp, fa.hK, fa.calm, fa.room, fun key fn h => by
    obtain ⟨f, hf⟩ := fa.fns key fn h
    exact ⟨f, hf.loc, hf.fi, hf.ok⟩, fa.cst, fa.free, fa.cls, fa.gset, fa.kit, fa.kitT, fa.sub1, fa.subT, fa.emath, fa.fcl, fa.mgc, fa.inj, fun c f h => ⟨(fa.its c f h).ex, (fa.its c f h).hint, (fa.its c f h).len⟩⟩

/-- the target's slots -/
def Tg.slots : Tg → List Nat
  | .one i => [i]
  | .many is => is
theorem wipe_get {σ : L2.St} {i : Nat} : ∀ {vs : List Nat}, i ∉ vs → (wipe σ vs)[i]? = σ[i]?
  | [], _ => rfl
  | v :: vs, h => by
    simp only [List.mem_cons, not_or] at h
    unfold wipe
    rw [List.getElem?_set_ne (Ne.symm h.1)]
    exact wipe_get h.2
theorem wipe_in {σ : L2.St} {i : Nat} : ∀ {vs : List Nat}, i ∈ vs → i < σ.length → (wipe σ vs)[i]? = some none
  | v :: vs, h, hl => by
    unfold wipe
    by_cases hi : v = i
    · subst hi
      rw [List.getElem?_set_self (by rw [wipe_length]; exact hl)]
    · rw [List.getElem?_set_ne hi]
      rcases List.mem_cons.mp h with h | h
      · exact absurd h.symm hi
      · exact wipe_in h hl
theorem ext_get {α : Type} {l l' : List α} (h : ∀ i : Nat, l[i]? = l'[i]?) : l = l' := List.ext_getElem? h
theorem wipe_set {σ : L2.St} {vs : List Nat} {i : Nat} {v : Option V} (h : i ∈ vs) : wipe (σ.set i v) vs = wipe σ vs := by
  refine ext_get fun j => ?_
  by_cases hj : j ∈ vs
  · by_cases hl : j < σ.length
    · rw [wipe_in hj hl, wipe_in hj (by simpa using hl)]
    · rw [List.getElem?_eq_none (by rw [wipe_length]; simpa using hl), List.getElem?_eq_none (by rw [wipe_length]; simpa using hl)]
  · rw [wipe_get hj, wipe_get hj, List.getElem?_set_ne (fun e : i = j => hj (e ▸ h))]
theorem wipe_idem {σ : L2.St} {vs : List Nat} : wipe (wipe σ vs) vs = wipe σ vs := by
  refine ext_get fun j => ?_
  by_cases hj : j ∈ vs
  · by_cases hl : j < σ.length
    · rw [wipe_in hj hl, wipe_in hj (by rw [wipe_length]; exact hl)]
    · rw [List.getElem?_eq_none (by rw [wipe_length, wipe_length]; simpa using hl), List.getElem?_eq_none (by rw [wipe_length]; simpa using hl)]
  · rw [wipe_get hj]
theorem wipe_setV {vs : List Nat} : ∀ {is : List Nat} {xs : List V} {σ : L2.St}, (∀ i ∈ is, i ∈ vs) → wipe (setV is xs σ) vs = wipe σ vs
  | [], _, _, _ => by simp [setV]
  | _ :: _, [], _, _ => by simp [setV]
  | i :: is, x :: xs, σ, h => by
    show wipe (setV is xs (σ.set i (some x))) vs = wipe σ vs
    rw [wipe_setV fun j hj => h j (List.mem_cons_of_mem _ hj), wipe_set (h i List.mem_cons_self)]
/-- binding the own slots does not see what stood there -/
theorem set_wipe_same {σ : L2.St} {vs : List Nat} {en en' : Env} {F m} {t : Tg} {d : DV} (hn : Rn P F m en σ) (hv : ∀ i, i ∈ vs ↔ i ∈ t.slots) (hb : bindT t d en = some en') : ∃ en2, Rn P F m en2 (wipe σ vs) ∧ bindT t d en2 = some en' := by
  -- the slots emptied in the environment too
  have key : ∀ (vs : List Nat) (en : Env) , ∃ en2 : Env, en2.length = en.length ∧ (∀ i, i ∉ vs → en2[i]? = en[i]?) ∧ ∀ i, i ∈ vs → i < en.length → en2[i]? = some none := by
    intro vs
    induction vs with
    | nil => intro en; exact ⟨en, rfl, fun i _ => rfl, fun i h => nomatch h⟩
    | cons v vs ih =>
      intro en
      obtain ⟨e, h1, h2, h3⟩ := ih en
      refine ⟨e.set v none, by simp [h1], fun i hi => ?_, fun i hi hl => ?_⟩
      · simp only [List.mem_cons, not_or] at hi
        rw [List.getElem?_set_ne (Ne.symm hi.1)]
        exact h2 i hi.2
      · by_cases hv : v = i
        · subst hv; rw [List.getElem?_set_self (by rw [h1]; exact hl)]
        · rw [List.getElem?_set_ne hv]
          rcases List.mem_cons.mp hi with h | h
          · exact absurd h.symm hv
          · exact h3 i h hl
  obtain ⟨en2, g1, g2, g3⟩ := key vs en
  refine ⟨en2, ⟨by rw [g1, wipe_length]; exact hn.len, fun i d' hi => ?_⟩, ?_⟩
  · by_cases hin : i ∈ vs
    · have hl : i < en.length := by rw [← g1]; exact (List.getElem?_eq_some_iff.mp hi).1
      rw [g3 i hin hl] at hi
      cases hi
    · rw [g2 i hin] at hi
      obtain ⟨v, h1, h2⟩ := hn.at_ i d' hi
      exact ⟨v, by rw [wipe_get hin]; exact h1, h2⟩
  · have same : ∀ (is : List Nat) (ds : List DV) (e1 e2 : Env), e1.length = e2.length → is.length = ds.length → (∀ i, i ∉ is → e1[i]? = e2[i]?) → Iv.setAll is ds e1 = Iv.setAll is ds e2 := by
      intro is
      induction is with
      | nil => intro ds e1 e2 hl _ h; simp only [Iv.setAll]; exact ext_get fun i => h i (by simp)
      | cons j is ih =>
        intro ds e1 e2 hl hd h
        cases ds with
        | nil => simp at hd
        | cons x ds =>
          show Iv.setAll is ds (e1.set j (some x)) = Iv.setAll is ds (e2.set j (some x))
          refine ih ds _ _ (by simp [hl]) (by simpa using hd) fun i hi => ?_
          by_cases hj : j = i
          · subst hj
            by_cases hlt : j < e1.length
            · rw [List.getElem?_set_self hlt, List.getElem?_set_self (hl ▸ hlt)]
            · rw [List.getElem?_eq_none (by simpa using hlt), List.getElem?_eq_none (by rw [List.length_set, ← hl]; simpa using hlt)]
          · rw [List.getElem?_set_ne hj, List.getElem?_set_ne hj]
            exact h i (by simp only [List.mem_cons, not_or]; exact ⟨fun e => hj e.symm, hi⟩)
    cases t with
    | one i =>
      simp only [bindT, Option.some.injEq] at hb ⊢
      rw [← hb]
      have := same [i] [d] en2 en g1 rfl fun j hj => g2 j (fun hj' => hj ((hv j).mp hj'))
      simpa [Iv.setAll] using this
    | many is =>
      cases d
      case tup ds =>
        simp only [bindT] at hb ⊢
        split at hb
        · rename_i hl
          cases hb
          rw [if_pos hl, same is ds en2 en g1 hl fun j hj => g2 j (fun hj' => hj ((hv j).mp hj'))]
        · cases hb
      all_goals simp [bindT] at hb
end
end Iv

set_option Elab.async false
set_option linter.all false
set_option maxRecDepth 100000
/-! IvM: comprehensions. -/
namespace Iv
open PySem L2 PySem.Spec PyProof.Rows
section
variable {P : Pm} {n : Nat} {c : Sc} {X : Cx} {U : Hp}

/-- one turn of a comprehension: its test and its element -/
noncomputable def lcStep (P : Pm) (n : Nat) (t : Tg) (cond : Option E) (el : E) (en : Env) : DV → Store → Option (Option DV × Store) := fun d S' => match bindT t d en with
  | some en' => (match cond with
    | none => (match Ev P n el en' S' with | some (x, S2) => some (some x, S2) | none => none)
    | some c => (match Ev P n c en' S' with
      | some (.bl true, S2) => (match Ev P n el en' S2 with | some (x, S3) => some (some x, S3) | none => none)
      | some (.bl false, S2) => some (none, S2)
      | _ => none))
  | none => none
def tIfs (P : Pm) (n : Nat) : Option E → TT
  | none => tYes
  | some c => tT P n c
/-- a fresh list: nobody else knows it -/
def tN (P : Pm) (n : Nat) (e : E) : TE := fun σ H Q => ∃ U F m en S ds S', Rn P F m en σ ∧ RS P U F m S H ∧ Ev P n e en S = some (.frl ds, S') ∧
  ∀ F' m' D vs H', Ext2 F m F' m' → U D = none → RS P (upd U D (.lst vs)) F' m' S' H' → repL P F' m' ds vs → Q (.ref D) H'
/-- it may be taken as frozen -/
theorem ofN {e : E} (fr : ∀ en S r, Ev P n e en S = some r → ∃ ds, r.1 = .frl ds) (σ : L2.St) (H : Hp) (Q : VK) (h : tE P n e σ H Q) : tN P n e σ H Q := by
  obtain ⟨U, F, m, en, S, d, S', hn, hs, hv, k⟩ := h
  obtain ⟨ds, rfl⟩ := fr _ _ _ hv
  refine ⟨U, F, m, en, S, ds, S', hn, hs, hv, fun F' m' D vs H' x hU r p => ?_⟩
  obtain ⟨r3, hF⟩ := r.join hU
  refine k _ _ _ _ (x.trans (upd_ext hF)) r3 ?_
  simp only [repV]
  exact ⟨D, vs, rfl, upd_same, p.mon (upd_ext hF)⟩
/-- or as a new place -/
theorem RS.adopt {F m S H} {p : Addr} {ds : List DV} {vs : List V} (r : RS P (upd U p (.lst vs)) F m S H) (hU : U p = none) (hr : repL P F m ds vs) : RS P U F (m ++ [p]) (S ++ [.lst ds]) H := by
  obtain ⟨hp, hF, hm⟩ := r.un p _ upd_same
  have cases' : ∀ {i : Nat} {a : Addr} {c' : Cell}, (m ++ [p])[i]? = some a → (S ++ [Cell.lst ds])[i]? = some c' → (m[i]? = some a ∧ S[i]? = some c') ∨ (a = p ∧ c' = .lst ds) := by
    intro i a c' h1 h2
    by_cases hi : i < m.length
    · rw [List.getElem?_append_left hi] at h1
      rw [List.getElem?_append_left (r.len ▸ hi)] at h2
      exact .inl ⟨h1, h2⟩
    · have hi' : i = m.length := by
        have := (List.getElem?_eq_some_iff.mp h1).1
        simp at this; omega
      subst hi'
      rw [r.len] at h2
      simp at h1 h2
      exact .inr ⟨h1.symm, h2.symm⟩
  refine ⟨r.sub, ?_, by simp [r.len], fun i a c' h1 h2 h3 => ?_, fun i a c' h1 h2 => ?_, fun a u e => ?_⟩
  · rw [List.nodup_append]
    refine ⟨r.nd, by simp, ?_⟩
    intro a ha b hb e
    simp at hb; subst hb; subst e; exact hm ha
  · rcases cases' h1 h2 with ⟨h1, h2⟩ | ⟨rfl, rfl⟩
    · exact r.liv i a c' h1 h2 h3
    · exact hF
  · rcases cases' h1 h2 with ⟨h1, h2⟩ | ⟨rfl, rfl⟩
    · exact (r.cel i a c' h1 h2).mon app_ext rfl
    · exact ⟨vs, hp, hr.mon app_ext⟩
  · have hb : a ≠ p := ne_of_none e hU
    obtain ⟨g1, g2, g3⟩ := r.un a u (by rw [upd_ne hb]; exact e)
    exact ⟨g1, g2, by simp [g3, hb]⟩
theorem lc_imp (fa : Facts P n X) {t : Tg} {it : It} {cond : Option E} {el : E} {e0 : E} {own : List (Str × Nat)}
    (hown : ∀ i, i ∈ own.map (·.2) ↔ i ∈ t.slots)
    (hev : ∀ en S r, Ev P n e0 en S = some r → ∃ g ds S1 l, evIt (orc P.G n) P.G it en S = some (g, ds, S1) ∧ clen ds = true ∧ lcGo (lcStep P n t cond el en) g ds S1 = some (l, r.2) ∧ r.1 = .frl l) :
    ∀ σ H Q, tN P n e0 σ H Q → tLc (tI P n it) (tG X.K t) (tIfs P n cond) (tE P n el) (own.map (·.2)) σ H Q := by
  rintro σ H Q ⟨U, F, m, en, S, d, S', hn, hs, hv, k⟩
  obtain ⟨g, ds, S1, l, h1, hlen, h2, h3⟩ := hev en S _ hv
  simp only at h2 h3
  have hlen : ds.length ≤ 16777216 := by simpa [clen] using hlen
  refine ⟨U, F, m, en, S, g, ds, S1, hn, hs, h1, fun F1 m1 H1 J x1 r1 hJ => fun D hD => ?_⟩
  obtain ⟨Gd, Y, wk, hGd, hY⟩ := hJ
  have hUD : U D = none := by
    cases q : U D with
    | none => rfl
    | some o => have := (r1.un D o q).1; rw [hD] at this; cases this
  have hn1 := hn.mon x1
  -- the state between two turns
  let W : Nat → Nat → Hp → Prop := fun i M H => M = ds.length - i ∧ i ≤ ds.length ∧ ∃ F2 m2 S2 acc accs rest, Ext2 F1 m1 F2 m2 ∧ RS P (upd U D (.lst acc)) F2 m2 S2 H ∧ repL P F2 m2 accs acc ∧
    lcGo (lcStep P n t cond el en) g (ds.drop i) S2 = some (rest, S') ∧ l = accs ++ rest ∧ acc.length ≤ i
  refine ⟨W, ⟨ds.length, by simp, Nat.zero_le _, F1, m1, S1, [], [], l, .rfl', ?_, .nil, by simpa using h2, rfl, Nat.le_refl _⟩, ?_⟩
  · obtain ⟨hF, hm⟩ := r1.fresh hD
    exact (r1.other hD _).aside upd_same hF hm
  · rintro i M H2 ⟨rfl, hil, F2, m2, S2, acc, accs, rest, x2, r2, p2, h4, h5, hal⟩
    by_cases hlt : i < ds.length
    · right
      rw [List.drop_eq_getElem_cons hlt] at h4
      simp only [lcGo] at h4
      split at h4
      · rename_i hgk
        refine ⟨wk.goes i H2 hlt (hGd _ F2 m2 S2 H2 x2 r2 hgk), fun H' => W (i + 1) (ds.length - (i + 1)) H', fun H' w => ⟨_, by omega, w⟩, fun x H3 y => ?_⟩
        obtain ⟨F3, d0, x3, r3, hd0, p3⟩ := hY _ F2 m2 S2 H2 i x H3 x2 r2 hgk hlt (wk.yields i H2 x H3 hlt (hGd _ F2 m2 S2 H2 x2 r2 hgk) y)
        have hd1 : ds[i] = d0 := by rw [List.getElem?_eq_getElem hlt] at hd0; exact Option.some.inj hd0
        rw [hd1] at h4
        split at h4
        · rename_i o S3 h6
          split at h4
          · rename_i l2 S4 h7
            cases h4
            -- the target
            unfold lcStep at h6
            split at h6
            · rename_i en' hb
              obtain ⟨en2, g1, g2⟩ := set_wipe_same ((hn1.mon x2).mon x3) hown hb
              refine tG_ok fa r3 p3 g1 g2 fun σ' g3 g4 g5 => ⟨?_, ?_⟩
              · cases t with
                | one j =>
                  obtain ⟨v, rfl⟩ := g5 j rfl
                  rw [wipe_set ((hown j).mpr (by simp [Tg.slots])), wipe_idem]
                | many js =>
                  obtain ⟨vs, _, rfl⟩ := g4 js rfl
                  rw [wipe_setV (is := js) (fun j hj => (hown j).mpr hj), wipe_idem]
              · -- the element
                have elem : ∀ {F4 m4 H4 S5 y}, Ext2 F3 m2 F4 m4 → Rn P F4 m4 en' σ' → RS P (upd U D (.lst acc)) F4 m4 S5 H4 → Ev P n el en' S5 = some (y, S3) → o = some y →
                    tE P n el σ' H4 fun y H4 => ∃ acc, H4 D = some (.lst acc) ∧ acc.length < sizeLine ∧ W (i + 1) (ds.length - (i + 1)) (upd H4 D (.lst (acc ++ [y]))) := by
                  intro F4 m4 H4 S5 y x4 n4 r4 hev' ho
                  subst ho
                  refine ⟨_, F4, m4, en', S5, y, S3, n4, r4, hev', fun F5 m5 v H5 x5 r5 p5 => ?_⟩
                  obtain ⟨q1, q2, q3⟩ := r5.un D _ upd_same
                  refine ⟨acc, q1, by rw [size_line]; omega, rfl, hlt, F5, m5, S3, acc ++ [v], accs ++ [y], l2, ((x2.trans x3).trans x4).trans x5, ?_, ?_, h7, by rw [h5]; simp, by simp; omega⟩
                  · have r6 := r5.back (o' := .lst (acc ++ [v])) hUD
                    exact r6.aside upd_same q2 q3
                  · exact (((p2.mon x3).mon x4).mon x5).app (.cons p5 .nil)
                cases cond with
                | none =>
                  simp only at h6
                  simp only [tIfs, tYes, if_true]
                  split at h6
                  · rename_i y S5 h8
                    cases h6
                    exact elem .rfl' g3 r3 h8 rfl
                  · cases h6
                | some cnd =>
                  simp only at h6
                  split at h6
                  · rename_i S5 h8
                    refine tT_seq g3 r3 h8 fun F4 m4 H4 x4 n4 r4 => ?_
                    rw [if_pos rfl]
                    split at h6
                    · rename_i y S6 h9
                      cases h6
                      exact elem x4 n4 r4 h9 rfl
                    · cases h6
                  · rename_i S5 h8
                    cases h6
                    refine tT_seq g3 r3 h8 fun F4 m4 H4 x4 n4 r4 => ?_
                    rw [if_neg Bool.false_ne_true]
                    exact ⟨rfl, hlt, F4, m4, S3, acc, accs, l2, (x2.trans x3).trans x4, r4, (p2.mon x3).mon x4, h7, by rw [h5], by omega⟩
                  · cases h6
            · cases h6
          · cases h4
        · cases h4
      · cases h4
    · left
      have e : i = ds.length := by omega
      subst e
      rw [List.drop_length] at h4
      simp only [lcGo] at h4
      split at h4
      · rename_i hgk
        cases h4
        refine ⟨wk.stops H2 (hGd _ F2 m2 _ H2 x2 r2 hgk), ?_⟩
        rw [List.append_nil] at h5
        cases h3
        subst h5
        exact k _ _ _ _ _ (x1.trans x2) hUD r2 p2
      · cases h4

theorem lc_frl {t : Tg} {it : It} {el : E} : ∀ en S r, Ev P n (.lc t it el) en S = some r → ∃ ds, r.1 = .frl ds := by
  intro en S r h
  simp only [Ev, evE] at h
  split at h
  · split at h
    · cases h
    · split at h
      · cases h; exact ⟨_, rfl⟩
      · cases h
  · cases h
theorem lcIf_frl {t : Tg} {it : It} {cnd el : E} : ∀ en S r, Ev P n (.lcIf t it cnd el) en S = some r → ∃ ds, r.1 = .frl ds := by
  intro en S r h
  simp only [Ev, evE] at h
  split at h
  · split at h
    · cases h
    · split at h
      · cases h; exact ⟨_, rfl⟩
      · cases h
  · cases h
theorem lc_imp1 (fa : Facts P n X) {t : Tg} {it : It} {el : E} {own : List (Str × Nat)} (hown : ∀ i, i ∈ own.map (·.2) ↔ i ∈ t.slots) :
    ∀ σ H Q, tN P n (.lc t it el) σ H Q → tLc (tI P n it) (tG X.K t) (tIfs P n none) (tE P n el) (own.map (·.2)) σ H Q := by
  refine lc_imp fa (cond := none) hown fun en S r h => ?_
  simp only [Ev, evE] at h
  split at h
  · rename_i g ds S1 h1
    split at h
    · cases h
    · rename_i hl
      split at h
      · rename_i l S2 h2
        cases h
        exact ⟨g, ds, S1, l, h1, by simpa using hl, h2, rfl⟩
      · cases h
  · cases h
theorem lc_imp2 (fa : Facts P n X) {t : Tg} {it : It} {cnd el : E} {own : List (Str × Nat)} (hown : ∀ i, i ∈ own.map (·.2) ↔ i ∈ t.slots) :
    ∀ σ H Q, tN P n (.lcIf t it cnd el) σ H Q → tLc (tI P n it) (tG X.K t) (tIfs P n (some cnd)) (tE P n el) (own.map (·.2)) σ H Q := by
  refine lc_imp fa (cond := some cnd) hown fun en S r h => ?_
  simp only [Ev, evE] at h
  split at h
  · rename_i g ds S1 h1
    split at h
    · cases h
    · rename_i hl
      split at h
      · rename_i l S2 h2
        cases h
        exact ⟨g, ds, S1, l, h1, by simpa using hl, h2, rfl⟩
      · cases h
  · cases h
end
end Iv

set_option Elab.async false
set_option linter.all false
set_option maxRecDepth 100000
/-! IvN: statements. -/
namespace Iv
open PySem L2 PySem.Spec PyProof.Rows
section
variable {P : Pm} {n : Nat} {c : Sc} {X : Cx} {U : Hp}

/-- what is wanted behind a statement, by the evaluator's outcome -/
def PostO (P : Pm) (U F : Hp) (m : List Addr) (D : Ends) : Out → Prop
  | .nx en S => ∀ F' m' σ' H', Ext2 F m F' m' → Rn P F' m' en σ' → RS P U F' m' S H' → D.nx σ' H'
  | .brk en S => ∀ F' m' σ' H', Ext2 F m F' m' → Rn P F' m' en σ' → RS P U F' m' S H' → D.bk σ' H'
  | .ct en S => ∀ F' m' σ' H', Ext2 F m F' m' → Rn P F' m' en σ' → RS P U F' m' S H' → D.ct σ' H'
  | .rt d S => ∀ F' m' v H', Ext2 F m F' m' → RS P U F' m' S H' → repV P F' m' d v → D.rt v H'
theorem PostO.mon {F m F' m' D} (x : Ext2 F m F' m') : ∀ {o : Out}, PostO P U F m D o → PostO P U F' m' D o
  | .nx _ _, h => fun F2 m2 σ' H' y => h F2 m2 σ' H' (x.trans y)
  | .brk _ _, h => fun F2 m2 σ' H' y => h F2 m2 σ' H' (x.trans y)
  | .ct _ _, h => fun F2 m2 σ' H' y => h F2 m2 σ' H' (x.trans y)
  | .rt _ _, h => fun F2 m2 v H' y => h F2 m2 v H' (x.trans y)
def tS (P : Pm) (n : Nat) (s : S) : TS := fun D σ H => ∃ U F m en S o, Rn P F m en σ ∧ RS P U F m S H ∧ evS (orc P.G n) P.G s en S = some o ∧ PostO P U F m D o
def tB (P : Pm) (n : Nat) (s : Ss) : TS := fun D σ H => ∃ U F m en S o, Rn P F m en σ ∧ RS P U F m S H ∧ evB (orc P.G n) P.G s en S = some o ∧ PostO P U F m D o

theorem snb_nil : PSs X [] (tB P n .nil) := PSs.imp pss_nil fun D σ H ⟨U, F, m, en, S, o, hn, hs, he, k⟩ => by
  simp only [evB] at he
  cases he
  exact k F m σ H .rfl' hn hs
theorem snb_cons {s : S} {r : Ss} {es : Stmt} {er : List Stmt} (h1 : PS X es (tS P n s)) (h2 : PSs X er (tB P n r)) : PSs X (es :: er) (tB P n (.cons s r)) :=
  PSs.imp (pss_cons h1 h2) fun D σ H ⟨U, F, m, en, S, o, hn, hs, he, k⟩ => by
    simp only [evB] at he
    split at he
    · rename_i en1 S1 h3
      exact ⟨U, F, m, en, S, _, hn, hs, h3, fun F' m' σ' H' x n1 r1 => ⟨U, F', m', en1, S1, o, n1, r1, he, k.mon x⟩⟩
    · rename_i x hne
      refine ⟨U, F, m, en, S, o, hn, hs, he, ?_⟩
      cases o with
      | nx en S => exact absurd he (hne en S)
      | brk en S => exact k
      | ct en S => exact k
      | rt d S => exact k
/-- a docstring, a pass: nothing -/
theorem snb_skip {r : Ss} {es : Stmt} {er : List Stmt} (h1 : PS X es tNext) (h2 : PSs X er (tB P n r)) : PSs X (es :: er) (tB P n r) := pss_cons h1 h2
/-- what stands behind an end is never run -/
theorem snb_last {s : S} {es : Stmt} {er : List Stmt} (h1 : PS X es (tS P n s)) (hs : ∀ en S en' S', evS (orc P.G n) P.G s en S ≠ some (.nx en' S')) : PSs X (es :: er) (tB P n (.cons s .nil)) :=
  PSs.imp (pss_cons h1 pss_never) fun D σ H ⟨U, F, m, en, S, o, hn, hr, he, k⟩ => by
    simp only [evB] at he
    split at he
    · rename_i en1 S1 h3
      exact absurd h3 (hs _ _ _ _)
    · rename_i x hne
      refine ⟨U, F, m, en, S, o, hn, hr, he, ?_⟩
      cases o with
      | nx en S => exact absurd he (hne en S)
      | brk en S => exact k
      | ct en S => exact k
      | rt d S => exact k

/-! ### targets -/
inductive NmsOk (X : Cx) : List Nat → List Expr → Prop where
  | nil : NmsOk X [] []
  | cons {i : Nat} {is : List Nat} {es : List Expr} {x : Str} {p : Pos} (h1 : X.N[i]? = some x) (h2 : Loc X.env.scope x) (h3 : X.fn x = true ∨ X.env.scope.names.lookup x = some .local) (t : NmsOk X is es) : NmsOk X (i :: is) (.Name x p :: es)
theorem pgs_names (hc : X.calm = true) (hN : X.N.Nodup) : ∀ {is : List Nat} {es : List Expr}, NmsOk X is es →
    PGs X es (gNames is) ∧ (assignEach es X.env).length = is.length ∧ (assignEach es X.env).findIdx? (·.1) = none
  | _, _, .nil => ⟨pgs_nil, rfl, rfl⟩
  | _, _, .cons h1 h2 h3 t => by
    obtain ⟨g1, g2, g3⟩ := pgs_names hc hN t
    refine ⟨pgs_cons (pg_name hN h1 h2 h3) g1 rfl, ?_, ?_⟩
    · show ((false, _) :: assignEach _ X.env).length = _
      simp [g2]
    · show ((false, _) :: assignEach _ X.env).findIdx? (·.1) = none
      rw [List.findIdx?_cons]
      simp [g3]
/-- what the text says of a target -/
inductive TgOk (X : Cx) : Tg → Expr → Prop where
  | one {i : Nat} {x : Str} {p : Pos} (h1 : X.N[i]? = some x) (h2 : Loc X.env.scope x) (h3 : X.fn x = true ∨ X.env.scope.names.lookup x = some .local) : TgOk X (.one i) (.Name x p)
  | many {is : List Nat} {es : List Expr} {k : Nat} {p : Pos} (h : NmsOk X is es) : TgOk X (.many is) (.Tuple es k p)
theorem snd_tg (hc : X.calm = true) (hN : X.N.Nodup) {t : Tg} {e : Expr} (h : TgOk X t e) : PG X e (tG X.K t) := by
  cases h with
  | one h1 h2 h3 => exact pg_name hN h1 h2 h3
  | @many is es k p h =>
    obtain ⟨g1, g2, g3⟩ := pgs_names hc hN h
    refine ⟨fun pins s σ H v u Q I r hw => (pg_tup hc g1 g2 g3).run pins s σ H v u Q I r ?_⟩
    obtain ⟨a, xs, rfl, h1, h2, h3⟩ := hw
    exact ⟨a, xs, rfl, h1, h2, gNames_ok h2 h3⟩

/-! ### assignments -/
theorem asg_imp {i : Nat} {e : E} {D : Ends} {σ : L2.St} {H : Hp} (h : tS P n (.asg i e) D σ H) : tAsg (tE P n e) (gName i) D σ H := by
  obtain ⟨U, F, m, en, S, o, hn, hs, he, k⟩ := h
  simp only [evS] at he
  split at he
  · rename_i d S1 h1
    cases he
    exact tE_seq hn hs h1 fun F1 m1 v H1 x1 n1 r1 p1 => k F1 m1 _ H1 x1 (n1.set i p1) r1
  · cases he
theorem new_imp {i : Nat} {e : E} {D : Ends} {σ : L2.St} {H : Hp} (h : tS P n (.new i e) D σ H) : tAsg (tN P n e) (gName i) D σ H := by
  obtain ⟨U, F, m, en, S, o, hn, hs, he, k⟩ := h
  simp only [evS] at he
  split at he
  · rename_i ds S1 h1
    cases he
    refine ⟨U, F, m, en, S, ds, S1, hn, hs, h1, fun F1 m1 L vs H1 x1 hU r1 p1 => ?_⟩
    have xa : Ext2 F1 m1 F1 (m1 ++ [L]) := app_ext
    refine k F1 (m1 ++ [L]) _ H1 (x1.trans xa) ((hn.mon (x1.trans xa)).set i ?_) (r1.adopt hU p1)
    simp only [repV]
    have hl : m1.length = S1.length := r1.len
    exact ⟨L, rfl, by rw [← hl]; simp⟩
  · cases he
theorem sns_asg {i : Nat} {e : E} {x : Str} {ee : Expr} {p pos : Pos} (hN : X.N.Nodup) (h1 : X.N[i]? = some x) (h2 : Loc X.env.scope x) (h3 : X.fn x = true ∨ X.env.scope.names.lookup x = some .local) (he : PE X ee (tE P n e))
    (hs : swapsWith ee (some (.Name x p)) pos.line X.env = pure false) : PS X (.Assign [.Name x p] ee pos) (tS P n (.asg i e)) := PS.imp (ps_set hN h1 h2 he hs h3) fun _ _ _ h => asg_imp h
theorem sns_new {i : Nat} {e : E} {x : Str} {ee : Expr} {p pos : Pos} (hN : X.N.Nodup) (h1 : X.N[i]? = some x) (h2 : Loc X.env.scope x) (h3 : X.fn x = true ∨ X.env.scope.names.lookup x = some .local) (he : PE X ee (tN P n e))
    (hs : swapsWith ee (some (.Name x p)) pos.line X.env = pure false) : PS X (.Assign [.Name x p] ee pos) (tS P n (.new i e)) := PS.imp (ps_set hN h1 h2 he hs h3) fun _ _ _ h => new_imp h
theorem sns_asgT (hc : X.calm = true) {is : List Nat} {e : E} {tg ee : Expr} {pos : Pos} (hg : PG X tg (tG X.K (.many is))) (fa : Facts P n X) (he : PE X ee (tE P n e)) (hs : swapsWithSole [tg] ee pos.line X.env = pure false) (hw : swappedStores [tg] ee X.env = pure none)
    (h1 : (assignEach [tg] X.env).map (·.2) = [assign tg X.env]) : PS X (.Assign [tg] ee pos) (tS P n (.asgT is e)) := PS.imp (ps_asg he hg hs hw h1) fun D σ H ⟨U, F, m, en, S, o, hn, hs, he, k⟩ => by
  simp only [evS] at he
  split at he
  · rename_i d S1 h1
    split at he
    · rename_i en' hb
      cases he
      refine tE_seq hn hs h1 fun F1 m1 v H1 x1 n1 r1 p1 => ?_
      exact tG_ok fa r1 p1 n1 hb fun σ' g1 _ _ => k F1 m1 σ' H1 x1 g1 r1
    · cases he
  · cases he
theorem sns_par (fa : Facts P n X) (hN : X.N.Nodup) {i j : Nat} {a b : E} {x y : Str} {ea eb : Expr} {px py pt pos : Pos} {kt k2 pt2} (hi : X.N[i]? = some x) (hj : X.N[j]? = some y) (hij : i ≠ j)
    (hx : X.env.scope.names.lookup x = some .local) (hy : X.env.scope.names.lookup y = some .local) (ha : PA X [ea, eb] (tEs P n (.cons a (.cons b .nil))))
    (hw : swappedStores [.Tuple [.Name x px, .Name y py] kt pt] (.Tuple [ea, eb] k2 pt2) X.env = pure (some [x, y]))
    (hs : swapsWithSole [.Tuple [.Name x px, .Name y py] kt pt] (.Tuple [ea, eb] k2 pt2) pos.line X.env = pure false) :
    PS X (.Assign [.Tuple [.Name x px, .Name y py] kt pt] (.Tuple [ea, eb] k2 pt2) pos) (tS P n (.par i j a b)) := PS.imp (ps_par fa.calm hN hi hj hij hx hy ha hw hs) fun D σ H ⟨U, F, m, en, S, o, hn, hr, he, k⟩ => by
  simp only [evS] at he
  split at he
  · rename_i d S1 h1
    split at he
    · rename_i d' S2 h2
      cases he
      have hes : evEs (orc P.G n) P.G (.cons a (.cons b .nil)) en S = some ([d, d'], S2) := by simp only [evEs, h1, h2]
      refine tEs_seq hn hr hes fun F1 m1 vs H1 x1 n1 r1 p1 => ?_
      obtain ⟨v, w, rfl, p2, p3⟩ := p1.two
      exact ⟨v, w, rfl, k F1 m1 _ H1 x1 ((n1.set i p2).set j p3) r1⟩
    · cases he
  · cases he
theorem putF_new : ∀ {fs : List (Str × V)} {f : Str} {v : V}, fs.lookup f = none → putF f v fs = fs ++ [(f, v)]
  | [], f, v, _ => by simp [putF]
  | (g, w) :: fs, f, v, h => by
    rw [List.lookup_cons] at h
    split at h
    · cases h
    · rename_i hne
      have : ¬ (g = f) := fun e => by subst e; simp at hne
      have h' := putF_new (v := v) h
      unfold putF
      simp_all
end
end Iv

set_option Elab.async false
set_option linter.all false
set_option maxRecDepth 100000
/-! IvO: statements, the rest. -/
namespace Iv
open PySem L2 PySem.Spec PyProof.Rows
section
variable {P : Pm} {n : Nat} {c : Sc} {X : Cx} {U : Hp}

/-! ### self.f = e -/
theorem sns_fld (fa : Facts P n X) {f : String} {e : E} {ee : Expr} {x0 : Str} {p p' pos : Pos} (hN : X.N[0]? = some x0) (hv : Vis X.env.scope x0) (hd : (x0 == ("__debug__" : Str)) = false) (hcd : (x0 == ("__classdict__" : Str)) = false) (he : PE X ee (tE P n e))
    (hs : swapsWith ee (some (.Attribute (.Name x0 p) (st f) p')) pos.line X.env = pure false) : PS X (.Assign [.Attribute (.Name x0 p) (st f) p'] ee pos) (tS P n (.sfld f e)) :=
  PS.imp (ps_fld (snd_var (P := P) (n := n) hN hv hd hcd) he hs) fun D σ H ⟨U, F, m, en, S, o, hn, hr, hev, k⟩ => by
    simp only [evS] at hev
    split at hev
    · rename_i d S1 h1
      split at hev
      · rename_i k0 h0
        split at hev
        · rename_i c0 fs hk
          split at hev
          · rename_i hc
            cases hev
            obtain ⟨hf, hcl, hlk, hlen⟩ := hc
            refine tE_seq hn hr h1 fun F1 m1 y H1 x1 n1 r1 p1 => ?_
            refine tE_seq (e := .var 0) n1 r1 (d := .ref k0) (S' := S1) (by simp only [Ev, evE, h0]) fun F2 m2 x H2 x2 n2 r2 p2 => ?_
            simp only [repV] at p2
            obtain ⟨a, rfl, ha⟩ := p2
            obtain ⟨dx, vs, g1, g2, g3⟩ := r2.cel k0 a _ ha hk
            have ca := fa.cls c0 hcl
            have hvl : vs.length = fs.length := by have := congrArg List.length g2; simpa using this
            have hnone : vs.lookup (st f) = none := lookup_st (gs := fs) (by rw [g2, List.map_map]; rfl) hlk
            refine ⟨a, P.cl c0, dx, vs, rfl, g1, ca.cl, ca.noat f hf, by omega, ?_⟩
            rw [putF_new hnone]
            refine k F2 m2 σ _ (x1.trans x2) n2 (r2.write ha hk (by simp) ⟨dx, _, upd_same, ?_, ?_⟩)
            · simp [g2]
            · simpa using g3.app (.cons (p1.mon x2) .nil)
          · cases hev
        · cases hev
      · cases hev
    · cases hev

/-! ### o[i] = e -/
theorem sns_item (fa : Facts P n X) {o i e : E} {eo ei ee : Expr} {p pos : Pos} (ho : PE X eo (tE P n o)) (hi : PE X ei (tE P n i)) (he : PE X ee (tE P n e))
    (ha : ∀ v, assign (.Subscript eo ei p) X.env v = (do
      let ov ← holding [v] (eval eo X.env)
      let iv ← holding [v, ov] (eval ei X.env)
      standAt p
      holding [v, ov, iv] (setItem ov iv v)
      release [v, ov, iv] []))
    (hs : swapsWithSole [.Subscript eo ei p] ee pos.line X.env = pure false) (hw : swappedStores [.Subscript eo ei p] ee X.env = pure none)
    (h1 : (assignEach [.Subscript eo ei p] X.env).map (·.2) = [assign (.Subscript eo ei p) X.env]) : PS X (.Assign [.Subscript eo ei p] ee pos) (tS P n (.item o i e)) :=
  PS.imp (ps_asg he (pg_sub ho hi set_list ha) hs hw h1) fun D σ H ⟨U, F, m, en, S, oo, hn, hr, hev, k⟩ => by
    simp only [evS] at hev
    split at hev
    · rename_i d S1 g1
      split at hev
      · rename_i k0 S2 g2
        split at hev
        · rename_i j S3 g3
          split at hev
          · rename_i ds hk
            split at hev
            · rename_i q hq
              cases hev
              refine tE_seq hn hr g1 fun F1 m1 y H1 x1 n1 r1 p1 => ?_
              refine tE_seq n1 r1 g2 fun F2 m2 x H2 x2 n2 r2 p2 => ?_
              refine tE_seq n2 r2 g3 fun F3 m3 w H3 x3 n3 r3 p3 => ?_
              have e3 := rep_int p3; subst e3
              obtain ⟨a, vs, rfl, ha, hH, hvs⟩ := ref_lst r3 (p2.mon x3) hk
              refine ⟨a, vs, j, q, rfl, rfl, hH, by rw [← hvs.len]; exact hq, ?_⟩
              refine k F3 m3 σ _ ((x1.trans x2).trans x3) n3 (r3.write ha hk (by simp) ⟨_, upd_same, ?_⟩)
              exact hvs.set q ((p1.mon x2).mon x3)
            · cases hev
          · cases hev
        · cases hev
      · cases hev
    · cases hev

/-! ### x op= e -/
theorem sns_aug {i : Nat} {op : Bop} {e : E} {x : Str} {ee : Expr} {p pos : Pos} (hN : X.N.Nodup) (h1 : X.N[i]? = some x) (h2 : Loc X.env.scope x) (h3 : X.fn x = true ∨ X.env.scope.names.lookup x = some .local) (he : PE X ee (tE P n e))
    (hop : op = .add ∨ op = .sub) : PS X (.AugAssign (.Name x p) op.op ee pos) (tS P n (.aug i op e)) := by
  have go : ∀ {f : Int → Int → Int} {D : Ends} {σ H}, tS P n (.aug i op e) D σ H → (∀ a b : Int, (op = .add → f a b = a + b) ∧ (op = .sub → f a b = a - b)) → tAug i (tE P n e) (ipI f) D σ H := by
    intro f D σ H ⟨U, F, m, en, S, o, hn, hr, hev, k⟩ hf
    simp only [evS] at hev
    split at hev
    · rename_i a h0
      split at hev
      · rename_i b S1 g1
        obtain ⟨v, hv, pv⟩ := hn.at_ i _ h0
        have ev := rep_int pv; subst ev
        refine ⟨_, hv, tE_seq hn hr g1 fun F1 m1 y H1 x1 n1 r1 p1 => ?_⟩
        have ey := rep_int p1; subst ey
        refine ⟨a, b, rfl, rfl, ?_⟩
        split at hev
        · cases hev
          rw [(hf a b).1 rfl]
          exact k F1 m1 _ H1 x1 (n1.set i mk_int) r1
        · cases hev
          rw [(hf a b).2 rfl]
          exact k F1 m1 _ H1 x1 (n1.set i mk_int) r1
        · cases hev
      · cases hev
    · cases hev
  rcases hop with rfl | rfl
  · exact PS.imp (ps_aug hN h1 h2 he ip_add h3) fun D σ H h => go h fun a b => ⟨fun _ => rfl, fun e => nomatch e⟩
  · exact PS.imp (ps_aug hN h1 h2 he ip_sub h3) fun D σ H h => go h fun a b => ⟨fun e => (nomatch e), fun _ => rfl⟩

theorem sns_ex {e : E} {ee : Expr} {pos : Pos} (he : PE X ee (tE P n e)) (hs : swapsWith ee none pos.line X.env = pure false) : PS X (.Expr ee pos) (tS P n (.ex e)) :=
  PS.imp (ps_expr he hs) fun D σ H ⟨U, F, m, en, S, o, hn, hr, hev, k⟩ => by
    simp only [evS] at hev
    split at hev
    · rename_i d S1 g1
      cases hev
      exact tE_seq hn hr g1 fun F1 m1 y H1 x1 n1 r1 p1 => k F1 m1 σ H1 x1 n1 r1
    · cases hev

/-! ### lists of the store -/
theorem sns_app (fa : Facts P n X) {i : Nat} {e : E} {x : Str} {ee : Expr} {p apos cpos pos : Pos} (hN : X.N[i]? = some x) (hv : Vis X.env.scope x) (hd : (x == ("__debug__" : Str)) = false) (hcd : (x == ("__classdict__" : Str)) = false) (he : PE X ee (tE P n e))
    (hst : starEach [ee] X.env = [(false, eval ee X.env)]) (hline : (apos.endLine == cpos.line) = true) : PS X (.Expr (.Call (.Attribute (.Name x p) "append" apos) [ee] [] cpos) pos) (tS P n (.app i e)) := by
  have ha : PA X [ee] (tEs P n (.cons e .nil)) := snd_cons he snd_nil hst
  refine PS.imp (ps_expr (pe_bm PySem.F.plainAttrs_list PySem.F.slot_list_append PySem.F.type_list_append mt_append (snd_var (P := P) (n := n) hN hv hd hcd) ha rfl (by
    rw [hst]; rfl) hline hst rfl) rfl) fun D σ H ⟨U, F, m, en, S, o, hn, hr, hev, k⟩ => ?_
  simp only [evS] at hev
  split at hev
  · rename_i k0 h0
    split at hev
    · rename_i ds0 hk0
      split at hev
      · rename_i d S1 g1
        split at hev
        · rename_i ds hk
          split at hev
          · rename_i hl
            cases hev
            have hS : evEs (orc P.G n) P.G (.cons e .nil) en S = some ([d], S1) := by simp only [evEs, g1]
            refine tE_seq (e := .var i) hn hr (d := .ref k0) (S' := S) (by simp only [Ev, evE, h0]) fun F1 m1 v H1 x1 n1 r1 p1 => ?_
            obtain ⟨a0, vs0, rfl, _, hH0, _⟩ := ref_lst r1 p1 hk0
            refine ⟨.inl ⟨rfl, _, SqL.of hH0⟩, ?_⟩
            refine tEs_seq n1 r1 hS fun F2 m2 ws H2 x2 n2 r2 p2 => ?_
            obtain ⟨w, rfl, pw⟩ := p2.one
            obtain ⟨a, vs, e1, ha, hH, hvs⟩ := ref_lst r2 (p1.mon x2) hk
            refine ⟨a, vs, w, e1, rfl, hH, by rw [size_line, ← hvs.len]; exact hl, ?_⟩
            exact k F2 m2 σ _ (x1.trans x2) n2 (r2.write ha hk (by simp) ⟨_, upd_same, hvs.app (.cons pw .nil)⟩)
          · cases hev
        · cases hev
      · cases hev
    · cases hev
  · cases hev
theorem sns_pop (fa : Facts P n X) {i : Nat} {x : Str} {p apos cpos pos : Pos} (hN : X.N[i]? = some x) (hv : Vis X.env.scope x) (hd : (x == ("__debug__" : Str)) = false) (hcd : (x == ("__classdict__" : Str)) = false)
    (hline : (apos.endLine == cpos.line) = true) : PS X (.Expr (.Call (.Attribute (.Name x p) "pop" apos) [] [] cpos) pos) (tS P n (.pop i)) := by
  refine PS.imp (ps_expr (pe_bm0 PySem.F.plainAttrs_list PySem.F.slot_list_pop PySem.F.type_list_pop mt_pop (snd_var (P := P) (n := n) hN hv hd hcd) rfl hline) rfl) fun D σ H ⟨U, F, m, en, S, o, hn, hr, hev, k⟩ => ?_
  simp only [evS] at hev
  split at hev
  · rename_i k0 h0
    split at hev
    · rename_i ds hk
      split at hev
      · rename_i hl
        cases hev
        refine tE_seq (e := .var i) hn hr (d := .ref k0) (S' := S) (by simp only [Ev, evE, h0]) fun F1 m1 v H1 x1 n1 r1 p1 => ?_
        obtain ⟨a, vs, rfl, ha, hH, hvs⟩ := ref_lst r1 p1 hk
        have hlen := hvs.len
        have hpos : 0 < ds.length := List.length_pos_iff.mpr hl
        have hlt : vs.length - 1 < vs.length := by omega
        refine ⟨.inl ⟨rfl, _, SqL.of hH⟩, a, vs, vs[vs.length - 1], rfl, rfl, hH, List.getElem?_eq_getElem hlt, ?_⟩
        refine k F1 m1 σ _ x1 n1 (r1.write ha hk (by simp) ⟨_, upd_same, ?_⟩)
        rw [List.dropLast_eq_take, List.dropLast_eq_take, hlen]
        exact hvs.take _
      · cases hev
    · cases hev
  · cases hev
/-- x.pop(0) -/
theorem snd_pop0 (fa : Facts P n X) {i kk : Nat} {x : Str} {p p2 apos cpos : Pos} (hN : X.N[i]? = some x) (hv : Vis X.env.scope x) (hd : (x == ("__debug__" : Str)) = false) (hcd : (x == ("__classdict__" : Str)) = false)
    (hline : (apos.endLine == cpos.line) = true) : PE X (.Call (.Attribute (.Name x p) "pop" apos) [.Constant (.int 0) kk p2] [] cpos) (tE P n (.pop0 i)) := by
  have ha : PA X [.Constant (.int 0) kk p2] (tEs P n (.cons (.cint 0) .nil)) := snd_cons (snd_int (j := 0)) snd_nil rfl
  refine PE.imp (pe_bm PySem.F.plainAttrs_list PySem.F.slot_list_pop PySem.F.type_list_pop mt_popAt (snd_var (P := P) (n := n) hN hv hd hcd) ha rfl rfl hline rfl rfl) fun σ H Q ⟨U, F, m, en, S, d, S', hn, hr, hev, k⟩ => ?_
  simp only [Ev, evE] at hev
  split at hev
  · rename_i k0 h0
    split at hev
    · rename_i d0 ds hk
      cases hev
      refine tE_seq (e := .var i) hn hr (d := .ref k0) (S' := S) (by simp only [Ev, evE, h0]) fun F1 m1 v H1 x1 n1 r1 p1 => ?_
      obtain ⟨a, vs, rfl, ha, hH, hvs⟩ := ref_lst r1 p1 hk
      obtain ⟨w, r, rfl, pw, pr⟩ := hvs.cons_inv
      refine ⟨.inl ⟨rfl, _, SqL.of hH⟩, ?_⟩
      refine tEs_seq n1 r1 (ds := [.int 0]) (S' := S) (by simp only [evEs, evE]) fun F2 m2 ws H2 x2 n2 r2 p2 => ?_
      obtain ⟨z, rfl, pz⟩ := p2.one
      have ez := rep_int pz; subst ez
      obtain ⟨a', vs', e1, ha', hH', hvs'⟩ := ref_lst r2 (p1.mon x2) hk
      obtain ⟨w', r', rfl, pw', pr'⟩ := hvs'.cons_inv
      refine ⟨a', w' :: r', 0, 0, w', e1, rfl, hH', by decide, by decide, ?_, rfl, ?_⟩
      · exact seqIndex_of (by omega) (by simp)
      · refine k F2 m2 _ _ (x1.trans x2) (r2.write ha' hk (by simp) ⟨_, upd_same, ?_⟩) pw'
        simpa using pr'
    · cases hev
  · cases hev

/-! ### if, while, for -/
theorem sns_if {cd : E} {a b : Ss} {ec : Expr} {ea eb : List Stmt} {pos : Pos} (hc : PT X ec (tT P n cd)) (ha : PSs X ea (tB P n a)) (hb : PSs X eb (tB P n b)) : PS X (.If ec ea eb pos) (tS P n (.if_ cd a b)) :=
  PS.imp (ps_if hc ha hb) fun D σ H ⟨U, F, m, en, S, o, hn, hr, hev, k⟩ => by
    simp only [evS] at hev
    split at hev
    · rename_i S1 g1
      refine tT_seq hn hr g1 fun F1 m1 H1 x1 n1 r1 => ?_
      rw [if_pos rfl]
      exact ⟨U, F1, m1, en, S1, o, n1, r1, hev, k.mon x1⟩
    · rename_i S1 g1
      refine tT_seq hn hr g1 fun F1 m1 H1 x1 n1 r1 => ?_
      rw [if_neg Bool.false_ne_true]
      exact ⟨U, F1, m1, en, S1, o, n1, r1, hev, k.mon x1⟩
    · cases hev
def whileK (c : Env → Store → RE) (b : Env → Store → Option Out) : Nat → Env → Store → Option Out
  | 0, _, _ => none
  | k + 1, en, S => match c en S with
    | some (.bl false, S1) => some (.nx en S1)
    | some (.bl true, S1) => (match b en S1 with
      | some (.nx en' S') => whileK c b k en' S'
      | some (.ct en' S') => whileK c b k en' S'
      | some (.brk en' S') => some (.nx en' S')
      | some (.rt d S') => some (.rt d S')
      | none => none)
    | _ => none
theorem whileL_K {c : Env → Store → RE} {b : Env → Store → Option Out} {en : Env} {S : Store} {o : Out} (h : whileL c b en S = some o) : ∃ k, whileK c b k en S = some o := by
  refine whileL.partial_correctness c b (fun en S o => ∃ k, whileK c b k en S = some o) ?_ en S o h
  intro w ih en S o h
  split at h
  · rename_i S1 h1
    cases h
    exact ⟨1, by rw [whileK, h1]⟩
  · rename_i S1 h1
    split at h
    · rename_i en' S' h2
      obtain ⟨k, hk⟩ := ih _ _ _ h
      exact ⟨k + 1, by rw [whileK, h1]; simp only [h2]; exact hk⟩
    · rename_i en' S' h2
      obtain ⟨k, hk⟩ := ih _ _ _ h
      exact ⟨k + 1, by rw [whileK, h1]; simp only [h2]; exact hk⟩
    · rename_i en' S' h2
      cases h
      exact ⟨1, by rw [whileK, h1]; simp only [h2]⟩
    · rename_i d S' h2
      cases h
      exact ⟨1, by rw [whileK, h1]; simp only [h2]⟩
    · cases h
  · cases h
theorem sns_while (hp : PassesOwn (model X.prog X.w) X.A X.env X.xe) {cd : E} {b : Ss} {ec : Expr} {eb : List Stmt} {pos : Pos} (hc : PT X ec (tT P n cd)) (hb : PSs X eb (tB P n b)) : PS X (.While ec eb [] pos) (tS P n (.while_ cd b)) :=
  PS.imp (ps_while hp hc hb) fun D σ H ⟨U, F, m, en, S, o, hn, hr, hev, k⟩ => by
    simp only [evS] at hev
    obtain ⟨K, hK⟩ := whileL_K hev
    refine ⟨fun M σ H => ∃ F' m' en' S', Ext2 F m F' m' ∧ Rn P F' m' en' σ ∧ RS P U F' m' S' H ∧ whileK (evE (orc P.G n) P.G cd) (evB (orc P.G n) P.G b) M en' S' = some o, ⟨K, F, m, en, S, .rfl', hn, hr, hK⟩, ?_⟩
    rintro M σ H ⟨F1, m1, en1, S1, x1, n1, r1, hM⟩
    cases M with
    | zero => cases hM
    | succ M =>
      rw [whileK] at hM
      split at hM
      · rename_i S2 h1
        cases hM
        refine tT_seq n1 r1 h1 fun F2 m2 H2 x2 n2 r2 => ?_
        rw [if_neg Bool.false_ne_true]
        exact k F2 m2 σ H2 (x1.trans x2) n2 r2
      · rename_i S2 h1
        refine tT_seq n1 r1 h1 fun F2 m2 H2 x2 n2 r2 => ?_
        rw [if_pos rfl]
        refine ⟨fun σ' H' => ∃ F' m' en' S', Ext2 F m F' m' ∧ Rn P F' m' en' σ' ∧ RS P U F' m' S' H' ∧ whileK (evE (orc P.G n) P.G cd) (evB (orc P.G n) P.G b) M en' S' = some o, fun σ' H' w => ⟨M, by omega, w⟩, ?_⟩
        split at hM
        · rename_i en' S' h2
          exact ⟨U, F2, m2, en1, S2, _, n2, r2, h2, fun F3 m3 σ3 H3 x3 n3 r3 => ⟨F3, m3, en', S', (x1.trans x2).trans x3, n3, r3, hM⟩⟩
        · rename_i en' S' h2
          exact ⟨U, F2, m2, en1, S2, _, n2, r2, h2, fun F3 m3 σ3 H3 x3 n3 r3 => ⟨F3, m3, en', S', (x1.trans x2).trans x3, n3, r3, hM⟩⟩
        · rename_i en' S' h2
          cases hM
          exact ⟨U, F2, m2, en1, S2, _, n2, r2, h2, fun F3 m3 σ3 H3 x3 n3 r3 => k F3 m3 σ3 H3 ((x1.trans x2).trans x3) n3 r3⟩
        · rename_i d S' h2
          cases hM
          exact ⟨U, F2, m2, en1, S2, _, n2, r2, h2, fun F3 m3 v H3 x3 r3 p3 => k F3 m3 v H3 ((x1.trans x2).trans x3) r3 p3⟩
        · cases hM
      · cases hM
theorem sns_for (hp : PassesOwn (model X.prog X.w) X.A X.env X.xe) (fa : Facts P n X) {t : Tg} {it : It} {b : Ss} {tg iter : Expr} {eb : List Stmt} {pos : Pos} (hi : PI X tg iter (tI P n it)) (hg : PG X tg (tG X.K t)) (hb : PSs X eb (tB P n b))
    (hs : ∀ x, foldedSetIterable iter X.env x = pure x) : PS X (.For tg iter eb [] pos) (tS P n (.for_ t it b)) :=
  PS.imp (ps_for hp fa.calm hi hg hb hs) fun D σ H ⟨U, F, m, en, S, o, hn, hr, hev, k⟩ => by
    simp only [evS] at hev
    split at hev
    · rename_i g ds S1 h1
      refine ⟨U, F, m, en, S, g, ds, S1, hn, hr, h1, fun F1 m1 H1 J x1 r1 hJ => ?_⟩
      obtain ⟨Gd, Y, wk, hGd, hY⟩ := hJ
      let W : Nat → Nat → L2.St → Hp → Prop := fun i M σ H => M = ds.length - i ∧ i ≤ ds.length ∧ ∃ F2 m2 en2 S2, Ext2 F1 m1 F2 m2 ∧ Rn P F2 m2 en2 σ ∧ RS P U F2 m2 S2 H ∧ forL t (evB (orc P.G n) P.G b) g (ds.drop i) en2 S2 = some o
      refine ⟨W, ⟨ds.length, by simp, Nat.zero_le _, F1, m1, en, S1, .rfl', hn.mon x1, r1, by simpa using hev⟩, ?_⟩
      rintro i M σ2 H2 ⟨rfl, hil, F2, m2, en2, S2, x2, n2, r2, h4⟩
      by_cases hlt : i < ds.length
      · right
        rw [List.drop_eq_getElem_cons hlt] at h4
        simp only [forL] at h4
        split at h4
        · rename_i hgk
          refine ⟨wk.goes i H2 hlt (hGd _ F2 m2 S2 H2 x2 r2 hgk), fun σ' H' => W (i + 1) (ds.length - (i + 1)) σ' H', fun σ' H' w => ⟨_, by omega, w⟩, fun x H3 y => ?_⟩
          obtain ⟨F3, d0, x3, r3, hd0, p3⟩ := hY _ F2 m2 S2 H2 i x H3 x2 r2 hgk hlt (wk.yields i H2 x H3 hlt (hGd _ F2 m2 S2 H2 x2 r2 hgk) y)
          have hd1 : ds[i] = d0 := by rw [List.getElem?_eq_getElem hlt] at hd0; exact Option.some.inj hd0
          rw [hd1] at h4
          split at h4
          · rename_i en' hbt
            refine tG_ok fa r3 p3 (n2.mon x3) hbt fun σ' g3 _ _ => ?_
            have x13 := (x1.trans x2).trans x3
            split at h4
            · rename_i en4 S4 h5
              exact ⟨U, F3, m2, en', S2, _, g3, r3, h5, fun F5 m5 σ5 H5 x5 n5 r5 => ⟨rfl, hlt, F5, m5, en4, S4, (x2.trans x3).trans x5, n5, r5, h4⟩⟩
            · rename_i en4 S4 h5
              exact ⟨U, F3, m2, en', S2, _, g3, r3, h5, fun F5 m5 σ5 H5 x5 n5 r5 => ⟨rfl, hlt, F5, m5, en4, S4, (x2.trans x3).trans x5, n5, r5, h4⟩⟩
            · rename_i en4 S4 h5
              cases h4
              exact ⟨U, F3, m2, en', S2, _, g3, r3, h5, fun F5 m5 σ5 H5 x5 n5 r5 => k F5 m5 σ5 H5 (x13.trans x5) n5 r5⟩
            · rename_i d S4 h5
              cases h4
              exact ⟨U, F3, m2, en', S2, _, g3, r3, h5, fun F5 m5 v H5 x5 r5 p5 => k F5 m5 v H5 (x13.trans x5) r5 p5⟩
            · cases h4
          · cases h4
        · cases h4
      · left
        have e : i = ds.length := by omega
        subst e
        rw [List.drop_length] at h4
        simp only [forL] at h4
        split at h4
        · rename_i hgk
          cases h4
          exact ⟨wk.stops H2 (hGd _ F2 m2 _ H2 x2 r2 hgk), k F2 m2 σ2 H2 (x1.trans x2) n2 r2⟩
        · cases h4
    · cases hev

/-! ### ends -/
theorem sns_ret {e : E} {ee : Expr} {pos : Pos} (he : PE X ee (tE P n e)) : PS X (.Return (some ee) pos) (tS P n (.ret e)) :=
  PS.imp (ps_ret he) fun D σ H ⟨U, F, m, en, S, o, hn, hr, hev, k⟩ => by
    simp only [evS] at hev
    split at hev
    · rename_i d S1 g1
      cases hev
      exact ⟨U, F, m, en, S, d, S1, hn, hr, g1, fun F1 m1 v H1 x1 r1 p1 => k F1 m1 v H1 x1 r1 p1⟩
    · cases hev
theorem sns_retN {pos : Pos} : PS X (.Return none pos) (tS P n .retN) :=
  PS.imp ps_retN fun D σ H ⟨U, F, m, en, S, o, hn, hr, hev, k⟩ => by
    simp only [evS] at hev
    cases hev
    exact k F m _ H .rfl' hr mk_non
theorem sns_cont {pos : Pos} : PS X (.Continue pos) (tS P n .cont) :=
  PS.imp ps_continue fun D σ H ⟨U, F, m, en, S, o, hn, hr, hev, k⟩ => by
    simp only [evS] at hev
    cases hev
    exact k F m σ H .rfl' hn hr
theorem sns_brk {pos : Pos} : PS X (.Break pos) (tS P n .brk) :=
  PS.imp ps_break fun D σ H ⟨U, F, m, en, S, o, hn, hr, hev, k⟩ => by
    simp only [evS] at hev
    cases hev
    exact k F m σ H .rfl' hn hr
theorem sns_pass {pos : Pos} : PS X (.Pass pos) (tS P n .pass) :=
  PS.imp ps_pass fun D σ H ⟨U, F, m, en, S, o, hn, hr, hev, k⟩ => by
    simp only [evS] at hev
    cases hev
    exact k F m σ H .rfl' hn hr
theorem sns_never {es : Stmt} : PS X es (tS P n .never) :=
  PS.imp ps_never fun D σ H ⟨U, F, m, en, S, o, hn, hr, hev, k⟩ => by
    simp only [evS] at hev
    cases hev
end
end Iv

set_option Elab.async false
set_option linter.all false
set_option maxRecDepth 100000
/-! IvP: == and != of tuples, lists, own instances: whatever the items' own == does. -/
namespace IvG
open PySem PySem.SeqAt
open AutoSeq1 (wpAny_loadPart')
open MeetsSeq MeetsSeq2 MeetsSeq3 SeqRoads2
section
variable {prog : Program} {w : World} {A : Around} {R : Result → Shared → Prop}

theorem below {e : Nat → Bool} {i : Nat} (h : ∀ j, j < i → e j = true) (hi : e i = true) : ∀ j, j < i + 1 → e j = true := fun j hj => by
  rcases Nat.lt_or_ge j i with h' | h'
  · exact h j h'
  · have : j = i := by omega
    subst this; exact hi
theorem tup_eq (l b : Addr) (items items2 : Array Value) (n n2 : Nat) (dd dd2 : Option Addr) (sl sl2 : Array (Option Value)) (e : Nat → Bool) (I : Nat → Shared → Prop)
    (turn : ∀ i (h1 : i < items.size) (h2 : i < items2.size) s, (∀ j, j < i → e j = true) → I i s → wpAny (model prog w) A.in1 (eqBool items[i] items2[i]) (fun r s' => r = e i ∧ I (i + 1) s') (fun e s' => R (.error e) s') s)
    (fin : ∀ i s, I i s → R (.ok (.ret (.bool ((List.range (min items.size items2.size)).all e && items.size == items2.size)))) s) {s : Shared} (hl1 : s.heap.get? l = some { cls := .type "tuple", dict := dd, data := .seq items n, slots := sl }) (hb1 : s.heap.get? b = some { cls := .type "tuple", dict := dd2, data := .seq items2 n2, slots := sl2 }) (h : I 0 s) :
    wpAny (model prog w) A.in1 (Builtin.«tuple.__eq__» ⟨[.ref l, .ref b], []⟩) (GQ.FinOf prog w A R) (fun e s' => R (.error e) s') s := by
  have f2 := AutoSeq1.sub_tuple_tuple
  have hZ : (items.toList.zip items2.toList).length = min items.size items2.size := by simp
  have h0 := h
  obtain ⟨hp, g, d, tk, os⟩ := s
  wp_walk using wpAny_loadPart' hl1, wpAny_loadPart' hb1, wpAny_forIn_list _ (fun rest b s' => b.1 = none ∧ ∃ i, rest = (items.toList.zip items2.toList).drop i ∧ i ≤ min items.size items2.size ∧ I i s' ∧ (∀ j, j < i → e j = true) ∧ (List.range (min items.size items2.size)).all e = ((List.range (min items.size items2.size)).drop i).all e) _
  case turn =>
    rintro ⟨y, x⟩ rest b s' ⟨hb', i, hz, hi, hI, hT, hA⟩
    have hlt : i < (items.toList.zip items2.toList).length := by
      rcases Nat.lt_or_ge i (items.toList.zip items2.toList).length with h' | h'
      · exact h'
      · rw [List.drop_of_length_le h'] at hz; cases hz
    have hm : i < min items.size items2.size := hZ ▸ hlt
    have h1 : i < items.size := Nat.lt_of_lt_of_le hm (Nat.min_le_left _ _)
    have h2 : i < items2.size := Nat.lt_of_lt_of_le hm (Nat.min_le_right _ _)
    rw [List.drop_eq_getElem_cons hlt] at hz
    injection hz with hyx hrest
    have hy : y = items[i] := by have := congrArg Prod.fst hyx; simpa using this
    have hx : x = items2[i] := by have := congrArg Prod.snd hyx; simpa using this
    subst hy hx
    have hd : (List.range (min items.size items2.size)).drop i = i :: (List.range (min items.size items2.size)).drop (i + 1) := by simp [List.drop_eq_getElem_cons, hm]
    rw [hd, List.all_cons] at hA
    refine wpAny_bind (wpAny_mono (turn i h1 h2 s' hT hI) (fun r s2 q2 => ?_) fun _ _ x => x)
    obtain ⟨hr, q2⟩ := q2
    cases hy : e i with
    | true =>
      rw [hy] at hr hA
      subst hr
      wp_walk
      exact ⟨rfl, i + 1, hrest, hm, q2, below hT hy, by simpa using hA⟩
    | false =>
      rw [hy] at hr hA
      subst hr
      have hR := fin _ _ q2
      rw [hA] at hR
      wp_walk
      simpa using hR
  case fin =>
    rintro ⟨b1, b2⟩ s' ⟨hb', i, hz, hi, hI, hT, hA⟩
    simp only at hb'
    subst hb'
    have hge : min items.size items2.size ≤ i := by
      rcases Nat.lt_or_ge i (items.toList.zip items2.toList).length with h' | h'
      · rw [List.drop_eq_getElem_cons h'] at hz; cases hz
      · exact hZ ▸ h'
    have hR := fin _ _ hI
    rw [hA, List.drop_of_length_le (by simpa using hge)] at hR
    wp_walk
    simpa [Builtin.Tuple.tupleCompareSizes] using hR
  case h =>
    exact ⟨rfl, 0, rfl, Nat.zero_le _, h0, fun j hj => absurd hj (Nat.not_lt_zero _), by simp⟩
theorem tup_ne (l b : Addr) (items items2 : Array Value) (n n2 : Nat) (dd dd2 : Option Addr) (sl sl2 : Array (Option Value)) (e : Nat → Bool) (I : Nat → Shared → Prop)
    (turn : ∀ i (h1 : i < items.size) (h2 : i < items2.size) s, (∀ j, j < i → e j = true) → I i s → wpAny (model prog w) A.in1 (eqBool items[i] items2[i]) (fun r s' => r = e i ∧ I (i + 1) s') (fun e s' => R (.error e) s') s)
    (fin : ∀ i s, I i s → R (.ok (.ret (.bool (!((List.range (min items.size items2.size)).all e && items.size == items2.size))))) s) {s : Shared} (hl1 : s.heap.get? l = some { cls := .type "tuple", dict := dd, data := .seq items n, slots := sl }) (hb1 : s.heap.get? b = some { cls := .type "tuple", dict := dd2, data := .seq items2 n2, slots := sl2 }) (h : I 0 s) :
    wpAny (model prog w) A.in1 (Builtin.«tuple.__ne__» ⟨[.ref l, .ref b], []⟩) (GQ.FinOf prog w A R) (fun e s' => R (.error e) s') s := by
  have f2 := AutoSeq1.sub_tuple_tuple
  have hZ : (items.toList.zip items2.toList).length = min items.size items2.size := by simp
  have h0 := h
  obtain ⟨hp, g, d, tk, os⟩ := s
  wp_walk using wpAny_loadPart' hl1, wpAny_loadPart' hb1, wpAny_forIn_list _ (fun rest b s' => b.1 = none ∧ ∃ i, rest = (items.toList.zip items2.toList).drop i ∧ i ≤ min items.size items2.size ∧ I i s' ∧ (∀ j, j < i → e j = true) ∧ (List.range (min items.size items2.size)).all e = ((List.range (min items.size items2.size)).drop i).all e) _
  case turn =>
    rintro ⟨y, x⟩ rest b s' ⟨hb', i, hz, hi, hI, hT, hA⟩
    have hlt : i < (items.toList.zip items2.toList).length := by
      rcases Nat.lt_or_ge i (items.toList.zip items2.toList).length with h' | h'
      · exact h'
      · rw [List.drop_of_length_le h'] at hz; cases hz
    have hm : i < min items.size items2.size := hZ ▸ hlt
    have h1 : i < items.size := Nat.lt_of_lt_of_le hm (Nat.min_le_left _ _)
    have h2 : i < items2.size := Nat.lt_of_lt_of_le hm (Nat.min_le_right _ _)
    rw [List.drop_eq_getElem_cons hlt] at hz
    injection hz with hyx hrest
    have hy : y = items[i] := by have := congrArg Prod.fst hyx; simpa using this
    have hx : x = items2[i] := by have := congrArg Prod.snd hyx; simpa using this
    subst hy hx
    have hd : (List.range (min items.size items2.size)).drop i = i :: (List.range (min items.size items2.size)).drop (i + 1) := by simp [List.drop_eq_getElem_cons, hm]
    rw [hd, List.all_cons] at hA
    refine wpAny_bind (wpAny_mono (turn i h1 h2 s' hT hI) (fun r s2 q2 => ?_) fun _ _ x => x)
    obtain ⟨hr, q2⟩ := q2
    cases hy : e i with
    | true =>
      rw [hy] at hr hA
      subst hr
      wp_walk
      exact ⟨rfl, i + 1, hrest, hm, q2, below hT hy, by simpa using hA⟩
    | false =>
      rw [hy] at hr hA
      subst hr
      have hR := fin _ _ q2
      rw [hA] at hR
      wp_walk
      simpa using hR
  case fin =>
    rintro ⟨b1, b2⟩ s' ⟨hb', i, hz, hi, hI, hT, hA⟩
    simp only at hb'
    subst hb'
    have hge : min items.size items2.size ≤ i := by
      rcases Nat.lt_or_ge i (items.toList.zip items2.toList).length with h' | h'
      · rw [List.drop_eq_getElem_cons h'] at hz; cases hz
      · exact hZ ▸ h'
    have hR := fin _ _ hI
    rw [hA, List.drop_of_length_le (by simpa using hge)] at hR
    wp_walk
    simpa [Builtin.Tuple.tupleCompareSizes, bne] using hR
  case h =>
    exact ⟨rfl, 0, rfl, Nat.zero_le _, h0, fun j hj => absurd hj (Nat.not_lt_zero _), by simp⟩

/-- at each turn the two lists are read anew: N items each -/
def ListI (prog : Program) (w : World) (A : Around) (E : Value → Shared → Prop) (l b : Addr) (N : Nat) (e : Nat → Bool) (I : Nat → Shared → Prop) : Prop :=
  ∀ i s, I i s → ∃ (items items2 : Array Value) (n n2 : Nat), s.heap.get? l = some { cls := .type "list", data := .seq items n } ∧ s.heap.get? b = some { cls := .type "list", data := .seq items2 n2 } ∧ items.size = N ∧ items2.size = N ∧
    ∀ (h1 : i < items.size) (h2 : i < items2.size), (∀ j, j < i → e j = true) → wpAny (model prog w) A.in1 (eqBool items[i] items2[i]) (fun r s' => r = e i ∧ I (i + 1) s') E s

theorem eq_loop (l b : Addr) (N : Nat) (e : Nat → Bool) (I : Nat → Shared → Prop) (hl : ListI prog w A (fun e s' => R (.error e) s') l b N e I)
    (fin : ∀ i s, I i s → R (.ok (.ret (.bool ((List.range N).all e)))) s) (k : Nat) :
    ∀ i : Nat, N - i = k → i ≤ N → ∀ s, I i s → (∀ j, j < i → e j = true) → (List.range N).all e = ((List.range N).drop i).all e →
      wpAny (model prog w) A.in1 (Builtin.«list.__eq__.loop» ⟨[.ref l, .ref b, rawInt i, rawInt 2], []⟩) (GQ.FinOf prog w A R) (fun e s' => R (.error e) s') s := by
  induction k with
  | zero =>
    intro i hk hi s h hT hA
    obtain ⟨items, items2, n, n2, hl1, hb1, hs1, hs2, _⟩ := hl _ _ h
    have hi' : i = N := by omega
    have hR := fin i s h
    obtain ⟨hp, g, d, tk, os⟩ := s
    wp_walk using wpAny_loadPart' hl1, wpAny_loadPart' hb1
    have hi1 : items[((i : Nat) : Int).toNat]? = none := by simp; omega
    have hi2 : items2[((i : Nat) : Int).toNat]? = none := by simp; omega
    rw [hi1, hi2]
    wp_walk using wpAny_loadPart' hl1, wpAny_loadPart' hb1
    show R (.ok (.ret (.bool (items.size == items2.size)))) _
    rw [hA, List.drop_of_length_le (by simp; omega)] at hR
    rw [hs1, hs2]
    simpa using hR
  | succ k ih =>
    intro i hk hi s h hT hA
    obtain ⟨items, items2, n, n2, hl1, hb1, hs1, hs2, turn⟩ := hl _ _ h
    have hlt : i < items.size := by omega
    have hlt2 : i < items2.size := by omega
    have ht := turn hlt hlt2 hT
    have hd : (List.range N).drop i = i :: (List.range N).drop (i + 1) := by
      rw [List.drop_eq_getElem_cons (by simp; omega)]; simp
    rw [hd, List.all_cons] at hA
    obtain ⟨hp, g, d, tk, os⟩ := s
    wp_walk using wpAny_loadPart' hl1, wpAny_loadPart' hb1
    have hi1 : items[((i : Nat) : Int).toNat]? = some items[i] := by simp [hlt]
    have hi2 : items2[((i : Nat) : Int).toNat]? = some items2[i] := by simp [hlt2]
    have hc : ((i : Int) + 1) = ((i + 1 : Nat) : Int) := by omega
    rw [hi1, hi2]
    refine wpAny_bind (wpAny_mono ht (fun r s2 h2 => ?_) fun _ _ x => x)
    obtain ⟨hr, h2⟩ := h2
    cases hy : e i with
    | true =>
      rw [hy] at hr hA
      subst hr
      have hrec := ih (i + 1) (by omega) (by omega) s2 h2 (below hT hy) (by simpa using hA)
      obtain ⟨hp2, g2, d2, tk2, os2⟩ := s2
      wp_walk
      rw [hc]
      exact ⟨plainId_quiet plain_eq_loop _, codeAny_builtin entry_eq_loop (by
        rw [Around.under_plainId plain_eq_loop _]
        exact hrec)⟩
    | false =>
      rw [hy] at hr hA
      subst hr
      have hR := fin _ _ h2
      rw [hA] at hR
      obtain ⟨items', items2', n', n2', hl1', hb1', hs1', hs2', _⟩ := hl _ _ h2
      obtain ⟨hp2, g2, d2, tk2, os2⟩ := s2
      have hi1' : items'[((i : Nat) : Int).toNat]? = some items'[i] := by
        have : i < items'.size := by omega
        simp [this]
      have hi2' : items2'[((i : Nat) : Int).toNat]? = some items2'[i] := by
        have : i < items2'.size := by omega
        simp [this]
      wp_walk using wpAny_loadPart' hl1', wpAny_loadPart' hb1'
      rw [hi1', hi2']
      wp_walk
      simpa using hR
theorem eq_lst (l b : Addr) (N : Nat) (e : Nat → Bool) (I : Nat → Shared → Prop) (hl : ListI prog w A (fun e s' => R (.error e) s') l b N e I)
    (fin : ∀ i s, I i s → R (.ok (.ret (.bool ((List.range N).all e)))) s) {s : Shared} (h : I 0 s) :
    wpAny (model prog w) A.in1 (Builtin.«list.__eq__» ⟨[.ref l, .ref b], []⟩) (GQ.FinOf prog w A R) (fun e s' => R (.error e) s') s := by
  obtain ⟨items, items2, n, n2, hl1, hb1, hs1, hs2, _⟩ := hl _ _ h
  have hrec := eq_loop (A := A) (R := R) l b N e I hl fin _ 0 rfl (Nat.zero_le _) s h (fun j hj => absurd hj (Nat.not_lt_zero _)) (by simp)
  obtain ⟨hp, g, d, tk, os⟩ := s
  have f3 := AutoSeq1.sub_list_list
  have hne : ¬ (items.size != items2.size) = true := by simp [hs1, hs2]
  wp_walk using wpAny_loadPart' hl1, wpAny_loadPart' hb1
  exact ⟨plainId_quiet plain_eq_loop _, codeAny_builtin entry_eq_loop (by
    rw [Around.under_plainId plain_eq_loop _]
    exact hrec)⟩

theorem ne_loop (l b : Addr) (N : Nat) (e : Nat → Bool) (I : Nat → Shared → Prop) (hl : ListI prog w A (fun e s' => R (.error e) s') l b N e I)
    (fin : ∀ i s, I i s → R (.ok (.ret (.bool (!(List.range N).all e)))) s) (k : Nat) :
    ∀ i : Nat, N - i = k → i ≤ N → ∀ s, I i s → (∀ j, j < i → e j = true) → (List.range N).all e = ((List.range N).drop i).all e →
      wpAny (model prog w) A.in1 (Builtin.«list.__eq__.loop» ⟨[.ref l, .ref b, rawInt i, rawInt 3], []⟩) (GQ.FinOf prog w A R) (fun e s' => R (.error e) s') s := by
  induction k with
  | zero =>
    intro i hk hi s h hT hA
    obtain ⟨items, items2, n, n2, hl1, hb1, hs1, hs2, _⟩ := hl _ _ h
    have hi' : i = N := by omega
    have hR := fin i s h
    obtain ⟨hp, g, d, tk, os⟩ := s
    wp_walk using wpAny_loadPart' hl1, wpAny_loadPart' hb1
    have hi1 : items[((i : Nat) : Int).toNat]? = none := by simp; omega
    have hi2 : items2[((i : Nat) : Int).toNat]? = none := by simp; omega
    rw [hi1, hi2]
    wp_walk using wpAny_loadPart' hl1, wpAny_loadPart' hb1
    show R (.ok (.ret (.bool (items.size != items2.size)))) _
    rw [hA, List.drop_of_length_le (by simp; omega)] at hR
    rw [hs1, hs2]
    simpa using hR
  | succ k ih =>
    intro i hk hi s h hT hA
    obtain ⟨items, items2, n, n2, hl1, hb1, hs1, hs2, turn⟩ := hl _ _ h
    have hlt : i < items.size := by omega
    have hlt2 : i < items2.size := by omega
    have ht := turn hlt hlt2 hT
    have hd : (List.range N).drop i = i :: (List.range N).drop (i + 1) := by
      rw [List.drop_eq_getElem_cons (by simp; omega)]; simp
    rw [hd, List.all_cons] at hA
    obtain ⟨hp, g, d, tk, os⟩ := s
    wp_walk using wpAny_loadPart' hl1, wpAny_loadPart' hb1
    have hi1 : items[((i : Nat) : Int).toNat]? = some items[i] := by simp [hlt]
    have hi2 : items2[((i : Nat) : Int).toNat]? = some items2[i] := by simp [hlt2]
    have hc : ((i : Int) + 1) = ((i + 1 : Nat) : Int) := by omega
    rw [hi1, hi2]
    refine wpAny_bind (wpAny_mono ht (fun r s2 h2 => ?_) fun _ _ x => x)
    obtain ⟨hr, h2⟩ := h2
    cases hy : e i with
    | true =>
      rw [hy] at hr hA
      subst hr
      have hrec := ih (i + 1) (by omega) (by omega) s2 h2 (below hT hy) (by simpa using hA)
      obtain ⟨hp2, g2, d2, tk2, os2⟩ := s2
      wp_walk
      rw [hc]
      exact ⟨plainId_quiet plain_eq_loop _, codeAny_builtin entry_eq_loop (by
        rw [Around.under_plainId plain_eq_loop _]
        exact hrec)⟩
    | false =>
      rw [hy] at hr hA
      subst hr
      have hR := fin _ _ h2
      rw [hA] at hR
      obtain ⟨items', items2', n', n2', hl1', hb1', hs1', hs2', _⟩ := hl _ _ h2
      obtain ⟨hp2, g2, d2, tk2, os2⟩ := s2
      have hi1' : items'[((i : Nat) : Int).toNat]? = some items'[i] := by
        have : i < items'.size := by omega
        simp [this]
      have hi2' : items2'[((i : Nat) : Int).toNat]? = some items2'[i] := by
        have : i < items2'.size := by omega
        simp [this]
      wp_walk using wpAny_loadPart' hl1', wpAny_loadPart' hb1'
      rw [hi1', hi2']
      wp_walk
      simpa using hR
theorem ne_lst (l b : Addr) (N : Nat) (e : Nat → Bool) (I : Nat → Shared → Prop) (hl : ListI prog w A (fun e s' => R (.error e) s') l b N e I)
    (fin : ∀ i s, I i s → R (.ok (.ret (.bool (!(List.range N).all e)))) s) {s : Shared} (h : I 0 s) :
    wpAny (model prog w) A.in1 (Builtin.«list.__ne__» ⟨[.ref l, .ref b], []⟩) (GQ.FinOf prog w A R) (fun e s' => R (.error e) s') s := by
  obtain ⟨items, items2, n, n2, hl1, hb1, hs1, hs2, _⟩ := hl _ _ h
  have hrec := ne_loop (A := A) (R := R) l b N e I hl fin _ 0 rfl (Nat.zero_le _) s h (fun j hj => absurd hj (Nat.not_lt_zero _)) (by simp)
  obtain ⟨hp, g, d, tk, os⟩ := s
  have f3 := AutoSeq1.sub_list_list
  have hne : ¬ (items.size != items2.size) = true := by simp [hs1, hs2]
  wp_walk using wpAny_loadPart' hl1, wpAny_loadPart' hb1
  exact ⟨plainId_quiet plain_eq_loop _, codeAny_builtin entry_eq_loop (by
    rw [Around.under_plainId plain_eq_loop _]
    exact hrec)⟩

end
section
variable {prog : Program} {w : World} {A : Around} {E : Value → Shared → Prop} {s : Shared}
theorem rc_lst {neg : Bool} {l b : Addr} {N : Nat} {Q : Value → Shared → Prop} (hu : A.units < cLine) (e : Nat → Bool) (I : Nat → Shared → Prop) (hl : ListI prog w A E l b N e I)
    (fin : ∀ i s, I i s → Q (.bool (neg ^^ (List.range N).all e)) s) (h : I 0 s) : wpAny (model prog w) A (richCompare (if neg then .NotEq else .Eq) (.ref l) (.ref b)) Q E s := by
  obtain ⟨items, items2, n, n2, hl1, hb1, _, _, _⟩ := hl _ _ h
  cases neg with
  | false =>
    refine wpAny_richCompare_same_room (op := .Eq) ⟨_, hl1, rfl⟩ ⟨_, hb1, rfl⟩ F.slot_list_eq (GQ.call_here F.slot_list_eq ⟨_, hl1, rfl⟩ F.entry_list_eq (F.args_list_eq_2 _ _) ?_) hu
    exact eq_lst (R := wants (fun v s' => v ≠ .notImplemented ∧ Q v s') E) l b N e I hl (fun i s' q => ⟨(fun x => nomatch x), by simpa using fin i s' q⟩) h
  | true =>
    refine wpAny_richCompare_same_room (op := .NotEq) ⟨_, hl1, rfl⟩ ⟨_, hb1, rfl⟩ F.slot_list_ne (GQ.call_here F.slot_list_ne ⟨_, hl1, rfl⟩ F.entry_list_ne (F.args_list_ne_2 _ _) ?_) hu
    exact ne_lst (R := wants (fun v s' => v ≠ .notImplemented ∧ Q v s') E) l b N e I hl (fun i s' q => ⟨(fun x => nomatch x), by simpa using fin i s' q⟩) h
theorem rc_tup {neg : Bool} {l b : Addr} {items items2 : Array Value} {Q : Value → Shared → Prop} (hu : A.units < cLine) (e : Nat → Bool) (I : Nat → Shared → Prop)
    (hl : s.heap.IsTuple l items) (hb : s.heap.IsTuple b items2)
    (turn : ∀ i (h1 : i < items.size) (h2 : i < items2.size) s, (∀ j, j < i → e j = true) → I i s → wpAny (model prog w) A.in1 (eqBool items[i] items2[i]) (fun r s' => r = e i ∧ I (i + 1) s') E s)
    (fin : ∀ i s, I i s → Q (.bool (neg ^^ ((List.range (min items.size items2.size)).all e && items.size == items2.size))) s) (h : I 0 s) : wpAny (model prog w) A (richCompare (if neg then .NotEq else .Eq) (.ref l) (.ref b)) Q E s := by
  obtain ⟨⟨cls, dd, data, sl⟩, ho, hc, n, hd⟩ := id hl
  obtain ⟨⟨cls2, dd2, data2, sl2⟩, ho2, hc2, n2, hd2⟩ := id hb
  simp only at hc hd hc2 hd2
  subst hc hd hc2 hd2
  cases neg with
  | false =>
    refine wpAny_richCompare_same_room (op := .Eq) ⟨_, ho, rfl⟩ ⟨_, ho2, rfl⟩ F.slot_tuple_eq (GQ.call_here F.slot_tuple_eq ⟨_, ho, rfl⟩ F.entry_tuple_eq (F.args_tuple_eq_2 _ _) ?_) hu
    exact tup_eq (R := wants (fun v s' => v ≠ .notImplemented ∧ Q v s') E) l b items items2 n n2 dd dd2 sl sl2 e I turn (fun i s' q => ⟨(fun x => nomatch x), by simpa using fin i s' q⟩) ho ho2 h
  | true =>
    refine wpAny_richCompare_same_room (op := .NotEq) ⟨_, ho, rfl⟩ ⟨_, ho2, rfl⟩ F.slot_tuple_ne (GQ.call_here F.slot_tuple_ne ⟨_, ho, rfl⟩ F.entry_tuple_ne (F.args_tuple_ne_2 _ _) ?_) hu
    exact tup_ne (R := wants (fun v s' => v ≠ .notImplemented ∧ Q v s') E) l b items items2 n n2 dd dd2 sl sl2 e I turn (fun i s' q => ⟨(fun x => nomatch x), by simpa using fin i s' q⟩) ho ho2 h
end
end IvG


set_option Elab.async false
set_option linter.all false
set_option maxRecDepth 100000
/-! IvQ: != of instances with an own ==. -/
namespace PySem.W
open PySem PySem.Spec PySem.Calls PyProof.Rows
section
variable {prog : Program} {w : World} {M : Model} {A : Around} {E : Value → Shared → Prop} {s : Shared} {K : Frag} {h₀ : Heap} {L : Nat} {m : Str → Option Value} {x C f : Addr} {ox : Obj} {od : Option Obj} {b tb : Value}
def NeBack (Q : Value → Shared → Prop) (v : Value) (s' : Shared) : Prop := ∃ r, v = .bool r ∧ Q (.bool (!r)) s'
open Builtin in
theorem ine_obj {Q : Value → Shared → Prop} (hu : A.in1.units < cLine) (X : K.In s.heap) (I : InstAt s.heap x ox C od) (hm : mroIn K C (.type "object") = some true) (hr : findIn K (.ref C) "__eq__" = some (some (.ref f))) (hf : isFn K (.ref f) = true)
    (h : wpAny (model prog w) A.in1 (call (.ref f) [.ref x, b]) (NeBack Q) E s) : wpAny (model prog w) A (call (.builtin "object.__ne__") [.ref x, b]) Q E s := by
  refine wpAny_call (codeAny_call_builtin PySem.F.cmp_object.ne.plain PySem.F.cmpEntry_ne (check_slot (i := "object.__ne__") (owner := "object") (n := "__ne__") (by decide +kernel) (by decide +kernel) (I.type.andThen (looks_mroIn X hm)) (PySem.F.cmpArgs_ne _ _) ?_))
  unfold Builtin.«object.__ne__»
  refine wpAny_bind (m := slotArgs "__ne__" 1 _) (wpAny_pure ?_)
  refine wpAny_bind (m := cRoomFor _ _) (wpAny_cRoomFor hu ?_)
  refine wpAny_bind (m := callSpecialIfBound? (.ref x) (Str.ofString "__eq__") _) (ifBound_K X I hr hf (wpAny_mono h (fun r s' hq => ?_) fun _ _ y => y))
  obtain ⟨r', rfl, hq⟩ := hq
  exact wpAny_bind (wpAny_truthy_bool (wpAny_pure hq))
theorem ine_special {name : Str} {id : String} {args : List Value} {Q : Option Value → Shared → Prop} (X : K.In s.heap) (I : InstAt s.heap x ox C od) (hs : findIn K (.ref C) name = some (some (.builtin id)))
    (hb : ∀ self, bindSpecial (.builtin id) self = pure (.builtin id, [self])) (h : wpAny M A (call (.builtin id) (.ref x :: args)) (fun v => Q (some v)) E s) : wpAny M A (callSpecialIfBound? (.ref x) name args) Q E s := by
  simp only [callSpecialIfBound?, bindSpecialIfBound?]
  refine wpAny_holding (wpAny_bind (wpAny_bind (wpAny_bind (I.type.here ((looks_findIn X hs).here ?_)))))
  refine wpAny_bind (wpAny_askSetting (wpAny_ite ?_))
  have fin : wpAny M A (call (.builtin id) ([.ref x] ++ args) >>= fun v => pure (some v)) Q E s := wpAny_bind (wpAny_mono h (fun v s' h' => wpAny_pure h') fun _ _ h' => h')
  split
  · exact wpAny_bind ((Looks.of_pure (hb _)).here (wpAny_pure (by exact fin)))
  · exact wpAny_tryCatch (wpAny_bind ((Looks.of_pure (hb _)).here (wpAny_pure (by exact fin))))
theorem ine_K {Q : Value → Shared → Prop} (hu : A.units + 1 < cLine) (F : Fr h₀ L s.heap m) (X₀ : K.In h₀) (I : InstAt s.heap x ox C od) (hb : Looks (model prog w) s.heap (typeOf b) tb) (hn : notFirst K C tb = true) (hm : mroIn K C (.type "object") = some true)
    (hs : findIn K (.ref C) "__ne__" = some (some (.builtin "object.__ne__"))) (hr : findIn K (.ref C) "__eq__" = some (some (.ref f))) (hf : isFn K (.ref f) = true)
    (h : wpAny (model prog w) A.in1 (call (.ref f) [.ref x, b]) (NeBack Q) E s) : wpAny (model prog w) A (richCompare .NotEq (.ref x) b) Q E s := by
  have X := X₀.keeps F.keep
  have one : wpAny (model prog w) A (tryCompare (.ref x) "__ne__" b) (fun r s' => ∃ v, r = some v ∧ Q v s') E s := by
    unfold tryCompare
    refine wpAny_bind (ine_special X I hs PySem.F.cmp_object.ne.bind (wpAny_mono (ine_obj (Q := fun v s' => (∃ r, v = .bool r) ∧ Q v s') hu X I hm hr hf (wpAny_mono h (fun v s' hv => ?_) fun _ _ e => e)) (fun v s' hv => ?_) fun _ _ e => e))
    · obtain ⟨r, rfl, q⟩ := hv
      exact ⟨r, rfl, ⟨_, rfl⟩, q⟩
    · obtain ⟨⟨r, rfl⟩, q⟩ := hv
      exact wpAny_pure ⟨_, rfl, q⟩
  unfold richCompare
  simp only [oneThing_ref]
  refine wpAny_holding (wpAny_bind (wpAny_cRoomFor (by omega) ?_))
  rw [cmpInfo_NotEq]
  dsimp only
  refine wpAny_bind (I.type.here (wpAny_bind (hb.here ?_)))
  split
  · rename_i q
    have e : subIn K tb (.ref C) = some false := by
      rcases Bool.or_eq_true_iff.mp hn with e | e
      · rw [beq_iff_eq.mp e] at q; simp at q
      · exact beq_iff_eq.mp e
    refine wpAny_bind ((looks_subIn X e).here ?_)
    simp only [Bool.false_eq_true, if_false]
    refine wpAny_bind (wpAny_mono one (fun r s' z => ?_) fun _ _ e => e)
    obtain ⟨v, rfl, hq⟩ := z
    exact wpAny_pure hq
  · refine wpAny_bind (wpAny_pure ?_)
    simp only [Bool.false_eq_true, if_false]
    refine wpAny_bind (wpAny_mono one (fun r s' z => ?_) fun _ _ e => e)
    obtain ⟨v, rfl, hq⟩ := z
    exact wpAny_pure hq
end
end PySem.W

set_option Elab.async false
set_option linter.all false
set_option maxRecDepth 100000
/-! IvR: == and != of data. -/
namespace Iv
open PySem L2 PySem.Spec PyProof.Rows
section
variable {P : Pm} {n : Nat} {c : Sc} {X : Cx} {U : Hp}

structure Lv (X : Cx) (n lv : Nat) (A : Around) : Prop where
  fr : A.frames = X.A.frames
  room : ∀ j, n = j + lv → Room j A
  un : A.units + 150 ≤ cLine + lv
theorem Lv.in1 {lv : Nat} {A : Around} (h : Lv X n lv A) : Lv X n (lv + 1) A.in1 := ⟨h.fr, fun j e => (h.room (j + 1) (by omega)).in1, by
  have := h.un
  show A.units + 1 + 150 ≤ _
  omega⟩
theorem Lv.up {lv : Nat} {A : Around} (h : Lv X n lv A) : Lv X n (lv + 1) A := ⟨h.fr, fun j e => (h.room (j + 1) (by omega)).mono (by omega), by
  have := h.un
  omega⟩
theorem rel_inj {x y : V} {u : Value} (h : L2.RelV x u) (h' : L2.RelV y u) : x = y := by
  cases x <;> cases y <;> simp only [L2.RelV] at h h' <;> (try obtain ⟨t, rfl⟩ := h) <;> (try obtain ⟨t', h'⟩ := h') <;> (try subst h) <;> first | cases h' | skip
  all_goals first | rfl | (simp_all)
mutual
theorem repV.inj (fa : Facts P n X) {pins σ s H F m S} (I : Inv X pins σ H s) (hs : RS P U F m S H) : ∀ {d e : DV} {v : V}, hard d = true → hard e = true → repV P F m d v → repV P F m e v → d = e
  | .non, e, v, _, hb, h1, h2 => by
    have := rep_non h1; subst this
    cases e <;> simp only [repV] at h2 <;> simp_all [hard]
  | .bl b, e, v, _, hb, h1, h2 => by
    have := rep_bl h1; subst this
    cases e <;> simp only [repV] at h2 <;> simp_all [hard]
  | .int b, e, v, _, hb, h1, h2 => by
    have := rep_int h1; subst this
    cases e <;> simp only [repV] at h2 <;> simp_all [hard]
  | .str b, e, v, _, hb, h1, h2 => by
    have := rep_str h1; subst this
    cases e <;> simp only [repV] at h2 <;> simp_all [hard]
  | .tup as, e, v, ha, hb, h1, h2 => by
    simp only [repV] at h1
    obtain ⟨a, vs, rfl, t1, p1⟩ := h1
    have t1' : SqT X.K H a vs := fa.hK ▸ SqT.mon hs.sub t1
    cases e <;> simp only [repV] at h2
    case tup bs =>
      obtain ⟨b, ws, e1, t2, p2⟩ := h2
      cases e1
      have := I.tuple_inj t1' (fa.hK ▸ SqT.mon hs.sub t2)
      subst this
      rw [repL.inj fa I hs ha hb p1 p2]
    case frl bs =>
      obtain ⟨b, ws, e1, t2, p2⟩ := h2
      cases e1
      obtain ⟨its, _, ⟨o, ho, hc, _⟩, _⟩ := I.tuple t1'
      obtain ⟨its', k, _, ho', _⟩ := I.lst (hs.sub _ _ t2)
      rw [ho] at ho'; cases ho'; injection hc with hc; exact absurd hc (by decide)
    case obj c0 bs =>
      obtain ⟨b, dx, fs, e1, t2, _⟩ := h2
      cases e1
      obtain ⟨its, _, ⟨o, ho, hc, _⟩, _⟩ := I.tuple t1'
      obtain ⟨mA, J, _⟩ := ins_get I.hok (hs.sub _ _ t2)
      obtain ⟨od, J, _⟩ := J.look
      have e2 := J.at_
      rw [ho] at e2
      have e3 := J.cls
      rw [← Option.some.inj e2, hc] at e3
      cases e3
    all_goals first | (cases h2; done) | simp_all [hard]
  | .frl as, e, v, ha, hb, h1, h2 => by
    simp only [repV] at h1
    obtain ⟨a, vs, rfl, t1, p1⟩ := h1
    cases e <;> simp only [repV] at h2
    case tup bs =>
      obtain ⟨b, ws, e1, t2, p2⟩ := h2
      cases e1
      obtain ⟨its, _, ⟨o, ho, hc, _⟩, _⟩ := I.tuple (xs := ws) (fa.hK ▸ SqT.mon hs.sub t2)
      obtain ⟨its', k, _, ho', _⟩ := I.lst (hs.sub _ _ t1)
      rw [ho] at ho'; cases ho'; injection hc with hc; exact absurd hc (by decide)
    case frl bs =>
      obtain ⟨b, ws, e1, t2, p2⟩ := h2
      cases e1
      rw [t1] at t2; cases t2
      rw [repL.inj fa I hs ha hb p1 p2]
    case obj c0 bs =>
      obtain ⟨b, dx, fs, e1, t2, _⟩ := h2
      cases e1
      rw [t1] at t2; cases t2
    all_goals first | (cases h2; done) | simp_all [hard]
  | .obj c0 as, e, v, ha, hb, h1, h2 => by
    simp only [repV] at h1
    obtain ⟨a, dx, fs, rfl, t1, n1, p1, g1⟩ := h1
    cases e <;> simp only [repV] at h2
    case tup bs =>
      obtain ⟨b, ws, e1, t2, p2⟩ := h2
      cases e1
      obtain ⟨its, _, ⟨o, ho, hc, _⟩, _⟩ := I.tuple (xs := ws) (fa.hK ▸ SqT.mon hs.sub t2)
      obtain ⟨mA, J, _⟩ := ins_get I.hok (hs.sub _ _ t1)
      obtain ⟨od, J, _⟩ := J.look
      have e2 := J.at_
      rw [ho] at e2
      have e3 := J.cls
      rw [← Option.some.inj e2, hc] at e3
      cases e3
    case frl bs =>
      obtain ⟨b, ws, e1, t2, p2⟩ := h2
      cases e1
      rw [t1] at t2; cases t2
    case obj c1 bs =>
      obtain ⟨b, dx', fs', e1, t2, n2, p2, g2⟩ := h2
      cases e1
      rw [t1] at t2
      have e4 : P.cl c0 = P.cl c1 ∧ dx = dx' ∧ fs = fs' := by
        have := Option.some.inj t2
        injection this with q1 q2 q3
        exact ⟨q1, q2, q3⟩
      obtain ⟨q1, rfl, rfl⟩ := e4
      have := fa.inj _ _ g1 g2 q1
      subst this
      rw [repL.inj fa I hs ha hb p1 p2]
    all_goals first | (cases h2; done) | simp_all [hard]
  | .scr as, e, v, ha, _, _, _ => by simp [hard] at ha
  | .ref as, e, v, ha, _, _, _ => by simp [hard] at ha
  | .cls as, e, v, ha, _, _, _ => by simp [hard] at ha
theorem repL.inj (fa : Facts P n X) {pins σ s H F m S} (I : Inv X pins σ H s) (hs : RS P U F m S H) : ∀ {ds es : List DV} {vs : List V}, hardL ds = true → hardL es = true → repL P F m ds vs → repL P F m es vs → ds = es
  | [], [], _, _, _, _, _ => rfl
  | [], _ :: _, _, _, _, h1, h2 => by
    obtain ⟨v, r, e, _⟩ := h2.cons_inv
    rw [h1.nil_inv] at e; cases e
  | _ :: _, [], _, _, _, h1, h2 => by
    obtain ⟨v, r, e, _⟩ := h1.cons_inv
    rw [h2.nil_inv] at e; cases e
  | d :: ds, e :: es, vs, ha, hb, h1, h2 => by
    obtain ⟨v, r, e1, p1, q1⟩ := h1.cons_inv
    obtain ⟨v', r', e2, p2, q2⟩ := h2.cons_inv
    rw [e1] at e2
    injection e2 with e3 e4
    subst e3 e4
    simp only [hardL, Bool.and_eq_true] at ha hb
    rw [repV.inj fa I hs ha.1 hb.1 p1 p2, repL.inj fa I hs ha.2 hb.2 q1 q2]
end

/-- what a comparison leaves behind -/
def Eqd (P : Pm) (X : Cx) (U F : Hp) (m : List Addr) (S : Store) (pins : List (Addr × Obj)) (σ : L2.St) (s' : Shared) : Prop := ∃ F' H', Ext2 F m F' m ∧ RS P U F' m S H' ∧ Inv X pins σ H' s'
theorem Eqd.here {F m S pins σ s H} (I : Inv X pins σ H s) (hs : RS P U F m S H) : Eqd P X U F m S pins σ s := ⟨F, H, .rfl', hs, I⟩
def EqC (P : Pm) (n : Nat) (X : Cx) (d e : DV) : Prop := ∀ {lv : Nat} {neg : Bool} {A : Around} {pins σ s H x y u v U F m S r}, Lv X n lv (if neg then A.in1 else A) → Inv X pins σ H s → L2.RelV x u → L2.RelV y v → RS P U F m S H → repV P F m d x → repV P F m e y →
  eqD (orc P.G n) lv d e S = some r → wpAny (model X.prog X.w) A (richCompare (if neg then .NotEq else .Eq) u v) (fun z s' => z = .bool (neg ^^ r) ∧ Eqd P X U F m S pins σ s') X.xe s
def EqI (P : Pm) (n : Nat) (X : Cx) (lv : Nat) (S : Store) (d e : DV) (r : Bool) : Prop := ∀ {A : Around} {pins σ s H x y u v U F m}, Lv X n lv A → Inv X pins σ H s → L2.RelV x u → L2.RelV y v → RS P U F m S H → repV P F m d x → repV P F m e y →
  wpAny (model X.prog X.w) A (eqBool u v) (fun z s' => z = r ∧ Eqd P X U F m S pins σ s') X.xe s
theorem rep_shape {F m} {d : DV} {x : V} (h : repV P F m d x) : x = .non ∨ (∃ b, x = .bl b) ∨ (∃ b, x = .int b) ∨ (∃ b, x = .str b) ∨ ∃ a, x = .ref a := by
  cases d <;> simp only [repV] at h
  · exact .inl h
  · exact .inr (.inl ⟨_, h⟩)
  · exact .inr (.inr (.inl ⟨_, h⟩))
  · exact .inr (.inr (.inr (.inl ⟨_, h⟩)))
  · obtain ⟨a, _, h, _⟩ := h; exact .inr (.inr (.inr (.inr ⟨a, h⟩)))
  · obtain ⟨a, _, _, h, _⟩ := h; exact .inr (.inr (.inr (.inr ⟨a, h⟩)))
  · obtain ⟨a, _, h, _⟩ := h; exact .inr (.inr (.inr (.inr ⟨a, h⟩)))
  · obtain ⟨a, _, h, _⟩ := h; exact .inr (.inr (.inr (.inr ⟨a, h⟩)))
  · obtain ⟨a, h, _⟩ := h; exact .inr (.inr (.inr (.inr ⟨a, h⟩)))
  · exact .inr (.inr (.inr (.inr ⟨_, h.1⟩)))
theorem EqC.item (fa : Facts P n X) {d e : DV} (h : EqC P n X d e) {lv S r} (hr : eqD (orc P.G n) lv d e S = some r) (hf : r = false → d ≠ e ∧ hard d = true ∧ hard e = true) : EqI P n X lv S d e r := by
  intro A pins σ s H x y u v U F m hl I rx ry hs px py
  by_cases e1 : u = v
  · subst e1
    have e2 := rel_inj rx ry
    subst e2
    have e3 : r = true := by
      cases r with
      | true => rfl
      | false =>
        obtain ⟨g1, g2, g3⟩ := hf rfl
        exact absurd (repV.inj fa I hs g2 g3 px py) g1
    subst e3
    exact SeqAt.EqAt.same (A := A) (s := s) u X.prog X.w X.xe _ ⟨rfl, .here I hs⟩
  unfold eqBool
  refine wpAny_holding ?_
  refine wpAny_ite_split (fun hab => absurd (eq_of_beq hab) e1) (fun _ => ?_)
  · have fin : wpAny (model X.prog X.w) A (richCompare .Eq u v >>= fun z => truthOfDropped z) (fun z s' => z = r ∧ Eqd P X U F m S pins σ s') X.xe s := by
      refine wpAny_bind (wpAny_mono (h (neg := false) hl I rx ry hs px py hr) (fun z s' q => ?_) fun _ _ x => x)
      obtain ⟨rfl, q⟩ := q
      have q2 : (false ^^ r) = r ∧ Eqd P X U F m S pins σ s' := ⟨by simp, q⟩
      exact wpAny_truthy_bool q2
    rcases rep_shape px with rfl | ⟨b, rfl⟩ | ⟨b, rfl⟩ | ⟨b, rfl⟩ | ⟨b, rfl⟩
    · cases rx; exact fin
    · cases rx; exact fin
    · obtain ⟨t, rfl⟩ := rx; exact fin
    · obtain ⟨t, rfl⟩ := rx; exact fin
    · cases rx; exact fin
theorem low_un {lv : Nat} {neg : Bool} {A : Around} (hl : Lv X n lv (if neg then A.in1 else A)) (h : lv < 100) : A.units + 1 < cLine := by
  have := hl.un
  cases neg with
  | false => simp at this; omega
  | true =>
    have h2 : A.in1.units = A.units + 1 := rfl
    simp only [if_true] at this
    omega
theorem in1_lv {lv : Nat} {neg : Bool} {A : Around} (hl : Lv X n lv (if neg then A.in1 else A)) : Lv X n (lv + 1) A.in1 := by
  cases neg with
  | false => exact hl.in1
  | true => exact hl.up
theorem vals_get {vs : List V} {its : List Value} {i : Nat} (r : Vals vs its) (h : i < its.toArray.size) : ∃ v, vs[i]? = some v ∧ L2.RelV v its.toArray[i] := by
  have h' : i < its.length := by simpa using h
  have h2 : i < vs.length := by rw [r.length]; exact h'
  obtain ⟨u, hu, ru⟩ := r.get (List.getElem?_eq_getElem h2)
  rw [List.getElem?_eq_getElem h'] at hu
  have e1 : its.toArray[i] = u := by rw [← Option.some.inj hu]; simp
  exact ⟨_, List.getElem?_eq_getElem h2, by rw [e1]; exact ru⟩
theorem eq_tup (fa : Facts P n X) {lv S r} {as bs : List DV} {e : Nat → Bool} (hlv : lv < 100) (hr : r = ((List.range (min as.length bs.length)).all e && as.length == bs.length))
    (he : ∀ (i : Nat) a b, as[i]? = some a → bs[i]? = some b → (∀ j, j < i → e j = true) → EqI P n X (lv + 1) S a b (e i)) {neg : Bool} {A : Around} {pins σ s H x y u v U F m} (hl : Lv X n lv (if neg then A.in1 else A)) (I : Inv X pins σ H s) (rx : L2.RelV x u) (ry : L2.RelV y v)
    (hs : RS P U F m S H) (px : repV P F m (.tup as) x) (py : repV P F m (.tup bs) y) : wpAny (model X.prog X.w) A (richCompare (if neg then .NotEq else .Eq) u v) (fun z s' => z = .bool (neg ^^ r) ∧ Eqd P X U F m S pins σ s') X.xe s := by
  simp only [repV] at px py
  obtain ⟨a, xs, rfl, t1, p1⟩ := px
  obtain ⟨b, ys, rfl, t2, p2⟩ := py
  cases rx
  cases ry
  obtain ⟨its, r1, e1, z1⟩ := I.tuple (xs := xs) (fa.hK ▸ SqT.mon hs.sub t1)
  obtain ⟨its2, r2, e2, z2⟩ := I.tuple (xs := ys) (fa.hK ▸ SqT.mon hs.sub t2)
  have l1 : its.toArray.size = as.length := by rw [List.size_toArray, ← r1.length, p1.len]
  have l2 : its2.toArray.size = bs.length := by rw [List.size_toArray, ← r2.length, p2.len]
  refine IvG.rc_tup (by have := low_un hl hlv; omega) e (fun _ s' => Eqd P X U F m S pins σ s') e1 e2 (fun i h1 h2 s' hT q => ?_) (fun i s' q => ⟨by rw [hr, l1, l2], q⟩) (.here I hs)
  obtain ⟨F1, H1, x1, rs1, I1⟩ := q
  obtain ⟨v1, g1, g2⟩ := vals_get r1 h1
  obtain ⟨v2, g3, g4⟩ := vals_get r2 h2
  obtain ⟨d1, k1, k2⟩ := p1.get' g1
  obtain ⟨d2, k3, k4⟩ := p2.get' g3
  refine wpAny_mono (he i d1 d2 k1 k3 hT (in1_lv hl) I1 g2 g4 rs1 (k2.mon x1) (k4.mon x1)) (fun z s2 q => ?_) fun _ _ x => x
  obtain ⟨hz, F2, H2, x2, rs2, I2⟩ := q
  exact ⟨hz, F2, H2, x1.trans x2, rs2, I2⟩
theorem eq_lst (fa : Facts P n X) {lv S r} {as bs : List DV} {e : Nat → Bool} (hlv : lv < 100) (hr : r = ((List.range (min as.length bs.length)).all e && as.length == bs.length)) (hlen : as.length = bs.length)
    (he : ∀ (i : Nat) a b, as[i]? = some a → bs[i]? = some b → (∀ j, j < i → e j = true) → EqI P n X (lv + 1) S a b (e i)) {neg : Bool} {A : Around} {pins σ s H x y u v U F m} (hl : Lv X n lv (if neg then A.in1 else A)) (I : Inv X pins σ H s) (rx : L2.RelV x u) (ry : L2.RelV y v)
    (hs : RS P U F m S H) (px : repV P F m (.frl as) x) (py : repV P F m (.frl bs) y) : wpAny (model X.prog X.w) A (richCompare (if neg then .NotEq else .Eq) u v) (fun z s' => z = .bool (neg ^^ r) ∧ Eqd P X U F m S pins σ s') X.xe s := by
  simp only [repV] at px py
  obtain ⟨a, xs, rfl, t1, p1⟩ := px
  obtain ⟨b, ys, rfl, t2, p2⟩ := py
  cases rx
  cases ry
  refine IvG.rc_lst (N := as.length) (by have := low_un hl hlv; omega) e (fun _ s' => Eqd P X U F m S pins σ s') (fun i s' q => ?_) (fun i s' q => ⟨by rw [hr, ← hlen]; simp, q⟩) (.here I hs)
  obtain ⟨F1, H1, x1, rs1, I1⟩ := id q
  obtain ⟨its, n1, r1, e1, z1⟩ := I1.lst (rs1.sub _ _ (x1.f _ _ t1))
  obtain ⟨its2, n2, r2, e2, z2⟩ := I1.lst (rs1.sub _ _ (x1.f _ _ t2))
  refine ⟨its.toArray, its2.toArray, n1, n2, e1, e2, by rw [List.size_toArray, ← r1.length, p1.len], by rw [List.size_toArray, ← r2.length, hlen, p2.len], fun h1 h2 hT => ?_⟩
  obtain ⟨v1, g1, g2⟩ := vals_get r1 h1
  obtain ⟨v2, g3, g4⟩ := vals_get r2 h2
  obtain ⟨d1, k1, k2⟩ := p1.get' g1
  obtain ⟨d2, k3, k4⟩ := p2.get' g3
  refine wpAny_mono (he i d1 d2 k1 k3 hT (in1_lv hl) I1 g2 g4 rs1 (k2.mon x1) (k4.mon x1)) (fun z s2 q => ?_) fun _ _ x => x
  obtain ⟨hz, F2, H2, x2, rs2, I2⟩ := q
  exact ⟨hz, F2, H2, x1.trans x2, rs2, I2⟩
end
end Iv

set_option Elab.async false
set_option linter.all false
set_option maxRecDepth 100000
set_option maxHeartbeats 4000000
/-! IvS: == and != of data, the end. -/
namespace Iv
open PySem L2 PySem.Spec PyProof.Rows
section
variable {P : Pm} {n : Nat} {c : Sc} {X : Cx} {U : Hp}

/-- a right side that an own == may be given -/
theorem eqR_first (fa : Facts P n X) {pins σ s H F m S} (I : Inv X pins σ H s) (hs : RS P U F m S H) {c0 : String} (h0 : P.G.cls c0 = true) {e : DV} {y : V} {v : Value} (he : eqR e = true) (py : repV P F m e y) (ry : L2.RelV y v) :
    ∃ tb, PySem.W.Looks (model X.prog X.w) s.heap (typeOf v) tb ∧ PySem.W.notFirst X.K (P.cl c0) tb = true := by
  have sub : ∀ T ∈ tyNames, PySem.W.notFirst X.K (P.cl c0) (.type T) = true := fun T hT => by
    unfold PySem.W.notFirst
    rw [fa.subT c0 T h0 hT]
    simp
  cases e <;> simp only [eqR] at he <;> try (exact absurd he Bool.false_ne_true)
  case non => 
    have := rep_non py; subst this; cases ry
    exact ⟨.type "NoneType", PySem.W.Looks.of_pure rfl, sub _ (by decide)⟩
  case bl b =>
    have := rep_bl py; subst this; cases ry
    exact ⟨.type "bool", PySem.W.Looks.of_pure rfl, sub _ (by decide)⟩
  case int b =>
    have := rep_int py; subst this; obtain ⟨t, rfl⟩ := ry
    exact ⟨.type "int", PySem.W.Looks.of_pure rfl, sub _ (by decide)⟩
  case str b =>
    have := rep_str py; subst this; obtain ⟨t, rfl⟩ := ry
    exact ⟨.type "str", PySem.W.Looks.of_pure rfl, sub _ (by decide)⟩
  case obj c1 ds =>
    simp only [repV] at py
    obtain ⟨a, dx, fs, rfl, t1, n1, p1, g1⟩ := py
    cases ry
    obtain ⟨mA, J, _⟩ := ins_get I.hok (hs.sub _ _ t1)
    obtain ⟨od, J, _⟩ := J.look
    refine ⟨.ref (P.cl c1), J.type, ?_⟩
    unfold PySem.W.notFirst
    by_cases h : c0 = c1
    · subst h; simp
    · rw [fa.sub1 c0 c1 h0 g1 h]; simp
theorem eq_obj (fa : Facts P n X) {c0 : String} {ds : List DV} {e : DV} (hc0 : c0 ≠ "") (heR : eqR e = true) {lv S r} (hcall : (orc P.G n).call lv (c0, "__eq__") [.obj c0 ds, e] S = some (.bl r, S)) {neg : Bool} {A : Around} {pins σ s H x y u v U F m} (hl : Lv X n lv (if neg then A.in1 else A)) (I : Inv X pins σ H s) (rx : L2.RelV x u) (ry : L2.RelV y v)
    (hs : RS P U F m S H) (px : repV P F m (.obj c0 ds) x) (py : repV P F m e y) : wpAny (model X.prog X.w) A (richCompare (if neg then .NotEq else .Eq) u v) (fun z s' => z = .bool (neg ^^ r) ∧ Eqd P X U F m S pins σ s') X.xe s := by
  obtain ⟨j, hj, hcj⟩ := orc_low hcall
  obtain ⟨fn, hG⟩ := orc_fn hcj
  obtain ⟨f, hf⟩ := fa.fns _ _ hG
  rcases id hf.loc with ⟨h0, _⟩ | ⟨_, hcl, hm⟩
  · exact absurd h0 hc0
  obtain ⟨tb, hb, hn⟩ := eqR_first fa I hs hcl heR py ry
  have px' := px
  simp only [repV] at px
  obtain ⟨a, dx, fs, rfl, t1, n1, p1, g1⟩ := px
  cases rx
  obtain ⟨mA, J, _⟩ := ins_get I.hok (hs.sub _ _ t1)
  obtain ⟨od, J, _⟩ := J.look
  obtain ⟨mm, hF⟩ := I.fr
  have hC := fa.cls _ hcl
  have hu : A.units + 1 < cLine := by
    have h1 := (hl.room (j + 1) (by omega)).un
    cases neg with
    | false => simp at h1; omega
    | true =>
      have h2 : A.in1.units = A.units + 1 := rfl
      simp only [if_true] at h1
      omega
  have call : ∀ {A' : Around}, Lv X n lv A' → wpAny (model X.prog X.w) A' (call (.ref f) [.ref a, v]) (EP X pins σ fun w H' => w = .bl r ∧ ∃ F', Ext2 F m F' m ∧ RS P U F' m S H') X.xe s := fun {A'} hl' =>
    call_low fa hl'.fr hl'.room hf I hs (repL.cons px' (repL.cons py .nil)) (.cons rfl (.cons ry .nil)) hG hcall fun F' m' w H' x r' p => ⟨rep_bl p, by
      obtain ⟨t, ht⟩ := x.m
      have hl2 : m'.length = m.length := by rw [r'.len, hs.len]
      have : t = [] := by rw [ht] at hl2; simpa using hl2
      subst this
      rw [List.append_nil] at ht
      subst ht
      exact ⟨F', x, r'⟩⟩
  cases neg with
  | false =>
    refine PySem.W.cmp_K (op := .Eq) (by omega) hF I.ok.mod.kin J hb hn hm.at_ hm.fn (wpAny_mono (call hl) (fun z s' q => ?_) fun _ _ x => x)
    obtain ⟨w, H', I', rw', rfl, F', x, r'⟩ := q
    cases rw'
    exact ⟨by simp, F', H', x, r', I'⟩
  | true =>
    refine PySem.W.ine_K hu hF I.ok.mod.kin J hb hn hC.mobj hC.ne hm.at_ hm.fn (wpAny_mono (call hl) (fun z s' q => ?_) fun _ _ x => x)
    obtain ⟨w, H', I', rw', rfl, F', x, r'⟩ := q
    cases rw'
    exact ⟨r, rfl, by simp, F', H', x, r', I'⟩
/-- flat values -/
theorem eq_two {u v : Value} {A : Around} {s : Shared} {r : Bool} (h : SeqAt.RcAt A s u v r) (h' : SeqAt.RcNeAt A s u v (!r)) (neg : Bool) {prog : Program} {w : World} {E : Value → Shared → Prop} {Q : Value → Shared → Prop} (hq : Q (.bool (neg ^^ r)) s) :
    wpAny (model prog w) A (richCompare (if neg then .NotEq else .Eq) u v) Q E s := by
  cases neg with
  | false => exact h prog w E Q (by simpa using hq)
  | true => exact h' prog w E Q (by simpa using hq)
theorem SS_beq (a b : List Nat) : (SS a == SS b) = (a == b) := by
  by_cases h : a = b
  · subst h; simp
  · have : SS a ≠ SS b := fun e => h (by
      have := congrArg (fun x : Str => x.cps.toList) e
      simpa using this)
    rw [beq_eq_false_iff_ne.mpr this, beq_eq_false_iff_ne.mpr h]
mutual
theorem eqS (fa : Facts P n X) : ∀ (d e : DV), EqC P n X d e
  | .tup as, e => by
    intro hl I rx ry hs px py hr
    cases e <;> simp only [eqD] at hr <;> try (cases hr; done)
    case tup bs =>
      split at hr
      · rename_i hlv
        obtain ⟨e, h1, h2⟩ := eqLS fa as bs hr
        exact eq_tup fa hlv h1 h2 hl I rx ry hs px py
      · cases hr
  | .frl as, e => by
    intro hl I rx ry hs px py hr
    cases e <;> simp only [eqD] at hr <;> try (cases hr; done)
    case frl bs =>
      split at hr
      · rename_i hlv
        split at hr
        · rename_i hlen
          obtain ⟨e, h1, h2⟩ := eqLS fa as bs hr
          exact eq_lst fa hlv h1 hlen h2 hl I rx ry hs px py
        · rename_i hlen
          cases hr
          simp only [repV] at px py
          obtain ⟨a, xs, rfl, t1, p1⟩ := px
          obtain ⟨b, ys, rfl, t2, p2⟩ := py
          cases rx
          cases ry
          obtain ⟨its, n1, r1, e1, z1⟩ := I.lst (hs.sub _ _ t1)
          obtain ⟨its2, n2, r2, e2, z2⟩ := I.lst (hs.sub _ _ t2)
          have hne : (its.toArray.size != its2.toArray.size) = true := by
            rw [List.size_toArray, List.size_toArray, ← r1.length, ← r2.length, ← p1.len, ← p2.len]
            simpa using hlen
          have hu := low_un hl hlv
          have q1 := (⟨_, e1, rfl, n1, rfl⟩ : Heap.IsList _ a its.toArray)
          have q2 := (⟨_, e2, rfl, n2, rfl⟩ : Heap.IsList _ b its2.toArray)
          exact eq_two (SeqAt.RcAt.lists_lengths q1 q2 hne (by omega)) (SeqAt.RcNeAt.lists_lengths q1 q2 hne (by omega)) _ ⟨rfl, .here I hs⟩
      · cases hr
  | .obj c0 ds, e => by
    intro hl I rx ry hs px py hr
    simp only [eqD] at hr
    split at hr
    · rename_i hc
      split at hr
      · rename_i r' S1 h1
        split at hr
        · rename_i hS
          cases hr
          subst hS
          exact eq_obj fa hc.1 hc.2 h1 hl I rx ry hs px py
        · cases hr
      · cases hr
    · cases hr
  | .non, e => by
    intro hl I rx ry hs px py hr
    have := rep_non px; subst this; cases rx
    cases e <;> simp only [eqD] at hr <;> try (cases hr; done)
    case non => have := rep_non py; subst this; cases ry; have hr := Option.some.inj hr; subst hr; exact eq_two .none_none .none_none _ ⟨rfl, .here I hs⟩
    case int => have := rep_int py; subst this; obtain ⟨t, rfl⟩ := ry; have hr := Option.some.inj hr; subst hr; exact eq_two (.none_int _ _) (.none_int _ _) _ ⟨rfl, .here I hs⟩
    case str => have := rep_str py; subst this; obtain ⟨t, rfl⟩ := ry; have hr := Option.some.inj hr; subst hr; exact eq_two (.none_str _ _) (.none_str _ _) _ ⟨rfl, .here I hs⟩
  | .bl b, e => by
    intro hl I rx ry hs px py hr
    have := rep_bl px; subst this; cases rx
    cases e <;> simp only [eqD] at hr <;> try (cases hr; done)
    case bl => have := rep_bl py; subst this; cases ry; have hr := Option.some.inj hr; subst hr; exact eq_two (.bool_bool _ _) (.bool_bool _ _) _ ⟨rfl, .here I hs⟩
  | .int b, e => by
    intro hl I rx ry hs px py hr
    have := rep_int px; subst this; obtain ⟨t, rfl⟩ := rx
    cases e <;> simp only [eqD] at hr <;> try (cases hr; done)
    case non => have := rep_non py; subst this; cases ry; have hr := Option.some.inj hr; subst hr; exact eq_two (.int_none _ _) (.int_none _ _) _ ⟨rfl, .here I hs⟩
    case int => have := rep_int py; subst this; obtain ⟨t, rfl⟩ := ry; have hr := Option.some.inj hr; subst hr; exact eq_two (.int_int _ _ _ _) (.int_int _ _ _ _) _ ⟨rfl, .here I hs⟩
  | .str b, e => by
    intro hl I rx ry hs px py hr
    have := rep_str px; subst this; obtain ⟨t, rfl⟩ := rx
    cases e <;> simp only [eqD] at hr <;> try (cases hr; done)
    case non => have := rep_non py; subst this; cases ry; have hr := Option.some.inj hr; subst hr; exact eq_two (.str_none _ _) (.str_none _ _) _ ⟨rfl, .here I hs⟩
    case str => have := rep_str py; subst this; obtain ⟨t, rfl⟩ := ry; have hr := Option.some.inj hr; subst hr; rw [← SS_beq]; exact eq_two (.str_str _ _ _ _) (.str_str _ _ _ _) _ ⟨rfl, .here I hs⟩
  | .scr as, e => by
    intro hl I rx ry hs px py hr
    cases e <;> simp only [eqD] at hr <;> cases hr
  | .ref as, e => by
    intro hl I rx ry hs px py hr
    cases e <;> simp only [eqD] at hr <;> cases hr
  | .cls as, e => by
    intro hl I rx ry hs px py hr
    cases e <;> simp only [eqD] at hr <;> cases hr
theorem eqLS (fa : Facts P n X) : ∀ (as bs : List DV) {lv : Nat} {S : Store} {r : Bool}, eqL (orc P.G n) lv as bs S = some r → ∃ e : Nat → Bool, r = ((List.range (min as.length bs.length)).all e && as.length == bs.length) ∧
    ∀ (i : Nat) a b, as[i]? = some a → bs[i]? = some b → (∀ j, j < i → e j = true) → EqI P n X lv S a b (e i)
  | [], [], lv, S, r, h => ⟨fun _ => true, by simp only [eqL] at h; cases h; simp, fun i a b h1 => by simp at h1⟩
  | [], b :: bs, lv, S, r, h => ⟨fun _ => true, by simp only [eqL] at h; cases h; simp, fun i a b h1 => by simp at h1⟩
  | a :: as, [], lv, S, r, h => ⟨fun _ => true, by simp only [eqL] at h; cases h; simp, fun i a b h1 h2 => by simp at h2⟩
  | a :: as, b :: bs, lv, S, r, h => by
    simp only [eqL] at h
    split at h
    · rename_i h1
      obtain ⟨e, g1, g2⟩ := eqLS fa as bs h
      refine ⟨fun i => match i with | 0 => true | i + 1 => e i, ?_, ?_⟩
      · rw [g1]
        have hm : min (a :: as).length (b :: bs).length = min as.length bs.length + 1 := by simp only [List.length_cons]; omega
        rw [hm, List.range_succ_eq_map, List.all_cons, List.all_map]
        simp [Function.comp_def]
      · intro i x y hx hy hT
        cases i with
        | zero =>
          simp at hx hy
          subst hx hy
          exact EqC.item fa (@eqS fa a b) h1 (fun e => nomatch e)
        | succ i =>
          simp at hx hy
          exact g2 i x y hx hy fun j hj => hT (j + 1) (by omega)
    · rename_i h1
      split at h
      · cases h
      · rename_i hne
        cases h
        refine ⟨fun _ => false, ?_, ?_⟩
        · have hm : min (a :: as).length (b :: bs).length = min as.length bs.length + 1 := by simp only [List.length_cons]; omega
          rw [hm, List.range_succ_eq_map, List.all_cons]
          simp
        · intro i x y hx hy hT
          cases i with
          | zero =>
            simp at hx hy
            subst hx hy
            simp only [not_or, Bool.not_eq_false] at hne
            exact EqC.item fa (@eqS fa a b) h1 (fun _ => ⟨hne.1, hne.2.1, hne.2.2⟩)
          | succ i => exact absurd (hT 0 (by omega)) (by simp)
    · cases h
end
theorem Lv.top (fa : Facts P n X) : Lv X n 0 X.A := ⟨rfl, fun j e => fa.room.mono (by omega), by
  have := fa.room.un
  omega⟩
theorem Lv.top1 (fa : Facts P n X) : Lv X n 1 X.A.in1 := (Lv.top fa).in1
theorem eqOk (fa : Facts P n X) : EqOk P n X := by
  refine ⟨?_, ?_⟩
  · rintro pins s σ H x y u v Q I rx ry ⟨U, F, m, S, d, d', hs, px, py, w, S', hv, k⟩
    simp only [cmpD] at hv
    split at hv
    · rename_i r h1
      cases hv
      refine wpAny_mono (eqS fa d d' (neg := false) (Lv.top fa) I rx ry hs px py h1) (fun z s' q => ?_) fun _ _ x => x
      obtain ⟨rfl, F1, H1, x1, r1, I1⟩ := q
      exact ⟨.bl r, H1, I1, by simp [L2.RelV], k F1 m _ H1 x1 r1 mk_bl⟩
    · cases hv
  · rintro pins s σ H x y u v Q I rx ry ⟨U, F, m, S, d, d', hs, px, py, w, S', hv, k⟩
    simp only [cmpD] at hv
    split at hv
    · rename_i r h1
      cases hv
      refine wpAny_mono (eqS fa d d' (neg := true) (Lv.top1 fa) I rx ry hs px py h1) (fun z s' q => ?_) fun _ _ x => x
      obtain ⟨rfl, F1, H1, x1, r1, I1⟩ := q
      exact ⟨.bl !r, H1, I1, by simp [L2.RelV], k F1 m _ H1 x1 r1 mk_bl⟩
    · cases hv
end
end Iv

set_option Elab.async false
set_option linter.all false
set_option maxRecDepth 100000
set_option maxHeartbeats 4000000
/-! IvT: enumerate. -/
namespace PySem.W
open PySem PySem.Spec PyProof.Rows
theorem meets_enum1 {v : Value} {o : Obj} {H : Heap → Prop} (B : Begins v o H) :
    Meets (Builtin.«enumerate.__new__» ⟨[.type "enumerate", v], []⟩) (fun _ R s => H s.heap ∧
      R (.ok (.ret (.ref (s.heap.push o).objs.size))) { s with heap := (s.heap.push o).push { cls := .type "enumerate", data := .fields #[.none, .bool false, .ref s.heap.objs.size, rawInt 0, .none, .none] } }) :=
  .of_wp fun prog w A R s h => by
    obtain ⟨hp, g, d, tk, os⟩ := s; obtain ⟨h1, h⟩ := h
    have hsub := sub_enumerate
    have q1 : ∀ {A' : Around} {E : Value → Shared → Prop} {Q : Value → Shared → Prop}, Q (.ref hp.objs.size) ⟨hp.push o, g, d, tk, os⟩ → wpAny (model prog w) A' (pyIter v) Q E ⟨hp, g, d, tk, os⟩ :=
      fun q => B.iter prog w _ _ ⟨hp, g, d, tk, os⟩ _ h1 q
    wp_walk using q1
    refine wpAny_stack_any fun st => wpAny_pure ?_
    split
    · rename_i c _ _ _ _ _
      cases (c == Value.type "enumerate")
      · wp_walk using q1
        exact ⟨_, rfl, h⟩
      · wp_walk using q1
        exact ⟨_, rfl, h⟩
    · wp_walk using q1
      exact ⟨_, rfl, h⟩
section
variable {prog : Program} {w : World} {A : Around} {E : Value → Shared → Prop} {s : Shared}
theorem enum1_begins {v : Value} {o : Obj} {H : Heap → Prop} {Q : Value → Shared → Prop} (B : Begins v o H) (h1 : H s.heap)
    (h : ∀ h', IsEnum h' (s.heap.objs.size + 1) s.heap.objs.size 0 .none → h'.get? s.heap.objs.size = some o → h'.objs.size = s.heap.objs.size + 2 →
      (∀ b o, s.heap.get? b = some o → h'.get? b = some o) → Q (.ref (s.heap.objs.size + 1)) { s with heap := h' }) :
    wpAny (model prog w) A (call (.type "enumerate") [v]) Q E s := by
  refine callType_new F.called_enumerate (by decide) (F.typeCall_enumerate_1 _) (F.newCall_enumerate_1 _) (fun obj => F.args_object_init_2 obj _) F.entry_enumerate_new
    (meets_enum1 B) ⟨h1, ?_⟩
  have hz : (s.heap.push o).objs.size = s.heap.objs.size + 1 := Heap.size_push ..
  show _ ∧ _
  rw [hz]
  have he : IsEnum ((s.heap.push o).push { cls := .type "enumerate", data := .fields #[.none, .bool false, .ref s.heap.objs.size, rawInt 0, .none, .none] }) (s.heap.objs.size + 1) s.heap.objs.size 0 .none := by
    have := Heap.get?_push_size (s.heap.push o) (o := { cls := .type "enumerate", data := .fields #[.none, .bool false, .ref s.heap.objs.size, rawInt 0, .none, .none] }) rfl
    rw [hz] at this; exact this
  refine ⟨⟨_, he, rfl⟩, h _ he (Heap.get?_push_of_some _ (Heap.get?_push_size _ B.free)) (by rw [Heap.size_push, hz]) fun b o x => Heap.get?_push_of_some _ (Heap.get?_push_of_some _ x)⟩
theorem enum_endT {e it t : Addr} {j i : Nat} {items : Array Value} {old : Value} {Q : Option Value → Shared → Prop} (hh : A.in1.handled = none) (he : IsEnum s.heap e it ((j : Nat) : Int) old) (hit : s.heap.IsTupleIter it t i) (ht : s.heap.IsTuple t items) (hx : items[i]? = none)
    (hQ : ∀ h', Heap.ExtBut it s.heap h' → Q none { s with heap := h' }) : wpAny (model prog w) A (pyNext (.ref e)) Q E s := by
  have hT : s.TypeIs (.ref e) "enumerate" := ⟨_, he, rfl⟩
  unfold pyNext
  refine wpAny_bind (wpAny_attempt (wpAny_callSpecial?_slot (name := Str.ofString "__next__") hT F.slot_enumerate_next
    (wpAny_call_entry F.slot_enumerate_next hT F.entry_enumerate_next ?_ (F.args_enumerate_next_1 _))))
  show wpAny _ _ (field (.ref e) 2 >>= _) _ _ _
  refine wpAny_bind (wpAny_field he rfl (x := .ref it) rfl ?_)
  refine wpAny_bind (wpAny_nextOf_tuple_end hh hit ht hx fun h' x he' hx' => ?_)
  obtain ⟨o, ho, hc⟩ := hx'
  refine wpAny_bind (wpAny_isInstance (T := "StopIteration") (b := true) ⟨o, ho, hc⟩ isSubtype_stop ?_)
  exact wpAny_pure (hQ _ he')
end
end PySem.W

namespace Iv
open PySem L2 PySem.Spec PyProof.Rows
/-- the tuple at a, each item in a new pair -/
def Itet (K : PySem.W.Frag) (a : Addr) : L2.It :=
  ⟨fun i H => ∃ (xs : List V) (x : V), SqT K H a xs ∧ xs[i]? = some x, fun i H v H' => ∃ T x, v = .ref T ∧ H T = none ∧ H' = upd H T (.tup [.int (i : Nat), x]) ∧ ∀ xs, SqT K H a xs → xs[i]? = some x, fun i H => ∃ xs : List V, SqT K H a xs ∧ xs.length ≤ i⟩
theorem turn_enumT {P : Program} {w : World} {K : PySem.W.Frag} {elts : List Expr} {kk : Nat} {tpos : Pos} (a e it : Addr) :
    Turn P w K (.Tuple elts kk tpos) (Itet K a) [e, it] e (fun i h => (∃ old, IsEnum h e it ((i : Nat) : Int) old) ∧ h.IsTupleIter it a i ∧ e ≠ it ∧ a ≠ it ∧ a ≠ e) where
  mem := by simp
  obj := fun i h st b hb => by
    obtain ⟨⟨old, he⟩, ⟨o, ho, hc, hd⟩, _⟩ := st
    have e' : b = e ∨ b = it := by simpa using hb
    rcases e' with z | z
    · rw [z]; exact ⟨_, he, fun v q => nomatch q⟩
    · rw [z]; exact ⟨o, ho, fun v q => by rw [hd] at q; cases q⟩
  keep := fun i h h' st k => let ⟨⟨old, he⟩, hi, hne⟩ := st; ⟨⟨old, k e (by simp) _ he⟩, hi.at fun o q => k it (by simp) o q, hne⟩
  item := by
    intro X hP hw hK hc i pins s σ H E I hf st hg
    subst hP hw hK
    obtain ⟨⟨old, he⟩, hit, hne, ha1, ha2⟩ := st
    obtain ⟨xs, x, hq, hx⟩ := hg
    obtain ⟨its, rv, p, hz⟩ := I.tuple hq
    obtain ⟨u, hu, ru⟩ := rv.get hx
    have hel : e < s.heap.objs.size := Heap.lt_size he
    have hil : it < s.heap.objs.size := by obtain ⟨_, q, _⟩ := hit; exact Heap.lt_size q
    have D := Draws.tuple (prog := X.prog) (w := X.w) (A := X.A.in1) (show X.A.in1.handled = none from I.ok.hd hc) it a ha1 its.toArray
    have hlt : i < its.toArray.size := by
      have := (List.getElem?_eq_some_iff.mp hu).1
      simpa using this
    refine wpAny_pyNext_enum_itemD D he ⟨hit, p⟩ hlt hne (by simp [hne, Ne.symm ha2]) fun x' h' tk hP ho hst' hT hsz hk => ?_
    have ex : x' = u := by
      have hu' : its.toArray[i]? = some u := by simpa using hu
      rw [hP] at hu'; exact Option.some.inj hu'
    subst ex
    refine ⟨_, rfl, wpAny_letOwnedTupleGo_enum (s := { s with heap := h', toks := tk + 1 }) ho fun h'' he' sb => ?_⟩
    have hT2 : h''.get? s.heap.objs.size = some { cls := .type "tuple", data := .seq #[.int i tk, x'] } := (sb.2 _ (Nat.ne_of_gt hel)).trans hT
    have new : ObjOk X.prog X.w (upd H s.heap.objs.size (.tup [.int (i : Nat), x])) h'' s.heap.objs.size (.tup [.int (i : Nat), x]) :=
      ⟨by show 2 ≤ sizeLine; decide, [.int i tk, x'], .cons ⟨_, rfl⟩ (.cons ru .nil), ⟨_, hT2, rfl, _, rfl⟩⟩
    have I1 : Inv X pins σ (upd H s.heap.objs.size (.tup [.int (i : Nat), x])) { s with heap := h'', toks := tk + 1 } :=
      I.turnedNew (ch := [e, it]) (fun b ob hb q => (sb.2 b (fun z => hb (by simp [z]))).trans (hk b ob (fun z => hb (by simp [z])) (fun z => hb (by simp [z])) q)) hf (Nat.le_refl _) new
    refine ⟨.ref s.heap.objs.size, _, I1, rfl, ⟨_, x, rfl, I.hok.fresh (Nat.le_refl _), rfl, fun ys hy => by rw [I.tuple_inj hy hq]; exact hx⟩, ⟨⟨x', ?_⟩, hst'.1.at fun o q => (sb.2 it (Ne.symm hne)).trans q, hne, ha1, ha2⟩, fun b hb => ?_⟩
    · have e1 : ((i + 1 : Nat) : Int) = (i : Int) + 1 := by omega
      rw [e1]; exact he'
    · have hb' : b < s.heap.objs.size := by
        have e' : b = e ∨ b = it := by simpa using hb
        rcases e' with z | z
        · rw [z]; exact hel
        · rw [z]; exact hil
      rw [upd_ne (Nat.ne_of_lt hb')]
      exact (hf b hb).1
  done := by
    intro X hP hw hK hc i pins s σ H E I hf st hg
    subst hP hw hK
    obtain ⟨⟨old, he⟩, hit, hne, ha1, ha2⟩ := st
    obtain ⟨xs, hq, hx⟩ := hg
    obtain ⟨its, rv, p, hz⟩ := I.tuple hq
    obtain ⟨f0, f1, f2, f3, f4, f5⟩ := hf it (by simp)
    have hl := rv.length
    refine PySem.W.enum_endT (I.ok.hd hc) he hit p (by simp; omega) fun h' eb => ⟨rfl, I.turned (t' := s.toks) (fun b o hb q => eb b o hb q) f0 f1 f3 f4 f5⟩
  self := fun A i s Q E st h => let ⟨⟨_, he⟩, _⟩ := st; wpAny_pyIter_enum he h
def iEnumA (K : PySem.W.Frag) (ta : TA) : TI := fun σ H R => ta σ H fun vs H1 => ∃ a xs, vs = [.ref a] ∧ ((SqL K H1 a xs ∧ R (Ite K a) H1) ∨ (SqT K H1 a xs ∧ R (Itet K a) H1))
theorem pi_enumA {X : Cx} {e : Expr} {ta : TA} {p pos tpos : Pos} {elts : List Expr} {kk : Nat} (hg : Gl X "enumerate") (hm : X.mg "enumerate" = none) (ha : PA X [e] ta) (hs : starEach [e] X.env = [(false, eval e X.env)]) :
    PI X (.Tuple elts kk tpos) (.Call (.Name "enumerate" p) [e] [] pos) (iEnumA X.K ta) := by
  refine ⟨fun pins s σ H R I h => ?_⟩
  refine Call_ (ld_blt I hg hm boot_enumerate (PyProof.Rows.callWith_type1 (thn (ha.run pos pins s σ H _ I h) fun us s1 ⟨vs, H1, I1, r1, q1⟩ => ?_) hs rfl))
  obtain ⟨a, xs, ex, q1⟩ := q1
  subst ex
  cases r1 with
  | cons r rr =>
    cases rr
    cases r
    rcases q1 with ⟨hq, q⟩ | ⟨hq, q⟩
    · obtain ⟨its, rv, p', hz⟩ := I1.list hq
      refine call_enumerate_list p'.isList fun h' he hit hsz hk => wpAny_pyIter_enum he ?_
      have I2 : Inv X pins σ H1 { s1 with heap := h' } := I1.kept (t' := s1.toks) hk
      refine ⟨s1.heap.objs.size + 1, [s1.heap.objs.size + 1, s1.heap.objs.size], _, _, H1, rfl, I2, turn_enum a (s1.heap.objs.size + 1) s1.heap.objs.size, ⟨⟨.none, he⟩, hit, Nat.succ_ne_self _⟩, fun b hb => ?_, q⟩
      have e' : b = s1.heap.objs.size + 1 ∨ b = s1.heap.objs.size := by simpa using hb
      have hle : s1.heap.objs.size ≤ b := by
        rcases e' with z | z
        · rw [z]; exact Nat.le_add_right _ _
        · rw [z]; exact Nat.le_refl _
      exact I1.fpOk hle (I1.hok.fresh hle)
    · obtain ⟨its, rv, p', hz⟩ := I1.tuple hq
      have hal : a < s1.heap.objs.size := by obtain ⟨o, ho, _⟩ := p'; exact Heap.lt_size ho
      refine PySem.W.enum1_begins (begins_tuple a its.toArray) p' fun h' he hit hsz hk => wpAny_pyIter_enum he ?_
      have I2 : Inv X pins σ H1 { s1 with heap := h' } := I1.kept (t' := s1.toks) hk
      refine ⟨s1.heap.objs.size + 1, [s1.heap.objs.size + 1, s1.heap.objs.size], _, _, H1, rfl, I2, turn_enumT a (s1.heap.objs.size + 1) s1.heap.objs.size, ⟨⟨.none, he⟩, ⟨_, hit, rfl, rfl⟩, Nat.succ_ne_self _, Nat.ne_of_lt hal, Nat.ne_of_lt (Nat.lt_succ_of_lt hal)⟩, fun b hb => ?_, q⟩
      have e' : b = s1.heap.objs.size + 1 ∨ b = s1.heap.objs.size := by simpa using hb
      have hle : s1.heap.objs.size ≤ b := by
        rcases e' with z | z
        · rw [z]; exact Nat.le_add_right _ _
        · rw [z]; exact Nat.le_refl _
      exact I1.fpOk hle (I1.hok.fresh hle)
section
variable {P : Pm} {n : Nat} {c : Sc} {X : Cx} {U : Hp}
theorem snd_enum (fa : Facts P n X) {a : E} {ea : Expr} {p pos tpos : Pos} {elts : List Expr} {kk : Nat} (hg : Gl X "enumerate") (ha : PA X [ea] (tEs P n (.cons a .nil))) (hst : starEach [ea] X.env = [(false, eval ea X.env)]) :
    PI X (.Tuple elts kk tpos) (.Call (.Name "enumerate" p) [ea] [] pos) (tI P n (.enum a)) := by
  refine PI.imp (pi_enumA hg (fa.free "enumerate" (by simp [freeNames])) ha hst) fun σ H R ⟨U, F, m, en, S, g, ds, S', hn, hs, hv, k⟩ => ?_
  simp only [evIt] at hv
  split at hv
  · rename_i d S1 h1
    split at hv
    · rename_i es h2
      cases hv
      have hes : evEs (orc P.G n) P.G (.cons a .nil) en S = some ([d], S') := by simp only [evEs, h1]
      refine tEs_seq hn hs hes fun F1 m1 vs H1 x1 n1 r1 p1 => ?_
      obtain ⟨v, rfl, hv⟩ := p1.one
      -- the pairs
      have fin : ∀ {vs : List V}, repL P F1 m1 es vs → ∀ U F2 m2 S2 H2 i x H3, Ext2 F1 m1 F2 m2 → RS P U F2 m2 S2 H2 → YPair (fun i => some (.int (i : Nat))) (fun i => vs[i]?) i H2 x H3 →
          ∃ F3 dd, Ext2 F2 m2 F3 m2 ∧ RS P U F3 m2 S2 H3 ∧ (es.zipIdx.map (fun p => DV.tup [.int p.2, p.1]))[i]? = some dd ∧ repV P F3 m2 dd x := by
        intro vs hr U F2 m2 S2 H2 i x H3 x2 r2 ⟨T, y, z, e1, e2, e3, e4, e5⟩
        obtain ⟨d2, g3, g4⟩ := hr.get' e5
        have e4 := Option.some.inj e4
        subst e4
        obtain ⟨F3, x3, r3, p3⟩ := pair_new (d := .int (i : Nat)) (e := d2) r2 e2 mk_int (g4.mon x2)
        subst e1 e3
        refine ⟨F3, _, x3, r3, ?_, p3⟩
        rw [List.getElem?_map, List.getElem?_zipIdx, g3]
        simp
      have tupc : ∀ {es' : List DV} {vs : List V} {b : Addr}, es' = es → SqT P.K F1 b vs → repL P F1 m1 es' vs → R (Itet X.K b) H1 := by
        intro es' vs b e0 h4 h5
        subst e0
        have hq : ∀ U F2 m2 S2 H2, Ext2 F1 m1 F2 m2 → RS P U F2 m2 S2 H2 → SqT X.K H2 b vs := fun U F2 m2 S2 H2 x2 r2 => fa.hK ▸ SqT.mon (fun b o e => r2.sub _ _ (x2.f _ _ e)) h4
        refine k F1 m1 H1 _ x1 r1 ?_
        have hl : (es'.zipIdx.map (fun p => DV.tup [.int p.2, p.1])).length = vs.length := by simp [h5.len]
        refine ⟨fun H => SqT X.K H b vs, YPair (fun i => some (.int (i : Nat))) (fun i => vs[i]?), ⟨fun i H hi g1 => ?_, fun H g1 => ⟨vs, g1, by rw [hl]; omega⟩, fun i H x H' hi g1 ⟨T, z, e1, e2, e3, e5⟩ => ⟨T, _, z, e1, e2, e3, rfl, e5 _ g1⟩⟩, fun _ F2 m2 S2 H2 x2 r2 _ => hq _ F2 m2 S2 H2 x2 r2, fun U' F2 m2 S2 H2 i x H3 x2 r2 _ hi y => fin h5 U' F2 m2 S2 H2 i x H3 x2 r2 y⟩
        rw [hl] at hi
        exact ⟨vs, vs[i], g1, by simp⟩
      have lstc : ∀ {vs : List V} {b : Addr}, (∀ U F2 m2 S2 H2, Ext2 F1 m1 F2 m2 → RS P U F2 m2 S2 H2 → SqL X.K H2 b vs) → repL P F1 m1 es vs → R (Ite X.K b) H1 := by
        intro vs b hq h5
        refine k F1 m1 H1 _ x1 r1 ?_
        have hl : (es.zipIdx.map (fun p => DV.tup [.int p.2, p.1])).length = vs.length := by simp [h5.len]
        refine ⟨fun H => SqL X.K H b vs, YPair (fun i => some (.int (i : Nat))) (fun i => vs[i]?), ?_, fun _ F2 m2 S2 H2 x2 r2 _ => hq _ F2 m2 S2 H2 x2 r2, fun U' F2 m2 S2 H2 i x H3 x2 r2 _ hi y => fin h5 U' F2 m2 S2 H2 i x H3 x2 r2 y⟩
        rw [hl]
        exact walk_enum
      unfold seqOf at h2
      split at h2
      · cases h2
        simp only [repV] at hv
        obtain ⟨b, vs, rfl, h4, h5⟩ := hv
        exact ⟨b, vs, rfl, .inr ⟨fa.hK ▸ SqT.mon r1.sub h4, tupc rfl h4 h5⟩⟩
      · cases h2
        simp only [repV] at hv
        obtain ⟨b, vs, rfl, h4, h5⟩ := hv
        exact ⟨b, vs, rfl, .inl ⟨.of (r1.sub _ _ h4), lstc (fun U F2 m2 S2 H2 x2 r2 => .of (r2.sub _ _ (x2.f _ _ h4))) h5⟩⟩
      · cases h2
        simp only [repV] at hv
        obtain ⟨b, vs, rfl, h4, h5⟩ := hv
        exact ⟨b, vs, rfl, .inl ⟨fa.hK ▸ SqL.mon r1.sub h4, lstc (fun U F2 m2 S2 H2 x2 r2 => fa.hK ▸ SqL.mon (fun b o e => r2.sub _ _ (x2.f _ _ e)) h4) h5⟩⟩
      · split at h2 <;> cases h2
      · cases h2
    · cases hv
  · cases hv
end
end Iv

set_option Elab.async false
set_option linter.all false
set_option maxRecDepth 100000
set_option maxHeartbeats 4000000
/-! IvU: texts; is True; class methods. -/
namespace Iv
open PySem L2 PySem.Spec PyProof.Rows
open PySem.Builtin.Str (padded tooLong)
section
variable {P : Pm} {n : Nat} {c : Sc} {X : Cx} {U : Hp}
theorem strs_rep {F m} : ∀ {ds : List DV} {xs : List (List Nat)} {vs : List V}, strsOf ds = some xs → repL P F m ds vs → vs = (xs.map SS).map V.str ∧ ds.length = xs.length
  | [], xs, vs, h, r => by simp only [strsOf] at h; cases h; rw [r.nil_inv]; exact ⟨rfl, rfl⟩
  | d :: ds, xs, vs, h, r => by
    cases d <;> simp only [strsOf] at h <;> try (cases h; done)
    rename_i x
    cases h1 : strsOf ds with
    | none => rw [h1] at h; cases h
    | some ys =>
      rw [h1] at h
      have h := Option.some.inj h
      subst h
      obtain ⟨v, t, rfl, p, q⟩ := r.cons_inv
      have := rep_str p; subst this
      obtain ⟨e1, e2⟩ := strs_rep h1 q
      subst e1
      exact ⟨rfl, by simp [e2]⟩
theorem glue_fold (a : List Nat) : ∀ (xs : List (List Nat)) (acc : List Nat), ((xs.map SS).foldl (fun acc p => acc ++ (SS a).cps ++ p.cps) acc.toArray) = (acc ++ (xs.map fun x => a ++ x).flatten).toArray
  | [], acc => by simp
  | x :: xs, acc => by
    rw [List.map_cons, List.foldl_cons]
    have e : acc.toArray ++ (SS a).cps ++ (SS x).cps = (acc ++ a ++ x).toArray := by simp [SS]
    rw [e, glue_fold a xs (acc ++ a ++ x)]
    simp [List.append_assoc]
theorem joinL_flat (a : List Nat) : ∀ (x : List Nat) (xs : List (List Nat)), joinL a (x :: xs) = x ++ (xs.map fun y => a ++ y).flatten
  | x, [] => by simp [joinL]
  | x, y :: r => by
    rw [joinL, joinL_flat a y r]
    simp [List.append_assoc]
theorem glue_SS (a : List Nat) : ∀ xs : List (List Nat), Txt.join (SS a) (xs.map SS) = SS (joinL a xs)
  | [] => rfl
  | x :: r => by
    show (⟨((r.map SS).foldl (fun acc p => acc ++ (SS a).cps ++ p.cps) (SS x).cps)⟩ : Str) = _
    rw [glue_fold a r x, joinL_flat]
theorem snd_join (fa : Facts P n X) {s : String} {a : E} {j : Int} {ea : Expr} {p apos pos : Pos} {kk} (ha : PE X ea (tE P n a)) (hst : starEach [ea] X.env = [(false, eval ea X.env)]) (hline : (apos.endLine == pos.line) = true) :
    PE X (.Call (.Attribute (.Constant (.str (st s)) kk p) "join" apos) [ea] [] pos) (tE P n (.join s a)) := by
  refine PE.imp (pe_join pe_str ha hst rfl hline) fun σ H Q ⟨U, F, m, en, S, d, S', hn, hs, hv, k⟩ => ?_
  refine ⟨⟨_, rfl⟩, ?_⟩
  simp only [Ev, evE] at hv
  split at hv
  · rename_i d1 S1 h1
    split at hv
    · rename_i g ds h2
      split at hv
      · rename_i xs h3
        split at hv
        · rename_i hz
          cases hv
          refine tE_seq hn hs h1 fun F1 m1 v H1 x1 n1 r1 p1 => ?_
          have fin : ∀ {q : Addr} {vs : List V}, repL P F1 m1 ds vs → (SqL X.K H1 q vs ∨ SqT X.K H1 q vs) → v = .ref q → ∃ a p, ∃ ys : List Str, V.str (st s) = .str a ∧ [v] = [.ref p] ∧ (SqL X.K H1 p (ys.map V.str) ∨ SqT X.K H1 p (ys.map V.str)) ∧ (ys.map (·.length)).sum + ys.length * a.length ≤ 16777216 ∧ Q (.str (Txt.join a ys)) H1 := by
            intro q vs hr hq e
            obtain ⟨e1, e2⟩ := strs_rep h3 hr
            subst e1
            refine ⟨st s, q, xs.map SS, rfl, by rw [e], hq, ?_, ?_⟩
            · rw [st_cs, List.map_map, List.length_map]
              have : ((fun x : Str => x.length) ∘ SS) = List.length := funext fun x => SS_len x
              rw [this, SS_len]
              exact hz
            · rw [st_cs, glue_SS]
              exact k F1 m1 _ H1 x1 r1 mk_str
          unfold seqOf at h2
          split at h2
          · cases h2
            simp only [repV] at p1
            obtain ⟨q, vs, e, t1, t2⟩ := p1
            exact fin t2 (.inr (fa.hK ▸ SqT.mon r1.sub t1)) e
          · cases h2
            simp only [repV] at p1
            obtain ⟨q, vs, e, t1, t2⟩ := p1
            exact fin t2 (.inl (.of (r1.sub _ _ t1))) e
          · cases h2
            simp only [repV] at p1
            obtain ⟨q, vs, e, t1, t2⟩ := p1
            exact fin t2 (.inl (fa.hK ▸ SqL.mon r1.sub t1)) e
          · split at h2
            · rename_i es hk
              cases h2
              obtain ⟨q, vs, e, _, t1, t2⟩ := ref_lst r1 p1 hk
              exact fin t2 (.inl (.of t1)) e
            · cases h2
          · cases h2
        · cases hv
      · cases hv
    · cases hv
  · cases hv
theorem zfill_SS {x : List Nat} {j : Int} (h0 : 0 ≤ j) (hx : ∀ c ∈ x, 48 ≤ c ∧ c ≤ 57) : Txt.zfill (SS x) j = SS (zfillL x j.toNat) := by
  unfold Txt.zfill zfillL
  rw [SS_len]
  split
  · rename_i h
    have : j.toNat - x.length = 0 := by omega
    rw [this]; rfl
  · unfold zfilled
    have : padded (SS x) (j.toNat - x.length) 0 48 = SS (List.replicate (j.toNat - x.length) 48 ++ x) := by
      unfold padded
      simp [SS]
    split
    · rename_i h
      have : (x[0]? : Option Nat) = some 43 := by simpa using h
      have hm := hx 43 (List.mem_of_getElem? this)
      omega
    · rename_i h
      have : (x[0]? : Option Nat) = some 45 := by simpa using h
      have hm := hx 45 (List.mem_of_getElem? this)
      omega
    · exact this
theorem snd_zfill {a b : E} {ea eb : Expr} {apos pos : Pos} (ha : PE X ea (tE P n a)) (hb : PE X eb (tE P n b)) (hp : plain0 ea = true) (hst : starEach [eb] X.env = [(false, eval eb X.env)]) (hline : (apos.endLine == pos.line) = true) :
    PE X (.Call (.Attribute ea "zfill" apos) [eb] [] pos) (tE P n (.zfill a b)) := by
  refine PE.imp (pe_m1 PySem.F.slot_str_zfill PySem.F.type_str_zfill mt_zfill ha hb hst (attr_plain hp) hline) fun σ H Q ⟨U, F, m, en, S, d, S', hn, hs, hv, k⟩ => ?_
  simp only [Ev, evE] at hv
  split at hv
  · rename_i x S1 h1
    split at hv
    · rename_i j S2 h2
      split at hv
      · rename_i hc
        cases hv
        refine tE_seq hn hs h1 fun F1 m1 v H1 x1 n1 r1 p1 => ?_
        have := rep_str p1; subst this
        refine ⟨⟨_, rfl⟩, tE_seq n1 r1 h2 fun F2 m2 w H2 x2 n2 r2 p2 => ?_⟩
        have := rep_int p2; subst this
        obtain ⟨h0, h3, h4⟩ := hc
        refine ⟨SS x, j, rfl, rfl, ?_, ?_⟩
        · unfold PadOk fitsSsize tooLong
          simp
          have := size_line
          omega
        · rw [zfill_SS h0 (by simpa using h4)]
          exact k F2 m2 _ H2 (x1.trans x2) r2 mk_str
      · cases hv
    · cases hv
  · cases hv
/-! ### f-strings -/
theorem snd_fmt {a : E} {ea : Expr} {pos : Pos} (ha : PE X ea (tE P n a)) : PE X (.FormattedValue ea (-1) none pos) (tE P n (.fmt a)) := by
  refine PE.imp (pe_fmt ha) fun σ H Q ⟨U, F, m, en, S, d, S', hn, hs, hv, k⟩ => ?_
  simp only [Ev, evE] at hv
  split at hv
  · rename_i x S1 h1
    split at hv
    · rename_i hz
      cases hv
      refine tE_seq hn hs h1 fun F1 m1 v H1 x1 n1 r1 p1 => ?_
      have := rep_str p1; subst this
      exact .inl ⟨SS x, rfl, by rw [SS_len, size_line]; exact hz, k F1 m1 _ H1 x1 r1 mk_str⟩
    · cases hv
  · cases hv
inductive TsOf (P : Pm) (n : Nat) : Es → List TE → Prop where
  | nil : TsOf P n .nil []
  | cons {a : E} {r : Es} {ts : List TE} (t : TsOf P n r ts) : TsOf P n (.cons a r) (tE P n a :: ts)
theorem fstr_run {as : Es} {ts : List TE} (h : TsOf P n as ts) : ∀ {acc : List Nat} {xs : List (List Nat)} {U F m en σ S H ds S'} {Q : Str → Hp → Prop}, Rn P F m en σ → RS P U F m S H → evEs (orc P.G n) P.G as en S = some (ds, S') → strsOf ds = some xs →
    acc.length + xs.flatten.length ≤ 16777216 → (∀ F' m' H', Ext2 F m F' m' → RS P U F' m' S' H' → Q (SS (acc ++ xs.flatten)) H') → tJs ts (SS acc) σ H Q := by
  induction h with
  | nil =>
    intro acc xs U F m en σ S H ds S' Q hn hs he hx hz k
    simp only [evEs] at he
    cases he
    simp only [strsOf] at hx
    cases hx
    have := k F m H .rfl' hs
    simpa [tJs] using this
  | cons t ih =>
    intro acc xs U F m en σ S H ds S' Q hn hs he hx hz k
    simp only [evEs] at he
    split at he
    · rename_i d S1 h1
      split at he
      · rename_i ds2 S2 h2
        cases he
        cases d <;> simp only [strsOf] at hx <;> try (cases hx; done)
        rename_i x
        cases h3 : strsOf ds2 with
        | none => rw [h3] at hx; cases hx
        | some ys =>
          rw [h3] at hx
          have hx := Option.some.inj hx
          subst hx
          rw [List.flatten_cons, List.length_append] at hz
          refine tE_seq hn hs h1 fun F1 m1 v H1 x1 n1 r1 p1 => ?_
          have := rep_str p1; subst this
          refine ⟨SS x, rfl, ?_, ?_⟩
          · rw [SS_app, SS_len, size_line, List.length_append]; omega
          · rw [SS_app]
            refine ih n1 r1 h2 h3 (by rw [List.length_append]; omega) fun F' m' H' x2 r2 => ?_
            have := k F' m' H' (x1.trans x2) r2
            simpa [List.append_assoc] using this
      · cases he
    · cases he
theorem snd_fstr {as : Es} {ts : List TE} {v1 v2 : Expr} {rest : List Expr} {pos : Pos} (h : PJ X (v1 :: v2 :: rest) ts) (ht : TsOf P n as ts) : PE X (.JoinedStr (v1 :: v2 :: rest) pos) (tE P n (.fstr as)) := by
  refine PE.imp (pe_joined h) fun σ H Q ⟨U, F, m, en, S, d, S', hn, hs, hv, k⟩ => ?_
  simp only [Ev, evE] at hv
  split at hv
  · rename_i ds S1 h1
    split at hv
    · rename_i xs h2
      split at hv
      · rename_i hz
        cases hv
        refine fstr_run (acc := []) ht hn hs h1 h2 (by simpa using hz) fun F' m' H' x r => ?_
        exact k F' m' _ H' x r (by simpa using mk_str)
      · cases hv
    · cases hv
  · cases hv
end
end Iv

set_option Elab.async false
set_option linter.all false
set_option maxRecDepth 100000
set_option maxHeartbeats 4000000
/-! IvUb: o.f(..), f a field that holds an instance. -/
namespace Iv
open PySem L2 PySem.Spec PyProof.Rows
section
variable {P : Pm} {n : Nat} {c : Sc} {X : Cx} {U : Hp}
theorem zip_mem : ∀ {ns : List String} {ds : List DV} {f : String} {d : DV}, (ns.zip ds).lookup f = some d → f ∈ ns
  | [], _, _, _, h => by simp at h
  | _ :: _, [], _, _, h => by simp at h
  | a :: ns, b :: ds, f, d, h => by
    rw [List.zip_cons_cons, List.lookup_cons] at h
    cases hq : f == a with
    | true => rw [beq_iff_eq.mp hq]; exact List.mem_cons_self
    | false => rw [hq] at h; exact List.mem_cons_of_mem _ (zip_mem h)
theorem fld_read (fa : Facts P n X) {F1 m1 S1 H1} {x : DV} {f : String} {d : DV} {v1 : V} (r1 : RS P U F1 m1 S1 H1) (p1 : repV P F1 m1 x v1) (h2 : fldD P.G x f S1 = some d) :
    ∃ a C dx fs w, v1 = .ref a ∧ H1 a = some (.ins C dx fs) ∧ Cls X.K C ∧ NoAttr X.K C (st f) ∧ fs.lookup (st f) = some w ∧ repV P F1 m1 d w := by
  unfold fldD at h2
  split at h2
  · rename_i c0 ds
    unfold fieldOf at h2
    have hmem : f ∈ P.G.fld c0 := zip_mem h2
    have hC := fa.cls c0 (fa.fcl c0 f hmem)
    simp only [repV] at p1
    obtain ⟨a, dx, fs, rfl, ha, hnm, hr, _⟩ := p1
    obtain ⟨w, h3, h4⟩ := zip_lookup h2 hnm hr
    exact ⟨a, P.cl c0, dx, fs, w, rfl, r1.sub _ _ ha, hC.cl, hC.noat f hmem, h3, h4⟩
  · rename_i kk
    split at h2
    · rename_i c0 fs h3
      simp only [repV] at p1
      obtain ⟨a, rfl, hk⟩ := p1
      obtain ⟨dx, vs, h4, h5, h6⟩ := r1.cel kk a _ hk h3
      split at h2
      · rename_i hmem
        have hC := fa.cls c0 (fa.fcl c0 f hmem)
        rw [lookup_zip] at h2
        obtain ⟨w, h7, h8⟩ := zip_lookup h2 (by rw [h5, List.map_map]; rfl) h6
        exact ⟨a, P.cl c0, dx, vs, w, rfl, h4, hC.cl, hC.noat f hmem, h7, h8⟩
      · cases h2
    · cases h2
  · cases h2
theorem snd_appF (fa : Facts P n X) {o : E} {f c0 : String} {as : Es} {eo : Expr} {apos pos : Pos} {e : Expr} {es : List Expr} (hc0 : c0 ≠ "") (ho : PE X eo (tE P n o)) (hp : plain0 eo = true) (hl : (apos.endLine == pos.line) = true) (ha : PA X (e :: es) (tEs P n as))
    (hst : (starEach (e :: es) X.env).all (!·.1) = true) (hlen : (e :: es).length < 30)
    (he : starEach (e :: es) X.env = (false, eval e X.env) :: starEach es X.env) (hpl : (backTo pos (starEach es X.env)).any (·.1) = false) : PE X (.Call (.Attribute eo (st f) apos) (e :: es) [] pos) (tE P n (.app (.fld o f) c0 as)) := by
  refine ⟨fun pins s σ H Q I ⟨U, F, m, en, S, d, S', hn, hs, hv, k⟩ => ?_⟩
  simp only [Ev, evE] at hv
  split at hv
  · rename_i c' es' S1 h1
    split at h1
    · rename_i dv S0 h0
      split at h1
      · rename_i v0 hfd
        cases h1
        split at hv
        · rename_i hc; subst hc
          split at hv
          · rename_i ds S2 h2
            obtain ⟨fn, hG⟩ := orc_fn hv
            obtain ⟨g, hf⟩ := fa.fns _ _ hG
            rcases id hf.loc with ⟨h0', _⟩ | ⟨_, hcl, hm⟩
            · exact absurd h0' hc0
            refine PySem.W.methodCall_KW (pl := plainOf eo X.env) (thn (ho.run pins s σ H (fun x H1 => ∃ F1 m1, Ext2 F m F1 m1 ∧ Rn P F1 m1 en σ ∧ RS P U F1 m1 S1 H1 ∧ repV P F1 m1 dv x) I ?_) fun u s1 ⟨x, H1, I1, rx, F1, m1, x1, n1, r1, p1⟩ => ?_) (meth_form hp hl hst hlen)
            · exact tE_seq hn hs h0 fun F1 m1 v1 H1 x1 n1 r1 p1 => ⟨F1, m1, x1, n1, r1, p1⟩
            obtain ⟨b, C, dx, fs, w, rfl, eb, cC, nA, hlk, pw⟩ := fld_read fa r1 p1 hfd
            obtain rfl : u = Value.ref b := rx
            obtain ⟨mB, O, _, _, _, _⟩ := ins_get I1.hok eb
            obtain ⟨odB, JB, _⟩ := O.look
            refine PySem.W.method_usual (r := none) I1.kIn JB (PySem.W.plainGet_of (cC.get (st f))).1 (PySem.W.plainGet_of (cC.get (st f))).2 nA rfl (getattr_ok I1 eb cC nA hlk fun u' s2 I2 ru => ?_)
            obtain ⟨a, dx, fs, rfl, ea, _⟩ := obj_ins r1 pw
            obtain rfl : u' = Value.ref a := ru
            refine StX.callO_with (thn (ha.run pos pins s2 σ H1 (fun vs H2 => ∃ F2 m2, Ext2 F1 m1 F2 m2 ∧ RS P U F2 m2 S2 H2 ∧ repL P F2 m2 ds vs) I2 ?_) fun us s3 ⟨vs, H2, I3, r', F2, m2, x2, r2, p2⟩ => ?_) he hpl
            · exact tEs_seq n1 r1 h2 fun F2 m2 vs H2 x2 _ r2 p2 => ⟨F2, m2, x2, r2, p2⟩
            · obtain ⟨a', dx', fs', ez, ea', _⟩ := obj_ins r2 (pw.mon x2)
              cases ez
              obtain ⟨ox, od, J, hd⟩ := StX.insC_at I3 (.inr ⟨dx', fs', ea'⟩)
              refine ⟨⟨_, ox, od, J, hd⟩, ?_⟩
              cases n with
              | zero => rw [orc_none] at hv; cases hv
              | succ j =>
                exact wpAny_call (PySem.W.kco_code I3.kIn J hd hm.at_ hm.fn (hf.fi hc0) (call_code fa (Nat.le_refl _) hf (us := .ref a :: us) I3 r2 (.cons (pw.mon x2) p2) (.cons rfl r') hG hv fun F' m' v H' x => k F' m' v H' ((x1.trans x2).trans x)))
          · cases hv
        · cases hv
      · cases h1
    · cases h1
  · cases hv
end
end Iv

set_option Elab.async false
set_option linter.all false
set_option maxRecDepth 100000
set_option maxHeartbeats 2000000
/-! IvUc: own iterators over a tuple: for, list(..). -/
namespace Iv
open PySem L2 PySem.Spec PyProof.Rows
section
variable {P : Pm} {n : Nat} {c : Sc} {X : Cx} {U : Hp}
/-- iter(o): an iterator over the tuple, not tracked -/
theorem own_pyIter (fa : Facts P n X) {A : Around} (hfr : A.frames = X.A.frames) (hA : Room 1 A) (hn : 1 ≤ n) {c0 f : String} (hI : P.G.itf c0 = some f) {pins σ H s F m S ds ds'} {a : Addr} (I : Inv X pins σ H s) (hs : RS P U F m S H)
    (hv : repV P F m (.obj c0 ds) (.ref a)) (hf : fieldOf P.G c0 f ds = some (.tup ds')) {Q : Value → Shared → Prop}
    (k : ∀ it b ws F' m' H' s', Ext2 F m F' m' → RS P U F' m' S H' → SqT P.K F' b ws → repL P F' m' ds' ws → Inv X pins σ H' s' → FpOk X pins H' it → s'.heap.IsTupleIter it b 0 → Q (.ref it) s') :
    wpAny (model X.prog X.w) A (pyIter (.ref a)) Q X.xe s := by
  obtain ⟨⟨fi, hm, run⟩, _, _⟩ := fa.its c0 f hI
  have hv' := hv
  obtain ⟨a', dx, fs, ea, ha, _⟩ := obj_ins hs hv
  cases ea
  obtain ⟨mA, J, _⟩ := ins_get I.hok ha
  obtain ⟨od, J, _⟩ := J.look
  obtain ⟨mm, hF⟩ := I.fr
  have e0 : Env0 X.prog X.w X.K X.mg X.base A X.stack s H := by
    have e := I.env0
    exact ⟨by rw [hfr]; exact e.frames, e.mod, e.bs, e.bsz, e.funs, e.frf, e.hok, e.bare⟩
  refine PySem.W.owit_iter hF I.ok.mod.kin J hm.at_ hm.fn (wpAny_call (codeAny_mono (run hn A X.stack s H U F m S ds ds' a hA e0 hs hv' hf) fun r s' hq => ?_))
  cases r with
  | error e => exact False.elim hq
  | ok fl =>
    cases fl with
    | next => exact False.elim hq
    | brk => exact False.elim hq
    | cont => exact False.elim hq
    | ret u =>
      obtain ⟨v, H2, I2, rv, it, b, ws, F', m', H', rfl, eH, hit, hn', x1, r1, q1, p1⟩ := I.after hq
      obtain rfl : u = Value.ref it := rv
      subst eH
      have hT : upd H' it (TiO b it) it = some (TiO b it) := upd_same
      have st : s'.heap.IsTupleIter it b 0 := (I2.hok it _ hT).1
      have hT' := hT
      unfold TiO at hT'
      have I3 := ItX.inv_drop I2 hT'
      have fp := ItX.inv_fp I2 hT (Nat.le_trans I.sz hit)
      have eH2 : ItX.dropH (upd H' it (TiO b it)) it = H' := ItX.dropH_upd hn'
      rw [eH2] at I3 fp
      unfold PySem.W.OwitIt
      exact wpAny_specialOf (name := Str.ofString "__next__") st.typeIs PySem.F.slot_tuple_iterator_next.lookup (k it b ws F' m' H' s' x1 r1 q1 p1 I3 fp st)
/-- for x in o -/
theorem snd_own (fa : Facts P n X) {tg : Expr} {e : E} {ee : Expr} (he : PE X ee (tE P n e)) : PI X tg ee (tI P n (.own e)) := by
  refine ⟨fun pins s σ H R I ⟨U, F, m, en, S, g, ds, S', hn, hs, hv, k⟩ => ?_⟩
  simp only [evIt] at hv
  split at hv
  · rename_i c0 es S1 h1
    split at hv
    · rename_i f hI
      split at hv
      · rename_i ds' hf
        split at hv
        · rename_i hlv
          cases hv
          rw [orc_lv] at hlv
          refine thn (he.run pins s σ H (fun x H1 => ∃ F1 m1, Ext2 F m F1 m1 ∧ RS P U F1 m1 S' H1 ∧ repV P F1 m1 (.obj c0 es) x) I ?_) fun u s1 ⟨x, H1, I1, rx, F1, m1, x1, r1, p1⟩ => ?_
          · exact tE_seq hn hs h1 fun F1 m1 v1 H1 x1 n1 r1 p1 => ⟨F1, m1, x1, r1, p1⟩
          · obtain ⟨a, dx, fs, rfl, ea, _⟩ := obj_ins r1 p1
            obtain rfl : u = Value.ref a := rx
            refine own_pyIter fa rfl (fa.room.mono hlv) hlv hI I1 r1 p1 hf fun it b ws F' m' H' s' x2 r2 q2 p2 I2 fp st => ?_
            have hq : SqT X.K H' b ws := fa.hK ▸ SqT.mon r2.sub q2
            have hit : IterR P F' m' none ds (Itt X.K b) := by
              refine ⟨_, _, (by rw [p2.len]; exact walk_tup (K := X.K) (a := b) (xs := ws)), fun _ F1 m1 S1 H1 x1 r1 _ => fa.hK ▸ SqT.mon (fun b o e => r1.sub _ _ (x1.f _ _ e)) q2, fun _ F1 m1 S1 H1 i x H2 x1 r1 _ hi y => yat_rep p2 x1 r1 hi y⟩
            exact ⟨it, [it], _, _, H', rfl, I2, turn_tuple b it, st, fun b hb => by rw [show b = it by simpa using hb]; exact fp, k F' m' H' _ (x1.trans x2) r2 hit⟩
        · cases hv
      · cases hv
    · cases hv
  · cases hv
end
end Iv

set_option Elab.async false
set_option linter.all false
set_option maxRecDepth 100000
set_option maxHeartbeats 2000000
/-! IvUd: list(o) of an own iterator over a tuple. -/
namespace Iv
open PySem L2 PySem.Spec PyProof.Rows
section
variable {P : Pm} {n : Nat} {c : Sc} {X : Cx} {U : Hp}
theorem RS.relist {F m S H} {q : Addr} {xs ys : List V} (r : RS P (upd U q (.lst xs)) F m S H) (hU : U q = none) : RS P (upd U q (.lst ys)) F m S (upd H q (.lst ys)) := by
  obtain ⟨h1, h2, h3⟩ := r.un q (.lst xs) upd_same
  exact (r.back hU).aside upd_same h2 h3
/-- the walk that fills the list at q -/
theorem own_fill {Rs : Result → Shared → Prop} {A1 : Around} (hh : A1.in1.handled = none) {pins σ F m S} {b q it : Addr} {ws : List V} (hq : SqT X.K F b ws) (hz : ws.length ≤ sizeLine) (hU : U q = none) (hUq : True)
    (hdone : ∀ H s, Inv X pins σ H s → RS P (upd U q (.lst ws)) F m S H → Rs (.ok (.ret .none)) s) :
    ∀ (k i : Nat) (H : Hp) (s : Shared), i + k = ws.length → Inv X pins σ H s → RS P (upd U q (.lst (ws.take i))) F m S H → FpOk X pins H it → s.heap.IsTupleIter it b i → codeAny (model X.prog X.w) A1 (.builtin "list.extend.loop" ⟨[.ref q, .ref it, .none], []⟩) Rs s
  | k, i, H, s, hik, I, r, fp, st => by
    refine codeAny_builtin PySem.F.entry_extend_loop ?_
    rw [Around.under_plainId PySem.F.plain_extend_loop _]
    show wpAny _ A1.in1 (pyNext (.ref it) >>= _) _ _ s
    have hqH : SqT X.K H b ws := SqT.mon r.sub hq
    obtain ⟨its, rv, p, hz'⟩ := I.tuple hqH
    have hl := rv.length
    obtain ⟨f0, f1, f2, f3, f4, f5⟩ := fp
    obtain ⟨hHq, hFq, hmq⟩ := r.un q _ upd_same
    have hne : q ≠ it := fun e => by rw [e] at hHq; rw [hHq] at f0; cases f0
    cases k with
    | zero =>
      have hi : i = ws.length := by omega
      subst hi
      rw [List.take_length] at r
      refine wpAny_bind (wpAny_pyNext_tuple_end hh st (show s.heap.IsTuple b its.toArray from p) (by simp; omega) fun h' eb => ?_)
      have I1 : Inv X pins σ H { s with heap := h' } := I.turned (t' := s.toks) (fun b o hb e => eb b o hb e) f0 f1 f3 f4 f5
      exact wpAny_pure (hdone H _ I1 r)
    | succ k =>
      have hi : i < ws.length := by omega
      obtain ⟨u, hu, ru⟩ := rv.get (List.getElem?_eq_getElem hi)
      refine wpAny_bind (wpAny_pyNext_tuple_item st (show s.heap.IsTuple b its.toArray from p) (x := u) (by simpa using hu) fun h' st' sb => ?_)
      have I1 : Inv X pins σ H { s with heap := h' } := I.turned (t' := s.toks) (fun b o hb e => (sb.2 b hb).trans e) f0 f1 f3 f4 f5
      show wpAny _ A1.in1 (updateSeq q (·.push u) >>= _) _ _ _
      obtain ⟨z, its2, k2, r2, hl2, e⟩ := I1.lstM hHq
      have hl3 := r2.length
      have hl4 : (ws.take i).length = i := by rw [List.length_take]; omega
      refine wpAny_bind (wpAny_updateSeq e rfl (wpAny_pure ⟨plainId_quiet PySem.F.plain_extend_loop _, ?_⟩) (by rw [List.size_toArray]; omega) (by show (its2.toArray.push u).size ≤ sizeLine + 1; rw [Array.size_push, List.size_toArray]; omega))
      have e2 : ws.take i ++ [ws[i]] = ws.take (i + 1) := by rw [List.take_succ, List.getElem?_eq_getElem hi]; rfl
      have I2 := I1.lset (f := (·.push u)) (its' := its2 ++ [u]) (ys := ws.take i ++ [ws[i]]) (t' := s.toks) hHq e (by simp) (r2.append (.cons ru .nil)) (by rw [List.length_append, List.length_singleton]; omega)
      have r3 : RS P (upd U q (.lst (ws.take (i + 1)))) F m S (upd H q (.lst (ws.take (i + 1)))) := r.relist hU
      rw [e2] at I2
      refine own_fill hh hq hz hU hUq hdone k (i + 1) _ _ (by omega) I2 r3 ⟨?_, f1, f2, f3, f4, f5⟩ ?_
      · rw [upd_ne (Ne.symm hne)]; exact f0
      · exact st'.at fun o ho => (Heap.get?_update_other _ _ hne).trans ho
/-- list(o) -/
def rLsto (P : Pm) (n : Nat) : List V → Hp → VK → Prop := fun xs H Q => ∃ U F m S c0 f es ds', RS P U F m S H ∧ repL P F m [.obj c0 es] xs ∧ P.G.itf c0 = some f ∧ fieldOf P.G c0 f es = some (.tup ds') ∧ 3 ≤ n ∧ ds'.length ≤ 16777216 ∧
  ((P.G.fn (c0, "__len__") = none ∧ ∀ F' m' D vs H', Ext2 F m F' m' → U D = none → RS P (upd U D (.lst vs)) F' m' S H' → repL P F' m' ds' vs → Q (.ref D) H') ∨
   (∃ k S', (orc P.G n).call 3 (c0, "__len__") [.obj c0 es] S = some (.int k, S') ∧ 0 ≤ k ∧ k ≤ 16777216 ∧ ∀ F' m' D vs H', Ext2 F m F' m' → U D = none → RS P (upd U D (.lst vs)) F' m' S' H' → repL P F' m' ds' vs → Q (.ref D) H'))
theorem un_none2 {F m S H} (hs : RS P U F m S H) {p : Addr} (hp : H p = none) : U p = none := by
  cases q : U p with
  | none => rfl
  | some o => have := (hs.un p o q).1; rw [hp] at this; cases this
theorem in1_frames {A : Around} : A.in1.frames = A.frames := rfl
theorem in1_sub {k : Nat} {A : Around} (h : Sub X (k + 1) A) : Sub X k A.in1 := Sub.in1 h
theorem call_lowE (fa : Facts P n X) {A : Around} (hfr : A.frames = X.A.frames) {lv : Nat} (hA : ∀ j, n = j + lv → Room j A) {key : Key} {fn : Fn} {f : Addr} (hf : FnAt P n X key fn f) {pins σ H s Q F m S ds us d S'} {vs : List V} {E : Value → Shared → Prop} (I : Inv X pins σ H s) (hs : RS P U F m S H) (hr : repL P F m ds vs) (rv : Vals vs us)
    (hG : P.G.fn key = some fn) (hc : (orc P.G n).call lv key ds S = some (d, S')) (k : ∀ F' m' v H', Ext2 F m F' m' → RS P U F' m' S' H' → repV P F' m' d v → Q v H') :
    wpAny (model X.prog X.w) A (call (.ref f) us) (EP X pins σ Q) E s := by
  obtain ⟨j, e, hc⟩ := orc_low hc
  obtain ⟨_, _, fd, ps, ok, hl, hb⟩ := hf
  have F1 := ok j (by omega)
  rw [orc_zero, hG] at hc
  dsimp only at hc
  have hnp : (fillD fn ds).length = fn.np := by
    unfold evFn at hc
    split at hc
    · assumption
    · cases hc
  have h1 : ds.length ≤ fn.np := by rw [← hnp]; unfold fillD; rw [List.length_append]; omega
  have h2 : fn.np ≤ ds.length + fn.dfl.length := by
    rw [← hnp]; unfold fillD; rw [List.length_append, List.length_drop]; omega
  obtain ⟨dvs, us', rd, bd, rp⟩ := hb ds.length h1 h2
  have hsp : spF P j fn (vs ++ dvs) H Q E0 := ⟨U, F, m, S, fillD fn ds, d, S', hs, hr.app (rp F m), hc, k⟩
  have r2 : Vals (vs ++ dvs) (us ++ us') := rv.append rd
  have hlen : (us ++ us').length = ps.length := by rw [← r2.length]; exact F1.len _ _ _ _ hsp
  have e0 : Env0 X.prog X.w X.K X.mg X.base A X.stack s H := by
    have e := I.env0
    exact ⟨by rw [hfr]; exact e.frames, e.mod, e.bs, e.bsz, e.funs, e.frf, e.hok, e.bare⟩
  refine wpAny_call (codeAny_mono (F1.run A X.stack s H ⟨us, []⟩ (us ++ us') (vs ++ dvs) Q E0 (hA (j + 1) (by omega)) e0 (bd s us I.kIn hlen) r2 hsp) fun r s' hq => ?_)
  cases r with
  | error e => exact False.elim hq
  | ok fl =>
    cases fl with
    | ret u => exact I.after hq
    | next => exact False.elim hq
    | brk => exact False.elim hq
    | cont => exact False.elim hq
/-- the length hint of an own iterator -/
theorem own_hintD (fa : Facts P n X) {A : Around} (hfr : A.frames = X.A.frames) (hA : ∀ j, n = j + 3 → Room j A.in1) {c0 f : String} {es : List DV} (hI : P.G.itf c0 = some f) {pins σ H s F m S} {a : Addr} {R : Bool → Shared → Prop} (I : Inv X pins σ H s) (hs : RS P U F m S H) (hv : repV P F m (.obj c0 es) (.ref a))
    (h : (P.G.fn (c0, "__len__") = none ∧ ∀ b s', Inv X pins σ H s' → s'.heap = s.heap → R b s') ∨
      (∃ k S', (orc P.G n).call 3 (c0, "__len__") [.obj c0 es] S = some (.int k, S') ∧ 0 ≤ k ∧ k ≤ 16777216 ∧ ∀ b F' m' H' s', Ext2 F m F' m' → RS P U F' m' S' H' → Inv X pins σ H' s' → R b s')) :
    wpAny (model X.prog X.w) A (Builtin.List.listLengthHint (.ref a)) R X.xe s := by
  obtain ⟨_, hhint, hnl⟩ := fa.its c0 f hI
  have hv' := hv
  obtain ⟨a', dx, fs, ea, ha, _⟩ := obj_ins hs hv
  cases ea
  obtain ⟨mA, J, _⟩ := ins_get I.hok ha
  obtain ⟨od, J, _⟩ := J.look
  obtain ⟨mm, hF⟩ := I.fr
  unfold Builtin.List.listLengthHint
  rcases h with ⟨hg, hR⟩ | ⟨k, S', hc, h0, h1, hR⟩
  · refine wpAny_bind (wpAny_bind (J.type.here ((PySem.W.looks_findIn I.kIn (hnl hg)).here ?_)))
    refine PySem.W.KFB.if_not rfl ?_
    refine PySem.W.KFB.if_not rfl ?_
    refine wpAny_bind (wpAny_bind (J.type.here ((PySem.W.looks_findIn I.kIn hhint).here ?_)))
    exact wpAny_pure (hR _ _ I rfl)
  · obtain ⟨fn, hG⟩ : ∃ fn, P.G.fn (c0, "__len__") = some fn := by
      obtain ⟨j, _, h2⟩ := orc_low hc
      exact orc_fn h2
    obtain ⟨fl, hf⟩ := fa.fns _ _ hG
    rcases id hf.loc with ⟨h0, _⟩ | ⟨_, hcl, hm⟩
    · simp only at h0
      subst h0
      rw [fa.emp _ (by simp [dunNames])] at hG; cases hG
    refine wpAny_bind (wpAny_bind (J.type.here ((PySem.W.looks_findIn I.kIn hm.at_).here ?_)))
    refine PySem.W.KFB.if_not rfl ?_
    refine PySem.W.KFB.if_so rfl ?_
    refine wpAny_bind (wpAny_rule ?_)
    refine wpAny_bind (wpAny_attempt ?_)
    refine PySem.W.len_K hF I.ok.mod.kin J hm.at_ hm.fn ?_
    refine wpAny_mono (call_lowE fa (A := A.in1) hfr (lv := 3) hA hf (us := [.ref a]) (E := fun _ _ => False) I hs (repL.cons hv' .nil) (.cons rfl .nil) hG hc (Q := fun v H' => v = .int k ∧ ∃ F' m', Ext2 F m F' m' ∧ RS P U F' m' S' H') (fun F' m' v H' x1 r1 p1 => ?_)) (fun u s' hq => ?_) fun e s' he => False.elim he
    · rw [rep_int p1]
      exact ⟨rfl, F', m', x1, r1⟩
    · obtain ⟨z, H', I', rz, ez, F', m', x1, r1⟩ := hq
      subst ez
      obtain ⟨t, rfl⟩ := rz
      refine ⟨⟨h0, by omega⟩, ?_⟩
      have hlong : Builtin.List.listTooLong k.toNat = false := by
        unfold Builtin.List.listTooLong
        rw [size_line]
        simp
        omega
      show wpAny _ _ (asInt? (.int k t) >>= _) _ _ _
      refine wpAny_bind (wpAny_of_eq (a := some k) rfl ?_)
      refine PySem.W.KFB.if_not hlong ?_
      exact wpAny_pure (hR _ F' m' H' _ x1 r1 (I'.tok _))
/-- the empty list is touched -/
theorem touch_nil {α : Type} {A : Around} {E : Value → Shared → Prop} {Q : α → Shared → Prop} {pins σ H s} {q : Addr} {k : Unit → Sem α} (I : Inv X pins σ H s) (hq : H q = some (.lst [])) (h : ∀ s', Inv X pins σ H s' → wpAny (model X.prog X.w) A (k ()) Q E s') :
    wpAny (model X.prog X.w) A (rule "list.extend.makes-room" >>= fun _ => Builtin.List.listTouch (.ref q) >>= k) Q E s := by
  obtain ⟨z, its, k0, r3, hl3, e3⟩ := I.lstM hq
  cases r3
  refine wpAny_bind (wpAny_rule ?_)
  refine wpAny_bind ?_
  show wpAny _ _ (updateSeq q (·.push .none) >>= fun _ => updateSeq q (·.pop)) _ _ _
  refine wpAny_bind (wpAny_updateSeq e3 rfl ?_)
  have I2 := I.lset (f := (·.push Value.none)) (its' := [Value.none]) (ys := [.non]) (t' := s.toks) hq e3 (by simp) (.cons rfl .nil) (by rw [List.length_singleton, sizeLine_eq]; decide)
  obtain ⟨z4, its4, k4, r4, hl4, e4⟩ := I2.lstM upd_same
  obtain ⟨u4, rfl, ru4⟩ := r4.one
  refine wpAny_updateSeq e4 rfl ?_ (by show 1 ≤ sizeLine; rw [sizeLine_eq]; decide) (by show 0 ≤ sizeLine + 1; exact Nat.zero_le _)
  have I3 := I2.lset (f := (·.pop)) (its := [u4]) (its' := []) (ys := []) (t' := s.toks) upd_same e4 (by rfl) .nil (Nat.zero_le _)
  rw [upd_upd] at I3
  have hH : upd H q (.lst []) = H := by
    funext b
    by_cases hb : b = q
    · rw [hb, upd_same, hq]
    · rw [upd_ne hb]
  rw [hH] at I3
  exact h _ I3
theorem call_lsto (fa : Facts P n X) : CallR X (.type "list") (rLsto P n) := by
  intro pins s σ H xs us Q I rv ⟨U, F, m, S, c0, f, es, ds', hs, hr, hI, hf, hn3, hz, h⟩
  obtain ⟨x, rfl, hx⟩ := rep1 hr
  have hx' := hx
  obtain ⟨a, dx, fs, rfl, ha, _⟩ := obj_ins hs hx
  obtain ⟨u, rfl, ru⟩ := vals1 rv
  cases ru
  refine callType_codes (Q₁ := fun obj s₁ => obj = .ref s.heap.objs.size ∧ s₁ = { s with heap := s.heap.push { cls := .type "list", data := .seq #[] } }) PySem.F.called_list (PySem.F.typeCall_list_1 _) PySem.F.entry_list_init
    (code_list_new _ ⟨rfl, rfl⟩) fun obj s₁ h₁ => ?_
  obtain ⟨rfl, rfl⟩ := h₁
  have hS : (s.heap.push { cls := .type "list", data := .seq #[] }).get? s.heap.objs.size = some { cls := .type "list", data := .seq #[] } := Heap.get?_push_size _ rfl
  refine ⟨⟨_, hS, rfl⟩, PySem.F.args_list_init_2 _ _, ?_⟩
  have fr : H s.heap.objs.size = none := I.hok.fresh (Nat.le_refl _)
  have hU := un_none2 hs fr
  have I1 : Inv X pins σ (upd H s.heap.objs.size (.lst [])) { s with heap := s.heap.push { cls := .type "list", data := .seq #[] } } := I.lnew (its := []) (t' := s.toks) .nil (Nat.zero_le _)
  show wpAny _ _ (do let old ← Builtin.List.listItems (.ref s.heap.objs.size); Builtin.List.listUpdate (.ref s.heap.objs.size) (fun _ => #[]); letGo old.toList.reverse; Builtin.List.listExtendWith (.ref s.heap.objs.size) (.ref a) .none) _ _ _
  refine wpAny_bind ?_
  unfold Builtin.List.listItems
  refine wpAny_bind (wpAny_seqItems hS rfl (wpAny_pure ?_))
  show wpAny _ _ (updateSeq s.heap.objs.size (fun _ => #[]) >>= fun _ => letGo (#[] : Array Value).toList.reverse >>= fun _ => Builtin.List.listExtendWith (.ref s.heap.objs.size) (.ref a) .none) _ _ _
  refine wpAny_bind (wpAny_updateSeq hS rfl ?_)
  have I2 := I1.lset (f := fun _ => #[]) (its := []) (its' := []) (ys := []) (t' := s.toks) upd_same hS rfl .nil (Nat.zero_le _)
  rw [upd_upd] at I2
  refine wpAny_bind (wpAny_letGo ?_)
  have rs2 : RS P (upd U s.heap.objs.size (.lst [])) F m S (upd H s.heap.objs.size (.lst [])) := (hs.other fr _).aside upd_same (hs.fresh fr).1 (hs.fresh fr).2
  generalize s.heap.objs.size = q at *
  have ha2 : upd H q (.lst []) a = some (.ins (P.cl c0) dx fs) := by rw [upd_ne (ne_of_none ha fr)]; exact ha
  have hne : q ≠ a := ne_of upd_same ha2 (fun z => nomatch z)
  obtain ⟨mA, J, _⟩ := ins_get I2.hok ha2
  obtain ⟨od, J, _⟩ := J.look
  have sb3 : Sub X 1 X.A.in1.in1 := (Sub.in1 (Sub.in1 (⟨fa.room.mono hn3, rfl⟩ : Sub X 3 X.A)))
  have sb4 : ∀ j, n = j + 3 → Room j X.A.in1.in1.in1 := fun j e => (Sub.in1 (Sub.in1 (Sub.in1 (⟨by rw [← e]; exact fa.room, rfl⟩ : Sub X (j + 3) X.A)))).room
  unfold Builtin.List.listExtendWith
  refine wpAny_bind (J.type.here ?_)
  have h1 : Builtin.List.listSameRef (.ref q) (.ref a) = false := by simp [Builtin.List.listSameRef, hne]
  have h2 : (Value.ref (P.cl c0) == Value.type "list") = false := rfl
  have h3 : (Value.ref (P.cl c0) == Value.type "tuple") = false := rfl
  simp only [h1, h2, h3, Bool.or_false, Bool.false_eq_true, if_false]
  refine wpAny_bind (own_pyIter fa (A := X.A.in1.in1) rfl sb3.room (by omega) hI I2 rs2 hx' hf fun it b ws F' m' H' s' x1 r1 q1 p1 I3 fp st => ?_)
  obtain ⟨f0, f1, f2, f3, f4, f5⟩ := fp
  obtain ⟨oi, hoi, hc1, hc2⟩ := id st
  have I4 : Inv X ((it, oi) :: pins) σ H' s' := by
    refine I3.pins_of fun p hp => ?_
    rcases List.mem_cons.mp hp with e | e
    · subst e
      exact ⟨hoi, f0, f1, f2, fun v z => by rw [hc2] at z; cases z⟩
    · exact I3.pin p (List.mem_append_right _ e)
  have hv2 : repV P F' m' (.obj c0 es) (.ref a) := hx'.mon x1
  -- behind the hint
  have fin : ∀ (F2 : Hp) (m2 : List Addr) (S2 : Store) (H2 : Hp) (s2 : Shared), Ext2 F m F2 m2 → repL P F2 m2 ds' ws → SqT P.K F2 b ws → (∀ D vs H', U D = none → RS P (upd U D (.lst vs)) F2 m2 S2 H' → repL P F2 m2 ds' vs → Q (.ref D) H') →
      RS P (upd U q (.lst [])) F2 m2 S2 H2 → Inv X ((it, oi) :: pins) σ H2 s2 → codeAny (model X.prog X.w) X.A.in1 (.builtin "list.extend.loop" ⟨[.ref q, .ref it, .none], []⟩) (wants (fun r s₂ => r = .none ∧ EP X pins σ Q (.ref q) s₂) X.xe) s2 := by
    intro F2 m2 S2 H2 s2 xx pp qq kk r2 I6
    have hg := ClX.pin_at I6
    have hz1 : ws.length ≤ sizeLine := by rw [size_line, ← pp.len]; exact hz
    exact own_fill (A1 := X.A.in1) (it := it) (P := P) (F := F2) (m := m2) (S := S2) (Rs := wants (fun r s₂ => r = .none ∧ EP X pins σ Q (.ref q) s₂) X.xe) (I6.ok.hd fa.calm) (fa.hK ▸ qq) hz1 hU trivial (fun H s I r => ⟨rfl, .ref q, H, I, rfl, kk q ws H hU r pp⟩) ws.length 0 H2 s2 (by omega) (ClX.unpin I6) (by simpa using r2) ⟨ClX.pin_un I6, f1, f2, f3, f4, f5⟩ ⟨oi, hg, hc1, hc2⟩
  refine wpAny_bind (wpAny_holding (own_hintD fa (A := X.A.in1.in1) rfl sb4 hI I4 r1 hv2 ?_))
  rcases h with ⟨hg, kk⟩ | ⟨k, S', hc, h0, h1, kk⟩
  · refine .inl ⟨hg, fun b' s2 I5 _ => ?_⟩
    have kk' := fun D vs H2 hD r p => kk F' m' D vs H2 x1 hD r p
    refine wpAny_ite_split (fun _ => ?_) (fun _ => wpAny_pure ⟨plainId_quiet PySem.F.plain_extend_loop _, fin F' m' S H' s2 x1 p1 q1 kk' r1 I5⟩)
    exact touch_nil I5 (r1.un q _ upd_same).1 fun s3 I6 => wpAny_pure ⟨plainId_quiet PySem.F.plain_extend_loop _, fin F' m' S H' s3 x1 p1 q1 kk' r1 I6⟩
  · refine .inr ⟨k, S', hc, h0, h1, fun b' F2 m2 H2 s2 x2 r2 I5 => ?_⟩
    have kk' := fun D vs H3 hD r p => kk F2 m2 D vs H3 (x1.trans x2) hD r p
    have go := fun s3 I6 => fin F2 m2 S' H2 s3 (x1.trans x2) (p1.mon x2) (SqT.mon x2.f q1) kk' r2 I6
    refine wpAny_ite_split (fun _ => ?_) (fun _ => wpAny_pure ⟨plainId_quiet PySem.F.plain_extend_loop _, go s2 I5⟩)
    exact touch_nil I5 (r2.un q _ upd_same).1 fun s3 I6 => wpAny_pure ⟨plainId_quiet PySem.F.plain_extend_loop _, go s3 I6⟩
theorem snN_lsto (fa : Facts P n X) {e : E} {p pos : Pos} {ee : Expr} (hg : Gl X (st "list")) (hdb : (st "list" == ("__debug__" : Str)) = false) (he : PE X ee (tE P n e))
    (hst : starEach [ee] X.env = (false, eval ee X.env) :: starEach [] X.env) : PE X (.Call (.Name (st "list") p) [ee] [] pos) (tN P n (.lsto e)) := by
  have hb : bootBuiltins (st "list") = some (.type "list") := by decide +kernel
  have hn : st "list" ≠ ("__name__" : Str) := by decide +kernel
  have ha : PA X [ee] (tEs P n (.cons e .nil)) := snd_cons he snd_nil hst
  refine PE.imp (pe_callTy (call_lsto fa) hg (fa.free "list" (by decide)) hb ha hn hdb hst (by rfl)) fun σ H Q ⟨U, F, m, en, S, d, S', hn, hs, hv, k⟩ => ?_
  simp only [Ev, evE] at hv
  split at hv
  · rename_i c0 es S1 h1
    have h2 : evEs (orc P.G n) P.G (.cons e .nil) en S = some ([.obj c0 es], S1) := by rw [evEs, h1]; rfl
    split at hv
    · rename_i f hI
      split at hv
      · rename_i ds' hf
        split at hv
        · rename_i hc
          rw [orc_lv] at hc
          refine tEs_seq hn hs h2 fun F1 m1 vs H1 x1 n1 r1 p1 => ⟨U, F1, m1, S1, c0, f, es, ds', r1, p1, hI, hf, hc.1, hc.2, ?_⟩
          split at hv
          · split at hv
            · rename_i k1 S2 h3
              split at hv
              · rename_i hk
                cases hv
                exact .inr ⟨k1, S', h3, hk.1, hk.2, fun F' m' D vs H' x hU r p => k F' m' D vs H' (x1.trans x) hU r p⟩
              · cases hv
            · cases hv
          · rename_i hG
            cases hv
            exact .inl ⟨hG, fun F' m' D vs H' x hU r p => k F' m' D vs H' (x1.trans x) hU r p⟩
        · cases hv
      · cases hv
    · cases hv
  · cases hv
theorem lsto_frl {e : E} : ∀ en S r, Ev P n (.lsto e) en S = some r → ∃ ds, r.1 = .frl ds := by
  intro en S r h
  simp only [Ev, evE] at h
  split at h
  · split at h
    · split at h
      · split at h
        · split at h
          · split at h
            · split at h
              · cases h; exact ⟨_, rfl⟩
              · cases h
            · cases h
          · cases h; exact ⟨_, rfl⟩
        · cases h
      · cases h
    · cases h
  · cases h
end
end Iv

set_option Elab.async false
set_option linter.all false
set_option maxRecDepth 100000
set_option maxHeartbeats 2000000
/-! IvUe: classmethods: C.m(), cls(..). -/
namespace Iv
open PySem L2 PySem.Spec PyProof.Rows
section
variable {P : Pm} {n : Nat} {c : Sc} {X : Cx} {U : Hp}
/-- cls(..), cls a local name that holds a class -/
theorem snd_mkv (fa : Facts P n X) {i : Nat} {x : Str} {as : Es} {p pos : Pos} {e : Expr} {es : List Expr} (hN : X.N[i]? = some x) (hv : Vis X.env.scope x) (hd : (x == ("__debug__" : Str)) = false) (hcd : (x == ("__classdict__" : Str)) = false) (ha : PA X (e :: es) (tEs P n as))
    (he : starEach (e :: es) X.env = (false, eval e X.env) :: starEach es X.env) (hpl : (backTo pos (starEach es X.env)).any (·.1) = false) : PE X (.Call (.Name x p) (e :: es) [] pos) (tE P n (.mkv i as)) := by
  refine ⟨fun pins s σ H Q I ⟨U, F, m, en, S, d, S', hn, hs, hv', k⟩ => ?_⟩
  simp only [Ev, evE] at hv'
  split at hv'
  · rename_i c0 hi
    split at hv'
    · rename_i ds S1 h1
      split at hv'
      · rename_i hc0
        obtain ⟨v0, g1, g2⟩ := hn.at_ i _ hi
        simp only [repV] at g2
        obtain ⟨rfl, hcl⟩ := g2
        refine wpAny_Call_Name_kw (thn ((pe_var (pos := p) (i := i) hN hv hd hcd).run pins s σ H (fun v H1 => v = .ref (P.cl c0) ∧ H1 = H) I ⟨.ref (P.cl c0), g1, rfl, rfl⟩) fun u s1 ⟨v, H1, I1, r1, ev, eH⟩ => ?_)
        subst ev
        rw [eH] at I1
        obtain rfl : u = Value.ref (P.cl c0) := r1
        refine PySem.W.callWith_K (h₀ := X.base) I.ok.mod.kin (fa.cls c0 hcl).kp (thn (ha.run pos pins s1 σ H (fun vs H1 => ∃ F1 m1, Ext2 F m F1 m1 ∧ RS P U F1 m1 S1 H1 ∧ repL P F1 m1 ds vs) I1 ?_) fun us s2 ⟨vs, H2, I2, r, F1, m1, x1, r1, p1⟩ => ⟨I2.kIn, ?_⟩) he hpl
        · exact tEs_seq hn hs h1 fun F1 m1 vs H1 x1 _ r1 p1 => ⟨F1, m1, x1, r1, p1⟩
        · exact make_key fa hcl hc0 I2 r1 p1 r hv' fun F' m' v H' x => k F' m' v H' (x1.trans x)
      · cases hv'
    · cases hv'
  · cases hv'
/-- C.m() -/
theorem snd_cmth (fa : Facts P n X) {kk c0 m0 : String} {p apos pos : Pos} (hcl : P.G.cls c0 = true) (hk : P.G.cmc kk = some (c0, m0)) (hg : Gl X (st c0)) (hdb : (st c0 == ("__debug__" : Str)) = false) (hl : (apos.endLine == pos.line) = true) :
    PE X (.Call (.Attribute (.Name (st c0) p) (st m0) apos) [] [] pos) (tE P n (.cmth kk c0 m0 .nil)) := by
  refine ⟨fun pins s σ H Q I ⟨U, F, m, en, S, d, S', hn, hs, hv, k⟩ => ?_⟩
  simp only [Ev, evE, evEs] at hv
  obtain ⟨fn, hG⟩ := orc_fn hv
  obtain ⟨f, hf⟩ := fa.fns _ _ hG
  rcases id hf.loc with ⟨_, ⟨hz, _⟩ | ⟨c1, m1, mc, q, hz, _, hr, hm⟩⟩ | ⟨h0, _⟩
  · simp only at hz; rw [hk] at hz; cases hz
  · simp only at hz; rw [hk] at hz; cases hz
    have rl : L2.RelV (.ref (P.cl c0)) (.ref (P.cl c0)) := rfl
    refine PySem.W.methodCall_KW (pl := plainOf (.Name (st c0) p) X.env) (thn ((pe_glob (pos := p) hg (fa.mgc c0 hcl) rl hdb).run pins s σ H (fun v H1 => v = .ref (P.cl c0) ∧ H1 = H) I (show V.ref (P.cl c0) = .ref (P.cl c0) ∧ H = H from ⟨rfl, rfl⟩)) fun u s1 ⟨v, H1, I1, r1, ev, eH⟩ => ?_) (meth_form rfl hl rfl (by decide))
    subst ev
    rw [eH] at I1
    obtain rfl : u = Value.ref (P.cl c0) := r1
    refine ClX.getmethcm_ok I1 hr hm fun s2 I2 => ?_
    refine PySem.W.callWith_M0 (self := .ref (P.cl c0)) ⟨ClX.pin_at I2, I2.kIn⟩ hm.fi ?_
    cases n with
    | zero => rw [orc_none] at hv; cases hv
    | succ j =>
      have hrep : repL P F m [.cls c0] [V.ref (P.cl c0)] := .cons (by unfold repV; exact ⟨rfl, hcl⟩) .nil
      have z := wpAny_call (PySem.W.method_call (ClX.pin_at I2) (call_code fa (Nat.le_refl _) hf (us := [.ref (P.cl c0)]) I2 hs hrep (.cons rfl .nil) hG hv fun F' m' v H' x => k F' m' v H' x))
      exact thn z fun _ _ y => ClX.unpinE y
  · exact absurd rfl h0
end
end Iv

set_option Elab.async false
set_option linter.all false
set_option maxRecDepth 100000
set_option maxHeartbeats 4000000
/-! IvV: the checker: the text says what the small language says; expressions. -/
namespace Iv
open PySem L2 PySem.Spec PyProof.Rows

def visB (c : Sc) (x : Str) : Bool := match c.sc.names.lookup x with
  | some .local => true | some .cell => true | some .free => true | _ => false
def locB (c : Sc) (x : Str) : Bool := match c.sc.names.lookup x with
  | some .local => true | some .cell => c.own x | _ => false
def glB (c : Sc) (x : Str) : Bool := match c.sc.names.lookup x with
  | some .globalImplicit => true | _ => false
def dbgB (x : Str) : Bool := (x == ("__debug__" : Str)) || (x == ("__classdict__" : Str))
def varB (c : Sc) (i : Nat) (x : Str) : Bool := (c.N[i]? == some x) && visB c x && !dbgB x
def setB (c : Sc) (i : Nat) (x : Str) : Bool := (c.N[i]? == some x) && locB c x
def gnB (c : Sc) (f : String) (x : Str) : Bool := (st f == x) && glB c x && !dbgB x
def notStar : Expr → Bool | .Starred _ _ => false | _ => true
def notSet : Expr → Bool | .Set _ _ _ => false | _ => true
def plainIxB : Expr → Bool | .Slice _ _ _ _ => false | .Tuple _ _ _ => false | .Starred _ _ => false | _ => true
def nmsB (c : Sc) : List Nat → List Expr → Bool
  | [], [] => true
  | i :: is, .Name x _ :: es => setB c i x && nmsB c is es
  | _, _ => false
def tgB (c : Sc) : Tg → Expr → Bool
  | .one i, .Name x _ => setB c i x
  | .many is, .Tuple es _ _ => nmsB c is es
  | _, _ => false
def isTupE : Expr → Bool | .Tuple _ _ _ => true | _ => false
def ownOf (c : Sc) (t : Tg) : List (Str × Nat) := t.slots.filterMap fun j => (c.N[j]?).map fun x => (x, j)
def blkB (c : Sc) (scope : Scope) (t : Tg) : Bool :=
  (scope.kind == .function) && scope.names.all (fun y => scope.names.lookup y.1 == some y.2) && ((ownOf c t).map (·.2) == t.slots) &&
  scope.names.all (fun y => y.2 != .free || c.sc.names.lookup y.1 == some .cell || c.sc.names.lookup y.1 == some .free) &&
  scope.names.all (fun y => (y.2 != .local && y.2 != .cell) || (ownOf c t).any (fun p => p.1 == y.1) || !(c.N.contains y.1))
def Sc.blk (c : Sc) (scope : Scope) : Sc := ⟨c.N, relS scope c.sc, fun x => scope.names.lookup x == some .cell⟩

def bltB (G : Gi) : Blt → Bool
  | .gcd => G.mths.contains "gcd" | .lcm => G.mths.contains "lcm" | .isi _ => false | .ist _ => false | _ => true
mutual
def chkE (G : Gi) (c : Sc) : E → Expr → Bool
  | .var i, e => (match e with | .Name x _ => varB c i x | _ => false)
  | .frz i, e => (match e with | .Name x _ => varB c i x | _ => false)
  | .cint i, e => (match e with | .Constant (.int j) _ _ => i == j | _ => false)
  | .cbl b, e => (match e with | .Constant (.bool b') _ _ => b == b' | _ => false)
  | .cnon, e => (match e with | .Constant .none _ _ => true | _ => false)
  | .cstr s, e => (match e with | .Constant (.str x) _ _ => st s == x | _ => false)
  | .glob x, e => (match e with | .Name y _ => gnB c x y && (G.cst x).isSome | _ => false)
  | .bin op a b, e => (match e with | .BinOp ea o eb _ => (o == op.op) && chkE G c a ea && chkE G c b eb | _ => false)
  | .neg a, e => (match e with | .UnaryOp o ea _ => (o == .USub) && chkE G c a ea | _ => false)
  | .cmp op a b, e => (match e with | .Compare ea [o] [eb] _ => (o == op.op) && chkE G c a ea && chkE G c b eb | _ => false)
  | .isN pos a, e => (match e with | .Compare ea [o] [.Constant .none _ _] _ => (o == if pos then .Is else .IsNot) && chkE G c a ea | _ => false)
  | .isB b a, e => (match e with | .Compare ea [o] [.Constant (.bool b') _ _] _ => (o == .Is) && (b == b') && chkE G c a ea | _ => false)
  | .and_ a b, e => (match e with
    | .BoolOp o [ea, eb] _ => (o == .And) && chkE G c a ea && chkE G c b eb
    | .BoolOp o (ea :: eb :: ec :: r) p => (o == .And) && chkE G c a ea && chkE G c b (.BoolOp .And (eb :: ec :: r) p)
    | _ => false)
  | .or_ a b, e => (match e with
    | .BoolOp o [ea, eb] _ => (o == .Or) && chkE G c a ea && chkE G c b eb
    | .BoolOp o (ea :: eb :: ec :: r) p => (o == .Or) && chkE G c a ea && chkE G c b (.BoolOp .Or (eb :: ec :: r) p)
    | _ => false)
  | .not_ a, e => (match e with | .UnaryOp o ea _ => (o == .Not) && chkE G c a ea | _ => false)
  | .ite d a b, e => (match e with | .IfExp ed ea eb _ => chkE G c d ed && chkE G c a ea && chkE G c b eb | _ => false)
  | .call f as, e => (match e with | .Call (.Name x _) es [] _ => gnB c f x && !G.cls f && (G.cmc f).isNone && chkEs G c as es | _ => false)
  | .mk k as, e => (match e with | .Call (.Name x _) (e1 :: es) [] _ => gnB c k x && G.cls k && (k != "") && chkEs G c as (e1 :: es) | _ => false)
  | .mth o k m as, e => (match e with | .Call (.Attribute eo x apos) es [] pos => (st m == x) && (k != "") && plain0 eo && (apos.endLine == pos.line) && decide (es.length < 30) && chkE G c o eo && chkEs G c as es | _ => false)
  | .app o k as, e => (match e with
    | .Call (.Call f fs ks fp) (e1 :: es) [] _ => (k != "") && chkE G c o (.Call f fs ks fp) && chkEs G c as (e1 :: es)
    | .Call (.Attribute eo x apos) (e1 :: es) [] pos => (match o with
      | .fld o' f => (st f == x) && (k != "") && plain0 eo && (apos.endLine == pos.line) && decide ((e1 :: es).length < 30) && chkE G c o' eo && chkEs G c as (e1 :: es)
      | _ => false)
    | _ => false)
  | .fld o f, e => (match e with | .Attribute eo x _ => (st f == x) && plain0 eo && chkE G c o eo | _ => false)
  | .ix a i, e => (match e with | .Subscript ea ei _ => plainIxB ei && chkE G c a ea && chkE G c i ei | _ => false)
  | .slTo a i, e => (match e with | .Subscript ea (.Slice none (some ei) none _) _ => chkE G c a ea && chkE G c i ei | _ => false)
  | .slFrom a i, e => (match e with | .Subscript ea (.Slice (some ei) none none _) _ => chkE G c a ea && chkE G c i ei | _ => false)
  | .sl a i j, e => (match e with | .Subscript ea (.Slice (some ei) (some ej) none _) _ => chkE G c a ea && chkE G c i ei && chkE G c j ej | _ => false)
  | .slRev a, e => (match e with | .Subscript ea (.Slice none none (some (.UnaryOp o (.Constant (.int k) _ _) _)) _) _ => (o == .USub) && (k == 1) && chkE G c a ea | _ => false)
  | .tup as, e => (match e with | .Tuple es _ _ => chkEs G c as es | _ => false)
  | .lst as, e => (match e with | .List es _ => chkEs G c as es | _ => false)
  | .lc t it el, e => (match e with
    | .ListComp elt [⟨tg, iter, [], k⟩] scope _ => (k == 0) && blkB c scope t && notSet iter && chkI G c it tg iter && tgB (c.blk scope) t tg && chkE G (c.blk scope) el elt
    | _ => false)
  | .lcIf t it cnd el, e => (match e with
    | .ListComp elt [⟨tg, iter, [ec], k⟩] scope _ => (k == 0) && blkB c scope t && notSet iter && chkI G c it tg iter && tgB (c.blk scope) t tg && chkE G (c.blk scope) cnd ec && chkE G (c.blk scope) el elt
    | _ => false)
  | .blt f as, e => (match f with
    | .isi k => (match e, as with | .Call (.Name x _) [ea, .Name y _] [] _, .cons a .nil => gnB c "isinstance" x && gnB c k y && G.cls k && notStar ea && chkE G c a ea | _, _ => false)
    | .ist T => (match e, as with | .Call (.Name x _) [ea, .Name y _] [] _, .cons a .nil => gnB c "isinstance" x && gnB c T y && ["int", "str", "tuple", "list"].contains T && notStar ea && chkE G c a ea | _, _ => false)
    | f => (match e with | .Call (.Name x _) (e1 :: es) [] _ => gnB c f.name x && bltB G f && chkEs G c as (e1 :: es) | _ => false))
  | .pop0 i, e => (match e with | .Call (.Attribute (.Name x _) y apos) [.Constant (.int k) _ _] [] pos => varB c i x && (st "pop" == y) && (k == 0) && (apos.endLine == pos.line) | _ => false)
  | .join s a, e => (match e with | .Call (.Attribute (.Constant (.str x) _ _) y apos) [ea] [] pos => (st s == x) && (st "join" == y) && notStar ea && (apos.endLine == pos.line) && chkE G c a ea | _ => false)
  | .zfill a b, e => (match e with | .Call (.Attribute ea y apos) [eb] [] pos => (st "zfill" == y) && plain0 ea && notStar eb && (apos.endLine == pos.line) && chkE G c a ea && chkE G c b eb | _ => false)
  | .fstr as, e => (match e with | .JoinedStr (v1 :: v2 :: rest) _ => chkEs G c as (v1 :: v2 :: rest) | _ => false)
  | .fmt a, e => (match e with | .FormattedValue ea k none _ => (k == -1) && chkE G c a ea | _ => false)
  | .prop _ _ _, _ => false
  | .cmth k c0 m0 as, e => (match as, e with | .nil, .Call (.Attribute (.Name x _) y apos) [] [] pos => gnB c c0 x && G.cls c0 && (st m0 == y) && decide (G.cmc k = some (c0, m0)) && (apos.endLine == pos.line) | _, _ => false)
  | .mkv i as, e => (match e with | .Call (.Name x _) (e1 :: es) [] _ => varB c i x && chkEs G c as (e1 :: es) | _ => false)
  | .lsto a, e => (match e with | .Call (.Name x _) [ea] [] _ => gnB c "list" x && notStar ea && chkE G c a ea | _ => false)
def chkEs (G : Gi) (c : Sc) : Es → List Expr → Bool
  | .nil, es => es.isEmpty
  | .cons a r, es => (match es with | ea :: er => notStar ea && chkE G c a ea && chkEs G c r er | [] => false)
def chkI (G : Gi) (c : Sc) : It → Expr → Expr → Bool
  | .seq a, _, e => chkE G c a e
  | .range as, _, e => (match e with | .Call (.Name x _) es [] _ => gnB c "range" x && decide (es.length ≤ 3) && !es.isEmpty && chkEs G c as es | _ => false)
  | .enum a, tg, e => isTupE tg && (match e with | .Call (.Name x _) [ea] [] _ => gnB c "enumerate" x && notStar ea && chkE G c a ea | _ => false)
  | .zip a b, tg, e => isTupE tg && (match e with | .Call (.Name x _) [ea, eb] [] _ => gnB c "zip" x && notStar ea && notStar eb && chkE G c a ea && chkE G c b eb | _ => false)
  | .rev a, _, e => (match e with | .Call (.Name x _) [ea] [] _ => gnB c "reversed" x && notStar ea && chkE G c a ea | _ => false)
  | .own a, _, e => chkE G c a e
end
end Iv

set_option Elab.async false
set_option linter.all false
set_option maxRecDepth 100000
set_option maxHeartbeats 4000000
/-! IvW: the checker is right: expressions. -/
namespace Iv
open PySem L2 PySem.Spec PyProof.Rows
section
variable {P : Pm} {n : Nat} {c : Sc} {X : Cx} {U : Hp}

theorem Ctx.vis (ct : Ctx P n c X) {x : Str} (h : visB c x = true) : Vis X.env.scope x := by
  unfold visB at h
  unfold Vis
  rw [ct.sc]
  split at h
  · rename_i q; exact .inl q
  · rename_i q; exact .inr (.inl q)
  · rename_i q; exact .inr (.inr q)
  · cases h
theorem Ctx.loc (ct : Ctx P n c X) {x : Str} (h : locB c x = true) : L2.Loc X.env.scope x ∧ (X.fn x = true ∨ X.env.scope.names.lookup x = some .local) := by
  unfold locB at h
  unfold L2.Loc
  rw [ct.sc]
  split at h
  · rename_i q; exact ⟨.inl q, .inr q⟩
  · rename_i q; exact ⟨.inr q, .inl (ct.own x h)⟩
  · cases h
theorem Ctx.gl (ct : Ctx P n c X) {x : Str} (h : glB c x = true) : Gl X x := by
  unfold glB at h
  show X.env.scope.names.lookup x = some .globalImplicit
  rw [ct.sc]
  split at h
  · assumption
  · cases h
theorem dbg_no {x : Str} (h : (!dbgB x) = true) : (x == ("__debug__" : Str)) = false ∧ (x == ("__classdict__" : Str)) = false := by
  unfold dbgB at h
  simp only [Bool.not_or, Bool.and_eq_true, Bool.not_eq_true'] at h
  exact h
theorem Ctx.var (ct : Ctx P n c X) {i : Nat} {x : Str} (h : varB c i x = true) : X.N[i]? = some x ∧ Vis X.env.scope x ∧ (x == ("__debug__" : Str)) = false ∧ (x == ("__classdict__" : Str)) = false := by
  unfold varB at h
  simp only [Bool.and_eq_true] at h
  exact ⟨by rw [ct.hN]; exact eq_of_beq h.1.1, ct.vis h.1.2, dbg_no h.2⟩
theorem Ctx.setS (ct : Ctx P n c X) {i : Nat} {x : Str} (h : setB c i x = true) : X.N[i]? = some x ∧ L2.Loc X.env.scope x ∧ (X.fn x = true ∨ X.env.scope.names.lookup x = some .local) := by
  unfold setB at h
  simp only [Bool.and_eq_true] at h
  exact ⟨by rw [ct.hN]; exact eq_of_beq h.1, (ct.loc h.2).1, (ct.loc h.2).2⟩
theorem Ctx.gn (ct : Ctx P n c X) {f : String} {x : Str} (h : gnB c f x = true) : x = st f ∧ Gl X (st f) ∧ (st f == ("__debug__" : Str)) = false := by
  unfold gnB at h
  simp only [Bool.and_eq_true] at h
  have e := eq_of_beq h.1.1
  subst e
  exact ⟨rfl, ct.gl h.1.2, (dbg_no h.2).1⟩
theorem Ctx.nodup (ct : Ctx P n c X) : X.N.Nodup := by rw [ct.hN]; exact ct.nd
theorem star_cons {ea : Expr} {er : List Expr} {env : PySem.Env} (h : notStar ea = true) : starEach (ea :: er) env = (false, eval ea env) :: starEach er env := by
  cases ea <;> first | rfl | (simp [notStar] at h)
theorem star_all {env : PySem.Env} : ∀ {es : List Expr}, es.all notStar = true → (starEach es env).all (!·.1) = true
  | [], _ => rfl
  | e :: es, h => by
    simp only [List.all_cons, Bool.and_eq_true] at h
    rw [star_cons h.1, List.all_cons, star_all h.2]
    rfl
theorem star_back {env : PySem.Env} {pos : Pos} : ∀ {es : List Expr}, es.all notStar = true → (backTo pos (starEach es env)).any (·.1) = false
  | [], _ => rfl
  | e :: es, h => by
    simp only [List.all_cons, Bool.and_eq_true] at h
    have ih := star_back (env := env) (pos := pos) h.2
    rw [star_cons h.1]
    unfold backTo at ih ⊢
    rw [List.map_cons, List.any_cons, ih]
    rfl
theorem set_no {iter : Expr} {env : PySem.Env} (h : notSet iter = true) : ∀ x, foldedSetIterable iter env x = pure x := by
  intro x
  cases iter <;> first | rfl | (simp [notSet] at h)
theorem plain_ix {e : Expr} (h : plainIxB e = true) : PlainIx e := by
  intro o i
  cases e <;> first | rfl | (simp [plainIxB] at h)
theorem marks_no (op : Cop) (e : Expr) : behindInMarks op.op e = false := by
  cases op <;> cases e <;> first | rfl | simp [behindInMarks, Cop.op]
theorem nms_ok (ct : Ctx P n c X) : ∀ {is : List Nat} {es : List Expr}, nmsB c is es = true → NmsOk X is es
  | [], [], _ => .nil
  | [], _ :: _, h => by simp [nmsB] at h
  | _ :: _, [], h => by simp [nmsB] at h
  | i :: is, e :: es, h => by
    unfold nmsB at h
    split at h
    · rename_i e1 e2; cases e1
    · rename_i i' is' x p es' e1 e2
      cases e1; cases e2
      simp only [Bool.and_eq_true] at h
      obtain ⟨h1, h2, h3⟩ := ct.setS h.1
      exact .cons h1 h2 h3 (nms_ok ct h.2)
    · cases h
theorem tg_ok (ct : Ctx P n c X) {t : Tg} {e : Expr} (h : tgB c t e = true) : TgOk X t e := by
  unfold tgB at h
  split at h
  · obtain ⟨h1, h2, h3⟩ := ct.setS h
    exact .one h1 h2 h3
  · exact .many (nms_ok ct h)
  · cases h
theorem Ctx.blk (ct : Ctx P n c X) {scope : Scope} {s : Shared} {H : Hp} {C : Addr} {cl : List (Str × Addr)} {fp : List Addr} : Ctx P n (c.blk scope) (X.blk s H scope (compEnvC scope cl C X.env) fp) := by
  refine ⟨ct.fa.blk, ct.hN, ?_, ct.nd, fun x h => h⟩
  show relabel scope X.env = relS scope c.sc
  rw [← ct.sc]
  rfl
theorem own_map {N : List Str} : ∀ {js : List Nat} {p : Str × Nat}, p ∈ (js.filterMap fun j => (N[j]?).map fun x => (x, j)) → N[p.2]? = some p.1
  | js, p, h => by
    obtain ⟨j, _, hj⟩ := List.mem_filterMap.mp h
    cases q : N[j]? with
    | none => rw [q] at hj; cases hj
    | some x => rw [q] at hj; cases hj; exact q
theorem blk_ok (ct : Ctx P n c X) {scope : Scope} {t : Tg} (h : blkB c scope t = true) : BlkOk X.N X.env.scope scope (ownOf c t) ∧ ∀ i, i ∈ (ownOf c t).map (·.2) ↔ i ∈ t.slots := by
  unfold blkB at h
  simp only [Bool.and_eq_true, List.all_eq_true] at h
  obtain ⟨⟨⟨⟨h1, h2⟩, h3⟩, h4⟩, h5⟩ := h
  refine ⟨⟨eq_of_beq h1, fun y hy => eq_of_beq (h2 y hy), fun p hp => ?_, fun y hy hf => ?_, fun y hy hk => ?_⟩, fun i => by rw [eq_of_beq h3]⟩
  · rw [ct.hN]; exact own_map hp
  · have := h4 y hy
    rw [hf] at this
    rw [ct.sc]
    simpa using this
  · have := h5 y hy
    rw [ct.hN]
    rcases hk with hk | hk <;> rw [hk] at this <;> simp at this
    · rcases this with ⟨a, h1⟩ | h
      · left; exact List.mem_map.mpr ⟨(y.1, a), h1, rfl⟩
      · right; exact h
    · rcases this with ⟨a, h1⟩ | h
      · left; exact List.mem_map.mpr ⟨(y.1, a), h1, rfl⟩
      · right; exact h

def OkE (P : Pm) (n : Nat) (X : Cx) (a : E) (e : Expr) : Prop := PE X e (tE P n a) ∧ PT X e (tT P n a)
theorem OkE.of {a : E} {e : Expr} (h : PE X e (tE P n a)) (he : ∀ whole, isTrue e X.env whole = (do let v ← whole; standAt e.pos; holding [v] (truthy v))) : OkE P n X a e := ⟨h, pt_of h he⟩
theorem bw_and {a : E} {e : Expr} {pos : Pos} (h : OkE P n X a e) : PE X (.BoolOp .And [e] pos) (tE P n a) ∧ PW X (.BoolOp .And [e] pos) (tT P n a) := ⟨pe_one h.1, pw_and1 h.2⟩
theorem bw_or {a : E} {e : Expr} {pos : Pos} (h : OkE P n X a e) : PE X (.BoolOp .Or [e] pos) (tE P n a) ∧ PW X (.BoolOp .Or [e] pos) (tT P n a) := ⟨pe_one h.1, pw_or1 h.2⟩
theorem PW.imp {e : Expr} {t t' : TT} (h : PW X e t) (i : ∀ σ H Q, t' σ H Q → t σ H Q) : PW X e t' := ⟨fun whole pins s σ H Q I q => h.run whole pins s σ H Q I (i σ H Q q)⟩
theorem es_len {G : Gi} : ∀ {as : Es} {es : List Expr}, chkEs G c as es = true → es.all notStar = true ∧ (es = [] → as = .nil)
  | .nil, [], _ => ⟨rfl, fun _ => rfl⟩
  | .nil, _ :: _, h => by simp [chkEs] at h
  | .cons a r, [], h => by simp [chkEs] at h
  | .cons a r, e :: es, h => by
    simp only [chkEs, Bool.and_eq_true] at h
    obtain ⟨g1, g2⟩ := es_len h.2
    exact ⟨by simp [h.1.1, g1], fun z => by cases z⟩
end
end Iv

set_option Elab.async false
set_option linter.all false
set_option maxRecDepth 100000
set_option maxHeartbeats 40000000
/-! IvX: the checker is right: expressions, the recursion. -/
namespace Iv
open PySem L2 PySem.Spec PyProof.Rows
section
variable {P : Pm} {n : Nat}
theorem pw_bool {X : Cx} {op : BoolOp} {es : List Expr} {pos : Pos} {t : TT} (h : PT X (.BoolOp op es pos) t) : PW X (.BoolOp op es pos) t := ⟨fun whole pins s σ H Q I q => h.run pins s σ H Q I q⟩
theorem snd_isB {X : Cx} {b : Bool} {a : E} {ea : Expr} {j p pos} (ha : PE X ea (tE P n a)) :
    PE X (.Compare ea [.Is] [.Constant (.bool b) j p] pos) (tE P n (.isB b a)) ∧ PT X (.Compare ea [.Is] [.Constant (.bool b) j p] pos) (tT P n (.isB b a)) := by
  have key : ∀ {Q : VK} {U F m en σ S H d S'}, Rn P F m en σ → RS P U F m S H → Ev P n (.isB b a) en S = some (d, S') → (∀ F' m' v H', Ext2 F m F' m' → RS P U F' m' S' H' → repV P F' m' d v → Q v H') →
      tE P n a σ H (fun x H1 => tE P n (.cbl b) σ H1 fun y H2 => rIsB x y H2 Q) := by
    intro Q U F m en σ S H d S' hn hs he k
    simp only [Ev, evE] at he
    split at he
    · rename_i r S1 h1
      cases he
      refine tE_seq hn hs h1 fun F1 m1 v1 H1 x1 n1 r1 p1 => ?_
      have := rep_bl p1; subst this
      refine tE_seq (e := .cbl b) (d := .bl b) (S' := S') n1 r1 (by simp only [Ev, evE]) fun F2 m2 v2 H2 x2 n2 r2 p2 => ?_
      have := rep_bl p2; subst this
      exact ⟨r, b, rfl, rfl, by
        have := k F2 m2 _ H2 (x1.trans x2) r2 (mk_bl (b := r == b))
        have e : decide (r = b) = (r == b) := by cases r <;> cases b <;> rfl
        rw [e]; exact this⟩
    · cases he
  refine ⟨PE.imp (pe_cmpR op_isBl ha (snd_bl (P := P) (n := n)) rfl) fun σ H Q ⟨U, F, m, en, S, d, S', hn, hs, he, k⟩ => key hn hs he k, PT.imp (pt_cmpR op_isBl ha (snd_bl (P := P) (n := n)) rfl) fun σ H Q ⟨U, F, m, en, S, b', S', hn, hs, he, k⟩ => ?_⟩
  exact key hn hs he fun F' m' v H' x r h => ⟨b', rep_bl h, k F' m' H' x r⟩
theorem snd_ite2 {X : Cx} {d a b : E} {ec ea eb : Expr} {pos : Pos} (hc : OkE P n X d ec) (ha : OkE P n X a ea) (hb : OkE P n X b eb) : OkE P n X (.ite d a b) (.IfExp ec ea eb pos) := by
  refine ⟨snd_ite hc.2 ha.1 hb.1, ⟨fun pins s σ H Q I ⟨U, F, m, en, S, b', S', hn, hs, he, k⟩ => ?_⟩⟩
  show wpAny _ _ (do if ← isTrue ec X.env (eval ec X.env) then isTrue ea X.env (eval ea X.env) else isTrue eb X.env (eval eb X.env)) _ _ _
  simp only [Ev, evE] at he
  split at he
  · rename_i S1 h1
    refine wpAny_bind (thn (hc.2.run pins s σ H _ I (tT_seq (Q := fun b1 H1 => b1 = true ∧ tT P n a σ H1 Q) hn hs h1 fun F1 m1 H1 x1 n1 r1 => ⟨rfl, U, F1, m1, en, S1, b', S', n1, r1, he, fun F' m' H' x3 => k F' m' H' (x1.trans x3)⟩)) fun r s1 ⟨H1, I1, e1, q1⟩ => ?_)
    subst e1
    exact ha.2.run pins s1 σ H1 Q I1 q1
  · rename_i S1 h1
    refine wpAny_bind (thn (hc.2.run pins s σ H _ I (tT_seq (Q := fun b1 H1 => b1 = false ∧ tT P n b σ H1 Q) hn hs h1 fun F1 m1 H1 x1 n1 r1 => ⟨rfl, U, F1, m1, en, S1, b', S', n1, r1, he, fun F' m' H' x3 => k F' m' H' (x1.trans x3)⟩)) fun r s1 ⟨H1, I1, e1, q1⟩ => ?_)
    subst e1
    exact hb.2.run pins s1 σ H1 Q I1 q1
  · cases he
theorem mem_of_contains {l : List String} {x : String} (h : l.contains x = true) : x ∈ l := by simpa using h
theorem blt_free {X : Cx} (fa : Facts P n X) {f : Blt} (hf : bltB P.G f = true) :
    CallR X f.val (rBlt P n f) ∧ (∃ id, f.val = .builtin id ∨ f.val = .type id) ∧ ((X.mg (st f.name) = none ∧ bootBuiltins (st f.name) = some f.val) ∨ X.mg (st f.name) = some f.val ∧ ∃ id, f.val = .builtin id) ∧ st f.name ≠ ("__name__" : Str) := by
  cases f with
  | len => exact ⟨call_len_D fa, ⟨_, .inl rfl⟩, .inl ⟨fa.free "len" (by decide), by decide +kernel⟩, by decide +kernel⟩
  | int => exact ⟨call_int_D, ⟨_, .inr rfl⟩, .inl ⟨fa.free "int" (by decide), by decide +kernel⟩, by decide +kernel⟩
  | str => exact ⟨call_str_D fa, ⟨_, .inr rfl⟩, .inl ⟨fa.free "str" (by decide), by decide +kernel⟩, by decide +kernel⟩
  | abs => exact ⟨call_abs_D, ⟨_, .inl rfl⟩, .inl ⟨fa.free "abs" (by decide), by decide +kernel⟩, by decide +kernel⟩
  | max2 => exact ⟨call_max_D fa, ⟨_, .inl rfl⟩, .inl ⟨fa.free "max" (by decide), by decide +kernel⟩, by decide +kernel⟩
  | min2 => exact ⟨call_min_D fa, ⟨_, .inl rfl⟩, .inl ⟨fa.free "min" (by decide), by decide +kernel⟩, by decide +kernel⟩
  | tuple => exact ⟨call_tuple_D fa, ⟨_, .inr rfl⟩, .inl ⟨fa.free "tuple" (by decide), by decide +kernel⟩, by decide +kernel⟩
  | list => exact ⟨call_list_D fa, ⟨_, .inr rfl⟩, .inl ⟨fa.free "list" (by decide), by decide +kernel⟩, by decide +kernel⟩
  | divmod => exact ⟨call_divmod_D, ⟨_, .inl rfl⟩, .inl ⟨fa.free "divmod" (by decide), by decide +kernel⟩, by decide +kernel⟩
  | gcd => exact ⟨call_gcd_D, ⟨_, .inl rfl⟩, .inr ⟨fa.emath "gcd" (mem_of_contains hf), ⟨_, rfl⟩⟩, by decide +kernel⟩
  | lcm => exact ⟨call_lcm_D, ⟨_, .inl rfl⟩, .inr ⟨fa.emath "lcm" (mem_of_contains hf), ⟨_, rfl⟩⟩, by decide +kernel⟩
  | isi k => simp [bltB] at hf
  | ist k => simp [bltB] at hf

mutual
theorem okE : ∀ (a : E) {c : Sc} {X : Cx} (ct : Ctx P n c X) {e : Expr}, chkE P.G c a e = true → OkE P n X a e
  | .var i, c, X, ct, e, h => by
    unfold chkE at h
    split at h
    · obtain ⟨h1, h2, h3, h4⟩ := ct.var h
      exact .of (snd_var h1 h2 h3 h4) fun _ => rfl
    · cases h
  | .frz i, c, X, ct, e, h => by
    unfold chkE at h
    split at h
    · obtain ⟨h1, h2, h3, h4⟩ := ct.var h
      exact .of (snd_frz h1 h2 h3 h4) fun _ => rfl
    · cases h
  | .cint i, c, X, ct, e, h => by
    unfold chkE at h
    split at h
    · have := eq_of_beq h; subst this
      exact .of (snd_int (j := 0)) fun _ => rfl
    · cases h
  | .cbl b, c, X, ct, e, h => by
    unfold chkE at h
    split at h
    · have := eq_of_beq h; subst this
      exact .of snd_bl fun _ => rfl
    · cases h
  | .cnon, c, X, ct, e, h => by
    unfold chkE at h
    split at h
    · exact .of snd_non fun _ => rfl
    · cases h
  | .cstr s, c, X, ct, e, h => by
    unfold chkE at h
    split at h
    · have := eq_of_beq h; subst this
      exact .of snd_str fun _ => rfl
    · cases h
  | .glob x, c, X, ct, e, h => by
    unfold chkE at h
    split at h
    · simp only [Bool.and_eq_true] at h
      obtain ⟨e1, g1, g2⟩ := ct.gn h.1
      subst e1
      obtain ⟨d, hd⟩ := Option.isSome_iff_exists.mp h.2
      exact .of (snd_glob ct.fa hd g1 g2) fun _ => rfl
    · cases h
  | .bin op a b, c, X, ct, e, h => by
    unfold chkE at h
    split at h
    · simp only [Bool.and_eq_true] at h
      have := eq_of_beq h.1.1; subst this
      exact .of (snd_bin ct.fa (okE a ct h.1.2).1 (okE b ct h.2).1) fun _ => rfl
    · cases h
  | .neg a, c, X, ct, e, h => by
    unfold chkE at h
    split at h
    · simp only [Bool.and_eq_true] at h
      have := eq_of_beq h.1; subst this
      exact .of (snd_neg ct.fa (okE a ct h.2).1) fun _ => rfl
    · cases h
  | .cmp op a b, c, X, ct, e, h => by
    unfold chkE at h
    split at h
    · simp only [Bool.and_eq_true] at h
      have := eq_of_beq h.1.1; subst this
      exact snd_cmp (eqOk ct.fa) (okE a ct h.1.2).1 (okE b ct h.2).1 (marks_no _ _)
    · cases h
  | .isN pos a, c, X, ct, e, h => by
    unfold chkE at h
    split at h
    · simp only [Bool.and_eq_true] at h
      have := eq_of_beq h.1; subst this
      exact snd_isN (okE a ct h.2).1
    · cases h
  | .isB b a, c, X, ct, e, h => by
    unfold chkE at h
    split at h
    · simp only [Bool.and_eq_true] at h
      have e1 := eq_of_beq h.1.1; subst e1
      have e2 := eq_of_beq h.1.2; subst e2
      exact snd_isB (okE a ct h.2).1
    · cases h
  | .and_ a b, c, X, ct, e, h => by
    unfold chkE at h
    split at h
    · simp only [Bool.and_eq_true] at h
      have := eq_of_beq h.1.1; subst this
      obtain ⟨q1, q2⟩ := okE a ct h.1.2
      obtain ⟨q3, q4⟩ := bw_and (okE b ct h.2)
      obtain ⟨r1, r2⟩ := snd_and q1 q3 q2 q4
      exact ⟨r1, r2.pt⟩
    · simp only [Bool.and_eq_true] at h
      have := eq_of_beq h.1.1; subst this
      obtain ⟨q1, q2⟩ := okE a ct h.1.2
      obtain ⟨q3, q4⟩ := okE b ct h.2
      obtain ⟨r1, r2⟩ := snd_and q1 q3 q2 (pw_bool q4)
      exact ⟨r1, r2.pt⟩
    · cases h
  | .or_ a b, c, X, ct, e, h => by
    unfold chkE at h
    split at h
    · simp only [Bool.and_eq_true] at h
      have := eq_of_beq h.1.1; subst this
      obtain ⟨q1, q2⟩ := okE a ct h.1.2
      obtain ⟨q3, q4⟩ := bw_or (okE b ct h.2)
      obtain ⟨r1, r2⟩ := snd_or q1 q3 q2 q4
      exact ⟨r1, r2.pt⟩
    · simp only [Bool.and_eq_true] at h
      have := eq_of_beq h.1.1; subst this
      obtain ⟨q1, q2⟩ := okE a ct h.1.2
      obtain ⟨q3, q4⟩ := okE b ct h.2
      obtain ⟨r1, r2⟩ := snd_or q1 q3 q2 (pw_bool q4)
      exact ⟨r1, r2.pt⟩
    · cases h
  | .not_ a, c, X, ct, e, h => by
    unfold chkE at h
    split at h
    · simp only [Bool.and_eq_true] at h
      have := eq_of_beq h.1; subst this
      obtain ⟨q1, q2⟩ := okE a ct h.2
      exact snd_not q1 q2
    · cases h
  | .ite d a b, c, X, ct, e, h => by
    unfold chkE at h
    split at h
    · simp only [Bool.and_eq_true] at h
      exact snd_ite2 (okE d ct h.1.1) (okE a ct h.1.2) (okE b ct h.2)
    · cases h
  | .call f as, c, X, ct, e, h => by
    unfold chkE at h
    split at h
    · rename_i x p es pos
      simp only [Bool.and_eq_true, Bool.not_eq_true'] at h
      obtain ⟨e1, g1, g2⟩ := ct.gn h.1.1.1
      subst e1
      have ha := okEs as ct h.2
      obtain ⟨ns, hnil⟩ := es_len h.2
      have hcm := Option.isNone_iff_eq_none.mp h.1.2
      cases es with
      | nil => rw [hnil rfl]; exact .of (snd_call0 ct.fa hcm g1 g2) fun _ => rfl
      | cons e1 es =>
        simp only [List.all_cons, Bool.and_eq_true] at ns
        exact .of (snd_call ct.fa h.1.1.2 hcm g1 g2 ha (star_cons ns.1) (star_back ns.2)) fun _ => rfl
    · cases h
  | .mk k as, c, X, ct, e, h => by
    unfold chkE at h
    split at h
    · rename_i x p e1 es pos
      simp only [Bool.and_eq_true] at h
      obtain ⟨z1, g1, g2⟩ := ct.gn h.1.1.1
      subst z1
      have ha := okEs as ct h.2
      obtain ⟨ns, _⟩ := es_len h.2
      simp only [List.all_cons, Bool.and_eq_true] at ns
      exact .of (snd_mk ct.fa h.1.1.2 (by simpa using h.1.2) g1 g2 ha (star_cons ns.1) (star_back ns.2)) fun _ => rfl
    · cases h
  | .mth o k m as, c, X, ct, e, h => by
    unfold chkE at h
    split at h
    · rename_i eo x apos es pos
      simp only [Bool.and_eq_true, decide_eq_true_eq] at h
      obtain ⟨⟨⟨⟨⟨⟨h1, h2⟩, h3⟩, h4⟩, h5⟩, h6⟩, h7⟩ := h
      have := eq_of_beq h1; subst this
      have ha := okEs as ct h7
      obtain ⟨ns, hnil⟩ := es_len h7
      refine .of (snd_mth ct.fa (by simpa using h2) (okE o ct h6).1 h3 h4 ha (star_all ns) ?_ h5 hnil) fun _ => rfl
      cases es with
      | nil => exact .inl rfl
      | cons e1 es =>
        simp only [List.all_cons, Bool.and_eq_true] at ns
        exact .inr ⟨e1, es, rfl, star_cons ns.1, star_back ns.2⟩
    · cases h
  | .app o k as, c, X, ct, e, h => by
    unfold chkE at h
    split at h
    · rename_i f fs ks fp e1 es pos
      simp only [Bool.and_eq_true] at h
      obtain ⟨⟨h2, h3⟩, h4⟩ := h
      have ha := okEs as ct h4
      obtain ⟨ns, _⟩ := es_len h4
      simp only [List.all_cons, Bool.and_eq_true] at ns
      exact .of (snd_app ct.fa (by simpa using h2) (okE o ct h3).1 ha rfl (star_cons ns.1) (star_back ns.2)) fun _ => rfl
    · rename_i eo x apos e1 es pos
      split at h
      · rename_i o' f
        simp only [Bool.and_eq_true, decide_eq_true_eq] at h
        obtain ⟨⟨⟨⟨⟨⟨h1, h2⟩, h3⟩, h4⟩, h5⟩, h6⟩, h7⟩ := h
        have := eq_of_beq h1; subst this
        have ha := okEs as ct h7
        obtain ⟨ns, _⟩ := es_len h7
        have nsa := ns
        simp only [List.all_cons, Bool.and_eq_true] at ns
        exact .of (snd_appF ct.fa (by simpa using h2) (okE o' ct h6).1 h3 h4 ha (star_all nsa) h5 (star_cons ns.1) (star_back ns.2)) fun _ => rfl
      · cases h
    · cases h
  | .fld o f, c, X, ct, e, h => by
    unfold chkE at h
    split at h
    · simp only [Bool.and_eq_true] at h
      have := eq_of_beq h.1.1; subst this
      exact .of (snd_fld ct.fa (okE o ct h.2).1 h.1.2 fun c0 hc => ct.fa.fcl c0 f hc) fun _ => rfl
    · cases h
  | .ix a i, c, X, ct, e, h => by
    unfold chkE at h
    split at h
    · simp only [Bool.and_eq_true] at h
      exact .of (snd_ix ct.fa (okE a ct h.1.2).1 (okE i ct h.2).1 (plain_ix h.1.1)) fun _ => rfl
    · cases h
  | .slTo a i, c, X, ct, e, h => by
    unfold chkE at h
    split at h
    · simp only [Bool.and_eq_true] at h
      exact .of (snd_slTo ct.fa (okE a ct h.1).1 (okE i ct h.2).1) fun _ => rfl
    · cases h
  | .slFrom a i, c, X, ct, e, h => by
    unfold chkE at h
    split at h
    · simp only [Bool.and_eq_true] at h
      exact .of (snd_slFrom ct.fa (okE a ct h.1).1 (okE i ct h.2).1) fun _ => rfl
    · cases h
  | .sl a i j, c, X, ct, e, h => by
    unfold chkE at h
    split at h
    · simp only [Bool.and_eq_true] at h
      exact .of (snd_sl ct.fa (okE a ct h.1.1).1 (okE i ct h.1.2).1 (okE j ct h.2).1) fun _ => rfl
    · cases h
  | .slRev a, c, X, ct, e, h => by
    unfold chkE at h
    split at h
    · simp only [Bool.and_eq_true] at h
      have e1 := eq_of_beq h.1.1; subst e1
      have e2 := eq_of_beq h.1.2; subst e2
      exact .of (snd_slRev ct.fa (okE a ct h.2).1) fun _ => rfl
    · cases h
  | .tup as, c, X, ct, e, h => by
    unfold chkE at h
    split at h
    · exact .of (snd_tup (okEs as ct h)) fun _ => rfl
    · cases h
  | .lst as, c, X, ct, e, h => by
    unfold chkE at h
    split at h
    · exact .of (snd_lst (okEs as ct h)) fun _ => rfl
    · cases h
  | .lc t it el, c, X, ct, e, h => by
    unfold chkE at h
    split at h
    · rename_i elt tg iter k scope pos
      simp only [Bool.and_eq_true] at h
      obtain ⟨⟨⟨⟨⟨h1, h2⟩, h3⟩, h4⟩, h5⟩, h6⟩ := h
      have := eq_of_beq h1; subst this
      obtain ⟨b1, b2⟩ := blk_ok ct h2
      refine .of (PE.imp (PE.imp (pe_lc ct.fa.calm ct.nodup (okI it ct h4) b1 (fun s H C cl fp => snd_tg (X := X.blk s H scope (compEnvC scope cl C X.env) fp) ct.fa.calm ct.nodup (tg_ok ct.blk h5)) (fun _ _ _ _ _ => pts_nil) (fun s H C cl fp => (okE el ct.blk h6).1) (set_no h3)) (lc_imp1 ct.fa b2)) (ofN lc_frl)) fun _ => rfl
    · cases h
  | .lcIf t it cnd el, c, X, ct, e, h => by
    unfold chkE at h
    split at h
    · rename_i elt tg iter ec k scope pos
      simp only [Bool.and_eq_true] at h
      obtain ⟨⟨⟨⟨⟨⟨h1, h2⟩, h3⟩, h4⟩, h5⟩, h6⟩, h7⟩ := h
      have := eq_of_beq h1; subst this
      obtain ⟨b1, b2⟩ := blk_ok ct h2
      refine .of (PE.imp (PE.imp (pe_lc ct.fa.calm ct.nodup (okI it ct h4) b1 (fun s H C cl fp => snd_tg (X := X.blk s H scope (compEnvC scope cl C X.env) fp) ct.fa.calm ct.nodup (tg_ok ct.blk h5)) (fun _ _ _ _ _ => pts_one (okE cnd ct.blk h6).2) (fun s H C cl fp => (okE el ct.blk h7).1) (set_no h3)) (lc_imp2 ct.fa b2)) (ofN lcIf_frl)) fun _ => rfl
    · cases h
  | .blt f as, c, X, ct, e, h => by
    cases f with
    | isi k =>
      unfold chkE at h
      dsimp only at h
      split at h
      · simp only [Bool.and_eq_true] at h
        obtain ⟨⟨⟨⟨h1, h2⟩, h3⟩, h4⟩, h5⟩ := h
        obtain ⟨z1, g1, _⟩ := ct.gn h1
        obtain ⟨z2, g2, g3⟩ := ct.gn h2
        subst z1 z2
        exact .of (snd_isi ct.fa h3 g1 g2 g3 (okE _ ct h5).1 (star_cons h4)) fun _ => rfl
      · cases h
    | ist T =>
      unfold chkE at h
      dsimp only at h
      split at h
      · simp only [Bool.and_eq_true] at h
        obtain ⟨⟨⟨⟨h1, h2⟩, h3⟩, h4⟩, h5⟩ := h
        obtain ⟨z1, g1, _⟩ := ct.gn h1
        obtain ⟨z2, g2, g3⟩ := ct.gn h2
        subst z1 z2
        have hT := mem_of_contains h3
        refine .of (snd_ist ct.fa (T := T) ?_ g1 g2 (ct.fa.free T ?_) (okE _ ct h5).1 (star_cons h4)) fun _ => rfl
        · simp only [List.mem_cons, List.not_mem_nil, or_false] at hT ⊢
          rcases hT with rfl | rfl | rfl | rfl <;> simp
        · simp only [List.mem_cons, List.not_mem_nil, or_false] at hT
          rcases hT with rfl | rfl | rfl | rfl <;> decide
      · cases h
    | _ =>
      unfold chkE at h
      dsimp only at h
      split at h
      · rename_i x p e1 es pos
        simp only [Bool.and_eq_true] at h
        obtain ⟨z1, g1, g2⟩ := ct.gn h.1.1
        subst z1
        have ha := okEs as ct h.2
        obtain ⟨ns, _⟩ := es_len h.2
        simp only [List.all_cons, Bool.and_eq_true] at ns
        obtain ⟨k1, k2, k3, k4⟩ := blt_free (P := P) (n := n) ct.fa h.1.2
        exact .of (snd_blt k1 k2 g1 k3 k4 g2 ha (star_cons ns.1) (star_back ns.2)) fun _ => rfl
      · cases h
  | .pop0 i, c, X, ct, e, h => by
    unfold chkE at h
    split at h
    · simp only [Bool.and_eq_true] at h
      obtain ⟨⟨⟨h1, h2⟩, h3⟩, h4⟩ := h
      have e1 := eq_of_beq h2; subst e1
      have e2 := eq_of_beq h3; subst e2
      obtain ⟨g1, g2, g3, g4⟩ := ct.var h1
      exact .of (snd_pop0 ct.fa g1 g2 g3 g4 h4) fun _ => rfl
    · cases h
  | .join s a, c, X, ct, e, h => by
    unfold chkE at h
    split at h
    · simp only [Bool.and_eq_true] at h
      obtain ⟨⟨⟨⟨h1, h2⟩, h3⟩, h4⟩, h5⟩ := h
      have e1 := eq_of_beq h1; subst e1
      have e2 := eq_of_beq h2; subst e2
      exact .of (snd_join (j := 0) ct.fa (okE a ct h5).1 (star_cons h3) h4) fun _ => rfl
    · cases h
  | .zfill a b, c, X, ct, e, h => by
    unfold chkE at h
    split at h
    · simp only [Bool.and_eq_true] at h
      obtain ⟨⟨⟨⟨⟨h1, h2⟩, h3⟩, h4⟩, h5⟩, h6⟩ := h
      have e1 := eq_of_beq h1; subst e1
      exact .of (snd_zfill (okE a ct h5).1 (okE b ct h6).1 h2 (star_cons h3) h4) fun _ => rfl
    · cases h
  | .fstr as, c, X, ct, e, h => by
    unfold chkE at h
    split at h
    · obtain ⟨ts, h1, h2⟩ := okPj as ct h
      exact .of (snd_fstr h1 h2) fun _ => rfl
    · cases h
  | .fmt a, c, X, ct, e, h => by
    unfold chkE at h
    split at h
    · simp only [Bool.and_eq_true] at h
      have e1 := eq_of_beq h.1; subst e1
      exact .of (snd_fmt (okE a ct h.2).1) fun _ => rfl
    · cases h
  | .prop _ _ _, c, X, ct, e, h => by unfold chkE at h; cases h
  | .cmth k c0 m0 as, c, X, ct, e, h => by
    unfold chkE at h
    split at h
    · simp only [Bool.and_eq_true, decide_eq_true_eq] at h
      obtain ⟨⟨⟨⟨h1, h2⟩, h3⟩, h4⟩, h5⟩ := h
      obtain ⟨z1, g1, g2⟩ := ct.gn h1
      subst z1
      have := eq_of_beq h3; subst this
      exact .of (snd_cmth ct.fa h2 h4 g1 g2 h5) fun _ => rfl
    · cases h
  | .mkv i as, c, X, ct, e, h => by
    unfold chkE at h
    split at h
    · simp only [Bool.and_eq_true] at h
      obtain ⟨h1, h2, h3, h4⟩ := ct.var h.1
      obtain ⟨ns, _⟩ := es_len h.2
      simp only [List.all_cons, Bool.and_eq_true] at ns
      exact .of (snd_mkv ct.fa h1 h2 h3 h4 (okEs as ct h.2) (star_cons ns.1) (star_back ns.2)) fun _ => rfl
    · cases h
  | .lsto a, c, X, ct, e, h => by
    unfold chkE at h
    split at h
    · simp only [Bool.and_eq_true] at h
      obtain ⟨z1, g1, g2⟩ := ct.gn h.1.1
      subst z1
      exact .of (PE.imp (snN_lsto ct.fa g1 g2 (okE a ct h.2).1 (star_cons h.1.2)) (ofN lsto_frl)) fun _ => rfl
    · cases h
theorem okEs : ∀ (as : Es) {c : Sc} {X : Cx} (ct : Ctx P n c X) {es : List Expr}, chkEs P.G c as es = true → PA X es (tEs P n as)
  | .nil, c, X, ct, es, h => by
    unfold chkEs at h
    have : es = [] := by simpa using h
    subst this
    exact snd_nil
  | .cons a r, c, X, ct, es, h => by
    unfold chkEs at h
    split at h
    · simp only [Bool.and_eq_true] at h
      exact snd_cons (okE a ct h.1.2).1 (okEs r ct h.2) (star_cons h.1.1)
    · cases h
theorem okPj : ∀ (as : Es) {c : Sc} {X : Cx} (ct : Ctx P n c X) {es : List Expr}, chkEs P.G c as es = true → ∃ ts, PJ X es ts ∧ TsOf P n as ts
  | .nil, c, X, ct, es, h => by
    unfold chkEs at h
    have : es = [] := by simpa using h
    subst this
    exact ⟨[], .nil, .nil⟩
  | .cons a r, c, X, ct, es, h => by
    unfold chkEs at h
    split at h
    · simp only [Bool.and_eq_true] at h
      obtain ⟨ts, h1, h2⟩ := okPj r ct h.2
      exact ⟨_, .cons (okE a ct h.1.2).1 h1, .cons h2⟩
    · cases h
theorem okI : ∀ (it : It) {c : Sc} {X : Cx} (ct : Ctx P n c X) {tg e : Expr}, chkI P.G c it tg e = true → PI X tg e (tI P n it)
  | .seq a, c, X, ct, tg, e, h => by
    unfold chkI at h
    exact snd_seq ct.fa (okE a ct h).1
  | .range as, c, X, ct, tg, e, h => by
    unfold chkI at h
    split at h
    · rename_i x p es pos
      simp only [Bool.and_eq_true, decide_eq_true_eq] at h
      obtain ⟨⟨⟨h1, h2⟩, h3⟩, h4⟩ := h
      obtain ⟨z1, g1, _⟩ := ct.gn h1
      subst z1
      have ha := okEs as ct h4
      obtain ⟨ns, _⟩ := es_len h4
      match es, as, h2, h3, h4, ha, ns with
      | [ea], .cons a .nil, _, _, _, ha, ns =>
        simp only [List.all_cons, Bool.and_eq_true] at ns
        exact snd_range1 ct.fa g1 ha (by rw [star_cons ns.1]; rfl)
      | [ea, eb], .cons a (.cons b .nil), _, _, _, ha, ns =>
        simp only [List.all_cons, Bool.and_eq_true] at ns
        exact snd_range2 ct.fa g1 ha (by rw [star_cons ns.1, star_cons ns.2.1]; rfl) (by rw [star_cons ns.2.1]; rfl)
      | [ea, eb, ed], .cons a (.cons b (.cons d .nil)), _, _, _, ha, ns =>
        simp only [List.all_cons, Bool.and_eq_true] at ns
        exact snd_range3 ct.fa g1 ha (star_cons ns.1) (star_back (by simp [ns.2.1, ns.2.2.1]))
      | [], _, _, h3, _, _, _ => simp at h3
      | [_], .nil, _, _, h4, _, _ => simp [chkEs] at h4
      | [_], .cons _ (.cons _ _), _, _, h4, _, _ => simp [chkEs] at h4
      | [_, _], .nil, _, _, h4, _, _ => simp [chkEs] at h4
      | [_, _], .cons _ .nil, _, _, h4, _, _ => simp [chkEs] at h4
      | [_, _], .cons _ (.cons _ (.cons _ _)), _, _, h4, _, _ => simp [chkEs] at h4
      | [_, _, _], .nil, _, _, h4, _, _ => simp [chkEs] at h4
      | [_, _, _], .cons _ .nil, _, _, h4, _, _ => simp [chkEs] at h4
      | [_, _, _], .cons _ (.cons _ .nil), _, _, h4, _, _ => simp [chkEs] at h4
      | [_, _, _], .cons _ (.cons _ (.cons _ (.cons _ _))), _, _, h4, _, _ => simp [chkEs] at h4
      | _ :: _ :: _ :: _ :: _, _, h2, _, _, _, _ => simp at h2
    · cases h
  | .enum a, c, X, ct, tg, e, h => by
    unfold chkI at h
    simp only [Bool.and_eq_true] at h
    obtain ⟨ht, h⟩ := h
    split at h
    · simp only [Bool.and_eq_true] at h
      obtain ⟨z1, g1, _⟩ := ct.gn h.1.1
      subst z1
      cases tg <;> simp only [isTupE] at ht <;> try (cases ht; done)
      have s1 := star_cons (er := []) (env := X.env) h.1.2
      exact snd_enum ct.fa g1 (snd_cons (okE a ct h.2).1 snd_nil s1) (by rw [s1]; rfl)
    · cases h
  | .zip a b, c, X, ct, tg, e, h => by
    unfold chkI at h
    simp only [Bool.and_eq_true] at h
    obtain ⟨ht, h⟩ := h
    split at h
    · simp only [Bool.and_eq_true] at h
      obtain ⟨⟨⟨⟨h1, h2⟩, h3⟩, h4⟩, h5⟩ := h
      obtain ⟨z1, g1, _⟩ := ct.gn h1
      subst z1
      cases tg <;> simp only [isTupE] at ht <;> try (cases ht; done)
      exact snd_zip ct.fa g1 (snd_cons (okE a ct h4).1 (snd_cons (okE b ct h5).1 snd_nil (star_cons h3)) (star_cons h2)) (star_cons h2) (star_back (by simp [h3]))
    · cases h
  | .rev a, c, X, ct, tg, e, h => by
    unfold chkI at h
    split at h
    · simp only [Bool.and_eq_true] at h
      obtain ⟨z1, g1, _⟩ := ct.gn h.1.1
      subst z1
      exact snd_rev ct.fa g1 (okE a ct h.2).1 (star_cons h.1.2)
    · cases h
  | .own a, c, X, ct, tg, e, h => by
    unfold chkI at h
    exact snd_own ct.fa (okE a ct h).1
end
end
end Iv

set_option Elab.async false
set_option linter.all false
set_option maxRecDepth 100000
set_option maxHeartbeats 40000000
/-! IvY: the checker: statements. -/
namespace Iv
open PySem L2 PySem.Spec PyProof.Rows
section
variable {P : Pm} {n : Nat} {c : Sc} {X : Cx} {U : Hp}

/-! ### fresh lists -/
theorem un_none {F m S H} (hs : RS P U F m S H) {p : Addr} (hp : H p = none) : U p = none := by
  cases q : U p with
  | none => rfl
  | some o => have := (hs.un p o q).1; rw [hp] at this; cases this
theorem fresh_rs {F m S H} (hs : RS P U F m S H) {p : Addr} (hp : H p = none) {vs : List V} : RS P (upd U p (.lst vs)) F m S (upd H p (.lst vs)) :=
  (hs.other hp _).aside upd_same (hs.fresh hp).1 (hs.fresh hp).2
theorem snN_lst {as : Es} {es : List Expr} {pos : Pos} (ha : PA X es (tEs P n as)) : PE X (.List es pos) (tN P n (.lst as)) := by
  refine PE.imp (pe_lst ha) fun σ H Q ⟨U, F, m, en, S, d, S', hn, hs, he, k⟩ => ?_
  simp only [Ev, evE] at he
  split at he
  · rename_i ds S1 h1
    split at he
    · rename_i hl
      cases he
      refine tEs_seq hn hs h1 fun F1 m1 vs H1 x1 n1 r1 p1 => ⟨by rw [← p1.len, size_line]; simpa [clen] using hl, fun p hp => ?_⟩
      exact k F1 m1 p vs _ x1 (un_none r1 hp) (fresh_rs r1 hp) p1
    · cases he
  · cases he
def rListN (P : Pm) (n : Nat) : List V → Hp → VK → Prop := fun xs H Q => ∃ U F m S ds es S', RS P U F m S H ∧ repL P F m ds xs ∧ bltD (orc P.G n) .list ds S = some (.frl es, S') ∧
  ∀ p vs H', U p = none → RS P (upd U p (.lst vs)) F m S' H' → repL P F m es vs → Q (.ref p) H'
theorem call_list_N (fa : Facts P n X) : CallR X (.type "list") (rListN P n) := by
  intro pins s σ H xs us Q I r ⟨U, F, m, S, ds, es, S', hs, hr, hv, k⟩
  simp only [bltD] at hv
  split at hv
  · cases hv
    obtain ⟨x, rfl, hx⟩ := rep1 hr
    simp only [repV] at hx
    obtain ⟨a, vs, rfl, h1, h2⟩ := hx
    exact call_list_of pins s σ H _ us Q I r ⟨a, vs, rfl, .inl (.of (hs.sub _ _ h1)), fun p hp => k p vs _ (un_none hs hp) (fresh_rs hs hp) h2⟩
  · cases hv
    obtain ⟨x, rfl, hx⟩ := rep1 hr
    simp only [repV] at hx
    obtain ⟨a, vs, rfl, h1, h2⟩ := hx
    exact call_list_of pins s σ H _ us Q I r ⟨a, vs, rfl, .inr (fa.hK ▸ SqT.mon hs.sub h1), fun p hp => k p vs _ (un_none hs hp) (fresh_rs hs hp) h2⟩
  · split at hv
    · rename_i es hk
      cases hv
      obtain ⟨x, rfl, hx⟩ := rep1 hr
      obtain ⟨a, vs, rfl, _, h1, h2⟩ := ref_lst hs hx hk
      exact call_list_of pins s σ H _ us Q I r ⟨a, vs, rfl, .inl (.of h1), fun p hp => k p vs _ (un_none hs hp) (fresh_rs hs hp) h2⟩
    · cases hv
  · cases hv
theorem snN_list (fa : Facts P n X) {as : Es} {p pos : Pos} {e : Expr} {es : List Expr} (hg : Gl X (st "list")) (hdb : (st "list" == ("__debug__" : Str)) = false) (ha : PA X (e :: es) (tEs P n as))
    (he : starEach (e :: es) X.env = (false, eval e X.env) :: starEach es X.env) (hpl : (backTo pos (starEach es X.env)).any (·.1) = false) : PE X (.Call (.Name (st "list") p) (e :: es) [] pos) (tN P n (.blt .list as)) := by
  have hb : bootBuiltins (st "list") = some (.type "list") := by decide +kernel
  have hn : st "list" ≠ ("__name__" : Str) := by decide +kernel
  refine PE.imp (pe_callTy (call_list_N fa) hg (fa.free "list" (by decide)) hb ha hn hdb he hpl) fun σ H Q ⟨U, F, m, en, S, d, S', hn, hs, hv, k⟩ => ?_
  simp only [Ev, evE] at hv
  split at hv
  · rename_i ds S1 h1
    exact tEs_seq hn hs h1 fun F1 m1 vs H1 x1 n1 r1 p1 => ⟨U, F1, m1, S1, ds, d, S', r1, p1, hv, fun p vs' H' hU r q => k F1 m1 p vs' H' x1 hU r q⟩
  · cases hv

/-! ### what the statements ask -/
def noSD : Expr → Bool | .SetComp _ _ _ _ => false | .DictComp _ _ _ _ _ => false | _ => true
def isLC : Expr → Bool | .ListComp _ _ _ _ => true | _ => false
def swB (c : Sc) (ee : Expr) (x : Str) (p : Pos) : Bool := match ee with
  | .ListComp _ _ s pos => (c.sc.names.lookup x == some .local) && (p.line == pos.line) && !(s.names.any fun (n, k) => n == x && (k == .local || k == .cell))
  | _ => false
theorem blockK (hk : X.env.scope.kind = .function) : X.env.blockKind = .function := by
  unfold Env.blockKind
  rw [hk]
  rfl
theorem sw_eq (ct : Ctx P n c X) (hk : c.sc.kind = .function) {ee : Expr} (h : noSD ee = true) {x : Str} {p : Pos} {line : Nat} : swapsWith ee (some (.Name x p)) line X.env = pure (swB c ee x p) := by
  cases ee <;> first | rfl | (simp [noSD] at h; done) | skip
  rename_i elt gens s pos
  have hb := blockK (X := X) (by rw [ct.sc]; exact hk)
  unfold swapsWith swB
  simp only [pure_bind]
  rw [hb]
  have : X.env.kindOf x = c.sc.names.lookup x := by show X.env.scope.names.lookup x = _; rw [ct.sc]
  rw [this]
  rfl
theorem sw_other {ee : Expr} (h : noSD ee = true) {tg : Expr} (ht : ∀ x p, tg ≠ .Name x p) {line : Nat} : swapsWith ee (some tg) line X.env = pure false := by
  cases ee <;> first | rfl | (simp [noSD] at h; done) | skip
  cases tg <;> first | rfl | exact absurd rfl (ht _ _)
theorem sw_none {ee : Expr} (h : noSD ee = true) (hl : isLC ee = false) {line : Nat} : swapsWith ee none line X.env = pure false := by
  cases ee <;> first | rfl | (simp [noSD] at h; done) | (simp [isLC] at hl; done)
def noSwap : Expr → Bool | .Tuple vs _ _ => vs.all (foldedForSure 8) | _ => true
theorem ss_none {ts : List Expr} {k : Nat} {pt : Pos} {ee : Expr} (h : noSwap ee = true) : swappedStores [.Tuple ts k pt] ee X.env = pure none := by
  cases ee <;> first | rfl | skip
  rename_i vs k2 p2
  unfold swappedStores
  simp only [pure_bind]
  split
  · rfl
  · split
    · rfl
    · split
      · rfl
      · have h : vs.all (foldedForSure 8) = true := h
        rw [if_pos h]
theorem ss_sub {eo ei : Expr} {p : Pos} {ee : Expr} : swappedStores [.Subscript eo ei p] ee X.env = pure none := by
  unfold swappedStores
  rfl
def parB (c : Sc) (x y : Str) (px py : Pos) (ea eb : Expr) : Bool :=
  (c.sc.names.lookup x == some .local) && (c.sc.names.lookup y == some .local) && (py.line == px.line) && notStar ea && notStar eb && !([ea, eb].all (foldedForSure 8)) && !([ea, eb].all (constantsAlone 8)) && (x != y)
def starB : Expr → Bool
  | .Starred .. => true
  | _ => false
theorem no_star1 : ∀ e : Expr, notStar e = true → starB e = false := by
  intro e h
  cases e <;> first | rfl | (simp [notStar] at h; done)
theorem no_star2 {ea eb : Expr} (h1 : notStar ea = true) (h2 : notStar eb = true) : ¬ (([ea, eb].any fun | .Starred .. => true | _ => false) = true) := by
  intro h
  simp only [List.any_cons, List.any_nil, Bool.or_eq_true] at h
  rcases h with h | h | h
  · have h : starB ea = true := h
    rw [no_star1 _ h1] at h; cases h
  · have h : starB eb = true := h
    rw [no_star1 _ h2] at h; cases h
  · cases h
theorem ss_par (ct : Ctx P n c X) (hk : c.sc.kind = .function) {x y : Str} {px py : Pos} {ea eb : Expr} (h : parB c x y px py ea eb = true) {kt k2 : Nat} {pt pt2 : Pos} :
    swappedStores [.Tuple [.Name x px, .Name y py] kt pt] (.Tuple [ea, eb] k2 pt2) X.env = pure (some [x, y]) := by
  unfold parB at h
  simp only [Bool.and_eq_true, Bool.not_eq_true'] at h
  obtain ⟨⟨⟨⟨⟨⟨⟨h1, h2⟩, h3⟩, h4⟩, h5⟩, h6⟩, h7⟩, h8⟩ := h
  have hb := blockK (X := X) (by rw [ct.sc]; exact hk)
  have kx : X.env.kindOf x = some .local := by show X.env.scope.names.lookup x = _; rw [ct.sc]; exact eq_of_beq h1
  have ky : X.env.kindOf y = some .local := by show X.env.scope.names.lookup y = _; rw [ct.sc]; exact eq_of_beq h2
  have hl := eq_of_beq h3
  have hxy : x ≠ y := by simpa using h8
  have hP : (Expr.Name x px).pos = px := rfl
  unfold swappedStores
  dsimp only
  refine (if_neg (by rw [hb]; simp)).trans ?_
  refine (if_neg (no_star2 h4 h5)).trans ?_
  refine (if_neg (fun hh => ?_)).trans ?_
  · simp [List.filterMap_cons, kx, ky, hl, hP, hxy, Ne.symm hxy, List.eraseDups_cons] at hh
  refine (if_neg (fun hh => ?_)).trans ?_
  · rw [h6] at hh; cases hh
  refine (if_neg (fun hh => ?_)).trans ?_
  · rw [h7] at hh; cases hh
  simp [List.filterMap_cons, kx, ky, hl, hP]
end
end Iv

set_option Elab.async false
set_option linter.all false
set_option maxRecDepth 100000
set_option maxHeartbeats 40000000
/-! IvZ: the checker: statements, the recursion. -/
namespace Iv
open PySem L2 PySem.Spec PyProof.Rows
def isLcE : E → Bool | .lc _ _ _ => true | .lcIf _ _ _ _ => true | _ => false
def isNewE : E → Bool | .lc _ _ _ => true | .lcIf _ _ _ _ => true | .lst _ => true | .blt .list _ => true | _ => false
def swapOk (c : Sc) (e : E) (ee : Expr) (x : Str) (p : Pos) : Bool := noSD ee && (!swB c ee x p || isLcE e)
def fnK (c : Sc) : Bool := c.sc.kind == .function
mutual
def chkS (G : Gi) (c : Sc) : S → Stmt → Bool
  | .asg i e, s => (match s with | .Assign [.Name x p] ee _ => fnK c && setB c i x && swapOk c e ee x p && chkE G c e ee | _ => false)
  | .new i e, s => (match s with | .Assign [.Name x p] ee _ => fnK c && setB c i x && swapOk c e ee x p && isNewE e && chkE G c e ee | _ => false)
  | .asgT is e, s => (match s with | .Assign [.Tuple es k p] ee _ => nmsB c is es && noSD ee && noSwap ee && chkE G c e ee | _ => false)
  | .par i j a b, s => (match s with
    | .Assign [.Tuple [.Name x px, .Name y py] _ _] (.Tuple [ea, eb] _ _) _ => fnK c && setB c i x && setB c j y && parB c x y px py ea eb && (i != j) && chkE G c a ea && chkE G c b eb
    | _ => false)
  | .sfld f e, s => (match s with | .Assign [.Attribute (.Name x0 _) y _] ee _ => varB c 0 x0 && (st f == y) && noSD ee && chkE G c e ee | _ => false)
  | .item o i e, s => (match s with | .Assign [.Subscript eo ei _] ee _ => plainIxB ei && noSD ee && chkE G c o eo && chkE G c i ei && chkE G c e ee | _ => false)
  | .aug i op e, s => (match s with | .AugAssign (.Name x _) o ee _ => setB c i x && (o == op.op) && (o == .Add || o == .Sub) && chkE G c e ee | _ => false)
  | .ex e, s => (match s with | .Expr ee _ => noSD ee && !isLC ee && chkE G c e ee | _ => false)
  | .app i e, s => (match s with | .Expr (.Call (.Attribute (.Name x _) y apos) [ee] [] cpos) _ => varB c i x && (st "append" == y) && notStar ee && (apos.endLine == cpos.line) && chkE G c e ee | _ => false)
  | .pop i, s => (match s with | .Expr (.Call (.Attribute (.Name x _) y apos) [] [] cpos) _ => varB c i x && (st "pop" == y) && (apos.endLine == cpos.line) | _ => false)
  | .if_ d a b, s => (match s with | .If ec ea eb _ => chkE G c d ec && chkB G c a ea && chkB G c b eb | _ => false)
  | .while_ d b, s => (match s with | .While ec eb [] _ => chkE G c d ec && chkB G c b eb | _ => false)
  | .for_ t it b, s => (match s with | .For tg iter eb [] _ => tgB c t tg && notSet iter && chkI G c it tg iter && chkB G c b eb | _ => false)
  | .ret e, s => (match s with | .Return (some ee) _ => chkE G c e ee | _ => false)
  | .retN, s => (match s with | .Return none _ => true | _ => false)
  | .cont, s => (match s with | .Continue _ => true | _ => false)
  | .brk, s => (match s with | .Break _ => true | _ => false)
  | .pass, s => (match s with | .Pass _ => true | _ => false)
  | .never, _ => true
def chkB (G : Gi) (c : Sc) : Ss → List Stmt → Bool
  | .nil, es => es.isEmpty
  | .cons s r, es => (match es with | e :: er => chkS G c s e && chkB G c r er | [] => false)
end
section
variable {P : Pm} {n : Nat} {c : Sc} {X : Cx} {U : Hp}
theorem asg_sub {eo ei : Expr} {p : Pos} {env : PySem.Env} (h : plainIxB ei = true) : ∀ v, assign (.Subscript eo ei p) env v = (do
      let ov ← holding [v] (eval eo env)
      let iv ← holding [v, ov] (eval ei env)
      standAt p
      holding [v, ov, iv] (setItem ov iv v)
      release [v, ov, iv] []) := by
  intro v
  cases ei <;> first | rfl | (simp [plainIxB] at h; done)
theorem sw_sole {ee : Expr} {tg : Expr} (h : noSD ee = true) (ht : ∀ x p, tg ≠ .Name x p) {line : Nat} : swapsWithSole [tg] ee line X.env = pure false := by
  show swapsWith ee (some tg) line X.env = _
  exact sw_other h ht
theorem fnK_ok (h : fnK c = true) : c.sc.kind = .function := eq_of_beq h
/-- a comprehension stored into a local on its line -/
theorem lc_set (ct : Ctx P n c X) (hk : c.sc.kind = .function) {i : Nat} {x : Str} {p spos : Pos} {e : E} {ee : Expr} (hs : setB c i x = true) (hlc : isLcE e = true) (hsd : noSD ee = true) (hsw : swB c ee x p = true) (h : chkE P.G c e ee = true) :
    PS X (.Assign [.Name x p] ee spos) (tAsg (tN P n e) (gName i)) := by
  obtain ⟨h1, h2, h3⟩ := ct.setS hs
  have hw := sw_eq ct hk (x := x) (p := p) (line := spos.line) hsd
  rw [hsw] at hw
  cases e <;> simp only [isLcE] at hlc <;> try (cases hlc; done)
  case lc t it el =>
    unfold chkE at h
    split at h
    · rename_i elt tg iter k scope pos
      simp only [Bool.and_eq_true] at h
      obtain ⟨⟨⟨⟨⟨q1, q2⟩, q3⟩, q4⟩, q5⟩, q6⟩ := h
      have := eq_of_beq q1; subst this
      obtain ⟨b1, b2⟩ := blk_ok ct q2
      have hl : X.env.scope.names.lookup x = some .local := by
        unfold swB at hsw
        simp only [Bool.and_eq_true] at hsw
        rw [ct.sc]; exact eq_of_beq hsw.1.1
      exact PS.imp (ps_setLc ct.fa.calm ct.nodup h1 hl hw (okI it ct q4) b1 (fun s H C cl fp => snd_tg (X := X.blk s H scope (compEnvC scope cl C X.env) fp) ct.fa.calm ct.nodup (tg_ok ct.blk q5)) (fun _ _ _ _ _ => pts_nil) (fun s H C cl fp => (okE el ct.blk q6).1) (set_no q3)) fun D σ H h => lc_imp1 ct.fa b2 σ H _ h
    · cases h
  case lcIf t it cnd el =>
    unfold chkE at h
    split at h
    · rename_i elt tg iter ec k scope pos
      simp only [Bool.and_eq_true] at h
      obtain ⟨⟨⟨⟨⟨⟨q1, q2⟩, q3⟩, q4⟩, q5⟩, q6⟩, q7⟩ := h
      have := eq_of_beq q1; subst this
      obtain ⟨b1, b2⟩ := blk_ok ct q2
      have hl : X.env.scope.names.lookup x = some .local := by
        unfold swB at hsw
        simp only [Bool.and_eq_true] at hsw
        rw [ct.sc]; exact eq_of_beq hsw.1.1
      exact PS.imp (ps_setLc ct.fa.calm ct.nodup h1 hl hw (okI it ct q4) b1 (fun s H C cl fp => snd_tg (X := X.blk s H scope (compEnvC scope cl C X.env) fp) ct.fa.calm ct.nodup (tg_ok ct.blk q5)) (fun _ _ _ _ _ => pts_one (okE cnd ct.blk q6).2) (fun s H C cl fp => (okE el ct.blk q7).1) (set_no q3)) fun D σ H h => lc_imp2 ct.fa b2 σ H _ h
    · cases h
theorem lcE_frl {e : E} (h : isLcE e = true) : ∀ en S r, Ev P n e en S = some r → ∃ ds, r.1 = .frl ds := by
  cases e <;> simp only [isLcE] at h <;> try (cases h; done)
  case lc => exact lc_frl
  case lcIf => exact lcIf_frl
theorem okN (ct : Ctx P n c X) {e : E} {ee : Expr} (hn : isNewE e = true) (h : chkE P.G c e ee = true) : PE X ee (tN P n e) := by
  unfold isNewE at hn
  split at hn
  · rename_i t it el
    unfold chkE at h
    split at h
    · rename_i elt tg iter k scope pos
      simp only [Bool.and_eq_true] at h
      obtain ⟨⟨⟨⟨⟨q1, q2⟩, q3⟩, q4⟩, q5⟩, q6⟩ := h
      have := eq_of_beq q1; subst this
      obtain ⟨b1, b2⟩ := blk_ok ct q2
      exact PE.imp (pe_lc ct.fa.calm ct.nodup (okI it ct q4) b1 (fun s H C cl fp => snd_tg (X := X.blk s H scope (compEnvC scope cl C X.env) fp) ct.fa.calm ct.nodup (tg_ok ct.blk q5)) (fun _ _ _ _ _ => pts_nil) (fun s H C cl fp => (okE el ct.blk q6).1) (set_no q3)) (lc_imp1 ct.fa b2)
    · cases h
  · rename_i t it cnd el
    unfold chkE at h
    split at h
    · rename_i elt tg iter ec k scope pos
      simp only [Bool.and_eq_true] at h
      obtain ⟨⟨⟨⟨⟨⟨q1, q2⟩, q3⟩, q4⟩, q5⟩, q6⟩, q7⟩ := h
      have := eq_of_beq q1; subst this
      obtain ⟨b1, b2⟩ := blk_ok ct q2
      exact PE.imp (pe_lc ct.fa.calm ct.nodup (okI it ct q4) b1 (fun s H C cl fp => snd_tg (X := X.blk s H scope (compEnvC scope cl C X.env) fp) ct.fa.calm ct.nodup (tg_ok ct.blk q5)) (fun _ _ _ _ _ => pts_one (okE cnd ct.blk q6).2) (fun s H C cl fp => (okE el ct.blk q7).1) (set_no q3)) (lc_imp2 ct.fa b2)
    · cases h
  · unfold chkE at h
    split at h
    · exact snN_lst (okEs _ ct h)
    · cases h
  · unfold chkE at h
    dsimp only at h
    split at h
    · simp only [Bool.and_eq_true] at h
      obtain ⟨z1, g1, g2⟩ := ct.gn h.1.1
      subst z1
      obtain ⟨ns, _⟩ := es_len h.2
      simp only [List.all_cons, Bool.and_eq_true] at ns
      exact snN_list ct.fa g1 g2 (okEs _ ct h.2) (star_cons ns.1) (star_back ns.2)
    · cases h
  · cases hn
mutual
theorem okS : ∀ (s : S) {c : Sc} {X : Cx} (ct : Ctx P n c X) (hp : PassesOwn (model X.prog X.w) X.A X.env X.xe) {es : Stmt}, chkS P.G c s es = true → PS X es (tS P n s)
  | .asg i e, c, X, ct, hp, es, h => by
    unfold chkS at h
    split at h
    · rename_i x p ee pos
      simp only [Bool.and_eq_true] at h
      obtain ⟨⟨⟨h0, h1⟩, h2⟩, h3⟩ := h
      unfold swapOk at h2
      simp only [Bool.and_eq_true, Bool.or_eq_true, Bool.not_eq_true'] at h2
      obtain ⟨g1, g2, g3⟩ := ct.setS h1
      have hw := sw_eq ct (fnK_ok h0) (x := x) (p := p) (line := pos.line) h2.1
      cases hb : swB c ee x p with
      | false => rw [hb] at hw; exact sns_asg ct.nodup g1 g2 g3 (okE e ct h3).1 hw
      | true =>
        have hlc : isLcE e = true := by
          rcases h2.2 with q | q
          · rw [hb] at q; cases q
          · exact q
        exact PS.imp (lc_set ct (fnK_ok h0) h1 hlc h2.1 hb h3) fun D σ H q => ofN (lcE_frl hlc) σ H _ (asg_imp q)
    · cases h
  | .new i e, c, X, ct, hp, es, h => by
    unfold chkS at h
    split at h
    · rename_i x p ee pos
      simp only [Bool.and_eq_true] at h
      obtain ⟨⟨⟨⟨h0, h1⟩, h2⟩, hn⟩, h3⟩ := h
      unfold swapOk at h2
      simp only [Bool.and_eq_true, Bool.or_eq_true, Bool.not_eq_true'] at h2
      obtain ⟨g1, g2, g3⟩ := ct.setS h1
      have hw := sw_eq ct (fnK_ok h0) (x := x) (p := p) (line := pos.line) h2.1
      cases hb : swB c ee x p with
      | false => rw [hb] at hw; exact sns_new ct.nodup g1 g2 g3 (okN ct hn h3) hw
      | true =>
        have hlc : isLcE e = true := by
          rcases h2.2 with q | q
          · rw [hb] at q; cases q
          · exact q
        exact PS.imp (lc_set ct (fnK_ok h0) h1 hlc h2.1 hb h3) fun D σ H q => new_imp q
    · cases h
  | .asgT is e, c, X, ct, hp, es, h => by
    unfold chkS at h
    split at h
    · rename_i es k p ee pos
      simp only [Bool.and_eq_true] at h
      obtain ⟨⟨⟨h1, h2⟩, h3⟩, h4⟩ := h
      exact sns_asgT ct.fa.calm (snd_tg ct.fa.calm ct.nodup (.many (nms_ok ct h1))) ct.fa (okE e ct h4).1 (sw_sole h2 (by intro _ _ e; cases e)) (ss_none h3) rfl
    · cases h
  | .par i j a b, c, X, ct, hp, es, h => by
    unfold chkS at h
    split at h
    · rename_i x px y py kt pt ea eb k2 pt2 pos
      simp only [Bool.and_eq_true] at h
      obtain ⟨⟨⟨⟨⟨⟨h0, h1⟩, h2⟩, h3⟩, h4⟩, h5⟩, h6⟩ := h
      obtain ⟨g1, _, _⟩ := ct.setS h1
      obtain ⟨g2, _, _⟩ := ct.setS h2
      have h3' := h3
      unfold parB at h3'
      simp only [Bool.and_eq_true] at h3'
      obtain ⟨⟨⟨⟨⟨⟨⟨k1, k2⟩, _⟩, k4⟩, k5⟩, _⟩, _⟩, _⟩ := h3'
      exact sns_par ct.fa ct.nodup g1 g2 (by simpa using h4) (by rw [ct.sc]; exact eq_of_beq k1) (by rw [ct.sc]; exact eq_of_beq k2)
        (snd_cons (okE a ct h5).1 (snd_cons (okE b ct h6).1 snd_nil (star_cons k5)) (star_cons k4)) (ss_par ct (fnK_ok h0) h3) (sw_sole (ee := .Tuple _ _ _) rfl (by intro _ _ e; cases e))
    · cases h
  | .sfld f e, c, X, ct, hp, es, h => by
    unfold chkS at h
    split at h
    · simp only [Bool.and_eq_true] at h
      obtain ⟨⟨⟨h1, h2⟩, h3⟩, h4⟩ := h
      have := eq_of_beq h2; subst this
      obtain ⟨g1, g2, g3, g4⟩ := ct.var h1
      exact sns_fld ct.fa g1 g2 g3 g4 (okE e ct h4).1 (sw_other h3 (by intro _ _ e; cases e))
    · cases h
  | .item o i e, c, X, ct, hp, es, h => by
    unfold chkS at h
    split at h
    · simp only [Bool.and_eq_true] at h
      obtain ⟨⟨⟨⟨h0, h1⟩, h2⟩, h3⟩, h4⟩ := h
      exact sns_item ct.fa (okE o ct h2).1 (okE i ct h3).1 (okE e ct h4).1 (asg_sub h0) (sw_sole h1 (by intro _ _ e; cases e)) ss_sub rfl
    · cases h
  | .aug i op e, c, X, ct, hp, es, h => by
    unfold chkS at h
    split at h
    · simp only [Bool.and_eq_true, Bool.or_eq_true] at h
      obtain ⟨⟨⟨h1, h2⟩, h3⟩, h4⟩ := h
      have := eq_of_beq h2; subst this
      obtain ⟨g1, g2, g3⟩ := ct.setS h1
      refine sns_aug ct.nodup g1 g2 g3 (okE e ct h4).1 ?_
      cases op <;> first | exact .inl rfl | exact .inr rfl | (rcases h3 with q | q <;> (have := eq_of_beq q; cases this))
    · cases h
  | .ex e, c, X, ct, hp, es, h => by
    unfold chkS at h
    split at h
    · simp only [Bool.and_eq_true, Bool.not_eq_true'] at h
      exact sns_ex (okE e ct h.2).1 (sw_none h.1.1 h.1.2)
    · cases h
  | .app i e, c, X, ct, hp, es, h => by
    unfold chkS at h
    split at h
    · simp only [Bool.and_eq_true] at h
      obtain ⟨⟨⟨⟨h1, h2⟩, h3⟩, h4⟩, h5⟩ := h
      have := eq_of_beq h2; subst this
      obtain ⟨g1, g2, g3, g4⟩ := ct.var h1
      exact sns_app ct.fa g1 g2 g3 g4 (okE e ct h5).1 (star_cons h3) h4
    · cases h
  | .pop i, c, X, ct, hp, es, h => by
    unfold chkS at h
    split at h
    · simp only [Bool.and_eq_true] at h
      obtain ⟨⟨h1, h2⟩, h4⟩ := h
      have := eq_of_beq h2; subst this
      obtain ⟨g1, g2, g3, g4⟩ := ct.var h1
      exact sns_pop ct.fa g1 g2 g3 g4 h4
    · cases h
  | .if_ d a b, c, X, ct, hp, es, h => by
    unfold chkS at h
    split at h
    · simp only [Bool.and_eq_true] at h
      exact sns_if (okE d ct h.1.1).2 (okB a ct hp h.1.2) (okB b ct hp h.2)
    · cases h
  | .while_ d b, c, X, ct, hp, es, h => by
    unfold chkS at h
    split at h
    · simp only [Bool.and_eq_true] at h
      exact sns_while hp (okE d ct h.1).2 (okB b ct hp h.2)
    · cases h
  | .for_ t it b, c, X, ct, hp, es, h => by
    unfold chkS at h
    split at h
    · simp only [Bool.and_eq_true] at h
      obtain ⟨⟨⟨h1, h2⟩, h3⟩, h4⟩ := h
      exact sns_for hp ct.fa (okI it ct h3) (snd_tg ct.fa.calm ct.nodup (tg_ok ct h1)) (okB b ct hp h4) (set_no h2)
    · cases h
  | .ret e, c, X, ct, hp, es, h => by
    unfold chkS at h
    split at h
    · exact sns_ret (okE e ct h).1
    · cases h
  | .retN, c, X, ct, hp, es, h => by
    unfold chkS at h
    split at h
    · exact sns_retN
    · cases h
  | .cont, c, X, ct, hp, es, h => by
    unfold chkS at h
    split at h
    · exact sns_cont
    · cases h
  | .brk, c, X, ct, hp, es, h => by
    unfold chkS at h
    split at h
    · exact sns_brk
    · cases h
  | .pass, c, X, ct, hp, es, h => by
    unfold chkS at h
    split at h
    · exact sns_pass
    · cases h
  | .never, c, X, ct, hp, es, h => sns_never
theorem okB : ∀ (b : Ss) {c : Sc} {X : Cx} (ct : Ctx P n c X) (hp : PassesOwn (model X.prog X.w) X.A X.env X.xe) {es : List Stmt}, chkB P.G c b es = true → PSs X es (tB P n b)
  | .nil, c, X, ct, hp, es, h => by
    unfold chkB at h
    have : es = [] := by simpa using h
    subst this
    exact snb_nil
  | .cons s r, c, X, ct, hp, es, h => by
    unfold chkB at h
    split at h
    · simp only [Bool.and_eq_true] at h
      exact snb_cons (okS s ct hp h.1) (okB r ct hp h.2)
    · cases h
end
end
end Iv

set_option Elab.async false
set_option linter.all false
set_option maxRecDepth 100000
set_option maxHeartbeats 4000000
/-! IwA: functions, by levels. -/
namespace Iv
open PySem L2 PySem.Spec PyProof.Rows
section
variable {P : Pm} {U F : Hp} {m : List Addr}
theorem RS.clo0 {S : Store} {H : Hp} (r : RS P U F m S H) : True := trivial
/-- behind a call: what is dropped is not missed -/
theorem gc_ok {S S' : Store} {H H' : Hp} {F' : Hp} {m' : List Addr} {d d2 : DV} {S2 : Store} {v : V} (r : RS P U F m S H) (x : Ext2 F m F' m') (r' : RS P U F' m' S' H') (hv : repV P F' m' d v) (h : gc S S' d = (d2, S2)) :
    ∃ m2, Ext2 F m F' m2 ∧ RS P U F' m2 S2 H' ∧ repV P F' m2 d2 v := by
  have same : (d, S') = (d2, S2) → ∃ m2, Ext2 F m F' m2 ∧ RS P U F' m2 S2 H' ∧ repV P F' m2 d2 v := by
    intro e
    cases e
    exact ⟨m', x, r', hv⟩
  obtain ⟨t, rfl⟩ := x.m
  have hmt : (m ++ t).take S.length = m := by rw [← r.len]; simp
  unfold gc at h
  split at h
  · rename_i hok
    obtain ⟨g1, g2⟩ := okG_get hok
    have r2 : RS P U F' m (S'.take S.length) H' := by
      have := r'.trunc S.length fun i c hi hc => by
        rcases g2 i c hi hc with g | g
        · exact r.clo g
        · exact g
      rw [hmt] at this
      exact this
    split at h
    · rename_i hp
      cases h
      have hc : repV P F' ((m ++ t).take S.length) d v := hv.cut (cloD.mono (Nat.zero_le _) hp)
      rw [hmt] at hc
      exact ⟨m, ⟨x.f, [], by simp⟩, r2, hc⟩
    · split at h
      · rename_i k _
        split at h
        · rename_i ds hk
          split at h
          · rename_i hc
            cases h
            simp only [repV] at hv
            obtain ⟨a, rfl, ha⟩ := hv
            obtain ⟨vs, h1, h2⟩ := r'.cel k a _ ha hk
            have hF := r'.liv k a _ ha hk (by simp)
            have hk0 : m.length ≤ k := by rw [r.len]; exact hc.1
            have hm : a ∉ m := fun hm => by
              obtain ⟨i, hi⟩ := List.getElem?_of_mem hm
              have hil := (List.getElem?_eq_some_iff.mp hi).1
              have hi' : (m ++ t)[i]? = some a := by rw [List.getElem?_append_left hil]; exact hi
              have := nodup_at r'.nd hi' ha
              omega
            have hds : repL P F' m ds vs := by
              have := h2.cut (n := S.length) (cloL.mono (Nat.zero_le _) hc.2)
              rw [hmt] at this; exact this
            have hU : U a = none := by
              cases q : U a with
              | none => rfl
              | some o => exact absurd (List.mem_of_getElem? ha) (r'.un a o q).2.2
            have r3 := r2.aside h1 hF hm
            refine ⟨m ++ [a], ⟨x.f, [a], rfl⟩, r3.adopt hU hds, ?_⟩
            simp only [repV]
            exact ⟨a, rfl, by rw [← r.len]; simp⟩
          · exact same h
        · exact same h
      · exact same h
  · exact same h
end

/-- the body of __iter__ -/
def itB (f : String) (scope : Scope) : List Stmt → Bool
  | [.Return (some (.Call (.Name x _) [.Attribute (.Name y _) g _] [] _)) _] => (x == st "iter") && (y == st "self") && (g == st f) && gnB ⟨[st "self"], scope, fun _ => true⟩ "iter" x && varB ⟨[st "self"], scope, fun _ => true⟩ 0 y
  | _ => false
/-- an own __iter__: iter(self.f) -/
structure ItS (P : Pm) (c f : String) : Prop where
  ex : ∃ (fi : Addr) (fd : FuncData) (x qual : Str) (params : Arguments) (body : List Stmt) (scope : Scope) (dvs : List V),
    Meth P.K (P.cl c) "__iter__" fi ∧ FunD P.K x qual params body scope dvs [] fi fd ∧ FnScope [st "self"] [st "self"] scope ∧ itB f scope body = true ∧ Binds P.K fd [st "self"] []
  hint : PySem.W.findIn P.K (.ref (P.cl c)) "__length_hint__" = some none
  len : P.G.fn (c, "__len__") = none → PySem.W.findIn P.K (.ref (P.cl c)) "__len__" = some none
/-- what does not depend on the place -/
structure Stat (P : Pm) (mg : Str → Option Value) : Prop where
  emp : ∀ m ∈ dunNames, P.G.fn ("", m) = none
  cst : ∀ x d, P.G.cst x = some d → ∃ u v, mg (st x) = some u ∧ L2.RelV v u ∧ ∀ F m, repV P F m d v
  free : ∀ x ∈ freeNames, mg (st x) = none
  cls : ∀ c, P.G.cls c = true → ClsAt P P.K c
  gset : PySem.W.specialIn P.K (.builtin "object.__class__") "__get__" = some (some (.builtin "getset_descriptor.__get__")) ∧ PySem.W.takesIn P.K (.builtin "object.__class__") = some true
  kit : ∀ c c', P.G.cls c = true → P.G.cls c' = true → PySem.W.kitOne P.K (.ref (P.cl c)) (.ref (P.cl c')) = some (c == c')
  kitT : ∀ c T, P.G.cls c = true → T ∈ tyNames → PySem.W.kitOne P.K (.type T) (.ref (P.cl c)) = some false ∧ PySem.W.kitOne P.K (.ref (P.cl c)) (.type T) = some false
  sub1 : ∀ c c', P.G.cls c = true → P.G.cls c' = true → c ≠ c' → PySem.W.subIn P.K (.ref (P.cl c')) (.ref (P.cl c)) = some false
  subT : ∀ c T, P.G.cls c = true → T ∈ tyNames → PySem.W.subIn P.K (.type T) (.ref (P.cl c)) = some false
  emath : ∀ x ∈ P.G.mths, mg (st x) = some (.builtin ("math." ++ x))
  fcl : ∀ c f, f ∈ P.G.fld c → P.G.cls c = true
  mgc : ∀ c, P.G.cls c = true → mg (st c) = some (.ref (P.cl c))
  inj : ∀ c c', P.G.cls c = true → P.G.cls c' = true → P.cl c = P.cl c' → c = c'
  its : ∀ c f, P.G.itf c = some f → ItS P c f
/-- a def of the text that says what fn says -/
structure DefAt (P : Pm) (mg : Str → Option Value) (key : Key) (fn : Fn) : Prop where
  ex : ∃ (f : Addr) (fd : FuncData) (ps : List Str) (x qual : Str) (params : Arguments) (body : List Stmt) (scope : Scope) (dvs : List V),
    ((key.1 = "" ∧ ((P.G.cmc key.2 = none ∧ mg (st key.2) = some (.ref f) ∧ PySem.W.keepIn P.K (.ref f) = true) ∨ CmAt P P.K key.2 f)) ∨ (key.1 ≠ "" ∧ P.G.cls key.1 = true ∧ Meth P.K (P.cl key.1) (st key.2) f)) ∧
    (key.1 ≠ "" → PySem.W.fnIn P.K f = true) ∧ FunD P.K x qual params body scope dvs [] f fd ∧ FnScope (fn.nm.map st) ps scope ∧ chkB P.G ⟨fn.nm.map st, scope, fun _ => true⟩ fn.body body = true ∧ ps.length = fn.np ∧ 
    ∀ a, a ≤ fn.np → fn.np ≤ a + fn.dfl.length → ∃ (dvs : List V) (us : List Value), Vals dvs us ∧ Binds P.K fd ps us ∧ ∀ F m, repL P F m (fn.dfl.drop (a + fn.dfl.length - fn.np)) dvs
section
variable {P : Pm} {mg : Str → Option Value} {prog : Program} {w : World} {base : Heap}
/-- the address of a function, chosen once -/
noncomputable def DefAt.f {key : Key} {fn : Fn} (d : DefAt P mg key fn) : Addr := d.ex.choose
theorem Stat.facts0 (s : Stat P mg) {n : Nat} {X : Cx} (hK : X.K = P.K) (hm : X.mg = mg) (hc : X.calm = true) (hr : Room n X.A) (fns : ∀ key fn, P.G.fn key = some fn → ∃ f, FnAt P n X key fn f) (its : ∀ c f, P.G.itf c = some f → ItAt P n X c f) : Facts P n X := by
  subst hm
  exact ⟨s.emp, hK, hc, hr, fns, s.cst, s.free, fun c h => hK ▸ s.cls c h, hK ▸ s.gset, hK ▸ s.kit, hK ▸ s.kitT, hK ▸ s.sub1, hK ▸ s.subT, s.emath, s.fcl, s.mgc, s.inj, its⟩
/-! own iterators -/
theorem call_iter_tup {M : Program} {wd : World} {A : Around} {E : Value → Shared → Prop} {sh : Shared} {l : Addr} {items : Array Value} {Q : Value → Shared → Prop} (hl : sh.heap.IsTuple l items)
    (h : Q (.ref sh.heap.objs.size) { sh with heap := sh.heap.push { cls := .type "tuple_iterator", data := .fields #[.ref l, .int 0 0] } }) : wpAny (model M wd) A (call (.builtin "iter") [.ref l]) Q E sh := by
  refine Calls.call_function_entry (by decide +kernel) (by decide +kernel) PySem.W.kdk_entry_iter (PySem.W.kdk_args_iter _) ?_
  unfold Builtin.«iter»
  refine wpAny_bind (m := someArgs "iter" 1 2 _) (wpAny_of_eq (a := [Value.ref l]) (by first | rfl | kernel_rfl!) ?_)
  show wpAny _ _ (pyIter (.ref l) >>= _) _ _ _
  refine wpAny_bind (wpAny_pyIter_tuple hl ?_)
  exact wpAny_pure ⟨_, rfl, h⟩
def rIterT (K : PySem.W.Frag) (n : Nat) : List V → Hp → VK → Prop := fun xs H Q => ∃ (b : Addr) (ws : List V), xs = [.ref b] ∧ SqT K H b ws ∧ ∀ it, H it = none → n ≤ it → Q (.ref it) (upd H it (TiO b it))
theorem call_iterT {X : Cx} : CallR X (.builtin "iter") (rIterT X.K X.s_0.heap.objs.size) := by
  intro pins sh σ H xs us Q I r h
  obtain ⟨b, ws, rfl, hq, q⟩ := h
  obtain ⟨u, rfl, ru⟩ := vals1 r
  cases ru
  obtain ⟨its, rv, p, hz⟩ := I.tuple hq
  refine call_iter_tup (show sh.heap.IsTuple b its.toArray from p) ?_
  have g : (sh.heap.push { cls := .type "tuple_iterator", data := .fields #[.ref b, .int 0 0] }).get? sh.heap.objs.size = some { cls := .type "tuple_iterator", data := .fields #[.ref b, .int 0 0] } := Heap.get?_push_size _ rfl
  have ok : ObjOk X.prog X.w (upd H sh.heap.objs.size (TiO b sh.heap.objs.size)) (sh.heap.push { cls := .type "tuple_iterator", data := .fields #[.ref b, .int 0 0] }) sh.heap.objs.size (TiO b sh.heap.objs.size) :=
    ⟨⟨_, g, rfl, rfl⟩, ⟨_, g⟩, fun h1 h2 z k => Heap.IsTupleIter.at z k⟩
  exact ⟨.ref sh.heap.objs.size, _, I.laid (t' := sh.toks) (fun b u e => Heap.get?_push_of_some _ e) (Nat.le_refl _) ok, rfl, q _ (I.hok.fresh (Nat.le_refl _)) I.sz⟩
theorem it_ok (s : Stat P mg) (fns0 : ∀ (X : Cx), X.K = P.K → X.mg = mg → ∀ key fn, P.G.fn key = some fn → ∃ f, FnAt P 0 X key fn f) {c f : String} (hI : P.G.itf c = some f) : ∃ fi, Meth P.K (P.cl c) "__iter__" fi ∧ ItOk prog w P.K mg base P c f fi := by
  obtain ⟨fi, fd, x, qual, params, body, scope, dvs, hm, FD, FS, hb, bd⟩ := (s.its c f hI).ex
  refine ⟨fi, hm, fun A outer sh H U F m S ds ds' a hroom e0 hs hv hf => ?_⟩
  obtain ⟨oc, od, dV, kV, doc, pm, an, cdv, ct, osl, rfl, lk, hcd, _, _⟩ := FD.ex
  have KX : P.K.In sh.heap := e0.mod.kin.keeps fun b o e => (e0.bs b o e).1
  have lim : sh.heap.NoLimit := e0.mod.nolimit.keeps fun b o e => (e0.bs b o e).1
  have hkind : ∀ y ∈ [st "self"].zip [Value.ref a], scope.names.lookup y.1 = some .local ∨ (scope.names.lookup y.1 = some .cell ∧ ((cellsFrom (sh.heap.objs.size + 1) scope.names []).lookup y.1).isSome = true) := fun ⟨n, v⟩ hy => by
    rcases FS.par n (List.of_mem_zip hy).1 with q | q
    · exact .inl q
    · exact .inr ⟨q, PySem.W.cellsFrom_some _ _ _ (.inl q)⟩
  have hbind := bd sh [.ref a] KX rfl
  rw [List.append_nil] at hbind
  refine codeAny_call_function hroom.depth (KX _ _ lk) rfl FS.co FS.gen rfl (PySem.W.codeRec_of KX hcd) (hbind _ _ _ _ ?_)
  refine wpAny_newFunctionEnv_cells FS.kind hkind fun env he s1 y => ?_
  subst he
  refine ⟨lim.keeps y.toInCall.keep, codeAny_func ?_⟩
  have r1 : Vals [V.ref a] [Value.ref a] := .cons rfl .nil
  have I : Inv (cxOf CX0 prog w P.K mg base [st "self"] qual scope fi cdv A outer sh H E0) [] (L2.start [st "self"] [V.ref a]) H s1 := inv_start FS hroom.hd e0 rfl r1 y
  have hr0 : Room 0 (A.deeper (envOfC qual scope sh.heap.objs.size fi cdv)) := hroom.deeper _
  have fa : Facts P 0 (cxOf CX0 prog w P.K mg base [st "self"] qual scope fi cdv A outer sh H E0) := by
    refine s.facts0 rfl rfl rfl hr0 (fns0 _ rfl rfl) fun c' f' h' => ?_
    obtain ⟨fi', _, _, _, _, _, _, _, hm', _⟩ := (s.its c' f' h').ex
    exact ⟨⟨fi', hm', fun h => absurd h (by omega)⟩, (s.its c' f' h').hint, (s.its c' f' h').len⟩
  have ct : Ctx P 0 ⟨[st "self"], scope, fun _ => true⟩ (cxOf CX0 prog w P.K mg base [st "self"] qual scope fi cdv A outer sh H E0) := ⟨fa, rfl, rfl, FS.nd, fun _ _ => rfl⟩
  unfold itB at hb
  split at hb
  · rename_i x1 p1 y1 p2 g1 p3 p4 p5
    simp only [Bool.and_eq_true] at hb
    obtain ⟨⟨⟨⟨b1, b2⟩, b3⟩, b4⟩, b5⟩ := hb
    have := eq_of_beq b1; subst this
    have := eq_of_beq b2; subst this
    have := eq_of_beq b3; subst this
    obtain ⟨_, k1, k2⟩ := ct.gn b4
    obtain ⟨v1, v2, v3, v4⟩ := ct.var b5
    have pe1 := snd_fld (f := f) (pos := p3) fa (snd_var (P := P) (n := 0) (pos := p2) v1 v2 v3 v4) rfl fun c0 hc => s.fcl c0 f hc
    have pa1 := snd_cons (n := 0) pe1 snd_nil rfl
    have pe2 := pe_callB (p := p1) (pos := p4) (call_iterT) k1 (fa.free "iter" (by decide)) (show bootBuiltins (st "iter") = some (.builtin "iter") by decide +kernel) pa1 (by decide +kernel) k2 rfl rfl
    have ps := pss_cons (ps_ret (pos := p5) pe2) pss_nil
    have hst : Rn P F m [some (.obj c ds)] (L2.start [st "self"] [V.ref a]) := Rn.start 0 (.cons hv .nil)
    have hev : evEs (orc P.G 0) P.G (.cons (.fld (.var 0) f) .nil) [some (.obj c ds)] S = some ([.tup ds'], S) := by
      simp only [evEs, evE, List.getElem?_cons_zero, fldD, hf]
    refine wpAny_mono (ps.run [] s1 _ H { nx := fun _ _ => False, rt := Qit P sh U F m S ds' } I ?_) (fun fl s' hs' => ?_) fun e s' he => he
    · refine tEs_seq hst hs hev fun F1 m1 vs H1 x1 n1 r1 p1 => ?_
      obtain ⟨v, rfl, hv1⟩ := p1.one
      simp only [repV] at hv1
      obtain ⟨b, ws, rfl, q1, q2⟩ := hv1
      exact ⟨b, ws, rfl, SqT.mon r1.sub q1, fun it hn hz => ⟨it, b, ws, F1, m1, H1, rfl, rfl, hz, hn, x1, r1, q1, q2⟩⟩
    · cases fl with
      | ret u =>
        obtain ⟨v, σ', H', J, rv, q⟩ := hs'
        exact ⟨v, H', J.os, J.bare, J.base, J.hok, rv, q⟩
      | next =>
        obtain ⟨_, _, _, q⟩ := hs'
        exact False.elim q
      | brk =>
        obtain ⟨_, _, _, q⟩ := hs'
        exact False.elim q
      | cont =>
        obtain ⟨_, _, _, q⟩ := hs'
        exact False.elim q
  · cases hb
/-- what is told of the own iterators, at every level -/
theorem its_at (s : Stat P mg) (fns0 : ∀ (X : Cx), X.K = P.K → X.mg = mg → ∀ key fn, P.G.fn key = some fn → ∃ f, FnAt P 0 X key fn f) {n : Nat} {X : Cx} (hK : X.K = P.K) (hm : X.mg = mg) (c f : String) (h : P.G.itf c = some f) : ItAt P n X c f := by
  obtain ⟨fi, g1, g2⟩ := it_ok (prog := X.prog) (w := X.w) (base := X.base) s fns0 h
  subst hm
  rw [← hK] at g1 g2
  exact ⟨⟨fi, g1, fun _ => g2⟩, by rw [hK]; exact (s.its c f h).hint, by rw [hK]; exact (s.its c f h).len⟩
theorem fns_zero (hd : ∀ key fn, P.G.fn key = some fn → DefAt P mg key fn) (X : Cx) (hK : X.K = P.K) (hm : X.mg = mg) (key : Key) (fn : Fn) (hG : P.G.fn key = some fn) : ∃ f, FnAt P 0 X key fn f := by
  obtain ⟨f, fd, ps, x, qual, params, body, scope, dvs, h1, h2, h3, h4, h5, h6, h7⟩ := (hd key fn hG).ex
  subst hm
  rw [← hK] at h1 h2 h7
  exact ⟨f, h1, h2, fd, ps, fun j hj => by omega, h6, h7⟩
theorem Stat.facts (s : Stat P mg) (hd : ∀ key fn, P.G.fn key = some fn → DefAt P mg key fn) {n : Nat} {X : Cx} (hK : X.K = P.K) (hm : X.mg = mg) (hc : X.calm = true) (hr : Room n X.A) (fns : ∀ key fn, P.G.fn key = some fn → ∃ f, FnAt P n X key fn f) : Facts P n X :=
  s.facts0 hK hm hc hr fns (its_at s (fns_zero hd) hK hm)
theorem fnOk (s : Stat P mg) (hd : ∀ key fn, P.G.fn key = some fn → DefAt P mg key fn) : ∀ (n : Nat) (key : Key) (fn : Fn), P.G.fn key = some fn → ∃ f, ((key.1 = "" ∧ ((P.G.cmc key.2 = none ∧ mg (st key.2) = some (.ref f) ∧ PySem.W.keepIn P.K (.ref f) = true) ∨ CmAt P P.K key.2 f)) ∨ (key.1 ≠ "" ∧ P.G.cls key.1 = true ∧ Meth P.K (P.cl key.1) (st key.2) f)) ∧
    (key.1 ≠ "" → PySem.W.fnIn P.K f = true) ∧ ∃ fd ps, ((∃ oc od osl, P.K.lookup f = some ⟨oc, od, .func fd, osl⟩) ∧ ps = (fn.nm.take fn.np).map st) ∧ (∀ j, j + 1 ≤ n → FnOk prog w P.K mg base CX0 (j + 1) f fd ps (spF P j fn)) ∧ ps.length = fn.np ∧
    ∀ a, a ≤ fn.np → fn.np ≤ a + fn.dfl.length → ∃ (dvs : List V) (us : List Value), Vals dvs us ∧ Binds P.K fd ps us ∧ ∀ F m, repL P F m (fn.dfl.drop (a + fn.dfl.length - fn.np)) dvs := by
  intro n
  induction n with
  | zero =>
    intro key fn hG
    obtain ⟨f, fd, ps, x, qual, params, body, scope, dvs, h1, h2, h3, h4, h5, h6, h7⟩ := (hd key fn hG).ex
    exact ⟨f, h1, h2, fd, ps, (by obtain ⟨oc, od, _, _, _, _, _, _, _, osl, _, lk, _⟩ := h3.ex; exact ⟨⟨oc, od, osl, lk⟩, by rw [List.map_take, ← h6]; exact h4.pre.symm⟩), fun j hj => by omega, h6, h7⟩
  | succ n ih =>
    intro key fn hG
    obtain ⟨f, fd, ps, x, qual, params, body, scope, dvs, h1, h2, h3, h4, h5, h6, h7⟩ := (hd key fn hG).ex
    refine ⟨f, h1, h2, fd, ps, (by obtain ⟨oc, od, _, _, _, _, _, _, _, osl, _, lk, _⟩ := h3.ex; exact ⟨⟨oc, od, osl, lk⟩, by rw [List.map_take, ← h6]; exact h4.pre.symm⟩), fun j hj => ?_, h6, h7⟩
    refine h3.ok h4 (fun vs H Q E ⟨U, F, m, S, ds, d, S', hs, hr, he, k⟩ => ?_) fun cdv A outer sh H vs Q E hroom ⟨U, F, m, S, ds, d, S', hs, hr, he, k⟩ => ?_
    · unfold evFn at he
      split at he
      · rename_i hl
        rw [← hr.len, hl, h6]
      · cases he
    · -- the body's context
      have fa : Facts P j (cxOf CX0 prog w P.K mg base (fn.nm.map st) qual scope f cdv A outer sh H E).nox := by
        refine s.facts0 rfl rfl rfl hroom (fun key' fn' hG' => ?_) (its_at s (fns_zero hd) rfl rfl)
        obtain ⟨f', g1, g2, fd', ps', _, g3, g4, g5⟩ := ih key' fn' hG'
        exact ⟨f', g1, g2, fd', ps', fun i hi => g3 i (by omega), g4, g5⟩
      have ct : Ctx P j ⟨fn.nm.map st, scope, fun _ => true⟩ (cxOf CX0 prog w P.K mg base (fn.nm.map st) qual scope f cdv A outer sh H E).nox := ⟨fa, rfl, rfl, h4.nd, fun _ _ => rfl⟩
      refine ⟨tB P j fn.body, (okB fn.body ct PassesOwn.never h5).nox, ?_⟩
      unfold evFn at he
      split at he
      · rename_i hl
        have hvl : vs.length = fn.np := by rw [← hr.len, hl]
        have hen : (fn.nm.map st).length - vs.length = fn.nm.length - fn.np := by rw [List.length_map, hvl]
        have hn : Rn P F m (ds.map some ++ List.replicate (fn.nm.length - fn.np) none) (L2.start (fn.nm.map st) vs) := by
          unfold L2.start
          rw [hen]
          exact Rn.start _ hr
        split at he
        · rename_i d1 S1 hb
          refine ⟨U, F, m, _, S, _, hn, hs, hb, fun F' m' v H' x1 r1 p1 => ?_⟩
          obtain ⟨m2, x2, r2, p2⟩ := gc_ok hs x1 r1 p1 (Option.some.inj he)
          exact k F' m2 v H' x2 r2 p2
        · rename_i en1 S1 hb
          refine ⟨U, F, m, _, S, _, hn, hs, hb, fun F' m' σ' H' x1 n1 r1 => ?_⟩
          obtain ⟨m2, x2, r2, p2⟩ := gc_ok hs x1 r1 mk_non (Option.some.inj he)
          exact k F' m2 .non H' x2 r2 p2
        · cases he
      · cases he
end
end Iv

set_option Elab.async false
set_option linter.all false
set_option maxRecDepth 100000
set_option maxHeartbeats 4000000
/-! IwC: what the head tells is what the interpreter asks. -/
namespace Iv
open PySem L2 PySem.Spec PyProof.Rows
section
variable {T : Txt} {K : PySem.W.Frag} {h : Heap} {mg : Str → Option Value}
def Txt.P (T : Txt) (K : PySem.W.Frag) : Pm := ⟨K, fun c => He.ga K (st c), T.G⟩
/-- what is seen on the data alone -/
structure Txt.Plain (T : Txt) : Prop where
  cls : ∀ c, T.G.cls c = true → c ∈ T.clss
  fcl : ∀ c f, f ∈ T.G.fld c → T.G.cls c = true
  emp : ∀ m ∈ dunNames, T.G.fn ("", m) = none
  nofld : ∀ c m fn, T.G.fn (c, m) = some fn → m ∉ T.G.fld c
  cst : ∀ x d, T.G.cst x = some d → ∃ i, d = .int i ∧ (x, i) ∈ T.numc
  its : ∀ c f, T.G.itf c = some f → ∃ d : He.DefD, (c, f, d) ∈ T.itd ∧ d.at_ = (st c, some (st "__iter__")) ∧ d.kwd = [] ∧ FnScope [st "self"] [st "self"] d.scope ∧ itB f d.scope d.body = true ∧
    ∀ K fi fd, FunD K d.name d.qual d.params d.body d.scope (d.dvs K) [] fi fd → Binds K fd [st "self"] []
  cms : ∀ k c m, T.G.cmc k = some (c, m) → T.G.cls c = true
theorem ex_all {α : Type} {l : List α} {p : α → Bool} (h : l.all p = true) {x : α} (hx : x ∈ l) : p x = true := List.all_eq_true.mp h x hx
theorem stat_of (pl : T.Plain) (X : K.In h) (G : h.Ns mainGlobals mg) (c : He.SaysD T.fa T.fn K) (e : T.ex K = true) : Stat (T.P K) mg := by
  unfold Txt.ex at e
  simp only [Bool.and_eq_true] at e
  obtain ⟨⟨⟨⟨⟨e1, e2⟩, e3⟩, e4⟩, e5⟩, e6⟩ := e
  have fact : ∀ {f : He.Fa}, f ∈ T.fa → f.ok K = true := fun hf => c.facts hf
  have memC : ∀ {c0 : String}, c0 ∈ T.clss → ∀ f ∈ [He.Fa.glo (st c0), .cls (st c0), .keep (st c0)] ++ (T.G.fld c0).map (fun f => He.Fa.noat (st c0) (st f)), f ∈ T.fa := by
    intro c0 hc f hf
    unfold Txt.fa
    exact List.mem_append_left _ (List.mem_append_left _ (List.mem_append_right _ (List.mem_flatMap.mpr ⟨c0, hc, hf⟩)))
  unfold Txt.ex1 at e1
  unfold Txt.ex2 at e2
  unfold Txt.ex3 at e3
  unfold Txt.ex4 at e4
  simp only [Bool.and_eq_true] at e4
  obtain ⟨⟨⟨g1, g2⟩, g3⟩, _⟩ := e4
  have q2 : ∀ c c', c ∈ T.clss → c' ∈ T.clss → PySem.W.kitOne K (.ref (clA K c)) (.ref (clA K c')) = some (c == c') ∧ (c ≠ c' → PySem.W.subIn K (.ref (clA K c')) (.ref (clA K c)) = some false) ∧ (c ≠ c' → clA K c ≠ clA K c') := by
    intro c c' h1 h2
    have := ex_all (ex_all e2 h1) h2
    simp only [Bool.and_eq_true, Bool.or_eq_true, decide_eq_true_eq, Bool.not_eq_true'] at this
    obtain ⟨⟨k1, k2⟩, k3⟩ := this
    refine ⟨k1, fun hne => ?_, fun hne => ?_⟩
    · rcases k2 with k | k
      · exact absurd (eq_of_beq k) hne
      · exact k
    · rcases k3 with k | k
      · exact absurd (eq_of_beq k) hne
      · simpa using k
  have q3 : ∀ c t, c ∈ T.clss → t ∈ tyNames → (PySem.W.kitOne K (.type t) (.ref (clA K c)) = some false ∧ PySem.W.kitOne K (.ref (clA K c)) (.type t) = some false) ∧ PySem.W.subIn K (.type t) (.ref (clA K c)) = some false := by
    intro c t h1 h2
    have := ex_all (ex_all e3 h1) h2
    simp only [Bool.and_eq_true, decide_eq_true_eq] at this
    exact this
  refine ⟨pl.emp, fun x d hx => ?_, fun x hx => ?_, fun c0 hc => ?_, ⟨He.eqO_ok g1, of_decide_eq_true g2⟩, fun c0 c1 h1 h2 => (q2 c0 c1 (pl.cls _ h1) (pl.cls _ h2)).1, fun c0 t h1 h2 => (q3 c0 t (pl.cls _ h1) h2).1, fun c0 c1 h1 h2 h3 => (q2 c0 c1 (pl.cls _ h1) (pl.cls _ h2)).2.1 h3, fun c0 t h1 h2 => (q3 c0 t (pl.cls _ h1) h2).2,
    fun x hx => ?_, pl.fcl, fun c0 hc => ?_, fun c0 c1 h1 h2 h3 => ?_, fun c0 f hI => ?_⟩
  · obtain ⟨i, rfl, hi⟩ := pl.cst x d hx
    have hm : He.Fa.int (st x) i ∈ T.fa := by
      unfold Txt.fa
      exact List.mem_append_right _ (List.mem_append_left _ (List.mem_map.mpr ⟨(x, i), hi, rfl⟩))
    obtain ⟨t, ht⟩ := He.int_ok X G (fact hm)
    exact ⟨.int i t, .int i, ht, ⟨t, rfl⟩, fun F m => mk_int⟩
  · have hm : He.Fa.free (st x) ∈ T.fa := by
      unfold Txt.fa
      exact List.mem_append_left _ (List.mem_append_right _ (List.mem_map.mpr ⟨x, hx, rfl⟩))
    exact He.free_ok X G (fact hm)
  · have hc' := pl.cls c0 hc
    have m0 := memC hc'
    have k1 := ex_all e1 hc'
    simp only [Bool.and_eq_true, decide_eq_true_eq] at k1
    obtain ⟨⟨⟨⟨k1, k2⟩, k3⟩, k4⟩, k5⟩ := k1
    refine ⟨He.cls_ok (fact (m0 _ (by simp))), k1, fun f hf => He.noat_ok (fact (m0 _ (List.mem_append_right _ (List.mem_map.mpr ⟨f, hf, rfl⟩)))), fun m fn hG => pl.nofld c0 m fn hG, k2, He.keep_ok (fact (m0 _ (by simp))), He.eqO_ok k3, k4, He.eqO_ok k5⟩
  · exact PySem.W.mg_of X G (He.eqO_ok (ex_all g3 hx))
  · exact He.glo_ok X G (fact (memC (pl.cls c0 hc) _ (by simp)))
  · by_cases hne : c0 = c1
    · exact hne
    · exact absurd h3 ((q2 c0 c1 (pl.cls _ h1) (pl.cls _ h2)).2.2 hne)
  · obtain ⟨d, hd, d1, d2, d3, d4, d5⟩ := pl.its c0 f hI
    have hmem : d ∈ T.fn := List.mem_append_right _ (List.mem_map.mpr ⟨(c0, f, d), hd, rfl⟩)
    obtain ⟨fd, FD⟩ := c.defs hmem
    have hk : d.kws K = [] := by unfold He.DefD.kws; rw [d2]; rfl
    rw [hk] at FD
    have hm : He.Fa.meth (st c0) (st "__iter__") ∈ T.fa := by
      unfold Txt.fa
      exact List.mem_append_right _ (List.mem_append_right _ (List.mem_map.mpr ⟨(c0, f, d), hd, rfl⟩))
    have hh := ex_all e5 hd
    simp only [Bool.and_eq_true, Bool.or_eq_true] at hh
    refine ⟨⟨He.fAd K d.at_, fd, _, _, _, _, _, _, ?_, FD, d3, d4, d5 K _ fd FD⟩, He.eqO_ok hh.1, fun hn => ?_⟩
    · rw [d1]
      exact He.meth_ok (fact hm)
    · rcases hh.2 with q | q
      · have hn' : T.G.fn (c0, "__len__") = none := hn
        rw [hn'] at q; cases q
      · exact He.eqO_ok q
end
end Iv

set_option Elab.async false
set_option linter.all false
set_option maxRecDepth 100000
set_option maxHeartbeats 4000000
/-! IwD: a def of the text is a def of the interpreter. -/
namespace Iv
open PySem L2 PySem.Spec PyProof.Rows
section
variable {T : Txt} {K : PySem.W.Frag} {h : Heap} {mg : Str → Option Value}
def isLoc (sc : Scope) (x : Str) : Bool := match sc.names.lookup x with | some .local => true | some .cell => true | _ => false
/-- what is seen of a def on its text alone -/
def defB (T : Txt) (t : Iv.Key × Fn × He.DefD) : Bool :=
  ((t.1.1 != "") || (T.G.cmc t.1.2).isNone) && decide (t.2.2.at_ = (if t.1.1 = "" then (st t.1.2, none) else (st t.1.1, some (st t.1.2)))) && ((t.1.1 == "") || T.G.cls t.1.1) && t.2.2.kwd.isEmpty &&
  (t.2.2.scope.kind == .function) && !t.2.2.scope.isCoroutine && !t.2.2.scope.isGenerator && decide (t.2.1.nm.map st).Nodup && decide (t.2.1.np ≤ t.2.1.nm.length) &&
  ((t.2.1.nm.take t.2.1.np).all fun x => isLoc t.2.2.scope (st x)) && (t.2.2.scope.names.all fun y => y.2 != .free) &&
  chkB T.G ⟨t.2.1.nm.map st, t.2.2.scope, fun _ => true⟩ t.2.1.body t.2.2.body
/-- how its arguments are bound, the defaults behind -/
def BindD (t : Iv.Key × Fn × He.DefD) : Prop := ∀ (K : PySem.W.Frag) (f : Addr) (fd : FuncData), FunD K t.2.2.name t.2.2.qual t.2.2.params t.2.2.body t.2.2.scope (t.2.2.dvs K) [] f fd →
  ∀ a, a ≤ t.2.1.np → t.2.1.np ≤ a + t.2.1.dfl.length → ∃ (dvs : List V) (us : List Value), Vals dvs us ∧ Binds K fd ((t.2.1.nm.take t.2.1.np).map st) us ∧ ∀ P : Pm, ∀ F m, repL P F m (t.2.1.dfl.drop (a + t.2.1.dfl.length - t.2.1.np)) dvs
theorem def_of (X : K.In h) (G : h.Ns mainGlobals mg) (c : He.SaysD T.fa T.fn K) (e : T.ex K = true) {t : Iv.Key × Fn × He.DefD} (ht : t ∈ T.tab) (hb : defB T t = true) (bd : BindD t) : DefAt (T.P K) mg t.1 t.2.1 := by
  unfold defB at hb
  simp only [Bool.and_eq_true, Bool.not_eq_true', decide_eq_true_eq] at hb
  obtain ⟨⟨⟨⟨⟨⟨⟨⟨⟨⟨⟨b0, b1⟩, b2⟩, b3⟩, b4⟩, b5⟩, b6⟩, b7⟩, b8⟩, b9⟩, b10⟩, b11⟩ := hb
  have hmem : t.2.2 ∈ T.fn := List.mem_append_left _ (List.mem_map.mpr ⟨t, ht, rfl⟩)
  obtain ⟨fd, FD⟩ := c.defs hmem
  have hk : t.2.2.kws K = [] := by
    unfold He.DefD.kws
    have : t.2.2.kwd = [] := by simpa using b3
    rw [this]; rfl
  rw [hk] at FD
  have hfa : (if t.1.1 == "" then He.Fa.glo (st t.1.2) else He.Fa.meth (st t.1.1) (st t.1.2)) ∈ T.fa := by
    unfold Txt.fa
    exact List.mem_append_left _ (List.mem_append_left _ (List.mem_append_left _ (List.mem_map.mpr ⟨t, ht, rfl⟩)))
  have e' := e
  unfold Txt.ex at e'
  simp only [Bool.and_eq_true] at e'
  have e4 := e'.1.1.2
  unfold Txt.ex4 at e4
  simp only [Bool.and_eq_true] at e4
  have fi := ex_all e4.2 ht
  have hlen : ((t.2.1.nm.take t.2.1.np).map st).length = t.2.1.np := by rw [List.length_map, List.length_take]; omega
  refine ⟨He.fAd K t.2.2.at_, fd, (t.2.1.nm.take t.2.1.np).map st, t.2.2.name, t.2.2.qual, t.2.2.params, t.2.2.body, t.2.2.scope, t.2.2.dvs K, ?_, fun hne => ?_, FD, ⟨eq_of_beq b4, b5, b6, b7, ?_, ?_, ?_⟩, b11, hlen, fun a h1 h2 => ?_⟩
  · by_cases h0 : t.1.1 = ""
    · left
      rw [if_pos (by simpa using h0)] at hfa
      rw [if_pos h0] at b1
      have hcm : T.G.cmc t.1.2 = none := by
        rcases Bool.or_eq_true_iff.mp b0 with q | q
        · rw [h0] at q; cases q
        · exact Option.isNone_iff_eq_none.mp q
      refine ⟨h0, .inl ⟨hcm, ?_, FD.kp⟩⟩
      rw [b1]
      exact He.glo_ok X G (c.facts hfa)
    · right
      rw [if_neg (by simpa using h0)] at hfa
      rw [if_neg h0] at b1
      refine ⟨h0, ?_, ?_⟩
      · rcases Bool.or_eq_true_iff.mp b2 with q | q
        · exact absurd (eq_of_beq q) h0
        · exact q
      · rw [b1]
        exact He.meth_ok (c.facts hfa)
  · rw [if_neg hne] at b1
    rw [b1]
    rcases Bool.or_eq_true_iff.mp fi with q | q
    · exact absurd (eq_of_beq q) hne
    · exact q
  · rw [hlen, ← List.map_take]
  · intro x hx
    obtain ⟨y, hy, rfl⟩ := List.mem_map.mp hx
    have := ex_all b9 hy
    unfold isLoc at this
    split at this
    · rename_i q; exact .inl q
    · rename_i q; exact .inr q
    · cases this
  · intro y hy
    have := ex_all b10 hy
    simpa using this
  · obtain ⟨dvs, us, k1, k2, k3⟩ := bd K _ fd FD a h1 h2
    exact ⟨dvs, us, k1, k2, fun F m => k3 _ F m⟩
/-- what is seen of a classmethod on its text alone -/
def cmB (T : Txt) (t : String × String × String × Fn × He5.DefA) : Bool :=
  decide (T.G.cmc t.1 = some (t.2.1, t.2.2.1)) && T.G.cls t.2.1 && t.2.2.2.2.kwd.isEmpty && t.2.2.2.2.dfl.isEmpty && t.2.2.2.1.dfl.isEmpty &&
  (t.2.2.2.2.scope.kind == .function) && !t.2.2.2.2.scope.isCoroutine && !t.2.2.2.2.scope.isGenerator && decide (t.2.2.2.1.nm.map st).Nodup && decide (t.2.2.2.1.np ≤ t.2.2.2.1.nm.length) &&
  ((t.2.2.2.1.nm.take t.2.2.2.1.np).all fun x => isLoc t.2.2.2.2.scope (st x)) && (t.2.2.2.2.scope.names.all fun y => y.2 != .free) &&
  chkB T.G ⟨t.2.2.2.1.nm.map st, t.2.2.2.2.scope, fun _ => true⟩ t.2.2.2.1.body t.2.2.2.2.body
theorem cm_of (X : K.In h) (c : He5.SaysA [] T.fnC K) (e : T.ex K = true) {t : String × String × String × Fn × He5.DefA} (ht : t ∈ T.cmd) (hb : cmB T t = true) (hat : t.2.2.2.2.at_ = fun K => He5.wf K (clA K t.2.1) "classmethod" (st t.2.2.1))
    (bd : ∀ (K : PySem.W.Frag) (f : Addr) (fd : FuncData), FunD K t.2.2.2.2.name t.2.2.2.2.qual t.2.2.2.2.params t.2.2.2.2.body t.2.2.2.2.scope [] [] f fd → Binds K fd ((t.2.2.2.1.nm.take t.2.2.2.1.np).map st) []) : DefAt (T.P K) mg ("", t.1) t.2.2.2.1 := by
  obtain ⟨k, c0, m0, fn, d⟩ := t
  dsimp only at hat bd ⊢
  unfold cmB at hb
  simp only [Bool.and_eq_true, Bool.not_eq_true', decide_eq_true_eq, List.isEmpty_iff] at hb
  obtain ⟨⟨⟨⟨⟨⟨⟨⟨⟨⟨⟨⟨b1, b2⟩, b3⟩, b3'⟩, b3''⟩, b4⟩, b5⟩, b6⟩, b7⟩, b8⟩, b9⟩, b10⟩, b11⟩ := hb
  have hmem : d ∈ T.fnC := List.mem_map.mpr ⟨(k, c0, m0, fn, d), ht, rfl⟩
  obtain ⟨i, hi, ei⟩ := List.mem_iff_getElem.mp hmem
  obtain ⟨fd, FD⟩ := c.def_ i (d := d) (by rw [List.getElem?_eq_getElem hi, ei])
  have hk : d.kws K = [] := by unfold He5.DefA.kws; rw [b3]; rfl
  have hd0 : d.dvs K = [] := by unfold He5.DefA.dvs; rw [b3']; rfl
  rw [hk, hd0, hat] at FD
  unfold Txt.ex at e
  simp only [Bool.and_eq_true] at e
  have e6 := ex_all e.2 ht
  simp only [Bool.and_eq_true] at e6
  obtain ⟨⟨⟨g1, g2⟩, g3⟩, g4⟩ := e6
  obtain ⟨w1, w2⟩ := He5.wrapB_ok g3
  have hlen : ((fn.nm.take fn.np).map st).length = fn.np := by rw [List.length_map, List.length_take]; omega
  refine ⟨He5.wf K (clA K c0) "classmethod" (st m0), fd, (fn.nm.take fn.np).map st, d.name, d.qual, d.params, d.body, d.scope, [], .inl ⟨rfl, .inr ⟨c0, m0, .type "type", He.ma K (clA K c0) (st m0), b1, b2, ⟨g1, He.eqO_ok g2⟩, ⟨w1, w2, g4⟩⟩⟩, fun hne => absurd rfl hne, FD, ⟨eq_of_beq b4, b5, b6, b7, ?_, ?_, ?_⟩, b11, hlen, fun a h1 h2 => ?_⟩
  · rw [hlen, ← List.map_take]
  · intro x hx
    obtain ⟨y, hy, rfl⟩ := List.mem_map.mp hx
    have := ex_all b9 hy
    unfold isLoc at this
    split at this
    · rename_i q; exact .inl q
    · rename_i q; exact .inr q
    · cases this
  · intro y hy
    have := ex_all b10 hy
    simpa using this
  · exact ⟨[], [], .nil, bd K _ fd FD, fun F m => by rw [b3'']; simpa using repL.nil⟩
/-- no defaults -/
theorem bind0 {t : Iv.Key × Fn × He.DefD} (h0 : t.2.1.dfl = []) (h1 : t.2.2.dfl = [])
    (h : ∀ (kV doc pm : Value) (an : Option Addr) (cdv ct : Value) (us : List Value), us.length = ((t.2.1.nm.take t.2.1.np).map st).length → bindArgs (PySem.W.fnOf t.2.2.name t.2.2.qual t.2.2.params t.2.2.body t.2.2.scope .none kV doc pm an cdv ct) ⟨us, []⟩ = pure (((t.2.1.nm.take t.2.1.np).map st).zip us)) : BindD t := by
  intro K f fd FD a ha1 ha2
  have e : t.2.2.dvs K = [] := by unfold He.DefD.dvs; rw [h1]; rfl
  rw [e] at FD
  refine ⟨[], [], .nil, FD.bindsN h, fun P F m => ?_⟩
  rw [h0]
  simpa using repL.nil
end
end Iv

set_option Elab.async false
set_option linter.all false
set_option maxRecDepth 100000
set_option maxHeartbeats 4000000
/-! IwE: arguments are bound by place. -/
namespace Iv
open PySem L2 PySem.Spec PyProof.Rows
theorem zip_look : ∀ {ns : List Str} {us : List Value} {x : Str}, ns.length = us.length → x ∈ ns → ((ns.zip us).lookup x).isSome = true
  | [], _, _, _, h => by simp at h
  | n :: ns, [], _, h, _ => by simp at h
  | n :: ns, u :: us, x, hl, h => by
    rw [List.zip_cons_cons, List.lookup_cons]
    cases q : x == n with
    | true => rfl
    | false =>
      rcases List.mem_cons.mp h with e | h
      · subst e; simp at q
      · exact zip_look (by simpa using hl) h
theorem zip_fm : ∀ {ns : List Str} {us : List Value}, ns.length = us.length → ns.Nodup → (ns.filterMap fun n => ((ns.zip us).lookup n).map (n, ·)) = ns.zip us
  | [], [], _, _ => rfl
  | [], _ :: _, h, _ => by simp at h
  | n :: ns, [], h, _ => by simp at h
  | n :: ns, u :: us, hl, hn => by
    obtain ⟨h1, h2⟩ := List.nodup_cons.mp hn
    rw [List.zip_cons_cons, List.filterMap_cons]
    have e1 : List.lookup n ((n, u) :: ns.zip us) = some u := by rw [List.lookup_cons]; simp
    rw [e1]
    simp only [Option.map_some]
    congr 1
    have : ∀ l : List Str, (∀ x ∈ l, x ≠ n) → (l.filterMap fun m => (List.lookup m ((n, u) :: ns.zip us)).map (m, ·)) = l.filterMap fun m => ((ns.zip us).lookup m).map (m, ·) := by
      intro l hl'
      induction l with
      | nil => rfl
      | cons y l ih =>
        have e2 : List.lookup y ((n, u) :: ns.zip us) = (ns.zip us).lookup y := by
          rw [List.lookup_cons]
          have : (y == n) = false := by simpa using hl' y List.mem_cons_self
          rw [this]
        rw [List.filterMap_cons, List.filterMap_cons, e2, ih fun x hx => hl' x (List.mem_cons_of_mem _ hx)]
    have h3 := this ns fun x hx e => h1 (e ▸ hx)
    exact h3.trans (zip_fm (by simpa using hl) h2)
theorem bindArgs0 {x qual : Str} {args : List Arg} {body : List Stmt} {scope : Scope} {kV doc pm : Value} {an : Option Addr} {cdv ct : Value} {us : List Value} (hn : (args.map (·.arg)).Nodup) (hl : us.length = (args.map (·.arg)).length) :
    bindArgs (PySem.W.fnOf x qual ⟨[], args, none, [], [], none, []⟩ body scope .none kV doc pm an cdv ct) ⟨us, []⟩ = pure ((args.map (·.arg)).zip us) := by
  have hz := zip_fm hl.symm hn
  have hm : ((args.map (·.arg)).filter fun n => (((args.map (·.arg)).zip us).lookup n).isNone) = [] := by
    rw [List.filter_eq_nil_iff]
    intro y hy
    have := zip_look hl.symm hy
    simp [Option.isNone_iff_eq_none, Option.isSome_iff_ne_none] at this ⊢
    exact this
  unfold bindArgs
  simp only [PySem.W.fnOf, List.map_nil, List.nil_append, List.append_nil]
  have hsi : seqItems? Value.none = pure none := rfl
  have hgt : ¬ (us.length > (args.map (·.arg)).length) := by omega
  have htk : (args.map (·.arg)).take (args.map (·.arg)).length = args.map (·.arg) := List.take_length
  have hdr : (args.map (·.arg)).drop (args.map (·.arg)).length = [] := List.drop_length
  simp only [List.forIn_nil, pure_bind, hsi, Option.getD_none, List.length_nil, Nat.zero_sub, List.drop_nil, Nat.sub_zero, htk, hm, hdr, List.zip_nil_left, List.isEmpty_nil, Bool.not_true, Bool.false_eq_true, if_false, hz, hgt, decide_false, Bool.false_and, Array.toList_empty, List.drop_zero]
def parsB (p : Arguments) (names : List Str) : Bool := match p with
  | ⟨[], args, none, [], [], none, []⟩ => args.map (·.arg) == names
  | _ => false
theorem bindD0 {t : Iv.Key × Fn × He.DefD} (h0 : t.2.1.dfl.isEmpty = true) (h1 : t.2.2.dfl.isEmpty = true) (hp : parsB t.2.2.params ((t.2.1.nm.take t.2.1.np).map st) = true) (hn : (t.2.1.nm.map st).Nodup) : BindD t := by
  refine bind0 (by simpa using h0) (by simpa using h1) fun kV doc pm an cdv ct us hl => ?_
  unfold parsB at hp
  split at hp
  · rename_i args hq
    rw [hq]
    have e := eq_of_beq hp
    rw [← e] at hl ⊢
    refine bindArgs0 ?_ hl
    rw [e, List.map_take]
    exact hn.sublist (List.take_sublist _ _)
  · cases hp
end Iv

set_option Elab.async false
set_option linter.all false
set_option maxRecDepth 100000
set_option maxHeartbeats 4000000
/-! IwF: three parameters, the last with a default. -/
namespace Iv
open PySem L2 PySem.Spec PyProof.Rows
theorem split_k {α β : Type} {t : Sem β} {q : Sem α} {x : α} {r : Sem β} (k : α → Sem β) (h1 : t = q >>= k) (h2 : k x = r) : ∃ k, t = q >>= k ∧ k x = r := ⟨k, h1, h2⟩
theorem bind3_2 {x qual : Str} {a1 a2 a3 : Arg} {e : Expr} {body : List Stmt} {scope : Scope} {T : Addr} {kV doc pm : Value} {an : Option Addr} {cdv ct : Value} {u v d : Value} (h12 : a1.arg ≠ a2.arg) (h13 : a1.arg ≠ a3.arg) (h23 : a2.arg ≠ a3.arg) :
    ∃ k, bindArgs (PySem.W.fnOf x qual ⟨[], [a1, a2, a3], none, [], [], none, [e]⟩ body scope (.ref T) kV doc pm an cdv ct) ⟨[u, v], []⟩ = seqItems? (.ref T) >>= k ∧ k (some #[d]) = pure [(a1.arg, u), (a2.arg, v), (a3.arg, d)] := by
  have e12 : (a2.arg == a1.arg) = false := by simpa using Ne.symm h12
  have e13 : (a3.arg == a1.arg) = false := by simpa using Ne.symm h13
  have e23 : (a3.arg == a2.arg) = false := by simpa using Ne.symm h23
  refine split_k ?k ?h1 ?h2
  case h1 =>
    unfold bindArgs
    simp only [PySem.W.fnOf, List.forIn_nil, pure_bind]
    rfl
  case h2 => simp [List.lookup_cons, e12, e13, e23]
theorem bind3_3 {x qual : Str} {a1 a2 a3 : Arg} {e : Expr} {body : List Stmt} {scope : Scope} {T : Addr} {kV doc pm : Value} {an : Option Addr} {cdv ct : Value} {u v w d : Value} (h12 : a1.arg ≠ a2.arg) (h13 : a1.arg ≠ a3.arg) (h23 : a2.arg ≠ a3.arg) :
    ∃ k, bindArgs (PySem.W.fnOf x qual ⟨[], [a1, a2, a3], none, [], [], none, [e]⟩ body scope (.ref T) kV doc pm an cdv ct) ⟨[u, v, w], []⟩ = seqItems? (.ref T) >>= k ∧ k (some #[d]) = pure [(a1.arg, u), (a2.arg, v), (a3.arg, w)] := by
  have e12 : (a2.arg == a1.arg) = false := by simpa using Ne.symm h12
  have e13 : (a3.arg == a1.arg) = false := by simpa using Ne.symm h13
  have e23 : (a3.arg == a2.arg) = false := by simpa using Ne.symm h23
  refine split_k ?k ?h1 ?h2
  case h1 =>
    unfold bindArgs
    simp only [PySem.W.fnOf, List.forIn_nil, pure_bind]
    rfl
  case h2 => simp [List.lookup_cons, e12, e13, e23]
def pars3B (p : Arguments) (n1 n2 n3 : Str) : Bool := match p with
  | ⟨[], [a1, a2, a3], none, [], [], none, [_]⟩ => (a1.arg == n1) && (a2.arg == n2) && (a3.arg == n3)
  | _ => false
theorem bindD31 {t : Iv.Key × Fn × He.DefD} {i : Int} {n1 n2 n3 : Str} (hd : t.2.1.dfl = [.int i]) (h1 : t.2.2.dfl = [.int i]) (hnp : t.2.1.np = 3) (hps : (t.2.1.nm.take t.2.1.np).map st = [n1, n2, n3]) (hp : pars3B t.2.2.params n1 n2 n3 = true)
    (h12 : n1 ≠ n2) (h13 : n1 ≠ n3) (h23 : n2 ≠ n3) : BindD t := by
  intro K f fd FD a ha1 ha2
  have e : t.2.2.dvs K = [.int i] := by unfold He.DefD.dvs; rw [h1]; rfl
  rw [e] at FD
  unfold pars3B at hp
  split at hp
  · rename_i a1 a2 a3 ee hq
    simp only [Bool.and_eq_true] at hp
    obtain ⟨⟨q1, q2⟩, q3⟩ := hp
    have q1 := eq_of_beq q1
    have q2 := eq_of_beq q2
    have q3 := eq_of_beq q3
    subst q1 q2 q3
    rw [hq] at FD
    rw [hps, hd, hnp]
    rw [hd, hnp] at ha2
    rw [hnp] at ha1
    have : a = 2 ∨ a = 3 := by simp at ha2; omega
    rcases this with rfl | rfl
    · obtain ⟨ds, r, b⟩ := FD.binds1 (ps := [a1.arg, a2.arg, a3.arg]) 2 0 (by simp) (by simp) (fun T kV doc pm an cdv ct us its hl hi => match us, its, hl, hi with
        | [u, v], [d], _, _ => bind3_2 h12 h13 h23)
      exact ⟨_, ds, r, b, fun P F m => by simpa using repL.cons mk_int .nil⟩
    · obtain ⟨ds, r, b⟩ := FD.binds1 (ps := [a1.arg, a2.arg, a3.arg]) 3 1 (by simp) (by simp) (fun T kV doc pm an cdv ct us its hl hi => match us, its, hl, hi with
        | [u, v, w], [d], _, _ => bind3_3 h12 h13 h23)
      exact ⟨_, ds, r, b, fun P F m => by simpa using repL.nil⟩
  · cases hp
end Iv

set_option Elab.async false
set_option linter.all false
set_option maxRecDepth 100000
set_option maxHeartbeats 4000000
/-! IwG: a law's end. -/
namespace Iv
open PySem L2 PySem.Spec PyProof.Rows
theorem RS.init {P : Pm} {H : Hp} : RS P (fun _ => none) H [] [] H := by
  refine ⟨fun _ _ h => h, List.nodup_nil, rfl, fun i a c h => by simp at h, fun i a c h => by simp at h, fun a o h => by cases h⟩
theorem repL_ints {P : Pm} {F : Hp} {m : List Addr} : ∀ ns : List Int, repL P F m (ns.map DV.int) (ns.map V.int)
  | [] => .nil
  | n :: ns => .cons mk_int (repL_ints ns)
theorem law_walk {l : PySem.W.OpenLaw} {T : Txt} {n k m : Nat} {q : Program} {loose : List Str} {XP : (Str → Option Value) → Heap → Prop} {d : DefRec} {t : Iv.Key × Fn × He.DefD} {x : Str}
    (pl : T.Plain) (ok : ∀ key fn, T.G.fn key = some fn → (∃ u ∈ T.tab, u.1 = key ∧ u.2.1 = fn ∧ defB T u = true ∧ BindD u) ∨
      ∃ u ∈ T.cmd, ("", u.1) = key ∧ u.2.2.2.1 = fn ∧ cmB T u = true ∧ (u.2.2.2.2.at_ = fun K => He5.wf K (clA K u.2.1) "classmethod" (st u.2.2.1)) ∧
        ∀ (K : PySem.W.Frag) (f : Addr) (fd : FuncData), FunD K u.2.2.2.2.name u.2.2.2.2.qual u.2.2.2.2.params u.2.2.2.2.body u.2.2.2.2.scope [] [] f fd → Binds K fd ((u.2.2.2.1.nm.take u.2.2.2.1.np).map st) [])
    (hcl : T.G.cmc "law" = none) (hG : T.G.fn ("", "law") = some t.2.1) (ht : t ∈ T.tab) (hk : t.1 = ("", "law")) (hb : defB T t = true) (hnp : t.2.1.np = 1) (hdfl : t.2.1.dfl = []) (hps : (t.2.1.nm.take t.2.1.np).map st = [x]) (hd0 : t.2.2.dfl = [])
    (hbind : ∀ (kV doc pm : Value) (an : Option Addr) (cdv ct : Value) (us : List Value), us.length = [x].length → bindArgs (PySem.W.fnOf t.2.2.name t.2.2.qual t.2.2.params t.2.2.body t.2.2.scope .none kV doc pm an cdv ct) ⟨us, []⟩ = pure ([x].zip us))
    (hn : l.most = some n) (hn2 : n ≤ sizeLine) (hdf : d.params.defaults = []) (hr : Room (k + 1) callerA) (hdn : d.name = st "law")
    (ev : ∀ ns : List Int, ns.length ≤ n → ∃ S', evFn (orc T.G k) T.G t.2.1 [.scr (ns.map .int)] [] = some (.bl true, S')) :
    PySem.W.WalkO q loose XP (hookI T m).says l.row.toRowW d [] (fun f vs => PySem.call f vs) := by
  refine L2.walk_ofE (l := l) (n := n) (k := k + 1) (x := x) (CX := L2.CX0) hn hn2 hdf hr ?_ (fun _ _ _ _ z => z)
  intro w mg fa h Y G hmg0
  obtain ⟨K, KX, c⟩ := Y
  have hmem : t.2.2 ∈ T.fn := List.mem_append_left _ (List.mem_map.mpr ⟨t, ht, rfl⟩)
  obtain ⟨fd0, F0⟩ := c.d.defs hmem
  have bk : t.2.2.kws K = [] := by
    unfold defB at hb
    simp only [Bool.and_eq_true] at hb
    obtain ⟨⟨⟨⟨⟨⟨⟨⟨⟨⟨⟨_, _⟩, _⟩, b3⟩, _⟩, _⟩, _⟩, _⟩, _⟩, _⟩, _⟩, _⟩ := hb
    unfold He.DefD.kws
    have : t.2.2.kwd = [] := by simpa using b3
    rw [this]; rfl
  have bd : t.2.2.dvs K = [] := by unfold He.DefD.dvs; rw [hd0]; rfl
  rw [bk, bd] at F0
  have hm : mg (st "law") = some (.ref fa) := by rw [← hdn]; exact hmg0
  have hat : t.2.2.at_ = (st "law", none) := by
    unfold defB at hb
    simp only [Bool.and_eq_true, decide_eq_true_eq] at hb
    obtain ⟨⟨⟨⟨⟨⟨⟨⟨⟨⟨⟨_, b1⟩, _⟩, _⟩, _⟩, _⟩, _⟩, _⟩, _⟩, _⟩, _⟩, _⟩ := hb
    rw [b1, hk]; rfl
  have hfa : He.Fa.glo (st "law") ∈ T.fa := by
    unfold Txt.fa
    refine List.mem_append_left _ (List.mem_append_left _ (List.mem_append_left _ (List.mem_map.mpr ⟨t, ht, ?_⟩)))
    rw [hk]; rfl
  have efa : He.fAd K t.2.2.at_ = fa := by
    have h1 := He.glo_ok KX G (c.d.facts hfa)
    rw [hm] at h1
    have h2 := Option.some.inj h1
    cases h2
    rw [hat]; rfl
  rw [efa] at F0
  have binds := FunD.bindsA (ps := [x]) F0 hbind
  refine ⟨K, fd0, spF (T.P K) k t.2.1, KX, fun s v => binds s [v] rfl, fun H a ns hl hO hS => ?_, fun base kin bns => ?_⟩
  · obtain ⟨S', e⟩ := ev ns hl
    refine ⟨fun _ => none, H, [], [], _, _, S', RS.init, .cons ?_ .nil, e, fun F' m' v H' _ _ hv => rep_bl hv⟩
    simp only [repV]
    exact ⟨a, _, rfl, hS, repL_ints ns⟩
  · have S := stat_of pl kin bns c.d c.more
    have DA : ∀ key fn, T.G.fn key = some fn → DefAt (T.P K) mg key fn := fun key fn hG' => by
      rcases ok key fn hG' with ⟨u, hu, e1, e2, hb', bd'⟩ | ⟨u, hu, e1, e2, hb', hat', bd'⟩
      · have := def_of (mg := mg) kin bns c.d c.more hu hb' bd'
        rw [e1, e2] at this
        exact this
      · have := cm_of (mg := mg) kin c.c c.more hu hb' hat' bd'
        rw [e1, e2] at this
        exact this
    obtain ⟨f, h1, _, fd, ps, ⟨⟨oc, od, osl, lk⟩, eps⟩, h3, h4, _⟩ := fnOk (prog := l.prog) (w := w) (base := base) S DA (k + 1) ("", "law") t.2.1 hG
    have ef : f = fa := by
      rcases h1 with ⟨_, ⟨_, h1, _⟩ | ⟨c1, m1, _, _, hz, _⟩⟩ | ⟨h1, _⟩
      rotate_left
      · have hz' : T.G.cmc "law" = some (c1, m1) := hz
        rw [hcl] at hz'; cases hz'
      rotate_left
      · rw [hm] at h1
        have h2 := Option.some.inj h1
        cases h2; rfl
      · exact absurd rfl h1
    subst ef
    have efd : fd = fd0 := by
      obtain ⟨oc', od', _, _, _, _, _, _, _, osl', _, lk', _⟩ := F0.ex
      have e3 : some (⟨oc, od, .func fd, osl⟩ : Obj) = some ⟨oc', od', .func fd0, osl'⟩ := lk.symm.trans lk'
      injection e3 with e3
      injection e3 with _ _ e3 _
      injection e3
    subst efd
    rw [hps] at eps
    subst eps
    exact h3 k (Nat.le_refl _)
end Iv

set_option Elab.async false
set_option linter.all false
set_option maxRecDepth 1000000
set_option maxHeartbeats 0
/-! K55I: every def of law k55 (but the law itself) is what its printed form says. -/
namespace K55
open PySem PySem.Spec PyProof.Rows L2 Iv
def oneB (t : Iv.Key × Fn × He.DefD) : Bool := defB T t && ((t.1 == ("Ratio", "__init__")) || (t.2.1.dfl.isEmpty && t.2.2.dfl.isEmpty && parsB t.2.2.params ((t.2.1.nm.take t.2.1.np).map st)))
theorem defs_ok : (T.tab.all oneB) = true := by kernel_rfl
def initB (t : Iv.Key × Fn × He.DefD) : Bool := !(t.1 == ("Ratio", "__init__")) || ((match t.2.1.dfl with | [.int i] => i == 1 | _ => false) && (match t.2.2.dfl with | [.int i] => i == 1 | _ => false) && (t.2.1.np == 3) && decide ((t.2.1.nm.take t.2.1.np).map st = [st "self", st "n", st "d"]) && pars3B t.2.2.params (st "self") (st "n") (st "d"))
theorem init_ok : (T.tab.all initB) = true := by kernel_rfl
theorem cm_ok : (T.cmd.all fun t => cmB T t && parsB t.2.2.2.2.params ((t.2.2.2.1.nm.take t.2.2.2.1.np).map st)) = true := by kernel_rfl
theorem it_ok : (T.itd.all fun t => decide (t.2.2.at_ = (st t.1, some (st "__iter__"))) && t.2.2.kwd.isEmpty && t.2.2.dfl.isEmpty && (t.2.2.scope.kind == .function) && !t.2.2.scope.isCoroutine && !t.2.2.scope.isGenerator && isLoc t.2.2.scope (st "self") && (t.2.2.scope.names.all fun y => y.2 != .free) && itB t.2.1 t.2.2.scope t.2.2.body && parsB t.2.2.params [st "self"]) = true := by kernel_rfl
end K55

set_option Elab.async false
set_option linter.all false
set_option maxRecDepth 1000000
set_option maxHeartbeats 0
/-! K55J: the data facts. -/
namespace K55
open PySem PySem.Spec PyProof.Rows L2 Iv
theorem noflds : (tab.all fun t => !(flds t.1.1).contains t.1.2) = true := by kernel_rfl
theorem parsB_binds {ps : List Str} {x qual : Str} {params : Arguments} {body : List Stmt} {scope : Scope} {K : PySem.W.Frag} {f : Addr} {fd : FuncData} (hp : parsB params ps = true) (hn : ps.Nodup) (FD : FunD K x qual params body scope [] [] f fd) : Binds K fd ps [] := by
  intro s us _ hl
  rw [List.append_nil] at hl ⊢
  refine FunD.bindsA (ps := ps) FD (fun kV doc pm an cdv ct us hl => ?_) s us hl
  unfold parsB at hp
  split at hp
  · have e := eq_of_beq hp
    rw [← e] at hl hn ⊢
    exact bindArgs0 hn hl
  · cases hp
theorem fn_mem {k : Iv.Key} {fn : Fn} (h : G.fn k = some fn) : (k = ("", "PowerProduct.without_factors") ∧ fn = PowerProduct_without_factors) ∨ ∃ t ∈ tab, t.1 = k ∧ t.2.1 = fn := by
  have h : (if k == ("", "PowerProduct.without_factors") then some PowerProduct_without_factors else (tab.find? fun t => t.1 == k).map fun t => t.2.1) = some fn := h
  split at h
  · rename_i hk
    exact .inl ⟨eq_of_beq hk, (Option.some.inj h).symm⟩
  · right
    cases q : tab.find? fun t => t.1 == k with
    | none => rw [q] at h; cases h
    | some t =>
      rw [q] at h
      have e : (t.1 == k) = true := by simpa using List.find?_some q
      exact ⟨t, List.mem_of_find?_eq_some q, eq_of_beq e, Option.some.inj h⟩
theorem plain : T.Plain := by
  refine ⟨fun c h => by simpa [T, G] using h, fun c f h => ?_, by decide +kernel, fun c m fn h => ?_, fun x d h => ?_, fun c f h => ?_, fun k c m h => ?_⟩
  · have h : f ∈ flds c := h
    unfold flds at h
    split at h
    · decide +kernel
    · decide +kernel
    · decide +kernel
    · decide +kernel
    · cases h
  · rcases fn_mem h with ⟨e, _⟩ | ⟨t, ht, e, _⟩
    · cases e
      show "PowerProduct.without_factors" ∉ flds ""
      decide +kernel
    · have := List.all_eq_true.mp noflds t ht
      rw [e] at this
      simpa [T, G] using this
  · have h : (if x == "PIECE" then some (DV.int 50) else none) = some d := h
    split at h
    · rename_i hx
      have := eq_of_beq hx
      subst this
      exact ⟨50, (Option.some.inj h).symm, by simp [T]⟩
    · cases h
  · have h : (if c == "PowerProduct" then some "pairs" else none) = some f := h
    split at h
    · rename_i hc
      have := eq_of_beq hc
      subst this
      cases Option.some.inj h
      have g := it_ok
      have hm : ("PowerProduct", "pairs", dIt) ∈ T.itd := by simp [T]
      have g := ex_all g hm
      simp only [Bool.and_eq_true, Bool.not_eq_true', decide_eq_true_eq, List.isEmpty_iff] at g
      obtain ⟨⟨⟨⟨⟨⟨⟨⟨⟨g1, g2⟩, g3⟩, g4⟩, g5⟩, g6⟩, g7⟩, g8⟩, g9⟩, g10⟩ := g
      refine ⟨dIt, hm, g1, g2, ⟨eq_of_beq g4, g5, g6, by simp, by simp, ?_, ?_⟩, g9, fun K fi fd FD => ?_⟩
      · intro x hx
        rw [List.mem_singleton.mp hx]
        unfold isLoc at g7
        split at g7
        · rename_i q; exact .inl q
        · rename_i q; exact .inr q
        · cases g7
      · intro y hy
        have := ex_all g8 hy
        simpa using this
      · have e : dIt.dvs K = [] := by unfold He.DefD.dvs; rw [g3]; rfl
        rw [e] at FD
        exact parsB_binds g10 (by simp) FD
    · cases h
  · have h : (if k == "PowerProduct.without_factors" then some ("PowerProduct", "without_factors") else none) = some (c, m) := h
    split at h
    · cases Option.some.inj h
      decide +kernel
    · cases h
end K55

set_option Elab.async false
set_option linter.all false
set_option maxRecDepth 1000000
set_option maxHeartbeats 0
/-! K55Z: law k55 holds. -/
namespace K55
open PySem PySem.Spec PyProof.Rows L2 Iv
theorem base : L55.BaseL G := by
  constructor
  · constructor
    · constructor <;> kernel_rfl
    all_goals kernel_rfl
  all_goals kernel_rfl
theorem key_ok : ∀ key fn, T.G.fn key = some fn → (∃ u ∈ T.tab, u.1 = key ∧ u.2.1 = fn ∧ defB T u = true ∧ BindD u) ∨
      ∃ u ∈ T.cmd, ("", u.1) = key ∧ u.2.2.2.1 = fn ∧ cmB T u = true ∧ (u.2.2.2.2.at_ = fun K => He5.wf K (clA K u.2.1) "classmethod" (st u.2.2.1)) ∧
        ∀ (K : PySem.W.Frag) (f : Addr) (fd : FuncData), FunD K u.2.2.2.2.name u.2.2.2.2.qual u.2.2.2.2.params u.2.2.2.2.body u.2.2.2.2.scope [] [] f fd → Binds K fd ((u.2.2.2.1.nm.take u.2.2.2.1.np).map st) [] := by
  intro key fn h
  rcases fn_mem h with ⟨rfl, rfl⟩ | ⟨t, ht, e1, e2⟩
  · right
    have hm : ("PowerProduct.without_factors", "PowerProduct", "without_factors", PowerProduct_without_factors, dCm) ∈ T.cmd := by simp [T]
    have g := ex_all cm_ok hm
    simp only [Bool.and_eq_true] at g
    refine ⟨_, hm, rfl, rfl, g.1, ?_, fun K f fd FD => parsB_binds g.2 ?_ FD⟩
    · show dCm.at_ = _
      unfold dCm
      split <;> rfl
    · simp [PowerProduct_without_factors]
  · left
    have hm : (t.1, t.2.1, dOf t) ∈ T.tab := List.mem_map.mpr ⟨t, ht, rfl⟩
    have g := ex_all defs_ok hm
    have gi := ex_all init_ok hm
    unfold oneB at g
    unfold initB at gi
    simp only [Bool.and_eq_true, Bool.or_eq_true] at g
    obtain ⟨g1, g2⟩ := g
    have hn : (t.2.1.nm.map st).Nodup := by
      have g3 := g1
      unfold defB at g3
      simp only [Bool.and_eq_true, decide_eq_true_eq] at g3
      obtain ⟨⟨⟨⟨⟨⟨⟨⟨⟨⟨⟨_, _⟩, _⟩, _⟩, _⟩, _⟩, _⟩, b7⟩, _⟩, _⟩, _⟩, _⟩ := g3
      exact b7
    refine ⟨_, hm, e1, e2, g1, ?_⟩
    rcases g2 with g2 | ⟨⟨g2, g3⟩, g4⟩
    · rw [g2] at gi
      simp only [Bool.not_true, Bool.false_or, Bool.and_eq_true, decide_eq_true_eq] at gi
      obtain ⟨⟨⟨⟨i1, i2⟩, i3⟩, i4⟩, i5⟩ := gi
      split at i1
      · rename_i i q1
        split at i2
        · rename_i j q2
          have := eq_of_beq i1; subst this
          have := eq_of_beq i2; subst this
          exact bindD31 (i := 1) q1 q2 (eq_of_beq i3) i4 i5 (by decide +kernel) (by decide +kernel) (by decide +kernel)
        · cases i2
      · cases i1
    · exact bindD0 g2 g3 g4 hn
def tLaw : Iv.Key × Fn × He.DefD := (("", "law"), f_law, dOf (("", "law"), f_law, 39, none))
theorem law_mem : tLaw ∈ T.tab := List.mem_map.mpr ⟨(("", "law"), f_law, 39, none), by unfold tab; simp only [List.mem_cons, true_or, or_true], rfl⟩
theorem call : PySem.W.WalkO (PySem.W.view R.prog [0, 39]) loose (PySem.W.XL (PySem.W.view R.prog [0, 39]) []) hk.says R.toRowW (HandSHeadRun.topDef R.prog 39) [] (fun f vs => PySem.call f vs) := by
  have hlaw := ex_all defs_ok law_mem
  unfold oneB at hlaw
  simp only [Bool.and_eq_true] at hlaw
  refine law_walk (l := PySem.Challenge.rw_indicial_k55_power_products) (T := T) (n := 63) (k := 200) (m := 4) (t := tLaw) (x := st "_law_script") plain key_ok (by kernel_rfl) (by kernel_rfl) law_mem rfl hlaw.1 rfl rfl rfl ?_ ?_ rfl (by decide) (by kernel_rfl) ⟨rfl, by decide, by decide⟩ (by kernel_rfl) ?_
  · kernel_rfl
  · intro kV doc pm an cdv ct us hl
    match us, hl with
    | [_], _ => rfl
  · intro ns hns
    exact L55.law_true base (by decide) ns (by omega)
end K55

set_option Elab.async false
set_option linter.all false
set_option maxRecDepth 1000000
set_option maxHeartbeats 0
open PySem PySem.W PySem.Calls PyProof.Rows
theorem PySem.Challenge.cw_indicial_k55_power_products_holds : PySem.Challenge.rw_indicial_k55_power_products.Holds := by
  w_on; o_law
  refine HandSHeadRun.head_imp (r := OpenLaw.row PySem.Challenge.rw_indicial_k55_power_products) (q := view (OpenLaw.row PySem.Challenge.rw_indicial_k55_power_products).prog [0, 39]) (H := K55.hk) (ob := K55.ob) (M := 20000) (loose := K55.loose) (d := HandSHeadRun.topDef (OpenLaw.row PySem.Challenge.rw_indicial_k55_power_products).prog 39) (kwd := []) K55.ob_eq K55.run
    (by kernel_rfl) (by kernel_rfl) (by kernel_rfl) (by rfl) (by first | assumption | decide +kernel) (by decide +kernel) ⟨rfl, rfl, rfl, rfl, rfl, by decide +kernel⟩ ?hw ?hc
  case hw => w_witness2
  case hc => exact K55.call

