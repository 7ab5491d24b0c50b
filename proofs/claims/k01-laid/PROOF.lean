import PyProof.Rows.All
import PySem.Challenge.RW_cubetower_k01_whole_laid
import Wide.All
import OpenK.AllK
import Wide.FinOn
import HandS.ForMost
import HandS.IsInst
import HandS.Style
import HandS.Wide
import HandS.Zip
import HandS.Conv
import HandS.SetFor
import HandS.NoneIn
import HandS.EndBits
import PyProof.TableCode
set_option linter.all false
/-! Plain data and the functions on it, which may give no answer: nothing of the machine. -/
namespace DL
open PySem

inductive D where
  | non | bl (b : Bool) | int (i : Int) | str (x : Str) | lst (ds : List D) | tup (ds : List D) | obj (c : Nat) (ds : List D) | scr (ns : List Int)

abbrev Env := List (Option D)
abbrev Fe := Env → Option D
abbrev Fl := Env → Option (List D)
abbrev Ft := Env → Option Bool
abbrev Fo := Env → Option (Option Int)

/-! ### operations on data -/
def dAdd : D → D → Option D
  | .int a, .int b => some (.int (a + b))
  | .lst a, .lst b => if a.length + b.length ≤ 1000000 then some (.lst (a ++ b)) else none
  | _, _ => none
def dCat : D → D → Option (List D)
  | .lst a, .lst b => if a.length + b.length ≤ 1000000 then some (a ++ b) else none
  | _, _ => none
def dRep : D → D → Option (List D)
  | .lst a, .int k => if -(2 ^ 62) ≤ k ∧ k < 2 ^ 62 ∧ a.length * k.toNat ≤ 1000000 then some (List.replicate k.toNat a).flatten else none
  | _, _ => none
def dSub : D → D → Option D
  | .int a, .int b => some (.int (a - b))
  | _, _ => none
def mulOk (a b : Int) : Prop := a.natAbs.log2 + b.natAbs.log2 < 100000000
instance (a b : Int) : Decidable (mulOk a b) := inferInstanceAs (Decidable (a.natAbs.log2 + b.natAbs.log2 < 100000000))
def dMul : D → D → Option D
  | .int a, .int b => if mulOk a b then some (.int (a * b)) else none
  | _, _ => none
def dDiv : D → D → Option D
  | .int a, .int b => if 0 < b ∧ b < 1073741824 then some (.int (a / b)) else none
  | _, _ => none
def dMod : D → D → Option D
  | .int a, .int b => if 0 < b then some (.int (a % b)) else none
  | _, _ => none
def dPow : D → D → Option D
  | .int a, .int b => if 0 ≤ b ∧ b ≤ 1000000 ∧ a.natAbs < 2 ^ 64 then some (.int (a ^ b.toNat)) else none
  | _, _ => none
def dShl : D → D → Option D
  | .int a, .int b => if 0 ≤ b ∧ b ≤ 1000000 ∧ a.natAbs < 2 ^ 64 then some (.int (a * 2 ^ b.toNat)) else none
  | _, _ => none
def dLt : D → D → Option D
  | .int a, .int b => some (.bl (decide (a < b)))
  | _, _ => none
def dLe : D → D → Option D
  | .int a, .int b => some (.bl (decide (a ≤ b)))
  | _, _ => none
def dGt : D → D → Option D
  | .int a, .int b => some (.bl (decide (b < a)))
  | _, _ => none
def dGe : D → D → Option D
  | .int a, .int b => some (.bl (decide (b ≤ a)))
  | _, _ => none
/-- at most n levels of lists and tuples of intsD, bools, None -/
def okn : Nat → D → Bool
  | _, .non => true
  | _, .bl _ => true
  | _, .int _ => true
  | n + 1, .lst ds => ds.all (okn n)
  | n + 1, .tup ds => ds.all (okn n)
  | _, _ => false
mutual
/-- Python's == -/
def eqd : D → D → Bool
  | .non, .non => true
  | .bl a, .bl b => a == b
  | .bl a, .int j => (if a then 1 else 0) == j
  | .int i, .bl b => i == (if b then 1 else 0)
  | .int i, .int j => i == j
  | .lst xs, .lst ys => eqds xs ys
  | .tup xs, .tup ys => eqds xs ys
  | _, _ => false
def eqds : List D → List D → Bool
  | [], [] => true
  | x :: xs, y :: ys => eqd x y && eqds xs ys
  | [], _ :: _ => false
  | _ :: _, [] => false
end
def dEq (a b : D) : Option D := if okn 6 a && okn 6 b then some (.bl (eqd a b)) else none
def dNe : D → D → Option D
  | .scr ns, .lst [] => some (.bl (!ns.isEmpty))
  | a, b => if okn 6 a && okn 6 b then some (.bl (!eqd a b)) else none
/-- flat: intsD and bools, None -/
def flatD : D → Bool
  | .non => true
  | .bl _ => true
  | .int _ => true
  | _ => false
def inD (x : D) (ys : List D) : Bool := ys.any fun y => eqd y x
def dIn : D → D → Option D
  | x, .lst ys => if flatD x && ys.all flatD then some (.bl (inD x ys)) else none
  | x, .tup ys => if flatD x && ys.all flatD then some (.bl (inD x ys)) else none
  | _, _ => none
def dNotIn : D → D → Option D
  | x, .lst ys => if flatD x && ys.all flatD then some (.bl (!inD x ys)) else none
  | x, .tup ys => if flatD x && ys.all flatD then some (.bl (!inD x ys)) else none
  | _, _ => none
def isNon : D → Bool
  | .non => true
  | _ => false
def dIsN : D → D → Option D
  | x, .non => some (.bl (isNon x))
  | _, _ => none
def dNotN : D → D → Option D
  | x, .non => some (.bl (!isNon x))
  | _, _ => none
def dIsB : D → D → Option D
  | .bl a, .bl b => some (.bl (decide (a = b)))
  | _, _ => none
def dNotB : D → D → Option D
  | .bl a, .bl b => some (.bl (!decide (a = b)))
  | _, _ => none
def dNeg : D → Option D
  | .int a => some (.int (-a))
  | _ => none
def dNot : D → Option D
  | .bl a => some (.bl (!a))
  | _ => none

/-- an index of any sign -/
def ixD (n : Nat) (i : Int) : Option Nat := if 0 ≤ i then (if i < n then some i.toNat else none) else if -(n : Int) ≤ i then some (i + n).toNat else none
def dIx : D → D → Option D
  | .lst xs, .int i => (ixD xs.length i).bind fun j => xs[j]?
  | .tup xs, .int i => (ixD xs.length i).bind fun j => xs[j]?
  | _, _ => none
def sIxD (n d : Nat) : Option Int → Nat
  | none => d
  | some i => if i < 0 then (i + (n : Int)).toNat else min i.toNat n
def cutD {α : Type} (xs : List α) (lo hi : Option Int) : List α := (xs.drop (sIxD xs.length 0 lo)).take (sIxD xs.length xs.length hi - sIxD xs.length 0 lo)
def dLen : D → Option D
  | .lst xs => some (.int xs.length)
  | .tup xs => some (.int xs.length)
  | .scr ns => some (.int ns.length)
  | _ => none
def bools : List D → Option (List Bool)
  | [] => some []
  | .bl b :: r => (bools r).map (b :: ·)
  | _ :: _ => none
def intsD : List D → Option (List Int)
  | [] => some []
  | .int b :: r => (intsD r).map (b :: ·)
  | _ :: _ => none
def dAll : D → Option D
  | .lst xs => (bools xs).map fun bs => .bl (bs.all id)
  | _ => none
def dAny : D → Option D
  | .lst xs => (bools xs).map fun bs => .bl (bs.any id)
  | _ => none
def dSum : D → Option D
  | .lst xs => (intsD xs).map fun ns => .int ns.sum
  | _ => none
def dAbs : D → Option D
  | .int i => some (.int (if i < 0 then -i else i))
  | _ => none
def dMin : D → D → Option D
  | .int i, .int j => some (.int (if j < i then j else i))
  | _, _ => none
def dMax : D → D → Option D
  | .int i, .int j => some (.int (if j > i then j else i))
  | _, _ => none
def insI (x : Int) : List Int → List Int
  | [] => [x]
  | y :: r => if x ≤ y then x :: y :: r else y :: insI x r
def sortI : List Int → List Int
  | [] => []
  | x :: r => insI x (sortI r)
def dSorted : D → Option (List D)
  | .lst xs => (intsD xs).bind fun ns => if ns.length < 64 then some ((sortI ns).map .int) else none
  | _ => none
def dList : D → Option (List D)
  | .lst xs => some xs
  | .tup xs => some xs
  | _ => none
def dTuple : D → Option D
  | .lst xs => some (.tup xs)
  | .tup xs => some (.tup xs)
  | _ => none
def dupI : List Int → List Int
  | [] => []
  | x :: r => if r.elem x then dupI r else x :: dupI r
def dLenSet : D → Option D
  | .lst xs => (intsD xs).bind fun ns => if ns.length ≤ 4000 then some (.int (dupI ns).length) else none
  | _ => none
def rangeD (lo : Int) (n : Nat) : List D := (List.range n).map fun (i : Nat) => .int (lo + i)
def posD (x : D) : List D → Option Nat
  | [] => none
  | y :: r => if eqd y x then some 0 else (posD x r).map (· + 1)
def dIndex : D → D → Option D
  | .lst ys, x => if flatD x && ys.all flatD then (posD x ys).map fun (j : Nat) => .int j else none
  | _, _ => none
def dCount : D → D → Option D
  | .lst ys, .int x => (intsD ys).map fun ns => .int (ns.count x)
  | _, _ => none
def dInt : D → Option D
  | .int i => some (.int i)
  | .bl b => some (.int (if b then 1 else 0))
  | _ => none
inductive Ty | int | bool | list | tuple | str
def isTy : Ty → D → Bool
  | .int, .int _ => true
  | .int, .bl _ => true
  | .bool, .bl _ => true
  | .list, .lst _ => true
  | .tuple, .tup _ => true
  | .str, .str _ => true
  | _, _ => false

def one (op : D → Option D) : List D → Option D
  | [d] => op d
  | _ => none
def two (op : D → D → Option D) : List D → Option D
  | [d, e] => op d e
  | _ => none
def oneL (op : D → Option (List D)) : List D → Option (List D)
  | [d] => op d
  | _ => none
/-! ### expressions -/
def fVar (i : Nat) : Fe := fun g => (g[i]?).join
def fC (d : D) : Fe := fun _ => some d
def fU (op : D → Option D) (fa : Fe) : Fe := fun g => (fa g).bind op
def fB (op : D → D → Option D) (fa fb : Fe) : Fe := fun g => (fa g).bind fun a => (fb g).bind fun b => op a b
def fUL (op : D → Option (List D)) (fa : Fe) : Fl := fun g => (fa g).bind op
def fBL (op : D → D → Option (List D)) (fa fb : Fe) : Fl := fun g => (fa g).bind fun a => (fb g).bind fun b => op a b
def fL (fl : Fl) : Fe := fun g => (fl g).map .lst
def toB : D → Option Bool
  | .bl b => some b
  | _ => none
def bB (fa : Fe) : Ft := fun g => (fa g).bind toB
def fChain (op op' : D → D → Option D) (fa fb fc : Fe) : Fe := fun g => (fa g).bind fun a => (fb g).bind fun b => (op a b).bind fun z => (toB z).bind fun k => if k then (fc g).bind fun c => op' b c else some (.bl false)
def fChain3 (op op' op'' : D → D → Option D) (fa fb fc fd : Fe) : Fe := fun g => (fa g).bind fun a => (fb g).bind fun b => (op a b).bind fun z => (toB z).bind fun k => if k then (fc g).bind fun c => (op' b c).bind fun z' => (toB z').bind fun k' => if k' then (fd g).bind fun e => op'' c e else some (.bl false) else some (.bl false)
def fAnd (fa fb : Fe) : Fe := fun g => (fa g).bind fun a => (toB a).bind fun k => if k then fb g else some (.bl false)
def fOr (fa fb : Fe) : Fe := fun g => (fa g).bind fun a => (toB a).bind fun k => if k then some (.bl true) else fb g
def bAnd (a b : Ft) : Ft := fun g => (a g).bind fun k => if k then b g else some false
def bOr (a b : Ft) : Ft := fun g => (a g).bind fun k => if k then some true else b g
def bNot (a : Ft) : Ft := fun g => (a g).map (!·)
def fIf (t : Ft) (fa fb : Fe) : Fe := fun g => (t g).bind fun k => if k then fa g else fb g
def fIfL (t : Ft) (fa fb : Fl) : Fl := fun g => (t g).bind fun k => if k then fa g else fb g
def aNil : Fl := fun _ => some []
def aCons (fa : Fe) (fr : Fl) : Fl := fun g => (fa g).bind fun d => (fr g).map (d :: ·)
def fTup (fa : Fl) : Fe := fun g => (fa g).bind fun ds => if ds.length ≤ 1000000 then some (.tup ds) else none
def fDisp (fa : Fl) : Fl := fun g => (fa g).bind fun ds => if ds.length ≤ 1000000 then some ds else none
def oNone : Fo := fun _ => some none
def toI : D → Option Int
  | .int i => some i
  | _ => none
def toL : D → Option (List D)
  | .lst ds => some ds
  | _ => none
def toLs : D → Option (List D)
  | .lst ds => some ds
  | .scr ns => some (ns.map .int)
  | _ => none
def oSome (fa : Fe) : Fo := fun g => (fa g).bind fun d => (toI d).map some
def fSlice (fa : Fe) (lo hi : Fo) : Fl := fun g => (fa g).bind fun d => (toLs d).bind fun xs => (lo g).bind fun l => (hi g).bind fun h => some (cutD xs l h)
def fRev (fa : Fe) : Fl := fun g => (fa g).bind fun d => (toL d).map List.reverse
def isObj : D → Bool
  | .obj _ _ => true
  | .scr _ => true
  | _ => false
def dIs (t : Ty) (d : D) : Option D := if isObj d then none else some (.bl (isTy t d))
def fIs (t : Ty) (fa : Fe) : Fe := fU (dIs t) fa
def fCall (F : List D → Option D) (fa : Fl) : Fe := fun g => (fa g).bind F
def fCallL (F : List D → Option (List D)) (fa : Fl) : Fl := fun g => (fa g).bind F
/-- items that are walked -/
def iSeq (fa : Fe) : Fl := fun g => (fa g).bind dList
def iRange (fa : Fe) : Fl := fun g => (fa g).bind fun d => (toI d).bind fun n => if -1000000 ≤ n ∧ n ≤ 1000000 then some (rangeD 0 n.toNat) else none
def iRange2 (fa fb : Fe) : Fl := fun g => (fa g).bind fun d => (toI d).bind fun m => (fb g).bind fun e => (toI e).bind fun n => if -1000000 ≤ m ∧ m ≤ 1000000 ∧ -1000000 ≤ n ∧ n ≤ 1000000 then some (rangeD m (n - m).toNat) else none
def pairs : List D → List D → List D
  | x :: xs, y :: ys => .tup [x, y] :: pairs xs ys
  | _, _ => []
def iZipD (fa fb : Fe) : Fl := fun g => (fa g).bind fun d => (toL d).bind fun xs => (fb g).bind fun e => (toL e).map fun ys => pairs xs ys
def enumFrom : Nat → List D → List D
  | _, [] => []
  | n, x :: xs => .tup [.int n, x] :: enumFrom (n + 1) xs
def iEnumD (fa : Fe) : Fl := fun g => (fa g).bind fun d => (toL d).map fun xs => enumFrom 0 xs
/-- targets: which slot gets what -/
abbrev Ftg := D → Option (List (Nat × D))
def gtN (i : Nat) : Ftg := fun d => some [(i, d)]
def gtT (is : List Nat) : Ftg := fun d => match d with
  | .tup ds => if ds.length = is.length then some (is.zip ds) else none
  | _ => none
def gtU (is : List Nat) : Ftg := fun d => match d with
  | .lst ds => if ds.length = is.length then some (is.zip ds) else none
  | _ => none
def setsE (g : Env) : List (Nat × D) → Env
  | [] => g
  | p :: r => setsE (g.set p.1 (some p.2)) r
def wipeE (g : Env) : List Nat → Env
  | [] => g
  | v :: vs => (wipeE g vs).set v none
/-- what a comprehension gives -/
def lcM (h : D → Option (Option D)) : List D → Option (List D)
  | [] => some []
  | d :: r => (h d).bind fun o => (lcM h r).map fun ys => match o with
    | some y => y :: ys
    | none => ys
def fLc (src : Fl) (tg : Ftg) (t : Ft) (fe : Fe) (vs : List Nat) : Fl := fun g => (src g).bind fun ds => if ds.length ≤ 1000000 then
  lcM (fun d => (tg d).bind fun as => (t (setsE (wipeE g vs) as)).bind fun k => if k then (fe (setsE (wipeE g vs) as)).map some else some none) ds else none
def bYes : Ft := fun _ => some true
abbrev Fll := Env → Option (List (List D))
def lcM2 (h : D → Option (Option (List D))) : List D → Option (List (List D))
  | [] => some []
  | d :: r => (h d).bind fun o => (lcM2 h r).map fun ys => match o with
    | some y => y :: ys
    | none => ys
def fLc2 (src : Fl) (tg : Ftg) (t : Ft) (fe : Fl) (vs : List Nat) : Fll := fun g => (src g).bind fun ds => if ds.length ≤ 1000000 then
  lcM2 (fun d => (tg d).bind fun as => (t (setsE (wipeE g vs) as)).bind fun k => if k then (fe (setsE (wipeE g vs) as)).map some else some none) ds else none
def fLL (f : Fll) : Fl := fun g => (f g).map fun dss => dss.map .lst
def fCall2 (F : List D → Option (List (List D))) (fa : Fl) : Fll := fun g => (fa g).bind F

/-! ### statements -/
/-- a slot: nothing known, data that others may see, a list of one's own, a list of lists of one's own -/
inductive Sl where
  | no | sh (d : D) | ow (ds : List D) | o2 (dss : List (List D))
abbrev Sts := List Sl
def seen : Sl → Option D
  | .sh d => some d
  | _ => none
def seenA : Sl → Option D
  | .sh d => some d
  | .ow ds => some (.lst ds)
  | .o2 dss => some (.lst (dss.map .lst))
  | .no => none
def vw (s : Sts) : Env := s.map seen
def vwA (s : Sts) : Env := s.map seenA
inductive Out where
  | nx (s : Sts) | rt (d : D) | ro (ds : List D) | r2 (dss : List (List D)) | bk (s : Sts) | ct (s : Sts)
abbrev Fs := Sts → Option Out
/-- intsD, bools, None, texts -/
def scal : D → Bool
  | .non => true
  | .bl _ => true
  | .int _ => true
  | .str _ => true
  | _ => false
def sNext : Fs := fun s => some (.nx s)
def sSeq (a b : Fs) : Fs := fun s => (a s).bind fun o => match o with
  | .nx s' => b s'
  | o => some o
def sSet (i : Nat) (f : Fe) : Fs := fun s => (f (vw s)).map fun d => .nx (s.set i (.sh d))
def sSetA (i : Nat) (f : Fe) : Fs := fun s => (f (vwA s)).bind fun d => if scal d then some (.nx (s.set i (.sh d))) else none
def sOwn (i : Nat) (f : Fl) : Fs := fun s => (f (vw s)).map fun d => .nx (s.set i (.ow d))
def sOwn2 (i : Nat) (f : Fll) : Fs := fun s => (f (vw s)).map fun d => .nx (s.set i (.o2 d))
def setsS (s : Sts) : List (Nat × D) → Sts
  | [] => s
  | p :: r => setsS (s.set p.1 (.sh p.2)) r
def sAsg (f : Fe) (tg : Ftg) : Fs := fun s => (f (vw s)).bind fun d => (tg d).map fun as => .nx (setsS s as)
def sDrop (f : Fe) : Fs := fun s => (f (vwA s)).map fun _ => .nx s
def sApp (i : Nat) (f : Fe) : Fs := fun s => match s[i]? with
  | some (.ow ds) => (f (vw s)).bind fun d => if ds.length < 1000000 then some (.nx (s.set i (.ow (ds ++ [d])))) else none
  | _ => none
def sApp2 (i : Nat) (f : Fl) : Fs := fun s => match s[i]? with
  | some (.o2 dss) => (f (vw s)).bind fun d => if dss.length < 1000000 then some (.nx (s.set i (.o2 (dss ++ [d])))) else none
  | _ => none
def sExt (i : Nat) (f : Fl) : Fs := fun s => match s[i]? with
  | some (.ow ds) => (f (vw s)).bind fun d => if ds.length + d.length ≤ 1000000 then some (.nx (s.set i (.ow (ds ++ d)))) else none
  | _ => none
def sPut (i : Nat) (fi f : Fe) : Fs := fun s => match s[i]? with
  | some (.ow ds) => (f (vw s)).bind fun d => (fi (vwA s)).bind fun x => (toI x).bind fun k => (ixD ds.length k).map fun j => .nx (s.set i (.ow (ds.set j d)))
  | _ => none
/-- for v in xs: v.append(c), xs at slot i a list of lists of one's own, v at slot j -/
def sAppAll (i j : Nat) (c : D) : Fs := fun s => match s[i]? with
  | some (.o2 dss) => if (decide (j < s.length) && dss.all fun ds => decide (ds.length < 1000000)) = true then some (.nx ((s.set i (.o2 (dss.map fun ds => ds ++ [c]))).set j .no)) else none
  | _ => none
def sFrz (i : Nat) (a : Fs) : Fs := fun s => match s[i]? with
  | some (.ow ds) => a (s.set i (.sh (.lst ds)))
  | some (.o2 dss) => a (s.set i (.sh (.lst (dss.map .lst))))
  | _ => a s
def sIf (t : Ft) (a b : Fs) : Fs := fun s => (t (vwA s)).bind fun k => if k then a s else b s
def sRet (f : Fe) : Fs := fun s => (f (vw s)).map .rt
def sRetA (f : Fe) : Fs := fun s => (f (vwA s)).bind fun d => if scal d then some (.rt d) else none
def sRetL (f : Fl) : Fs := fun s => (f (vw s)).map .ro
def sRet2 (f : Fll) : Fs := fun s => (f (vw s)).map .r2
def sRetO (i : Nat) : Fs := fun s => match s[i]? with
  | some (.ow ds) => some (.ro ds)
  | some (.o2 dss) => some (.r2 dss)
  | _ => none
def sBrk : Fs := fun s => some (.bk s)
def sCnt : Fs := fun s => some (.ct s)
def runFor (tg : Ftg) (body : Fs) : List D → Fs
  | [], s => some (.nx s)
  | d :: r, s => (tg d).bind fun as => (body (setsS s as)).bind fun o => match o with
    | .nx s' => runFor tg body r s'
    | .ct s' => runFor tg body r s'
    | .bk s' => some (.nx s')
    | o => some o
def sFor (src : Fl) (tg : Ftg) (body : Fs) : Fs := fun s => (src (vw s)).bind fun ds => runFor tg body ds s
/-- a, b = x, [..]: the second a list of one's own -/
def sPar (i j : Nat) (f f' : Fe) : Fs := fun s => (f (vw s)).bind fun d => (f' (vw s)).map fun e => .nx ((s.set i (.sh d)).set j (.sh e))
def sParO (i j : Nat) (f : Fe) (f' : Fl) : Fs := fun s => (f (vw s)).bind fun d => (f' (vw s)).map fun e => .nx ((s.set i (.sh d)).set j (.ow e))
/-! ### a def -/
def st0 (n : Nat) (ds : List D) : Sts := ds.map .sh ++ List.replicate (n - ds.length) .no
def outD : Out → Option D
  | .rt d => some d
  | .nx _ => some .non
  | .ro z => some (.lst z)
  | .r2 z => some (.lst (z.map .lst))
  | _ => none
def outL : Out → Option (List D)
  | .ro z => some z
  | .r2 z => some (z.map .lst)
  | _ => none
def out2 : Out → Option (List (List D))
  | .r2 z => some z
  | _ => none
def runD (k n : Nat) (g : Fs) (ds : List D) : Option D := if ds.length = k then (g (st0 n ds)).bind outD else none
def runL (k n : Nat) (g : Fs) (ds : List D) : Option (List D) := if ds.length = k then (g (st0 n ds)).bind outL else none
def run2 (k n : Nat) (g : Fs) (ds : List D) : Option (List (List D)) := if ds.length = k then (g (st0 n ds)).bind out2 else none
end DL

set_option Elab.async false
set_option linter.all false
set_option maxRecDepth 100000
set_option maxHeartbeats 4000000
namespace DL
open PySem PySem.Spec PyProof.Rows L2

structure CT where
  kf : PySem.W.Frag
  addr : Nat → Addr
  flds : Nat → List Str

mutual
inductive Rp (T : CT) (G : Hp) : V → D → Prop
  | non : Rp T G .non .non
  | bl (b : Bool) : Rp T G (.bl b) (.bl b)
  | int (i : Int) : Rp T G (.int i) (.int i)
  | str (x : Str) : Rp T G (.str x) (.str x)
  | lst {a : Addr} {xs : List V} {ds : List D} : Rd G a (.lst xs) → RpA T G xs ds → Rp T G (.ref a) (.lst ds)
  | tup {a : Addr} {xs : List V} {ds : List D} : Rd G a (.tup xs) → RpA T G xs ds → Rp T G (.ref a) (.tup ds)
  | obj {a : Addr} {c : Nat} {dx : Addr} {vs : List (Str × V)} {ds : List D} : G a = some (.ins (T.addr c) dx vs) → vs.map (·.1) = T.flds c → RpA T G (vs.map (·.2)) ds → Rp T G (.ref a) (.obj c ds)
  | scr {a : Addr} {ns : List Int} : SqL T.kf G a (ns.map V.int) → Rp T G (.ref a) (.scr ns)
inductive RpA (T : CT) (G : Hp) : List V → List D → Prop
  | nil : RpA T G [] []
  | cons {v : V} {vs : List V} {d : D} {ds : List D} : Rp T G v d → RpA T G vs ds → RpA T G (v :: vs) (d :: ds)
end

/-! ### heaps -/
def Le (G H : Hp) : Prop := ∀ a o, G a = some o → H a = some o
theorem Le.refl (G : Hp) : Le G G := fun _ _ h => h
theorem Le.trans {A B C : Hp} (h : Le A B) (k : Le B C) : Le A C := fun a o e => k a o (h a o e)
theorem Le.rd {G H : Hp} {a : Addr} {u : HO} (e : Le G H) (h : Rd G a u) : Rd H a u := by
  rcases h with h | ⟨o, h⟩
  · exact .inl (e _ _ h)
  · exact .inr ⟨o, e _ _ h⟩
theorem Le.sq {K : PySem.W.Frag} {G H : Hp} {a : Addr} {xs : List V} (e : Le G H) (h : SqL K G a xs) : SqL K H a xs := by
  rcases h with h | h
  · exact .inl (e.rd h)
  · exact .inr h
theorem Le.none {G H : Hp} {a : Addr} (e : Le G H) (h : H a = Option.none) : G a = Option.none := by
  cases q : G a with
  | none => rfl
  | some o =>
    rw [e a o q] at h
    cases h
theorem Le.new {H : Hp} {p : Addr} {o : HO} (h : H p = Option.none) : Le H (upd H p o) := fun a u e => by
  rw [upd_ne (ne_of_none e h)]
  exact e
theorem Le.upd {G H : Hp} {p : Addr} {o : HO} (e : Le G H) : Le (L2.upd G p o) (L2.upd H p o) := fun a u h => by
  by_cases q : a = p
  · subst q
    rw [upd_same] at h ⊢
    exact h
  · rw [upd_ne q] at h ⊢
    exact e a u h
theorem Le.mut {G H : Hp} {p : Addr} {o : HO} (e : Le G H) (h : G p = Option.none) : Le G (L2.upd H p o) := fun a u q => by
  rw [upd_ne (ne_of_none q h)]
  exact e a u q
/-- the real heap H and the seen part G of it grow -/
structure Grow (H G H' G' : Hp) : Prop where
  hh : Le H H'
  gg : Le G G'
  le : Le G' H'
  nw : ∀ a, G a = Option.none → G' a ≠ Option.none → H a = Option.none
theorem Grow.refl {H G : Hp} (e : Le G H) : Grow H G H G := ⟨Le.refl _, Le.refl _, e, fun _ h k => (k h).elim⟩
theorem Grow.trans {H G H1 G1 H2 G2 : Hp} (a : Grow H G H1 G1) (b : Grow H1 G1 H2 G2) : Grow H G H2 G2 :=
  ⟨a.hh.trans b.hh, a.gg.trans b.gg, b.le, fun x h k => by
    by_cases q : G1 x = Option.none
    · exact a.hh.none (b.nw x q k)
    · exact a.nw x h q⟩
/-- a new object, seen -/
theorem Grow.new {H G : Hp} {p : Addr} {o : HO} (e : Le G H) (h : H p = Option.none) : Grow H G (upd H p o) (upd G p o) :=
  ⟨Le.new h, Le.new (e.none h), e.upd, fun a q k => by
    by_cases z : a = p
    · rw [z]; exact h
    · rw [upd_ne z] at k
      exact (k q).elim⟩
/-- a new object, not seen -/
theorem Grow.own {H G : Hp} {p : Addr} {o : HO} (e : Le G H) (h : H p = Option.none) : Grow H G (upd H p o) G :=
  ⟨Le.new h, Le.refl _, e.trans (Le.new h), fun _ q k => (k q).elim⟩
theorem Grow.keep {H G H' G' : Hp} (g : Grow H G H' G') {p : Addr} (h : H p ≠ Option.none) (k : G p = Option.none) : G' p = Option.none := by
  cases q : G' p with
  | none => rfl
  | some o => exact absurd (g.nw p k (by rw [q]; intro z; cases z)) h
/-- an own object of H' is brought into sight -/
theorem Grow.show {H G H' G' : Hp} {p : Addr} {o : HO} (g : Grow H G H' G') (h : H p = Option.none) (k : H' p = some o) (n : G' p = Option.none) : Grow H G H' (upd G' p o) :=
  ⟨g.hh, g.gg.trans (Le.new n), fun a u e => by
    by_cases q : a = p
    · subst q
      rw [upd_same] at e
      rw [k]; exact e
    · rw [upd_ne q] at e
      exact g.le a u e, fun a q z => by
    by_cases w : a = p
    · rw [w]; exact h
    · rw [upd_ne w] at z
      exact g.nw a q z⟩

section
variable {T : CT} {G G' : Hp}
mutual
theorem Rp.mono (e : Le G G') : ∀ (d : D) (v : V), Rp T G v d → Rp T G' v d
  | .non, _, h => by cases h; exact .non
  | .bl _, _, h => by cases h; exact .bl _
  | .int _, _, h => by cases h; exact .int _
  | .str _, _, h => by cases h; exact .str _
  | .lst ds, _, h => by
    cases h with
    | lst r a => exact .lst (e.rd r) (RpA.mono e ds _ a)
  | .tup ds, _, h => by
    cases h with
    | tup r a => exact .tup (e.rd r) (RpA.mono e ds _ a)
  | .obj c ds, _, h => by
    cases h with
    | obj r f a => exact .obj (e _ _ r) f (RpA.mono e ds _ a)
  | .scr ns, _, h => by
    cases h with
    | scr r => exact .scr (e.sq r)
theorem RpA.mono (e : Le G G') : ∀ (ds : List D) (vs : List V), RpA T G vs ds → RpA T G' vs ds
  | [], _, h => by cases h; exact .nil
  | d :: ds, _, h => by
    cases h with
    | cons a b => exact .cons (Rp.mono e d _ a) (RpA.mono e ds _ b)
end
theorem RpA.length : ∀ {vs : List V} {ds : List D}, RpA T G vs ds → vs.length = ds.length
  | _, [], h => by cases h; rfl
  | _, d :: ds, h => by
    cases h with
    | cons a b => rw [List.length_cons, List.length_cons, RpA.length b]
theorem RpA.get : ∀ {ds : List D} {vs : List V} {i : Nat} {d : D}, RpA T G vs ds → ds[i]? = some d → ∃ v, vs[i]? = some v ∧ Rp T G v d
  | [], _, i, d, h, e => by simp at e
  | x :: ds, _, 0, d, h, e => by
    cases h with
    | cons a b =>
      have q : x = d := by simpa using e
      subst q
      exact ⟨_, rfl, a⟩
  | x :: ds, _, i + 1, d, h, e => by
    cases h with
    | cons a b =>
      obtain ⟨v, h1, h2⟩ := RpA.get (i := i) (d := d) b (by simpa using e)
      exact ⟨v, by simpa using h1, h2⟩
theorem RpA.append : ∀ {ds es : List D} {vs ws : List V}, RpA T G vs ds → RpA T G ws es → RpA T G (vs ++ ws) (ds ++ es)
  | [], _, _, _, h, k => by cases h; exact k
  | d :: ds, _, _, _, h, k => by
    cases h with
    | cons a b => exact .cons a (RpA.append b k)
theorem RpA.take : ∀ {ds : List D} {vs : List V} (n : Nat), RpA T G vs ds → RpA T G (vs.take n) (ds.take n)
  | _, _, 0, _ => by rw [List.take_zero, List.take_zero]; exact .nil
  | [], _, n + 1, h => by cases h; exact .nil
  | d :: ds, _, n + 1, h => by
    cases h with
    | cons a b => exact .cons a (RpA.take n b)
theorem RpA.drop : ∀ {ds : List D} {vs : List V} (n : Nat), RpA T G vs ds → RpA T G (vs.drop n) (ds.drop n)
  | _, _, 0, h => h
  | [], _, n + 1, h => by cases h; exact .nil
  | d :: ds, _, n + 1, h => by
    cases h with
    | cons a b => exact RpA.drop n b
theorem RpA.reverse : ∀ {ds : List D} {vs : List V}, RpA T G vs ds → RpA T G vs.reverse ds.reverse
  | [], _, h => by cases h; exact .nil
  | d :: ds, _, h => by
    cases h with
    | cons a b =>
      rw [List.reverse_cons, List.reverse_cons]
      exact (RpA.reverse b).append (.cons a .nil)
theorem RpA.rep {ds : List D} {vs : List V} (h : RpA T G vs ds) : ∀ k : Nat, RpA T G (List.replicate k vs).flatten (List.replicate k ds).flatten
  | 0 => .nil
  | k + 1 => by
    rw [List.replicate_succ, List.replicate_succ, List.flatten_cons, List.flatten_cons]
    exact h.append (RpA.rep h k)
theorem RpA.set : ∀ {ds : List D} {vs : List V} {v : V} {d : D} (i : Nat), RpA T G vs ds → Rp T G v d → RpA T G (vs.set i v) (ds.set i d)
  | [], _, _, _, i, h, k => by cases h; exact .nil
  | d :: ds, _, _, _, 0, h, k => by
    cases h with
    | cons a b => exact .cons k b
  | d :: ds, _, _, _, i + 1, h, k => by
    cases h with
    | cons a b => exact .cons a (RpA.set i b k)
theorem RpA.intsD : ∀ {ds : List D} {vs : List V} {ns : List Int}, RpA T G vs ds → DL.intsD ds = some ns → vs = ns.map V.int
  | [], _, ns, h, e => by
    cases h
    have q : ([] : List Int) = ns := Option.some.inj e
    subst q
    rfl
  | .int i :: ds, _, ns, h, e => by
    cases h with
    | cons a b =>
      cases a
      cases q : DL.intsD ds with
      | none => rw [DL.intsD, q] at e; cases e
      | some ms =>
        rw [DL.intsD, q] at e
        have z : i :: ms = ns := Option.some.inj e
        subst z
        rw [RpA.intsD b q]
        rfl
  | .non :: ds, _, ns, h, e => by rw [DL.intsD] at e; cases e; intro i z; cases z
  | .bl _ :: ds, _, ns, h, e => by rw [DL.intsD] at e; cases e; intro i z; cases z
  | .str _ :: ds, _, ns, h, e => by rw [DL.intsD] at e; cases e; intro i z; cases z
  | .lst _ :: ds, _, ns, h, e => by rw [DL.intsD] at e; cases e; intro i z; cases z
  | .tup _ :: ds, _, ns, h, e => by rw [DL.intsD] at e; cases e; intro i z; cases z
  | .obj _ _ :: ds, _, ns, h, e => by rw [DL.intsD] at e; cases e; intro i z; cases z
  | .scr _ :: ds, _, ns, h, e => by rw [DL.intsD] at e; cases e; intro i z; cases z
theorem RpA.bools : ∀ {ds : List D} {vs : List V} {ns : List Bool}, RpA T G vs ds → DL.bools ds = some ns → vs = ns.map V.bl
  | [], _, ns, h, e => by
    cases h
    have q : ([] : List Bool) = ns := Option.some.inj e
    subst q
    rfl
  | .bl i :: ds, _, ns, h, e => by
    cases h with
    | cons a b =>
      cases a
      cases q : DL.bools ds with
      | none => rw [DL.bools, q] at e; cases e
      | some ms =>
        rw [DL.bools, q] at e
        have z : i :: ms = ns := Option.some.inj e
        subst z
        rw [RpA.bools b q]
        rfl
  | .non :: ds, _, ns, h, e => by rw [DL.bools] at e; cases e; intro i z; cases z
  | .int _ :: ds, _, ns, h, e => by rw [DL.bools] at e; cases e; intro i z; cases z
  | .str _ :: ds, _, ns, h, e => by rw [DL.bools] at e; cases e; intro i z; cases z
  | .lst _ :: ds, _, ns, h, e => by rw [DL.bools] at e; cases e; intro i z; cases z
  | .tup _ :: ds, _, ns, h, e => by rw [DL.bools] at e; cases e; intro i z; cases z
  | .obj _ _ :: ds, _, ns, h, e => by rw [DL.bools] at e; cases e; intro i z; cases z
  | .scr _ :: ds, _, ns, h, e => by rw [DL.bools] at e; cases e; intro i z; cases z
theorem rpa_ints : ∀ ns : List Int, RpA T G (ns.map V.int) (ns.map D.int)
  | [] => .nil
  | n :: ns => .cons (.int n) (rpa_ints ns)
end
end DL

set_option Elab.async false
set_option linter.all false
set_option maxRecDepth 100000
set_option maxHeartbeats 4000000
namespace DL
open PySem PySem.Spec PyProof.Rows L2

/-- the slots' data -/
structure EnvR (T : CT) (G : Hp) (σ : L2.St) (g : Env) : Prop where
  len : g.length = σ.length
  at_ : ∀ (i : Nat) (d : D), g[i]? = some (some d) → ∃ v, σ[i]? = some (some v) ∧ Rp T G v d
def Den (T : CT) (te : TE) (f : Fe) : Prop := ∀ (σ : L2.St) (H G : Hp) (g : Env) (d : D), Le G H → EnvR T G σ g → f g = some d → ∀ Q : VK, (∀ v H' G', Grow H G H' G' → Rp T G' v d → Q v H') → te σ H Q
def DenL (T : CT) (te : TE) (f : Fl) : Prop := ∀ (σ : L2.St) (H G : Hp) (g : Env) (ds : List D), Le G H → EnvR T G σ g → f g = some ds → ∀ Q : VK, (∀ p xs H' G', Grow H G H' G' → H p = none → H' p = some (.lst xs) → G' p = none → RpA T G' xs ds → Q (.ref p) H') → te σ H Q
def DenT (T : CT) (tt : TT) (f : Ft) : Prop := ∀ (σ : L2.St) (H G : Hp) (g : Env) (b : Bool), Le G H → EnvR T G σ g → f g = some b → ∀ Q : Bool → Hp → Prop, (∀ H' G', Grow H G H' G' → Q b H') → tt σ H Q
def DenA (T : CT) (ta : TA) (f : Fl) : Prop := ∀ (σ : L2.St) (H G : Hp) (g : Env) (ds : List D), Le G H → EnvR T G σ g → f g = some ds → ∀ Q : List V → Hp → Prop, (∀ vs H' G', Grow H G H' G' → RpA T G' vs ds → Q vs H') → ta σ H Q
def DenO (T : CT) (to : TO) (f : Fo) : Prop := ∀ (σ : L2.St) (H G : Hp) (g : Env) (o : Option Int), Le G H → EnvR T G σ g → f g = some o → ∀ Q : Option Int → Hp → Prop, (∀ H' G', Grow H G H' G' → Q o H') → to σ H Q
/-- an operation by values -/
def DenR (T : CT) (r : R2) (op : D → D → Option D) : Prop := ∀ (x y : V) (H G : Hp) (d e z : D), Le G H → Rp T G x d → Rp T G y e → op d e = some z → ∀ Q : VK, (∀ v H' G', Grow H G H' G' → Rp T G' v z → Q v H') → r x y H Q
def DenRL (T : CT) (r : R2) (op : D → D → Option (List D)) : Prop := ∀ (x y : V) (H G : Hp) (d e : D) (z : List D), Le G H → Rp T G x d → Rp T G y e → op d e = some z → ∀ Q : VK, (∀ p xs H' G', Grow H G H' G' → H p = none → H' p = some (.lst xs) → G' p = none → RpA T G' xs z → Q (.ref p) H') → r x y H Q
def DenU (T : CT) (r : V → Hp → VK → Prop) (op : D → Option D) : Prop := ∀ (x : V) (H G : Hp) (d z : D), Le G H → Rp T G x d → op d = some z → ∀ Q : VK, (∀ v H' G', Grow H G H' G' → Rp T G' v z → Q v H') → r x H Q
def DenC (T : CT) (r : List V → Hp → VK → Prop) (op : List D → Option D) : Prop := ∀ (xs : List V) (H G : Hp) (ds : List D) (z : D), Le G H → RpA T G xs ds → op ds = some z → ∀ Q : VK, (∀ v H' G', Grow H G H' G' → Rp T G' v z → Q v H') → r xs H Q
def DenCL (T : CT) (r : List V → Hp → VK → Prop) (op : List D → Option (List D)) : Prop := ∀ (xs : List V) (H G : Hp) (ds : List D) (z : List D), Le G H → RpA T G xs ds → op ds = some z → ∀ Q : VK, (∀ p ys H' G', Grow H G H' G' → H p = none → H' p = some (.lst ys) → G' p = none → RpA T G' ys z → Q (.ref p) H') → r xs H Q

structure DE (K : PySem.W.Frag) (T : CT) (X : Cx) (e : Expr) (t : TE) (f : Fe) : Prop where
  hK : X.K = K
  pe : PE X e t
  den : Den T t f
structure DLs (K : PySem.W.Frag) (T : CT) (X : Cx) (e : Expr) (t : TE) (f : Fl) : Prop where
  hK : X.K = K
  pe : PE X e t
  den : DenL T t f
structure DT (K : PySem.W.Frag) (T : CT) (X : Cx) (e : Expr) (t : TT) (f : Ft) : Prop where
  hK : X.K = K
  pe : PT X e t
  den : DenT T t f
structure DW (K : PySem.W.Frag) (T : CT) (X : Cx) (e : Expr) (t : TT) (f : Ft) : Prop where
  hK : X.K = K
  pe : PW X e t
  den : DenT T t f
structure DTs (K : PySem.W.Frag) (T : CT) (X : Cx) (e : List Expr) (t : TT) (f : Ft) : Prop where
  pe : PTs X e t
  den : DenT T t f
structure DA (K : PySem.W.Frag) (T : CT) (X : Cx) (e : List Expr) (t : TA) (f : Fl) : Prop where
  hK : X.K = K
  pe : PA X e t
  den : DenA T t f
structure DO (K : PySem.W.Frag) (T : CT) (X : Cx) (e : Option Expr) (t : TO) (f : Fo) : Prop where
  pe : PO X e t
  den : DenO T t f
structure DOp (T : CT) (X : Cx) (sem : Value → Value → Sem Value) (r : R2) (op : D → D → Option D) : Prop where
  pe : OpR X sem r
  den : DenR T r op
structure DOpL (T : CT) (X : Cx) (sem : Value → Value → Sem Value) (r : R2) (op : D → D → Option (List D)) : Prop where
  pe : OpR X sem r
  den : DenRL T r op

section
variable {K : PySem.W.Frag} {T : CT} {X : Cx} {pos : Pos}
theorem EnvR.mono {G G' : Hp} {σ : L2.St} {g : Env} (e : Le G G') (h : EnvR T G σ g) : EnvR T G' σ g :=
  ⟨h.len, fun i d q => by
    obtain ⟨v, h1, h2⟩ := h.at_ i d q
    exact ⟨v, h1, h2.mono e d v⟩⟩
theorem EnvR.set {G : Hp} {σ : L2.St} {g : Env} {v : V} {d : D} (h : EnvR T G σ g) (r : Rp T G v d) (i : Nat) : EnvR T G (σ.set i (some v)) (g.set i (some d)) :=
  ⟨by rw [List.length_set, List.length_set]; exact h.len, fun j e q => by
    by_cases hj : i = j
    · subst hj
      have hi : i < g.length := by
        have := (List.getElem?_eq_some_iff.mp q).1
        rw [List.length_set] at this
        exact this
      rw [List.getElem?_set_self hi] at q
      have q' : d = e := Option.some.inj (Option.some.inj q)
      subst q'
      exact ⟨v, by rw [List.getElem?_set_self (by rw [← h.len]; exact hi)], r⟩
    · rw [List.getElem?_set_ne hj] at q
      rw [List.getElem?_set_ne hj]
      exact h.at_ j e q⟩
theorem EnvR.wipe {G : Hp} {σ : L2.St} {g : Env} (h : EnvR T G σ g) : ∀ vs : List Nat, EnvR T G (L2.wipe σ vs) (wipeE g vs)
  | [] => h
  | v :: vs => by
    have ih := EnvR.wipe h vs
    refine ⟨?_, fun j e q => ?_⟩
    · show ((wipeE g vs).set v none).length = ((L2.wipe σ vs).set v none).length
      rw [List.length_set, List.length_set]
      exact ih.len
    · have q' : ((wipeE g vs).set v none)[j]? = some (some e) := q
      show ∃ w, ((L2.wipe σ vs).set v none)[j]? = some (some w) ∧ Rp T G w e
      by_cases hj : v = j
      · subst hj
        by_cases hv : v < (wipeE g vs).length
        · rw [List.getElem?_set_self hv] at q'
          cases q'
        · rw [List.getElem?_eq_none (by rw [List.length_set]; omega)] at q'
          cases q'
      · rw [List.getElem?_set_ne hj] at q' ⊢
        exact ih.at_ j e q'
/-! ### names, constants -/
theorem DE.ofL {e : Expr} {t : TE} {f : Fl} (h : DLs K T X e t f) : DE K T X e t (fL f) :=
  ⟨h.hK, h.pe, fun σ H G g d le er ef Q k => by
    cases q : f g with
    | none =>
      have z : (f g).map D.lst = some d := ef
      rw [q] at z
      cases z
    | some ds =>
      have z : (f g).map D.lst = some d := ef
      rw [q] at z
      have z' : D.lst ds = d := Option.some.inj z
      subst z'
      refine h.den σ H G g ds le er q Q fun p xs H' G' gr np hp gp ra => ?_
      exact k (.ref p) H' (upd G' p (.lst xs)) (gr.show np hp gp) (.lst (.inl upd_same) (ra.mono (Le.new gp) _ _))⟩
theorem de_var (i : Nat) {x : Str} (hN : X.N[i]? = some x := by rfl) (hv : Vis X.env.scope x := by first | exact Or.inl rfl | exact Or.inr (Or.inl rfl) | exact Or.inr (Or.inr rfl)) (hd : (x == ("__debug__" : Str)) = false := by decide)
    (hcd : (x == ("__classdict__" : Str)) = false := by decide) (hK : X.K = K := by rfl) : DE K T X (.Name x pos) (tVar i) (fVar i) :=
  ⟨hK, pe_var hN hv hd hcd, fun σ H G g d le er ef Q k => by
    have q : g[i]? = some (some d) := by
      have z : (g[i]?).join = some d := ef
      cases w : g[i]? with
      | none => rw [w] at z; cases z
      | some o => rw [w] at z; exact congrArg some z
    obtain ⟨v, h1, h2⟩ := er.at_ i d q
    exact ⟨v, h1, k v H G (.refl le) h2⟩⟩
theorem den_c {v : V} {d : D} (r : ∀ G, Rp T G v d) : Den T (tC v) (fC d) := fun σ H G g d' le er ef Q k => by
  have e : d = d' := Option.some.inj ef
  subst e
  exact k v H G (.refl le) (r G)
theorem de_int {i : Int} {j} (hK : X.K = K := by rfl) : DE K T X (.Constant (.int i) j pos) (tC (.int i)) (fC (.int i)) := ⟨hK, pe_int, den_c fun _ => .int i⟩
theorem de_bl {b : Bool} {j} (hK : X.K = K := by rfl) : DE K T X (.Constant (.bool b) j pos) (tC (.bl b)) (fC (.bl b)) := ⟨hK, pe_bl, den_c fun _ => .bl b⟩
theorem de_non {j} (hK : X.K = K := by rfl) : DE K T X (.Constant .none j pos) (tC .non) (fC .non) := ⟨hK, pe_non, den_c fun _ => .non⟩
theorem de_str {x : Str} {j} (hK : X.K = K := by rfl) : DE K T X (.Constant (.str x) j pos) (tC (.str x)) (fC (.str x)) := ⟨hK, pe_str, den_c fun _ => .str x⟩
/-- a module's int -/
theorem de_globI {x : Str} {i : Int} {t : Tok} (hm : X.mg x = some (.int i t)) (hg : Gl X x := by rfl) (hd : (x == ("__debug__" : Str)) = false := by decide) (hK : X.K = K := by rfl) : DE K T X (.Name x pos) (tC (.int i)) (fC (.int i)) :=
  ⟨hK, pe_glob hg hm ⟨t, rfl⟩ hd, den_c fun _ => .int i⟩
/-! ### operators -/
variable {a b c : Expr} {ta tb tc : TE} {fa fb fc : Fe}
theorem bind_some {α β : Type} {o : Option α} {f : α → Option β} {z : β} (h : o.bind f = some z) : ∃ x, o = some x ∧ f x = some z := by
  cases o with
  | none => cases h
  | some x => exact ⟨x, rfl, h⟩
theorem map_some {α β : Type} {o : Option α} {f : α → β} {z : β} (h : o.map f = some z) : ∃ x, o = some x ∧ f x = z := by
  cases o with
  | none => cases h
  | some x => exact ⟨x, rfl, Option.some.inj h⟩
theorem den_op {r : R2} {op : D → D → Option D} (ha : Den T ta fa) (hb : Den T tb fb) (hr : DenR T r op) : Den T (tOp r ta tb) (fB op fa fb) := fun σ H G g d le er ef Q k => by
  obtain ⟨x, e1, ef⟩ := bind_some ef
  obtain ⟨y, e2, ef⟩ := bind_some ef
  refine ha σ H G g x le er e1 _ fun v H1 G1 g1 r1 => ?_
  refine hb σ H1 G1 g y g1.le (er.mono g1.gg) e2 _ fun w H2 G2 g2 r2 => ?_
  exact hr v w H2 G2 x y d g2.le (r1.mono g2.gg _ _) r2 ef Q fun z H3 G3 g3 r3 => k z H3 G3 ((g1.trans g2).trans g3) r3
theorem den_opL {r : R2} {op : D → D → Option (List D)} (ha : Den T ta fa) (hb : Den T tb fb) (hr : DenRL T r op) : DenL T (tOp r ta tb) (fBL op fa fb) := fun σ H G g d le er ef Q k => by
  obtain ⟨x, e1, ef⟩ := bind_some ef
  obtain ⟨y, e2, ef⟩ := bind_some ef
  refine ha σ H G g x le er e1 _ fun v H1 G1 g1 r1 => ?_
  refine hb σ H1 G1 g y g1.le (er.mono g1.gg) e2 _ fun w H2 G2 g2 r2 => ?_
  exact hr v w H2 G2 x y d g2.le (r1.mono g2.gg _ _) r2 ef Q fun p xs H3 G3 g3 np hp gp r3 => k p xs H3 G3 ((g1.trans g2).trans g3) ((g1.trans g2).hh.none np) hp gp r3
theorem de_bin {o : Operator} {r : R2} {op : D → D → Option D} (ho : DOp T X (binaryOp o) r op) (ha : DE K T X a ta fa) (hb : DE K T X b tb fb) : DE K T X (.BinOp a o b pos) (tOp r ta tb) (fB op fa fb) :=
  ⟨ha.hK, pe_op ho.pe ha.pe hb.pe, den_op ha.den hb.den ho.den⟩
theorem dl_bin {o : Operator} {r : R2} {op : D → D → Option (List D)} (ho : DOpL T X (binaryOp o) r op) (ha : DE K T X a ta fa) (hb : DE K T X b tb fb) : DLs K T X (.BinOp a o b pos) (tOp r ta tb) (fBL op fa fb) :=
  ⟨ha.hK, pe_op ho.pe ha.pe hb.pe, den_opL ha.den hb.den ho.den⟩
theorem de_cmp {o : CmpOp} {r : R2} {op : D → D → Option D} (ho : DOp T X (compareOp o) r op) (ha : DE K T X a ta fa) (hb : DE K T X b tb fb) (hm : behindInMarks o b = false) : DE K T X (.Compare a [o] [b] pos) (tOp r ta tb) (fB op fa fb) :=
  ⟨ha.hK, pe_cmpR ho.pe ha.pe hb.pe hm, den_op ha.den hb.den ho.den⟩
theorem den_test {te : TE} {f : Fe} (h : Den T te f) : DenT T (tTest te) (bB f) := fun σ H G g bb le er ef Q k => by
  obtain ⟨x, e1, ef⟩ := bind_some ef
  refine h σ H G g x le er e1 _ fun v H1 G1 g1 r1 => ?_
  cases x with
  | bl b' =>
    have z : b' = bb := Option.some.inj ef
    subst z
    cases r1
    exact ⟨b', rfl, k H1 G1 g1⟩
  | _ => cases ef
theorem den_tB {te : TE} {f : Fe} (h : Den T te f) : DenT T (L2.tB te) (bB f) := fun σ H G g bb le er ef Q k => by
  obtain ⟨x, e1, ef⟩ := bind_some ef
  refine h σ H G g x le er e1 _ fun v H1 G1 g1 r1 => ?_
  cases x with
  | bl b' =>
    have z : b' = bb := Option.some.inj ef
    subst z
    cases r1
    exact ⟨b', rfl, k H1 G1 g1⟩
  | _ => cases ef
theorem dt_cmp {o : CmpOp} {r : R2} {op : D → D → Option D} (ho : DOp T X (compareOp o) r op) (ha : DE K T X a ta fa) (hb : DE K T X b tb fb) (hm : behindInMarks o b = false) : DT K T X (.Compare a [o] [b] pos) (tTest (tOp r ta tb)) (bB (fB op fa fb)) :=
  ⟨ha.hK, pt_cmpR ho.pe ha.pe hb.pe hm, den_test (den_op ha.den hb.den ho.den)⟩
/-- an expression that gives a bool, as a test (a call, a name) -/
theorem dt_val {e : Expr} {te : TE} {f : Fe} (h : DE K T X e te f) (he : ∀ whole, isTrue e X.env whole = (do let v ← whole; standAt e.pos; holding [v] (truthy v)) := by intro _; rfl) : DT K T X e (L2.tB te) (bB f) :=
  ⟨h.hK, pt_val h.pe he, den_tB h.den⟩
theorem den_chain {r r' : R2} {op op' : D → D → Option D} (ha : Den T ta fa) (hb : Den T tb fb) (hc : Den T tc fc) (hr : DenR T r op) (hr' : DenR T r' op') : Den T (tChain r r' ta tb tc) (fChain op op' fa fb fc) := fun σ H G g d le er ef Q k => by
  obtain ⟨x, e1, ef⟩ := bind_some ef
  obtain ⟨y, e2, ef⟩ := bind_some ef
  obtain ⟨z, e3, ef⟩ := bind_some ef
  obtain ⟨kk, e4, ef⟩ := bind_some ef
  refine ha σ H G g x le er e1 _ fun v H1 G1 g1 r1 => ?_
  refine hb σ H1 G1 g y g1.le (er.mono g1.gg) e2 _ fun w H2 G2 g2 r2 => ?_
  refine hr v w H2 G2 x y z g2.le (r1.mono g2.gg _ _) r2 e3 _ fun u H3 G3 g3 r3 => ?_
  cases z with
  | bl b' =>
    have q : b' = kk := Option.some.inj e4
    subst q
    cases r3
    refine ⟨b', rfl, ?_⟩
    cases b' with
    | true =>
      have ef' : ((fc g).bind fun c => op' y c) = some d := ef
      obtain ⟨cc, e5, ef'⟩ := bind_some ef'
      show tc σ H3 _
      refine hc σ H3 G3 g cc g3.le (er.mono ((g1.trans g2).trans g3).gg) e5 _ fun u H4 G4 g4 r4 => ?_
      exact hr' w u H4 G4 y cc d g4.le (r2.mono (g3.trans g4).gg _ _) r4 ef' Q fun zz H5 G5 g5 r5 => k zz H5 G5 ((((g1.trans g2).trans g3).trans g4).trans g5) r5
    | false =>
      have ef' : some (D.bl false) = some d := ef
      have q : D.bl false = d := Option.some.inj ef'
      subst q
      show Q (.bl false) H3
      exact k _ H3 G3 ((g1.trans g2).trans g3) (.bl false)
  | _ => cases e4
theorem de_chain {o o' : CmpOp} {r r' : R2} {op op' : D → D → Option D} (ho : DOp T X (compareOp o) r op) (ho' : DOp T X (compareOp o') r' op') (ha : DE K T X a ta fa) (hb : DE K T X b tb fb) (hc : DE K T X c tc fc)
    (hm : lastMarks [o, o'] [b, c] = false := by with_unfolding_all rfl) : DE K T X (.Compare a [o, o'] [b, c] pos) (tChain r r' ta tb tc) (fChain op op' fa fb fc) :=
  ⟨ha.hK, pe_chain ho.pe ho'.pe ha.pe hb.pe hc.pe hm, den_chain ha.den hb.den hc.den ho.den ho'.den⟩
theorem dt_chain {o o' : CmpOp} {r r' : R2} {op op' : D → D → Option D} (ho : DOp T X (compareOp o) r op) (ho' : DOp T X (compareOp o') r' op') (ha : DE K T X a ta fa) (hb : DE K T X b tb fb) (hc : DE K T X c tc fc)
    (hm : lastMarks [o, o'] [b, c] = false := by with_unfolding_all rfl) : DT K T X (.Compare a [o, o'] [b, c] pos) (tTest (tChain r r' ta tb tc)) (bB (fChain op op' fa fb fc)) :=
  ⟨ha.hK, pt_chain ho.pe ho'.pe ha.pe hb.pe hc.pe hm, den_test (den_chain ha.den hb.den hc.den ho.den ho'.den)⟩
/-! ### a op b op c op d -/
def tChain3 (r r' r'' : R2) (ta tb tc td : TE) : TE := fun σ H Q => ta σ H fun x H1 => tb σ H1 fun y H2 => r x y H2 fun z H3 => ∃ k, z = .bl k ∧
  (if k = true then tc σ H3 fun y' H4 => r' y y' H4 fun z' H5 => ∃ k', z' = .bl k' ∧ (if k' = true then td σ H5 fun w H6 => r'' y' w H6 Q else Q (.bl false) H5) else Q (.bl false) H3)
variable {d : Expr} {td : TE} {fd : Fe}
theorem pt_chain3 {op op' op'' : CmpOp} {r r' r'' : R2} (ho : OpR X (compareOp op) r) (ho' : OpR X (compareOp op') r') (ho'' : OpR X (compareOp op'') r'') (ha : PE X a ta) (hb : PE X b tb) (hc : PE X c tc) (hd : PE X d td)
    (hm : lastMarks [op, op', op''] [b, c, d] = false := by with_unfolding_all rfl) : PT X (.Compare a [op, op', op''] [b, c, d] pos) (tTest (tChain3 r r' r'' ta tb tc td)) := by
  refine ⟨fun pins s σ H Q I h => ?_⟩
  refine isTrue_chain (thn (ha.run pins s σ H _ I h) fun v s1 ⟨x, H1, I1, r1, q1⟩ => test_link (thn (hb.run pins s1 σ H1 _ I1 q1) fun u s2 ⟨y, H2, I2, r2, q2⟩ =>
    thn (ho pins s2 σ H2 x y v u _ I2 r1 r2 q2) fun d s3 ⟨z, H3, I3, r3, k, e, q3⟩ => ?_)) hm
  subst e
  cases r3
  refine wpAny_truthy_bool ?_
  cases k with
  | false =>
    obtain ⟨k', e', q'⟩ := q3
    cases e'
    exact ite_ff ⟨H3, I3, q'⟩
  | true =>
    refine ite_tt (test_link (thn (hc.run pins s3 σ H3 _ I3 q3) fun w' s4 ⟨y', H4, I4, r4, q4⟩ => thn (ho' pins s4 σ H4 y y' u w' _ I4 r2 r4 q4) fun d' s5 ⟨z2, H5, I5, r5, k2, e2, q5⟩ => ?_))
    subst e2
    cases r5
    refine wpAny_truthy_bool ?_
    cases k2 with
    | false =>
      obtain ⟨k', e', q'⟩ := q5
      cases e'
      exact ite_ff ⟨H5, I5, q'⟩
    | true =>
      refine ite_tt (test_last (thn (hd.run pins s5 σ H5 _ I5 q5) fun w2 s6 ⟨y2, H6, I6, r6, q6⟩ => thn (ho'' pins s6 σ H6 y' y2 w' w2 _ I6 r4 r6 q6) fun d2 s7 ⟨z3, H7, I7, r7, k3, e3, q7⟩ => ?_))
      subst e3
      cases r7
      exact wpAny_truthy_bool ⟨H7, I7, q7⟩
theorem den_chain3 {r r' r'' : R2} {op op' op'' : D → D → Option D} (ha : Den T ta fa) (hb : Den T tb fb) (hc : Den T tc fc) (hd : Den T td fd) (hr : DenR T r op) (hr' : DenR T r' op') (hr'' : DenR T r'' op'') :
    Den T (tChain3 r r' r'' ta tb tc td) (fChain3 op op' op'' fa fb fc fd) := fun σ H G g dd le er ef Q k => by
  obtain ⟨x, e1, ef⟩ := bind_some ef
  obtain ⟨y, e2, ef⟩ := bind_some ef
  obtain ⟨z, e3, ef⟩ := bind_some ef
  obtain ⟨kk, e4, ef⟩ := bind_some ef
  refine ha σ H G g x le er e1 _ fun v H1 G1 g1 r1 => ?_
  refine hb σ H1 G1 g y g1.le (er.mono g1.gg) e2 _ fun w H2 G2 g2 r2 => ?_
  refine hr v w H2 G2 x y z g2.le (r1.mono g2.gg _ _) r2 e3 _ fun u H3 G3 g3 r3 => ?_
  have g03 := (g1.trans g2).trans g3
  cases z with
  | bl b' =>
    have q : b' = kk := Option.some.inj e4
    subst q
    cases r3
    refine ⟨b', rfl, ?_⟩
    cases b' with
    | true =>
      obtain ⟨cc, e5, ef'⟩ := bind_some (show ((fc g).bind fun c => (op' y c).bind fun z' => (toB z').bind fun k' => if k' then (fd g).bind fun e => op'' c e else some (.bl false)) = some dd from ef)
      obtain ⟨z2, e6, ef'⟩ := bind_some ef'
      obtain ⟨k2, e7, ef'⟩ := bind_some ef'
      show tc σ H3 _
      refine hc σ H3 G3 g cc g3.le (er.mono g03.gg) e5 _ fun u H4 G4 g4 r4 => ?_
      refine hr' w u H4 G4 y cc z2 g4.le (r2.mono (g3.trans g4).gg _ _) r4 e6 _ fun u2 H5 G5 g5 r5 => ?_
      have g05 := (g03.trans g4).trans g5
      cases z2 with
      | bl b2 =>
        have q : b2 = k2 := Option.some.inj e7
        subst q
        cases r5
        refine ⟨b2, rfl, ?_⟩
        cases b2 with
        | true =>
          obtain ⟨c3, e8, ef''⟩ := bind_some (show ((fd g).bind fun e => op'' cc e) = some dd from ef')
          show td σ H5 _
          refine hd σ H5 G5 g c3 g5.le (er.mono g05.gg) e8 _ fun u3 H6 G6 g6 r6 => ?_
          exact hr'' u u3 H6 G6 cc c3 dd g6.le (r4.mono (g5.trans g6).gg _ _) r6 ef'' Q fun zz H7 G7 g7 r7 => k zz H7 G7 ((g05.trans g6).trans g7) r7
        | false =>
          have q : D.bl false = dd := Option.some.inj ef'
          subst q
          show Q (.bl false) H5
          exact k _ H5 G5 g05 (.bl false)
      | _ => cases e7
    | false =>
      have q : D.bl false = dd := Option.some.inj ef
      subst q
      show Q (.bl false) H3
      exact k _ H3 G3 g03 (.bl false)
  | _ => cases e4
theorem dt_chain3 {o o' o'' : CmpOp} {r r' r'' : R2} {op op' op'' : D → D → Option D} (ho : DOp T X (compareOp o) r op) (ho' : DOp T X (compareOp o') r' op') (ho'' : DOp T X (compareOp o'') r'' op'') (ha : DE K T X a ta fa) (hb : DE K T X b tb fb) (hc : DE K T X c tc fc) (hd : DE K T X d td fd)
    (hm : lastMarks [o, o', o''] [b, c, d] = false := by with_unfolding_all rfl) : DT K T X (.Compare a [o, o', o''] [b, c, d] pos) (tTest (tChain3 r r' r'' ta tb tc td)) (bB (fChain3 op op' op'' fa fb fc fd)) :=
  ⟨ha.hK, pt_chain3 ho.pe ho'.pe ho''.pe ha.pe hb.pe hc.pe hd.pe hm, den_test (den_chain3 ha.den hb.den hc.den hd.den ho.den ho'.den ho''.den)⟩
/-! ### and, or, not, if -/
variable {t u : TT} {ft fu : Ft} {rest : List Expr}
theorem dw_pt {e : Expr} (h : DW K T X e t ft) : DT K T X e t ft := ⟨h.hK, h.pe.pt, h.den⟩
theorem dw_and1 (ha : DT K T X a t ft) : DW K T X (.BoolOp .And [a] pos) t ft := ⟨ha.hK, pw_and1 ha.pe, ha.den⟩
theorem dw_or1 (ha : DT K T X a t ft) : DW K T X (.BoolOp .Or [a] pos) t ft := ⟨ha.hK, pw_or1 ha.pe, ha.den⟩
theorem den_and (ha : DenT T t ft) (hb : DenT T u fu) : DenT T (L2.tAnd t u) (bAnd ft fu) := fun σ H G g d le er ef Q k => by
  obtain ⟨x, e1, ef⟩ := bind_some ef
  refine ha σ H G g x le er e1 _ fun H1 G1 g1 => ?_
  cases x with
  | true =>
    show u σ H1 Q
    exact hb σ H1 G1 g d g1.le (er.mono g1.gg) ef Q fun H2 G2 g2 => k H2 G2 (g1.trans g2)
  | false =>
    have q : false = d := Option.some.inj ef
    subst q
    show Q false H1
    exact k H1 G1 g1
theorem den_or (ha : DenT T t ft) (hb : DenT T u fu) : DenT T (L2.tOr t u) (bOr ft fu) := fun σ H G g d le er ef Q k => by
  obtain ⟨x, e1, ef⟩ := bind_some ef
  refine ha σ H G g x le er e1 _ fun H1 G1 g1 => ?_
  cases x with
  | false =>
    show u σ H1 Q
    exact hb σ H1 G1 g d g1.le (er.mono g1.gg) ef Q fun H2 G2 g2 => k H2 G2 (g1.trans g2)
  | true =>
    have q : true = d := Option.some.inj ef
    subst q
    show Q true H1
    exact k H1 G1 g1
theorem dw_and (ha : DT K T X a t ft) (hb : DW K T X (.BoolOp .And (b :: rest) pos) u fu) : DW K T X (.BoolOp .And (a :: b :: rest) pos) (L2.tAnd t u) (bAnd ft fu) := ⟨ha.hK, pw_and ha.pe hb.pe, den_and ha.den hb.den⟩
theorem dw_or (ha : DT K T X a t ft) (hb : DW K T X (.BoolOp .Or (b :: rest) pos) u fu) : DW K T X (.BoolOp .Or (a :: b :: rest) pos) (L2.tOr t u) (bOr ft fu) := ⟨ha.hK, pw_or ha.pe hb.pe, den_or ha.den hb.den⟩
theorem dt_not (ha : DT K T X a t ft) : DT K T X (.UnaryOp .Not a pos) (L2.tNot t) (bNot ft) := ⟨ha.hK, pt_not ha.pe, fun σ H G g d le er ef Q k => by
  obtain ⟨x, e1, ef⟩ := map_some ef
  subst ef
  exact ha.den σ H G g x le er e1 _ fun H1 G1 g1 => k H1 G1 g1⟩
theorem de_one {o} {f : Fe} {te : TE} (h : DE K T X a te f) : DE K T X (.BoolOp o [a] pos) te f := ⟨h.hK, pe_one h.pe, h.den⟩
theorem de_and (ha : DE K T X a ta fa) (hb : DE K T X (.BoolOp .And (b :: rest) pos) tb fb) : DE K T X (.BoolOp .And (a :: b :: rest) pos) (tAndV ta tb) (fAnd fa fb) := ⟨ha.hK, pe_and ha.pe hb.pe, fun σ H G g d le er ef Q k => by
  obtain ⟨x, e1, ef⟩ := bind_some ef
  obtain ⟨kk, e2, ef⟩ := bind_some ef
  refine ha.den σ H G g x le er e1 _ fun v H1 G1 g1 r1 => ?_
  cases x with
  | bl b' =>
    have q : b' = kk := Option.some.inj e2
    subst q
    cases r1
    refine ⟨b', rfl, ?_⟩
    cases b' with
    | true =>
      show tb σ H1 Q
      exact hb.den σ H1 G1 g d g1.le (er.mono g1.gg) ef Q fun v H2 G2 g2 r2 => k v H2 G2 (g1.trans g2) r2
    | false =>
      have q : D.bl false = d := Option.some.inj ef
      subst q
      show Q (.bl false) H1
      exact k _ H1 G1 g1 (.bl false)
  | _ => cases e2⟩
theorem de_or (ha : DE K T X a ta fa) (hb : DE K T X (.BoolOp .Or (b :: rest) pos) tb fb) : DE K T X (.BoolOp .Or (a :: b :: rest) pos) (tOrV ta tb) (fOr fa fb) := ⟨ha.hK, pe_or ha.pe hb.pe, fun σ H G g d le er ef Q k => by
  obtain ⟨x, e1, ef⟩ := bind_some ef
  obtain ⟨kk, e2, ef⟩ := bind_some ef
  refine ha.den σ H G g x le er e1 _ fun v H1 G1 g1 r1 => ?_
  cases x with
  | bl b' =>
    have q : b' = kk := Option.some.inj e2
    subst q
    cases r1
    refine ⟨b', rfl, ?_⟩
    cases b' with
    | false =>
      show tb σ H1 Q
      exact hb.den σ H1 G1 g d g1.le (er.mono g1.gg) ef Q fun v H2 G2 g2 r2 => k v H2 G2 (g1.trans g2) r2
    | true =>
      have q : D.bl true = d := Option.some.inj ef
      subst q
      show Q (.bl true) H1
      exact k _ H1 G1 g1 (.bl true)
  | _ => cases e2⟩
theorem de_not (ha : DE K T X a ta fa) : DE K T X (.UnaryOp .Not a pos) (tNotV ta) (fU dNot fa) := ⟨ha.hK, pe_not ha.pe, fun σ H G g d le er ef Q k => by
  obtain ⟨x, e1, ef⟩ := bind_some ef
  refine ha.den σ H G g x le er e1 _ fun v H1 G1 g1 r1 => ?_
  cases x with
  | bl b' =>
    have q : D.bl (!b') = d := Option.some.inj ef
    subst q
    cases r1
    exact ⟨b', rfl, k _ H1 G1 g1 (.bl _)⟩
  | _ => cases ef⟩
theorem de_neg (ha : DE K T X a ta fa) : DE K T X (.UnaryOp .USub a pos) (tUn (rU fun i => .int (-i)) ta) (fU dNeg fa) := ⟨ha.hK, pe_un un_neg ha.pe, fun σ H G g d le er ef Q k => by
  obtain ⟨x, e1, ef⟩ := bind_some ef
  refine ha.den σ H G g x le er e1 _ fun v H1 G1 g1 r1 => ?_
  cases x with
  | int b' =>
    have q : D.int (-b') = d := Option.some.inj ef
    subst q
    cases r1
    exact ⟨b', rfl, k _ H1 G1 g1 (.int _)⟩
  | _ => cases ef⟩
theorem de_if (hc : DT K T X c t ft) (ha : DE K T X a ta fa) (hb : DE K T X b tb fb) : DE K T X (.IfExp c a b pos) (tIf t ta tb) (fIf ft fa fb) := ⟨ha.hK, pe_ifExp hc.pe ha.pe hb.pe, fun σ H G g d le er ef Q k => by
  obtain ⟨x, e1, ef⟩ := bind_some ef
  refine hc.den σ H G g x le er e1 _ fun H1 G1 g1 => ?_
  cases x with
  | true =>
    show ta σ H1 Q
    exact ha.den σ H1 G1 g d g1.le (er.mono g1.gg) ef Q fun v H2 G2 g2 r2 => k v H2 G2 (g1.trans g2) r2
  | false =>
    show tb σ H1 Q
    exact hb.den σ H1 G1 g d g1.le (er.mono g1.gg) ef Q fun v H2 G2 g2 r2 => k v H2 G2 (g1.trans g2) r2⟩
theorem dl_if {fa fb : Fl} (hc : DT K T X c t ft) (ha : DLs K T X a ta fa) (hb : DLs K T X b tb fb) : DLs K T X (.IfExp c a b pos) (tIf t ta tb) (fIfL ft fa fb) := ⟨ha.hK, pe_ifExp hc.pe ha.pe hb.pe, fun σ H G g d le er ef Q k => by
  obtain ⟨x, e1, ef⟩ := bind_some ef
  refine hc.den σ H G g x le er e1 _ fun H1 G1 g1 => ?_
  cases x with
  | true =>
    show ta σ H1 Q
    exact ha.den σ H1 G1 g d g1.le (er.mono g1.gg) ef Q fun p xs H2 G2 g2 np hp gp r2 => k p xs H2 G2 (g1.trans g2) (g1.hh.none np) hp gp r2
  | false =>
    show tb σ H1 Q
    exact hb.den σ H1 G1 g d g1.le (er.mono g1.gg) ef Q fun p xs H2 G2 g2 np hp gp r2 => k p xs H2 G2 (g1.trans g2) (g1.hh.none np) hp gp r2⟩
/-! ### arguments, displays -/
variable {e : Expr} {es : List Expr} {te : TE} {tr : TA} {f : Fe} {fr : Fl}
theorem da_nil (hK : X.K = K := by rfl) : DA K T X [] tNil aNil := ⟨hK, pa_nil, fun σ H G g d le er ef Q k => by
  have q : ([] : List D) = d := Option.some.inj ef
  subst q
  exact k [] H G (.refl le) .nil⟩
theorem da_cons (ha : DE K T X e te f) (hr : DA K T X es tr fr) (hs : starEach (e :: es) X.env = (false, eval e X.env) :: starEach es X.env := by rfl) : DA K T X (e :: es) (tCons te tr) (aCons f fr) := ⟨ha.hK, pa_cons ha.pe hr.pe hs, fun σ H G g d le er ef Q k => by
  obtain ⟨x, e1, ef⟩ := bind_some ef
  obtain ⟨ds, e2, ef⟩ := map_some ef
  subst ef
  refine ha.den σ H G g x le er e1 _ fun v H1 G1 g1 r1 => ?_
  exact hr.den σ H1 G1 g ds g1.le (er.mono g1.gg) e2 _ fun vs H2 G2 g2 r2 => k (v :: vs) H2 G2 (g1.trans g2) (.cons (r1.mono g2.gg _ _) r2)⟩
theorem big_line {n : Nat} (h : n ≤ 1000000) : n ≤ sizeLine := Nat.le_trans h (by rw [sizeLine_eq]; decide)
theorem big_lt {n : Nat} (h : n ≤ 1000000) : n < sizeLine := Nat.lt_of_le_of_lt h (by rw [sizeLine_eq]; decide)
theorem de_tup {x1} (h : DA K T X es tr fr) : DE K T X (.Tuple es x1 pos) (tTup tr) (fTup fr) := ⟨h.hK, pe_tup h.pe, fun σ H G g d le er ef Q k => by
  obtain ⟨ds, e1, ef⟩ := bind_some ef
  by_cases hl : ds.length ≤ 1000000
  · rw [if_pos hl] at ef
    have q : D.tup ds = d := Option.some.inj ef
    subst q
    refine h.den σ H G g ds le er e1 _ fun vs H1 G1 g1 r1 => ⟨big_line (by rw [r1.length]; exact hl), fun p hp => ?_⟩
    exact k _ _ (upd G1 p (.tup vs)) (g1.trans (.new g1.le hp)) (.tup (.inl upd_same) (r1.mono (Le.new (g1.le.none hp)) _ _))
  · rw [if_neg hl] at ef
    cases ef⟩
theorem dl_disp (h : DA K T X es tr fr) : DLs K T X (.List es pos) (tLst tr) (fDisp fr) := ⟨h.hK, pe_lst h.pe, fun σ H G g d le er ef Q k => by
  obtain ⟨ds, e1, ef⟩ := bind_some ef
  by_cases hl : ds.length ≤ 1000000
  · rw [if_pos hl] at ef
    have q : ds = d := Option.some.inj ef
    subst q
    refine h.den σ H G g ds le er e1 _ fun vs H1 G1 g1 r1 => ⟨big_line (by rw [r1.length]; exact hl), fun p hp => ?_⟩
    exact k p vs _ G1 (g1.trans (.own g1.le hp)) (g1.hh.none hp) upd_same (g1.le.none hp) r1
  · rw [if_neg hl] at ef
    cases ef⟩
/-! ### calls of built-ins -/
theorem den_cb {r : List V → Hp → VK → Prop} {op : List D → Option D} (ha : DenA T tr fr) (hr : DenC T r op) : Den T (tCB r tr) (fCall op fr) := fun σ H G g d le er ef Q k => by
  obtain ⟨ds, e1, ef⟩ := bind_some ef
  refine ha σ H G g ds le er e1 _ fun vs H1 G1 g1 r1 => ?_
  exact hr vs H1 G1 ds d g1.le r1 ef Q fun v H2 G2 g2 r2 => k v H2 G2 (g1.trans g2) r2
theorem den_cbL {r : List V → Hp → VK → Prop} {op : List D → Option (List D)} (ha : DenA T tr fr) (hr : DenCL T r op) : DenL T (tCB r tr) (fCallL op fr) := fun σ H G g d le er ef Q k => by
  obtain ⟨ds, e1, ef⟩ := bind_some ef
  refine ha σ H G g ds le er e1 _ fun vs H1 G1 g1 r1 => ?_
  exact hr vs H1 G1 ds d g1.le r1 ef Q fun p xs H2 G2 g2 np hp gp r2 => k p xs H2 G2 (g1.trans g2) (g1.hh.none np) hp gp r2
theorem de_callB {id : String} {x : Str} {p : Pos} {r : List V → Hp → VK → Prop} {op : List D → Option D} (hc : CallR X (.builtin id) r) (hr : DenC T r op) (hm : X.mg x = none) (hv : bootBuiltins x = some (.builtin id)) (ha : DA K T X (e :: es) tr fr) (hg : Gl X x := by rfl) (hn : x ≠ "__name__" := by decide) (hdb : (x == ("__debug__" : Str)) = false := by decide)
    (he : starEach (e :: es) X.env = (false, eval e X.env) :: starEach es X.env := by rfl) (hpl : (backTo pos (starEach es X.env)).any (·.1) = false := by rfl) : DE K T X (.Call (.Name x p) (e :: es) [] pos) (tCB r tr) (fCall op fr) :=
  ⟨ha.hK, pe_callB hc hg hm hv ha.pe hn hdb he hpl, den_cb ha.den hr⟩
theorem dl_callB {id : String} {x : Str} {p : Pos} {r : List V → Hp → VK → Prop} {op : List D → Option (List D)} (hc : CallR X (.builtin id) r) (hr : DenCL T r op) (hm : X.mg x = none) (hv : bootBuiltins x = some (.builtin id)) (ha : DA K T X (e :: es) tr fr) (hg : Gl X x := by rfl) (hn : x ≠ "__name__" := by decide) (hdb : (x == ("__debug__" : Str)) = false := by decide)
    (he : starEach (e :: es) X.env = (false, eval e X.env) :: starEach es X.env := by rfl) (hpl : (backTo pos (starEach es X.env)).any (·.1) = false := by rfl) : DLs K T X (.Call (.Name x p) (e :: es) [] pos) (tCB r tr) (fCallL op fr) :=
  ⟨ha.hK, pe_callB hc hg hm hv ha.pe hn hdb he hpl, den_cbL ha.den hr⟩
theorem de_callTy {ty : String} {x : Str} {p : Pos} {r : List V → Hp → VK → Prop} {op : List D → Option D} (hc : CallR X (.type ty) r) (hr : DenC T r op) (hm : X.mg x = none) (hv : bootBuiltins x = some (.type ty)) (ha : DA K T X (e :: es) tr fr) (hg : Gl X x := by rfl) (hn : x ≠ "__name__" := by decide) (hdb : (x == ("__debug__" : Str)) = false := by decide)
    (he : starEach (e :: es) X.env = (false, eval e X.env) :: starEach es X.env := by rfl) (hpl : (backTo pos (starEach es X.env)).any (·.1) = false := by rfl) : DE K T X (.Call (.Name x p) (e :: es) [] pos) (tCB r tr) (fCall op fr) :=
  ⟨ha.hK, pe_callTy hc hg hm hv ha.pe hn hdb he hpl, den_cb ha.den hr⟩
theorem dl_callTy {ty : String} {x : Str} {p : Pos} {r : List V → Hp → VK → Prop} {op : List D → Option (List D)} (hc : CallR X (.type ty) r) (hr : DenCL T r op) (hm : X.mg x = none) (hv : bootBuiltins x = some (.type ty)) (ha : DA K T X (e :: es) tr fr) (hg : Gl X x := by rfl) (hn : x ≠ "__name__" := by decide) (hdb : (x == ("__debug__" : Str)) = false := by decide)
    (he : starEach (e :: es) X.env = (false, eval e X.env) :: starEach es X.env := by rfl) (hpl : (backTo pos (starEach es X.env)).any (·.1) = false := by rfl) : DLs K T X (.Call (.Name x p) (e :: es) [] pos) (tCB r tr) (fCallL op fr) :=
  ⟨ha.hK, pe_callTy hc hg hm hv ha.pe hn hdb he hpl, den_cbL ha.den hr⟩
end
end DL

set_option Elab.async false
set_option linter.all false
set_option maxRecDepth 100000
set_option maxHeartbeats 4000000
namespace DL
open PySem PySem.Spec PyProof.Rows L2
section
variable {K : PySem.W.Frag} {T : CT} {X : Cx} {pos : Pos}
/-! ### the operators, by data -/
theorem denI0 {op : D → D → Option D} {gg : Int → Int → V} (hop : ∀ d e z, op d e = some z → ∃ i j, d = .int i ∧ e = .int j ∧ ∀ G, Rp T G (gg i j) z) : DenR T (rI0 gg) op := fun x y H G d e z le rx ry ez Q k => by
  obtain ⟨i, j, rfl, rfl, r⟩ := hop d e z ez
  cases rx
  cases ry
  exact ⟨i, j, rfl, rfl, k _ H G (.refl le) (r G)⟩
theorem denI {op : D → D → Option D} {C : Int → Int → Prop} {gg : Int → Int → V} (hop : ∀ d e z, op d e = some z → ∃ i j, d = .int i ∧ e = .int j ∧ C i j ∧ ∀ G, Rp T G (gg i j) z) : DenR T (rI C gg) op := fun x y H G d e z le rx ry ez Q k => by
  obtain ⟨i, j, rfl, rfl, c, r⟩ := hop d e z ez
  cases rx
  cases ry
  exact ⟨i, j, rfl, rfl, c, k _ H G (.refl le) (r G)⟩
theorem do_sub : DOp T X (binaryOp .Sub) (rI0 fun i j => .int (i - j)) dSub := ⟨op_sub, denI0 fun d e z h => by
  cases d with
  | int i =>
    cases e with
    | int j =>
      have q : D.int (i - j) = z := Option.some.inj h
      subst q
      exact ⟨i, j, rfl, rfl, fun G => .int _⟩
    | _ => cases h
  | _ => cases h⟩
def CMulX (i j : Int) : Prop := mulOk i j
theorem CMulX.ok {i j : Int} (h : CMulX i j) : IntMulOk i j := by
  have b : ∀ x : Int, Builtin.Int.intBits x ≤ x.natAbs.log2 + 1 := fun x => by
    unfold Builtin.Int.intBits
    split <;> omega
  have h1 := b i
  have h2 := b j
  have h3 : i.natAbs.log2 + j.natAbs.log2 < 100000000 := h
  have e : bitsLine = 134217728 := by decide
  unfold IntMulOk
  intro z
  rw [Bool.and_eq_true] at z
  have z2 := z.2
  unfold Builtin.Int.intTooBig at z2
  have z3 := of_decide_eq_true z2
  rw [e] at z3
  omega
theorem op_mulX : OpR X (binaryOp .Mult) (rI CMulX fun i j => .int (i * j)) := opI fun _ _ _ _ _ _ _ hc q => mul_int q hc.ok
theorem do_mul : DOp T X (binaryOp .Mult) (rI CMulX fun i j => .int (i * j)) dMul := ⟨op_mulX, denI fun d e z h => by
  cases d with
  | int i =>
    cases e with
    | int j =>
      by_cases c : mulOk i j
      · have h' : (if mulOk i j then some (D.int (i * j)) else none) = some z := h
        rw [if_pos c] at h'
        have q : D.int (i * j) = z := Option.some.inj h'
        subst q
        exact ⟨i, j, rfl, rfl, c, fun G => .int _⟩
      · have h' : (if mulOk i j then some (D.int (i * j)) else none) = some z := h
        rw [if_neg c] at h'
        cases h'
    | _ => cases h
  | _ => cases h⟩
theorem do_div : DOp T X (binaryOp .FloorDiv) (rI CDiv fun i j => .int (i / j)) dDiv := ⟨op_fdiv, denI fun d e z h => by
  cases d with
  | int i =>
    cases e with
    | int j =>
      have h' : (if 0 < j ∧ j < 1073741824 then some (D.int (i / j)) else none) = some z := h
      by_cases c : 0 < j ∧ j < 1073741824
      · rw [if_pos c] at h'
        have q : D.int (i / j) = z := Option.some.inj h'
        subst q
        exact ⟨i, j, rfl, rfl, c, fun G => .int _⟩
      · rw [if_neg c] at h'
        cases h'
    | _ => cases h
  | _ => cases h⟩
theorem do_mod : DOp T X (binaryOp .Mod) (rI (fun _ j => 0 < j) fun i j => .int (i % j)) dMod := ⟨op_mod, denI fun d e z h => by
  cases d with
  | int i =>
    cases e with
    | int j =>
      have h' : (if 0 < j then some (D.int (i % j)) else none) = some z := h
      by_cases c : 0 < j
      · rw [if_pos c] at h'
        have q : D.int (i % j) = z := Option.some.inj h'
        subst q
        exact ⟨i, j, rfl, rfl, c, fun G => .int _⟩
      · rw [if_neg c] at h'
        cases h'
    | _ => cases h
  | _ => cases h⟩
theorem do_pow : DOp T X (binaryOp .Pow) (rI CPow fun i j => .int (i ^ j.toNat)) dPow := ⟨op_pow, denI fun d e z h => by
  cases d with
  | int i =>
    cases e with
    | int j =>
      have h' : (if 0 ≤ j ∧ j ≤ 1000000 ∧ i.natAbs < 2 ^ 64 then some (D.int (i ^ j.toNat)) else none) = some z := h
      by_cases c : 0 ≤ j ∧ j ≤ 1000000 ∧ i.natAbs < 2 ^ 64
      · rw [if_pos c] at h'
        have q : D.int (i ^ j.toNat) = z := Option.some.inj h'
        subst q
        exact ⟨i, j, rfl, rfl, c, fun G => .int _⟩
      · rw [if_neg c] at h'
        cases h'
    | _ => cases h
  | _ => cases h⟩
theorem do_shl : DOp T X (binaryOp .LShift) (rI CPow fun i j => .int (i * 2 ^ j.toNat)) dShl := ⟨op_shl, denI fun d e z h => by
  cases d with
  | int i =>
    cases e with
    | int j =>
      have h' : (if 0 ≤ j ∧ j ≤ 1000000 ∧ i.natAbs < 2 ^ 64 then some (D.int (i * 2 ^ j.toNat)) else none) = some z := h
      by_cases c : 0 ≤ j ∧ j ≤ 1000000 ∧ i.natAbs < 2 ^ 64
      · rw [if_pos c] at h'
        have q : D.int (i * 2 ^ j.toNat) = z := Option.some.inj h'
        subst q
        exact ⟨i, j, rfl, rfl, c, fun G => .int _⟩
      · rw [if_neg c] at h'
        cases h'
    | _ => cases h
  | _ => cases h⟩
theorem do_lt : DOp T X (compareOp .Lt) (rI0 fun i j => .bl (decide (i < j))) dLt := ⟨op_lt, denI0 fun d e z h => by
  cases d with
  | int i =>
    cases e with
    | int j =>
      have q : D.bl (decide (i < j)) = z := Option.some.inj h
      subst q
      exact ⟨i, j, rfl, rfl, fun G => .bl _⟩
    | _ => cases h
  | _ => cases h⟩
theorem do_le : DOp T X (compareOp .LtE) (rI0 fun i j => .bl (decide (i ≤ j))) dLe := ⟨op_le, denI0 fun d e z h => by
  cases d with
  | int i =>
    cases e with
    | int j =>
      have q : D.bl (decide (i ≤ j)) = z := Option.some.inj h
      subst q
      exact ⟨i, j, rfl, rfl, fun G => .bl _⟩
    | _ => cases h
  | _ => cases h⟩
theorem do_gt : DOp T X (compareOp .Gt) (rI0 fun i j => .bl (decide (j < i))) dGt := ⟨op_gt, denI0 fun d e z h => by
  cases d with
  | int i =>
    cases e with
    | int j =>
      have q : D.bl (decide (j < i)) = z := Option.some.inj h
      subst q
      exact ⟨i, j, rfl, rfl, fun G => .bl _⟩
    | _ => cases h
  | _ => cases h⟩
theorem do_ge : DOp T X (compareOp .GtE) (rI0 fun i j => .bl (decide (j ≤ i))) dGe := ⟨op_ge, denI0 fun d e z h => by
  cases d with
  | int i =>
    cases e with
    | int j =>
      have q : D.bl (decide (j ≤ i)) = z := Option.some.inj h
      subst q
      exact ⟨i, j, rfl, rfl, fun G => .bl _⟩
    | _ => cases h
  | _ => cases h⟩
/-! ### list + list, list * int, int + int | list + list -/
def rCatR : R2 := fun x y H Q => ∃ l b xs zs, x = .ref l ∧ y = .ref b ∧ Rd H l (.lst xs) ∧ Rd H b (.lst zs) ∧ xs.length + zs.length ≤ sizeLine ∧ ∀ p, H p = none → Q (.ref p) (upd H p (.lst (xs ++ zs)))
theorem Inv.lstR {pins : List (Addr × Obj)} {σ : L2.St} {H : Hp} {s : Shared} {l : Addr} {xs : List V} (I : Inv X pins σ H s) (hH : Rd H l (.lst xs)) : xs.length ≤ sizeLine ∧ ∃ (its : List Value) (n : Nat), Vals xs its ∧ xs.length = its.length ∧ s.heap.get? l = some { cls := .type "list", data := .seq its.toArray n } := by
  obtain ⟨z, its, n, r, e⟩ := hH.ok I.hok
  exact ⟨z, its, n, r, r.length, e⟩
theorem op_catR : OpR X (binaryOp .Add) rCatR := by
  intro pins s σ H x y v u Q I rx ry h
  obtain ⟨l, b, xs, zs, rfl, rfl, hH, hB, hz, q⟩ := h
  cases rx
  cases ry
  obtain ⟨z, its, n, r, hl, e⟩ := Inv.lstR I hH
  obtain ⟨z2, its2, n2, r2, hl2, e2⟩ := Inv.lstR I hB
  refine PySem.P.add_list e e2 ?_ (by rw [List.size_toArray, List.size_toArray]; omega)
  have ea : its.toArray ++ its2.toArray = (its ++ its2).toArray := by simp
  rw [ea]
  exact ⟨.ref _, _, I.lnew (t' := s.toks) (r.append r2) (by rw [List.length_append]; omega), rfl, q _ I.fresh⟩
theorem den_cat : DenRL T rCatR dCat := fun x y H G d e z le rx ry ez Q k => by
  cases d with
  | lst ds =>
    cases e with
    | lst es =>
      have h' : (if ds.length + es.length ≤ 1000000 then some (ds ++ es) else none) = some z := ez
      by_cases c : ds.length + es.length ≤ 1000000
      · rw [if_pos c] at h'
        have q : ds ++ es = z := Option.some.inj h'
        subst q
        cases rx with
        | lst r1 a1 =>
          cases ry with
          | lst r2 a2 =>
            refine ⟨_, _, _, _, rfl, rfl, le.rd r1, le.rd r2, big_line (by rw [a1.length, a2.length]; exact c), fun p hp => ?_⟩
            exact k p _ _ G (.own le hp) hp upd_same (le.none hp) (a1.append a2)
      · rw [if_neg c] at h'
        cases h'
    | _ => cases ez
  | _ => cases ez
theorem do_cat : DOpL T X (binaryOp .Add) rCatR dCat := ⟨op_catR, den_cat⟩
theorem do_add : DOp T X (binaryOp .Add) (fun x y H Q => rI0 (fun i j => .int (i + j)) x y H Q ∨ rCatR x y H Q) dAdd := ⟨op_add.or op_catR, fun x y H G d e z le rx ry ez Q k => by
  cases d with
  | int i =>
    cases e with
    | int j =>
      have q : D.int (i + j) = z := Option.some.inj ez
      subst q
      cases rx
      cases ry
      exact .inl ⟨i, j, rfl, rfl, k _ H G (.refl le) (.int _)⟩
    | _ => cases ez
  | lst ds =>
    cases e with
    | lst es =>
      have h' : (if ds.length + es.length ≤ 1000000 then some (D.lst (ds ++ es)) else none) = some z := ez
      by_cases c : ds.length + es.length ≤ 1000000
      · rw [if_pos c] at h'
        have q : D.lst (ds ++ es) = z := Option.some.inj h'
        subst q
        refine .inr (den_cat x y H G (.lst ds) (.lst es) (ds ++ es) le rx ry (by show (if _ then _ else _) = _; rw [if_pos c]) Q fun p xs H' G' gr np hp gp ra => ?_)
        exact k _ _ (upd G' p (.lst xs)) (gr.show np hp gp) (.lst (.inl upd_same) (ra.mono (Le.new gp) _ _))
      · rw [if_neg c] at h'
        cases h'
    | _ => cases ez
  | _ => cases ez⟩
theorem rRep_rd : OpR X (binaryOp .Mult) (fun x y H Q => ∃ l k xs, x = .ref l ∧ y = .int k ∧ Rd H l (.lst xs) ∧ -(2 ^ 63) ≤ k ∧ k < 2 ^ 63 ∧ xs.length * k.toNat ≤ sizeLine ∧
  ∀ p, H p = none → Q (.ref p) (upd H p (.lst (List.replicate k.toNat xs).flatten))) := by
  intro pins s σ H x y v u Q I rx ry h
  obtain ⟨l, k, xs, rfl, rfl, hH, h1, h2, hz, q⟩ := h
  cases rx
  obtain ⟨t, rfl⟩ := ry
  obtain ⟨z, its, n, r, hl, e⟩ := Inv.lstR I hH
  have hlen : its.toArray.size * k.toNat ≤ sizeLine := by rw [List.size_toArray, ← hl]; exact hz
  have hcap : ¬ its.toArray.size * k.toNat > (2 ^ 63 - 1) / 8 := by
    have : (sizeLine : Nat) ≤ (2 ^ 63 - 1) / 8 := by decide
    omega
  have hfit : ¬ (!Builtin.List.listFitsIndex k) = true := by
    rw [fitsIndex_both h1 h2]
    exact Bool.false_ne_true
  have hlong : ¬ Builtin.List.listTooLong (its.toArray.size * k.toNat) = true := by
    rw [notLongL hlen]
    exact Bool.false_ne_true
  have hnew : List.foldl (fun x1 x2 => x1 ++ x2) #[] (List.replicate (if its.toArray.isEmpty = true then 0 else k.toNat) its.toArray) = (List.replicate k.toNat its).flatten.toArray := by
    have f0 : ∀ m : Nat, List.foldl (fun x1 x2 => x1 ++ x2) #[] (List.replicate m its.toArray) = (List.replicate m its).flatten.toArray := fun m => by
      have := foldl_rep its m []
      rw [List.nil_append] at this
      exact this
    rw [f0]
    cases its with
    | nil => simp
    | cons a r' => rw [if_neg (by simp)]
  refine wpAny_binaryOp_repeat_ref (T := "list") (U := "int") (by decide) ⟨_, e, rfl⟩ (fun s' => typeIs_int s' k t) noFill_list_mul F.fills_int_mul F.slot_int_rmul repeat_list F.slot_int_index.lookup
    (call_meets F.slot_int_rmul (typeIs_int s k t) F.entry_int_rmul (F.args_int_rmul_2 _ _) (int___rmul___int_list k t l its.toArray n)
      ⟨e, rfl, ⟨_, e, rfl⟩, call_meets F.slot_list_mul ⟨_, e, rfl⟩ F.entry_list_mul (F.args_list_mul_2 _ _) (AutoListH.list___mul___list_int_3 l its.toArray n k t hfit hcap hlong) ⟨e, ?_⟩⟩)
  rw [hnew]
  exact ⟨.ref _, _, I.lnew (t' := s.toks) (r.rep k.toNat) (by rw [PyProof.Rows.lm_len_rep_flat, Nat.mul_comm]; exact hz), rfl, q _ I.fresh⟩
theorem do_rep : DOpL T X (binaryOp .Mult) (fun x y H Q => ∃ l k xs, x = .ref l ∧ y = .int k ∧ Rd H l (.lst xs) ∧ -(2 ^ 63) ≤ k ∧ k < 2 ^ 63 ∧ xs.length * k.toNat ≤ sizeLine ∧
  ∀ p, H p = none → Q (.ref p) (upd H p (.lst (List.replicate k.toNat xs).flatten))) dRep := ⟨rRep_rd, fun x y H G d e z le rx ry ez Q k => by
  cases d with
  | lst ds =>
    cases e with
    | int j =>
      have h' : (if -(2 ^ 62) ≤ j ∧ j < 2 ^ 62 ∧ ds.length * j.toNat ≤ 1000000 then some (List.replicate j.toNat ds).flatten else none) = some z := ez
      by_cases c : -(2 ^ 62) ≤ j ∧ j < 2 ^ 62 ∧ ds.length * j.toNat ≤ 1000000
      · rw [if_pos c] at h'
        have q : (List.replicate j.toNat ds).flatten = z := Option.some.inj h'
        subst q
        cases rx with
        | lst r1 a1 =>
          cases ry
          refine ⟨_, j, _, rfl, rfl, le.rd r1, by omega, by omega, big_line (by rw [a1.length]; exact c.2.2), fun p hp => ?_⟩
          exact k p _ _ G (.own le hp) hp upd_same (le.none hp) (a1.rep _)
      · rw [if_neg c] at h'
        cases h'
    | _ => cases ez
  | _ => cases ez⟩
end
end DL

set_option Elab.async false
set_option linter.all false
set_option maxRecDepth 100000
set_option maxHeartbeats 4000000
namespace DL
open PySem PySem.Spec PyProof.Rows L2
/-- the built-ins that the text calls are not hidden by the module's names -/
structure Bn (mg : Str → Option Value) : Prop where
  len : mg "len" = none
  all : mg "all" = none
  any : mg "any" = none
  sum : mg "sum" = none
  abs : mg "abs" = none
  min : mg "min" = none
  max : mg "max" = none
  sorted : mg "sorted" = none
  list : mg "list" = none
  tuple : mg "tuple" = none
  set : mg "set" = none
  range : mg "range" = none
  zip : mg "zip" = none
  enumerate : mg "enumerate" = none
  isinstance : mg "isinstance" = none
  int : mg "int" = none
  bool : mg "bool" = none
  str : mg "str" = none
section
variable {K : PySem.W.Frag} {T : CT} {X : Cx} {pos : Pos}
/-! ### == -/
def py : Nat → D → PyData
  | _, .bl b => .bool b
  | _, .int i => .int i
  | n + 1, .lst ds => .list (ds.map (py n))
  | n + 1, .tup ds => .tuple (ds.map (py n))
  | _, _ => .none
theorem py_all {G : Hp} {n : Nat} (ih : ∀ (d : D) (v : V), okn n d = true → Rp T G v d → Dp K G v (py n d)) : ∀ (ds : List D) (vs : List V), ds.all (okn n) = true → RpA T G vs ds → DpAll K G vs (ds.map (py n))
  | [], _, _, h => by cases h; exact .nil
  | d :: ds, _, o, h => by
    rw [List.all_cons, Bool.and_eq_true] at o
    cases h with
    | cons a b => exact .cons (ih d _ o.1 a) (py_all ih ds _ o.2 b)
theorem py_dp {G : Hp} : ∀ (n : Nat) (d : D) (v : V), okn n d = true → Rp T G v d → Dp K G v (py n d)
  | n, .non, _, _, h => by cases h; cases n <;> exact .non
  | n, .bl b, _, _, h => by cases h; cases n <;> exact .bl b
  | n, .int i, _, _, h => by cases h; cases n <;> exact .int i
  | n, .str x, _, o, _ => by cases n <;> cases o
  | n, .obj c x, _, o, _ => by cases n <;> cases o
  | n, .scr x, _, o, _ => by cases n <;> cases o
  | 0, .lst ds, _, o, _ => by cases o
  | 0, .tup ds, _, o, _ => by cases o
  | n + 1, .lst ds, _, o, h => by
    cases h with
    | lst r a => exact .lst (.inl r) (py_all (py_dp n) ds _ o a)
  | n + 1, .tup ds, _, o, h => by
    cases h with
    | tup r a => exact .tup (.inl r) (py_all (py_dp n) ds _ o a)
theorem py_canAll {n : Nat} (ih : ∀ d : D, (py n d).canLay0 = true) : ∀ ds : List D, PyData.canLayAll0 (ds.map (py n)) = true
  | [] => rfl
  | d :: ds => by
    show ((py n d).canLay0 && PyData.canLayAll0 (ds.map (py n))) = true
    rw [ih d, py_canAll ih ds]
    rfl
theorem py_can : ∀ (n : Nat) (d : D), (py n d).canLay0 = true
  | n, .non => by cases n <;> rfl
  | n, .bl b => by cases n <;> rfl
  | n, .int i => by cases n <;> rfl
  | n, .str x => by cases n <;> rfl
  | n, .obj c x => by cases n <;> rfl
  | n, .scr x => by cases n <;> rfl
  | 0, .lst ds => rfl
  | 0, .tup ds => rfl
  | n + 1, .lst ds => py_canAll (py_can n) ds
  | n + 1, .tup ds => py_canAll (py_can n) ds
theorem py_depthAll {n : Nat} (ih : ∀ d : D, (py n d).depth ≤ n) : ∀ ds : List D, PyData.depthAll (ds.map (py n)) ≤ n
  | [] => Nat.zero_le _
  | d :: ds => by
    show max (py n d).depth (PyData.depthAll (ds.map (py n))) ≤ n
    exact Nat.max_le.mpr ⟨ih d, py_depthAll ih ds⟩
theorem py_depth : ∀ (n : Nat) (d : D), (py n d).depth ≤ n
  | n, .non => by cases n <;> exact Nat.zero_le _
  | n, .bl b => by cases n <;> exact Nat.zero_le _
  | n, .int i => by cases n <;> exact Nat.zero_le _
  | n, .str x => by cases n <;> exact Nat.zero_le _
  | n, .obj c x => by cases n <;> exact Nat.zero_le _
  | n, .scr x => by cases n <;> exact Nat.zero_le _
  | 0, .lst ds => Nat.zero_le _
  | 0, .tup ds => Nat.zero_le _
  | n + 1, .lst ds => Nat.succ_le_succ (py_depthAll (py_depth n) ds)
  | n + 1, .tup ds => Nat.succ_le_succ (py_depthAll (py_depth n) ds)
theorem py_shaped (d : D) : SeqAt.shaped (py 6 d) = true := by
  unfold SeqAt.shaped
  rw [py_can, decide_eq_true (Nat.le_trans (py_depth 6 d) (by decide))]
  rfl
theorem py_eqAll {n m : Nat} (ih : ∀ d e : D, okn n d = true → okn m e = true → PyData.eqv (py n d) (py m e) = eqd d e) : ∀ ds es : List D, ds.all (okn n) = true → es.all (okn m) = true → PyData.eqvAll (ds.map (py n)) (es.map (py m)) = eqds ds es
  | [], [], _, _ => by simp [PyData.eqvAll, eqds]
  | [], _ :: _, _, _ => by simp [PyData.eqvAll, eqds]
  | _ :: _, [], _, _ => by simp [PyData.eqvAll, eqds]
  | d :: ds, e :: es, o, o' => by
    rw [List.all_cons, Bool.and_eq_true] at o o'
    rw [List.map_cons, List.map_cons, PyData.eqvAll, eqds, ih d e o.1 o'.1, py_eqAll ih ds es o.2 o'.2]
theorem py_eq : ∀ (n m : Nat) (d e : D), okn n d = true → okn m e = true → PyData.eqv (py n d) (py m e) = eqd d e := by
  intro n
  induction n with
  | zero =>
    intro m d e o o'
    cases d <;> first | cases o | skip
    all_goals (cases m <;> cases e <;> first | cases o' | skip)
    all_goals simp [py, PyData.eqv, eqd]
  | succ n ih =>
    intro m d e o o'
    cases d <;> first | cases o | skip
    all_goals (cases m <;> cases e <;> first | cases o' | skip)
    all_goals first
      | (simp only [py, PyData.eqv, eqd]; done)
      | (rw [py, py, PyData.eqv, eqd]; exact py_eqAll (fun d e => ih _ d e) _ _ o o')
      | simp [py, PyData.eqv, eqd]
theorem do_eq (hu : X.A.units + 64 < cLine) (hK : X.K = K := by rfl) : DOp T X (compareOp .Eq) (rEqD K) dEq := by
  cases hK
  refine ⟨op_eqD hu, fun x y H G d e z le rx ry ez Q k => ?_⟩
  unfold dEq at ez
  by_cases c : (okn 6 d && okn 6 e) = true
  · rw [if_pos c] at ez
    rw [Bool.and_eq_true] at c
    have q : D.bl (eqd d e) = z := Option.some.inj ez
    subst q
    refine ⟨py 6 d, py 6 e, py_dp 6 d x c.1 (rx.mono le _ _), py_dp 6 e y c.2 (ry.mono le _ _), py_shaped d, py_shaped e, ?_⟩
    rw [py_eq 6 6 d e c.1 c.2]
    exact k _ H G (.refl le) (.bl _)
  · rw [if_neg c] at ez
    cases ez
theorem ne_gen {d e : D} (h : ¬ ∃ ns, d = .scr ns ∧ e = .lst []) : dNe d e = if okn 6 d && okn 6 e then some (.bl (!eqd d e)) else none := by
  unfold dNe
  split
  · exact (h ⟨_, rfl, rfl⟩).elim
  · rfl
theorem do_ne (hu : X.A.units + 64 < cLine) (hK : X.K = K := by rfl) (hT : T.kf = K := by rfl) : DOp T X (compareOp .NotEq) (rNeD K) dNe := by
  cases hK
  refine ⟨op_neD hu, fun x y H G d e z le rx ry ez Q k => ?_⟩
  by_cases hs : ∃ ns, d = .scr ns ∧ e = .lst []
  · obtain ⟨ns, rfl, rfl⟩ := hs
    have q : D.bl (!ns.isEmpty) = z := Option.some.inj ez
    subst q
    cases rx with
    | scr r =>
      cases ry with
      | @lst _ xs _ r2 a2 =>
        cases a2
        have key : ∀ ms : List Int, DpAll X.K H (ms.map V.int) (ms.map PyData.int) := by
          intro ms
          induction ms with
          | nil => exact .nil
          | cons m ms ih => exact .cons (.int m) ih
        have hc : ∀ ms : List Int, PyData.canLayAll0 (ms.map PyData.int) = true := by
          intro ms
          induction ms with
          | nil => rfl
          | cons m ms ih => show (true && PyData.canLayAll0 (ms.map PyData.int)) = true; rw [ih]; rfl
        have hdp : ∀ ms : List Int, PyData.depthAll (ms.map PyData.int) = 0 := by
          intro ms
          induction ms with
          | nil => rfl
          | cons m ms ih => show max 0 (PyData.depthAll (ms.map PyData.int)) = 0; rw [ih]; rfl
        have sq := le.sq r
        rw [hT] at sq
        refine ⟨.list (ns.map .int), .list [], .lst sq (key ns), .lst (.inl (le.rd r2)) .nil, ?_, by decide, ?_⟩
        · unfold SeqAt.shaped
          have e1 : (PyData.list (ns.map PyData.int)).canLay0 = true := hc ns
          have e2 : (PyData.list (ns.map PyData.int)).depth ≤ 64 := by
            show PyData.depthAll (ns.map PyData.int) + 1 ≤ 64
            rw [hdp]; decide
          rw [e1, decide_eq_true e2]; rfl
        · have e3 : PyData.eqv (.list (ns.map PyData.int)) (.list []) = ns.isEmpty := by
            cases ns with
            | nil => simp [PyData.eqv, PyData.eqvAll]
            | cons n ns => simp [PyData.eqv, PyData.eqvAll]
          rw [e3]
          exact k _ H G (.refl le) (.bl _)
  · rw [ne_gen hs] at ez
    by_cases c : (okn 6 d && okn 6 e) = true
    · rw [if_pos c] at ez
      rw [Bool.and_eq_true] at c
      have q : D.bl (!eqd d e) = z := Option.some.inj ez
      subst q
      refine ⟨py 6 d, py 6 e, py_dp 6 d x c.1 (rx.mono le _ _), py_dp 6 e y c.2 (ry.mono le _ _), py_shaped d, py_shaped e, ?_⟩
      rw [py_eq 6 6 d e c.1 c.2]
      exact k _ H G (.refl le) (.bl _)
    · rw [if_neg c] at ez
      cases ez
/-! ### in, is -/
theorem flat_rp {G : Hp} {v : V} {d : D} (f : flatD d = true) (h : Rp T G v d) : flatV v = true := by
  cases d <;> first | cases f | skip
  all_goals (cases h; rfl)
theorem flat_all {G : Hp} : ∀ {ds : List D} {vs : List V}, ds.all flatD = true → RpA T G vs ds → vs.all flatV = true
  | [], _, _, h => by cases h; rfl
  | d :: ds, _, o, h => by
    rw [List.all_cons, Bool.and_eq_true] at o
    cases h with
    | cons a b => rw [List.all_cons, flat_rp o.1 a, flat_all o.2 b]; rfl
theorem eqV_rp {G : Hp} {v w : V} {d e : D} (f : flatD d = true) (f' : flatD e = true) (h : Rp T G v d) (h' : Rp T G w e) : eqV v w = eqd d e := by
  cases d <;> first | cases f | skip
  all_goals (cases e <;> first | cases f' | skip)
  all_goals (cases h; cases h'; first | rfl | simp [eqV, eqd])
theorem in_rp {G : Hp} {x : V} {d : D} (f : flatD d = true) (h : Rp T G x d) : ∀ {ds : List D} {vs : List V}, ds.all flatD = true → RpA T G vs ds → inV x vs = inD d ds
  | [], _, _, k => by cases k; rfl
  | e :: ds, _, o, k => by
    rw [List.all_cons, Bool.and_eq_true] at o
    cases k with
    | cons a b =>
      have ih := in_rp f h o.2 b
      unfold inV inD at ih ⊢
      rw [List.any_cons, List.any_cons, ih, eqV_rp o.1 f a h]
theorem do_in (hK : X.K = K := by rfl) : DOp T X (compareOp .In) (rIn K false) dIn := by
  cases hK
  refine ⟨op_in_seq, fun x y H G d e z le rx ry ez Q k => ?_⟩
  cases e with
  | lst es =>
    have ez' : (if flatD d && es.all flatD then some (D.bl (inD d es)) else none) = some z := by cases d <;> exact ez
    by_cases c : (flatD d && es.all flatD) = true
    · rw [if_pos c] at ez'
      rw [Bool.and_eq_true] at c
      have q : D.bl (inD d es) = z := Option.some.inj ez'
      subst q
      cases ry with
      | lst r a =>
        refine ⟨_, _, rfl, .inl (.inl (le.rd r)), flat_rp c.1 rx, flat_all c.2 a, ?_⟩
        show Q (.bl (if false = true then _ else inV x _)) H
        rw [if_neg Bool.false_ne_true, in_rp c.1 rx c.2 a]
        exact k _ H G (.refl le) (.bl _)
    · rw [if_neg c] at ez'
      cases ez'
  | tup es =>
    have ez' : (if flatD d && es.all flatD then some (D.bl (inD d es)) else none) = some z := by cases d <;> exact ez
    by_cases c : (flatD d && es.all flatD) = true
    · rw [if_pos c] at ez'
      rw [Bool.and_eq_true] at c
      have q : D.bl (inD d es) = z := Option.some.inj ez'
      subst q
      cases ry with
      | tup r a =>
        refine ⟨_, _, rfl, .inr (.inl (le.rd r)), flat_rp c.1 rx, flat_all c.2 a, ?_⟩
        show Q (.bl (if false = true then _ else inV x _)) H
        rw [if_neg Bool.false_ne_true, in_rp c.1 rx c.2 a]
        exact k _ H G (.refl le) (.bl _)
    · rw [if_neg c] at ez'
      cases ez'
  | _ => cases d <;> cases ez
theorem do_isN : DOp T X (compareOp .Is) (fun x y H Q => y = .non ∧ Q (.bl (decide (x = .non))) H) dIsN := ⟨op_isN, fun x y H G d e z le rx ry ez Q k => by
  cases e with
  | non =>
    have q : D.bl (isNon d) = z := by cases d <;> exact Option.some.inj ez
    subst q
    cases ry
    refine ⟨rfl, ?_⟩
    have e2 : decide (x = .non) = isNon d := by cases rx <;> rfl
    rw [e2]
    exact k _ H G (.refl le) (.bl _)
  | _ => cases d <;> cases ez⟩
theorem do_notN : DOp T X (compareOp .IsNot) (fun x y H Q => y = .non ∧ Q (.bl (!decide (x = .non))) H) dNotN := ⟨op_notN, fun x y H G d e z le rx ry ez Q k => by
  cases e with
  | non =>
    have q : D.bl (!isNon d) = z := by cases d <;> exact Option.some.inj ez
    subst q
    cases ry
    refine ⟨rfl, ?_⟩
    have e2 : decide (x = .non) = isNon d := by cases rx <;> rfl
    rw [e2]
    exact k _ H G (.refl le) (.bl _)
  | _ => cases d <;> cases ez⟩
theorem do_isB : DOp T X (compareOp .Is) rIsB dIsB := ⟨op_isBl, fun x y H G d e z le rx ry ez Q k => by
  cases d with
  | bl i =>
    cases e with
    | bl j =>
      have q : D.bl (decide (i = j)) = z := Option.some.inj ez
      subst q
      cases rx
      cases ry
      exact ⟨i, j, rfl, rfl, k _ H G (.refl le) (.bl _)⟩
    | _ => cases ez
  | _ => cases ez⟩
theorem do_notB : DOp T X (compareOp .IsNot) rNotB dNotB := ⟨op_notBl, fun x y H G d e z le rx ry ez Q k => by
  cases d with
  | bl i =>
    cases e with
    | bl j =>
      have q : D.bl (!decide (i = j)) = z := Option.some.inj ez
      subst q
      cases rx
      cases ry
      exact ⟨i, j, rfl, rfl, k _ H G (.refl le) (.bl _)⟩
    | _ => cases ez
  | _ => cases ez⟩
/-! ### places, slices -/
variable {a b c e : Expr} {ta tb tc te : TE} {fa fb fc f : Fe} {es : List Expr} {tr : TA} {fr : Fl}
theorem atI_rp {G : Hp} {ds : List D} {vs : List V} {i : Int} {d : D} (h : RpA T G vs ds) (q : ((ixD ds.length i).bind fun j => ds[j]?) = some d) : ∃ v, atI vs i = some v ∧ Rp T G v d := by
  obtain ⟨j, e1, e2⟩ := bind_some q
  obtain ⟨v, h1, h2⟩ := h.get e2
  refine ⟨v, ?_, h2⟩
  unfold atI
  have e3 : ixN vs.length i = some j := by rw [h.length]; exact e1
  rw [e3]
  exact h1
def rIx2 (K : PySem.W.Frag) : R2 := fun x y H Q => rIxL K x y H Q ∨ rIxT K x y H Q
theorem den_ix : DenR T (rIx2 K) dIx := fun x y H G d e z le rx ry ez Q k => by
  cases d with
  | lst ds =>
    cases e with
    | int i =>
      cases rx with
      | lst r a =>
        cases ry
        obtain ⟨v, h1, h2⟩ := atI_rp a ez
        exact .inl ⟨_, _, i, v, rfl, rfl, .inl (le.rd r), h1, k v H G (.refl le) h2⟩
    | _ => cases ez
  | tup ds =>
    cases e with
    | int i =>
      cases rx with
      | tup r a =>
        cases ry
        obtain ⟨v, h1, h2⟩ := atI_rp a ez
        exact .inr ⟨_, _, i, v, rfl, rfl, .inl (le.rd r), h1, k v H G (.refl le) h2⟩
    | _ => cases ez
  | _ => cases ez
theorem de_ix (ha : DE K T X a ta fa) (hb : DE K T X b tb fb) (hs : PlainIx b := by exact fun _ _ => rfl) : DE K T X (.Subscript a b pos) (tOp (rIx2 K) ta tb) (fB dIx fa fb) := by
  obtain ⟨rfl, pa, da⟩ := ha
  exact ⟨rfl, pe_ix (ix_list.or ix_tup) pa hb.pe hs, den_op da hb.den den_ix⟩
theorem do_none : DO K T X none tNoPart oNone := ⟨po_none, fun σ H G g d le er ef Q k => by
  have q : (none : Option Int) = d := Option.some.inj ef
  subst q
  exact k H G (.refl le)⟩
theorem do_some (h : DE K T X e te f) : DO K T X (some e) (tPart te) (oSome f) := ⟨po_some h.pe, fun σ H G g d le er ef Q k => by
  obtain ⟨x, e1, ef⟩ := bind_some ef
  obtain ⟨i, e2, ef⟩ := map_some ef
  subst ef
  refine h.den σ H G g x le er e1 _ fun v H1 G1 g1 r1 => ?_
  cases x with
  | int j =>
    have q : j = i := Option.some.inj e2
    subst q
    cases r1
    exact ⟨j, rfl, k H1 G1 g1⟩
  | _ => cases e2⟩
theorem sIxD_eq (n d : Nat) (o : Option Int) : HT.sIx n d o = sIxD n d o := by
  cases o with
  | none => rfl
  | some i => rfl
theorem cut_rp {G : Hp} {ds : List D} {vs : List V} (h : RpA T G vs ds) (lo hi : Option Int) : RpA T G (cutV vs lo hi) (cutD ds lo hi) := by
  unfold cutV cutD
  rw [sIxD_eq, sIxD_eq, h.length]
  exact (h.drop _).take _
theorem dl_slice {lo hi : Option Expr} {tl th : TO} {fl fh : Fo} {p2 : Pos} (ha : DE K T X a ta fa) (hl : DO K T X lo tl fl) (hh : DO K T X hi th fh) (hT : T.kf = K := by rfl) : DLs K T X (.Subscript a (.Slice lo hi none p2) pos) (tSl (rSlL K) ta tl th) (fSlice fa fl fh) := by
  obtain ⟨rfl, pa, da⟩ := ha
  refine ⟨rfl, pe_slice sl_list pa hl.pe hh.pe, fun σ H G g d le er ef Q k => ?_⟩
  obtain ⟨x, e1, ef⟩ := bind_some ef
  obtain ⟨xs, e2, ef⟩ := bind_some ef
  obtain ⟨l, e3, ef⟩ := bind_some ef
  obtain ⟨h, e4, ef⟩ := bind_some ef
  have q : cutD xs l h = d := Option.some.inj ef
  subst q
  refine da σ H G g _ le er e1 _ fun v H1 G1 g1 r1 => ?_
  refine hl.den σ H1 G1 g l g1.le (er.mono g1.gg) e3 _ fun H2 G2 g2 => ?_
  refine hh.den σ H2 G2 g h g2.le (er.mono (g1.trans g2).gg) e4 _ fun H3 G3 g3 => ?_
  have r3 := r1.mono (g2.trans g3).gg _ _
  have gr := (g1.trans g2).trans g3
  cases x with
  | lst ds =>
    have q : ds = xs := Option.some.inj e2
    subst q
    cases r3 with
    | lst r aa =>
      refine ⟨_, _, rfl, .inl (g3.le.rd r), fun p hp => ?_⟩
      exact k p _ _ G3 (gr.trans (.own g3.le hp)) (gr.hh.none hp) upd_same (g3.le.none hp) (cut_rp aa _ _)
  | scr ns =>
    have q : ns.map D.int = xs := Option.some.inj e2
    subst q
    cases r3 with
    | scr r =>
      refine ⟨_, ns.map V.int, rfl, by rw [← hT]; exact g3.le.sq r, fun p hp => ?_⟩
      exact k p _ _ G3 (gr.trans (.own g3.le hp)) (gr.hh.none hp) upd_same (g3.le.none hp) (cut_rp (rpa_ints ns) _ _)
  | _ => cases e2
theorem dl_rev {kk : Nat} {p1 p2 p3 : Pos} (ha : DE K T X a ta fa) : DLs K T X (.Subscript a (.Slice none none (some (.UnaryOp .USub (.Constant (.int 1) kk p1) p2)) p3) pos) (tRevL K ta) (fRev fa) := by
  obtain ⟨rfl, pa, da⟩ := ha
  refine ⟨rfl, pe_revL pa, fun σ H G g d le er ef Q k => ?_⟩
  obtain ⟨x, e1, ef⟩ := bind_some ef
  obtain ⟨xs, e2, ef⟩ := map_some ef
  subst ef
  cases x with
  | lst ds =>
    have q : ds = xs := Option.some.inj e2
    subst q
    refine da σ H G g _ le er e1 _ fun v H1 G1 g1 r1 => ?_
    cases r1 with
    | lst r aa =>
      refine ⟨_, _, rfl, .inl (g1.le.rd r), fun p hp => ?_⟩
      exact k p _ _ G1 (g1.trans (.own g1.le hp)) (g1.hh.none hp) upd_same (g1.le.none hp) aa.reverse
  | _ => cases e2
end
end DL

set_option Elab.async false
set_option linter.all false
set_option maxRecDepth 100000
set_option maxHeartbeats 4000000
namespace DL
open PySem PySem.Spec PyProof.Rows L2
section
variable {K : PySem.W.Frag} {T : CT} {X : Cx} {pos p : Pos}
variable {a b c e : Expr} {ta tb tc te : TE} {fa fb fc f : Fe} {es : List Expr} {tr : TA} {fr : Fl}
theorem one_inv {op : D → Option D} {ds : List D} {z : D} (h : one op ds = some z) : ∃ d, ds = [d] ∧ op d = some z := by
  match ds, h with
  | [d], h => exact ⟨d, rfl, h⟩
theorem oneL_inv {op : D → Option (List D)} {ds : List D} {z : List D} (h : oneL op ds = some z) : ∃ d, ds = [d] ∧ op d = some z := by
  match ds, h with
  | [d], h => exact ⟨d, rfl, h⟩
theorem two_inv {op : D → D → Option D} {ds : List D} {z : D} (h : two op ds = some z) : ∃ d e, ds = [d, e] ∧ op d e = some z := by
  match ds, h with
  | [d, e], h => exact ⟨d, e, rfl, h⟩
theorem rpa1 {G : Hp} {vs : List V} {d : D} (h : RpA T G vs [d]) : ∃ v, vs = [v] ∧ Rp T G v d := by
  cases h with
  | cons a b => cases b; exact ⟨_, rfl, a⟩
theorem rpa2 {G : Hp} {vs : List V} {d e : D} (h : RpA T G vs [d, e]) : ∃ v w, vs = [v, w] ∧ Rp T G v d ∧ Rp T G w e := by
  cases h with
  | cons a b =>
    cases b with
    | cons a' b' => cases b'; exact ⟨_, _, rfl, a, a'⟩
/-! ### len, all, any, sum, abs, min, max, int -/
theorem de_len (B : Bn X.mg) (ha : DA K T X (e :: es) tr fr) (hg : Gl X "len" := by rfl) (hT : T.kf = K := by rfl) (he : starEach (e :: es) X.env = (false, eval e X.env) :: starEach es X.env := by rfl) (hpl : (backTo pos (starEach es X.env)).any (·.1) = false := by rfl) :
    DE K T X (.Call (.Name "len" p) (e :: es) [] pos) (tCB (fun xs H Q => ∃ p ys, xs = [.ref p] ∧ (SqL K H p ys ∨ SqT K H p ys) ∧ Q (.int ys.length) H) tr) (fCall (one dLen) fr) := by
  obtain ⟨rfl, pa, da⟩ := ha
  exact de_callB call_len_seq (fun xs H G ds z le ra ez Q k => by
    obtain ⟨d, rfl, ez⟩ := one_inv ez
    obtain ⟨v, rfl, r⟩ := rpa1 ra
    cases d with
    | lst ds =>
      have q : D.int ds.length = z := Option.some.inj ez
      subst q
      cases r with
      | lst r aa =>
        refine ⟨_, _, rfl, .inl (.inl (le.rd r)), ?_⟩
        rw [aa.length]
        exact k _ H G (.refl le) (.int _)
    | tup ds =>
      have q : D.int ds.length = z := Option.some.inj ez
      subst q
      cases r with
      | tup r aa =>
        refine ⟨_, _, rfl, .inr (.inl (le.rd r)), ?_⟩
        rw [aa.length]
        exact k _ H G (.refl le) (.int _)
    | scr ns =>
      have q : D.int ns.length = z := Option.some.inj ez
      subst q
      cases r with
      | scr r =>
        refine ⟨_, ns.map V.int, rfl, .inl (by rw [← hT]; exact le.sq r), ?_⟩
        rw [List.length_map]
        exact k _ H G (.refl le) (.int _)
    | _ => cases ez) B.len PySem.boot_len ⟨rfl, pa, da⟩ hg (by decide) (by decide) he hpl
theorem de_all (B : Bn X.mg) (ha : DA K T X (e :: es) tr fr) (hg : Gl X "all" := by rfl) (hc : X.calm = true := by rfl) (he : starEach (e :: es) X.env = (false, eval e X.env) :: starEach es X.env := by rfl) (hpl : (backTo pos (starEach es X.env)).any (·.1) = false := by rfl) :
    DE K T X (.Call (.Name "all" p) (e :: es) [] pos) (tCB (rAll K) tr) (fCall (one dAll) fr) := by
  obtain ⟨rfl, pa, da⟩ := ha
  exact de_callB (cr_all hc) (fun xs H G ds z le ra ez Q k => by
    obtain ⟨d, rfl, ez⟩ := one_inv ez
    obtain ⟨v, rfl, r⟩ := rpa1 ra
    cases d with
    | lst ds =>
      obtain ⟨bs, e1, e2⟩ := map_some ez
      subst e2
      cases r with
      | lst r aa =>
        have q := aa.bools e1
        subst q
        exact ⟨_, bs, rfl, .inl (le.rd r), k _ H G (.refl le) (.bl _)⟩
    | _ => cases ez) B.all PyProof.Rows.boot_all ⟨rfl, pa, da⟩ hg (by decide) (by decide) he hpl
theorem de_any (B : Bn X.mg) (ha : DA K T X (e :: es) tr fr) (hg : Gl X "any" := by rfl) (hc : X.calm = true := by rfl) (he : starEach (e :: es) X.env = (false, eval e X.env) :: starEach es X.env := by rfl) (hpl : (backTo pos (starEach es X.env)).any (·.1) = false := by rfl) :
    DE K T X (.Call (.Name "any" p) (e :: es) [] pos) (tCB (rAny K) tr) (fCall (one dAny) fr) := by
  obtain ⟨rfl, pa, da⟩ := ha
  exact de_callB (cr_any hc) (fun xs H G ds z le ra ez Q k => by
    obtain ⟨d, rfl, ez⟩ := one_inv ez
    obtain ⟨v, rfl, r⟩ := rpa1 ra
    cases d with
    | lst ds =>
      obtain ⟨bs, e1, e2⟩ := map_some ez
      subst e2
      cases r with
      | lst r aa =>
        have q := aa.bools e1
        subst q
        exact ⟨_, bs, rfl, .inl (le.rd r), k _ H G (.refl le) (.bl _)⟩
    | _ => cases ez) B.any PyProof.Rows.boot_any ⟨rfl, pa, da⟩ hg (by decide) (by decide) he hpl
theorem de_sum (B : Bn X.mg) (ha : DA K T X (e :: es) tr fr) (hg : Gl X "sum" := by rfl) (hc : X.calm = true := by rfl) (he : starEach (e :: es) X.env = (false, eval e X.env) :: starEach es X.env := by rfl) (hpl : (backTo pos (starEach es X.env)).any (·.1) = false := by rfl) :
    DE K T X (.Call (.Name "sum" p) (e :: es) [] pos) (tCB (rSum K) tr) (fCall (one dSum) fr) := by
  obtain ⟨rfl, pa, da⟩ := ha
  exact de_callB (cr_sum hc) (fun xs H G ds z le ra ez Q k => by
    obtain ⟨d, rfl, ez⟩ := one_inv ez
    obtain ⟨v, rfl, r⟩ := rpa1 ra
    cases d with
    | lst ds =>
      obtain ⟨bs, e1, e2⟩ := map_some ez
      subst e2
      cases r with
      | lst r aa =>
        have q := aa.intsD e1
        subst q
        exact ⟨_, bs, rfl, .inl (le.rd r), k _ H G (.refl le) (.int _)⟩
    | _ => cases ez) B.sum PyProof.Rows.boot_sum ⟨rfl, pa, da⟩ hg (by decide) (by decide) he hpl
theorem de_abs (B : Bn X.mg) (ha : DA K T X (e :: es) tr fr) (hg : Gl X "abs" := by rfl) (he : starEach (e :: es) X.env = (false, eval e X.env) :: starEach es X.env := by rfl) (hpl : (backTo pos (starEach es X.env)).any (·.1) = false := by rfl) :
    DE K T X (.Call (.Name "abs" p) (e :: es) [] pos) (tCB (fun xs H Q => ∃ i, xs = [.int i] ∧ Q (.int (if i < 0 then -i else i)) H) tr) (fCall (one dAbs) fr) :=
  de_callB call_abs (fun xs H G ds z le ra ez Q k => by
    obtain ⟨d, rfl, ez⟩ := one_inv ez
    obtain ⟨v, rfl, r⟩ := rpa1 ra
    cases d with
    | int i =>
      have q : D.int (if i < 0 then -i else i) = z := Option.some.inj ez
      subst q
      cases r
      exact ⟨i, rfl, k _ H G (.refl le) (.int _)⟩
    | _ => cases ez) B.abs PyProof.Rows.boot_abs ha hg (by decide) (by decide) he hpl
theorem de_min (B : Bn X.mg) (ha : DA K T X (e :: es) tr fr) (hg : Gl X "min" := by rfl) (hc : X.calm = true := by rfl) (he : starEach (e :: es) X.env = (false, eval e X.env) :: starEach es X.env := by rfl) (hpl : (backTo pos (starEach es X.env)).any (·.1) = false := by rfl) :
    DE K T X (.Call (.Name "min" p) (e :: es) [] pos) (tCB (fun xs H Q => ∃ i j, xs = [.int i, .int j] ∧ Q (.int (if j < i then j else i)) H) tr) (fCall (two dMin) fr) :=
  de_callB (call_min2 hc) (fun xs H G ds z le ra ez Q k => by
    obtain ⟨d, e, rfl, ez⟩ := two_inv ez
    obtain ⟨v, w, rfl, r, r2⟩ := rpa2 ra
    cases d with
    | int i =>
      cases e with
      | int j =>
        have q : D.int (if j < i then j else i) = z := Option.some.inj ez
        subst q
        cases r
        cases r2
        exact ⟨i, j, rfl, k _ H G (.refl le) (.int _)⟩
      | _ => cases ez
    | _ => cases ez) B.min PyProof.Rows.boot_min ha hg (by decide) (by decide) he hpl
theorem de_max (B : Bn X.mg) (ha : DA K T X (e :: es) tr fr) (hg : Gl X "max" := by rfl) (hc : X.calm = true := by rfl) (he : starEach (e :: es) X.env = (false, eval e X.env) :: starEach es X.env := by rfl) (hpl : (backTo pos (starEach es X.env)).any (·.1) = false := by rfl) :
    DE K T X (.Call (.Name "max" p) (e :: es) [] pos) (tCB (fun xs H Q => ∃ i j, xs = [.int i, .int j] ∧ Q (.int (if j > i then j else i)) H) tr) (fCall (two dMax) fr) :=
  de_callB (call_max2 hc) (fun xs H G ds z le ra ez Q k => by
    obtain ⟨d, e, rfl, ez⟩ := two_inv ez
    obtain ⟨v, w, rfl, r, r2⟩ := rpa2 ra
    cases d with
    | int i =>
      cases e with
      | int j =>
        have q : D.int (if j > i then j else i) = z := Option.some.inj ez
        subst q
        cases r
        cases r2
        exact ⟨i, j, rfl, k _ H G (.refl le) (.int _)⟩
      | _ => cases ez
    | _ => cases ez) B.max PyProof.Rows.boot_max ha hg (by decide) (by decide) he hpl
theorem de_toInt (B : Bn X.mg) (ha : DA K T X (e :: es) tr fr) (hg : Gl X "int" := by rfl) (he : starEach (e :: es) X.env = (false, eval e X.env) :: starEach es X.env := by rfl) (hpl : (backTo pos (starEach es X.env)).any (·.1) = false := by rfl) :
    DE K T X (.Call (.Name "int" p) (e :: es) [] pos) (tCB (fun xs H Q => (∃ i, xs = [.int i] ∧ Q (.int i) H) ∨ ∃ k, xs = [.bl k] ∧ Q (.int (if k then 1 else 0)) H) tr) (fCall (one dInt) fr) :=
  de_callTy call_int1 (fun xs H G ds z le ra ez Q k => by
    obtain ⟨d, rfl, ez⟩ := one_inv ez
    obtain ⟨v, rfl, r⟩ := rpa1 ra
    cases d with
    | int i =>
      have q : D.int i = z := Option.some.inj ez
      subst q
      cases r
      exact .inl ⟨i, rfl, k _ H G (.refl le) (.int _)⟩
    | bl i =>
      have q : D.int (if i then 1 else 0) = z := Option.some.inj ez
      subst q
      cases r
      exact .inr ⟨i, rfl, k _ H G (.refl le) (.int _)⟩
    | _ => cases ez) B.int PyProof.Rows.boot_int ha hg (by decide) (by decide) he hpl
/-! ### list(x), tuple(x), sorted(x) -/
theorem dl_list (B : Bn X.mg) (ha : DA K T X (e :: es) tr fr) (hg : Gl X "list" := by rfl) (he : starEach (e :: es) X.env = (false, eval e X.env) :: starEach es X.env := by rfl) (hpl : (backTo pos (starEach es X.env)).any (·.1) = false := by rfl) :
    DLs K T X (.Call (.Name "list" p) (e :: es) [] pos) (tCB (fun xs H Q => ∃ p ys, xs = [.ref p] ∧ (SqL K H p ys ∨ SqT K H p ys) ∧ ∀ l, H l = none → Q (.ref l) (upd H l (.lst ys))) tr) (fCallL (oneL dList) fr) := by
  obtain ⟨rfl, pa, da⟩ := ha
  exact dl_callTy call_list_of (fun xs H G ds z le ra ez Q k => by
    obtain ⟨d, rfl, ez⟩ := oneL_inv ez
    obtain ⟨v, rfl, r⟩ := rpa1 ra
    cases d with
    | lst ds =>
      have q : ds = z := Option.some.inj ez
      subst q
      cases r with
      | lst r aa => exact ⟨_, _, rfl, .inl (.inl (le.rd r)), fun l hl => k l _ _ G (.own le hl) hl upd_same (le.none hl) aa⟩
    | tup ds =>
      have q : ds = z := Option.some.inj ez
      subst q
      cases r with
      | tup r aa => exact ⟨_, _, rfl, .inr (.inl (le.rd r)), fun l hl => k l _ _ G (.own le hl) hl upd_same (le.none hl) aa⟩
    | _ => cases ez) B.list PyProof.Rows.boot_list ⟨rfl, pa, da⟩ hg (by decide) (by decide) he hpl
theorem de_tuple (B : Bn X.mg) (ha : DA K T X (e :: es) tr fr) (hg : Gl X "tuple" := by rfl) (he : starEach (e :: es) X.env = (false, eval e X.env) :: starEach es X.env := by rfl) (hpl : (backTo pos (starEach es X.env)).any (·.1) = false := by rfl) :
    DE K T X (.Call (.Name "tuple" p) (e :: es) [] pos) (tCB (fun xs H Q => ∃ p ys, xs = [.ref p] ∧ ((SqL K H p ys ∧ ∀ l, H l = none → Q (.ref l) (upd H l (.tup ys))) ∨ (SqT K H p ys ∧ Q (.ref p) H))) tr) (fCall (one dTuple) fr) := by
  obtain ⟨rfl, pa, da⟩ := ha
  exact de_callTy call_tuple_of (fun xs H G ds z le ra ez Q k => by
    obtain ⟨d, rfl, ez⟩ := one_inv ez
    obtain ⟨v, rfl, r⟩ := rpa1 ra
    cases d with
    | lst ds =>
      have q : D.tup ds = z := Option.some.inj ez
      subst q
      cases r with
      | lst r aa => exact ⟨_, _, rfl, .inl ⟨.inl (le.rd r), fun l hl => k _ _ _ (.new le hl) (.tup (.inl upd_same) (aa.mono (Le.new (le.none hl)) _ _))⟩⟩
    | tup ds =>
      have q : D.tup ds = z := Option.some.inj ez
      subst q
      cases r with
      | tup r aa => exact ⟨_, _, rfl, .inr ⟨.inl (le.rd r), k _ H G (.refl le) (.tup r aa)⟩⟩
    | _ => cases ez) B.tuple PyProof.Rows.boot_tuple ⟨rfl, pa, da⟩ hg (by decide) (by decide) he hpl
theorem insI_perm (x : Int) : ∀ l : List Int, (insI x l).Perm (x :: l)
  | [] => List.Perm.refl _
  | y :: r => by
    unfold insI
    split
    · exact List.Perm.refl _
    · exact (List.Perm.cons y (insI_perm x r)).trans (List.Perm.swap x y r)
theorem sortI_perm : ∀ l : List Int, (sortI l).Perm l
  | [] => List.Perm.refl _
  | x :: r => (insI_perm x (sortI r)).trans (List.Perm.cons x (sortI_perm r))
theorem insI_sorted (x : Int) : ∀ l : List Int, l.Pairwise (· ≤ ·) → (insI x l).Pairwise (· ≤ ·)
  | [], _ => List.pairwise_singleton _ _
  | y :: r, h => by
    unfold insI
    have h' := List.pairwise_cons.mp h
    split
    · rename_i hxy
      exact List.pairwise_cons.mpr ⟨fun z hz => by
        rcases List.mem_cons.mp hz with e | e
        · rw [e]; exact hxy
        · exact Int.le_trans hxy (h'.1 z e), h⟩
    · rename_i hxy
      refine List.pairwise_cons.mpr ⟨fun z hz => ?_, insI_sorted x r h'.2⟩
      have hz' := (insI_perm x r).mem_iff.mp hz
      rcases List.mem_cons.mp hz' with e | e
      · rw [e]; omega
      · exact h'.1 z e
theorem sortI_sorted : ∀ l : List Int, (sortI l).Pairwise (· ≤ ·)
  | [] => List.Pairwise.nil
  | x :: r => insI_sorted x _ (sortI_sorted r)
theorem sorted_unique : ∀ {l m : List Int}, l.Perm m → l.Pairwise (· ≤ ·) → m.Pairwise (· ≤ ·) → l = m
  | [], m, p, _, _ => by rw [List.nil_perm.mp p]
  | x :: l, [], p, _, _ => by
    have := p.length_eq
    simp at this
  | x :: l, y :: m, p, hl, hm => by
    have hl' := List.pairwise_cons.mp hl
    have hm' := List.pairwise_cons.mp hm
    have e : x = y := by
      have h1 : y ∈ x :: l := p.mem_iff.mpr List.mem_cons_self
      have h2 : x ∈ y :: m := p.mem_iff.mp List.mem_cons_self
      rcases List.mem_cons.mp h1 with q | q
      · exact q.symm
      · rcases List.mem_cons.mp h2 with q' | q'
        · exact q'
        · have := hl'.1 y q
          have := hm'.1 x q'
          omega
    subst e
    rw [sorted_unique (List.Perm.cons_inv p) hl'.2 hm'.2]
theorem dl_sorted (B : Bn X.mg) (ha : DA K T X (e :: es) tr fr) (hg : Gl X "sorted" := by rfl) (he : starEach (e :: es) X.env = (false, eval e X.env) :: starEach es X.env := by rfl) (hpl : (backTo pos (starEach es X.env)).any (·.1) = false := by rfl) :
    DLs K T X (.Call (.Name "sorted" p) (e :: es) [] pos) (tCB (rSorted K) tr) (fCallL (oneL dSorted) fr) := by
  obtain ⟨rfl, pa, da⟩ := ha
  exact dl_callB cr_sorted (fun xs H G ds z le ra ez Q k => by
    obtain ⟨d, rfl, ez⟩ := oneL_inv ez
    obtain ⟨v, rfl, r⟩ := rpa1 ra
    cases d with
    | lst ds =>
      obtain ⟨ns, e1, e2⟩ := bind_some ez
      by_cases c : ns.length < 64
      · rw [if_pos c] at e2
        have q : (sortI ns).map D.int = z := Option.some.inj e2
        subst q
        cases r with
        | lst r aa =>
          have q := aa.intsD e1
          subst q
          refine ⟨_, ns, rfl, .inl (le.rd r), c, fun ns' l hp hs hl => ?_⟩
          have q : ns' = sortI ns := sorted_unique (hp.trans (sortI_perm ns).symm) hs (sortI_sorted ns)
          subst q
          exact k l _ _ G (.own le hl) hl upd_same (le.none hl) (rpa_ints _)
      · rw [if_neg c] at e2
        cases e2
    | _ => cases ez) B.sorted PyProof.Rows.boot_sorted ⟨rfl, pa, da⟩ hg (by decide) (by decide) he hpl
/-! ### list(range(n)), list(range(a, b)) -/
def fLRg (fa : Fe) : Fl := iRange fa
theorem rg_eq (n : Int) : rgV 0 n = (List.range n.toNat).map fun (i : Nat) => V.int (0 + (i : Int)) := by unfold rgV; rw [Int.sub_zero]
theorem rg_rp {G : Hp} (lo : Int) (n : Nat) : RpA T G ((List.range n).map fun (i : Nat) => V.int (lo + (i : Int))) (rangeD lo n) := by
  unfold rangeD
  induction (List.range n) with
  | nil => exact .nil
  | cons x r ih => exact .cons (.int _) ih
theorem dl_listRange (B : Bn X.mg) {q1 q2 : Pos} (ha : DE K T X a ta fa) (hg : Gl X "list" := by rfl) (hg2 : Gl X "range" := by rfl) (hc : X.calm = true := by rfl) (na : starEach [a] X.env = (false, eval a X.env) :: starEach [] X.env := by rfl)
    (nb : starEach [Expr.Call (.Name "range" q1) [a] [] q2] X.env = (false, eval (Expr.Call (.Name "range" q1) [a] [] q2) X.env) :: starEach [] X.env := by rfl) :
    DLs K T X (.Call (.Name "list" p) [.Call (.Name "range" q1) [a] [] q2] [] pos) (tLstRg (tRg1 ta)) (iRange fa) :=
  ⟨ha.hK, pe_listRg hc hg B.list (prg_1 hg2 B.range ha.pe na) nb, fun σ H G g d le er ef Q k => by
    obtain ⟨x, e1, ef⟩ := bind_some ef
    obtain ⟨n, e2, ef⟩ := bind_some ef
    by_cases c : -1000000 ≤ n ∧ n ≤ 1000000
    · rw [if_pos c] at ef
      have q : rangeD 0 n.toNat = d := Option.some.inj ef
      subst q
      refine ha.den σ H G g x le er e1 _ fun v H1 G1 g1 r1 => ?_
      cases x with
      | int m =>
        have q : m = n := Option.some.inj e2
        subst q
        cases r1
        refine ⟨m, rfl, ⟨by omega, by omega, by omega, by omega, ?_⟩, fun l hl => ?_⟩
        · have h24 : (2 : Nat) ^ 24 = 16777216 := by decide
          rw [h24]
          omega
        · rw [rg_eq]
          exact k l _ _ G1 (g1.trans (.own g1.le hl)) (g1.hh.none hl) upd_same (g1.le.none hl) (rg_rp 0 _)
      | _ => cases e2
    · rw [if_neg c] at ef
      cases ef⟩
end
end DL

set_option Elab.async false
set_option linter.all false
set_option maxRecDepth 100000
set_option maxHeartbeats 4000000
namespace DL
open PySem PySem.Spec PyProof.Rows L2
section
variable {K : PySem.W.Frag} {T : CT} {X : Cx} {pos p : Pos}
variable {a b c e : Expr} {ta tb tc te : TE} {fa fb fc f : Fe} {es : List Expr} {tr : TA} {fr : Fl}
/-! ### isinstance against a built-in type -/
def Ty.nm : Ty → String
  | .int => "int"
  | .bool => "bool"
  | .list => "list"
  | .tuple => "tuple"
  | .str => "str"
theorem tyx_list {K : PySem.W.Frag} {H : Hp} {a : Addr} {xs : List V} (r : Rd H a (.lst xs)) : TyX K H (.ref a) (.type "list") := by
  rcases r with r | ⟨o, r⟩
  · exact .base (.lst r)
  · exact .base (.frz r)
theorem tyx_tup {K : PySem.W.Frag} {H : Hp} {a : Addr} {xs : List V} (r : Rd H a (.tup xs)) : TyX K H (.ref a) (.type "tuple") := by
  rcases r with r | ⟨o, r⟩
  · exact .base (.tup r)
  · exact .fTuple r
theorem kit_ok (n : String) {d d0 : D} (h0 : ∀ t, kitB n (Ty.nm t) = some (isTy t d0)) (h : ∀ t, isTy t d = isTy t d0) (t : Ty) {K : PySem.W.Frag} : PySem.W.kitOne K (.type n) (.type t.nm) = some (isTy t d) := by
  rw [h t]
  exact kit_ty (h0 t)
theorem isT_kit {K : PySem.W.Frag} {H G : Hp} {v : V} {d : D} (t : Ty) (le : Le G H) (h : Rp T G v d) (o : isObj d = false) : ∃ tv, TyX K H v tv ∧ PySem.W.kitOne K tv (.type t.nm) = some (isTy t d) := by
  cases d with
  | non => cases h; exact ⟨_, .base .non, kit_ok _ (d0 := .non) (by intro t; cases t <;> decide +kernel) (fun _ => rfl) t⟩
  | bl x => cases h; exact ⟨_, .base (.bl x), kit_ok _ (d0 := .bl true) (by intro t; cases t <;> decide +kernel) (by intro t; cases t <;> rfl) t⟩
  | int x => cases h; exact ⟨_, .base (.int x), kit_ok _ (d0 := .int 0) (by intro t; cases t <;> decide +kernel) (by intro t; cases t <;> rfl) t⟩
  | str x => cases h; exact ⟨_, .base (.str x), kit_ok _ (d0 := .str "") (by intro t; cases t <;> decide +kernel) (by intro t; cases t <;> rfl) t⟩
  | lst ds =>
    cases h with
    | lst r a => exact ⟨_, tyx_list (le.rd r), kit_ok _ (d0 := .lst []) (by intro t; cases t <;> decide +kernel) (by intro t; cases t <;> rfl) t⟩
  | tup ds =>
    cases h with
    | tup r a => exact ⟨_, tyx_tup (le.rd r), kit_ok _ (d0 := .tup []) (by intro t; cases t <;> decide +kernel) (by intro t; cases t <;> rfl) t⟩
  | obj _ _ => cases o
  | scr _ => cases o
theorem de_isT (t : Ty) {x : Str} {q : Pos} (B : Bn X.mg) (hm : X.mg x = none) (hv : bootBuiltins x = some (.type t.nm)) (ha : DE K T X a ta fa) (hg : Gl X "isinstance" := by rfl) (hg2 : Gl X x := by rfl) (hn : x ≠ "__name__" := by decide) (hdb : (x == ("__debug__" : Str)) = false := by decide)
    (h1 : starEach [a, Expr.Name x q] X.env = (false, eval a X.env) :: starEach [Expr.Name x q] X.env := by rfl) (h2 : starEach [Expr.Name x q] X.env = (false, eval (.Name x q) X.env) :: starEach [] X.env := by rfl) (hpl : (backTo pos (starEach [Expr.Name x q] X.env)).any (·.1) = false := by rfl) :
    DE K T X (.Call (.Name "isinstance" p) [a, .Name x q] [] pos) (tCB (rIsi K) (tCons ta (tCons (tC (.ty t.nm)) tNil))) (fIs t fa) := by
  obtain ⟨rfl, pa, da⟩ := ha
  refine ⟨rfl, pe_callB call_isi hg B.isinstance PyProof.Rows.boot_isinstance (pa_cons pa (pa_cons (pe_bltn hg2 hm hv rfl hn hdb) pa_nil h2) h1) (by decide) (by decide) h1 hpl, fun σ H G g d le er ef Q k => ?_⟩
  obtain ⟨y, e1, ef⟩ := bind_some ef
  unfold dIs at ef
  cases o : isObj y with
  | true => rw [o] at ef; cases ef
  | false =>
    rw [o] at ef
    have q : D.bl (isTy t y) = d := Option.some.inj ef
    subst q
    refine da σ H G g y le er e1 _ fun v H1 G1 g1 r1 => ?_
    obtain ⟨tv, h1, h2⟩ := isT_kit (K := X.K) t g1.le r1 o
    exact ⟨v, _, tv, _, _, rfl, .ty _, h1, h2, k _ H1 G1 g1 (.bl _)⟩
/-! ### len(set(xs)) of intsD -/
theorem dupI_mem (x : Int) : ∀ l : List Int, x ∈ dupI l ↔ x ∈ l
  | [] => Iff.rfl
  | y :: r => by
    unfold dupI
    have ih := dupI_mem x r
    split
    · rename_i h
      rw [ih, List.mem_cons]
      refine ⟨.inr, fun q => ?_⟩
      rcases q with q | q
      · rw [q]; exact List.elem_iff.mp h
      · exact q
    · rw [List.mem_cons, List.mem_cons, ih]
theorem dupI_nodup : ∀ l : List Int, (dupI l).Nodup
  | [] => List.nodup_nil
  | y :: r => by
    unfold dupI
    split
    · exact dupI_nodup r
    · rename_i h
      exact List.nodup_cons.mpr ⟨fun q => h (List.elem_iff.mpr ((dupI_mem y r).mp q)), dupI_nodup r⟩
theorem firstMet_mem (g : Nat → Int) (x : Int) : ∀ n, x ∈ firstMet g n ↔ ∃ i, i < n ∧ g i = x
  | 0 => by
    constructor
    · intro h; exact absurd h (by show x ∉ ([] : List Int); simp)
    · rintro ⟨i, hi, _⟩; omega
  | n + 1 => by
    rw [firstMet_succ]
    have ih := firstMet_mem g x n
    show x ∈ (if (firstMet g n).any (· == g n) then firstMet g n else firstMet g n ++ [g n]) ↔ _
    split
    · rename_i h
      obtain ⟨y, hy, ey⟩ := List.any_eq_true.mp h
      have ey' : y = g n := eq_of_beq ey
      constructor
      · intro q
        obtain ⟨i, hi, e⟩ := ih.mp q
        exact ⟨i, by omega, e⟩
      · rintro ⟨i, hi, e⟩
        by_cases hin : i = n
        · subst hin
          rw [← e, ← ey']; exact hy
        · exact ih.mpr ⟨i, by omega, e⟩
    · rw [List.mem_append, List.mem_singleton, ih]
      constructor
      · rintro (⟨i, hi, e⟩ | e)
        · exact ⟨i, by omega, e⟩
        · exact ⟨n, by omega, e.symm⟩
      · rintro ⟨i, hi, e⟩
        by_cases hin : i = n
        · subst hin
          exact .inr e.symm
        · exact .inl ⟨i, by omega, e⟩
theorem firstMet_nd (g : Nat → Int) : ∀ n, (firstMet g n).Nodup
  | 0 => List.nodup_nil
  | n + 1 => by
    rw [firstMet_succ]
    show (if (firstMet g n).any (· == g n) then firstMet g n else firstMet g n ++ [g n]).Nodup
    split
    · exact firstMet_nd g n
    · rename_i h
      refine List.nodup_append.mpr ⟨firstMet_nd g n, List.pairwise_singleton _ _, fun x hx y hy e => ?_⟩
      rw [List.mem_singleton] at hy
      subst hy
      exact h (List.any_eq_true.mpr ⟨x, hx, by rw [e]; exact beq_self_eq_true _⟩)
theorem nodup_len_le : ∀ {l m : List Int}, l.Nodup → (∀ x, x ∈ l → x ∈ m) → l.length ≤ m.length
  | [], m, _, _ => Nat.zero_le _
  | x :: r, m, hl, h => by
    have hl' := List.nodup_cons.mp hl
    have hx : x ∈ m := h x List.mem_cons_self
    have hle := nodup_len_le (l := r) (m := m.erase x) hl'.2 fun y hy => by
      have hne : y ≠ x := fun e => hl'.1 (e ▸ hy)
      exact (List.mem_erase_of_ne hne).mpr (h y (List.mem_cons_of_mem _ hy))
    have hlen := List.length_erase_of_mem hx
    have hpos : 0 < m.length := List.length_pos_of_mem hx
    rw [List.length_cons]
    omega
theorem nodup_len_eq {l m : List Int} (hl : l.Nodup) (hm : m.Nodup) (h : ∀ x, x ∈ l ↔ x ∈ m) : l.length = m.length :=
  Nat.le_antisymm (nodup_len_le hl fun x hx => (h x).mp hx) (nodup_len_le hm fun x hx => (h x).mpr hx)
theorem firstMet_len (ns : List Int) : (firstMet (fun i => ns.getD i 0) ns.length).length = (dupI ns).length := by
  refine nodup_len_eq (firstMet_nd _ _) (dupI_nodup ns) fun x => ?_
  rw [firstMet_mem, dupI_mem]
  constructor
  · rintro ⟨i, hi, e⟩
    rw [List.getD_eq_getElem?_getD, List.getElem?_eq_getElem hi] at e
    have e' : ns[i] = x := e
    rw [← e']
    exact List.getElem_mem hi
  · intro h
    obtain ⟨i, hi, e⟩ := List.getElem_of_mem h
    refine ⟨i, hi, ?_⟩
    show ns.getD i 0 = x
    rw [List.getD_eq_getElem?_getD, List.getElem?_eq_getElem hi]
    exact e
theorem dupI_len_le : ∀ l : List Int, (dupI l).length ≤ l.length
  | [] => Nat.le_refl _
  | y :: r => by
    unfold dupI
    have := dupI_len_le r
    split
    · rw [List.length_cons]; omega
    · rw [List.length_cons, List.length_cons]; omega
def tLenSetA (K : PySem.W.Frag) (ta : TE) : TE := fun σ H Q => ta σ H fun x H1 => ∃ (l : Addr) (ns : List Int), x = .ref l ∧ SqL K H1 l (ns.map V.int) ∧ ns.length ≤ 4000 ∧ Q (.int (dupI ns).length) H1
theorem pe_lenSetA {p p2 q pos : Pos} (hg : Gl X "len") (hm : X.mg "len" = none) (hg2 : Gl X "set") (hm2 : X.mg "set" = none) (ha : PE X a ta) (hc : X.calm = true := by rfl)
    (na : starEach [a] X.env = (false, eval a X.env) :: starEach [] X.env := by rfl) (nb : starEach [Expr.Call (.Name "set" p2) [a] [] q] X.env = (false, eval (Expr.Call (.Name "set" p2) [a] [] q) X.env) :: starEach [] X.env := by rfl) : PE X (.Call (.Name "len" p) [.Call (.Name "set" p2) [a] [] q] [] pos) (tLenSetA X.K ta) := by
  refine ⟨fun pins s σ H Q I h => ?_⟩
  refine Call_ (ld_blt I hg hm boot_len ?_)
  refine PyProof.Rows.callWith_builtin1 (PyProof.Rows.args_cons ?_ nb) nb rfl
  refine Call_ (ld_blt I hg2 hm2 PyProof.Rows.boot_set ?_)
  refine PyProof.Rows.callWith_type1 (PyProof.Rows.args_cons (thn (ha.run pins s σ H _ I h) fun v s1 ⟨x, H1, I1, r1, q1⟩ => PyProof.Rows.args_nil ?_) na) na rfl
  obtain ⟨l, ns, rfl, hq, hl, q1⟩ := q1
  cases r1
  obtain ⟨its, r, pl, hz⟩ := I1.list hq
  have hlen : its.toArray.size = ns.length := by rw [List.size_toArray, ← r.length, List.length_map]
  refine call_set_list (I1.ok.hd hc) pl.isList (by simpa using RZ.intsAre_vals r) (by rw [hlen]; unfold scanBound; omega) fun h' tk hS hk => ?_
  refine PyProof.Rows.args_nil ?_
  rw [hlen] at hS
  have hfl := firstMet_len ns
  have hdl := dupI_len_le ns
  obtain ⟨o, es, ep, t, ho, hex, hd, _, _, _, hf, hn⟩ := hS
  have I2 : Inv X pins σ H1 { s1 with heap := h', toks := tk } := I1.kept fun b o e => hk b o (Heap.lt_size e) e
  exact call_len_set ho hex hd hf (by rw [hn] <;> omega) ⟨.int (dupI ns).length, H1, I2.tok _, ⟨_, by rw [hn, hfl]⟩, q1⟩
theorem de_lenSet (B : Bn X.mg) {q1 q2 : Pos} (ha : DE K T X a ta fa) (hg : Gl X "len" := by rfl) (hg2 : Gl X "set" := by rfl) (hc : X.calm = true := by rfl) (na : starEach [a] X.env = (false, eval a X.env) :: starEach [] X.env := by rfl)
    (nb : starEach [Expr.Call (.Name "set" q1) [a] [] q2] X.env = (false, eval (Expr.Call (.Name "set" q1) [a] [] q2) X.env) :: starEach [] X.env := by rfl) :
    DE K T X (.Call (.Name "len" p) [.Call (.Name "set" q1) [a] [] q2] [] pos) (tLenSetA K ta) (fU dLenSet fa) := by
  obtain ⟨rfl, pa, da⟩ := ha
  refine ⟨rfl, pe_lenSetA hg B.len hg2 B.set pa hc na nb, fun σ H G g d le er ef Q k => ?_⟩
  obtain ⟨x, e1, ef⟩ := bind_some ef
  refine da σ H G g x le er e1 _ fun v H1 G1 g1 r1 => ?_
  cases x with
  | lst ds =>
    obtain ⟨ns, e2, e3⟩ := bind_some ef
    by_cases c : ns.length ≤ 4000
    · rw [if_pos c] at e3
      have q : D.int (dupI ns).length = d := Option.some.inj e3
      subst q
      cases r1 with
      | lst r aa =>
        have q := aa.intsD e2
        subst q
        exact ⟨_, ns, rfl, .inl (g1.le.rd r), c, k _ H1 G1 g1 (.int _)⟩
    · rw [if_neg c] at e3
      cases e3
  | _ => cases ef
/-! ### xs.index(y), xs.count(y) -/
theorem posD_get {x : D} : ∀ {ys : List D} {j : Nat}, posD x ys = some j → ∃ z, ys[j]? = some z ∧ eqd z x = true ∧ ∀ (m : Nat) (w : D), m < j → ys[m]? = some w → eqd w x = false
  | [], j, h => by cases h
  | y :: r, j, h => by
    unfold posD at h
    cases c : eqd y x with
    | true =>
      rw [c] at h
      have q : 0 = j := Option.some.inj h
      subst q
      exact ⟨y, rfl, c, fun m w hm _ => absurd hm (Nat.not_lt_zero _)⟩
    | false =>
      rw [c] at h
      obtain ⟨i, e1, e2⟩ := map_some h
      subst e2
      obtain ⟨z, h1, h2, h3⟩ := posD_get e1
      refine ⟨z, by rw [List.getElem?_cons_succ]; exact h1, h2, fun m w hm hw => ?_⟩
      cases m with
      | zero =>
        have q : y = w := by simpa using hw
        rw [← q]; exact c
      | succ m => exact h3 m w (by omega) (by simpa using hw)
theorem de_index (ho : DE K T X a ta fa) (hb : DE K T X b tb fb) {mp : Pos} (hbase : attributeBase a "index" X.env (eval a X.env) = eval a X.env := by rfl) (hs : starEach [b] X.env = (false, eval b X.env) :: starEach [] X.env := by rfl) (hpl : (backTo pos (starEach [] X.env)).any (·.1) = false := by rfl) (hline : (mp.endLine == pos.line) = true := by rfl)
    (hfew : ((backTo pos (starEach [b] X.env)).all (fun x => !x.1) && (backToKw pos (keywordEach [] X.env)).all (fun x => x.1.isSome) && decide ([b].length + ([] : List Keyword).length + (if ([] : List Keyword).isEmpty then 0 else 1) < 30)) = true := by rfl) :
    DE K T X (.Call (.Attribute a "index" mp) [b] [] pos) (tBM K "list" (rIndex K) ta (tCons tb tNil)) (fB dIndex fa fb) := by
  obtain ⟨rfl, pa, da⟩ := ho
  refine ⟨rfl, pe_bm PySem.F.plainAttrs_list PySem.F.slot_list_index PySem.F.type_list_index mt_index pa (pa_cons hb.pe pa_nil hs) hbase hfew hline hs hpl, fun σ H G g d le er ef Q k => ?_⟩
  obtain ⟨x, e1, ef⟩ := bind_some ef
  obtain ⟨y, e2, ef⟩ := bind_some ef
  refine da σ H G g x le er e1 _ fun v H1 G1 g1 r1 => ?_
  cases x with
  | lst ds =>
    have r1' := r1
    cases r1' with
    | lst r aa =>
      refine ⟨.inl ⟨rfl, _, .inl (g1.le.rd r)⟩, ?_⟩
      refine hb.den σ H1 G1 g y g1.le (er.mono g1.gg) e2 _ fun w H2 G2 g2 r2 => ?_
      have ef' : (if flatD y && ds.all flatD then (posD y ds).map fun (j : Nat) => D.int j else none) = some d := ef
      by_cases c : (flatD y && ds.all flatD) = true
      · rw [if_pos c] at ef'
        rw [Bool.and_eq_true] at c
        obtain ⟨j, e3, e4⟩ := map_some ef'
        subst e4
        obtain ⟨z, h1, h2, h3⟩ := posD_get e3
        have aa2 := aa.mono g2.gg _ _
        obtain ⟨zv, z1, z2⟩ := aa2.get h1
        have fz : flatD z = true := List.all_eq_true.mp c.2 z (List.mem_of_getElem? h1)
        refine ⟨_, _, w, j, zv, rfl, rfl, .inl ((g1.trans g2).le.rd ((g2.gg).rd r)), flat_rp c.1 r2, flat_all c.2 aa2, z1, by rw [eqV_rp fz c.1 z2 r2]; exact h2, fun m z' hm hz' => ?_, k _ H2 G2 (g1.trans g2) (.int _)⟩
        have hml : m < ds.length := by
          have := (List.getElem?_eq_some_iff.mp hz').1
          rw [aa.length] at this
          exact this
        have hd : ds[m]? = some ds[m] := List.getElem?_eq_getElem hml
        obtain ⟨zv', y1, y2⟩ := aa2.get hd
        have q : zv' = z' := Option.some.inj (y1.symm.trans hz')
        subst q
        have fz' : flatD ds[m] = true := List.all_eq_true.mp c.2 _ (List.getElem_mem hml)
        rw [eqV_rp fz' c.1 y2 r2]
        exact h3 m _ hm hd
      · rw [if_neg c] at ef'
        cases ef'
  | _ => cases ef
theorem de_count (ho : DE K T X a ta fa) (hb : DE K T X b tb fb) {mp : Pos} (hbase : attributeBase a "count" X.env (eval a X.env) = eval a X.env := by rfl) (hs : starEach [b] X.env = (false, eval b X.env) :: starEach [] X.env := by rfl) (hpl : (backTo pos (starEach [] X.env)).any (·.1) = false := by rfl) (hline : (mp.endLine == pos.line) = true := by rfl)
    (hfew : ((backTo pos (starEach [b] X.env)).all (fun x => !x.1) && (backToKw pos (keywordEach [] X.env)).all (fun x => x.1.isSome) && decide ([b].length + ([] : List Keyword).length + (if ([] : List Keyword).isEmpty then 0 else 1) < 30)) = true := by rfl) :
    DE K T X (.Call (.Attribute a "count" mp) [b] [] pos) (tBM K "list" (rCntI K) ta (tCons tb tNil)) (fB dCount fa fb) := by
  obtain ⟨rfl, pa, da⟩ := ho
  refine ⟨rfl, pe_bm PySem.F.plainAttrs_list PySem.F.slot_list_count PySem.F.type_list_count mt_lcount pa (pa_cons hb.pe pa_nil hs) hbase hfew hline hs hpl, fun σ H G g d le er ef Q k => ?_⟩
  obtain ⟨x, e1, ef⟩ := bind_some ef
  obtain ⟨y, e2, ef⟩ := bind_some ef
  refine da σ H G g x le er e1 _ fun v H1 G1 g1 r1 => ?_
  cases x with
  | lst ds =>
    cases r1 with
    | lst r aa =>
      refine ⟨.inl ⟨rfl, _, .inl (g1.le.rd r)⟩, ?_⟩
      refine hb.den σ H1 G1 g y g1.le (er.mono g1.gg) e2 _ fun w H2 G2 g2 r2 => ?_
      cases y with
      | int i =>
        obtain ⟨ns, e3, e4⟩ := map_some ef
        subst e4
        have q := aa.intsD e3
        subst q
        cases r2
        exact ⟨_, ns, i, rfl, rfl, .inl (g2.le.rd (g2.gg.rd r)), k _ H2 G2 (g1.trans g2) (.int _)⟩
      | _ => cases ef
  | _ => cases ef
end
end DL

set_option Elab.async false
set_option linter.all false
set_option maxRecDepth 100000
set_option maxHeartbeats 4000000
namespace DL
open PySem PySem.Spec PyProof.Rows L2
/-- what is walked gives these, whatever else the heap does -/
def ItOk (T : CT) (J : It) (G1 : Hp) (ds : List D) : Prop := ∀ H2 G2 : Hp, Le G1 G2 → Le G2 H2 → (∀ (i : Nat) (d : D), ds[i]? = some d → J.go i H2 ∧ ∀ x H3, J.yld i H2 x H3 → ∃ G3, Grow H2 G2 H3 G3 ∧ Rp T G3 x d) ∧ ∀ i, ds.length ≤ i → J.stop i H2
def DenI (T : CT) (wi : TI) (fi : Fl) : Prop := ∀ (σ : L2.St) (H G : Hp) (g : Env) (ds : List D), Le G H → EnvR T G σ g → fi g = some ds → ∀ R : It → Hp → Prop, (∀ J H1 G1, Grow H G H1 G1 → ItOk T J G1 ds → R J H1) → wi σ H R
structure DI (K : PySem.W.Frag) (T : CT) (X : Cx) (tg e : Expr) (wi : TI) (fi : Fl) : Prop where
  hK : X.K = K
  pe : PI X tg e wi
  den : DenI T wi fi
/-! ### targets -/
def setsV (σ : L2.St) : List (Nat × V) → L2.St
  | [] => σ
  | p :: r => setsV (σ.set p.1 (some p.2)) r
structure DG (K : PySem.W.Frag) (T : CT) (X : Cx) (tg : Expr) (js : List Nat) (g : TG) (gd : Ftg) : Prop where
  pe : PG X tg g
  js : ∀ d as, gd d = some as → as.map (·.1) = js
  den : ∀ (σ : L2.St) (H G : Hp) (v : V) (d : D) (as : List (Nat × D)), Le G H → Rp T G v d → gd d = some as → ∀ Q : L2.St → Hp → Prop, (∀ ps : List (Nat × V), ps.map (·.1) = as.map (·.1) → RpA T G (ps.map (·.2)) (as.map (·.2)) → Q (setsV σ ps) H) → g v σ H Q
/-- a list of lists, of its own -/
inductive L2s (T : CT) (H G : Hp) : List Addr → List (List D) → Prop
  | nil : L2s T H G [] []
  | cons {q : Addr} {qs : List Addr} {xs : List V} {ds : List D} {dss : List (List D)} : H q = some (.lst xs) → RpA T G xs ds → L2s T H G qs dss → L2s T H G (q :: qs) (ds :: dss)
def DenL2 (T : CT) (te : TE) (f : Fll) : Prop := ∀ (σ : L2.St) (H G : Hp) (g : Env) (dss : List (List D)), Le G H → EnvR T G σ g → f g = some dss → ∀ Q : VK,
  (∀ p qs H' G', Grow H G H' G' → H' p = some (.lst (qs.map V.ref)) → (p :: qs).Nodup → (∀ a ∈ p :: qs, H a = none ∧ G' a = none) → L2s T H' G' qs dss → Q (.ref p) H') → te σ H Q
structure DL2s (K : PySem.W.Frag) (T : CT) (X : Cx) (e : Expr) (t : TE) (f : Fll) : Prop where
  hK : X.K = K
  pe : PE X e t
  den : DenL2 T t f
section
variable {K : PySem.W.Frag} {T : CT} {X : Cx} {pos p : Pos}
variable {a b c e tg : Expr} {ta tb tc te : TE} {fa fb fc f : Fe} {es : List Expr} {tr : TA} {fr : Fl}
theorem itok_list {G : Hp} {q : Addr} {xs : List V} {ds : List D} (r : Rd G q (.lst xs)) (ra : RpA T G xs ds) : ItOk T (Itl K q) G ds := fun H2 G2 l1 l2 => by
  have sq : SqL K H2 q xs := .inl ((l1.trans l2).rd r)
  refine ⟨fun i d hd => ?_, fun i hi => ⟨xs, sq, by rw [ra.length]; exact hi⟩⟩
  obtain ⟨v, h1, h2⟩ := ra.get hd
  refine ⟨⟨xs, v, sq, h1⟩, fun x H3 y => ?_⟩
  obtain ⟨rfl, y⟩ := y
  have e : v = x := Option.some.inj (h1.symm.trans (y xs sq))
  subst e
  exact ⟨G2, .refl l2, h2.mono l1 _ _⟩
theorem itok_tup {G : Hp} {q : Addr} {xs : List V} {ds : List D} (r : Rd G q (.tup xs)) (ra : RpA T G xs ds) : ItOk T (Itt K q) G ds := fun H2 G2 l1 l2 => by
  have sq : SqT K H2 q xs := .inl ((l1.trans l2).rd r)
  refine ⟨fun i d hd => ?_, fun i hi => ⟨xs, sq, by rw [ra.length]; exact hi⟩⟩
  obtain ⟨v, h1, h2⟩ := ra.get hd
  refine ⟨⟨xs, v, sq, h1⟩, fun x H3 y => ?_⟩
  obtain ⟨rfl, y⟩ := y
  have e : v = x := Option.some.inj (h1.symm.trans (y xs sq))
  subst e
  exact ⟨G2, .refl l2, h2.mono l1 _ _⟩
theorem rangeD_get {lo : Int} {n i : Nat} {d : D} (h : (rangeD lo n)[i]? = some d) : i < n ∧ d = .int (lo + i) := by
  unfold rangeD at h
  rw [List.getElem?_map] at h
  obtain ⟨k, h1, h2⟩ := map_some h
  obtain ⟨h3, h4⟩ := List.getElem?_eq_some_iff.mp h1
  rw [List.length_range] at h3
  rw [List.getElem_range] at h4
  exact ⟨h3, by rw [← h2, ← h4]⟩
theorem rangeD_len (lo : Int) (n : Nat) : (rangeD lo n).length = n := by unfold rangeD; rw [List.length_map, List.length_range]
theorem itok_range {G : Hp} (lo : Int) (n : Nat) : ItOk T (Itr lo n) G (rangeD lo n) := fun H2 G2 l1 l2 => by
  refine ⟨fun i d hd => ?_, fun i hi => by rw [rangeD_len] at hi; exact hi⟩
  obtain ⟨h1, rfl⟩ := rangeD_get hd
  refine ⟨h1, fun x H3 y => ?_⟩
  obtain ⟨rfl, rfl⟩ := y
  exact ⟨G2, .refl l2, .int _⟩
theorem pairs_get : ∀ {xs ys : List D} {i : Nat} {d : D}, (pairs xs ys)[i]? = some d → ∃ x y, xs[i]? = some x ∧ ys[i]? = some y ∧ d = .tup [x, y]
  | [], ys, i, d, h => by simp [pairs] at h
  | x :: xs, [], i, d, h => by simp [pairs] at h
  | x :: xs, y :: ys, 0, d, h => by
    have q : D.tup [x, y] = d := by simpa [pairs] using h
    exact ⟨x, y, rfl, rfl, q.symm⟩
  | x :: xs, y :: ys, i + 1, d, h => by
    obtain ⟨u, v, h1, h2, h3⟩ := pairs_get (xs := xs) (ys := ys) (i := i) (d := d) (by simpa [pairs] using h)
    exact ⟨u, v, by simpa using h1, by simpa using h2, h3⟩
theorem pairs_len : ∀ (xs ys : List D), (pairs xs ys).length = min xs.length ys.length
  | [], ys => by simp [pairs]
  | x :: xs, [] => by simp [pairs]
  | x :: xs, y :: ys => by
    show (pairs xs ys).length + 1 = min (xs.length + 1) (ys.length + 1)
    rw [pairs_len xs ys]
    omega
theorem itok_zip {G : Hp} {q q2 : Addr} {xs ys : List V} {ds es : List D} (r : Rd G q (.lst xs)) (ra : RpA T G xs ds) (r2 : Rd G q2 (.lst ys)) (ra2 : RpA T G ys es) : ItOk T (Itz K q q2) G (pairs ds es) := fun H2 G2 l1 l2 => by
  have sq : SqL K H2 q xs := .inl ((l1.trans l2).rd r)
  have sq2 : SqL K H2 q2 ys := .inl ((l1.trans l2).rd r2)
  refine ⟨fun i d hd => ?_, fun i hi => ⟨xs, ys, sq, sq2, by rw [pairs_len] at hi; rw [ra.length, ra2.length]; omega⟩⟩
  obtain ⟨x, y, h1, h2, rfl⟩ := pairs_get hd
  obtain ⟨v, v1, v2⟩ := ra.get h1
  obtain ⟨w, w1, w2⟩ := ra2.get h2
  refine ⟨⟨xs, ys, v, w, sq, sq2, v1, w1⟩, fun z H3 y => ?_⟩
  obtain ⟨t, x', y', rfl, ht, rfl, f1, f2⟩ := y
  have e1 : v = x' := Option.some.inj (v1.symm.trans (f1 xs sq))
  have e2 : w = y' := Option.some.inj (w1.symm.trans (f2 ys sq2))
  subst e1 e2
  have l3 : Le G (upd G2 t (.tup [v, w])) := l1.trans (Le.new (l2.none ht))
  exact ⟨upd G2 t (.tup [v, w]), .new l2 ht, .tup (.inl upd_same) (.cons (v2.mono l3 _ _) (.cons (w2.mono l3 _ _) .nil))⟩
theorem enum_get : ∀ {xs : List D} {n i : Nat} {d : D}, (enumFrom n xs)[i]? = some d → ∃ x, xs[i]? = some x ∧ d = .tup [.int ((n + i : Nat) : Int), x]
  | [], n, i, d, h => by simp [enumFrom] at h
  | x :: xs, n, 0, d, h => by
    have q : D.tup [.int (n : Int), x] = d := by simpa [enumFrom] using h
    exact ⟨x, rfl, q.symm⟩
  | x :: xs, n, i + 1, d, h => by
    obtain ⟨u, h1, h3⟩ := enum_get (xs := xs) (n := n + 1) (i := i) (d := d) (by simpa [enumFrom] using h)
    exact ⟨u, by simpa using h1, by rw [h3, show n + 1 + i = n + (i + 1) by omega]⟩
theorem enum_len : ∀ (xs : List D) (n : Nat), (enumFrom n xs).length = xs.length
  | [], n => rfl
  | x :: xs, n => by
    show (enumFrom (n + 1) xs).length + 1 = xs.length + 1
    rw [enum_len xs (n + 1)]
theorem itok_enum {G : Hp} {q : Addr} {xs : List V} {ds : List D} (r : Rd G q (.lst xs)) (ra : RpA T G xs ds) : ItOk T (Ite K q) G (enumFrom 0 ds) := fun H2 G2 l1 l2 => by
  have sq : SqL K H2 q xs := .inl ((l1.trans l2).rd r)
  refine ⟨fun i d hd => ?_, fun i hi => ⟨xs, sq, by rw [enum_len] at hi; rw [ra.length]; exact hi⟩⟩
  obtain ⟨x, h1, rfl⟩ := enum_get hd
  obtain ⟨v, v1, v2⟩ := ra.get h1
  refine ⟨⟨xs, v, sq, v1⟩, fun z H3 y => ?_⟩
  obtain ⟨t, x', rfl, ht, rfl, f1⟩ := y
  have e1 : v = x' := Option.some.inj (v1.symm.trans (f1 xs sq))
  subst e1
  have l3 : Le G (upd G2 t (.tup [.int ((i : Nat) : Int), v])) := l1.trans (Le.new (l2.none ht))
  refine ⟨upd G2 t (.tup [.int ((i : Nat) : Int), v]), .new l2 ht, .tup (.inl upd_same) ?_⟩
  rw [Nat.zero_add]
  exact .cons (.int _) (.cons (v2.mono l3 _ _) .nil)
theorem pi_or {w1 w2 : TI} (h1 : PI X tg e w1) (h2 : PI X tg e w2) : PI X tg e (fun σ H R => w1 σ H R ∨ w2 σ H R) := by
  refine ⟨fun pins s σ H R I h => ?_⟩
  rcases h with h | h
  · exact h1.run pins s σ H R I h
  · exact h2.run pins s σ H R I h
theorem di_seq (h : DE K T X e te f) : DI K T X tg e (fun σ H R => iList K te σ H R ∨ iTup K te σ H R) (iSeq f) := by
  obtain ⟨rfl, pe, de⟩ := h
  refine ⟨rfl, pi_or (pi_list pe) (pi_tup pe), fun σ H G g ds le er ef R k => ?_⟩
  obtain ⟨x, e1, ef⟩ := bind_some ef
  cases x with
  | lst xs =>
    have q : xs = ds := Option.some.inj ef
    subst q
    refine .inl (de σ H G g _ le er e1 _ fun v H1 G1 g1 r1 => ?_)
    cases r1 with
    | lst r aa => exact ⟨_, rfl, ⟨_, .inl (g1.le.rd r)⟩, k _ H1 G1 g1 (itok_list r aa)⟩
  | tup xs =>
    have q : xs = ds := Option.some.inj ef
    subst q
    refine .inr (de σ H G g _ le er e1 _ fun v H1 G1 g1 r1 => ?_)
    cases r1 with
    | tup r aa => exact ⟨_, rfl, ⟨_, .inl (g1.le.rd r)⟩, k _ H1 G1 g1 (itok_tup r aa)⟩
  | _ => cases ef
theorem di_range (B : Bn X.mg) (h : DE K T X a ta fa) (hg : Gl X "range" := by rfl) (hs : starEach [a] X.env = [(false, eval a X.env)] := by rfl) (hs' : starEach [a] X.env = (false, eval a X.env) :: starEach [] X.env := by rfl) : DI K T X tg (.Call (.Name "range" p) [a] [] pos) (iRng1 (tCons ta tNil)) (iRange fa) :=
  ⟨h.hK, pi_range1 hg B.range (pa_cons h.pe pa_nil hs') hs, fun σ H G g ds le er ef R k => by
    obtain ⟨x, e1, ef⟩ := bind_some ef
    obtain ⟨n, e2, ef⟩ := bind_some ef
    by_cases c : -1000000 ≤ n ∧ n ≤ 1000000
    · rw [if_pos c] at ef
      have q : rangeD 0 n.toNat = ds := Option.some.inj ef
      subst q
      refine h.den σ H G g x le er e1 _ fun v H1 G1 g1 r1 => ?_
      cases x with
      | int m =>
        have q : m = n := Option.some.inj e2
        subst q
        cases r1
        exact ⟨m, rfl, by omega, by omega, k _ H1 G1 g1 (itok_range 0 _)⟩
      | _ => cases e2
    · rw [if_neg c] at ef
      cases ef⟩
theorem di_range2 (B : Bn X.mg) (h : DE K T X a ta fa) (h2 : DE K T X b tb fb) (hg : Gl X "range" := by rfl) (hs : starEach [a, b] X.env = [(false, eval a X.env), (false, eval b X.env)] := by rfl) (hs2 : starEach [b] X.env = [(false, eval b X.env)] := by rfl) (hs3 : starEach [a, b] X.env = (false, eval a X.env) :: starEach [b] X.env := by rfl) (hs4 : starEach [b] X.env = (false, eval b X.env) :: starEach [] X.env := by rfl) : DI K T X tg (.Call (.Name "range" p) [a, b] [] pos) (iRng2 (tCons ta (tCons tb tNil))) (iRange2 fa fb) :=
  ⟨h.hK, pi_range2 hg B.range (pa_cons h.pe (pa_cons h2.pe pa_nil hs4) hs3) hs hs2, fun σ H G g ds le er ef R k => by
    obtain ⟨x, e1, ef⟩ := bind_some ef
    obtain ⟨n, e2, ef⟩ := bind_some ef
    obtain ⟨y, e3, ef⟩ := bind_some ef
    obtain ⟨m, e4, ef⟩ := bind_some ef
    by_cases c : -1000000 ≤ n ∧ n ≤ 1000000 ∧ -1000000 ≤ m ∧ m ≤ 1000000
    · rw [if_pos c] at ef
      have q : rangeD n (m - n).toNat = ds := Option.some.inj ef
      subst q
      refine h.den σ H G g x le er e1 _ fun v H1 G1 g1 r1 => ?_
      refine h2.den σ H1 G1 g y g1.le (er.mono g1.gg) e3 _ fun w H2 G2 g2 r2 => ?_
      cases x with
      | int n' =>
        cases y with
        | int m' =>
          have q : n' = n := Option.some.inj e2
          have q' : m' = m := Option.some.inj e4
          subst q q'
          cases r1
          cases r2
          exact ⟨n', m', rfl, ⟨by omega, by omega, by omega, by omega⟩, k _ H2 G2 (g1.trans g2) (itok_range n' _)⟩
        | _ => cases e4
      | _ => cases e2
    · rw [if_neg c] at ef
      cases ef⟩
theorem di_zip (B : Bn X.mg) {elts : List Expr} {kk : Nat} {tpos : Pos} (h : DE K T X a ta fa) (h2 : DE K T X b tb fb) (hg : Gl X "zip" := by rfl) (hs : starEach [a, b] X.env = (false, eval a X.env) :: starEach [b] X.env := by rfl) (hs2 : starEach [b] X.env = (false, eval b X.env) :: starEach [] X.env := by rfl) (hpl : (backTo pos (starEach [b] X.env)).any (·.1) = false := by rfl) :
    DI K T X (.Tuple elts kk tpos) (.Call (.Name "zip" p) [a, b] [] pos) (iZip K (tCons ta (tCons tb tNil))) (iZipD fa fb) := by
  obtain ⟨rfl, pa, da⟩ := h
  refine ⟨rfl, pi_zip hg B.zip (pa_cons pa (pa_cons h2.pe pa_nil hs2) hs) hs hpl, fun σ H G g ds le er ef R k => ?_⟩
  obtain ⟨x, e1, ef⟩ := bind_some ef
  obtain ⟨xs, e2, ef⟩ := bind_some ef
  obtain ⟨y, e3, ef⟩ := bind_some ef
  obtain ⟨ys, e4, ef⟩ := map_some ef
  subst ef
  refine da σ H G g x le er e1 _ fun v H1 G1 g1 r1 => ?_
  refine h2.den σ H1 G1 g y g1.le (er.mono g1.gg) e3 _ fun w H2 G2 g2 r2 => ?_
  cases x with
  | lst xs' =>
    cases y with
    | lst ys' =>
      have q : xs' = xs := Option.some.inj e2
      have q' : ys' = ys := Option.some.inj e4
      subst q q'
      have r1' := r1.mono g2.gg _ _
      cases r1' with
      | lst r aa =>
        cases r2 with
        | lst r' aa' => exact ⟨_, _, _, _, rfl, .inl (g2.le.rd r), .inl (g2.le.rd r'), k _ H2 G2 (g1.trans g2) (itok_zip r aa r' aa')⟩
    | _ => cases e4
  | _ => cases e2
theorem di_enum (B : Bn X.mg) {elts : List Expr} {kk : Nat} {tpos : Pos} (h : DE K T X a ta fa) (hg : Gl X "enumerate" := by rfl) (hs : starEach [a] X.env = [(false, eval a X.env)] := by rfl) (hs' : starEach [a] X.env = (false, eval a X.env) :: starEach [] X.env := by rfl) :
    DI K T X (.Tuple elts kk tpos) (.Call (.Name "enumerate" p) [a] [] pos) (iEnum K (tCons ta tNil)) (iEnumD fa) := by
  obtain ⟨rfl, pa, da⟩ := h
  refine ⟨rfl, pi_enum hg B.enumerate (pa_cons pa pa_nil hs') hs, fun σ H G g ds le er ef R k => ?_⟩
  obtain ⟨x, e1, ef⟩ := bind_some ef
  obtain ⟨xs, e2, ef⟩ := map_some ef
  subst ef
  refine da σ H G g x le er e1 _ fun v H1 G1 g1 r1 => ?_
  cases x with
  | lst xs' =>
    have q : xs' = xs := Option.some.inj e2
    subst q
    cases r1 with
    | lst r aa => exact ⟨_, _, rfl, .inl (g1.le.rd r), k _ H1 G1 g1 (itok_enum r aa)⟩
  | _ => cases e2
end
end DL

set_option Elab.async false
set_option linter.all false
set_option maxRecDepth 100000
set_option maxHeartbeats 4000000
namespace DL
open PySem PySem.Spec PyProof.Rows L2
section
variable {K : PySem.W.Frag} {T : CT} {X : Cx} {pos p : Pos}
variable {a b c e tg : Expr} {ta tb tc te : TE} {fa fb fc f : Fe} {es : List Expr} {tr : TA} {fr : Fl}
/-! ### targets -/
theorem dg_name (i : Nat) {x : Str} (hN : X.N.Nodup) (hi : X.N[i]? = some x := by rfl) (hx : Loc X.env.scope x := by first | exact Or.inl rfl | exact Or.inr rfl) (hf : X.fn x = true ∨ X.env.scope.names.lookup x = some .local := by first | exact .inl rfl | exact .inr rfl | assumption) :
    DG K T X (.Name x pos) [i] (L2.gName i) (gtN i) :=
  ⟨pg_name hN hi hx hf, fun d as h => by
    have q : [(i, d)] = as := Option.some.inj h
    subst q
    rfl, fun σ H G v d as le r h Q k => by
    have q : [(i, d)] = as := Option.some.inj h
    subst q
    exact k [(i, v)] rfl (.cons r .nil)⟩
/-- several names -/
structure DGs (K : PySem.W.Frag) (T : CT) (X : Cx) (ts : List Expr) (js : List Nat) (g : TGs) : Prop where
  pe : PGs X ts g
  den : ∀ (vs : List V) (σ : L2.St) (H : Hp) (Q : L2.St → Hp → Prop), vs.length = js.length → Q (setsV σ (js.zip vs)) H → g vs σ H Q
theorem dgs_nil : DGs K T X [] [] L2.gNil := ⟨pgs_nil, fun vs σ H Q hl q => by
  have e : vs = [] := List.length_eq_zero_iff.mp hl
  subst e
  exact ⟨rfl, q⟩⟩
theorem dgs_cons (i : Nat) {x : Str} {ts : List Expr} {js : List Nat} {g : TGs} (hN : X.N.Nodup) (h : DGs K T X ts js g) (hi : X.N[i]? = some x := by rfl) (hx : Loc X.env.scope x := by first | exact Or.inl rfl | exact Or.inr rfl) (hf : X.fn x = true ∨ X.env.scope.names.lookup x = some .local := by first | exact .inl rfl | exact .inr rfl | assumption)
    (hs : (assignEach (Expr.Name x pos :: ts) X.env).map (·.2) = assign (.Name x pos) X.env :: (assignEach ts X.env).map (·.2) := by rfl) : DGs K T X (.Name x pos :: ts) (i :: js) (L2.gCons (L2.gName i) g) :=
  ⟨pgs_cons (pg_name hN hi hx hf) h.pe hs, fun vs σ H Q hl q => by
    cases vs with
    | nil => cases hl
    | cons v vs => exact ⟨v, vs, rfl, h.den vs _ H Q (Nat.succ.inj hl) q⟩⟩
theorem zip_fst {α β : Type} : ∀ {l : List α} {m : List β}, m.length = l.length → (l.zip m).map (·.1) = l
  | [], _, _ => rfl
  | x :: l, [], h => by cases h
  | x :: l, y :: m, h => by
    show x :: ((l.zip m).map (·.1)) = x :: l
    rw [zip_fst (Nat.succ.inj h)]
theorem zip_snd {α β : Type} : ∀ {l : List α} {m : List β}, m.length = l.length → (l.zip m).map (·.2) = m
  | [], [], _ => rfl
  | [], y :: m, h => by cases h
  | x :: l, [], h => by cases h
  | x :: l, y :: m, h => by
    show y :: ((l.zip m).map (·.2)) = y :: m
    rw [zip_snd (Nat.succ.inj h)]
theorem dg_tup {ts : List Expr} {k : Nat} {js : List Nat} {g : TGs} (h : DGs K T X ts js g) (hc : X.calm = true := by rfl) (hn : (assignEach ts X.env).length = js.length := by rfl) (hst : (assignEach ts X.env).findIdx? (·.1) = none := by rfl) (hK : X.K = K := by rfl) :
    DG K T X (.Tuple ts k pos) js (L2.gTup K js.length g) (gtT js) := by
  cases hK
  refine ⟨pg_tup hc h.pe hn hst, fun d as e => ?_, fun σ H G v d as le r e Q kk => ?_⟩
  · cases d with
    | tup ds =>
      have e' : (if ds.length = js.length then some (js.zip ds) else none) = some as := e
      by_cases c : ds.length = js.length
      · rw [if_pos c] at e'
        have q : js.zip ds = as := Option.some.inj e'
        subst q
        exact zip_fst c
      · rw [if_neg c] at e'
        cases e'
    | _ => cases e
  · cases d with
    | tup ds =>
      have e' : (if ds.length = js.length then some (js.zip ds) else none) = some as := e
      by_cases c : ds.length = js.length
      · rw [if_pos c] at e'
        have q : js.zip ds = as := Option.some.inj e'
        subst q
        cases r with
        | @tup _ xs _ r aa =>
          have hl : xs.length = js.length := by rw [aa.length]; exact c
          refine ⟨_, xs, rfl, .inl (le.rd r), hl, h.den xs σ H Q hl (kk (js.zip xs) ?_ ?_)⟩
          · rw [zip_fst hl, zip_fst c]
          · rw [zip_snd hl, zip_snd c]
            exact aa
      · rw [if_neg c] at e'
        cases e'
    | _ => cases e
/-- a, b, .. = a list -/
theorem dg_unl {ts : List Expr} {k : Nat} {js : List Nat} {g : TGs} (h : DGs K T X ts js g) (hc : X.calm = true := by rfl) (hn : (assignEach ts X.env).length = js.length := by rfl) (hst : (assignEach ts X.env).findIdx? (·.1) = none := by rfl) (hK : X.K = K := by rfl) :
    DG K T X (.Tuple ts k pos) js (L2.gUnl K js.length g) (gtU js) := by
  cases hK
  refine ⟨pg_unl hc h.pe hn hst, fun d as e => ?_, fun σ H G v d as le r e Q kk => ?_⟩
  · cases d with
    | lst ds =>
      have e' : (if ds.length = js.length then some (js.zip ds) else none) = some as := e
      by_cases c : ds.length = js.length
      · rw [if_pos c] at e'
        have q : js.zip ds = as := Option.some.inj e'
        subst q
        exact zip_fst c
      · rw [if_neg c] at e'
        cases e'
    | _ => cases e
  · cases d with
    | lst ds =>
      have e' : (if ds.length = js.length then some (js.zip ds) else none) = some as := e
      by_cases c : ds.length = js.length
      · rw [if_pos c] at e'
        have q : js.zip ds = as := Option.some.inj e'
        subst q
        cases r with
        | @lst _ xs _ r aa =>
          have hl : xs.length = js.length := by rw [aa.length]; exact c
          refine ⟨_, xs, rfl, .inl (le.rd r), hl, h.den xs σ H Q hl (kk (js.zip xs) ?_ ?_)⟩
          · rw [zip_fst hl, zip_fst c]
          · rw [zip_snd hl, zip_snd c]
            exact aa
      · rw [if_neg c] at e'
        cases e'
    | _ => cases e
theorem sets_env {G : Hp} : ∀ {ps : List (Nat × V)} {as : List (Nat × D)} {σ : L2.St} {g : Env}, EnvR T G σ g → ps.map (·.1) = as.map (·.1) → RpA T G (ps.map (·.2)) (as.map (·.2)) → EnvR T G (setsV σ ps) (setsE g as)
  | [], [], σ, g, er, _, _ => er
  | [], _ :: _, σ, g, er, h, _ => by cases h
  | _ :: _, [], σ, g, er, h, _ => by cases h
  | (i, v) :: ps, (j, d) :: as, σ, g, er, h, r => by
    have h' : i = j ∧ ps.map (·.1) = as.map (·.1) := by simpa using h
    obtain ⟨rfl, h'⟩ := h'
    cases r with
    | cons r rr => exact sets_env (σ := σ.set i (some v)) (g := g.set i (some d)) (er.set r i) h' rr
theorem wipe_set_mem {σ : L2.St} {j : Nat} {x : Option V} : ∀ {vs : List Nat}, j ∈ vs → L2.wipe (σ.set j x) vs = L2.wipe σ vs
  | [], h => by cases h
  | v :: vs, h => by
    show (L2.wipe (σ.set j x) vs).set v none = (L2.wipe σ vs).set v none
    by_cases e : j ∈ vs
    · rw [wipe_set_mem e]
    · have ev : j = v := by
        rcases List.mem_cons.mp h with q | q
        · exact q
        · exact absurd q e
      subst ev
      apply List.ext_getElem?
      intro i
      by_cases hi : j = i
      · subst hi
        rw [List.getElem?_set, List.getElem?_set, L2.wipe_length, L2.wipe_length, List.length_set, if_pos rfl, if_pos rfl]
      · rw [List.getElem?_set_ne hi, List.getElem?_set_ne hi]
        clear h
        induction vs with
        | nil =>
          show (σ.set j x)[i]? = σ[i]?
          rw [List.getElem?_set_ne hi]
        | cons w ws ih =>
          show ((L2.wipe (σ.set j x) ws).set w none)[i]? = ((L2.wipe σ ws).set w none)[i]?
          have e' : j ∉ ws := fun z => e (List.mem_cons_of_mem _ z)
          by_cases hw : w = i
          · subst hw
            rw [List.getElem?_set, List.getElem?_set, L2.wipe_length, L2.wipe_length, List.length_set, if_pos rfl, if_pos rfl]
          · rw [List.getElem?_set_ne hw, List.getElem?_set_ne hw]
            exact ih e'
theorem wipe_sets {vs : List Nat} : ∀ {ps : List (Nat × V)} {σ : L2.St}, (∀ j ∈ ps.map (·.1), j ∈ vs) → L2.wipe (setsV σ ps) vs = L2.wipe σ vs
  | [], σ, _ => rfl
  | (i, v) :: ps, σ, h => by
    show L2.wipe (setsV (σ.set i (some v)) ps) vs = _
    rw [wipe_sets (ps := ps) fun j hj => h j (List.mem_cons_of_mem _ hj), wipe_set_mem (h i List.mem_cons_self)]
theorem wipe_wipe {σ : L2.St} : ∀ vs : List Nat, L2.wipe (L2.wipe σ vs) vs = L2.wipe σ vs := by
  intro vs
  have key : ∀ (ws us : List Nat) (τ : L2.St), (∀ j ∈ ws, j ∈ us) → L2.wipe (L2.wipe τ ws) us = L2.wipe τ us := by
    intro ws
    induction ws with
    | nil => intro us τ _; rfl
    | cons w ws ih =>
      intro us τ h
      show L2.wipe ((L2.wipe τ ws).set w none) us = L2.wipe τ us
      rw [wipe_set_mem (h w List.mem_cons_self)]
      exact ih us τ fun j hj => h j (List.mem_cons_of_mem _ hj)
  exact key vs vs σ fun _ h => h
/-! ### comprehensions -/
theorem dts_nil : DTs K T X [] L2.tYes bYes := ⟨pts_nil, fun σ H G g d le er ef Q k => by
  have q : true = d := Option.some.inj ef
  subst q
  exact k H G (.refl le)⟩
theorem dts_one {c : Expr} {t : TT} {ft : Ft} (h : DT K T X c t ft) : DTs K T X [c] t ft := ⟨pts_one h.pe, h.den⟩
theorem den_lc {wi : TI} {g : TG} {tt : TT} {src : Fl} {gd : Ftg} {ft : Ft} {fe : Fe} {vs js : List Nat} (hi : DenI T wi src) (hg : ∃ tg, DG K T X tg js g gd) (ht : DenT T tt ft) (he : Den T te fe) (hj : ∀ j ∈ js, j ∈ vs) : DenL T (tLc wi g tt te vs) (fLc src gd ft fe vs) := fun σ H G gg ds0 le er ef Q k => by
  obtain ⟨_, hg⟩ := hg
  obtain ⟨ds, e1, ef⟩ := bind_some ef
  by_cases hlen : ds.length ≤ 1000000
  · rw [if_pos hlen] at ef
    refine hi σ H G gg ds le er e1 _ fun J H1 G1 g1 ok => fun Dl hD => ?_
    let h : D → Option (Option D) := fun d => (gd d).bind fun as => (ft (setsE (wipeE gg vs) as)).bind fun k => if k then (fe (setsE (wipeE gg vs) as)).map some else some none
    have ef' : lcM h ds = some ds0 := ef
    refine ⟨fun i m H' => m = ds.length - i ∧ i ≤ ds.length ∧ ∃ G' xs ys zs, Grow H1 G1 H' G' ∧ H' Dl = some (.lst xs) ∧ G' Dl = none ∧ RpA T G' xs ys ∧ xs.length ≤ i ∧ lcM h (ds.drop i) = some zs ∧ ds0 = ys ++ zs,
      ⟨ds.length, by omega, Nat.zero_le _, G1, [], [], ds0, .own g1.le hD, upd_same, g1.le.none hD, .nil, Nat.le_refl _, ef', rfl⟩, ?_⟩
    rintro i m H' ⟨rfl, hi', G', xs, ys, zs, gr, hp, gp, ra, hxs, hz, hd0⟩
    by_cases hlt : i < ds.length
    · obtain ⟨ok1, _⟩ := ok H' G' gr.gg gr.le
      have hd : ds[i]? = some ds[i] := List.getElem?_eq_getElem hlt
      obtain ⟨go, yl⟩ := ok1 i ds[i] hd
      have hdrop : ds.drop i = ds[i] :: ds.drop (i + 1) := List.drop_eq_getElem_cons hlt
      rw [hdrop] at hz
      obtain ⟨o, z1, z2⟩ := bind_some hz
      obtain ⟨zs', z3, z4⟩ := map_some z2
      refine .inr ⟨go, fun H'' => i + 1 ≤ ds.length ∧ ∃ G'' xs ys zs, Grow H1 G1 H'' G'' ∧ H'' Dl = some (.lst xs) ∧ G'' Dl = none ∧ RpA T G'' xs ys ∧ xs.length ≤ i + 1 ∧ lcM h (ds.drop (i + 1)) = some zs ∧ ds0 = ys ++ zs,
        fun H'' ⟨q1, q2⟩ => ⟨ds.length - (i + 1), by omega, rfl, q1, q2⟩, fun x H2 y => ?_⟩
      obtain ⟨G2, g2, r2⟩ := yl x H2 y
      obtain ⟨as, a1, a2⟩ := bind_some z1
      obtain ⟨kk, a3, a4⟩ := bind_some a2
      refine hg.den _ H2 G2 x ds[i] as g2.le r2 a1 _ fun ps pf pr => ?_
      have gr2 := gr.trans g2
      have hmem : ∀ j ∈ ps.map (·.1), j ∈ vs := fun j hjm => hj j (by rw [← hg.js _ _ a1, ← pf]; exact hjm)
      refine ⟨by rw [wipe_sets hmem, wipe_wipe], ?_⟩
      have er2 : EnvR T G2 (setsV (L2.wipe σ vs) ps) (setsE (wipeE gg vs) as) := sets_env ((er.mono (g1.trans gr2).gg).wipe vs) pf pr
      refine ht _ H2 G2 _ kk g2.le er2 a3 _ fun H3 G3 g3 => ?_
      have gr3 := gr2.trans g3
      have hp3 : H3 Dl = some (.lst xs) := g3.hh _ _ (g2.hh _ _ hp)
      have gp3 : G3 Dl = none := (g2.trans g3).keep (by rw [hp]; intro z; cases z) gp
      have ra3 := ra.mono (g2.trans g3).gg _ _
      cases kk with
      | true =>
        obtain ⟨yv, b1, b2⟩ := map_some (show (fe (setsE (wipeE gg vs) as)).map some = some o from a4)
        subst b2
        show te _ H3 _
        refine he _ H3 G3 _ yv g3.le (er2.mono g3.gg) b1 _ fun v H4 G4 g4 r4 => ?_
        have hp4 := g4.hh _ _ hp3
        have gp4 : G4 Dl = none := g4.keep (by rw [hp3]; intro z; cases z) gp3
        refine ⟨xs, hp4, big_lt (by omega), hlt, G4, xs ++ [v], ys ++ [yv], zs', ?_, upd_same, gp4, (ra3.mono g4.gg _ _).append (.cons r4 .nil), by rw [List.length_append]; show xs.length + 1 ≤ i + 1; omega, z3, ?_⟩
        · have g14 := gr3.trans g4
          exact ⟨g14.hh.mut hD, g14.gg, g14.le.mut gp4, g14.nw⟩
        · rw [hd0, ← z4]
          simp
      | false =>
        have q : (none : Option D) = o := Option.some.inj a4
        subst q
        show _ ∧ _
        exact ⟨hlt, G3, xs, ys, zs', gr3, hp3, gp3, ra3, by omega, z3, by rw [hd0, ← z4]⟩
    · have e : i = ds.length := by omega
      subst e
      obtain ⟨_, ok2⟩ := ok H' G' gr.gg gr.le
      refine .inl ⟨ok2 _ (Nat.le_refl _), ?_⟩
      rw [List.drop_length] at hz
      have q : ([] : List D) = zs := Option.some.inj hz
      subst q
      rw [List.append_nil] at hd0
      subst hd0
      exact k Dl xs H' G' (g1.trans gr) (g1.hh.none hD) hp gp ra
  · rw [if_neg hlen] at ef
    cases ef
theorem dl_lc {elt iter : Expr} {ifs : List Expr} {scope : Scope} {own : List (Str × Nat)} {wi : TI} {g : TG} {tt : TT} {src : Fl} {gd : Ftg} {ft : Ft} {fe : Fe} {js : List Nat} (hN : X.N.Nodup) (ok : BlkOk X.N X.env.scope scope own) (hi : DI K T X tg iter wi src)
    (hg : ∀ (s : Shared) (H : Hp) (C : Addr) (cl : List (Str × Addr)) (fp : List Addr), DG K T (X.blk s H scope (compEnvC scope cl C X.env) fp) tg js g gd) (ht : ∀ (s : Shared) (H : Hp) (C : Addr) (cl : List (Str × Addr)) (fp : List Addr), DTs K T (X.blk s H scope (compEnvC scope cl C X.env) fp) ifs tt ft)
    (he : ∀ (s : Shared) (H : Hp) (C : Addr) (cl : List (Str × Addr)) (fp : List Addr), DE K T (X.blk s H scope (compEnvC scope cl C X.env) fp) elt te fe) (hj : ∀ j ∈ js, j ∈ own.map (·.2) := by decide) (hc : X.calm = true := by rfl) (hs : ∀ x, foldedSetIterable iter X.env x = pure x := by intro _; rfl) :
    DLs K T X (.ListComp elt [⟨tg, iter, ifs, 0⟩] scope pos) (tLc wi g tt te (own.map (·.2))) (fLc src gd ft fe (own.map (·.2))) :=
  ⟨hi.hK, pe_lc hc hN hi.pe ok (fun s H C cl fp => (hg s H C cl fp).pe) (fun s H C cl fp => (ht s H C cl fp).pe) (fun s H C cl fp => (he s H C cl fp).pe) hs,
    den_lc hi.den ⟨tg, hg X.s_0 X.H_0 0 [] []⟩ (ht X.s_0 X.H_0 0 [] []).den (he X.s_0 X.H_0 0 [] []).den hj⟩
end
end DL

set_option Elab.async false
set_option linter.all false
set_option maxRecDepth 100000
set_option maxHeartbeats 4000000
namespace DL
open PySem PySem.Spec PyProof.Rows L2
section
variable {K : PySem.W.Frag} {T : CT} {X : Cx} {pos p : Pos}
variable {a b c e tg : Expr} {ta tb tc te : TE} {fa fb fc f : Fe} {es : List Expr} {tr : TA} {fr : Fl}
/-! ### lists of lists of their own -/
theorem L2s.mono {H H' G G' : Hp} (h1 : Le G G') : ∀ {qs : List Addr} {dss : List (List D)}, (∀ q ∈ qs, ∀ o, H q = some o → H' q = some o) → L2s T H G qs dss → L2s T H' G' qs dss
  | _, _, _, .nil => .nil
  | _, _, h2, .cons a b r => .cons (h2 _ List.mem_cons_self _ a) (b.mono h1 _ _) (L2s.mono h1 (fun q hq o => h2 q (List.mem_cons_of_mem _ hq) o) r)
theorem L2s.append {H G : Hp} : ∀ {qs rs : List Addr} {dss ess : List (List D)}, L2s T H G qs dss → L2s T H G rs ess → L2s T H G (qs ++ rs) (dss ++ ess)
  | _, _, _, _, .nil, k => k
  | _, _, _, _, .cons a b r, k => .cons a b (L2s.append r k)
theorem L2s.length {H G : Hp} : ∀ {qs : List Addr} {dss : List (List D)}, L2s T H G qs dss → qs.length = dss.length
  | _, _, .nil => rfl
  | _, _, .cons a b r => by rw [List.length_cons, List.length_cons, L2s.length r]
theorem L2s.there {H G : Hp} : ∀ {qs : List Addr} {dss : List (List D)}, L2s T H G qs dss → ∀ q ∈ qs, ∃ xs, H q = some (.lst xs)
  | _, _, .nil, q, hq => by cases hq
  | _, _, .cons a b r, q, hq => by
    rcases List.mem_cons.mp hq with e | e
    · rw [e]; exact ⟨_, a⟩
    · exact L2s.there r q e
/-- the lists at qs brought into sight -/
def vis (G H : Hp) (qs : List Addr) : Hp := fun a => if a ∈ qs then H a else G a
theorem vis_in {G H : Hp} {qs : List Addr} {a : Addr} (h : a ∈ qs) : vis G H qs a = H a := by unfold vis; rw [if_pos h]
theorem vis_out {G H : Hp} {qs : List Addr} {a : Addr} (h : a ∉ qs) : vis G H qs a = G a := by unfold vis; rw [if_neg h]
theorem vis_le {G H : Hp} {qs : List Addr} (n : ∀ a ∈ qs, G a = none) : Le G (vis G H qs) := fun a o e => by
  rw [vis_out fun h => by rw [n a h] at e; cases e]
  exact e
theorem vis_grow {H G H' G' : Hp} {qs : List Addr} (g : Grow H G H' G') (n : ∀ a ∈ qs, H a = none ∧ G' a = none) : Grow H G H' (vis G' H' qs) :=
  ⟨g.hh, g.gg.trans (vis_le fun a h => (n a h).2), fun a o e => by
    by_cases h : a ∈ qs
    · rw [vis_in h] at e; exact e
    · rw [vis_out h] at e; exact g.le a o e, fun a h k => by
    by_cases q : a ∈ qs
    · exact (n a q).1
    · rw [vis_out q] at k
      exact g.nw a h k⟩
theorem L2s.rpa {H G : Hp} {ps : List Addr} (n : ∀ a ∈ ps, G a = none) : ∀ {qs : List Addr} {dss : List (List D)}, (∀ q ∈ qs, q ∈ ps) → L2s T H G qs dss → RpA T (vis G H ps) (qs.map V.ref) (dss.map D.lst)
  | _, _, _, .nil => .nil
  | _, _, h, .cons a b r => .cons (.lst (.inl (by rw [vis_in (h _ List.mem_cons_self)]; exact a)) (b.mono (vis_le n) _ _)) (L2s.rpa n (fun q hq => h q (List.mem_cons_of_mem _ hq)) r)
theorem den2_toL {f : Fll} (h : DenL2 T te f) : DenL T te (fLL f) := fun σ H G g d le er ef Q k => by
  obtain ⟨dss, e1, e2⟩ := map_some ef
  subst e2
  refine h σ H G g dss le er e1 Q fun p qs H' G' gr hp nd fresh l2 => ?_
  have nd' := List.nodup_cons.mp nd
  have fq : ∀ a ∈ qs, H a = none ∧ G' a = none := fun a ha => fresh a (List.mem_cons_of_mem _ ha)
  refine k p _ H' (vis G' H' qs) (vis_grow gr fq) (fresh p List.mem_cons_self).1 hp ?_ (L2s.rpa (fun a ha => (fq a ha).2) (fun _ h => h) l2)
  rw [vis_out nd'.1]
  exact (fresh p List.mem_cons_self).2
theorem DLs.of2 {f : Fll} (h : DL2s K T X e te f) : DLs K T X e te (fLL f) := ⟨h.hK, h.pe, den2_toL h.den⟩
theorem den_lc2 {wi : TI} {g : TG} {tt : TT} {src : Fl} {gd : Ftg} {ft : Ft} {fe : Fl} {vs js : List Nat} (hi : DenI T wi src) (hg : ∃ tg, DG K T X tg js g gd) (ht : DenT T tt ft) (he : DenL T te fe) (hj : ∀ j ∈ js, j ∈ vs) : DenL2 T (tLc wi g tt te vs) (fLc2 src gd ft fe vs) := fun σ H G gg ds0 le er ef Q k => by
  obtain ⟨_, hg⟩ := hg
  obtain ⟨ds, e1, ef⟩ := bind_some ef
  by_cases hlen : ds.length ≤ 1000000
  · rw [if_pos hlen] at ef
    refine hi σ H G gg ds le er e1 _ fun J H1 G1 g1 ok => fun Dl hD => ?_
    let h : D → Option (Option (List D)) := fun d => (gd d).bind fun as => (ft (setsE (wipeE gg vs) as)).bind fun k => if k then (fe (setsE (wipeE gg vs) as)).map some else some none
    have ef' : lcM2 h ds = some ds0 := ef
    refine ⟨fun i m H' => m = ds.length - i ∧ i ≤ ds.length ∧ ∃ G' qs ys zs, Grow H1 G1 H' G' ∧ H' Dl = some (.lst (qs.map V.ref)) ∧ (Dl :: qs).Nodup ∧ (∀ a ∈ Dl :: qs, H1 a = none ∧ G' a = none) ∧ L2s T H' G' qs ys ∧ qs.length ≤ i ∧ lcM2 h (ds.drop i) = some zs ∧ ds0 = ys ++ zs,
      ⟨ds.length, by omega, Nat.zero_le _, G1, [], [], ds0, .own g1.le hD, upd_same, List.pairwise_singleton _ _, fun a ha => ?_, .nil, Nat.le_refl _, ef', rfl⟩, ?_⟩
    · have e : a = Dl := by simpa using ha
      rw [e]
      exact ⟨hD, g1.le.none hD⟩
    rintro i m H' ⟨rfl, hi', G', qs, ys, zs, gr, hp, nd, fresh, ra, hxs, hz, hd0⟩
    by_cases hlt : i < ds.length
    · obtain ⟨ok1, _⟩ := ok H' G' gr.gg gr.le
      have hd : ds[i]? = some ds[i] := List.getElem?_eq_getElem hlt
      obtain ⟨go, yl⟩ := ok1 i ds[i] hd
      have hdrop : ds.drop i = ds[i] :: ds.drop (i + 1) := List.drop_eq_getElem_cons hlt
      rw [hdrop] at hz
      obtain ⟨o, z1, z2⟩ := bind_some hz
      obtain ⟨zs', z3, z4⟩ := map_some z2
      refine .inr ⟨go, fun H'' => i + 1 ≤ ds.length ∧ ∃ G'' qs ys zs, Grow H1 G1 H'' G'' ∧ H'' Dl = some (.lst (qs.map V.ref)) ∧ (Dl :: qs).Nodup ∧ (∀ a ∈ Dl :: qs, H1 a = none ∧ G'' a = none) ∧ L2s T H'' G'' qs ys ∧ qs.length ≤ i + 1 ∧ lcM2 h (ds.drop (i + 1)) = some zs ∧ ds0 = ys ++ zs,
        fun H'' ⟨q1, q2⟩ => ⟨ds.length - (i + 1), by omega, rfl, q1, q2⟩, fun x H2 y => ?_⟩
      obtain ⟨G2, g2, r2⟩ := yl x H2 y
      obtain ⟨as, a1, a2⟩ := bind_some z1
      obtain ⟨kk, a3, a4⟩ := bind_some a2
      refine hg.den _ H2 G2 x ds[i] as g2.le r2 a1 _ fun ps pf pr => ?_
      have gr2 := gr.trans g2
      have hmem : ∀ j ∈ ps.map (·.1), j ∈ vs := fun j hjm => hj j (by rw [← hg.js _ _ a1, ← pf]; exact hjm)
      refine ⟨by rw [wipe_sets hmem, wipe_wipe], ?_⟩
      have er2 : EnvR T G2 (setsV (L2.wipe σ vs) ps) (setsE (wipeE gg vs) as) := sets_env ((er.mono (g1.trans gr2).gg).wipe vs) pf pr
      refine ht _ H2 G2 _ kk g2.le er2 a3 _ fun H3 G3 g3 => ?_
      have gr3 := gr2.trans g3
      have g23 := g2.trans g3
      have there : ∀ a ∈ Dl :: qs, H' a ≠ none := fun a ha => by
        rcases List.mem_cons.mp ha with e | e
        · rw [e, hp]; intro z; cases z
        · obtain ⟨xs, q⟩ := ra.there a e
          rw [q]; intro z; cases z
      have hp3 : H3 Dl = some (.lst (qs.map V.ref)) := g23.hh _ _ hp
      have fresh3 : ∀ a ∈ Dl :: qs, H1 a = none ∧ G3 a = none := fun a ha => ⟨(fresh a ha).1, g23.keep (there a ha) (fresh a ha).2⟩
      have ra3 : L2s T H3 G3 qs ys := ra.mono g23.gg fun q _ o e => g23.hh q o e
      cases kk with
      | true =>
        obtain ⟨yv, b1, b2⟩ := map_some (show (fe (setsE (wipeE gg vs) as)).map some = some o from a4)
        subst b2
        show te _ H3 _
        refine he _ H3 G3 _ yv g3.le (er2.mono g3.gg) b1 _ fun p xs H4 G4 g4 np h4 gp4 r4 => ?_
        have there3 : ∀ a ∈ Dl :: qs, H3 a ≠ none := fun a ha => by
          intro z
          exact there a ha (g23.hh.none z)
        have pne : p ∉ Dl :: qs := fun hm => there3 p hm np
        have hDp : Dl ≠ p := fun z => pne (by rw [z]; exact List.mem_cons_self)
        have hp4 := g4.hh _ _ hp3
        have fresh4 : ∀ a ∈ Dl :: qs, H1 a = none ∧ G4 a = none := fun a ha => ⟨(fresh a ha).1, g4.keep (there3 a ha) (fresh3 a ha).2⟩
        have g14 := gr3.trans g4
        have hDG : G4 Dl = none := (fresh4 Dl List.mem_cons_self).2
        have nD : Dl ∉ qs := (List.nodup_cons.mp nd).1
        refine ⟨_, hp4, by rw [List.length_map]; exact big_lt (by omega), hlt, G4, qs ++ [p], ys ++ [yv], zs', ⟨g14.hh.mut hD, g14.gg, g14.le.mut hDG, g14.nw⟩, ?_, ?_, ?_, ?_, by rw [List.length_append]; show qs.length + 1 ≤ i + 1; omega, z3, ?_⟩
        · rw [upd_same, List.map_append]
          rfl
        · rw [← List.cons_append]
          refine List.nodup_append.mpr ⟨nd, List.pairwise_singleton _ _, fun a ha b hb e => ?_⟩
          have e' : b = p := by simpa using hb
          subst e'
          subst e
          exact pne ha
        · intro a ha
          rw [← List.cons_append] at ha
          rcases List.mem_append.mp ha with h | h
          · exact fresh4 a h
          · have e' : a = p := by simpa using h
            rw [e']
            exact ⟨gr3.hh.none np, gp4⟩
        · refine ((ra3.mono g4.gg fun q hq o e => ?_).append (.cons ?_ r4 .nil))
          · rw [upd_ne (show q ≠ Dl from fun z => nD (z ▸ hq))]
            exact g4.hh q o e
          · rw [upd_ne (Ne.symm hDp)]
            exact h4
        · rw [hd0, ← z4]
          simp
      | false =>
        have q : (none : Option (List D)) = o := Option.some.inj a4
        subst q
        show _ ∧ _
        exact ⟨hlt, G3, qs, ys, zs', gr3, hp3, nd, fresh3, ra3, by omega, z3, by rw [hd0, ← z4]⟩
    · have e : i = ds.length := by omega
      subst e
      obtain ⟨_, ok2⟩ := ok H' G' gr.gg gr.le
      refine .inl ⟨ok2 _ (Nat.le_refl _), ?_⟩
      rw [List.drop_length] at hz
      have q : ([] : List (List D)) = zs := Option.some.inj hz
      subst q
      rw [List.append_nil] at hd0
      subst hd0
      exact k Dl qs H' G' (g1.trans gr) hp nd (fun a ha => ⟨g1.hh.none (fresh a ha).1, (fresh a ha).2⟩) ra
  · rw [if_neg hlen] at ef
    cases ef
theorem d2_lc {elt iter : Expr} {ifs : List Expr} {scope : Scope} {own : List (Str × Nat)} {wi : TI} {g : TG} {tt : TT} {src : Fl} {gd : Ftg} {ft : Ft} {fe : Fl} {js : List Nat} (hN : X.N.Nodup) (ok : BlkOk X.N X.env.scope scope own) (hi : DI K T X tg iter wi src)
    (hg : ∀ (s : Shared) (H : Hp) (C : Addr) (cl : List (Str × Addr)) (fp : List Addr), DG K T (X.blk s H scope (compEnvC scope cl C X.env) fp) tg js g gd) (ht : ∀ (s : Shared) (H : Hp) (C : Addr) (cl : List (Str × Addr)) (fp : List Addr), DTs K T (X.blk s H scope (compEnvC scope cl C X.env) fp) ifs tt ft)
    (he : ∀ (s : Shared) (H : Hp) (C : Addr) (cl : List (Str × Addr)) (fp : List Addr), DLs K T (X.blk s H scope (compEnvC scope cl C X.env) fp) elt te fe) (hj : ∀ j ∈ js, j ∈ own.map (·.2) := by decide) (hc : X.calm = true := by rfl) (hs : ∀ x, foldedSetIterable iter X.env x = pure x := by intro _; rfl) :
    DL2s K T X (.ListComp elt [⟨tg, iter, ifs, 0⟩] scope pos) (tLc wi g tt te (own.map (·.2))) (fLc2 src gd ft fe (own.map (·.2))) :=
  ⟨hi.hK, pe_lc hc hN hi.pe ok (fun s H C cl fp => (hg s H C cl fp).pe) (fun s H C cl fp => (ht s H C cl fp).pe) (fun s H C cl fp => (he s H C cl fp).pe) hs,
    den_lc2 hi.den ⟨tg, hg X.s_0 X.H_0 0 [] []⟩ (ht X.s_0 X.H_0 0 [] []).den (he X.s_0 X.H_0 0 [] []).den hj⟩
/-! ### calls of defs -/
def spD (T : CT) (F : List D → Option D) : Sp := fun vs H Q _ => ∃ (G : Hp) (ds : List D) (d : D), Le G H ∧ RpA T G vs ds ∧ F ds = some d ∧ ∀ v H' G', Grow H G H' G' → Rp T G' v d → Q v H'
def spL (T : CT) (F : List D → Option (List D)) : Sp := fun vs H Q _ => ∃ (G : Hp) (ds z : List D), Le G H ∧ RpA T G vs ds ∧ F ds = some z ∧ ∀ p xs H' G', Grow H G H' G' → H p = none → H' p = some (.lst xs) → G' p = none → RpA T G' xs z → Q (.ref p) H'
def sp2 (T : CT) (F : List D → Option (List (List D))) : Sp := fun vs H Q _ => ∃ (G : Hp) (ds : List D) (z : List (List D)), Le G H ∧ RpA T G vs ds ∧ F ds = some z ∧
  ∀ p qs H' G', Grow H G H' G' → H' p = some (.lst (qs.map V.ref)) → (p :: qs).Nodup → (∀ a ∈ p :: qs, H a = none ∧ G' a = none) → L2s T H' G' qs z → Q (.ref p) H'
theorem den_call {F : List D → Option D} {E : XK} (ha : DenA T tr fr) : Den T (tCall (spD T F) [] E tr) (fCall F fr) := fun σ H G g d le er ef Q k => by
  obtain ⟨ds, e1, ef⟩ := bind_some ef
  refine ha σ H G g ds le er e1 _ fun vs H1 G1 g1 r1 => ?_
  rw [List.append_nil]
  exact ⟨G1, ds, d, g1.le, r1, ef, fun v H2 G2 g2 r2 => k v H2 G2 (g1.trans g2) r2⟩
theorem den_callL {F : List D → Option (List D)} {E : XK} (ha : DenA T tr fr) : DenL T (tCall (spL T F) [] E tr) (fCallL F fr) := fun σ H G g d le er ef Q k => by
  obtain ⟨ds, e1, ef⟩ := bind_some ef
  refine ha σ H G g ds le er e1 _ fun vs H1 G1 g1 r1 => ?_
  rw [List.append_nil]
  exact ⟨G1, ds, d, g1.le, r1, ef, fun p xs H2 G2 g2 np hp gp r2 => k p xs H2 G2 (g1.trans g2) (g1.hh.none np) hp gp r2⟩
theorem den_call2 {F : List D → Option (List (List D))} {E : XK} (ha : DenA T tr fr) : DenL2 T (tCall (sp2 T F) [] E tr) (fCall2 F fr) := fun σ H G g d le er ef Q k => by
  obtain ⟨ds, e1, ef⟩ := bind_some ef
  refine ha σ H G g ds le er e1 _ fun vs H1 G1 g1 r1 => ?_
  rw [List.append_nil]
  exact ⟨G1, ds, d, g1.le, r1, ef, fun p qs H2 G2 g2 hp nd fr r2 => k p qs H2 G2 (g1.trans g2) hp nd (fun a h => ⟨g1.hh.none (fr a h).1, (fr a h).2⟩) r2⟩
variable {CX : CXT} {k : Nat} {fn : Addr} {fd : FuncData} {ps : List Str} {E : XK} {x : Str}
theorem de_call {F : List D → Option D} (G : FnOk X.prog X.w X.K X.mg X.base CX k fn fd ps (spD T F)) (hr : Room k X.A) (hm : X.mg x = some (.ref fn)) (hk : PySem.W.keepIn X.K (.ref fn) = true) (hb : Binds X.K fd ps []) (hx : Passes CX X E) (ha : DA K T X (e :: es) tr fr) (hg : Gl X x := by rfl)
    (hd : (x == ("__debug__" : Str)) = false := by decide) (he : starEach (e :: es) X.env = (false, eval e X.env) :: starEach es X.env := by rfl) (hpl : (backTo pos (starEach es X.env)).any (·.1) = false := by rfl) : DE K T X (.Call (.Name x p) (e :: es) [] pos) (tCall (spD T F) [] E tr) (fCall F fr) :=
  ⟨ha.hK, pe_call G hr hg hm hk hb .nil hx ha.pe hd he hpl, den_call ha.den⟩
theorem dl_call {F : List D → Option (List D)} (G : FnOk X.prog X.w X.K X.mg X.base CX k fn fd ps (spL T F)) (hr : Room k X.A) (hm : X.mg x = some (.ref fn)) (hk : PySem.W.keepIn X.K (.ref fn) = true) (hb : Binds X.K fd ps []) (hx : Passes CX X E) (ha : DA K T X (e :: es) tr fr) (hg : Gl X x := by rfl)
    (hd : (x == ("__debug__" : Str)) = false := by decide) (he : starEach (e :: es) X.env = (false, eval e X.env) :: starEach es X.env := by rfl) (hpl : (backTo pos (starEach es X.env)).any (·.1) = false := by rfl) : DLs K T X (.Call (.Name x p) (e :: es) [] pos) (tCall (spL T F) [] E tr) (fCallL F fr) :=
  ⟨ha.hK, pe_call G hr hg hm hk hb .nil hx ha.pe hd he hpl, den_callL ha.den⟩
theorem d2_call {F : List D → Option (List (List D))} (G : FnOk X.prog X.w X.K X.mg X.base CX k fn fd ps (sp2 T F)) (hr : Room k X.A) (hm : X.mg x = some (.ref fn)) (hk : PySem.W.keepIn X.K (.ref fn) = true) (hb : Binds X.K fd ps []) (hx : Passes CX X E) (ha : DA K T X (e :: es) tr fr) (hg : Gl X x := by rfl)
    (hd : (x == ("__debug__" : Str)) = false := by decide) (he : starEach (e :: es) X.env = (false, eval e X.env) :: starEach es X.env := by rfl) (hpl : (backTo pos (starEach es X.env)).any (·.1) = false := by rfl) : DL2s K T X (.Call (.Name x p) (e :: es) [] pos) (tCall (sp2 T F) [] E tr) (fCall2 F fr) :=
  ⟨ha.hK, pe_call G hr hg hm hk hb .nil hx ha.pe hd he hpl, den_call2 ha.den⟩
end
end DL

set_option Elab.async false
set_option linter.all false
set_option maxRecDepth 100000
set_option maxHeartbeats 4000000
namespace DL
open PySem PySem.Spec PyProof.Rows L2
/-- what a slot holds, and the addresses that are its own -/
inductive OwnAt (T : CT) (H G : Hp) : Option (Option V) → Sl → List Addr → Prop
  | no {o : Option (Option V)} : OwnAt T H G o .no []
  | sh {v : V} {d : D} : Rp T G v d → OwnAt T H G (some (some v)) (.sh d) []
  | ow {p : Addr} {xs : List V} {ds : List D} : H p = some (.lst xs) → RpA T G xs ds → OwnAt T H G (some (some (.ref p))) (.ow ds) [p]
  | o2 {p : Addr} {qs : List Addr} {dss : List (List D)} : H p = some (.lst (qs.map V.ref)) → L2s T H G qs dss → OwnAt T H G (some (some (.ref p))) (.o2 dss) (p :: qs)
structure Fps (T : CT) (H0 H G : Hp) (σ : L2.St) (s : Sts) (fp : Nat → List Addr) : Prop where
  at_ : ∀ (i : Nat) (sl : Sl), s[i]? = some sl → OwnAt T H G σ[i]? sl (fp i)
  nd : ∀ i, (fp i).Nodup
  apart : ∀ (i j : Nat) (a : Addr), i ≠ j → a ∈ fp i → a ∉ fp j
  own : ∀ (i : Nat) (a : Addr), a ∈ fp i → H0 a = none ∧ G a = none ∧ H a ≠ none
structure SR (T : CT) (H0 G0 Gf H G : Hp) (σ : L2.St) (s : Sts) : Prop where
  gr : Grow H0 G0 H G
  fl : Le Gf G
  len : s.length = σ.length
  fps : ∃ fp, Fps T H0 H G σ s fp
section
variable {T : CT} {H0 G0 Gf H G H' G' : Hp} {σ : L2.St} {s : Sts}
theorem OwnAt.mono {o : Option (Option V)} {sl : Sl} {fp : List Addr} (h : OwnAt T H G o sl fp) (e1 : ∀ a ∈ fp, ∀ u, H a = some u → H' a = some u) (e2 : Le G G') : OwnAt T H' G' o sl fp := by
  cases h with
  | no => exact .no
  | sh r => exact .sh (r.mono e2 _ _)
  | ow h r => exact .ow (e1 _ List.mem_cons_self _ h) (r.mono e2 _ _)
  | o2 h r => exact .o2 (e1 _ List.mem_cons_self _ h) (r.mono e2 fun q hq u e => e1 q (List.mem_cons_of_mem _ hq) u e)
theorem SR.grow (h : SR T H0 G0 Gf H G σ s) (g : Grow H G H' G') : SR T H0 G0 Gf H' G' σ s := by
  obtain ⟨gr, fl, len, fp, f⟩ := h
  refine ⟨gr.trans g, fl.trans g.gg, len, fp, fun i sl e => (f.at_ i sl e).mono (fun a _ u q => g.hh a u q) g.gg, f.nd, f.apart, fun i a ha => ?_⟩
  obtain ⟨h1, h2, h3⟩ := f.own i a ha
  exact ⟨h1, g.keep h3 h2, fun z => h3 (g.hh.none z)⟩
theorem SR.env (h : SR T H0 G0 Gf H G σ s) : EnvR T G σ (vw s) := by
  obtain ⟨gr, fl, len, fp, f⟩ := h
  refine ⟨by unfold vw; rw [List.length_map]; exact len, fun i d e => ?_⟩
  unfold vw at e
  rw [List.getElem?_map] at e
  obtain ⟨sl, e1, e2⟩ := map_some e
  cases sl with
  | sh d' =>
    have q : d' = d := Option.some.inj e2
    subst q
    have o := f.at_ i _ e1
    cases hσ : σ[i]? with
    | none =>
      rw [hσ] at o
      cases o
    | some v =>
      rw [hσ] at o
      generalize fp i = l at o
      cases o with
      | sh r => exact ⟨_, rfl, r⟩
  | _ => cases e2
/-- a slot is given a value -/
theorem Fps.set {fp : Nat → List Addr} {i : Nat} {v : V} {sl : Sl} {l : List Addr} (hl : s.length = σ.length) (f : Fps T H0 H G σ s fp) (o : OwnAt T H G (some (some v)) sl l) (nd : l.Nodup) (ap : ∀ j a, i ≠ j → a ∈ l → a ∉ fp j) (ow : ∀ a ∈ l, H0 a = none ∧ G a = none ∧ H a ≠ none) :
    ∃ fp', Fps T H0 H G (σ.set i (some v)) (s.set i sl) fp' := by
  refine ⟨fun j => if j = i then l else fp j, fun j sl' e => ?_, fun j => ?_, fun j k a hjk ha => ?_, fun j a ha => ?_⟩
  · show OwnAt T H G (σ.set i (some v))[j]? sl' (if j = i then l else fp j)
    by_cases hj : j = i
    · subst hj
      rw [if_pos rfl]
      have hlt : j < s.length := by
        have := (List.getElem?_eq_some_iff.mp e).1
        rw [List.length_set] at this
        exact this
      rw [List.getElem?_set_self hlt] at e
      have q : sl = sl' := Option.some.inj e
      subst q
      rw [List.getElem?_set_self (by rw [← hl]; exact hlt)]
      exact o
    · rw [if_neg hj]
      rw [List.getElem?_set_ne (Ne.symm hj)] at e ⊢
      exact f.at_ j sl' e
  · show (if j = i then l else fp j).Nodup
    split
    · exact nd
    · exact f.nd j
  · have ha' : a ∈ (if j = i then l else fp j) := ha
    show a ∉ (if k = i then l else fp k)
    by_cases hj : j = i
    · rw [if_pos hj] at ha'
      rw [if_neg (fun z => hjk (hj.trans z.symm))]
      exact ap k a (fun z => hjk (hj.trans z)) ha'
    · rw [if_neg hj] at ha'
      by_cases hk : k = i
      · rw [if_pos hk]
        exact fun hm => ap j a (fun z => hj z.symm) hm ha'
      · rw [if_neg hk]
        exact f.apart j k a hjk ha'
  · have ha' : a ∈ (if j = i then l else fp j) := ha
    by_cases hj : j = i
    · rw [if_pos hj] at ha'
      exact ow a ha'
    · rw [if_neg hj] at ha'
      exact f.own j a ha'
theorem SR.setSh {v : V} {d : D} (h : SR T H0 G0 Gf H G σ s) (i : Nat) (r : Rp T G v d) : SR T H0 G0 Gf H G (σ.set i (some v)) (s.set i (.sh d)) := by
  obtain ⟨gr, fl, len, fp, f⟩ := h
  exact ⟨gr, fl, by rw [List.length_set, List.length_set]; exact len, f.set len (.sh r) List.nodup_nil (fun _ _ _ z => by cases z) fun _ z => by cases z⟩
theorem SR.setNo {v : V} (h : SR T H0 G0 Gf H G σ s) (i : Nat) : SR T H0 G0 Gf H G (σ.set i (some v)) (s.set i .no) := by
  obtain ⟨gr, fl, len, fp, f⟩ := h
  exact ⟨gr, fl, by rw [List.length_set, List.length_set]; exact len, f.set len .no List.nodup_nil (fun _ _ _ z => by cases z) fun _ z => by cases z⟩
theorem SR.setOw {p : Addr} {xs : List V} {ds : List D} (h : SR T H0 G0 Gf H G σ s) (i : Nat) (g : Grow H G H' G') (np : H p = none) (hp : H' p = some (.lst xs)) (gp : G' p = none) (ra : RpA T G' xs ds) : SR T H0 G0 Gf H' G' (σ.set i (some (.ref p))) (s.set i (.ow ds)) := by
  have h' := h.grow g
  obtain ⟨gr0, _, _, fp0, f0⟩ := h
  have n0 : H0 p = none := gr0.hh.none np
  obtain ⟨gr, fl, len, _, _⟩ := h'
  have f : Fps T H0 H' G' σ s fp0 := ⟨fun i sl e => (f0.at_ i sl e).mono (fun a _ u q => g.hh a u q) g.gg, f0.nd, f0.apart, fun i a ha => by
    obtain ⟨h1, h2, h3⟩ := f0.own i a ha
    exact ⟨h1, g.keep h3 h2, fun z => h3 (g.hh.none z)⟩⟩
  refine ⟨gr, fl, by rw [List.length_set, List.length_set]; exact len, f.set len (.ow hp ra) (List.pairwise_singleton _ _) (fun j a _ ha hj => ?_) fun a ha => ?_⟩
  · have e : a = p := by simpa using ha
    rw [e] at hj
    exact (f0.own j p hj).2.2 np
  · have e : a = p := by simpa using ha
    rw [e]
    exact ⟨n0, gp, by rw [hp]; intro z; cases z⟩
theorem SR.setO2 {p : Addr} {qs : List Addr} {dss : List (List D)} (h : SR T H0 G0 Gf H G σ s) (i : Nat) (g : Grow H G H' G') (hp : H' p = some (.lst (qs.map V.ref))) (nd : (p :: qs).Nodup) (fr : ∀ a ∈ p :: qs, H a = none ∧ G' a = none) (ra : L2s T H' G' qs dss) : SR T H0 G0 Gf H' G' (σ.set i (some (.ref p))) (s.set i (.o2 dss)) := by
  have h' := h.grow g
  obtain ⟨gr0, _, _, fp0, f0⟩ := h
  obtain ⟨gr, fl, len, _, _⟩ := h'
  have f : Fps T H0 H' G' σ s fp0 := ⟨fun i sl e => (f0.at_ i sl e).mono (fun a _ u q => g.hh a u q) g.gg, f0.nd, f0.apart, fun i a ha => by
    obtain ⟨h1, h2, h3⟩ := f0.own i a ha
    exact ⟨h1, g.keep h3 h2, fun z => h3 (g.hh.none z)⟩⟩
  refine ⟨gr, fl, by rw [List.length_set, List.length_set]; exact len, f.set len (.o2 hp ra) nd (fun j a _ ha hj => ?_) fun a ha => ?_⟩
  · exact (f0.own j a hj).2.2 (fr a ha).1
  · refine ⟨gr0.hh.none (fr a ha).1, (fr a ha).2, ?_⟩
    rcases List.mem_cons.mp ha with e | e
    · rw [e, hp]; intro z; cases z
    · obtain ⟨xs, q⟩ := ra.there a e
      rw [q]; intro z; cases z
/-- the list of a slot's own is changed -/
theorem SR.mutOw {i : Nat} {ds : List D} (h : SR T H0 G0 Gf H G σ s) (hs : s[i]? = some (.ow ds)) : ∃ (p : Addr) (xs : List V), σ[i]? = some (some (.ref p)) ∧ H p = some (.lst xs) ∧ RpA T G xs ds ∧ G p = none ∧ H0 p = none ∧
    ∀ xs' ds', RpA T G xs' ds' → SR T H0 G0 Gf (upd H p (.lst xs')) G σ (s.set i (.ow ds')) := by
  obtain ⟨gr, fl, len, fp, f⟩ := h
  have o := f.at_ i _ hs
  cases hσ : σ[i]? with
  | none => rw [hσ] at o; cases o
  | some v =>
    rw [hσ] at o
    generalize hl : fp i = l at o
    cases o with
    | @ow p xs _ hp ra =>
      have hm : p ∈ fp i := by rw [hl]; exact List.mem_cons_self
      obtain ⟨n0, gp, hne⟩ := f.own i p hm
      refine ⟨p, xs, rfl, hp, ra, gp, n0, fun xs' ds' ra' => ⟨⟨gr.hh.mut n0, gr.gg, gr.le.mut gp, gr.nw⟩, fl, by rw [List.length_set]; exact len, fp, fun j sl e => ?_, f.nd, f.apart, fun j a ha => ?_⟩⟩
      · by_cases hj : j = i
        · subst hj
          have hlt : j < s.length := (List.getElem?_eq_some_iff.mp hs).1
          rw [List.getElem?_set_self hlt] at e
          have q : Sl.ow ds' = sl := Option.some.inj e
          subst q
          rw [hσ, hl]
          exact .ow upd_same ra'
        · rw [List.getElem?_set_ne (Ne.symm hj)] at e
          refine (f.at_ j sl e).mono (fun a ha u q => ?_) (Le.refl _)
          rw [upd_ne (show a ≠ p from fun z => f.apart i j p (Ne.symm hj) hm (z ▸ ha))]
          exact q
      · obtain ⟨h1, h2, h3⟩ := f.own j a ha
        refine ⟨h1, h2, ?_⟩
        by_cases e : a = p
        · rw [e, upd_same]; intro z; cases z
        · rw [upd_ne e]; exact h3
/-- a list of one's own is let others see -/
theorem SR.shown {i : Nat} {v : V} {sl sl' : Sl} {fp : Nat → List Addr} (gr : Grow H0 G0 H G) (fl : Le Gf G) (len : s.length = σ.length) (f : Fps T H0 H G σ s fp) (hs : s[i]? = some sl) (hσ : σ[i]? = some (some v)) (hr : ∀ G', Le G G' → (∀ a ∈ fp i, G' a = H a) → OwnAt T H G' (some (some v)) sl' []) :
    ∃ G', SR T H0 G0 Gf H G' σ (s.set i sl') := by
  have gr' : Grow H0 G0 H (vis G H (fp i)) := vis_grow gr fun a ha => ⟨(f.own i a ha).1, (f.own i a ha).2.1⟩
  have le' : Le G (vis G H (fp i)) := vis_le fun a ha => (f.own i a ha).2.1
  refine ⟨vis G H (fp i), gr', fl.trans le', by rw [List.length_set]; exact len, fun j => if j = i then [] else fp j, fun j sl2 e => ?_, fun j => ?_, fun j k a hjk ha => ?_, fun j a ha => ?_⟩
  · show OwnAt T H _ σ[j]? sl2 (if j = i then [] else fp j)
    by_cases hj : j = i
    · subst hj
      rw [if_pos rfl]
      have hlt : j < s.length := (List.getElem?_eq_some_iff.mp hs).1
      rw [List.getElem?_set_self hlt] at e
      have q : sl' = sl2 := Option.some.inj e
      subst q
      rw [hσ]
      exact hr _ le' fun a ha => vis_in ha
    · rw [if_neg hj]
      rw [List.getElem?_set_ne (Ne.symm hj)] at e
      exact (f.at_ j sl2 e).mono (fun _ _ _ q => q) le'
  · show (if j = i then [] else fp j).Nodup
    split
    · exact List.nodup_nil
    · exact f.nd j
  · have ha' : a ∈ (if j = i then [] else fp j) := ha
    show a ∉ (if k = i then [] else fp k)
    by_cases hj : j = i
    · rw [if_pos hj] at ha'; cases ha'
    · rw [if_neg hj] at ha'
      by_cases hk : k = i
      · rw [if_pos hk]; intro z; cases z
      · rw [if_neg hk]; exact f.apart j k a hjk ha'
  · have ha' : a ∈ (if j = i then [] else fp j) := ha
    by_cases hj : j = i
    · rw [if_pos hj] at ha'; cases ha'
    · rw [if_neg hj] at ha'
      obtain ⟨h1, h2, h3⟩ := f.own j a ha'
      exact ⟨h1, by rw [vis_out (f.apart j i a hj ha')]; exact h2, h3⟩
theorem SR.frzOw (h : SR T H0 G0 Gf H G σ s) {i : Nat} {ds : List D} (hs : s[i]? = some (.ow ds)) : ∃ G', SR T H0 G0 Gf H G' σ (s.set i (.sh (.lst ds))) := by
  obtain ⟨gr, fl, len, fp, f⟩ := h
  have o := f.at_ i _ hs
  cases hσ : σ[i]? with
  | none => rw [hσ] at o; cases o
  | some v =>
    rw [hσ] at o
    generalize hl : fp i = l at o
    cases o with
    | @ow p xs _ hp ra =>
      refine SR.shown gr fl len f hs hσ fun G' le hv => .sh (.lst (.inl ?_) (ra.mono le _ _))
      rw [hv p (by rw [hl]; exact List.mem_cons_self)]
      exact hp
theorem SR.frzO2 (h : SR T H0 G0 Gf H G σ s) {i : Nat} {dss : List (List D)} (hs : s[i]? = some (.o2 dss)) : ∃ G', SR T H0 G0 Gf H G' σ (s.set i (.sh (.lst (dss.map D.lst)))) := by
  obtain ⟨gr, fl, len, fp, f⟩ := h
  have o := f.at_ i _ hs
  cases hσ : σ[i]? with
  | none => rw [hσ] at o; cases o
  | some v =>
    rw [hσ] at o
    generalize hl : fp i = l at o
    cases o with
    | @o2 p qs _ hp ra =>
      refine SR.shown gr fl len f hs hσ fun G' le hv => .sh (.lst (xs := qs.map V.ref) (.inl ?_) ?_)
      · rw [hv p (by rw [hl]; exact List.mem_cons_self)]
        exact hp
      · have key : ∀ {qs : List Addr} {dss : List (List D)}, (∀ q ∈ qs, G' q = H q) → L2s T H G qs dss → RpA T G' (qs.map V.ref) (dss.map D.lst) := by
          intro qs dss hq l
          induction l with
          | nil => exact .nil
          | cons a b r ih => exact .cons (.lst (.inl (by rw [hq _ List.mem_cons_self]; exact a)) (b.mono le _ _)) (ih fun q h => hq q (List.mem_cons_of_mem _ h))
        exact key (fun q hq => hv q (by rw [hl]; exact List.mem_cons_of_mem _ hq)) ra
/-- everything is looked at, for a while -/
theorem SR.borrow (h : SR T H0 G0 Gf H G σ s) : ∃ Ga, Le Ga H ∧ EnvR T Ga σ (vwA s) ∧ ∀ H' G', Grow H Ga H' G' → ∃ G'', Grow H G H' G'' ∧ SR T H0 G0 Gf H' G'' σ s := by
  have h0 := h
  obtain ⟨gr, fl, len, fp, f⟩ := h
  have dec : ∀ a, Decidable (∃ i, a ∈ fp i) := fun a => Classical.propDecidable _
  have out : ∀ a o, G a = some o → ¬ ∃ i, a ∈ fp i := fun a o e ⟨i, hi⟩ => by
    rw [(f.own i a hi).2.1] at e; cases e
  let Ga : Hp := fun a => @ite _ (∃ i, a ∈ fp i) (dec a) (H a) (G a)
  have gin : ∀ a, (∃ i, a ∈ fp i) → Ga a = H a := fun a h => @if_pos _ (dec a) h _ _ _
  have gout : ∀ a, (¬ ∃ i, a ∈ fp i) → Ga a = G a := fun a h => @if_neg _ (dec a) h _ _ _
  have le1 : Le G Ga := fun a o e => by rw [gout a (out a o e)]; exact e
  have le2 : Le Ga H := fun a o e => by
    by_cases q : ∃ i, a ∈ fp i
    · rw [gin a q] at e; exact e
    · rw [gout a q] at e; exact gr.le a o e
  refine ⟨Ga, le2, ⟨by unfold vwA; rw [List.length_map]; exact len, fun i d e => ?_⟩, fun H' G' g => ?_⟩
  · unfold vwA at e
    rw [List.getElem?_map] at e
    obtain ⟨sl, e1, e2⟩ := map_some e
    have o := f.at_ i _ e1
    cases hσ : σ[i]? with
    | none =>
      rw [hσ] at o
      generalize fp i = l at o
      cases o
      cases e2
    | some v =>
      rw [hσ] at o
      generalize hl : fp i = l at o
      cases o with
      | no => cases e2
      | @sh v d' r =>
        have q : d' = d := Option.some.inj e2
        subst q
        exact ⟨v, rfl, r.mono le1 _ _⟩
      | @ow p xs ds hp ra =>
        have q : D.lst ds = d := Option.some.inj e2
        subst q
        exact ⟨.ref p, rfl, .lst (.inl (by rw [gin p ⟨i, by rw [hl]; exact List.mem_cons_self⟩]; exact hp)) (ra.mono le1 _ _)⟩
      | @o2 p qs dss hp ra =>
        have q : D.lst (dss.map D.lst) = d := Option.some.inj e2
        subst q
        have key : ∀ {qs : List Addr} {dss : List (List D)}, (∀ q ∈ qs, Ga q = H q) → L2s T H G qs dss → RpA T Ga (qs.map V.ref) (dss.map D.lst) := by
          intro qs dss hq l
          induction l with
          | nil => exact .nil
          | cons a b r ih => exact .cons (.lst (.inl (by rw [hq _ List.mem_cons_self]; exact a)) (b.mono le1 _ _)) (ih fun q h => hq q (List.mem_cons_of_mem _ h))
        exact ⟨.ref p, rfl, .lst (.inl (by rw [gin p ⟨i, by rw [hl]; exact List.mem_cons_self⟩]; exact hp)) (key (fun q hq => gin q ⟨i, by rw [hl]; exact List.mem_cons_of_mem _ hq⟩) ra)⟩
  · let G'' : Hp := fun a => @ite _ (∃ i, a ∈ fp i) (dec a) none (G' a)
    have gin' : ∀ a, (∃ i, a ∈ fp i) → G'' a = none := fun a h => @if_pos _ (dec a) h _ _ _
    have gout' : ∀ a, (¬ ∃ i, a ∈ fp i) → G'' a = G' a := fun a h => @if_neg _ (dec a) h _ _ _
    have gg : Grow H G H' G'' := ⟨g.hh, fun a o e => by rw [gout' a (out a o e)]; exact g.gg a o (le1 a o e), fun a o e => by
      by_cases q : ∃ i, a ∈ fp i
      · rw [gin' a q] at e; cases e
      · rw [gout' a q] at e; exact g.le a o e, fun a h k => by
      by_cases q : ∃ i, a ∈ fp i
      · exact (k (gin' a q)).elim
      · rw [gout' a q] at k
        exact g.nw a (by rw [gout a q]; exact h) k⟩
    exact ⟨G'', gg, h0.grow gg⟩
end
end DL

set_option Elab.async false
set_option linter.all false
set_option maxRecDepth 100000
set_option maxHeartbeats 4000000
namespace DL
open PySem PySem.Spec PyProof.Rows L2
def OutOk (T : CT) (H0 G0 Gf : Hp) (E : Ends) : Out → Prop
  | .nx s => ∀ σ H G, SR T H0 G0 Gf H G σ s → E.nx σ H
  | .bk s => ∀ σ H G, SR T H0 G0 Gf H G σ s → E.bk σ H
  | .ct s => ∀ σ H G, SR T H0 G0 Gf H G σ s → E.ct σ H
  | .rt d => ∀ v H G, Grow H0 G0 H G → Rp T G v d → E.rt v H
  | .ro ds => ∀ p xs H G, Grow H0 G0 H G → H0 p = none → H p = some (.lst xs) → G p = none → RpA T G xs ds → E.rt (.ref p) H
  | .r2 dss => ∀ p qs H G, Grow H0 G0 H G → H p = some (.lst (qs.map V.ref)) → (p :: qs).Nodup → (∀ a ∈ p :: qs, H0 a = none ∧ G a = none) → L2s T H G qs dss → E.rt (.ref p) H
def DenS (T : CT) (ts : TS) (g : Fs) : Prop := ∀ (H0 G0 Gf : Hp) (E : Ends) (σ : L2.St) (H G : Hp) (s : Sts) (o : Out), SR T H0 G0 Gf H G σ s → g s = some o → OutOk T H0 G0 Gf E o → ts E σ H
structure DS (K : PySem.W.Frag) (T : CT) (X : Cx) (st : Stmt) (t : TS) (g : Fs) : Prop where
  pe : PS X st t
  den : DenS T t g
structure DSs (K : PySem.W.Frag) (T : CT) (X : Cx) (st : List Stmt) (t : TS) (g : Fs) : Prop where
  pe : PSs X st t
  den : DenS T t g
section
variable {K : PySem.W.Frag} {T : CT} {X : Cx} {pos p : Pos}
variable {a b c e tg : Expr} {ta tb tc te : TE} {fa fb fc f : Fe} {es : List Expr} {tr : TA} {fr : Fl} {st : Stmt} {rest : List Stmt} {t u : TS} {g h : Fs}
theorem dss_nil : DSs K T X [] tNext sNext := ⟨pss_nil, fun H0 G0 Gf E σ H G s o sr e k => by
  have q : Out.nx s = o := Option.some.inj e
  subst q
  exact k σ H G sr⟩
theorem den_seq (h1 : DenS T t g) (h2 : DenS T u h) : DenS T (tSeq t u) (sSeq g h) := fun H0 G0 Gf E σ H G s o sr e k => by
  obtain ⟨o1, e1, e2⟩ := bind_some e
  refine h1 H0 G0 Gf _ σ H G s o1 sr e1 ?_
  cases o1 with
  | nx s' => exact fun σ' H' G' sr' => h2 H0 G0 Gf E σ' H' G' s' o sr' e2 k
  | rt d => have q : Out.rt d = o := Option.some.inj e2; subst q; exact k
  | ro d => have q : Out.ro d = o := Option.some.inj e2; subst q; exact k
  | r2 d => have q : Out.r2 d = o := Option.some.inj e2; subst q; exact k
  | bk d => have q : Out.bk d = o := Option.some.inj e2; subst q; exact k
  | ct d => have q : Out.ct d = o := Option.some.inj e2; subst q; exact k
theorem dss_cons (h1 : DS K T X st t g) (h2 : DSs K T X rest u h) : DSs K T X (st :: rest) (tSeq t u) (sSeq g h) := ⟨pss_cons h1.pe h2.pe, den_seq h1.den h2.den⟩
theorem dss_one (h1 : DS K T X st t g) : DSs K T X [st] t g := ⟨pss_one h1.pe, h1.den⟩
theorem den_frz (i : Nat) (h1 : DenS T t g) : DenS T t (sFrz i g) := fun H0 G0 Gf E σ H G s o sr e k => by
  unfold sFrz at e
  cases q : s[i]? with
  | none => rw [q] at e; exact h1 H0 G0 Gf E σ H G s o sr e k
  | some sl =>
    rw [q] at e
    cases sl with
    | no => exact h1 H0 G0 Gf E σ H G s o sr e k
    | sh d => exact h1 H0 G0 Gf E σ H G s o sr e k
    | ow ds =>
      obtain ⟨G', sr'⟩ := sr.frzOw q
      exact h1 H0 G0 Gf E σ H G' _ o sr' e k
    | o2 dss =>
      obtain ⟨G', sr'⟩ := sr.frzO2 q
      exact h1 H0 G0 Gf E σ H G' _ o sr' e k
theorem dss_frz (i : Nat) (h1 : DSs K T X rest t g) : DSs K T X rest t (sFrz i g) := ⟨h1.pe, den_frz i h1.den⟩
theorem ds_frz (i : Nat) (h1 : DS K T X st t g) : DS K T X st t (sFrz i g) := ⟨h1.pe, den_frz i h1.den⟩
theorem ds_pass : DS K T X (.Pass pos) tNext sNext := ⟨ps_pass, (dss_nil (K := K) (X := X)).den⟩
theorem ds_break : DS K T X (.Break pos) tBreak sBrk := ⟨ps_break, fun H0 G0 Gf E σ H G s o sr e k => by
  have q : Out.bk s = o := Option.some.inj e
  subst q
  exact k σ H G sr⟩
theorem ds_cont : DS K T X (.Continue pos) tCont sCnt := ⟨ps_continue, fun H0 G0 Gf E σ H G s o sr e k => by
  have q : Out.ct s = o := Option.some.inj e
  subst q
  exact k σ H G sr⟩
theorem ds_drop (he : DE K T X e te f) (hs : swapsWith e none pos.line X.env = pure false := by rfl) : DS K T X (.Expr e pos) (tDrop te) (sDrop f) := ⟨ps_expr he.pe hs, fun H0 G0 Gf E σ H G s o sr e k => by
  obtain ⟨d, e1, e2⟩ := map_some e
  subst e2
  obtain ⟨Ga, l, er, bk⟩ := sr.borrow
  refine he.den σ H Ga _ d l er e1 _ fun v H1 G1 g1 r1 => ?_
  obtain ⟨G2, _, sr2⟩ := bk H1 G1 g1
  exact k σ H1 G2 sr2⟩
theorem den_set {i : Nat} (he : Den T te f) : DenS T (tAsg te (L2.gName i)) (sSet i f) := fun H0 G0 Gf E σ H G s o sr e k => by
  obtain ⟨d, e1, e2⟩ := map_some e
  subst e2
  refine he σ H G _ d sr.gr.le sr.env e1 _ fun v H1 G1 g1 r1 => ?_
  exact k _ H1 G1 ((sr.grow g1).setSh i r1)
theorem scal_rp {G G' : Hp} {v : V} {d : D} (h : scal d = true) (r : Rp T G v d) : Rp T G' v d := by
  cases r with
  | non => exact .non
  | bl b => exact .bl b
  | int i => exact .int i
  | str x => exact .str x
  | lst _ _ => cases h
  | tup _ _ => cases h
  | obj _ _ _ => cases h
  | scr _ => cases h
theorem den_setA {i : Nat} (he : Den T te f) : DenS T (tAsg te (L2.gName i)) (sSetA i f) := fun H0 G0 Gf E σ H G s o sr e k => by
  obtain ⟨d, e1, e2⟩ := bind_some e
  by_cases c : scal d = true
  · rw [if_pos c] at e2
    have q := Option.some.inj e2
    subst q
    obtain ⟨Ga, l, er, bk⟩ := sr.borrow
    refine he σ H Ga _ d l er e1 _ fun v H1 G1 g1 r1 => ?_
    obtain ⟨G2, _, sr2⟩ := bk H1 G1 g1
    exact k _ H1 G2 (sr2.setSh i (scal_rp c r1))
  · rw [if_neg c] at e2
    cases e2
theorem den_own {i : Nat} {f : Fl} (he : DenL T te f) : DenS T (tAsg te (L2.gName i)) (sOwn i f) := fun H0 G0 Gf E σ H G s o sr e k => by
  obtain ⟨d, e1, e2⟩ := map_some e
  subst e2
  refine he σ H G _ d sr.gr.le sr.env e1 _ fun p xs H1 G1 g1 np hp gp r1 => ?_
  exact k _ H1 G1 (sr.setOw i g1 np hp gp r1)
theorem den_own2 {i : Nat} {f : Fll} (he : DenL2 T te f) : DenS T (tAsg te (L2.gName i)) (sOwn2 i f) := fun H0 G0 Gf E σ H G s o sr e k => by
  obtain ⟨d, e1, e2⟩ := map_some e
  subst e2
  refine he σ H G _ d sr.gr.le sr.env e1 _ fun p qs H1 G1 g1 hp nd fr r1 => ?_
  exact k _ H1 G1 (sr.setO2 i g1 hp nd fr r1)
variable {x : Str} {pos' : Pos}
theorem ds_set (i : Nat) (hN : X.N.Nodup) (he : DE K T X e te f) (hi : X.N[i]? = some x := by rfl) (hx : Loc X.env.scope x := by first | exact Or.inl rfl | exact Or.inr rfl) (hs : swapsWith e (some (.Name x pos')) pos.line X.env = pure false := by rfl) (hf : X.fn x = true ∨ X.env.scope.names.lookup x = some .local := by first | exact .inl rfl | exact .inr rfl | assumption) :
    DS K T X (.Assign [.Name x pos'] e pos) (tAsg te (L2.gName i)) (sSet i f) := ⟨ps_set hN hi hx he.pe hs hf, den_set he.den⟩
theorem ds_setA (i : Nat) (hN : X.N.Nodup) (he : DE K T X e te f) (hi : X.N[i]? = some x := by rfl) (hx : Loc X.env.scope x := by first | exact Or.inl rfl | exact Or.inr rfl) (hs : swapsWith e (some (.Name x pos')) pos.line X.env = pure false := by rfl) (hf : X.fn x = true ∨ X.env.scope.names.lookup x = some .local := by first | exact .inl rfl | exact .inr rfl | assumption) :
    DS K T X (.Assign [.Name x pos'] e pos) (tAsg te (L2.gName i)) (sSetA i f) := ⟨ps_set hN hi hx he.pe hs hf, den_setA he.den⟩
theorem ds_own (i : Nat) {f : Fl} (hN : X.N.Nodup) (he : DLs K T X e te f) (hi : X.N[i]? = some x := by rfl) (hx : Loc X.env.scope x := by first | exact Or.inl rfl | exact Or.inr rfl) (hs : swapsWith e (some (.Name x pos')) pos.line X.env = pure false := by rfl) (hf : X.fn x = true ∨ X.env.scope.names.lookup x = some .local := by first | exact .inl rfl | exact .inr rfl | assumption) :
    DS K T X (.Assign [.Name x pos'] e pos) (tAsg te (L2.gName i)) (sOwn i f) := ⟨ps_set hN hi hx he.pe hs hf, den_own he.den⟩
theorem ds_own2 (i : Nat) {f : Fll} (hN : X.N.Nodup) (he : DL2s K T X e te f) (hi : X.N[i]? = some x := by rfl) (hx : Loc X.env.scope x := by first | exact Or.inl rfl | exact Or.inr rfl) (hs : swapsWith e (some (.Name x pos')) pos.line X.env = pure false := by rfl) (hf : X.fn x = true ∨ X.env.scope.names.lookup x = some .local := by first | exact .inl rfl | exact .inr rfl | assumption) :
    DS K T X (.Assign [.Name x pos'] e pos) (tAsg te (L2.gName i)) (sOwn2 i f) := ⟨ps_set hN hi hx he.pe hs hf, den_own2 he.den⟩
theorem sr_sets {H0 G0 Gf H G : Hp} : ∀ {ps : List (Nat × V)} {as : List (Nat × D)} {σ : L2.St} {s : Sts}, SR T H0 G0 Gf H G σ s → ps.map (·.1) = as.map (·.1) → RpA T G (ps.map (·.2)) (as.map (·.2)) → SR T H0 G0 Gf H G (setsV σ ps) (setsS s as)
  | [], [], σ, s, sr, _, _ => sr
  | [], _ :: _, σ, s, sr, h, _ => by cases h
  | _ :: _, [], σ, s, sr, h, _ => by cases h
  | (i, v) :: ps, (j, d) :: as, σ, s, sr, h, r => by
    have h' : i = j ∧ ps.map (·.1) = as.map (·.1) := by simpa using h
    obtain ⟨rfl, h'⟩ := h'
    cases r with
    | cons r rr => exact sr_sets (σ := σ.set i (some v)) (s := s.set i (.sh d)) (sr.setSh i r) h' rr
theorem ds_asg {js : List Nat} {gt : TG} {gd : Ftg} (he : DE K T X e te f) (hg : DG K T X tg js gt gd) (hs : swapsWithSole [tg] e pos.line X.env = pure false := by rfl) (hw : swappedStores [tg] e X.env = pure none := by rfl)
    (h1 : (assignEach [tg] X.env).map (·.2) = [assign tg X.env] := by rfl) : DS K T X (.Assign [tg] e pos) (tAsg te gt) (sAsg f gd) := ⟨ps_asg he.pe hg.pe hs hw h1, fun H0 G0 Gf E σ H G s o sr e k => by
  obtain ⟨d, e1, e2⟩ := bind_some e
  obtain ⟨as, e3, e4⟩ := map_some e2
  subst e4
  refine he.den σ H G _ d sr.gr.le sr.env e1 _ fun v H1 G1 g1 r1 => ?_
  refine hg.den σ H1 G1 v d as g1.le r1 e3 _ fun ps pf pr => ?_
  exact k _ H1 G1 (sr_sets (sr.grow g1) pf pr)⟩
/-! ### y = [..] on one line -/
variable {elt iter : Expr} {ifs : List Expr} {scope : Scope} {own : List (Str × Nat)} {wi : TI} {gt : TG} {tt : TT} {src : Fl} {gd : Ftg} {ft : Ft} {fe : Fe} {js : List Nat} {y : Str} {py spos : Pos}
theorem ps_lcAs (i : Nat) (hN : X.N.Nodup) (ok : BlkOk X.N X.env.scope scope own) (hi : DI K T X tg iter wi src)
    (hg : ∀ (s : Shared) (H : Hp) (C : Addr) (cl : List (Str × Addr)) (fp : List Addr), PG (X.blk s H scope (compEnvC scope cl C X.env) fp) tg gt) (ht : ∀ (s : Shared) (H : Hp) (C : Addr) (cl : List (Str × Addr)) (fp : List Addr), PTs (X.blk s H scope (compEnvC scope cl C X.env) fp) ifs tt)
    (he : ∀ (s : Shared) (H : Hp) (C : Addr) (cl : List (Str × Addr)) (fp : List Addr), PE (X.blk s H scope (compEnvC scope cl C X.env) fp) elt te) (hy : X.N[i]? = some y) (hyl : X.env.scope.names.lookup y = some .local)
    (hsw : swapsWith (.ListComp elt [⟨tg, iter, ifs, 0⟩] scope pos) (some (.Name y py)) spos.line X.env = pure true) (hc : X.calm = true) (hs : ∀ x, foldedSetIterable iter X.env x = pure x) :
    PS X (.Assign [.Name y py] (.ListComp elt [⟨tg, iter, ifs, 0⟩] scope pos) spos) (tAsg (tLc wi gt tt te (own.map (·.2))) (L2.gName i)) := ps_setLc hc hN hy hyl hsw hi.pe ok hg ht he hs
theorem ds_lc (i : Nat) (hN : X.N.Nodup) (ok : BlkOk X.N X.env.scope scope own) (hi : DI K T X tg iter wi src)
    (hg : ∀ (s : Shared) (H : Hp) (C : Addr) (cl : List (Str × Addr)) (fp : List Addr), DG K T (X.blk s H scope (compEnvC scope cl C X.env) fp) tg js gt gd) (ht : ∀ (s : Shared) (H : Hp) (C : Addr) (cl : List (Str × Addr)) (fp : List Addr), DTs K T (X.blk s H scope (compEnvC scope cl C X.env) fp) ifs tt ft)
    (he : ∀ (s : Shared) (H : Hp) (C : Addr) (cl : List (Str × Addr)) (fp : List Addr), DE K T (X.blk s H scope (compEnvC scope cl C X.env) fp) elt te fe) (hsw : swapsWith (.ListComp elt [⟨tg, iter, ifs, 0⟩] scope pos) (some (.Name y py)) spos.line X.env = pure true) (hy : X.N[i]? = some y := by rfl) (hyl : X.env.scope.names.lookup y = some .local := by rfl)
    (hj : ∀ j ∈ js, j ∈ own.map (·.2) := by decide) (hc : X.calm = true := by rfl) (hs : ∀ x, foldedSetIterable iter X.env x = pure x := by intro _; rfl) :
    DS K T X (.Assign [.Name y py] (.ListComp elt [⟨tg, iter, ifs, 0⟩] scope pos) spos) (tAsg (tLc wi gt tt te (own.map (·.2))) (L2.gName i)) (sOwn i (fLc src gd ft fe (own.map (·.2)))) :=
  ⟨ps_lcAs i hN ok hi (fun s H C cl fp => (hg s H C cl fp).pe) (fun s H C cl fp => (ht s H C cl fp).pe) (fun s H C cl fp => (he s H C cl fp).pe) hy hyl hsw hc hs,
    den_own (den_lc hi.den ⟨tg, hg X.s_0 X.H_0 0 [] []⟩ (ht X.s_0 X.H_0 0 [] []).den (he X.s_0 X.H_0 0 [] []).den hj)⟩
theorem den_lcS {i : Nat} {f : Fl} (he : DenL T te f) : DenS T (tAsg te (L2.gName i)) (sSet i (fL f)) := den_set fun σ H G g d le er ef Q k => by
  obtain ⟨ds, e1, e2⟩ := map_some ef
  subst e2
  refine he σ H G g ds le er e1 Q fun p xs H' G' gr np hp gp ra => ?_
  exact k (.ref p) H' (upd G' p (.lst xs)) (gr.show np hp gp) (.lst (.inl upd_same) (ra.mono (Le.new gp) _ _))
theorem ds_lcS (i : Nat) (hN : X.N.Nodup) (ok : BlkOk X.N X.env.scope scope own) (hi : DI K T X tg iter wi src)
    (hg : ∀ (s : Shared) (H : Hp) (C : Addr) (cl : List (Str × Addr)) (fp : List Addr), DG K T (X.blk s H scope (compEnvC scope cl C X.env) fp) tg js gt gd) (ht : ∀ (s : Shared) (H : Hp) (C : Addr) (cl : List (Str × Addr)) (fp : List Addr), DTs K T (X.blk s H scope (compEnvC scope cl C X.env) fp) ifs tt ft)
    (he : ∀ (s : Shared) (H : Hp) (C : Addr) (cl : List (Str × Addr)) (fp : List Addr), DE K T (X.blk s H scope (compEnvC scope cl C X.env) fp) elt te fe) (hsw : swapsWith (.ListComp elt [⟨tg, iter, ifs, 0⟩] scope pos) (some (.Name y py)) spos.line X.env = pure true) (hy : X.N[i]? = some y := by rfl) (hyl : X.env.scope.names.lookup y = some .local := by rfl)
    (hj : ∀ j ∈ js, j ∈ own.map (·.2) := by decide) (hc : X.calm = true := by rfl) (hs : ∀ x, foldedSetIterable iter X.env x = pure x := by intro _; rfl) :
    DS K T X (.Assign [.Name y py] (.ListComp elt [⟨tg, iter, ifs, 0⟩] scope pos) spos) (tAsg (tLc wi gt tt te (own.map (·.2))) (L2.gName i)) (sSet i (fL (fLc src gd ft fe (own.map (·.2))))) :=
  ⟨ps_lcAs i hN ok hi (fun s H C cl fp => (hg s H C cl fp).pe) (fun s H C cl fp => (ht s H C cl fp).pe) (fun s H C cl fp => (he s H C cl fp).pe) hy hyl hsw hc hs,
    den_lcS (den_lc hi.den ⟨tg, hg X.s_0 X.H_0 0 [] []⟩ (ht X.s_0 X.H_0 0 [] []).den (he X.s_0 X.H_0 0 [] []).den hj)⟩
/-! ### if, return, for -/
theorem ds_if {c : Expr} {xa xb : List Stmt} {tc : TT} {fc : Ft} (hc : DT K T X c tc fc) (ha : DSs K T X xa t g) (hb : DSs K T X xb u h) : DS K T X (.If c xa xb pos) (tIfS tc t u) (sIf fc g h) := ⟨ps_if hc.pe ha.pe hb.pe, fun H0 G0 Gf E σ H G s o sr e k => by
  obtain ⟨d, e1, e2⟩ := bind_some e
  obtain ⟨Ga, l, er, bk⟩ := sr.borrow
  refine hc.den σ H Ga _ d l er e1 _ fun H1 G1 g1 => ?_
  obtain ⟨G2, _, sr2⟩ := bk H1 G1 g1
  cases d with
  | true => show t E σ H1; exact ha.den H0 G0 Gf E σ H1 G2 s o sr2 e2 k
  | false => show u E σ H1; exact hb.den H0 G0 Gf E σ H1 G2 s o sr2 e2 k⟩
theorem ds_ret (he : DE K T X e te f) : DS K T X (.Return (some e) pos) (tRet te) (sRet f) := ⟨ps_ret he.pe, fun H0 G0 Gf E σ H G s o sr e k => by
  obtain ⟨d, e1, e2⟩ := map_some e
  subst e2
  exact he.den σ H G _ d sr.gr.le sr.env e1 _ fun v H1 G1 g1 r1 => k v H1 G1 (sr.gr.trans g1) r1⟩
theorem ds_retA (he : DE K T X e te f) : DS K T X (.Return (some e) pos) (tRet te) (sRetA f) := ⟨ps_ret he.pe, fun H0 G0 Gf E σ H G s o sr e k => by
  obtain ⟨d, e1, e2⟩ := bind_some e
  by_cases c : scal d = true
  · rw [if_pos c] at e2
    have q := Option.some.inj e2
    subst q
    obtain ⟨Ga, l, er, bk⟩ := sr.borrow
    refine he.den σ H Ga _ d l er e1 _ fun v H1 G1 g1 r1 => ?_
    obtain ⟨G2, _, sr2⟩ := bk H1 G1 g1
    exact k v H1 G2 sr2.gr (scal_rp c r1)
  · rw [if_neg c] at e2
    cases e2⟩
theorem ds_retL {f : Fl} (he : DLs K T X e te f) : DS K T X (.Return (some e) pos) (tRet te) (sRetL f) := ⟨ps_ret he.pe, fun H0 G0 Gf E σ H G s o sr e k => by
  obtain ⟨d, e1, e2⟩ := map_some e
  subst e2
  exact he.den σ H G _ d sr.gr.le sr.env e1 _ fun p xs H1 G1 g1 np hp gp r1 => k p xs H1 G1 (sr.gr.trans g1) (sr.gr.hh.none np) hp gp r1⟩
theorem ds_ret2 {f : Fll} (he : DL2s K T X e te f) : DS K T X (.Return (some e) pos) (tRet te) (sRet2 f) := ⟨ps_ret he.pe, fun H0 G0 Gf E σ H G s o sr e k => by
  obtain ⟨d, e1, e2⟩ := map_some e
  subst e2
  exact he.den σ H G _ d sr.gr.le sr.env e1 _ fun p qs H1 G1 g1 hp nd fr r1 => k p qs H1 G1 (sr.gr.trans g1) hp nd (fun a ha => ⟨sr.gr.hh.none (fr a ha).1, (fr a ha).2⟩) r1⟩
theorem ds_retO (i : Nat) (hN : X.N[i]? = some x := by rfl) (hv : Vis X.env.scope x := by first | exact Or.inl rfl | exact Or.inr (Or.inl rfl) | exact Or.inr (Or.inr rfl)) (hd : (x == ("__debug__" : Str)) = false := by decide)
    (hcd : (x == ("__classdict__" : Str)) = false := by decide) : DS K T X (.Return (some (.Name x pos')) pos) (tRet (tVar i)) (sRetO i) := ⟨ps_ret (pe_var hN hv hd hcd), fun H0 G0 Gf E σ H G s o sr e k => by
  unfold sRetO at e
  obtain ⟨gr, fl, len, fp, f⟩ := sr
  cases q : s[i]? with
  | none => rw [q] at e; cases e
  | some sl =>
    rw [q] at e
    have oo := f.at_ i _ q
    cases hσ : σ[i]? with
    | none =>
      rw [hσ] at oo
      generalize fp i = l at oo
      cases oo
      cases e
    | some v =>
      rw [hσ] at oo
      generalize hl : fp i = l at oo
      cases oo with
      | no => cases e
      | sh r => cases e
      | @ow p xs ds hp ra =>
        have q := Option.some.inj e
        subst q
        obtain ⟨h1, h2, h3⟩ := f.own i p (by rw [hl]; exact List.mem_cons_self)
        exact ⟨.ref p, hσ, k p xs H G gr h1 hp h2 ra⟩
      | @o2 p qs dss hp ra =>
        have q := Option.some.inj e
        subst q
        exact ⟨.ref p, hσ, k p qs H G gr hp (by rw [← hl]; exact f.nd i) (fun a ha => by
          obtain ⟨h1, h2, h3⟩ := f.own i a (by rw [hl]; exact ha)
          exact ⟨h1, h2⟩) ra⟩⟩
theorem den_for {js : List Nat} {tb : TS} {gb : Fs} (hi : DenI T wi src) (hg : ∃ tg, DG K T X tg js gt gd) (hb : DenS T tb gb) : DenS T (tFor wi gt tb) (sFor src gd gb) := fun H0 G0 Gf E σ H G s o sr e k => by
  obtain ⟨_, hg⟩ := hg
  obtain ⟨ds, e1, e2⟩ := bind_some e
  refine hi σ H G _ ds sr.gr.le sr.env e1 _ fun J H1 G1 g1 ok => ?_
  have sr1 := sr.grow g1
  refine ⟨fun i m σ' H' => m = ds.length - i ∧ i ≤ ds.length ∧ ∃ G' s', SR T H0 G0 G1 H' G' σ' s' ∧ runFor gd gb (ds.drop i) s' = some o, ⟨ds.length, by omega, Nat.zero_le _, G1, s, ⟨sr1.gr, Le.refl _, sr1.len, sr1.fps⟩, e2⟩, ?_⟩
  rintro i m σ' H' ⟨rfl, hi', G', s', sr', er⟩
  by_cases hlt : i < ds.length
  · obtain ⟨ok1, _⟩ := ok H' G' sr'.fl sr'.gr.le
    have hd : ds[i]? = some ds[i] := List.getElem?_eq_getElem hlt
    obtain ⟨go, yl⟩ := ok1 i ds[i] hd
    have hdrop : ds.drop i = ds[i] :: ds.drop (i + 1) := List.drop_eq_getElem_cons hlt
    rw [hdrop] at er
    obtain ⟨as, a1, a2⟩ := bind_some er
    obtain ⟨o1, a3, a4⟩ := bind_some a2
    refine .inr ⟨go, fun σ'' H'' => i + 1 ≤ ds.length ∧ ∃ G'' s'', SR T H0 G0 G1 H'' G'' σ'' s'' ∧ runFor gd gb (ds.drop (i + 1)) s'' = some o, fun σ'' H'' ⟨q1, q2⟩ => ⟨ds.length - (i + 1), by omega, rfl, q1, q2⟩, fun x H2 y => ?_⟩
    obtain ⟨G2, g2, r2⟩ := yl x H2 y
    refine hg.den σ' H2 G2 x ds[i] as g2.le r2 a1 _ fun ps pf pr => ?_
    refine hb H0 G0 G1 _ _ H2 G2 _ o1 (sr_sets (sr'.grow g2) pf pr) a3 ?_
    cases o1 with
    | nx s2 => exact fun σ3 H3 G3 sr3 => ⟨hlt, G3, s2, sr3, a4⟩
    | ct s2 => exact fun σ3 H3 G3 sr3 => ⟨hlt, G3, s2, sr3, a4⟩
    | bk s2 =>
      have q := Option.some.inj a4
      subst q
      exact fun σ3 H3 G3 sr3 => k σ3 H3 G3 ⟨sr3.gr, (sr.fl.trans g1.gg).trans sr3.fl, sr3.len, sr3.fps⟩
    | rt d => have q := Option.some.inj a4; subst q; exact k
    | ro d => have q := Option.some.inj a4; subst q; exact k
    | r2 d => have q := Option.some.inj a4; subst q; exact k
  · have e : i = ds.length := by omega
    subst e
    obtain ⟨_, ok2⟩ := ok H' G' sr'.fl sr'.gr.le
    rw [List.drop_length] at er
    have q := Option.some.inj er
    subst q
    exact .inl ⟨ok2 _ (Nat.le_refl _), k σ' H' G' ⟨sr'.gr, (sr.fl.trans g1.gg).trans sr'.fl, sr'.len, sr'.fps⟩⟩
theorem ds_for {body : List Stmt} {tb : TS} {gb : Fs} (hp : PassesOwn (model X.prog X.w) X.A X.env X.xe) (hi : DI K T X tg iter wi src) (hg : DG K T X tg js gt gd) (hb : DSs K T X body tb gb) (hc : X.calm = true := by rfl) (hs : ∀ x, foldedSetIterable iter X.env x = pure x := by intro _; rfl) :
    DS K T X (.For tg iter body [] pos) (tFor wi gt tb) (sFor src gd gb) := ⟨ps_for hp hc hi.pe hg.pe hb.pe hs, den_for hi.den ⟨tg, hg⟩ hb.den⟩
theorem ds_never : DS K T X st tNever (fun _ => none) := ⟨ps_never, fun H0 G0 Gf E σ H G s o sr e k => by cases e⟩
end
end DL

set_option Elab.async false
set_option linter.all false
set_option maxRecDepth 100000
set_option maxHeartbeats 4000000
namespace DL
open PySem PySem.Spec PyProof.Rows L2
section
variable {K : PySem.W.Frag} {T : CT} {X : Cx} {pos p : Pos}
variable {a b c e tg : Expr} {ta tb tc te : TE} {fa fb fc f : Fe} {es : List Expr} {tr : TA} {fr : Fl} {st : Stmt} {rest : List Stmt} {t u : TS} {g h : Fs} {x : Str} {pos' : Pos}
/-! ### changes of lists of one's own -/
theorem den_app {i : Nat} (he : Den T te f) : DenS T (tDrop (tBM K "list" rAppend (tVar i) (tCons te tNil))) (sApp i f) := fun H0 G0 Gf E σ H G s o sr e k => by
  unfold sApp at e
  cases q : s[i]? with
  | none => rw [q] at e; cases e
  | some sl =>
    rw [q] at e
    cases sl with
    | ow ds =>
      obtain ⟨d, e1, e2⟩ := bind_some e
      by_cases c : ds.length < 1000000
      · rw [if_pos c] at e2
        have q2 := Option.some.inj e2
        subst q2
        obtain ⟨pp, xs, hσ, hp, ra, gp, n0, mu⟩ := sr.mutOw q
        refine ⟨.ref pp, hσ, .inl ⟨rfl, _, .inl (.inl hp)⟩, ?_⟩
        refine he σ H G _ d sr.gr.le sr.env e1 _ fun v H1 G1 g1 r1 => ?_
        have sr1 := sr.grow g1
        obtain ⟨p2, xs2, hσ2, hp2, ra2, gp2, n02, mu2⟩ := sr1.mutOw q
        have ep : pp = p2 := by
          rw [hσ] at hσ2
          injection hσ2 with z
          injection z with z
          injection z with z
        subst ep
        refine ⟨pp, xs2, v, rfl, rfl, hp2, by rw [ra2.length]; exact Nat.lt_of_lt_of_le c (big_line (Nat.le_refl _)), ?_⟩
        exact k σ _ G1 (mu2 _ _ (ra2.append (.cons r1 .nil)))
      · rw [if_neg c] at e2
        cases e2
    | _ => cases e
theorem ds_app (i : Nat) {mp : Pos} (he : DE K T X e te f) (hN : X.N[i]? = some x := by rfl) (hv : Vis X.env.scope x := by first | exact Or.inl rfl | exact Or.inr (Or.inl rfl) | exact Or.inr (Or.inr rfl)) (hd : (x == ("__debug__" : Str)) = false := by decide) (hcd : (x == ("__classdict__" : Str)) = false := by decide)
    (hbase : attributeBase (.Name x pos') "append" X.env (eval (.Name x pos') X.env) = eval (.Name x pos') X.env := by rfl) (hs : starEach [e] X.env = (false, eval e X.env) :: starEach [] X.env := by rfl) (hpl : (backTo p (starEach [] X.env)).any (·.1) = false := by rfl) (hline : (mp.endLine == p.line) = true := by rfl)
    (hfew : ((backTo p (starEach [e] X.env)).all (fun x => !x.1) && (backToKw p (keywordEach [] X.env)).all (fun x => x.1.isSome) && decide ([e].length + ([] : List Keyword).length + (if ([] : List Keyword).isEmpty then 0 else 1) < 30)) = true := by rfl)
    (hw : swapsWith (.Call (.Attribute (.Name x pos') "append" mp) [e] [] p) none pos.line X.env = pure false := by rfl) :
    DS K T X (.Expr (.Call (.Attribute (.Name x pos') "append" mp) [e] [] p) pos) (tDrop (tBM K "list" rAppend (tVar i) (tCons te tNil))) (sApp i f) := by
  obtain ⟨rfl, pe, de⟩ := he
  exact ⟨ps_expr (pe_bm PySem.F.plainAttrs_list PySem.F.slot_list_append PySem.F.type_list_append mt_append (pe_var hN hv hd hcd) (pa_cons pe pa_nil hs) hbase hfew hline hs hpl) hw, den_app de⟩
theorem den_ext {i : Nat} {f : Fl} (he : DenL T te f) : DenS T (tDrop (tBM K "list" rExtend (tVar i) (tCons te tNil))) (sExt i f) := fun H0 G0 Gf E σ H G s o sr e k => by
  unfold sExt at e
  cases q : s[i]? with
  | none => rw [q] at e; cases e
  | some sl =>
    rw [q] at e
    cases sl with
    | ow ds =>
      obtain ⟨d, e1, e2⟩ := bind_some e
      by_cases c : ds.length + d.length ≤ 1000000
      · rw [if_pos c] at e2
        have q2 := Option.some.inj e2
        subst q2
        obtain ⟨pp, xs, hσ, hp, ra, gp, n0, mu⟩ := sr.mutOw q
        refine ⟨.ref pp, hσ, .inl ⟨rfl, _, .inl (.inl hp)⟩, ?_⟩
        refine he σ H G _ d sr.gr.le sr.env e1 _ fun pn ys H1 G1 g1 np hpn gpn r1 => ?_
        have sr1 := sr.grow g1
        obtain ⟨p2, xs2, hσ2, hp2, ra2, gp2, n02, mu2⟩ := sr1.mutOw q
        have ep : pp = p2 := by
          rw [hσ] at hσ2
          injection hσ2 with z
          injection z with z
          injection z with z
        subst ep
        refine ⟨pp, pn, xs2, ys, rfl, rfl, hp2, hpn, by rw [ra2.length, r1.length]; exact big_line c, ?_⟩
        exact k σ _ G1 (mu2 _ _ (ra2.append r1))
      · rw [if_neg c] at e2
        cases e2
    | _ => cases e
theorem ds_ext (i : Nat) {f : Fl} {mp : Pos} (he : DLs K T X e te f) (hN : X.N[i]? = some x := by rfl) (hv : Vis X.env.scope x := by first | exact Or.inl rfl | exact Or.inr (Or.inl rfl) | exact Or.inr (Or.inr rfl)) (hd : (x == ("__debug__" : Str)) = false := by decide) (hcd : (x == ("__classdict__" : Str)) = false := by decide)
    (hbase : attributeBase (.Name x pos') "extend" X.env (eval (.Name x pos') X.env) = eval (.Name x pos') X.env := by rfl) (hs : starEach [e] X.env = (false, eval e X.env) :: starEach [] X.env := by rfl) (hpl : (backTo p (starEach [] X.env)).any (·.1) = false := by rfl) (hline : (mp.endLine == p.line) = true := by rfl)
    (hfew : ((backTo p (starEach [e] X.env)).all (fun x => !x.1) && (backToKw p (keywordEach [] X.env)).all (fun x => x.1.isSome) && decide ([e].length + ([] : List Keyword).length + (if ([] : List Keyword).isEmpty then 0 else 1) < 30)) = true := by rfl)
    (hw : swapsWith (.Call (.Attribute (.Name x pos') "extend" mp) [e] [] p) none pos.line X.env = pure false := by rfl) :
    DS K T X (.Expr (.Call (.Attribute (.Name x pos') "extend" mp) [e] [] p) pos) (tDrop (tBM K "list" rExtend (tVar i) (tCons te tNil))) (sExt i f) := by
  obtain ⟨rfl, pe, de⟩ := he
  exact ⟨ps_expr (pe_bm PySem.F.plainAttrs_list PySem.F.slot_list_extend PySem.F.type_list_extend mt_extend (pe_var hN hv hd hcd) (pa_cons pe pa_nil hs) hbase hfew hline hs hpl) hw, den_ext de⟩
/-! ### a list of lists of one's own, changed -/
theorem L2s.appAll {H G : Hp} {c : D} {cv : V} (r : Rp T G cv c) : ∀ {qs : List Addr} {dss : List (List D)}, L2s T H G qs dss → ∀ (H' : Hp), (∀ q ∈ qs, ∀ xs, H q = some (.lst xs) → H' q = some (.lst (xs ++ [cv]))) → L2s T H' G qs (dss.map fun ds => ds ++ [c])
  | _, _, .nil, _, _ => .nil
  | _, _, .cons a b rr, H', h => .cons (h _ List.mem_cons_self _ a) (b.append (.cons r .nil)) (L2s.appAll r rr H' fun q hq => h q (List.mem_cons_of_mem _ hq))
/-- the heap with the lists at qs longer by cv -/
def appH (H : Hp) (cv : V) (qs : List Addr) : Hp := fun a => if a ∈ qs then (match H a with
  | some (.lst xs) => some (.lst (xs ++ [cv]))
  | o => o) else H a
theorem SR.mutO2 {H0 G0 Gf H G : Hp} {σ : L2.St} {s : Sts} {i : Nat} {dss : List (List D)} (h : SR T H0 G0 Gf H G σ s) (hs : s[i]? = some (.o2 dss)) : ∃ (p : Addr) (qs : List Addr), σ[i]? = some (some (.ref p)) ∧ H p = some (.lst (qs.map V.ref)) ∧ L2s T H G qs dss ∧ (p :: qs).Nodup ∧ (∀ a ∈ p :: qs, H0 a = none ∧ G a = none) ∧
    ∀ H' qs' dss' G', (∀ a, a ∉ p :: qs → H' a = H a ∨ H a = none) → Grow H0 G0 H' G' → Le Gf G' → Le G G' → (∀ a, H a ≠ none → G' a = G a) → H' p = some (.lst (qs'.map V.ref)) → (p :: qs').Nodup → (∀ a ∈ p :: qs', (a ∈ p :: qs ∨ H a = none) ∧ H0 a = none ∧ G' a = none) → L2s T H' G' qs' dss' → SR T H0 G0 Gf H' G' σ (s.set i (.o2 dss')) := by
  obtain ⟨gr, fl, len, fp, f⟩ := h
  have o := f.at_ i _ hs
  cases hσ : σ[i]? with
  | none => rw [hσ] at o; cases o
  | some v =>
    rw [hσ] at o
    generalize hl : fp i = l at o
    cases o with
    | @o2 p qs _ hp ra =>
      have hm : ∀ a ∈ p :: qs, a ∈ fp i := fun a ha => by rw [hl]; exact ha
      refine ⟨p, qs, rfl, hp, ra, by rw [← hl]; exact f.nd i, fun a ha => ⟨(f.own i a (hm a ha)).1, (f.own i a (hm a ha)).2.1⟩, fun H' qs' dss' G' same gr' fl' lg old hp' nd' own' ra' => ⟨gr', fl', by rw [List.length_set]; exact len, fun j => if j = i then p :: qs' else fp j, fun j sl e => ?_, fun j => ?_, fun j k a hjk ha => ?_, fun j a ha => ?_⟩⟩
      · show OwnAt T H' G' σ[j]? sl (if j = i then p :: qs' else fp j)
        by_cases hj : j = i
        · subst hj
          rw [if_pos rfl]
          have hlt : j < s.length := (List.getElem?_eq_some_iff.mp hs).1
          rw [List.getElem?_set_self hlt] at e
          have q : Sl.o2 dss' = sl := Option.some.inj e
          subst q
          rw [hσ]
          exact .o2 hp' ra'
        · rw [if_neg hj]
          rw [List.getElem?_set_ne (Ne.symm hj)] at e
          refine (f.at_ j sl e).mono (fun a ha u q => ?_) lg
          have hout : a ∉ p :: qs := fun hz => f.apart i j a (Ne.symm hj) (hm a hz) ha
          rcases same a hout with z | z
          · rw [z]; exact q
          · rw [z] at q; cases q
      · show (if j = i then p :: qs' else fp j).Nodup
        split
        · exact nd'
        · exact f.nd j
      · have key : ∀ j a, j ≠ i → a ∈ fp j → a ∉ p :: qs' := fun j a hj ha hz => by
          rcases (own' a hz).1 with z | z
          · exact f.apart i j a (Ne.symm hj) (hm a z) ha
          · exact (f.own j a ha).2.2 z
        have ha' : a ∈ (if j = i then p :: qs' else fp j) := ha
        show a ∉ (if k = i then p :: qs' else fp k)
        by_cases hj : j = i
        · rw [if_pos hj] at ha'
          have hk : k ≠ i := fun z => hjk (hj.trans z.symm)
          rw [if_neg hk]
          exact fun hz => key k a hk hz ha'
        · rw [if_neg hj] at ha'
          by_cases hk : k = i
          · rw [if_pos hk]; exact key j a hj ha'
          · rw [if_neg hk]; exact f.apart j k a hjk ha'
      · have ha' : a ∈ (if j = i then p :: qs' else fp j) := ha
        by_cases hj : j = i
        · rw [if_pos hj] at ha'
          refine ⟨(own' a ha').2.1, (own' a ha').2.2, ?_⟩
          rcases List.mem_cons.mp ha' with z | z
          · rw [z, hp']; intro w; cases w
          · obtain ⟨xs, q⟩ := ra'.there a z
            rw [q]; intro w; cases w
        · rw [if_neg hj] at ha'
          obtain ⟨h1, h2, h3⟩ := f.own j a ha'
          refine ⟨h1, by rw [old a h3]; exact h2, ?_⟩
          have hout : a ∉ p :: qs := fun hz => f.apart i j a (Ne.symm hj) (hm a hz) ha'
          rcases same a hout with z | z
          · rw [z]; exact h3
          · exact (h3 z).elim
end
end DL

set_option Elab.async false
set_option linter.all false
set_option maxRecDepth 100000
set_option maxHeartbeats 4000000
namespace DL
open PySem PySem.Spec PyProof.Rows L2
section
variable {K : PySem.W.Frag} {T : CT} {X : Cx} {pos p : Pos}
variable {a b c e tg : Expr} {ta tb tc te : TE} {fa fb fc f : Fe} {es : List Expr} {tr : TA} {fr : Fl} {st : Stmt} {rest : List Stmt} {t u : TS} {g h : Fs} {x : Str} {pos' : Pos}
theorem refs_inj : ∀ {l m : List Addr}, l.map V.ref = m.map V.ref → l = m
  | [], [], _ => rfl
  | [], _ :: _, h => by cases h
  | _ :: _, [], h => by cases h
  | y :: l, z :: m, h => by
    rw [List.map_cons, List.map_cons] at h
    injection h with h1 h2
    injection h1 with h1
    rw [h1, refs_inj h2]
theorem den_app2 {i : Nat} {f : Fl} (he : DenL T te f) : DenS T (tDrop (tBM K "list" rAppend (tVar i) (tCons te tNil))) (sApp2 i f) := fun H0 G0 Gf E σ H G s o sr e k => by
  unfold sApp2 at e
  cases q : s[i]? with
  | none => rw [q] at e; cases e
  | some sl =>
    rw [q] at e
    cases sl with
    | o2 dss =>
      obtain ⟨d, e1, e2⟩ := bind_some e
      by_cases c : dss.length < 1000000
      · rw [if_pos c] at e2
        have q2 := Option.some.inj e2
        subst q2
        obtain ⟨pp, qs, hσ, hp, ra, nd, own, mu⟩ := sr.mutO2 q
        refine ⟨.ref pp, hσ, .inl ⟨rfl, _, .inl (.inl hp)⟩, ?_⟩
        refine he σ H G _ d sr.gr.le sr.env e1 _ fun pn ys H1 G1 g1 np hpn gpn r1 => ?_
        have hold : ∀ w ∈ pp :: qs, H w ≠ none := fun w hw z => by
          rcases List.mem_cons.mp hw with q | q
          · rw [q, hp] at z; cases z
          · obtain ⟨xs, hx⟩ := ra.there w q
            rw [hx] at z; cases z
        have pne : pn ∉ pp :: qs := fun hz => hold pn hz np
        have hpp : pn ≠ pp := fun z => pne (by rw [z]; exact List.mem_cons_self)
        have nq : pp ∉ qs := (List.nodup_cons.mp nd).1
        have hp1 := g1.hh _ _ hp
        refine ⟨pp, _, .ref pn, rfl, rfl, hp1, by rw [List.length_map, ra.length]; exact Nat.lt_of_lt_of_le c (big_line (Nat.le_refl _)), ?_⟩
        have gp : G1 pp = none := g1.keep (hold pp List.mem_cons_self) (own pp List.mem_cons_self).2
        have n0 : H0 pp = none := (own pp List.mem_cons_self).1
        have gr1 := sr.gr.trans g1
        refine k σ _ G1 (mu _ (qs ++ [pn]) _ G1 (fun a ha => ?_) ⟨gr1.hh.mut n0, gr1.gg, gr1.le.mut gp, gr1.nw⟩ (sr.fl.trans g1.gg) g1.gg (fun a ha => ?_) ?_ ?_ ?_ ?_)
        · rw [upd_ne (show a ≠ pp from fun z => ha (by rw [z]; exact List.mem_cons_self))]
          cases w : H a with
          | none => exact .inr rfl
          | some u => exact .inl (g1.hh a u w)
        · cases w : G a with
          | none => exact g1.keep ha w
          | some u => exact g1.gg a u w
        · rw [upd_same, List.map_append]
          rfl
        · rw [← List.cons_append]
          refine List.nodup_append.mpr ⟨nd, List.pairwise_singleton _ _, fun a ha b hb e => ?_⟩
          have e' : b = pn := by simpa using hb
          subst e'
          subst e
          exact pne ha
        · intro a ha
          rw [← List.cons_append] at ha
          rcases List.mem_append.mp ha with h | h
          · exact ⟨.inl h, (own a h).1, g1.keep (hold a h) (own a h).2⟩
          · have e' : a = pn := by simpa using h
            rw [e']
            exact ⟨.inr np, sr.gr.hh.none np, gpn⟩
        · refine ((ra.mono g1.gg fun q hq o e => ?_).append (.cons ?_ r1 .nil))
          · rw [upd_ne (show q ≠ pp from fun z => nq (z ▸ hq))]
            exact g1.hh q o e
          · rw [upd_ne hpp]
            exact hpn
      · rw [if_neg c] at e2
        cases e2
    | _ => cases e
theorem ds_app2 (i : Nat) {f : Fl} {mp : Pos} (he : DLs K T X e te f) (hN : X.N[i]? = some x := by rfl) (hv : Vis X.env.scope x := by first | exact Or.inl rfl | exact Or.inr (Or.inl rfl) | exact Or.inr (Or.inr rfl)) (hd : (x == ("__debug__" : Str)) = false := by decide) (hcd : (x == ("__classdict__" : Str)) = false := by decide)
    (hbase : attributeBase (.Name x pos') "append" X.env (eval (.Name x pos') X.env) = eval (.Name x pos') X.env := by rfl) (hs : starEach [e] X.env = (false, eval e X.env) :: starEach [] X.env := by rfl) (hpl : (backTo p (starEach [] X.env)).any (·.1) = false := by rfl) (hline : (mp.endLine == p.line) = true := by rfl)
    (hfew : ((backTo p (starEach [e] X.env)).all (fun x => !x.1) && (backToKw p (keywordEach [] X.env)).all (fun x => x.1.isSome) && decide ([e].length + ([] : List Keyword).length + (if ([] : List Keyword).isEmpty then 0 else 1) < 30)) = true := by rfl)
    (hw : swapsWith (.Call (.Attribute (.Name x pos') "append" mp) [e] [] p) none pos.line X.env = pure false := by rfl) :
    DS K T X (.Expr (.Call (.Attribute (.Name x pos') "append" mp) [e] [] p) pos) (tDrop (tBM K "list" rAppend (tVar i) (tCons te tNil))) (sApp2 i f) := by
  obtain ⟨rfl, pe, de⟩ := he
  exact ⟨ps_expr (pe_bm PySem.F.plainAttrs_list PySem.F.slot_list_append PySem.F.type_list_append mt_append (pe_var hN hv hd hcd) (pa_cons pe pa_nil hs) hbase hfew hline hs hpl) hw, den_app2 de⟩
/-! ### for v in xs: v.append(c) -/
theorem L2s.at {H G : Hp} : ∀ {qs : List Addr} {dss : List (List D)} {i : Nat} {q : Addr}, L2s T H G qs dss → qs[i]? = some q → ∃ xs ds, dss[i]? = some ds ∧ H q = some (.lst xs) ∧ RpA T G xs ds
  | _, _, _, _, .nil, h => by simp at h
  | _, _, 0, q, .cons (q := q') a b r, h => by
    have e : q' = q := by simpa using h
    subst e
    exact ⟨_, _, rfl, a, b⟩
  | _, _, i + 1, q, .cons a b r, h => by
    obtain ⟨xs, ds, h1, h2, h3⟩ := L2s.at (i := i) (q := q) r (by simpa using h)
    exact ⟨xs, ds, by simpa using h1, h2, h3⟩
theorem L2s.setAt {H G : Hp} {pq : Addr} {xs' : List V} {ds' : List D} : ∀ {qs : List Addr} {dss : List (List D)} {i : Nat}, L2s T H G qs dss → qs.Nodup → qs[i]? = some pq → RpA T G xs' ds' → L2s T (upd H pq (.lst xs')) G qs (dss.set i ds')
  | _, _, _, .nil, _, h, _ => by simp at h
  | _, _, 0, .cons (q := q') (qs := qs') a b r, nd, h, k => by
    have e : q' = pq := by simpa using h
    subst e
    have nd' := List.nodup_cons.mp nd
    exact .cons upd_same k (r.mono (Le.refl _) fun q hq o z => by
      rw [upd_ne (show q ≠ q' from fun w => nd'.1 (w ▸ hq))]
      exact z)
  | _, _, i + 1, .cons (q := q') (qs := qs') a b r, nd, h, k => by
    have nd' := List.nodup_cons.mp nd
    have h' : qs'[i]? = some pq := by simpa using h
    exact .cons (by
      rw [upd_ne (show q' ≠ pq from fun w => nd'.1 (by rw [w]; exact List.mem_of_getElem? h'))]
      exact a) b (L2s.setAt r nd'.2 h' k)
/-- the first i of the lists are longer -/
def appTo (c : D) (i : Nat) (dss : List (List D)) : List (List D) := (dss.take i).map (fun ds => ds ++ [c]) ++ dss.drop i
theorem appTo_succ (c : D) : ∀ (i : Nat) (dss : List (List D)) (ds : List D), dss[i]? = some ds → appTo c (i + 1) dss = (appTo c i dss).set i (ds ++ [c]) ∧ (appTo c i dss)[i]? = some ds
  | _, [], _, h => by simp at h
  | 0, d :: dss, ds, h => by
    have e : d = ds := by simpa using h
    subst e
    exact ⟨rfl, rfl⟩
  | i + 1, d :: dss, ds, h => by
    obtain ⟨h1, h2⟩ := appTo_succ c i dss ds (by simpa using h)
    refine ⟨?_, ?_⟩
    · show (d ++ [c]) :: appTo c (i + 1) dss = ((d ++ [c]) :: appTo c i dss).set (i + 1) (ds ++ [c])
      rw [h1, List.set_cons_succ]
    · show ((d ++ [c]) :: appTo c i dss)[i + 1]? = some ds
      rw [List.getElem?_cons_succ]
      exact h2
theorem SR.forget {H0 G0 Gf H G : Hp} {σ : L2.St} {s : Sts} (h : SR T H0 G0 Gf H G σ s) (j : Nat) : SR T H0 G0 Gf H G σ (s.set j .no) := by
  obtain ⟨gr, fl, len, fp, f⟩ := h
  refine ⟨gr, fl, by rw [List.length_set]; exact len, fun k => if k = j then [] else fp k, fun k sl e => ?_, fun k => ?_, fun k l a hkl ha => ?_, fun k a ha => ?_⟩
  · show OwnAt T H G σ[k]? sl (if k = j then [] else fp k)
    by_cases hk : k = j
    · subst hk
      rw [if_pos rfl]
      have hlt : k < s.length := by
        have := (List.getElem?_eq_some_iff.mp e).1
        rw [List.length_set] at this
        exact this
      rw [List.getElem?_set_self hlt] at e
      have q : Sl.no = sl := Option.some.inj e
      subst q
      exact .no
    · rw [if_neg hk]
      rw [List.getElem?_set_ne (Ne.symm hk)] at e
      exact f.at_ k sl e
  · show (if k = j then [] else fp k).Nodup
    split
    · exact List.nodup_nil
    · exact f.nd k
  · have ha' : a ∈ (if k = j then [] else fp k) := ha
    show a ∉ (if l = j then [] else fp l)
    by_cases hk : k = j
    · rw [if_pos hk] at ha'; cases ha'
    · rw [if_neg hk] at ha'
      by_cases hl : l = j
      · rw [if_pos hl]; intro z; cases z
      · rw [if_neg hl]; exact f.apart k l a hkl ha'
  · have ha' : a ∈ (if k = j then [] else fp k) := ha
    by_cases hk : k = j
    · rw [if_pos hk] at ha'; cases ha'
    · rw [if_neg hk] at ha'; exact f.own k a ha'
theorem den_appAll {i j : Nat} {c : D} {cv : V} (hij : i ≠ j) (hc : ∀ G, Rp T G cv c) : DenS T (tFor (fun σ H R => iList K (tVar i) σ H R ∨ iTup K (tVar i) σ H R) (L2.gName j) (tDrop (tBM K "list" rAppend (tVar j) (tCons (tC cv) tNil)))) (sAppAll i j c) := fun H0 G0 Gf E σ H G s o sr e k => by
  unfold sAppAll at e
  cases q : s[i]? with
  | none => rw [q] at e; cases e
  | some sl =>
    rw [q] at e
    cases sl with
    | o2 dss =>
      by_cases cc0 : (decide (j < s.length) && dss.all fun ds => decide (ds.length < 1000000)) = true
      · have e2 : (if (decide (j < s.length) && dss.all fun ds => decide (ds.length < 1000000)) = true then some (Out.nx ((s.set i (.o2 (dss.map fun ds => ds ++ [c]))).set j .no)) else none) = some o := e
        rw [if_pos cc0] at e2
        rw [Bool.and_eq_true] at cc0
        obtain ⟨cj, cc⟩ := cc0
        have hjj : j < σ.length := by rw [← sr.len]; exact of_decide_eq_true cj
        have q2 := Option.some.inj e2
        subst q2
        obtain ⟨pp, qs, hσ, hp, ra, nd, own, mu⟩ := sr.mutO2 q
        have nd' := List.nodup_cons.mp nd
        have hjl : ∀ (v : V), (σ.set j (some v))[i]? = some (some (.ref pp)) := fun v => by
          rw [List.getElem?_set_ne (Ne.symm hij)]; exact hσ
        refine .inl ⟨.ref pp, hσ, pp, rfl, ⟨_, .inl (.inl hp)⟩, ?_⟩
        -- the word: the first i' lists are longer, all else as it was
        let Hk : Nat → Hp → Prop := fun i' H' => (∀ a, a ∉ qs → H' a = H a) ∧ L2s T H' G qs (appTo c i' dss)
        refine for_list (K := K) (a := pp) (xs := qs.map V.ref) (fun i' σ' H' => (σ' = σ ∨ ∃ v, σ' = σ.set j (some v)) ∧ Hk i' H' ) ⟨.inl rfl, fun _ _ => rfl, by unfold appTo; exact ra⟩ (fun i' σ' H' _ ⟨_, h1, _⟩ => .inl (.inl (by rw [h1 pp nd'.1]; exact hp))) ?_ ?_
        · rintro i' xv σ' H' hx ⟨hσ', h1, h2⟩
          rw [List.getElem?_map] at hx
          obtain ⟨pq, x1, x2⟩ := map_some hx
          subst x2
          obtain ⟨xs, ds, d1, d2, d3⟩ := h2.at x1
          have hlen : σ'.length = σ.length := by
            rcases hσ' with z | ⟨v, z⟩
            · rw [z]
            · rw [z, List.length_set]
          have hd0 : dss[i']? = some ds := by
            have hi' : i' < dss.length := by
              have := (List.getElem?_eq_some_iff.mp x1).1
              rw [ra.length] at this
              exact this
            have z := (appTo_succ c i' dss dss[i'] (List.getElem?_eq_getElem hi')).2
            rw [z] at d1
            rw [List.getElem?_eq_getElem hi', Option.some.inj d1]
          have hdl : ds.length < 1000000 := by
            have z := List.all_eq_true.mp cc ds (List.mem_of_getElem? hd0)
            exact of_decide_eq_true z
          have hjn : ∀ v : V, List.set σ' j (some v) = List.set σ j (some v) := fun v => by
            rcases hσ' with z | ⟨w, z⟩
            · rw [z]
            · rw [z, List.set_set]
          show tDrop _ _ (σ'.set j (some (.ref pq))) H'
          refine ⟨.ref pq, by rw [List.getElem?_set_self (by rw [hlen]; exact hjj)], .inl ⟨rfl, _, .inl (.inl d2)⟩, pq, xs, cv, rfl, rfl, d2, by rw [d3.length]; exact Nat.lt_of_lt_of_le hdl (big_line (Nat.le_refl _)), ?_⟩
          refine ⟨.inr ⟨.ref pq, hjn _⟩, fun a ha => ?_, ?_⟩
          · rw [upd_ne (show a ≠ pq from fun z => ha (by rw [z]; exact List.mem_of_getElem? x1))]
            exact h1 a ha
          · rw [(appTo_succ c i' dss ds hd0).1]
            exact h2.setAt nd'.2 x1 (d3.append (.cons (hc G) .nil))
        · rintro σ' H' ⟨hσ', h1, h2⟩
          have hall : appTo c (qs.map V.ref).length dss = dss.map fun ds => ds ++ [c] := by
            unfold appTo
            rw [List.length_map, ra.length, List.take_length, List.drop_length, List.append_nil]
          rw [hall] at h2
          have hq0 : ∀ a ∈ qs, H0 a = none ∧ G a = none := fun a ha => own a (List.mem_cons_of_mem _ ha)
          have gr' : Grow H0 G0 H' G := by
            refine ⟨fun a u z => ?_, sr.gr.gg, fun a u z => ?_, sr.gr.nw⟩
            · rw [h1 a (fun w => by rw [(hq0 a w).1] at z; cases z)]
              exact sr.gr.hh a u z
            · rw [h1 a (fun w => by rw [(hq0 a w).2] at z; cases z)]
              exact sr.gr.le a u z
          have sr2 : SR T H0 G0 Gf H' G σ (s.set i (.o2 (dss.map fun ds => ds ++ [c]))) := by
            refine mu H' qs _ G (fun a ha => .inl (h1 a fun w => ha (List.mem_cons_of_mem _ w))) gr' sr.fl (Le.refl _) (fun _ _ => rfl) (by rw [h1 pp nd'.1]; exact hp) nd (fun a ha => ⟨.inl ha, own a ha⟩) h2
          rcases hσ' with z | ⟨v, z⟩
          · rw [z]
            exact k σ H' G (sr2.forget j)
          · rw [z]
            exact k _ H' G (sr2.setNo j)
      · have e2 : (if (decide (j < s.length) && dss.all fun ds => decide (ds.length < 1000000)) = true then some (Out.nx ((s.set i (.o2 (dss.map fun ds => ds ++ [c]))).set j .no)) else none) = some o := e
        rw [if_neg cc0] at e2
        cases e2
    | _ => cases e
end
end DL

set_option Elab.async false
set_option linter.all false
set_option maxRecDepth 100000
set_option maxHeartbeats 4000000
namespace DL
open PySem PySem.Spec PyProof.Rows L2
section
variable {K : PySem.W.Frag} {T : CT} {X : Cx} {pos p : Pos}
variable {a b c e tg : Expr} {ta tb tc te : TE} {fa fb fc f : Fe} {es : List Expr} {tr : TA} {fr : Fl} {st : Stmt} {rest : List Stmt} {t u : TS} {g h : Fs} {x : Str} {pos' : Pos}
theorem ds_appAll (i j : Nat) {l : Expr} {body : List Stmt} {c : Int} {gx : Fs} {fl : Fe} (hp : PassesOwn (model X.prog X.w) X.A X.env X.xe) (hl : DE K T X l (tVar i) fl) (hg : PG X tg (L2.gName j)) (hb : DSs K T X body (tDrop (tBM K "list" rAppend (tVar j) (tCons (tC (.int c)) tNil))) gx) (hij : i ≠ j := by decide) (hc : X.calm = true := by rfl) (hs : ∀ x, foldedSetIterable l X.env x = pure x := by intro _; rfl) :
    DS K T X (.For tg l body [] pos) (tFor (fun σ H R => iList K (tVar i) σ H R ∨ iTup K (tVar i) σ H R) (L2.gName j) (tDrop (tBM K "list" rAppend (tVar j) (tCons (tC (.int c)) tNil)))) (sAppAll i j (.int c)) := by
  obtain ⟨rfl, pl, _⟩ := hl
  exact ⟨ps_for hp hc (pi_or (pi_list pl) (pi_tup pl)) hg hb.pe hs, den_appAll hij fun _ => .int c⟩
/-! ### a, b = x, y -/
variable {px py pt pt2 : Pos} {kt k2 : Nat} {y : Str}
theorem ds_par (i j : Nat) (hN : X.N.Nodup) (ha : DE K T X a ta fa) (hb : DE K T X b tb fb) (hw : swappedStores [.Tuple [.Name x px, .Name y py] kt pt] (.Tuple [a, b] k2 pt2) X.env = pure (some [x, y])) (hi : X.N[i]? = some x := by rfl) (hj : X.N[j]? = some y := by rfl) (hij : i ≠ j := by decide)
    (hx : X.env.scope.names.lookup x = some .local := by rfl) (hy : X.env.scope.names.lookup y = some .local := by rfl) (hc : X.calm = true := by rfl) (hs : swapsWithSole [.Tuple [.Name x px, .Name y py] kt pt] (.Tuple [a, b] k2 pt2) pos.line X.env = pure false := by rfl)
    (h1 : starEach [a, b] X.env = (false, eval a X.env) :: starEach [b] X.env := by rfl) (h2 : starEach [b] X.env = (false, eval b X.env) :: starEach [] X.env := by rfl) :
    DS K T X (.Assign [.Tuple [.Name x px, .Name y py] kt pt] (.Tuple [a, b] k2 pt2) pos) (tPar i j (tCons ta (tCons tb tNil))) (sPar i j fa fb) :=
  ⟨ps_par hc hN hi hj hij hx hy (pa_cons ha.pe (pa_cons hb.pe pa_nil h2) h1) hw hs, fun H0 G0 Gf E σ H G s o sr e k => by
    obtain ⟨d, e1, e2⟩ := bind_some e
    obtain ⟨d', e3, e4⟩ := map_some e2
    subst e4
    refine ha.den σ H G _ d sr.gr.le sr.env e1 _ fun v H1 G1 g1 r1 => ?_
    have sr1 := sr.grow g1
    refine hb.den σ H1 G1 _ d' g1.le sr1.env e3 _ fun w H2 G2 g2 r2 => ?_
    exact ⟨v, w, rfl, k _ H2 G2 (((sr1.grow g2).setSh i (r1.mono g2.gg _ _)).setSh j r2)⟩⟩
theorem ds_parO (i j : Nat) {fb : Fl} (hN : X.N.Nodup) (ha : DE K T X a ta fa) (hb : DLs K T X b tb fb) (hw : swappedStores [.Tuple [.Name x px, .Name y py] kt pt] (.Tuple [a, b] k2 pt2) X.env = pure (some [x, y])) (hi : X.N[i]? = some x := by rfl) (hj : X.N[j]? = some y := by rfl) (hij : i ≠ j := by decide)
    (hx : X.env.scope.names.lookup x = some .local := by rfl) (hy : X.env.scope.names.lookup y = some .local := by rfl) (hc : X.calm = true := by rfl) (hs : swapsWithSole [.Tuple [.Name x px, .Name y py] kt pt] (.Tuple [a, b] k2 pt2) pos.line X.env = pure false := by rfl)
    (h1 : starEach [a, b] X.env = (false, eval a X.env) :: starEach [b] X.env := by rfl) (h2 : starEach [b] X.env = (false, eval b X.env) :: starEach [] X.env := by rfl) :
    DS K T X (.Assign [.Tuple [.Name x px, .Name y py] kt pt] (.Tuple [a, b] k2 pt2) pos) (tPar i j (tCons ta (tCons tb tNil))) (sParO i j fa fb) :=
  ⟨ps_par hc hN hi hj hij hx hy (pa_cons ha.pe (pa_cons hb.pe pa_nil h2) h1) hw hs, fun H0 G0 Gf E σ H G s o sr e k => by
    obtain ⟨d, e1, e2⟩ := bind_some e
    obtain ⟨d', e3, e4⟩ := map_some e2
    subst e4
    refine ha.den σ H G _ d sr.gr.le sr.env e1 _ fun v H1 G1 g1 r1 => ?_
    have sr1 := sr.grow g1
    refine hb.den σ H1 G1 _ d' g1.le sr1.env e3 _ fun pn xs H2 G2 g2 np hp gp r2 => ?_
    exact ⟨v, .ref pn, rfl, k _ H2 G2 ((sr1.setSh i r1).setOw j g2 np hp gp r2)⟩⟩
end
/-! ### a def -/
section
variable {P : Program} {w : World} {K : PySem.W.Frag} {mg : Str → Option Value} {base : Heap} {T : CT}
theorem start_get {N : List Str} {vs : List V} {i : Nat} {v : V} (h : vs[i]? = some v) : (L2.start N vs)[i]? = some (some v) := by
  unfold L2.start
  have hi : i < vs.length := (List.getElem?_eq_some_iff.mp h).1
  rw [List.getElem?_append_left (by rw [List.length_map]; exact hi), List.getElem?_map, h]
  rfl
theorem sr_start {N : List Str} {vs : List V} {ds : List D} {H G : Hp} (le : Le G H) (ra : RpA T G vs ds) : SR T H G G H G (L2.start N vs) (st0 N.length ds) := by
  refine ⟨.refl le, Le.refl _, ?_, fun _ => [], fun i sl e => ?_, fun _ => List.nodup_nil, fun _ _ _ _ z => (by cases z), fun _ _ z => (by cases z)⟩
  · unfold st0 L2.start
    rw [List.length_append, List.length_append, List.length_map, List.length_map, List.length_replicate, List.length_replicate, ra.length]
  · unfold st0 at e
    by_cases hi : i < ds.length
    · rw [List.getElem?_append_left (by rw [List.length_map]; exact hi), List.getElem?_map, List.getElem?_eq_getElem hi] at e
      have q : Sl.sh ds[i] = sl := Option.some.inj e
      subst q
      obtain ⟨v, h1, h2⟩ := ra.get (List.getElem?_eq_getElem hi)
      rw [start_get h1]
      exact .sh h2
    · rw [List.getElem?_append_right (by rw [List.length_map]; omega)] at e
      have q : Sl.no = sl := by
        obtain ⟨h1, h2⟩ := List.getElem?_eq_some_iff.mp e
        rw [List.getElem_replicate] at h2
        exact h2
      subst q
      exact .no
variable {x qual : Str} {st : Stmt} {f : Addr} {fd : FuncData} {N ps : List Str} {k : Nat} {g : Fs}
theorem fnD (F : Fun K x qual st f fd) (S : FnScope N ps (defScope st))
    (body : ∀ (cdv : Value) (A : Around) (outer : List PySem.Env) (s : Shared) (H : Hp) (E : XK), Room k (A.deeper (envOfC qual (defScope st) s.heap.objs.size f cdv)) → ∃ t, DSs K T (cxOf CX0 P w K mg base N qual (defScope st) f cdv A outer s H E).nox (defBody st) t g) :
    FnOk P w K mg base CX0 (k + 1) f fd ps (spD T (runD ps.length N.length g)) := by
  refine F.ok S (fun vs H Q E h => ?_) (fun cdv A outer s H vs Q E hr h => ?_)
  · obtain ⟨G, ds, d, le, ra, e, _⟩ := h
    rw [ra.length]
    unfold runD at e
    by_cases c : ds.length = ps.length
    · exact c
    · rw [if_neg c] at e; cases e
  · obtain ⟨G, ds, d, le, ra, e, q⟩ := h
    obtain ⟨t, b⟩ := body cdv A outer s H E hr
    unfold runD at e
    by_cases c : ds.length = ps.length
    · rw [if_pos c] at e
      obtain ⟨o, e1, e2⟩ := bind_some e
      refine ⟨t, b.pe, b.den H G G _ _ H G _ o (sr_start le ra) e1 ?_⟩
      cases o with
      | nx s' =>
        have z := Option.some.inj e2
        subst z
        exact fun σ H' G' sr => q .non H' G' sr.gr .non
      | rt z =>
        have z' := Option.some.inj e2
        subst z'
        exact fun v H' G' gr r => q v H' G' gr r
      | ro z =>
        have z' := Option.some.inj e2
        subst z'
        exact fun p xs H' G' gr np hp gp r => q (.ref p) H' (upd G' p (.lst xs)) (gr.show np hp gp) (.lst (.inl upd_same) (r.mono (Le.new gp) _ _))
      | r2 z =>
        have z' := Option.some.inj e2
        subst z'
        refine fun p qs H' G' gr hp nd fr r => q (.ref p) H' (vis G' H' (p :: qs)) (vis_grow gr fr) (.lst (xs := qs.map V.ref) (.inl ?_) ?_)
        · rw [vis_in List.mem_cons_self]; exact hp
        · exact L2s.rpa (fun a ha => (fr a ha).2) (fun a ha => List.mem_cons_of_mem _ ha) r
      | bk z => cases e2
      | ct z => cases e2
    · rw [if_neg c] at e; cases e
theorem fnL (F : Fun K x qual st f fd) (S : FnScope N ps (defScope st))
    (body : ∀ (cdv : Value) (A : Around) (outer : List PySem.Env) (s : Shared) (H : Hp) (E : XK), Room k (A.deeper (envOfC qual (defScope st) s.heap.objs.size f cdv)) → ∃ t, DSs K T (cxOf CX0 P w K mg base N qual (defScope st) f cdv A outer s H E).nox (defBody st) t g) :
    FnOk P w K mg base CX0 (k + 1) f fd ps (spL T (runL ps.length N.length g)) := by
  refine F.ok S (fun vs H Q E h => ?_) (fun cdv A outer s H vs Q E hr h => ?_)
  · obtain ⟨G, ds, d, le, ra, e, _⟩ := h
    rw [ra.length]
    unfold runL at e
    by_cases c : ds.length = ps.length
    · exact c
    · rw [if_neg c] at e; cases e
  · obtain ⟨G, ds, d, le, ra, e, q⟩ := h
    obtain ⟨t, b⟩ := body cdv A outer s H E hr
    unfold runL at e
    by_cases c : ds.length = ps.length
    · rw [if_pos c] at e
      obtain ⟨o, e1, e2⟩ := bind_some e
      refine ⟨t, b.pe, b.den H G G _ _ H G _ o (sr_start le ra) e1 ?_⟩
      cases o with
      | ro z =>
        have z' := Option.some.inj e2
        subst z'
        exact fun p xs H' G' gr np hp gp r => q p xs H' G' gr np hp gp r
      | r2 z =>
        have z' := Option.some.inj e2
        subst z'
        refine fun p qs H' G' gr hp nd fr r => ?_
        have nd' := List.nodup_cons.mp nd
        have fq : ∀ a ∈ qs, H a = none ∧ G' a = none := fun a ha => fr a (List.mem_cons_of_mem _ ha)
        refine q p _ H' (vis G' H' qs) (vis_grow gr fq) (fr p List.mem_cons_self).1 hp ?_ (L2s.rpa (fun a ha => (fq a ha).2) (fun _ h => h) r)
        rw [vis_out nd'.1]
        exact (fr p List.mem_cons_self).2
      | nx z => cases e2
      | rt z => cases e2
      | bk z => cases e2
      | ct z => cases e2
    · rw [if_neg c] at e; cases e
theorem fn2 (F : Fun K x qual st f fd) (S : FnScope N ps (defScope st))
    (body : ∀ (cdv : Value) (A : Around) (outer : List PySem.Env) (s : Shared) (H : Hp) (E : XK), Room k (A.deeper (envOfC qual (defScope st) s.heap.objs.size f cdv)) → ∃ t, DSs K T (cxOf CX0 P w K mg base N qual (defScope st) f cdv A outer s H E).nox (defBody st) t g) :
    FnOk P w K mg base CX0 (k + 1) f fd ps (sp2 T (run2 ps.length N.length g)) := by
  refine F.ok S (fun vs H Q E h => ?_) (fun cdv A outer s H vs Q E hr h => ?_)
  · obtain ⟨G, ds, d, le, ra, e, _⟩ := h
    rw [ra.length]
    unfold run2 at e
    by_cases c : ds.length = ps.length
    · exact c
    · rw [if_neg c] at e; cases e
  · obtain ⟨G, ds, d, le, ra, e, q⟩ := h
    obtain ⟨t, b⟩ := body cdv A outer s H E hr
    unfold run2 at e
    by_cases c : ds.length = ps.length
    · rw [if_pos c] at e
      obtain ⟨o, e1, e2⟩ := bind_some e
      refine ⟨t, b.pe, b.den H G G _ _ H G _ o (sr_start le ra) e1 ?_⟩
      cases o with
      | r2 z =>
        have z' := Option.some.inj e2
        subst z'
        exact fun p qs H' G' gr hp nd fr r => q p qs H' G' gr hp nd fr r
      | nx z => cases e2
      | rt z => cases e2
      | ro z => cases e2
      | bk z => cases e2
      | ct z => cases e2
    · rw [if_neg c] at e; cases e
end
end DL

set_option linter.all false
set_option maxRecDepth 100000
set_option maxHeartbeats 4000000
/-! Plain laws about the data functions: nothing of the machine. -/
namespace DL
open PySem
theorem seen_sh (d : D) : seen (.sh d) = some d := rfl
theorem seen_no : seen .no = none := rfl
theorem seen_ow (d : List D) : seen (.ow d) = none := rfl
theorem seen_o2 (d : List (List D)) : seen (.o2 d) = none := rfl
theorem seenA_sh (d : D) : seenA (.sh d) = some d := rfl
theorem seenA_no : seenA .no = none := rfl
theorem seenA_ow (d : List D) : seenA (.ow d) = some (.lst d) := rfl
theorem seenA_o2 (d : List (List D)) : seenA (.o2 d) = some (.lst (d.map .lst)) := rfl
theorem toB_bl (b : Bool) : toB (.bl b) = some b := rfl
theorem toI_int (b : Int) : toI (.int b) = some b := rfl
theorem toL_lst (b : List D) : toL (.lst b) = some b := rfl
theorem toLs_lst (b : List D) : toLs (.lst b) = some b := rfl
theorem toLs_scr (b : List Int) : toLs (.scr b) = some (b.map .int) := rfl
theorem one_1 (op : D → Option D) (d : D) : one op [d] = op d := rfl
theorem two_2 (op : D → D → Option D) (d e : D) : two op [d, e] = op d e := rfl
theorem oneL_1 (op : D → Option (List D)) (d : D) : oneL op [d] = op d := rfl
theorem dEq_int (a b : Int) : dEq (.int a) (.int b) = some (.bl (a == b)) := rfl
theorem dNe_int (a b : Int) : dNe (.int a) (.int b) = some (.bl (!(a == b))) := rfl
theorem dMod_int {a b : Int} (h : 0 < b) : dMod (.int a) (.int b) = some (.int (a % b)) := if_pos h
theorem dDiv_int {a b : Int} (h : 0 < b) (h' : b < 1073741824) : dDiv (.int a) (.int b) = some (.int (a / b)) := if_pos ⟨h, h'⟩
theorem dMul_int {a b : Int} (h : mulOk a b) : dMul (.int a) (.int b) = some (.int (a * b)) := if_pos h
theorem dAdd_int (a b : Int) : dAdd (.int a) (.int b) = some (.int (a + b)) := rfl
theorem dSub_int (a b : Int) : dSub (.int a) (.int b) = some (.int (a - b)) := rfl
theorem dAdd_lst {a b : List D} (h : a.length + b.length ≤ 1000000) : dAdd (.lst a) (.lst b) = some (.lst (a ++ b)) := if_pos h
theorem dCat_lst {a b : List D} (h : a.length + b.length ≤ 1000000) : dCat (.lst a) (.lst b) = some (a ++ b) := if_pos h
theorem dLen_lst (a : List D) : dLen (.lst a) = some (.int a.length) := rfl
theorem dLen_scr (a : List Int) : dLen (.scr a) = some (.int a.length) := rfl
theorem dLt_int (a b : Int) : dLt (.int a) (.int b) = some (.bl (decide (a < b))) := rfl
theorem dLe_int (a b : Int) : dLe (.int a) (.int b) = some (.bl (decide (a ≤ b))) := rfl
theorem dGt_int (a b : Int) : dGt (.int a) (.int b) = some (.bl (decide (b < a))) := rfl
theorem dGe_int (a b : Int) : dGe (.int a) (.int b) = some (.bl (decide (b ≤ a))) := rfl
theorem dNot_bl (a : Bool) : dNot (.bl a) = some (.bl (!a)) := rfl
theorem dNeg_int (a : Int) : dNeg (.int a) = some (.int (-a)) := rfl
theorem dAbs_int (a : Int) : dAbs (.int a) = some (.int (if a < 0 then -a else a)) := rfl
theorem dIx_lst (xs : List D) (i : Int) : dIx (.lst xs) (.int i) = (ixD xs.length i).bind fun j => xs[j]? := rfl
theorem dIx_tup (xs : List D) (i : Int) : dIx (.tup xs) (.int i) = (ixD xs.length i).bind fun j => xs[j]? := rfl
theorem ixD_nat {n i : Nat} (h : i < n) : ixD n (i : Int) = some i := by
  unfold ixD
  rw [if_pos (by omega), if_pos (by omega)]
  rfl
theorem dList_lst (xs : List D) : dList (.lst xs) = some xs := rfl
theorem dList_tup (xs : List D) : dList (.tup xs) = some xs := rfl
theorem dIs_int_int (i : Int) : dIs .int (.int i) = some (.bl true) := rfl
theorem dIs_bool_int (i : Int) : dIs .bool (.int i) = some (.bl false) := rfl
theorem dIs_bool_bl (i : Bool) : dIs .bool (.bl i) = some (.bl true) := rfl
theorem dIs_list_lst (i : List D) : dIs .list (.lst i) = some (.bl true) := rfl
/-! ### comprehensions -/
theorem lcM_map {h : D → Option (Option D)} {α : Type} {e : α → D} (f : α → D) : ∀ (xs : List α), (∀ x ∈ xs, h (e x) = some (some (f x))) → lcM h (xs.map e) = some (xs.map f)
  | [], _ => rfl
  | x :: xs, k => by
    rw [List.map_cons, lcM, k x List.mem_cons_self, lcM_map f xs fun y hy => k y (List.mem_cons_of_mem _ hy)]
    rfl
theorem lcM2_map {h : D → Option (Option (List D))} {α : Type} {e : α → D} (f : α → List D) : ∀ (xs : List α), (∀ x ∈ xs, h (e x) = some (some (f x))) → lcM2 h (xs.map e) = some (xs.map f)
  | [], _ => rfl
  | x :: xs, k => by
    rw [List.map_cons, lcM2, k x List.mem_cons_self, lcM2_map f xs fun y hy => k y (List.mem_cons_of_mem _ hy)]
    rfl
/-- a comprehension without a test, over items e x -/
theorem fLc_map {src : Fl} {tg : Ftg} {fe : Fe} {vs : List Nat} {g : Env} {α : Type} {e : α → D} {xs : List α} (as : α → List (Nat × D)) (f : α → D) (hs : src g = some (xs.map e)) (hl : xs.length ≤ 1000000)
    (ht : ∀ x ∈ xs, tg (e x) = some (as x)) (hf : ∀ x ∈ xs, fe (setsE (wipeE g vs) (as x)) = some (f x)) : fLc src tg bYes fe vs g = some (xs.map f) := by
  unfold fLc
  rw [hs, Option.bind_some, if_pos (by rw [List.length_map]; exact hl)]
  refine lcM_map f xs fun x hx => ?_
  rw [ht x hx, Option.bind_some, bYes, Option.bind_some, if_pos rfl, hf x hx]
  rfl
theorem fLc2_map {src : Fl} {tg : Ftg} {fe : Fl} {vs : List Nat} {g : Env} {α : Type} {e : α → D} {xs : List α} (as : α → List (Nat × D)) (f : α → List D) (hs : src g = some (xs.map e)) (hl : xs.length ≤ 1000000)
    (ht : ∀ x ∈ xs, tg (e x) = some (as x)) (hf : ∀ x ∈ xs, fe (setsE (wipeE g vs) (as x)) = some (f x)) : fLc2 src tg bYes fe vs g = some (xs.map f) := by
  unfold fLc2
  rw [hs, Option.bind_some, if_pos (by rw [List.length_map]; exact hl)]
  refine lcM2_map f xs fun x hx => ?_
  rw [ht x hx, Option.bind_some, bYes, Option.bind_some, if_pos rfl, hf x hx]
  rfl
theorem bools_map {α : Type} (f : α → Bool) : ∀ xs : List α, bools (xs.map fun x => D.bl (f x)) = some (xs.map f)
  | [] => rfl
  | x :: xs => by rw [List.map_cons, bools, bools_map f xs]; rfl
theorem ints_map : ∀ xs : List Int, intsD (xs.map D.int) = some xs
  | [] => rfl
  | x :: xs => by rw [List.map_cons, intsD, ints_map xs]; rfl
theorem dAll_map {α : Type} (f : α → Bool) (xs : List α) : dAll (.lst (xs.map fun x => D.bl (f x))) = some (.bl (xs.all f)) := by
  show (bools (xs.map fun x => D.bl (f x))).map (fun bs => D.bl (bs.all id)) = _
  rw [bools_map]
  show some (D.bl ((xs.map f).all id)) = _
  rw [List.all_map]
  rfl
theorem dAny_map {α : Type} (f : α → Bool) (xs : List α) : dAny (.lst (xs.map fun x => D.bl (f x))) = some (.bl (xs.any f)) := by
  show (bools (xs.map fun x => D.bl (f x))).map (fun bs => D.bl (bs.any id)) = _
  rw [bools_map]
  show some (D.bl ((xs.map f).any id)) = _
  rw [List.any_map]
  rfl
theorem dSum_map (xs : List Int) : dSum (.lst (xs.map D.int)) = some (.int xs.sum) := by
  show (intsD (xs.map D.int)).map (fun ns => D.int ns.sum) = _
  rw [ints_map]
  rfl
/-! ### loops -/
theorem runFor_inv {tg : Ftg} {body : Fs} {ds : List D} (I : Nat → Sts → Prop) {s : Sts} (h0 : I 0 s)
    (step : ∀ (i : Nat) (d : D) (s : Sts), ds[i]? = some d → I i s → ∃ as s', tg d = some as ∧ body (setsS s as) = some (.nx s') ∧ I (i + 1) s') : ∃ s', runFor tg body ds s = some (.nx s') ∧ I ds.length s' := by
  have key : ∀ (n i : Nat) (s : Sts), ds.length - i = n → i ≤ ds.length → I i s → ∃ s', runFor tg body (ds.drop i) s = some (.nx s') ∧ I ds.length s' := by
    intro n
    induction n with
    | zero =>
      intro i s hn hi hI
      have e : i = ds.length := by omega
      subst e
      rw [List.drop_length]
      exact ⟨s, rfl, hI⟩
    | succ n ih =>
      intro i s hn hi hI
      have hlt : i < ds.length := by omega
      rw [List.drop_eq_getElem_cons hlt]
      obtain ⟨as, s', h1, h2, h3⟩ := step i ds[i] s (List.getElem?_eq_getElem hlt) hI
      obtain ⟨s'', h4, h5⟩ := ih (i + 1) s' (by omega) (by omega) h3
      refine ⟨s'', ?_, h5⟩
      rw [runFor, h1, Option.bind_some, h2, Option.bind_some]
      exact h4
  exact key ds.length 0 s rfl (Nat.zero_le _) h0
theorem seq_nx {a b : Fs} {s s' : Sts} (h : a s = some (.nx s')) : sSeq a b s = b s' := by unfold sSeq; rw [h]; rfl
theorem set_nx {i : Nat} {f : Fe} {s : Sts} {d : D} (h : f (vw s) = some d) : sSet i f s = some (.nx (s.set i (.sh d))) := by unfold sSet; rw [h]; rfl
theorem own_nx {i : Nat} {f : Fl} {s : Sts} {d : List D} (h : f (vw s) = some d) : sOwn i f s = some (.nx (s.set i (.ow d))) := by unfold sOwn; rw [h]; rfl
theorem own2_nx {i : Nat} {f : Fll} {s : Sts} {d : List (List D)} (h : f (vw s) = some d) : sOwn2 i f s = some (.nx (s.set i (.o2 d))) := by unfold sOwn2; rw [h]; rfl
theorem if_f {t : Ft} {a b : Fs} {s : Sts} (h : t (vwA s) = some false) : sIf t a b s = b s := by unfold sIf; rw [h]; rfl
theorem if_t {t : Ft} {a b : Fs} {s : Sts} (h : t (vwA s) = some true) : sIf t a b s = a s := by unfold sIf; rw [h]; rfl
theorem skip_nx {t : Ft} {a : Fs} {s : Sts} (h : t (vwA s) = some false) : sIf t a sNext s = some (.nx s) := if_f h
theorem for_eq {src : Fl} {tg : Ftg} {b : Fs} {s : Sts} {ds : List D} (h : src (vw s) = some ds) : sFor src tg b s = runFor tg b ds s := by unfold sFor; rw [h]; rfl
theorem for_inv {src : Fl} {tg : Ftg} {b : Fs} {s : Sts} {ds : List D} (h : src (vw s) = some ds) (I : Nat → Sts → Prop) (h0 : I 0 s)
    (step : ∀ (i : Nat) (d : D) (s : Sts), ds[i]? = some d → I i s → ∃ as s', tg d = some as ∧ b (setsS s as) = some (.nx s') ∧ I (i + 1) s') : ∃ s', sFor src tg b s = some (.nx s') ∧ I ds.length s' := by
  rw [for_eq h]
  exact runFor_inv I h0 step
theorem for_inv' {src : Fl} {tg : Ftg} {b : Fs} {s : Sts} {ds : List D} (h : src (vw s) = some ds) (I : Sts → Prop) (h0 : I s)
    (step : ∀ d ∈ ds, ∀ s, I s → ∃ as s', tg d = some as ∧ b (setsS s as) = some (.nx s') ∧ I s') : ∃ s', sFor src tg b s = some (.nx s') ∧ I s' :=
  for_inv h (fun _ => I) h0 fun _ d s hd hI => step d (List.mem_of_getElem? hd) s hI
/-- a ≤ x < b as the text's chain -/
def inR (a b x : Int) : Bool := decide (a ≤ x) && decide (x < b)
theorem chain_in (a b x : Int) : (if decide (a ≤ x) = true then some (D.bl (decide (x < b))) else some (D.bl false)) = some (D.bl (inR a b x)) := by
  unfold inR
  by_cases h : a ≤ x
  · rw [decide_eq_true h, if_pos rfl]; rfl
  · rw [decide_eq_false h, if_neg (by decide)]; rfl
theorem inR_true {a b x : Int} (h : a ≤ x) (h' : x < b) : inR a b x = true := by unfold inR; rw [decide_eq_true h, decide_eq_true h']; rfl
theorem inR_iff {a b x : Int} : inR a b x = true ↔ a ≤ x ∧ x < b := by unfold inR; rw [Bool.and_eq_true, decide_eq_true_iff, decide_eq_true_iff]
/-! ### equality of plain data -/
theorem eqds_ints : ∀ xs ys : List Int, eqds (xs.map D.int) (ys.map D.int) = decide (xs = ys)
  | [], [] => rfl
  | [], _ :: _ => rfl
  | _ :: _, [] => rfl
  | x :: xs, y :: ys => by
    rw [List.map_cons, List.map_cons, eqds, eqds_ints xs ys, eqd]
    by_cases h : x = y
    · subst h
      by_cases k : xs = ys
      · subst k; simp
      · simp [k]
    · simp [h]
def cD (c : List Int) : D := .lst (c.map .int)
def csD (cs : List (List Int)) : D := .lst (cs.map cD)
theorem eqd_c (xs ys : List Int) : eqd (cD xs) (cD ys) = decide (xs = ys) := by
  unfold cD
  rw [eqd, eqds_ints]
theorem eqds_cs : ∀ xs ys : List (List Int), eqds (xs.map cD) (ys.map cD) = decide (xs = ys)
  | [], [] => rfl
  | [], _ :: _ => rfl
  | _ :: _, [] => rfl
  | x :: xs, y :: ys => by
    rw [List.map_cons, List.map_cons, eqds, eqds_cs xs ys, eqd_c]
    by_cases h : x = y
    · subst h
      by_cases k : xs = ys
      · subst k; simp
      · simp [k]
    · simp [h]
theorem okn_ints (n : Nat) (xs : List Int) : (xs.map D.int).all (okn n) = true := by
  rw [List.all_map, List.all_eq_true]
  intro x _
  show okn n (.int x) = true
  cases n <;> rfl
theorem okn_c (n : Nat) (xs : List Int) : okn (n + 1) (cD xs) = true := okn_ints n xs
theorem okn_cs (n : Nat) (xs : List (List Int)) : okn (n + 2) (csD xs) = true := by
  show (xs.map cD).all (okn (n + 1)) = true
  rw [List.all_map, List.all_eq_true]
  intro x _
  exact okn_c n x
theorem dNe_c (xs ys : List Int) : dNe (cD xs) (cD ys) = some (.bl (!decide (xs = ys))) := by
  show (if okn 6 (cD xs) && okn 6 (cD ys) then some (D.bl (!eqd (cD xs) (cD ys))) else none) = _
  rw [okn_c, okn_c, eqd_c]
  rfl
theorem dEq_c (xs ys : List Int) : dEq (cD xs) (cD ys) = some (.bl (decide (xs = ys))) := by
  unfold dEq
  rw [okn_c, okn_c, eqd_c]
  rfl
theorem dNe_cs (xs ys : List (List Int)) : dNe (csD xs) (csD ys) = some (.bl (!decide (xs = ys))) := by
  show (if okn 6 (csD xs) && okn 6 (csD ys) then some (D.bl (!eqd (csD xs) (csD ys))) else none) = _
  rw [okn_cs, okn_cs]
  unfold csD
  rw [eqd, eqds_cs]
  rfl
theorem dEq_cs (xs ys : List (List Int)) : dEq (csD xs) (csD ys) = some (.bl (decide (xs = ys))) := by
  unfold dEq
  rw [okn_cs, okn_cs]
  unfold csD
  rw [eqd, eqds_cs]
  rfl
theorem dNe_lc (xs ys : List Int) : dNe (.lst (xs.map .int)) (.lst (ys.map .int)) = some (.bl (!decide (xs = ys))) := dNe_c xs ys
theorem o2_cs (T : List (List Int)) : D.lst ((T.map fun r => r.map D.int).map .lst) = csD T := by rw [List.map_map]; rfl
theorem dIs_list_c (c : List Int) : dIs .list (cD c) = some (.bl true) := rfl
theorem dIs_list_cs (c : List (List Int)) : dIs .list (csD c) = some (.bl true) := rfl
theorem dLen_c (c : List Int) : dLen (cD c) = some (.int c.length) := by unfold cD; rw [dLen_lst, List.length_map]
theorem dLen_cs (c : List (List Int)) : dLen (csD c) = some (.int c.length) := by unfold csD; rw [dLen_lst, List.length_map]
theorem dList_c (c : List Int) : dList (cD c) = some (c.map .int) := rfl
theorem dList_cs (c : List (List Int)) : dList (csD c) = some (c.map cD) := rfl
theorem toL_c (c : List Int) : toL (cD c) = some (c.map .int) := rfl
theorem toL_cs (c : List (List Int)) : toL (csD c) = some (c.map cD) := rfl
theorem toLs_c (c : List Int) : toLs (cD c) = some (c.map .int) := rfl
theorem toLs_cs (c : List (List Int)) : toLs (csD c) = some (c.map cD) := rfl
theorem dIx_c {c : List Int} {i : Int} {n : Nat} {x : Int} (e : i = (n : Int)) (h : c[n]? = some x) : dIx (cD c) (.int i) = some (.int x) := by
  have hn : n < (c.map D.int).length := by rw [List.length_map]; exact (List.getElem?_eq_some_iff.mp h).1
  unfold cD
  rw [dIx_lst, e, ixD_nat hn, Option.bind_some, List.getElem?_map, h]
  rfl
theorem dIx_cs {c : List (List Int)} {i : Int} {n : Nat} {x : List Int} (e : i = (n : Int)) (h : c[n]? = some x) : dIx (csD c) (.int i) = some (cD x) := by
  have hn : n < (c.map cD).length := by rw [List.length_map]; exact (List.getElem?_eq_some_iff.mp h).1
  unfold csD
  rw [dIx_lst, e, ixD_nat hn, Option.bind_some, List.getElem?_map, h]
  rfl
theorem lst_c (c : List Int) : D.lst (c.map .int) = cD c := rfl
theorem lst_cs (c : List (List Int)) : D.lst (c.map cD) = csD c := rfl
theorem dAll_c {α : Type} (f : α → Bool) (xs : List α) : dAll (.lst (xs.map fun x => D.bl (f x))) = some (.bl (xs.all f)) := dAll_map f xs
theorem pairs_zip {α β : Type} (f : α → D) (g : β → D) : ∀ (xs : List α) (ys : List β), pairs (xs.map f) (ys.map g) = (xs.zip ys).map fun p => .tup [f p.1, g p.2]
  | [], _ => rfl
  | _ :: _, [] => rfl
  | x :: xs, y :: ys => by
    show D.tup [f x, g y] :: pairs (xs.map f) (ys.map g) = _
    rw [pairs_zip f g xs ys]
    rfl
end DL

set_option linter.all false
set_option maxRecDepth 100000
namespace CT
open PySem DL
/-! ### the data functions (printed by gen.py) -/
def g_is_whole : Fs := (sRet (fAnd (fIs .int (fVar 0)) (fU dNot (fIs .bool (fVar 0)))))
def F_is_whole : List D → Option D := runD 1 1 g_is_whole
theorem E_is_whole (x0 : D) : F_is_whole [x0] = (g_is_whole [.sh x0]).bind outD := rfl
def c_is_cube_1 : Fl := fLc (iSeq (fVar 0)) (gtN 2) bYes (fAnd (fCall F_is_whole (aCons (fVar 2) aNil)) (fChain dLe dLt (fC (.int 0)) (fVar 2) (fVar 1))) [2]
def g_is_cube : Fs := (sRet (fAnd (fIs .list (fVar 0)) (fAnd (fB dEq (fCall (one dLen) (aCons (fVar 0) aNil)) (fC (.int 6))) (fCall (one dAll) (aCons (fL c_is_cube_1) aNil)))))
def F_is_cube : List D → Option D := runD 2 3 g_is_cube
theorem E_is_cube (x0 x1 : D) : F_is_cube [x0, x1] = (g_is_cube [.sh x0, .sh x1, .no]).bind outD := rfl
def c_asked_cubes_1 : Fl := fLc (iSeq (fVar 0)) (gtN 1) bYes (fCall F_is_cube (aCons (fVar 1) (aCons (fCall (one dLen) (aCons (fVar 0) aNil)) aNil))) [1]
def g_asked_cubes : Fs := (sSeq (sIf (bOr (bNot (bB (fIs .list (fVar 0)))) (bNot (bB (fChain dLe dLe (fC (.int 1)) (fCall (one dLen) (aCons (fVar 0) aNil)) (fC (.int 5))))))
    (fun _ => none)
    sNext)
    (sIf (bNot (bB (fCall (one dAll) (aCons (fL c_asked_cubes_1) aNil))))
    (fun _ => none)
    sNext))
def F_asked_cubes : List D → Option D := runD 1 2 g_asked_cubes
theorem E_asked_cubes (x0 : D) : F_asked_cubes [x0] = (g_asked_cubes [.sh x0, .no]).bind outD := rfl
def c_asked_layings_1 : Fl := fLc (iSeq (fVar 1)) (gtN 2) bYes (fAnd (fCall F_is_whole (aCons (fVar 2) aNil)) (fChain dLe dLt (fC (.int 0)) (fVar 2) (fC (.int 24)))) [2]
def g_asked_layings : Fs := (sSeq (sIf (bOr (bNot (bB (fIs .list (fVar 1)))) (bB (fB dNe (fCall (one dLen) (aCons (fVar 1) aNil)) (fCall (one dLen) (aCons (fVar 0) aNil)))))
    (fun _ => none)
    sNext)
    (sIf (bNot (bB (fCall (one dAll) (aCons (fL c_asked_layings_1) aNil))))
    (fun _ => none)
    sNext))
def F_asked_layings : List D → Option D := runD 2 3 g_asked_layings
theorem E_asked_layings (x0 x1 : D) : F_asked_layings [x0, x1] = (g_asked_layings [.sh x0, .sh x1, .no]).bind outD := rfl
def g_ring_of : Fs := (sSeq (sAsg (fVar 0) (gtU [2, 3, 4, 5, 6, 7]))
    (sRet (fB dIx (fTup (aCons (fL (fDisp (aCons (fVar 2) (aCons (fVar 4) (aCons (fVar 3) (aCons (fVar 5) aNil)))))) (aCons (fL (fDisp (aCons (fVar 6) (aCons (fVar 4) (aCons (fVar 7) (aCons (fVar 5) aNil)))))) (aCons (fL (fDisp (aCons (fVar 2) (aCons (fVar 6) (aCons (fVar 3) (aCons (fVar 7) aNil)))))) aNil)))) (fVar 1))))
def F_ring_of : List D → Option D := runD 2 8 g_ring_of
theorem E_ring_of (x0 x1 : D) : F_ring_of [x0, x1] = (g_ring_of [.sh x0, .sh x1, .no, .no, .no, .no, .no, .no]).bind outD := rfl
def g_laid : Fs := (sSeq (sSet 2 (fCall F_ring_of (aCons (fVar 0) (aCons (fB dDiv (fVar 1) (fC (.int 8))) aNil))))
    (sSeq (sIf (bB (fB dEq (fB dMod (fB dDiv (fVar 1) (fC (.int 4))) (fC (.int 2))) (fC (.int 1))))
    (sSet 2 (fL (fRev (fVar 2))))
    sNext)
    (sSeq (sSet 3 (fB dMod (fVar 1) (fC (.int 4))))
    (sRetL (fBL dCat (fL (fSlice (fVar 2) (oSome (fVar 3)) oNone)) (fL (fSlice (fVar 2) oNone (oSome (fVar 3)))))))))
def F_laid : List D → Option (List D) := runL 2 4 g_laid
theorem E_laid (x0 x1 : D) : F_laid [x0, x1] = (g_laid [.sh x0, .sh x1, .no, .no]).bind outL := rfl
def g_sides : Fs := (sSeq (sIf (bNot (bB (fCall F_is_cube (aCons (fVar 0) (aCons (fC (.int 5)) aNil)))))
    (fun _ => none)
    sNext)
    (sSeq (sIf (bOr (bNot (bB (fCall F_is_whole (aCons (fVar 1) aNil)))) (bNot (bB (fChain dLe dLt (fC (.int 0)) (fVar 1) (fC (.int 24))))))
    (fun _ => none)
    sNext)
    (sRetL (fCallL F_laid (aCons (fVar 0) (aCons (fVar 1) aNil))))))
def F_sides : List D → Option (List D) := runL 2 2 g_sides
theorem E_sides (x0 x1 : D) : F_sides [x0, x1] = (g_sides [.sh x0, .sh x1]).bind outL := rfl
def c_tower_of_1 : Fll := fLc2 (iZipD (fVar 0) (fVar 1)) (gtT [4, 5]) bYes (fCallL F_laid (aCons (fVar 4) (aCons (fVar 5) aNil))) [4, 5]
def c_tower_of_2 : Fl := fLc (iSeq (fVar 2)) (gtN 6) bYes (fB dIx (fVar 6) (fVar 3)) [6]
def c_tower_of_3 : Fll := fLc2 (iRange (fC (.int 4))) (gtN 3) bYes c_tower_of_2 [3]
def g_tower_of : Fs := (sSeq (sSet 2 (fL (fLL c_tower_of_1)))
    (sRet2 c_tower_of_3))
def F_tower_of : List D → Option (List (List D)) := run2 2 7 g_tower_of
theorem E_tower_of (x0 x1 : D) : F_tower_of [x0, x1] = (g_tower_of [.sh x0, .sh x1, .no, .no, .no, .no, .no]).bind out2 := rfl
def g_tower : Fs := (sSeq (sDrop (fCall F_asked_cubes (aCons (fVar 0) aNil)))
    (sSeq (sDrop (fCall F_asked_layings (aCons (fVar 0) (aCons (fVar 1) aNil))))
    (sRet2 (fCall2 F_tower_of (aCons (fVar 0) (aCons (fVar 1) aNil))))))
def F_tower : List D → Option (List (List D)) := run2 2 2 g_tower
theorem E_tower (x0 x1 : D) : F_tower [x0, x1] = (g_tower [.sh x0, .sh x1]).bind out2 := rfl
def g_law_number : Fs := (sSeq (sIf (bB (fB dGe (fVar 0) (fB dPow (fC (.int 10)) (fC (.int 18)))))
    (sRet (fB dDiv (fVar 0) (fB dAdd (fC (.int 1)) (fB dMod (fVar 1) (fC (.int 7))))))
    sNext)
    (sSeq (sSet 3 (fB dMod (fB dAdd (fB dMul (fB dAdd (fVar 0) (fB dMul (fC (.int 977)) (fVar 1))) (fC (.int 48271))) (fVar 2)) (fC (.int 2147483647))))
    (sSeq (sSet 4 (fB dMul (fVar 3) (fB dAdd (fB dAdd (fVar 0) (fB dMul (fC (.int 31)) (fVar 1))) (fC (.int 7)))))
    (sRet (fB dDiv (fB dMul (fB dMul (fVar 4) (fB dAdd (fB dAdd (fVar 3) (fVar 0)) (fC (.int 5)))) (fB dAdd (fB dMul (fVar 3) (fVar 3)) (fC (.int 11)))) (fB dAdd (fC (.int 1009)) (fVar 1)))))))
def F_law_number : List D → Option D := runD 3 5 g_law_number
theorem E_law_number (x0 x1 x2 : D) : F_law_number [x0, x1, x2] = (g_law_number [.sh x0, .sh x1, .sh x2, .no, .no]).bind outD := rfl
def c_law_cubes_1 : Fl := fLc (iRange (fC (.int 6))) (gtN 11) bYes (fB dMod (fB dDiv (fVar 8) (fB dAdd (fC (.int 1)) (fB dMul (fC (.int 7)) (fVar 11)))) (fVar 5)) [11]
def b_law_cubes_1 : Fs := (sSeq (sSet 8 (fB dDiv (fCall F_law_number (aCons (fB dIx (fVar 3) (fB dMod (fB dAdd (fVar 7) (fVar 1)) (fCall (one dLen) (aCons (fVar 3) aNil)))) (aCons (fB dAdd (fVar 7) (fVar 1)) (aCons (fVar 4) aNil)))) (fC (.int 3))))
    (sSeq (sSet 9 (fL c_law_cubes_1))
    (sSeq (sIf (bB (fB dGt (fB dMod (fB dDiv (fVar 4) (fVar 2)) (fC (.int 3))) (fC (.int 0))))
    (sSeq (sSet 10 (fL (fDisp (aCons (fB dMod (fB dAdd (fVar 7) (fVar 4)) (fVar 5)) (aCons (fB dMod (fB dAdd (fVar 7) (fB dDiv (fVar 4) (fC (.int 5)))) (fVar 5)) aNil)))))
    (sSeq (sSet 10 (fL (fBL dCat (fVar 10) (fL (fDisp (aCons (fB dMod (fB dSub (fB dMul (fC (.int 2)) (fVar 5)) (fVar 7)) (fVar 5)) (aCons (fB dMod (fB dAdd (fVar 7) (fB dDiv (fVar 4) (fC (.int 7)))) (fVar 5)) aNil)))))))
    (sSet 9 (fL (fBL dCat (fVar 10) (fL (fSlice (fVar 9) (oSome (fC (.int 4))) oNone)))))))
    sNext)
    (sSeq (sIf (bB (fB dEq (fB dMod (fVar 8) (fC (.int 3))) (fC (.int 1))))
    (sSet 9 (fL (fBL dCat (fL (fSlice (fVar 9) (oSome (fC (.int 2))) oNone)) (fL (fSlice (fVar 9) oNone (oSome (fC (.int 2))))))))
    sNext)
    (sApp 6 (fVar 9))))))
def g_law_cubes : Fs := (sSeq (sSet 3 (fL (fIfL (bB (fB dNe (fVar 0) (fL (fDisp aNil)))) (fSlice (fVar 0) oNone (oSome (fC (.int 63)))) (fDisp (aCons (fC (.int 5)) aNil)))))
    (sSeq (sSet 4 (fB dAdd (fCall (one dAbs) (aCons (fCall (one dSum) (aCons (fVar 3) aNil)) aNil)) (fVar 1)))
    (sSeq (sSet 5 (fB dAdd (fC (.int 1)) (fB dMod (fVar 4) (fVar 2))))
    (sSeq (sOwn 6 (fDisp aNil))
    (sSeq (sFor (iRange (fVar 5)) (gtN 7) b_law_cubes_1)
    (sRetO 6))))))
def F_law_cubes : List D → Option (List D) := runL 3 12 g_law_cubes
theorem E_law_cubes (x0 x1 x2 : D) : F_law_cubes [x0, x1, x2] = (g_law_cubes [.sh x0, .sh x1, .sh x2, .no, .no, .no, .no, .no, .no, .no, .no, .no]).bind outL := rfl
def c_law_laid_1 : Fl := fLc (iRange (fC (.int 4))) (gtN 3) bYes (fB dIx (fVar 0) (fB dIx (fVar 2) (fB dMod (fB dAdd (fVar 3) (fVar 1)) (fC (.int 4))))) [3]
def g_law_laid : Fs := (sSeq (sSet 2 (fB dIx (fTup (aCons (fTup (aCons (fC (.int 0)) (aCons (fC (.int 2)) (aCons (fC (.int 1)) (aCons (fC (.int 3)) aNil))))) (aCons (fTup (aCons (fC (.int 4)) (aCons (fC (.int 2)) (aCons (fC (.int 5)) (aCons (fC (.int 3)) aNil))))) (aCons (fTup (aCons (fC (.int 0)) (aCons (fC (.int 4)) (aCons (fC (.int 1)) (aCons (fC (.int 5)) aNil))))) aNil)))) (fB dDiv (fVar 1) (fC (.int 8)))))
    (sSeq (sIf (bB (fB dGt (fB dMod (fVar 1) (fC (.int 8))) (fC (.int 3))))
    (sSet 2 (fTup (aCons (fB dIx (fVar 2) (fC (.int 3))) (aCons (fB dIx (fVar 2) (fC (.int 2))) (aCons (fB dIx (fVar 2) (fC (.int 1))) (aCons (fB dIx (fVar 2) (fC (.int 0))) aNil))))))
    sNext)
    (sRetL c_law_laid_1)))
def F_law_laid : List D → Option (List D) := runL 2 4 g_law_laid
theorem E_law_laid (x0 x1 : D) : F_law_laid [x0, x1] = (g_law_laid [.sh x0, .sh x1, .no, .no]).bind outL := rfl
def c_law_copied_1 : Fll := fLc2 (iSeq (fVar 0)) (gtN 1) bYes (fCallL (oneL dList) (aCons (fVar 1) aNil)) [1]
def g_law_copied : Fs := (sRet2 c_law_copied_1)
def F_law_copied : List D → Option (List (List D)) := run2 1 2 g_law_copied
theorem E_law_copied (x0 : D) : F_law_copied [x0] = (g_law_copied [.sh x0, .no]).bind out2 := rfl
def b_law_1 : Fs := (sSeq (sOwn 11 (fCallL F_sides (aCons (fB dIx (fVar 5) (fC (.int 0))) (aCons (fVar 6) aNil))))
    (sSeq (sIf (bOr (bNot (bB (fIs .list (fVar 11)))) (bOr (bB (fB dNe (fVar 11) (fL (fCallL F_law_laid (aCons (fB dIx (fVar 4) (fC (.int 0))) (aCons (fVar 6) aNil)))))) (bB (fB dNe (fVar 5) (fVar 4)))))
    (sRet (fC (.bl false)))
    sNext)
    (sApp 11 (fC (.int 0)))))
def b_law_2 : Fs := (sFor (iRange (fC (.int 2))) (gtN 10) b_law_1)
def c_law_1 : Fl := fLc (iRange (fCall (one dLen) (aCons (fVar 4) aNil))) (gtN 13) bYes (fB dMod (fCall F_law_number (aCons (fB dAdd (fVar 1) (fVar 13)) (aCons (fVar 2) (aCons (fC (.int 5)) aNil)))) (fC (.int 24))) [13]
def c_law_2 : Fll := fLc2 (iZipD (fVar 4) (fVar 7)) (gtT [14, 6]) bYes (fCallL F_law_laid (aCons (fVar 14) (aCons (fVar 6) aNil))) [14, 6]
def c_law_3 : Fl := fLc (iSeq (fVar 9)) (gtN 16) bYes (fB dIx (fVar 16) (fVar 15)) [16]
def c_law_4 : Fll := fLc2 (iRange (fC (.int 4))) (gtN 15) bYes c_law_3 [15]
def b_law_3 : Fs := (sSeq (sOwn2 11 (fCall2 F_tower (aCons (fVar 5) (aCons (fVar 8) aNil))))
    (sSeq (sIf (bOr (bNot (bB (fIs .list (fVar 11)))) (bB (fB dNe (fVar 11) (fL (fLL c_law_4)))))
    (sRet (fC (.bl false)))
    sNext)
    (sSeq (sIf (bOr (bB (fB dNe (fVar 5) (fVar 4))) (bB (fB dNe (fVar 8) (fVar 7))))
    (sRet (fC (.bl false)))
    sNext)
    (sSeq (sAppAll 11 12 (.int 0))
    (sApp2 11 (fDisp aNil))))))
def b_law_4 : Fs := (sSeq (sSet 4 (fL (fCallL F_law_cubes (aCons (fVar 0) (aCons (fVar 2) (aCons (fC (.int 5)) aNil))))))
    (sSeq (sSet 5 (fL (fLL (fCall2 F_law_copied (aCons (fVar 4) aNil)))))
    (sSeq (sFor (iRange (fC (.int 24))) (gtN 6) b_law_2)
    (sSeq (sSet 7 (fL c_law_1))
    (sSeq (sSet 8 (fL (fCallL (oneL dList) (aCons (fVar 7) aNil))))
    (sSeq (sSet 9 (fL (fLL c_law_2)))
    (sFor (iRange (fC (.int 2))) (gtN 10) b_law_3)))))))
def c_law_5 : Fl := fLc (iRange (fC (.int 24))) (gtN 6) bYes (fL (fCallL F_sides (aCons (fL (fDisp (aCons (fC (.int 0)) (aCons (fC (.int 1)) (aCons (fC (.int 2)) (aCons (fC (.int 3)) (aCons (fC (.int 4)) (aCons (fC (.int 4)) aNil)))))))) (aCons (fVar 6) aNil)))) [6]
def g_law : Fs := (sSeq (sSet 1 (fCall (one dAbs) (aCons (fCall (one dSum) (aCons (fL (fSlice (fVar 0) oNone (oSome (fC (.int 63))))) aNil)) aNil)))
    (sSeq (sFor (iSeq (fL (fDisp (aCons (fC (.int 0)) (aCons (fC (.int 1)) (aCons (fC (.int 3)) aNil)))))) (gtN 2) b_law_4)
    (sSeq (sSet 3 (fL c_law_5))
    (sSeq (sIf (bOr (bB (fB dNe (fB dIx (fVar 3) (fC (.int 0))) (fL (fDisp (aCons (fC (.int 0)) (aCons (fC (.int 2)) (aCons (fC (.int 1)) (aCons (fC (.int 3)) aNil)))))))) (bOr (bB (fB dNe (fB dIx (fVar 3) (fC (.int 5))) (fL (fDisp (aCons (fC (.int 1)) (aCons (fC (.int 2)) (aCons (fC (.int 0)) (aCons (fC (.int 3)) aNil)))))))) (bOr (bB (fB dNe (fB dIx (fVar 3) (fC (.int 8))) (fL (fDisp (aCons (fC (.int 4)) (aCons (fC (.int 2)) (aCons (fC (.int 4)) (aCons (fC (.int 3)) aNil)))))))) (bB (fB dNe (fB dIx (fVar 3) (fC (.int 18))) (fL (fDisp (aCons (fC (.int 1)) (aCons (fC (.int 4)) (aCons (fC (.int 0)) (aCons (fC (.int 4)) aNil)))))))))))
    (sRet (fC (.bl false)))
    sNext)
    (sRet (fB dEq (fL (fLL (fCall2 F_tower (aCons (fL (fDisp (aCons (fL (fDisp (aCons (fC (.int 0)) (aCons (fC (.int 0)) (aCons (fC (.int 0)) (aCons (fC (.int 0)) (aCons (fC (.int 0)) (aCons (fC (.int 0)) aNil)))))))) aNil))) (aCons (fL (fDisp (aCons (fC (.int 23)) aNil))) aNil))))) (fL (fDisp (aCons (fL (fDisp (aCons (fC (.int 0)) aNil))) (aCons (fL (fDisp (aCons (fC (.int 0)) aNil))) (aCons (fL (fDisp (aCons (fC (.int 0)) aNil))) (aCons (fL (fDisp (aCons (fC (.int 0)) aNil))) aNil))))))))))))
def F_law : List D → Option D := runD 1 17 g_law
theorem E_law (x0 : D) : F_law [x0] = (g_law [.sh x0, .no, .no, .no, .no, .no, .no, .no, .no, .no, .no, .no, .no, .no, .no, .no, .no]).bind outD := rfl
end CT

set_option linter.all false
set_option maxRecDepth 100000
set_option maxHeartbeats 4000000
namespace CT
open PySem DL
/-! ### the plain meaning -/
structure Cbs (cs : List (List Int)) : Prop where
  l1 : 1 ≤ cs.length
  l5 : cs.length ≤ 5
  six : ∀ c ∈ cs, c.length = 6
  rng : ∀ c ∈ cs, ∀ x ∈ c, 0 ≤ x ∧ x < (cs.length : Int)
structure Lys (n : Nat) (ls : List Int) : Prop where
  len : ls.length = n
  rng : ∀ x ∈ ls, 0 ≤ x ∧ x < 24
def arr (l : Nat) : List Nat :=
  let b := ([[0, 2, 1, 3], [4, 2, 5, 3], [0, 4, 1, 5]] : List (List Nat)).getD (l / 8) []
  let b := if l / 4 % 2 = 1 then b.reverse else b
  b.drop (l % 4) ++ b.take (l % 4)
def laidL (c : List Int) (l : Nat) : List Int := (arr l).map fun i => c.getD i 0
def ringsL (cs : List (List Int)) (ls : List Int) : List (List Int) := (cs.zip ls).map fun p => laidL p.1 p.2.toNat
def towerL (cs : List (List Int)) (ls : List Int) : List (List Int) := (List.range 4).map fun k => (ringsL cs ls).map fun r => r.getD k 0
theorem six_cases {c : List Int} (h : c.length = 6) : ∃ a b d e f g, c = [a, b, d, e, f, g] := by
  match c, h with
  | [a, b, d, e, f, g], _ => exact ⟨a, b, d, e, f, g, rfl⟩
theorem l24 {l : Int} (h : 0 ≤ l) (h' : l < 24) : ∃ n : Nat, l = (n : Int) ∧ n < 24 := ⟨l.toNat, by omega, by omega⟩
--@ is_whole
theorem is_whole_int (i : Int) : F_is_whole [.int i] = some (.bl true) := rfl
--@ is_cube
theorem is_cube_eq (c : List Int) (m : Int) (hl : c.length = 6) : F_is_cube [cD c, .int m] = some (.bl (c.all (inR 0 m))) := by
  have e : c_is_cube_1 [some (cD c), some (.int m), none] = some (c.map fun x => D.bl (inR 0 m x)) := by
    refine fLc_map (e := D.int) (fun x => [(2, .int x)]) _ rfl (by omega) (fun x _ => rfl) fun x _ => ?_
    simp only [sSeq, sSet, sSetA, sOwn, sOwn2, sAsg, sDrop, sApp, sApp2, sExt, sPut, sFrz, sIf, sRet, sRetA, sRetL, sRet2, sRetO, sBrk, sCnt, sPar, sParO, sNext, sAppAll, fVar, fC, fU, fB, fUL, fBL, fL, bB, fChain, fChain3, fAnd, fOr, bAnd, bOr, bNot, fIf, fIfL, aNil, aCons, fTup, fDisp, oNone, oSome, fSlice, fRev, fIs, fCall, fCallL, fCall2, fLL, iSeq, iRange, iRange2, iZipD, iEnumD, gtN, gtT, gtU, setsE, setsS, wipeE, bYes, toB_bl, toI_int, toL_lst, toLs_lst, toLs_scr, one_1, two_2, oneL_1, dEq_int, dNe_int, dAdd_int, dSub_int, dLen_lst, dLen_scr, dLt_int, dLe_int, dGt_int, dGe_int, dNot_bl, dNeg_int, dAbs_int, dIx_lst, dIx_tup, dList_lst, dList_tup, dIs_int_int, dIs_bool_int, dIs_bool_bl, dIs_list_lst, dIs_list_c, dIs_list_cs, dLen_c, dLen_cs, dList_c, dList_cs, toL_c, toL_cs, toLs_c, toLs_cs, dIsB, dNotB, vw, vwA, seen_sh, seen_no, seen_ow, seen_o2, seenA_sh, seenA_no, seenA_ow, seenA_o2, outD, outL, out2, scal, List.map_cons, List.map_nil, List.getElem?_cons_zero, List.getElem?_cons_succ, List.getElem?_nil, List.set_cons_zero, List.set_cons_succ, List.length_cons, List.length_nil, Option.bind_some, Option.bind_none, Option.map_some, Option.map_none, Option.join_some, Option.bind_fun_some, List.zip_cons_cons, List.zip_nil_left, Bool.false_eq_true, Bool.true_eq_false, if_true, if_false, ite_true, ite_false, reduceIte, Bool.not_true, Bool.not_false, is_whole_int, chain_in]
  rw [E_is_cube, g_is_cube]
  simp only [sSeq, sSet, sSetA, sOwn, sOwn2, sAsg, sDrop, sApp, sApp2, sExt, sPut, sFrz, sIf, sRet, sRetA, sRetL, sRet2, sRetO, sBrk, sCnt, sPar, sParO, sNext, sAppAll, fVar, fC, fU, fB, fUL, fBL, fL, bB, fChain, fChain3, fAnd, fOr, bAnd, bOr, bNot, fIf, fIfL, aNil, aCons, fTup, fDisp, oNone, oSome, fSlice, fRev, fIs, fCall, fCallL, fCall2, fLL, iSeq, iRange, iRange2, iZipD, iEnumD, gtN, gtT, gtU, setsE, setsS, wipeE, bYes, toB_bl, toI_int, toL_lst, toLs_lst, toLs_scr, one_1, two_2, oneL_1, dEq_int, dNe_int, dAdd_int, dSub_int, dLen_lst, dLen_scr, dLt_int, dLe_int, dGt_int, dGe_int, dNot_bl, dNeg_int, dAbs_int, dIx_lst, dIx_tup, dList_lst, dList_tup, dIs_int_int, dIs_bool_int, dIs_bool_bl, dIs_list_lst, dIs_list_c, dIs_list_cs, dLen_c, dLen_cs, dList_c, dList_cs, toL_c, toL_cs, toLs_c, toLs_cs, dIsB, dNotB, vw, vwA, seen_sh, seen_no, seen_ow, seen_o2, seenA_sh, seenA_no, seenA_ow, seenA_o2, outD, outL, out2, scal, List.map_cons, List.map_nil, List.getElem?_cons_zero, List.getElem?_cons_succ, List.getElem?_nil, List.set_cons_zero, List.set_cons_succ, List.length_cons, List.length_nil, Option.bind_some, Option.bind_none, Option.map_some, Option.map_none, Option.join_some, Option.bind_fun_some, List.zip_cons_cons, List.zip_nil_left, Bool.false_eq_true, Bool.true_eq_false, if_true, if_false, ite_true, ite_false, reduceIte, Bool.not_true, Bool.not_false, e, hl]
  rw [dAll_map]
  rfl
--@ asked_cubes
theorem asked_cubes_ok {cs : List (List Int)} (h : Cbs cs) : F_asked_cubes [csD cs] = some .non := by
  have e : c_asked_cubes_1 [some (csD cs), none] = some (cs.map fun _ => D.bl true) := by
    refine fLc_map (e := cD) (fun x => [(1, cD x)]) _ rfl (by have := h.l5; omega) (fun x _ => rfl) fun x hx => ?_
    simp only [sSeq, sSet, sSetA, sOwn, sOwn2, sAsg, sDrop, sApp, sApp2, sExt, sPut, sFrz, sIf, sRet, sRetA, sRetL, sRet2, sRetO, sBrk, sCnt, sPar, sParO, sNext, sAppAll, fVar, fC, fU, fB, fUL, fBL, fL, bB, fChain, fChain3, fAnd, fOr, bAnd, bOr, bNot, fIf, fIfL, aNil, aCons, fTup, fDisp, oNone, oSome, fSlice, fRev, fIs, fCall, fCallL, fCall2, fLL, iSeq, iRange, iRange2, iZipD, iEnumD, gtN, gtT, gtU, setsE, setsS, wipeE, bYes, toB_bl, toI_int, toL_lst, toLs_lst, toLs_scr, one_1, two_2, oneL_1, dEq_int, dNe_int, dAdd_int, dSub_int, dLen_lst, dLen_scr, dLt_int, dLe_int, dGt_int, dGe_int, dNot_bl, dNeg_int, dAbs_int, dIx_lst, dIx_tup, dList_lst, dList_tup, dIs_int_int, dIs_bool_int, dIs_bool_bl, dIs_list_lst, dIs_list_c, dIs_list_cs, dLen_c, dLen_cs, dList_c, dList_cs, toL_c, toL_cs, toLs_c, toLs_cs, dIsB, dNotB, vw, vwA, seen_sh, seen_no, seen_ow, seen_o2, seenA_sh, seenA_no, seenA_ow, seenA_o2, outD, outL, out2, scal, List.map_cons, List.map_nil, List.getElem?_cons_zero, List.getElem?_cons_succ, List.getElem?_nil, List.set_cons_zero, List.set_cons_succ, List.length_cons, List.length_nil, Option.bind_some, Option.bind_none, Option.map_some, Option.map_none, Option.join_some, Option.bind_fun_some, List.zip_cons_cons, List.zip_nil_left, Bool.false_eq_true, Bool.true_eq_false, if_true, if_false, ite_true, ite_false, reduceIte, Bool.not_true, Bool.not_false, is_cube_eq _ _ (h.six x hx)]
    rw [List.all_eq_true.mpr fun y hy => inR_true (h.rng x hx y hy).1 (h.rng x hx y hy).2]
  have h1 : decide ((1 : Int) ≤ (cs.length : Int)) = true := decide_eq_true (by have := h.l1; omega)
  have h5 : decide ((cs.length : Int) ≤ 5) = true := decide_eq_true (by have := h.l5; omega)
  rw [E_asked_cubes, g_asked_cubes]
  simp only [sSeq, sSet, sSetA, sOwn, sOwn2, sAsg, sDrop, sApp, sApp2, sExt, sPut, sFrz, sIf, sRet, sRetA, sRetL, sRet2, sRetO, sBrk, sCnt, sPar, sParO, sNext, sAppAll, fVar, fC, fU, fB, fUL, fBL, fL, bB, fChain, fChain3, fAnd, fOr, bAnd, bOr, bNot, fIf, fIfL, aNil, aCons, fTup, fDisp, oNone, oSome, fSlice, fRev, fIs, fCall, fCallL, fCall2, fLL, iSeq, iRange, iRange2, iZipD, iEnumD, gtN, gtT, gtU, setsE, setsS, wipeE, bYes, toB_bl, toI_int, toL_lst, toLs_lst, toLs_scr, one_1, two_2, oneL_1, dEq_int, dNe_int, dAdd_int, dSub_int, dLen_lst, dLen_scr, dLt_int, dLe_int, dGt_int, dGe_int, dNot_bl, dNeg_int, dAbs_int, dIx_lst, dIx_tup, dList_lst, dList_tup, dIs_int_int, dIs_bool_int, dIs_bool_bl, dIs_list_lst, dIs_list_c, dIs_list_cs, dLen_c, dLen_cs, dList_c, dList_cs, toL_c, toL_cs, toLs_c, toLs_cs, dIsB, dNotB, vw, vwA, seen_sh, seen_no, seen_ow, seen_o2, seenA_sh, seenA_no, seenA_ow, seenA_o2, outD, outL, out2, scal, List.map_cons, List.map_nil, List.getElem?_cons_zero, List.getElem?_cons_succ, List.getElem?_nil, List.set_cons_zero, List.set_cons_succ, List.length_cons, List.length_nil, Option.bind_some, Option.bind_none, Option.map_some, Option.map_none, Option.join_some, Option.bind_fun_some, List.zip_cons_cons, List.zip_nil_left, Bool.false_eq_true, Bool.true_eq_false, if_true, if_false, ite_true, ite_false, reduceIte, Bool.not_true, Bool.not_false, e, h1, h5, dAll_map (fun _ => true)]
  rw [List.all_eq_true.mpr fun _ _ => rfl]
  rfl
--@ asked_layings
theorem asked_layings_ok {cs : List (List Int)} {ls : List Int} (h : Lys cs.length ls) (h5 : cs.length ≤ 5) : F_asked_layings [csD cs, cD ls] = some .non := by
  have e : c_asked_layings_1 [some (csD cs), some (cD ls), none] = some (ls.map fun x => D.bl (inR 0 24 x)) := by
    refine fLc_map (e := D.int) (fun x => [(2, .int x)]) _ rfl (by have := h.len; omega) (fun x _ => rfl) fun x _ => ?_
    simp only [sSeq, sSet, sSetA, sOwn, sOwn2, sAsg, sDrop, sApp, sApp2, sExt, sPut, sFrz, sIf, sRet, sRetA, sRetL, sRet2, sRetO, sBrk, sCnt, sPar, sParO, sNext, sAppAll, fVar, fC, fU, fB, fUL, fBL, fL, bB, fChain, fChain3, fAnd, fOr, bAnd, bOr, bNot, fIf, fIfL, aNil, aCons, fTup, fDisp, oNone, oSome, fSlice, fRev, fIs, fCall, fCallL, fCall2, fLL, iSeq, iRange, iRange2, iZipD, iEnumD, gtN, gtT, gtU, setsE, setsS, wipeE, bYes, toB_bl, toI_int, toL_lst, toLs_lst, toLs_scr, one_1, two_2, oneL_1, dEq_int, dNe_int, dAdd_int, dSub_int, dLen_lst, dLen_scr, dLt_int, dLe_int, dGt_int, dGe_int, dNot_bl, dNeg_int, dAbs_int, dIx_lst, dIx_tup, dList_lst, dList_tup, dIs_int_int, dIs_bool_int, dIs_bool_bl, dIs_list_lst, dIs_list_c, dIs_list_cs, dLen_c, dLen_cs, dList_c, dList_cs, toL_c, toL_cs, toLs_c, toLs_cs, dIsB, dNotB, vw, vwA, seen_sh, seen_no, seen_ow, seen_o2, seenA_sh, seenA_no, seenA_ow, seenA_o2, outD, outL, out2, scal, List.map_cons, List.map_nil, List.getElem?_cons_zero, List.getElem?_cons_succ, List.getElem?_nil, List.set_cons_zero, List.set_cons_succ, List.length_cons, List.length_nil, Option.bind_some, Option.bind_none, Option.map_some, Option.map_none, Option.join_some, Option.bind_fun_some, List.zip_cons_cons, List.zip_nil_left, Bool.false_eq_true, Bool.true_eq_false, if_true, if_false, ite_true, ite_false, reduceIte, Bool.not_true, Bool.not_false, is_whole_int, chain_in]
  rw [E_asked_layings, g_asked_layings]
  have h1 : ((ls.length : Int) == (cs.length : Int)) = true := by rw [h.len]; exact beq_self_eq_true _
  simp only [sSeq, sSet, sSetA, sOwn, sOwn2, sAsg, sDrop, sApp, sApp2, sExt, sPut, sFrz, sIf, sRet, sRetA, sRetL, sRet2, sRetO, sBrk, sCnt, sPar, sParO, sNext, sAppAll, fVar, fC, fU, fB, fUL, fBL, fL, bB, fChain, fChain3, fAnd, fOr, bAnd, bOr, bNot, fIf, fIfL, aNil, aCons, fTup, fDisp, oNone, oSome, fSlice, fRev, fIs, fCall, fCallL, fCall2, fLL, iSeq, iRange, iRange2, iZipD, iEnumD, gtN, gtT, gtU, setsE, setsS, wipeE, bYes, toB_bl, toI_int, toL_lst, toLs_lst, toLs_scr, one_1, two_2, oneL_1, dEq_int, dNe_int, dAdd_int, dSub_int, dLen_lst, dLen_scr, dLt_int, dLe_int, dGt_int, dGe_int, dNot_bl, dNeg_int, dAbs_int, dIx_lst, dIx_tup, dList_lst, dList_tup, dIs_int_int, dIs_bool_int, dIs_bool_bl, dIs_list_lst, dIs_list_c, dIs_list_cs, dLen_c, dLen_cs, dList_c, dList_cs, toL_c, toL_cs, toLs_c, toLs_cs, dIsB, dNotB, vw, vwA, seen_sh, seen_no, seen_ow, seen_o2, seenA_sh, seenA_no, seenA_ow, seenA_o2, outD, outL, out2, scal, List.map_cons, List.map_nil, List.getElem?_cons_zero, List.getElem?_cons_succ, List.getElem?_nil, List.set_cons_zero, List.set_cons_succ, List.length_cons, List.length_nil, Option.bind_some, Option.bind_none, Option.map_some, Option.map_none, Option.join_some, Option.bind_fun_some, List.zip_cons_cons, List.zip_nil_left, Bool.false_eq_true, Bool.true_eq_false, if_true, if_false, ite_true, ite_false, reduceIte, Bool.not_true, Bool.not_false, e, h1, dAll_map]
  rw [List.all_eq_true.mpr fun y hy => inR_true (h.rng y hy).1 (h.rng y hy).2]
  rfl
--@ laid
theorem laid_eq {c : List Int} (hc : c.length = 6) {l : Nat} (hl : l < 24) : F_laid [cD c, .int (l : Int)] = some ((laidL c l).map .int) := by
  obtain ⟨a, b, d, e, f, g, rfl⟩ := six_cases hc
  obtain rfl | rfl | rfl | rfl | rfl | rfl | rfl | rfl | rfl | rfl | rfl | rfl | rfl | rfl | rfl | rfl | rfl | rfl | rfl | rfl | rfl | rfl | rfl | rfl : l = 0 ∨ l = 1 ∨ l = 2 ∨ l = 3 ∨ l = 4 ∨ l = 5 ∨ l = 6 ∨ l = 7 ∨ l = 8 ∨ l = 9 ∨ l = 10 ∨ l = 11 ∨ l = 12 ∨ l = 13 ∨ l = 14 ∨ l = 15 ∨ l = 16 ∨ l = 17 ∨ l = 18 ∨ l = 19 ∨ l = 20 ∨ l = 21 ∨ l = 22 ∨ l = 23 := by omega
  all_goals kernel_rfl
theorem laid_int {c : List Int} (hc : c.length = 6) {l : Int} (h0 : 0 ≤ l) (hl : l < 24) : F_laid [cD c, .int l] = some ((laidL c l.toNat).map .int) := by
  obtain ⟨n, rfl, hn⟩ := l24 h0 hl
  exact laid_eq hc hn
--@ law_laid
theorem law_laid_eq {c : List Int} (hc : c.length = 6) {l : Nat} (hl : l < 24) : F_law_laid [cD c, .int (l : Int)] = some ((laidL c l).map .int) := by
  obtain ⟨a, b, d, e, f, g, rfl⟩ := six_cases hc
  obtain rfl | rfl | rfl | rfl | rfl | rfl | rfl | rfl | rfl | rfl | rfl | rfl | rfl | rfl | rfl | rfl | rfl | rfl | rfl | rfl | rfl | rfl | rfl | rfl : l = 0 ∨ l = 1 ∨ l = 2 ∨ l = 3 ∨ l = 4 ∨ l = 5 ∨ l = 6 ∨ l = 7 ∨ l = 8 ∨ l = 9 ∨ l = 10 ∨ l = 11 ∨ l = 12 ∨ l = 13 ∨ l = 14 ∨ l = 15 ∨ l = 16 ∨ l = 17 ∨ l = 18 ∨ l = 19 ∨ l = 20 ∨ l = 21 ∨ l = 22 ∨ l = 23 := by omega
  all_goals kernel_rfl
theorem law_laid_int {c : List Int} (hc : c.length = 6) {l : Int} (h0 : 0 ≤ l) (hl : l < 24) : F_law_laid [cD c, .int l] = some ((laidL c l.toNat).map .int) := by
  obtain ⟨n, rfl, hn⟩ := l24 h0 hl
  exact law_laid_eq hc hn
end CT

set_option linter.all false
set_option maxRecDepth 100000
set_option maxHeartbeats 4000000
namespace DL
open PySem
/-! ### sizes of whole numbers -/
def Sz (n : Nat) (x : Int) : Prop := x.natAbs < 2 ^ n
theorem Sz.mono {n m : Nat} {x : Int} (h : Sz n x) (k : n ≤ m) : Sz m x := Nat.lt_of_lt_of_le h (Nat.pow_le_pow_right (by omega) k)
theorem Sz.add {n m : Nat} {x y : Int} (h : Sz n x) (k : Sz m y) : Sz (n + m + 1) (x + y) := by
  have h1 : x.natAbs < 2 ^ (n + m) := Nat.lt_of_lt_of_le h (Nat.pow_le_pow_right (by omega) (by omega))
  have h2 : y.natAbs < 2 ^ (n + m) := Nat.lt_of_lt_of_le k (Nat.pow_le_pow_right (by omega) (by omega))
  have h3 := Int.natAbs_add_le x y
  unfold Sz
  rw [Nat.pow_succ]
  omega
theorem Sz.mul {n m : Nat} {x y : Int} (h : Sz n x) (k : Sz m y) : Sz (n + m) (x * y) := by
  unfold Sz
  rw [Int.natAbs_mul, Nat.pow_add]
  exact Nat.mul_lt_mul'' h k
theorem log2_le_of {x n : Nat} (h : x < 2 ^ n) : x.log2 ≤ n := by
  by_cases h0 : x = 0
  · subst h0; rw [Nat.log2_zero]; exact Nat.zero_le _
  · exact Nat.le_of_lt ((Nat.log2_lt h0).mpr h)
theorem Sz.mok {n m : Nat} {x y : Int} (h : Sz n x) (k : Sz m y) (l : n + m < 100000000) : mulOk x y := by
  have h1 := log2_le_of h
  have h2 := log2_le_of k
  unfold mulOk
  omega
theorem Sz.small {x : Int} (h : x.natAbs < 4294967296) : Sz 32 x := h
theorem dMul_sz {n m : Nat} {a b : Int} (h : Sz n a) (k : Sz m b) (l : n + m < 100000000) : dMul (.int a) (.int b) = some (.int (a * b)) := dMul_int (h.mok k l)
theorem sz_of_bits {z : Int} {n : Nat} (h : Builtin.Int.intBits z ≤ n) : Sz n z := by
  unfold Builtin.Int.intBits at h
  unfold Sz
  by_cases h0 : z = 0
  · subst h0
    exact Nat.two_pow_pos n
  · have e : (z == 0) = false := by rw [beq_eq_false_iff_ne]; exact h0
    rw [e] at h
    simp only [Bool.false_eq_true, if_false] at h
    exact (Nat.log2_lt (by omega)).mp (by omega)
theorem Sz.sum {n : Nat} : ∀ {l : List Int}, (∀ z ∈ l, Sz n z) → (l.sum.natAbs ≤ l.length * 2 ^ n)
  | [], _ => by simp
  | x :: r, h => by
    have h1 := Sz.sum (l := r) fun z hz => h z (List.mem_cons_of_mem _ hz)
    have h2 : x.natAbs < 2 ^ n := h x List.mem_cons_self
    have h3 := Int.natAbs_add_le x r.sum
    rw [List.sum_cons, List.length_cons, Nat.add_mul]
    omega
theorem Sz.sum63 {n : Nat} {l : List Int} (h : ∀ z ∈ l, Sz n z) (hl : l.length ≤ 63) : Sz (n + 6) l.sum := by
  have h1 := Sz.sum h
  have h2 : l.length * 2 ^ n ≤ 63 * 2 ^ n := Nat.mul_le_mul_right _ hl
  have h3 : 0 < 2 ^ n := Nat.two_pow_pos n
  unfold Sz
  rw [Nat.pow_add]
  omega
theorem cut_to {α : Type} (xs : List α) (h : xs.length ≤ 63) : cutD xs none (some 63) = xs := by
  unfold cutD
  have e1 : sIxD xs.length 0 none = 0 := rfl
  have e2 : sIxD xs.length xs.length (some 63) = xs.length := by
    show (if (63 : Int) < 0 then ((63 : Int) + xs.length).toNat else min 63 xs.length) = _
    rw [if_neg (by omega), Nat.min_eq_right h]
  rw [e1, e2, List.drop_zero, Nat.sub_zero, List.take_length]
theorem dNe_scr (ns : List Int) : dNe (.scr ns) (.lst []) = some (.bl (!ns.isEmpty)) := rfl
def absI (i : Int) : Int := if i < 0 then -i else i
theorem absI_nn (i : Int) : 0 ≤ absI i := by unfold absI; split <;> omega
theorem absI_sz {n : Nat} {i : Int} (h : Sz n i) : Sz n (absI i) := by
  unfold absI
  split
  · unfold Sz; rw [Int.natAbs_neg]; exact h
  · exact h
theorem rng_map (n : Nat) : rangeD 0 n = (List.range n).map fun (i : Nat) => D.int (i : Int) := by
  unfold rangeD
  congr 1
  funext i
  rw [Int.zero_add]
theorem iRange_nat {f : Fe} {g : Env} {n : Nat} (h : f g = some (.int n)) (hn : n ≤ 1000000) : iRange f g = some ((List.range n).map fun (i : Nat) => D.int (i : Int)) := by
  unfold iRange
  rw [h, Option.bind_some, toI_int, Option.bind_some, if_pos (by omega), rng_map]
  rfl
end DL
namespace CT
open PySem DL
--@ sides
theorem sides_ok {c : List Int} {l : Int} (hc : c.length = 6) (hr : ∀ x ∈ c, 0 ≤ x ∧ x < 5) (h0 : 0 ≤ l) (hl : l < 24) : F_sides [cD c, .int l] = some ((laidL c l.toNat).map .int) := by
  have h1 : c.all (inR 0 5) = true := List.all_eq_true.mpr fun y hy => inR_true (hr y hy).1 (hr y hy).2
  have h2 : decide ((0 : Int) ≤ l) = true := decide_eq_true h0
  have h3 : decide (l < 24) = true := decide_eq_true hl
  rw [E_sides, g_sides]
  simp only [sSeq, sSet, sSetA, sOwn, sOwn2, sAsg, sDrop, sApp, sApp2, sExt, sPut, sFrz, sIf, sRet, sRetA, sRetL, sRet2, sRetO, sBrk, sCnt, sPar, sParO, sNext, sAppAll, fVar, fC, fU, fB, fUL, fBL, fL, bB, fChain, fChain3, fAnd, fOr, bAnd, bOr, bNot, fIf, fIfL, aNil, aCons, fTup, fDisp, oNone, oSome, fSlice, fRev, fIs, fCall, fCallL, fCall2, fLL, iSeq, iRange, iRange2, iZipD, iEnumD, gtN, gtT, gtU, setsE, setsS, wipeE, bYes, toB_bl, toI_int, toL_lst, toLs_lst, toLs_scr, one_1, two_2, oneL_1, dEq_int, dNe_int, dAdd_int, dSub_int, dLen_lst, dLen_scr, dLt_int, dLe_int, dGt_int, dGe_int, dNot_bl, dNeg_int, dAbs_int, dIx_lst, dIx_tup, dList_lst, dList_tup, dIs_int_int, dIs_bool_int, dIs_bool_bl, dIs_list_lst, dIs_list_c, dIs_list_cs, dLen_c, dLen_cs, dList_c, dList_cs, toL_c, toL_cs, toLs_c, toLs_cs, dIsB, dNotB, vw, vwA, seen_sh, seen_no, seen_ow, seen_o2, seenA_sh, seenA_no, seenA_ow, seenA_o2, outD, outL, out2, scal, List.map_cons, List.map_nil, List.getElem?_cons_zero, List.getElem?_cons_succ, List.getElem?_nil, List.set_cons_zero, List.set_cons_succ, List.length_cons, List.length_nil, Option.bind_some, Option.bind_none, Option.map_some, Option.map_none, Option.join_some, Option.bind_fun_some, List.zip_cons_cons, List.zip_nil_left, Bool.false_eq_true, Bool.true_eq_false, if_true, if_false, ite_true, ite_false, reduceIte, Bool.not_true, Bool.not_false, is_cube_eq c 5 hc, h1, is_whole_int, h2, h3, laid_int hc h0 hl]
--@ tower_of
theorem arr_len (l : Nat) (h : l < 24) : (arr l).length = 4 := by
  have : ∀ l, l < 24 → (arr l).length = 4 := by decide
  exact this l h
theorem laidL_len (c : List Int) {l : Nat} (h : l < 24) : (laidL c l).length = 4 := by unfold laidL; rw [List.length_map, arr_len l h]
theorem mem_zip_l {α β : Type} {xs : List α} {ys : List β} {p : α × β} (h : p ∈ xs.zip ys) : p.1 ∈ xs ∧ p.2 ∈ ys := by
  obtain ⟨a, b⟩ := p
  exact ⟨(List.of_mem_zip h).1, (List.of_mem_zip h).2⟩
theorem col_eq {rs : List (List Int)} {k : Nat} (h : ∀ r ∈ rs, k < r.length) {g : DL.Env} {i j v : Nat} (hl : rs.length ≤ 1000000) (hi : fVar i g = some (csD rs)) (hk : ∀ r, fVar v ((wipeE g [j]).set j (some (cD r))) = some (.int (k : Int))) (hj : ∀ r, fVar j ((wipeE g [j]).set j (some (cD r))) = some (cD r)) :
    fLc (iSeq (fVar i)) (gtN j) bYes (fB dIx (fVar j) (fVar v)) [j] g = some ((rs.map fun r => r.getD k 0).map .int) := by
  rw [List.map_map]
  refine fLc_map (e := cD) (fun x => [(j, cD x)]) _ (by unfold iSeq; rw [hi]; rfl) hl (fun x _ => rfl) fun r hr => ?_
  show fB dIx (fVar j) (fVar v) ((wipeE g [j]).set j (some (cD r))) = _
  unfold fB
  rw [hj, hk, Option.bind_some, Option.bind_some]
  exact dIx_c rfl (by rw [List.getElem?_eq_getElem (h r hr)]; show _ = some (r.getD k 0); rw [List.getD_eq_getElem?_getD, List.getElem?_eq_getElem (h r hr)]; rfl)
theorem tower_of_ok {cs : List (List Int)} {ls : List Int} (h6 : ∀ c ∈ cs, c.length = 6) (hn : cs.length ≤ 5) (hl : ∀ x ∈ ls, 0 ≤ x ∧ x < 24) : F_tower_of [csD cs, cD ls] = some ((towerL cs ls).map fun r => r.map .int) := by
  have hz : (cs.zip ls).length ≤ 5 := by rw [List.length_zip]; omega
  have e1 : c_tower_of_1 [some (csD cs), some (cD ls), none, none, none, none, none] = some ((cs.zip ls).map fun p => (laidL p.1 p.2.toNat).map D.int) := by
    refine fLc2_map (e := fun p : List Int × Int => .tup [cD p.1, .int p.2]) (fun p => [(4, cD p.1), (5, .int p.2)]) _ ?_ (by omega) (fun x _ => rfl) fun p hp => ?_
    · show some (pairs (cs.map cD) (ls.map D.int)) = _
      rw [pairs_zip]
    · simp only [sSeq, sSet, sSetA, sOwn, sOwn2, sAsg, sDrop, sApp, sApp2, sExt, sPut, sFrz, sIf, sRet, sRetA, sRetL, sRet2, sRetO, sBrk, sCnt, sPar, sParO, sNext, sAppAll, fVar, fC, fU, fB, fUL, fBL, fL, bB, fChain, fChain3, fAnd, fOr, bAnd, bOr, bNot, fIf, fIfL, aNil, aCons, fTup, fDisp, oNone, oSome, fSlice, fRev, fIs, fCall, fCallL, fCall2, fLL, iSeq, iRange, iRange2, iZipD, iEnumD, gtN, gtT, gtU, setsE, setsS, wipeE, bYes, toB_bl, toI_int, toL_lst, toLs_lst, toLs_scr, one_1, two_2, oneL_1, dEq_int, dNe_int, dAdd_int, dSub_int, dLen_lst, dLen_scr, dLt_int, dLe_int, dGt_int, dGe_int, dNot_bl, dNeg_int, dAbs_int, dIx_lst, dIx_tup, dList_lst, dList_tup, dIs_int_int, dIs_bool_int, dIs_bool_bl, dIs_list_lst, dIs_list_c, dIs_list_cs, dLen_c, dLen_cs, dList_c, dList_cs, toL_c, toL_cs, toLs_c, toLs_cs, dIsB, dNotB, vw, vwA, seen_sh, seen_no, seen_ow, seen_o2, seenA_sh, seenA_no, seenA_ow, seenA_o2, outD, outL, out2, scal, List.map_cons, List.map_nil, List.getElem?_cons_zero, List.getElem?_cons_succ, List.getElem?_nil, List.set_cons_zero, List.set_cons_succ, List.length_cons, List.length_nil, Option.bind_some, Option.bind_none, Option.map_some, Option.map_none, Option.join_some, Option.bind_fun_some, List.zip_cons_cons, List.zip_nil_left, Bool.false_eq_true, Bool.true_eq_false, if_true, if_false, ite_true, ite_false, reduceIte, Bool.not_true, Bool.not_false, laid_int (h6 _ (mem_zip_l hp).1) (hl _ (mem_zip_l hp).2).1 (hl _ (mem_zip_l hp).2).2]
  have e1' : (cs.zip ls).map (fun p => (laidL p.1 p.2.toNat).map D.int) = (ringsL cs ls).map fun r => r.map D.int := by unfold ringsL; rw [List.map_map]; rfl
  have e2 : D.lst (((ringsL cs ls).map fun r => r.map D.int).map .lst) = csD (ringsL cs ls) := by rw [List.map_map]; rfl
  have hr : ∀ r ∈ ringsL cs ls, r.length = 4 := by
    intro r hr
    obtain ⟨p, hp, rfl⟩ := List.mem_map.mp hr
    have := hl _ (mem_zip_l hp).2
    exact laidL_len _ (by omega)
  have e3 : c_tower_of_3 [some (csD cs), some (cD ls), some (csD (ringsL cs ls)), none, none, none, none] = some ((towerL cs ls).map fun r => r.map D.int) := by
    unfold towerL
    rw [List.map_map]
    refine fLc2_map (e := fun (i : Nat) => D.int (i : Int)) (fun (i : Nat) => [(3, D.int (i : Int))]) _ (iRange_nat (n := 4) rfl (by omega)) (by decide) (fun x _ => rfl) fun k hk => ?_
    rw [List.mem_range] at hk
    exact col_eq (fun r h => by rw [hr r h]; exact hk) (by unfold ringsL; rw [List.length_map]; omega) rfl (fun _ => rfl) fun _ => rfl
  rw [E_tower_of, g_tower_of]
  simp only [sSeq, sSet, sSetA, sOwn, sOwn2, sAsg, sDrop, sApp, sApp2, sExt, sPut, sFrz, sIf, sRet, sRetA, sRetL, sRet2, sRetO, sBrk, sCnt, sPar, sParO, sNext, sAppAll, fVar, fC, fU, fB, fUL, fBL, fL, bB, fChain, fChain3, fAnd, fOr, bAnd, bOr, bNot, fIf, fIfL, aNil, aCons, fTup, fDisp, oNone, oSome, fSlice, fRev, fIs, fCall, fCallL, fCall2, fLL, iSeq, iRange, iRange2, iZipD, iEnumD, gtN, gtT, gtU, setsE, setsS, wipeE, bYes, toB_bl, toI_int, toL_lst, toLs_lst, toLs_scr, one_1, two_2, oneL_1, dEq_int, dNe_int, dAdd_int, dSub_int, dLen_lst, dLen_scr, dLt_int, dLe_int, dGt_int, dGe_int, dNot_bl, dNeg_int, dAbs_int, dIx_lst, dIx_tup, dList_lst, dList_tup, dIs_int_int, dIs_bool_int, dIs_bool_bl, dIs_list_lst, dIs_list_c, dIs_list_cs, dLen_c, dLen_cs, dList_c, dList_cs, toL_c, toL_cs, toLs_c, toLs_cs, dIsB, dNotB, vw, vwA, seen_sh, seen_no, seen_ow, seen_o2, seenA_sh, seenA_no, seenA_ow, seenA_o2, outD, outL, out2, scal, List.map_cons, List.map_nil, List.getElem?_cons_zero, List.getElem?_cons_succ, List.getElem?_nil, List.set_cons_zero, List.set_cons_succ, List.length_cons, List.length_nil, Option.bind_some, Option.bind_none, Option.map_some, Option.map_none, Option.join_some, Option.bind_fun_some, List.zip_cons_cons, List.zip_nil_left, Bool.false_eq_true, Bool.true_eq_false, if_true, if_false, ite_true, ite_false, reduceIte, Bool.not_true, Bool.not_false, e1]
  rw [e1', e2, e3]
  rfl
--@ tower
theorem tower_ok {cs : List (List Int)} {ls : List Int} (h : Cbs cs) (k : Lys cs.length ls) : F_tower [csD cs, cD ls] = some ((towerL cs ls).map fun r => r.map .int) := by
  rw [E_tower, g_tower]
  simp only [sSeq, sSet, sSetA, sOwn, sOwn2, sAsg, sDrop, sApp, sApp2, sExt, sPut, sFrz, sIf, sRet, sRetA, sRetL, sRet2, sRetO, sBrk, sCnt, sPar, sParO, sNext, sAppAll, fVar, fC, fU, fB, fUL, fBL, fL, bB, fChain, fChain3, fAnd, fOr, bAnd, bOr, bNot, fIf, fIfL, aNil, aCons, fTup, fDisp, oNone, oSome, fSlice, fRev, fIs, fCall, fCallL, fCall2, fLL, iSeq, iRange, iRange2, iZipD, iEnumD, gtN, gtT, gtU, setsE, setsS, wipeE, bYes, toB_bl, toI_int, toL_lst, toLs_lst, toLs_scr, one_1, two_2, oneL_1, dEq_int, dNe_int, dAdd_int, dSub_int, dLen_lst, dLen_scr, dLt_int, dLe_int, dGt_int, dGe_int, dNot_bl, dNeg_int, dAbs_int, dIx_lst, dIx_tup, dList_lst, dList_tup, dIs_int_int, dIs_bool_int, dIs_bool_bl, dIs_list_lst, dIs_list_c, dIs_list_cs, dLen_c, dLen_cs, dList_c, dList_cs, toL_c, toL_cs, toLs_c, toLs_cs, dIsB, dNotB, vw, vwA, seen_sh, seen_no, seen_ow, seen_o2, seenA_sh, seenA_no, seenA_ow, seenA_o2, outD, outL, out2, scal, List.map_cons, List.map_nil, List.getElem?_cons_zero, List.getElem?_cons_succ, List.getElem?_nil, List.set_cons_zero, List.set_cons_succ, List.length_cons, List.length_nil, Option.bind_some, Option.bind_none, Option.map_some, Option.map_none, Option.join_some, Option.bind_fun_some, List.zip_cons_cons, List.zip_nil_left, Bool.false_eq_true, Bool.true_eq_false, if_true, if_false, ite_true, ite_false, reduceIte, Bool.not_true, Bool.not_false, asked_cubes_ok h, asked_layings_ok k h.l5, tower_of_ok h.six h.l5 k.rng]
end CT

set_option linter.all false
set_option maxRecDepth 100000
set_option maxHeartbeats 4000000
namespace CT
open PySem DL
--@ law_number
def numL (n k s : Int) : Int :=
  if 1000000000000000000 ≤ n then n / (1 + k % 7) else
  ((((n + 977 * k) * 48271 + s) % 2147483647 * (n + 31 * k + 7)) * (((n + 977 * k) * 48271 + s) % 2147483647 + n + 5) * (((n + 977 * k) * 48271 + s) % 2147483647 * (((n + 977 * k) * 48271 + s) % 2147483647) + 11)) / (1009 + k)
theorem pow1018 : dPow (.int 10) (.int 18) = some (.int 1000000000000000000) := by kernel_rfl
theorem law_number_int {n k s : Int} {N : Nat} (hN : N ≤ 2000000) (hn : Sz N n) (h0 : 0 ≤ k) (hk : k ≤ 1000) : F_law_number [.int n, .int k, .int s] = some (.int (numL n k s)) := by
  unfold numL
  rw [E_law_number, g_law_number]
  by_cases hc : 1000000000000000000 ≤ n
  · have hd : decide (1000000000000000000 ≤ n) = true := decide_eq_true hc
    simp only [sSeq, sSet, sSetA, sOwn, sOwn2, sAsg, sDrop, sApp, sApp2, sExt, sPut, sFrz, sIf, sRet, sRetA, sRetL, sRet2, sRetO, sBrk, sCnt, sPar, sParO, sNext, sAppAll, fVar, fC, fU, fB, fUL, fBL, fL, bB, fChain, fChain3, fAnd, fOr, bAnd, bOr, bNot, fIf, fIfL, aNil, aCons, fTup, fDisp, oNone, oSome, fSlice, fRev, fIs, fCall, fCallL, fCall2, fLL, iSeq, iRange, iRange2, iZipD, iEnumD, gtN, gtT, gtU, setsE, setsS, wipeE, bYes, toB_bl, toI_int, toL_lst, toLs_lst, toLs_scr, one_1, two_2, oneL_1, dEq_int, dNe_int, dAdd_int, dSub_int, dLen_lst, dLen_scr, dLt_int, dLe_int, dGt_int, dGe_int, dNot_bl, dNeg_int, dAbs_int, dIx_lst, dIx_tup, dList_lst, dList_tup, dIs_int_int, dIs_bool_int, dIs_bool_bl, dIs_list_lst, dIs_list_c, dIs_list_cs, dLen_c, dLen_cs, dList_c, dList_cs, toL_c, toL_cs, toLs_c, toLs_cs, dIsB, dNotB, vw, vwA, seen_sh, seen_no, seen_ow, seen_o2, seenA_sh, seenA_no, seenA_ow, seenA_o2, outD, outL, out2, scal, List.map_cons, List.map_nil, List.getElem?_cons_zero, List.getElem?_cons_succ, List.getElem?_nil, List.set_cons_zero, List.set_cons_succ, List.length_cons, List.length_nil, Option.bind_some, Option.bind_none, Option.map_some, Option.map_none, Option.join_some, Option.bind_fun_some, List.zip_cons_cons, List.zip_nil_left, Bool.false_eq_true, Bool.true_eq_false, if_true, if_false, ite_true, ite_false, reduceIte, Bool.not_true, Bool.not_false, pow1018, hd, dMod_int (show (0 : Int) < 7 by omega), dDiv_int (show (0 : Int) < 1 + k % 7 by omega) (by omega), if_pos hc]
  · have hd : decide (1000000000000000000 ≤ n) = false := decide_eq_false hc
    have k32 : Sz 32 k := Sz.small (by omega)
    have m1 : dMul (.int 977) (.int k) = some (.int (977 * k)) := dMul_sz (Sz.small (by omega)) k32 (by omega)
    have m2 : dMul (.int 31) (.int k) = some (.int (31 * k)) := dMul_sz (Sz.small (by omega)) k32 (by omega)
    have s1 : Sz (N + 32 + 1) (n + 977 * k) := hn.add (Sz.small (by omega))
    have m3 : dMul (.int (n + 977 * k)) (.int 48271) = some (.int ((n + 977 * k) * 48271)) := dMul_sz s1 (Sz.small (by omega)) (by omega)
    have e7 : dMod (.int ((n + 977 * k) * 48271 + s)) (.int 2147483647) = some (.int (((n + 977 * k) * 48271 + s) % 2147483647)) := dMod_int (by omega)
    have hb : 0 ≤ ((n + 977 * k) * 48271 + s) % 2147483647 ∧ ((n + 977 * k) * 48271 + s) % 2147483647 < 2147483647 := by omega
    simp only [sSeq, sSet, sSetA, sOwn, sOwn2, sAsg, sDrop, sApp, sApp2, sExt, sPut, sFrz, sIf, sRet, sRetA, sRetL, sRet2, sRetO, sBrk, sCnt, sPar, sParO, sNext, sAppAll, fVar, fC, fU, fB, fUL, fBL, fL, bB, fChain, fChain3, fAnd, fOr, bAnd, bOr, bNot, fIf, fIfL, aNil, aCons, fTup, fDisp, oNone, oSome, fSlice, fRev, fIs, fCall, fCallL, fCall2, fLL, iSeq, iRange, iRange2, iZipD, iEnumD, gtN, gtT, gtU, setsE, setsS, wipeE, bYes, toB_bl, toI_int, toL_lst, toLs_lst, toLs_scr, one_1, two_2, oneL_1, dEq_int, dNe_int, dAdd_int, dSub_int, dLen_lst, dLen_scr, dLt_int, dLe_int, dGt_int, dGe_int, dNot_bl, dNeg_int, dAbs_int, dIx_lst, dIx_tup, dList_lst, dList_tup, dIs_int_int, dIs_bool_int, dIs_bool_bl, dIs_list_lst, dIs_list_c, dIs_list_cs, dLen_c, dLen_cs, dList_c, dList_cs, toL_c, toL_cs, toLs_c, toLs_cs, dIsB, dNotB, vw, vwA, seen_sh, seen_no, seen_ow, seen_o2, seenA_sh, seenA_no, seenA_ow, seenA_o2, outD, outL, out2, scal, List.map_cons, List.map_nil, List.getElem?_cons_zero, List.getElem?_cons_succ, List.getElem?_nil, List.set_cons_zero, List.set_cons_succ, List.length_cons, List.length_nil, Option.bind_some, Option.bind_none, Option.map_some, Option.map_none, Option.join_some, Option.bind_fun_some, List.zip_cons_cons, List.zip_nil_left, Bool.false_eq_true, Bool.true_eq_false, if_true, if_false, ite_true, ite_false, reduceIte, Bool.not_true, Bool.not_false, pow1018, hd, m1, m2, m3, e7, if_neg hc]
    generalize ((n + 977 * k) * 48271 + s) % 2147483647 = b at hb ⊢
    have sb : Sz 32 b := Sz.small (by omega)
    have s2 := (hn.add (Sz.small (x := 31 * k) (by omega))).add (Sz.small (x := 7) (by omega))
    have s3 := (sb.add hn).add (Sz.small (x := 5) (by omega))
    have s4 := (sb.mul sb).add (Sz.small (x := 11) (by omega))
    have m4 := dMul_sz sb s2 (by omega)
    have m5 := dMul_sz (sb.mul s2) s3 (by omega)
    have m6 := dMul_sz sb sb (by omega)
    have m7 := dMul_sz ((sb.mul s2).mul s3) s4 (by omega)
    have dv : ∀ z : Int, dDiv (.int z) (.int (1009 + k)) = some (.int (z / (1009 + k))) := fun z => dDiv_int (by omega) (by omega)
    simp only [sSeq, sSet, sSetA, sOwn, sOwn2, sAsg, sDrop, sApp, sApp2, sExt, sPut, sFrz, sIf, sRet, sRetA, sRetL, sRet2, sRetO, sBrk, sCnt, sPar, sParO, sNext, sAppAll, fVar, fC, fU, fB, fUL, fBL, fL, bB, fChain, fChain3, fAnd, fOr, bAnd, bOr, bNot, fIf, fIfL, aNil, aCons, fTup, fDisp, oNone, oSome, fSlice, fRev, fIs, fCall, fCallL, fCall2, fLL, iSeq, iRange, iRange2, iZipD, iEnumD, gtN, gtT, gtU, setsE, setsS, wipeE, bYes, toB_bl, toI_int, toL_lst, toLs_lst, toLs_scr, one_1, two_2, oneL_1, dEq_int, dNe_int, dAdd_int, dSub_int, dLen_lst, dLen_scr, dLt_int, dLe_int, dGt_int, dGe_int, dNot_bl, dNeg_int, dAbs_int, dIx_lst, dIx_tup, dList_lst, dList_tup, dIs_int_int, dIs_bool_int, dIs_bool_bl, dIs_list_lst, dIs_list_c, dIs_list_cs, dLen_c, dLen_cs, dList_c, dList_cs, toL_c, toL_cs, toLs_c, toLs_cs, dIsB, dNotB, vw, vwA, seen_sh, seen_no, seen_ow, seen_o2, seenA_sh, seenA_no, seenA_ow, seenA_o2, outD, outL, out2, scal, List.map_cons, List.map_nil, List.getElem?_cons_zero, List.getElem?_cons_succ, List.getElem?_nil, List.set_cons_zero, List.set_cons_succ, List.length_cons, List.length_nil, Option.bind_some, Option.bind_none, Option.map_some, Option.map_none, Option.join_some, Option.bind_fun_some, List.zip_cons_cons, List.zip_nil_left, Bool.false_eq_true, Bool.true_eq_false, if_true, if_false, ite_true, ite_false, reduceIte, Bool.not_true, Bool.not_false, m4, m5, m6, m7, dv]
--@ law_cubes
def cells (ns : List Int) : List Int := if ns = [] then [5] else ns
theorem cells_len (ns : List Int) (h : ns.length ≤ 63) : 1 ≤ (cells ns).length ∧ (cells ns).length ≤ 63 := by
  unfold cells
  split
  · decide
  · rename_i h'
    have : 0 < ns.length := List.length_pos_iff.mpr h'
    exact ⟨by omega, h⟩
theorem cells_sz {ns : List Int} {N : Nat} (h3 : 3 ≤ N) (h : ∀ z ∈ ns, Sz N z) : ∀ z ∈ cells ns, Sz N z := by
  unfold cells
  split
  · intro z hz
    rw [List.mem_singleton] at hz
    subst hz
    exact Sz.mono (n := 3) (by unfold Sz; decide) h3
  · exact h
def okC (m : Int) (c : List Int) : Prop := c.length = 6 ∧ ∀ x ∈ c, 0 ≤ x ∧ x < m
theorem cut6_4 (a b c d e f : D) : cutD [a, b, c, d, e, f] (some 4) none = [e, f] := rfl
theorem cut6_2 (a b c d e f : D) : cutD [a, b, c, d, e, f] (some 2) none = [c, d, e, f] := rfl
theorem cut6_t2 (a b c d e f : D) : cutD [a, b, c, d, e, f] none (some 2) = [a, b] := rfl
theorem six_ok {m a b c d e f : Int} (h1 : 0 ≤ a ∧ a < m) (h2 : 0 ≤ b ∧ b < m) (h3 : 0 ≤ c ∧ c < m) (h4 : 0 ≤ d ∧ d < m) (h5 : 0 ≤ e ∧ e < m) (h6 : 0 ≤ f ∧ f < m) : okC m [a, b, c, d, e, f] := by
  refine ⟨rfl, ?_⟩
  intro x hx
  simp only [List.mem_cons, List.not_mem_nil, or_false] at hx
  rcases hx with rfl | rfl | rfl | rfl | rfl | rfl <;> assumption
theorem bodyC_tail {N : Nat} {ns cl : List Int} {by_ most whole many at_ num a b c d e f : Int} {cs : List (List Int)} {s10 s11 : Sl} (hm : 0 < many) (ho : okC many [a, b, c, d, e, f]) (hcs : cs.length < 5) :
    ∃ c' a9, okC many c' ∧ (sSeq (sIf (bB (fB dEq (fB dMod (fVar 8) (fC (.int 3))) (fC (.int 1))))
    (sSet 9 (fL (fBL dCat (fL (fSlice (fVar 9) (oSome (fC (.int 2))) oNone)) (fL (fSlice (fVar 9) oNone (oSome (fC (.int 2))))))))
    sNext)
    (sApp 6 (fVar 9))) [.sh (.scr ns), .sh (.int by_), .sh (.int most), .sh (cD cl), .sh (.int whole), .sh (.int many), .ow (cs.map cD), .sh (.int at_), .sh (.int num), .sh (.lst [.int a, .int b, .int c, .int d, .int e, .int f]), s10, s11] =
      some (.nx [.sh (.scr ns), .sh (.int by_), .sh (.int most), .sh (cD cl), .sh (.int whole), .sh (.int many), .ow ((cs ++ [c']).map cD), .sh (.int at_), .sh (.int num), a9, s10, s11]) := by
  have hl : (cs.map cD).length < 1000000 := by rw [List.length_map]; omega
  by_cases h : num % 3 = 1
  · refine ⟨[c, d, e, f, a, b], .sh (cD [c, d, e, f, a, b]), ?_, ?_⟩
    · obtain ⟨_, h2⟩ := ho
      exact six_ok (h2 c (by simp)) (h2 d (by simp)) (h2 e (by simp)) (h2 f (by simp)) (h2 a (by simp)) (h2 b (by simp))
    · have hb : (num % 3 == 1) = true := by rw [h]; rfl
      simp only [sSeq, sSet, sSetA, sOwn, sOwn2, sAsg, sDrop, sApp, sApp2, sExt, sPut, sFrz, sIf, sRet, sRetA, sRetL, sRet2, sRetO, sBrk, sCnt, sPar, sParO, sNext, sAppAll, fVar, fC, fU, fB, fUL, fBL, fL, bB, fChain, fChain3, fAnd, fOr, bAnd, bOr, bNot, fIf, fIfL, aNil, aCons, fTup, fDisp, oNone, oSome, fSlice, fRev, fIs, fCall, fCallL, fCall2, fLL, iSeq, iRange, iRange2, iZipD, iEnumD, gtN, gtT, gtU, setsE, setsS, wipeE, bYes, toB_bl, toI_int, toL_lst, toLs_lst, toLs_scr, one_1, two_2, oneL_1, dEq_int, dNe_int, dAdd_int, dSub_int, dLen_lst, dLen_scr, dLt_int, dLe_int, dGt_int, dGe_int, dNot_bl, dNeg_int, dAbs_int, dIx_lst, dIx_tup, dList_lst, dList_tup, dIs_int_int, dIs_bool_int, dIs_bool_bl, dIs_list_lst, dIs_list_c, dIs_list_cs, dLen_c, dLen_cs, dList_c, dList_cs, toL_c, toL_cs, toLs_c, toLs_cs, dIsB, dNotB, vw, vwA, seen_sh, seen_no, seen_ow, seen_o2, seenA_sh, seenA_no, seenA_ow, seenA_o2, outD, outL, out2, scal, List.map_cons, List.map_nil, List.getElem?_cons_zero, List.getElem?_cons_succ, List.getElem?_nil, List.set_cons_zero, List.set_cons_succ, List.length_cons, List.length_nil, Option.bind_some, Option.bind_none, Option.map_some, Option.map_none, Option.join_some, Option.bind_fun_some, List.zip_cons_cons, List.zip_nil_left, Bool.false_eq_true, Bool.true_eq_false, if_true, if_false, ite_true, ite_false, reduceIte, Bool.not_true, Bool.not_false, dMod_int (show (0 : Int) < 3 by omega), hb, cut6_2, cut6_t2, dCat_lst (show ([D.int c, D.int d, D.int e, D.int f] : List D).length + ([D.int a, D.int b] : List D).length ≤ 1000000 from Nat.le_of_ble_eq_true rfl)]
      rw [if_pos hl, List.map_append]
      rfl
  · refine ⟨[a, b, c, d, e, f], .sh (cD [a, b, c, d, e, f]), ho, ?_⟩
    have hb : (num % 3 == 1) = false := beq_eq_false_iff_ne.mpr h
    simp only [sSeq, sSet, sSetA, sOwn, sOwn2, sAsg, sDrop, sApp, sApp2, sExt, sPut, sFrz, sIf, sRet, sRetA, sRetL, sRet2, sRetO, sBrk, sCnt, sPar, sParO, sNext, sAppAll, fVar, fC, fU, fB, fUL, fBL, fL, bB, fChain, fChain3, fAnd, fOr, bAnd, bOr, bNot, fIf, fIfL, aNil, aCons, fTup, fDisp, oNone, oSome, fSlice, fRev, fIs, fCall, fCallL, fCall2, fLL, iSeq, iRange, iRange2, iZipD, iEnumD, gtN, gtT, gtU, setsE, setsS, wipeE, bYes, toB_bl, toI_int, toL_lst, toLs_lst, toLs_scr, one_1, two_2, oneL_1, dEq_int, dNe_int, dAdd_int, dSub_int, dLen_lst, dLen_scr, dLt_int, dLe_int, dGt_int, dGe_int, dNot_bl, dNeg_int, dAbs_int, dIx_lst, dIx_tup, dList_lst, dList_tup, dIs_int_int, dIs_bool_int, dIs_bool_bl, dIs_list_lst, dIs_list_c, dIs_list_cs, dLen_c, dLen_cs, dList_c, dList_cs, toL_c, toL_cs, toLs_c, toLs_cs, dIsB, dNotB, vw, vwA, seen_sh, seen_no, seen_ow, seen_o2, seenA_sh, seenA_no, seenA_ow, seenA_o2, outD, outL, out2, scal, List.map_cons, List.map_nil, List.getElem?_cons_zero, List.getElem?_cons_succ, List.getElem?_nil, List.set_cons_zero, List.set_cons_succ, List.length_cons, List.length_nil, Option.bind_some, Option.bind_none, Option.map_some, Option.map_none, Option.join_some, Option.bind_fun_some, List.zip_cons_cons, List.zip_nil_left, Bool.false_eq_true, Bool.true_eq_false, if_true, if_false, ite_true, ite_false, reduceIte, Bool.not_true, Bool.not_false, dMod_int (show (0 : Int) < 3 by omega), hb]
    rw [if_pos hl, List.map_append]
    rfl
theorem cl_at {cl : List Int} {i : Int} (h0 : 0 ≤ i) (h : i < cl.length) : ∃ x ∈ cl, dIx (cD cl) (.int i) = some (.int x) := by
  have hi : i.toNat < cl.length := by omega
  exact ⟨cl[i.toNat], List.getElem_mem hi, dIx_c (n := i.toNat) (by omega) (List.getElem?_eq_getElem hi)⟩
theorem bodyC_ok {N : Nat} (hN : N ≤ 2000000) {ns cl : List Int} {by_ most whole many at_ : Int} {cs : List (List Int)} {s8 s9 s10 s11 : Sl} (hcl : 1 ≤ cl.length) (hsz : ∀ z ∈ cl, Sz N z) (hby : 0 ≤ by_) (hby' : by_ ≤ 500) (hmo : 1 ≤ most) (hmo' : most ≤ 5) (hm : 0 < many) (hm' : many ≤ 5)
    (hat : 0 ≤ at_) (hat' : at_ ≤ 5) (hcs : cs.length < 5) :
    ∃ c' a8 a9 a10 a11, okC many c' ∧ b_law_cubes_1 [.sh (.scr ns), .sh (.int by_), .sh (.int most), .sh (cD cl), .sh (.int whole), .sh (.int many), .ow (cs.map cD), .sh (.int at_), s8, s9, s10, s11] =
      some (.nx [.sh (.scr ns), .sh (.int by_), .sh (.int most), .sh (cD cl), .sh (.int whole), .sh (.int many), .ow ((cs ++ [c']).map cD), .sh (.int at_), a8, a9, a10, a11]) := by
  have hlen : (0 : Int) < cl.length := by omega
  obtain ⟨x, hx, ex⟩ := cl_at (i := (at_ + by_) % cl.length) (Int.emod_nonneg _ (by omega)) (Int.emod_lt_of_pos _ hlen)
  have en : F_law_number [.int x, .int (at_ + by_), .int whole] = some (.int (numL x (at_ + by_) whole)) := law_number_int hN (hsz x hx) (by omega) (by omega)
  have d3 : ∀ z : Int, dDiv (.int z) (.int 3) = some (.int (z / 3)) := fun z => dDiv_int (by omega) (by omega)
  have md : ∀ z : Int, dMod (.int z) (.int many) = some (.int (z % many)) := fun z => dMod_int hm
  have mr : ∀ z : Int, 0 ≤ z % many ∧ z % many < many := fun z => ⟨Int.emod_nonneg _ (by omega), Int.emod_lt_of_pos _ hm⟩
  unfold b_law_cubes_1
  simp only [sSeq, sSet, sSetA, sOwn, sOwn2, sAsg, sDrop, sApp, sApp2, sExt, sPut, sFrz, sIf, sRet, sRetA, sRetL, sRet2, sRetO, sBrk, sCnt, sPar, sParO, sNext, sAppAll, fVar, fC, fU, fB, fUL, fBL, fL, bB, fChain, fChain3, fAnd, fOr, bAnd, bOr, bNot, fIf, fIfL, aNil, aCons, fTup, fDisp, oNone, oSome, fSlice, fRev, fIs, fCall, fCallL, fCall2, fLL, iSeq, iRange, iRange2, iZipD, iEnumD, gtN, gtT, gtU, setsE, setsS, wipeE, bYes, toB_bl, toI_int, toL_lst, toLs_lst, toLs_scr, one_1, two_2, oneL_1, dEq_int, dNe_int, dAdd_int, dSub_int, dLen_lst, dLen_scr, dLt_int, dLe_int, dGt_int, dGe_int, dNot_bl, dNeg_int, dAbs_int, dIx_lst, dIx_tup, dList_lst, dList_tup, dIs_int_int, dIs_bool_int, dIs_bool_bl, dIs_list_lst, dIs_list_c, dIs_list_cs, dLen_c, dLen_cs, dList_c, dList_cs, toL_c, toL_cs, toLs_c, toLs_cs, dIsB, dNotB, vw, vwA, seen_sh, seen_no, seen_ow, seen_o2, seenA_sh, seenA_no, seenA_ow, seenA_o2, outD, outL, out2, scal, List.map_cons, List.map_nil, List.getElem?_cons_zero, List.getElem?_cons_succ, List.getElem?_nil, List.set_cons_zero, List.set_cons_succ, List.length_cons, List.length_nil, Option.bind_some, Option.bind_none, Option.map_some, Option.map_none, Option.join_some, Option.bind_fun_some, List.zip_cons_cons, List.zip_nil_left, Bool.false_eq_true, Bool.true_eq_false, if_true, if_false, ite_true, ite_false, reduceIte, Bool.not_true, Bool.not_false, dMod_int hlen, ex, en, d3]
  generalize numL x (at_ + by_) whole / 3 = num
  have ec : c_law_cubes_1 [some (.scr ns), some (.int by_), some (.int most), some (cD cl), some (.int whole), some (.int many), none, some (.int at_), some (.int num), seen s9, seen s10, seen s11] =
      some ((List.range 6).map fun i : Nat => D.int (num / (1 + 7 * (i : Int)) % many)) := by
    refine fLc_map (e := fun (i : Nat) => D.int (i : Int)) (fun (i : Nat) => [(11, D.int (i : Int))]) _ (iRange_nat (n := 6) rfl (by omega)) (by decide) (fun x _ => rfl) fun k hk => ?_
    rw [List.mem_range] at hk
    simp only [sSeq, sSet, sSetA, sOwn, sOwn2, sAsg, sDrop, sApp, sApp2, sExt, sPut, sFrz, sIf, sRet, sRetA, sRetL, sRet2, sRetO, sBrk, sCnt, sPar, sParO, sNext, sAppAll, fVar, fC, fU, fB, fUL, fBL, fL, bB, fChain, fChain3, fAnd, fOr, bAnd, bOr, bNot, fIf, fIfL, aNil, aCons, fTup, fDisp, oNone, oSome, fSlice, fRev, fIs, fCall, fCallL, fCall2, fLL, iSeq, iRange, iRange2, iZipD, iEnumD, gtN, gtT, gtU, setsE, setsS, wipeE, bYes, toB_bl, toI_int, toL_lst, toLs_lst, toLs_scr, one_1, two_2, oneL_1, dEq_int, dNe_int, dAdd_int, dSub_int, dLen_lst, dLen_scr, dLt_int, dLe_int, dGt_int, dGe_int, dNot_bl, dNeg_int, dAbs_int, dIx_lst, dIx_tup, dList_lst, dList_tup, dIs_int_int, dIs_bool_int, dIs_bool_bl, dIs_list_lst, dIs_list_c, dIs_list_cs, dLen_c, dLen_cs, dList_c, dList_cs, toL_c, toL_cs, toLs_c, toLs_cs, dIsB, dNotB, vw, vwA, seen_sh, seen_no, seen_ow, seen_o2, seenA_sh, seenA_no, seenA_ow, seenA_o2, outD, outL, out2, scal, List.map_cons, List.map_nil, List.getElem?_cons_zero, List.getElem?_cons_succ, List.getElem?_nil, List.set_cons_zero, List.set_cons_succ, List.length_cons, List.length_nil, Option.bind_some, Option.bind_none, Option.map_some, Option.map_none, Option.join_some, Option.bind_fun_some, List.zip_cons_cons, List.zip_nil_left, Bool.false_eq_true, Bool.true_eq_false, if_true, if_false, ite_true, ite_false, reduceIte, Bool.not_true, Bool.not_false, dMul_sz (n := 32) (m := 32) (a := 7) (b := (k : Int)) (Sz.small (by omega)) (Sz.small (by omega)) (by omega), dDiv_int (a := num) (b := 1 + 7 * (k : Int)) (by omega) (by omega), md]
  have ec' : (List.range 6).map (fun i : Nat => D.int (num / (1 + 7 * (i : Int)) % many)) = [.int (num / (1 + 7 * ((0 : Nat) : Int)) % many), .int (num / (1 + 7 * ((1 : Nat) : Int)) % many), .int (num / (1 + 7 * ((2 : Nat) : Int)) % many), .int (num / (1 + 7 * ((3 : Nat) : Int)) % many), .int (num / (1 + 7 * ((4 : Nat) : Int)) % many), .int (num / (1 + 7 * ((5 : Nat) : Int)) % many)] := rfl
  rw [ec'] at ec
  simp only [sSeq, sSet, sSetA, sOwn, sOwn2, sAsg, sDrop, sApp, sApp2, sExt, sPut, sFrz, sIf, sRet, sRetA, sRetL, sRet2, sRetO, sBrk, sCnt, sPar, sParO, sNext, sAppAll, fVar, fC, fU, fB, fUL, fBL, fL, bB, fChain, fChain3, fAnd, fOr, bAnd, bOr, bNot, fIf, fIfL, aNil, aCons, fTup, fDisp, oNone, oSome, fSlice, fRev, fIs, fCall, fCallL, fCall2, fLL, iSeq, iRange, iRange2, iZipD, iEnumD, gtN, gtT, gtU, setsE, setsS, wipeE, bYes, toB_bl, toI_int, toL_lst, toLs_lst, toLs_scr, one_1, two_2, oneL_1, dEq_int, dNe_int, dAdd_int, dSub_int, dLen_lst, dLen_scr, dLt_int, dLe_int, dGt_int, dGe_int, dNot_bl, dNeg_int, dAbs_int, dIx_lst, dIx_tup, dList_lst, dList_tup, dIs_int_int, dIs_bool_int, dIs_bool_bl, dIs_list_lst, dIs_list_c, dIs_list_cs, dLen_c, dLen_cs, dList_c, dList_cs, toL_c, toL_cs, toLs_c, toLs_cs, dIsB, dNotB, vw, vwA, seen_sh, seen_no, seen_ow, seen_o2, seenA_sh, seenA_no, seenA_ow, seenA_o2, outD, outL, out2, scal, List.map_cons, List.map_nil, List.getElem?_cons_zero, List.getElem?_cons_succ, List.getElem?_nil, List.set_cons_zero, List.set_cons_succ, List.length_cons, List.length_nil, Option.bind_some, Option.bind_none, Option.map_some, Option.map_none, Option.join_some, Option.bind_fun_some, List.zip_cons_cons, List.zip_nil_left, Bool.false_eq_true, Bool.true_eq_false, if_true, if_false, ite_true, ite_false, reduceIte, Bool.not_true, Bool.not_false, ec, dDiv_int (show (0 : Int) < most by omega) (show most < 1073741824 by omega), dMod_int (show (0 : Int) < 3 by omega)]
  by_cases hd : 0 < whole / most % 3
  · have hd' : decide (0 < whole / most % 3) = true := decide_eq_true hd
    have d5 : ∀ z : Int, dDiv (.int z) (.int 5) = some (.int (z / 5)) := fun z => dDiv_int (by omega) (by omega)
    have d7 : ∀ z : Int, dDiv (.int z) (.int 7) = some (.int (z / 7)) := fun z => dDiv_int (by omega) (by omega)
    have m2 : dMul (.int 2) (.int many) = some (.int (2 * many)) := dMul_sz (Sz.small (by omega)) (Sz.small (by omega)) (by omega)
    have b2 : (0 + 1 + 1 ≤ 1000000) := by decide
    simp only [sSeq, sSet, sSetA, sOwn, sOwn2, sAsg, sDrop, sApp, sApp2, sExt, sPut, sFrz, sIf, sRet, sRetA, sRetL, sRet2, sRetO, sBrk, sCnt, sPar, sParO, sNext, sAppAll, fVar, fC, fU, fB, fUL, fBL, fL, bB, fChain, fChain3, fAnd, fOr, bAnd, bOr, bNot, fIf, fIfL, aNil, aCons, fTup, fDisp, oNone, oSome, fSlice, fRev, fIs, fCall, fCallL, fCall2, fLL, iSeq, iRange, iRange2, iZipD, iEnumD, gtN, gtT, gtU, setsE, setsS, wipeE, bYes, toB_bl, toI_int, toL_lst, toLs_lst, toLs_scr, one_1, two_2, oneL_1, dEq_int, dNe_int, dAdd_int, dSub_int, dLen_lst, dLen_scr, dLt_int, dLe_int, dGt_int, dGe_int, dNot_bl, dNeg_int, dAbs_int, dIx_lst, dIx_tup, dList_lst, dList_tup, dIs_int_int, dIs_bool_int, dIs_bool_bl, dIs_list_lst, dIs_list_c, dIs_list_cs, dLen_c, dLen_cs, dList_c, dList_cs, toL_c, toL_cs, toLs_c, toLs_cs, dIsB, dNotB, vw, vwA, seen_sh, seen_no, seen_ow, seen_o2, seenA_sh, seenA_no, seenA_ow, seenA_o2, outD, outL, out2, scal, List.map_cons, List.map_nil, List.getElem?_cons_zero, List.getElem?_cons_succ, List.getElem?_nil, List.set_cons_zero, List.set_cons_succ, List.length_cons, List.length_nil, Option.bind_some, Option.bind_none, Option.map_some, Option.map_none, Option.join_some, Option.bind_fun_some, List.zip_cons_cons, List.zip_nil_left, Bool.false_eq_true, Bool.true_eq_false, if_true, if_false, ite_true, ite_false, reduceIte, Bool.not_true, Bool.not_false, hd', md, d5, d7, m2, cut6_4, if_pos b2]
    rw [dCat_lst (Nat.le_of_ble_eq_true rfl)]
    simp only [sSeq, sSet, sSetA, sOwn, sOwn2, sAsg, sDrop, sApp, sApp2, sExt, sPut, sFrz, sIf, sRet, sRetA, sRetL, sRet2, sRetO, sBrk, sCnt, sPar, sParO, sNext, sAppAll, fVar, fC, fU, fB, fUL, fBL, fL, bB, fChain, fChain3, fAnd, fOr, bAnd, bOr, bNot, fIf, fIfL, aNil, aCons, fTup, fDisp, oNone, oSome, fSlice, fRev, fIs, fCall, fCallL, fCall2, fLL, iSeq, iRange, iRange2, iZipD, iEnumD, gtN, gtT, gtU, setsE, setsS, wipeE, bYes, toB_bl, toI_int, toL_lst, toLs_lst, toLs_scr, one_1, two_2, oneL_1, dEq_int, dNe_int, dAdd_int, dSub_int, dLen_lst, dLen_scr, dLt_int, dLe_int, dGt_int, dGe_int, dNot_bl, dNeg_int, dAbs_int, dIx_lst, dIx_tup, dList_lst, dList_tup, dIs_int_int, dIs_bool_int, dIs_bool_bl, dIs_list_lst, dIs_list_c, dIs_list_cs, dLen_c, dLen_cs, dList_c, dList_cs, toL_c, toL_cs, toLs_c, toLs_cs, dIsB, dNotB, vw, vwA, seen_sh, seen_no, seen_ow, seen_o2, seenA_sh, seenA_no, seenA_ow, seenA_o2, outD, outL, out2, scal, List.map_cons, List.map_nil, List.getElem?_cons_zero, List.getElem?_cons_succ, List.getElem?_nil, List.set_cons_zero, List.set_cons_succ, List.length_cons, List.length_nil, Option.bind_some, Option.bind_none, Option.map_some, Option.map_none, Option.join_some, Option.bind_fun_some, List.zip_cons_cons, List.zip_nil_left, Bool.false_eq_true, Bool.true_eq_false, if_true, if_false, ite_true, ite_false, reduceIte, Bool.not_true, Bool.not_false]
    rw [dCat_lst (Nat.le_of_ble_eq_true rfl)]
    simp only [sSeq, sSet, sSetA, sOwn, sOwn2, sAsg, sDrop, sApp, sApp2, sExt, sPut, sFrz, sIf, sRet, sRetA, sRetL, sRet2, sRetO, sBrk, sCnt, sPar, sParO, sNext, sAppAll, fVar, fC, fU, fB, fUL, fBL, fL, bB, fChain, fChain3, fAnd, fOr, bAnd, bOr, bNot, fIf, fIfL, aNil, aCons, fTup, fDisp, oNone, oSome, fSlice, fRev, fIs, fCall, fCallL, fCall2, fLL, iSeq, iRange, iRange2, iZipD, iEnumD, gtN, gtT, gtU, setsE, setsS, wipeE, bYes, toB_bl, toI_int, toL_lst, toLs_lst, toLs_scr, one_1, two_2, oneL_1, dEq_int, dNe_int, dAdd_int, dSub_int, dLen_lst, dLen_scr, dLt_int, dLe_int, dGt_int, dGe_int, dNot_bl, dNeg_int, dAbs_int, dIx_lst, dIx_tup, dList_lst, dList_tup, dIs_int_int, dIs_bool_int, dIs_bool_bl, dIs_list_lst, dIs_list_c, dIs_list_cs, dLen_c, dLen_cs, dList_c, dList_cs, toL_c, toL_cs, toLs_c, toLs_cs, dIsB, dNotB, vw, vwA, seen_sh, seen_no, seen_ow, seen_o2, seenA_sh, seenA_no, seenA_ow, seenA_o2, outD, outL, out2, scal, List.map_cons, List.map_nil, List.getElem?_cons_zero, List.getElem?_cons_succ, List.getElem?_nil, List.set_cons_zero, List.set_cons_succ, List.length_cons, List.length_nil, Option.bind_some, Option.bind_none, Option.map_some, Option.map_none, Option.join_some, Option.bind_fun_some, List.zip_cons_cons, List.zip_nil_left, Bool.false_eq_true, Bool.true_eq_false, if_true, if_false, ite_true, ite_false, reduceIte, Bool.not_true, Bool.not_false, List.cons_append, List.nil_append]
    obtain ⟨c', a9, h1, h2⟩ := bodyC_tail (N := N) (ns := ns) (cl := cl) (by_ := by_) (most := most) (whole := whole) (at_ := at_) (num := num) (cs := cs) (s10 := .sh (.lst [.int ((at_ + whole) % many), .int ((at_ + whole / 5) % many), .int ((2 * many - at_) % many), .int ((at_ + whole / 7) % many)])) (s11 := s11) hm (six_ok (mr (at_ + whole)) (mr (at_ + whole / 5)) (mr (2 * many - at_)) (mr (at_ + whole / 7)) (mr (num / (1 + 7 * ((4 : Nat) : Int)))) (mr (num / (1 + 7 * ((5 : Nat) : Int))))) hcs
    exact ⟨c', _, a9, _, _, h1, h2⟩
  · have hd' : decide (0 < whole / most % 3) = false := decide_eq_false hd
    simp only [sSeq, sSet, sSetA, sOwn, sOwn2, sAsg, sDrop, sApp, sApp2, sExt, sPut, sFrz, sIf, sRet, sRetA, sRetL, sRet2, sRetO, sBrk, sCnt, sPar, sParO, sNext, sAppAll, fVar, fC, fU, fB, fUL, fBL, fL, bB, fChain, fChain3, fAnd, fOr, bAnd, bOr, bNot, fIf, fIfL, aNil, aCons, fTup, fDisp, oNone, oSome, fSlice, fRev, fIs, fCall, fCallL, fCall2, fLL, iSeq, iRange, iRange2, iZipD, iEnumD, gtN, gtT, gtU, setsE, setsS, wipeE, bYes, toB_bl, toI_int, toL_lst, toLs_lst, toLs_scr, one_1, two_2, oneL_1, dEq_int, dNe_int, dAdd_int, dSub_int, dLen_lst, dLen_scr, dLt_int, dLe_int, dGt_int, dGe_int, dNot_bl, dNeg_int, dAbs_int, dIx_lst, dIx_tup, dList_lst, dList_tup, dIs_int_int, dIs_bool_int, dIs_bool_bl, dIs_list_lst, dIs_list_c, dIs_list_cs, dLen_c, dLen_cs, dList_c, dList_cs, toL_c, toL_cs, toLs_c, toLs_cs, dIsB, dNotB, vw, vwA, seen_sh, seen_no, seen_ow, seen_o2, seenA_sh, seenA_no, seenA_ow, seenA_o2, outD, outL, out2, scal, List.map_cons, List.map_nil, List.getElem?_cons_zero, List.getElem?_cons_succ, List.getElem?_nil, List.set_cons_zero, List.set_cons_succ, List.length_cons, List.length_nil, Option.bind_some, Option.bind_none, Option.map_some, Option.map_none, Option.join_some, Option.bind_fun_some, List.zip_cons_cons, List.zip_nil_left, Bool.false_eq_true, Bool.true_eq_false, if_true, if_false, ite_true, ite_false, reduceIte, Bool.not_true, Bool.not_false, hd']
    obtain ⟨c', a9, h1, h2⟩ := bodyC_tail (N := N) (ns := ns) (cl := cl) (by_ := by_) (most := most) (whole := whole) (at_ := at_) (num := num) (cs := cs) (s10 := s10) (s11 := s11) hm (six_ok (mr (num / (1 + 7 * ((0 : Nat) : Int)))) (mr (num / (1 + 7 * ((1 : Nat) : Int)))) (mr (num / (1 + 7 * ((2 : Nat) : Int)))) (mr (num / (1 + 7 * ((3 : Nat) : Int)))) (mr (num / (1 + 7 * ((4 : Nat) : Int)))) (mr (num / (1 + 7 * ((5 : Nat) : Int))))) hcs
    exact ⟨c', _, a9, _, _, h1, h2⟩
theorem setsS_1 (s : Sts) (i : Nat) (d : D) : setsS s [(i, d)] = s.set i (.sh d) := rfl
theorem law_cubes_ok {N : Nat} (h3 : 3 ≤ N) (hN : N ≤ 2000000) {ns : List Int} (hl : ns.length ≤ 63) (hs : ∀ z ∈ ns, Sz N z) {by_ most : Int} (hby : 0 ≤ by_) (hby' : by_ ≤ 500) (hmo : 1 ≤ most) (hmo' : most ≤ 5) :
    ∃ cs : List (List Int), F_law_cubes [.scr ns, .int by_, .int most] = some (cs.map cD) ∧ (cs.length : Int) = 1 + (absI (cells ns).sum + by_) % most ∧ Cbs cs := by
  obtain ⟨c1, c63⟩ := cells_len ns hl
  have csz := cells_sz h3 hs
  have e3 : (if (!ns.isEmpty) = true then some (cutD (List.map D.int ns) none (some 63)) else some [D.int 5]) = some ((cells ns).map .int) := by
    unfold cells
    cases ns with
    | nil => rfl
    | cons x r =>
      show some (cutD (List.map D.int (x :: r)) none (some 63)) = _
      rw [cut_to _ (by rw [List.length_map]; exact hl), if_neg (List.cons_ne_nil _ _)]
  generalize cells ns = cl at c1 c63 csz e3
  have hmod : 0 ≤ (absI cl.sum + by_) % most ∧ (absI cl.sum + by_) % most < most := ⟨Int.emod_nonneg _ (by omega), Int.emod_lt_of_pos _ (by omega)⟩
  generalize hw : absI cl.sum + by_ = whole at hmod
  obtain ⟨m, hm⟩ : ∃ m : Nat, 1 + whole % most = (m : Int) := ⟨(1 + whole % most).toNat, by omega⟩
  have hm1 : 1 ≤ m ∧ m ≤ 5 := by omega
  obtain ⟨s', hr, a7, a8, a9, a10, a11, cs, hs', hlen, hok⟩ := runFor_inv (tg := gtN 7) (body := b_law_cubes_1) (ds := (List.range m).map fun (i : Nat) => D.int (i : Int))
    (fun i s => ∃ a7 a8 a9 a10 a11, ∃ cs : List (List Int), s = [.sh (.scr ns), .sh (.int by_), .sh (.int most), .sh (cD cl), .sh (.int whole), .sh (.int m), .ow (cs.map cD), a7, a8, a9, a10, a11] ∧ cs.length = i ∧ ∀ c ∈ cs, okC m c)
    (s := [.sh (.scr ns), .sh (.int by_), .sh (.int most), .sh (cD cl), .sh (.int whole), .sh (.int m), .ow [], .no, .no, .no, .no, .no]) ⟨.no, .no, .no, .no, .no, [], rfl, rfl, fun c hc => nomatch hc⟩ (by
      rintro i d s hi ⟨a7, a8, a9, a10, a11, cs, rfl, hlen, hok⟩
      rw [List.getElem?_map] at hi
      have him : i < m := by
        by_cases h : i < m
        · exact h
        · rw [List.getElem?_eq_none (by rw [List.length_range]; omega)] at hi; cases hi
      rw [List.getElem?_range him] at hi
      cases hi
      obtain ⟨c', b8, b9, b10, b11, h1, h2⟩ := bodyC_ok hN (ns := ns) (cl := cl) (by_ := by_) (most := most) (whole := whole) (many := (m : Int)) (at_ := (i : Int)) (cs := cs) (s8 := a8) (s9 := a9) (s10 := a10) (s11 := a11) c1 csz hby hby' hmo hmo' (by omega) (by omega) (by omega) (by omega) (by omega)
      refine ⟨_, _, rfl, h2, _, b8, b9, b10, b11, cs ++ [c'], rfl, by rw [List.length_append, hlen]; rfl, ?_⟩
      intro c hc
      rw [List.mem_append, List.mem_singleton] at hc
      rcases hc with hc | rfl
      · exact hok c hc
      · exact h1)
  rw [List.length_map, List.length_range] at hlen
  subst hs'
  refine ⟨cs, ?_, by rw [hlen, ← hm], ⟨by omega, by omega, fun c hc => (hok c hc).1, fun c hc => by rw [hlen]; exact (hok c hc).2⟩⟩
  have hr0 : (iRange (fVar 5)) (vw [.sh (.scr ns), .sh (.int by_), .sh (.int most), .sh (cD cl), .sh (.int whole), .sh (.int m), .ow [], .no, .no, .no, .no, .no]) = some ((List.range m).map fun (i : Nat) => D.int (i : Int)) := iRange_nat (n := m) rfl (by omega)
  have hfor : sFor (iRange (fVar 5)) (gtN 7) b_law_cubes_1 [.sh (.scr ns), .sh (.int by_), .sh (.int most), .sh (cD cl), .sh (.int whole), .sh (.int m), .ow [], .no, .no, .no, .no, .no] = some (.nx [.sh (.scr ns), .sh (.int by_), .sh (.int most), .sh (cD cl), .sh (.int whole), .sh (.int m), .ow (cs.map cD), a7, a8, a9, a10, a11]) := by
    unfold sFor
    rw [hr0, Option.bind_some]
    exact hr
  have b1 : (0 + 1 ≤ 1000000) := by decide
  have b0 : (0 ≤ 1000000) := by decide
  have ea : D.int (if cl.sum < 0 then -cl.sum else cl.sum) = D.int (absI cl.sum) := rfl
  rw [E_law_cubes, g_law_cubes]
  simp only [sSeq, sSet, sSetA, sOwn, sOwn2, sAsg, sDrop, sApp, sApp2, sExt, sPut, sFrz, sIf, sRet, sRetA, sRetL, sRet2, sRetO, sBrk, sCnt, sPar, sParO, sNext, sAppAll, fVar, fC, fU, fB, fUL, fBL, fL, bB, fChain, fChain3, fAnd, fOr, bAnd, bOr, bNot, fIf, fIfL, aNil, aCons, fTup, fDisp, oNone, oSome, fSlice, fRev, fIs, fCall, fCallL, fCall2, fLL, iSeq, iRange, iRange2, iZipD, iEnumD, gtN, gtT, gtU, setsE, setsS, wipeE, bYes, toB_bl, toI_int, toL_lst, toLs_lst, toLs_scr, one_1, two_2, oneL_1, dEq_int, dNe_int, dAdd_int, dSub_int, dLen_lst, dLen_scr, dLt_int, dLe_int, dGt_int, dGe_int, dNot_bl, dNeg_int, dAbs_int, dIx_lst, dIx_tup, dList_lst, dList_tup, dIs_int_int, dIs_bool_int, dIs_bool_bl, dIs_list_lst, dIs_list_c, dIs_list_cs, dLen_c, dLen_cs, dList_c, dList_cs, toL_c, toL_cs, toLs_c, toLs_cs, dIsB, dNotB, vw, vwA, seen_sh, seen_no, seen_ow, seen_o2, seenA_sh, seenA_no, seenA_ow, seenA_o2, outD, outL, out2, scal, List.map_cons, List.map_nil, List.getElem?_cons_zero, List.getElem?_cons_succ, List.getElem?_nil, List.set_cons_zero, List.set_cons_succ, List.length_cons, List.length_nil, Option.bind_some, Option.bind_none, Option.map_some, Option.map_none, Option.join_some, Option.bind_fun_some, List.zip_cons_cons, List.zip_nil_left, Bool.false_eq_true, Bool.true_eq_false, if_true, if_false, ite_true, ite_false, reduceIte, Bool.not_true, Bool.not_false, dNe_scr, if_pos b1, if_pos b0, e3, dSum_map, ea, hw, dMod_int (show (0 : Int) < most by omega), hm]
  rw [lst_c]
  show ((sSeq (sFor (iRange (fVar 5)) (gtN 7) b_law_cubes_1) (sRetO 6)) [.sh (.scr ns), .sh (.int by_), .sh (.int most), .sh (cD cl), .sh (.int whole), .sh (.int m), .ow [], .no, .no, .no, .no, .no]).bind outL = _
  rw [sSeq, hfor]
  rfl
end CT

set_option linter.all false
set_option maxRecDepth 100000
set_option maxHeartbeats 400000
namespace CT
open PySem DL
theorem bl_dec {p : Prop} [Decidable p] (h : p) : (!decide p) = false := by rw [decide_eq_true h]; rfl
theorem law_copied_ok {cs : List (List Int)} (hn : cs.length ≤ 5) : F_law_copied [csD cs] = some (cs.map fun r => r.map D.int) := by
  have e : c_law_copied_1 [some (csD cs), none] = some (cs.map fun r => r.map D.int) := by
    refine fLc2_map (e := cD) (fun c => [(1, cD c)]) _ rfl (by omega) (fun _ _ => rfl) fun c _ => ?_
    simp only [sSeq, sSet, sSetA, sOwn, sOwn2, sAsg, sDrop, sApp, sApp2, sExt, sPut, sFrz, sIf, sRet, sRetA, sRetL, sRet2, sRetO, sBrk, sCnt, sPar, sParO, sNext, sAppAll, fVar, fC, fU, fB, fUL, fBL, fL, bB, fChain, fChain3, fAnd, fOr, bAnd, bOr, bNot, fIf, fIfL, aNil, aCons, fTup, fDisp, oNone, oSome, fSlice, fRev, fIs, fCall, fCallL, fCall2, fLL, iSeq, iRange, iRange2, iZipD, iEnumD, gtN, gtT, gtU, setsE, setsS, wipeE, bYes, toB_bl, toI_int, toL_lst, toLs_lst, toLs_scr, one_1, two_2, oneL_1, dEq_int, dNe_int, dAdd_int, dSub_int, dLen_lst, dLen_scr, dLt_int, dLe_int, dGt_int, dGe_int, dNot_bl, dNeg_int, dAbs_int, dIx_lst, dIx_tup, dList_lst, dList_tup, dIs_int_int, dIs_bool_int, dIs_bool_bl, dIs_list_lst, dIs_list_c, dIs_list_cs, dLen_c, dLen_cs, dList_c, dList_cs, toL_c, toL_cs, toLs_c, toLs_cs, dIsB, dNotB, vw, vwA, seen_sh, seen_no, seen_ow, seen_o2, seenA_sh, seenA_no, seenA_ow, seenA_o2, outD, outL, out2, scal, List.map_cons, List.map_nil, List.getElem?_cons_zero, List.getElem?_cons_succ, List.getElem?_nil, List.set_cons_zero, List.set_cons_succ, List.length_cons, List.length_nil, Option.bind_some, Option.bind_none, Option.map_some, Option.map_none, Option.join_some, Option.bind_fun_some, List.zip_cons_cons, List.zip_nil_left, Bool.false_eq_true, Bool.true_eq_false, if_true, if_false, ite_true, ite_false, reduceIte, Bool.not_true, Bool.not_false]
  rw [E_law_copied, g_law_copied]
  simp only [sSeq, sSet, sSetA, sOwn, sOwn2, sAsg, sDrop, sApp, sApp2, sExt, sPut, sFrz, sIf, sRet, sRetA, sRetL, sRet2, sRetO, sBrk, sCnt, sPar, sParO, sNext, sAppAll, fVar, fC, fU, fB, fUL, fBL, fL, bB, fChain, fChain3, fAnd, fOr, bAnd, bOr, bNot, fIf, fIfL, aNil, aCons, fTup, fDisp, oNone, oSome, fSlice, fRev, fIs, fCall, fCallL, fCall2, fLL, iSeq, iRange, iRange2, iZipD, iEnumD, gtN, gtT, gtU, setsE, setsS, wipeE, bYes, toB_bl, toI_int, toL_lst, toLs_lst, toLs_scr, one_1, two_2, oneL_1, dEq_int, dNe_int, dAdd_int, dSub_int, dLen_lst, dLen_scr, dLt_int, dLe_int, dGt_int, dGe_int, dNot_bl, dNeg_int, dAbs_int, dIx_lst, dIx_tup, dList_lst, dList_tup, dIs_int_int, dIs_bool_int, dIs_bool_bl, dIs_list_lst, dIs_list_c, dIs_list_cs, dLen_c, dLen_cs, dList_c, dList_cs, toL_c, toL_cs, toLs_c, toLs_cs, dIsB, dNotB, vw, vwA, seen_sh, seen_no, seen_ow, seen_o2, seenA_sh, seenA_no, seenA_ow, seenA_o2, outD, outL, out2, scal, List.map_cons, List.map_nil, List.getElem?_cons_zero, List.getElem?_cons_succ, List.getElem?_nil, List.set_cons_zero, List.set_cons_succ, List.length_cons, List.length_nil, Option.bind_some, Option.bind_none, Option.map_some, Option.map_none, Option.join_some, Option.bind_fun_some, List.zip_cons_cons, List.zip_nil_left, Bool.false_eq_true, Bool.true_eq_false, if_true, if_false, ite_true, ite_false, reduceIte, Bool.not_true, Bool.not_false, e]
theorem b1_ok {ns : List Int} {w by_ l : Int} {cs : List (List Int)} (h : Cbs cs) (h0 : 0 ≤ l) (hl : l < 24) (s3 s7 s8 s9 s10 s11 s12 s13 s14 s15 s16 : Sl) :
    ∃ b11, b_law_1 [.sh (.scr ns), .sh (.int w), .sh (.int by_), s3, .sh (csD cs), .sh (csD cs), .sh (.int l), s7, s8, s9, s10, s11, s12, s13, s14, s15, s16] = some (.nx [.sh (.scr ns), .sh (.int w), .sh (.int by_), s3, .sh (csD cs), .sh (csD cs), .sh (.int l), s7, s8, s9, s10, b11, s12, s13, s14, s15, s16]) := by
  obtain ⟨c, hc⟩ : ∃ c, cs[0]? = some c := ⟨cs[0]'(by have := h.l1; omega), List.getElem?_eq_getElem _⟩
  have hm : c ∈ cs := List.mem_of_getElem? hc
  have h6 := h.six c hm
  have e0 : dIx (csD cs) (.int 0) = some (cD c) := dIx_cs (n := 0) rfl hc
  have es := sides_ok h6 (fun x hx => ⟨(h.rng c hm x hx).1, by have := (h.rng c hm x hx).2; have := h.l5; omega⟩) h0 hl
  have el := law_laid_int h6 h0 hl
  have hlen : ((laidL c l.toNat).map D.int).length < 1000000 := by rw [List.length_map, laidL_len _ (by omega)]; omega
  refine ⟨.ow (((laidL c l.toNat).map D.int) ++ [.int 0]), ?_⟩
  unfold b_law_1
  rw [seq_nx (own_nx (d := (laidL c l.toNat).map D.int) (by simp only [sSeq, sSet, sSetA, sOwn, sOwn2, sAsg, sDrop, sApp, sApp2, sExt, sPut, sFrz, sIf, sRet, sRetA, sRetL, sRet2, sRetO, sBrk, sCnt, sPar, sParO, sNext, sAppAll, fVar, fC, fU, fB, fUL, fBL, fL, bB, fChain, fChain3, fAnd, fOr, bAnd, bOr, bNot, fIf, fIfL, aNil, aCons, fTup, fDisp, oNone, oSome, fSlice, fRev, fIs, fCall, fCallL, fCall2, fLL, iSeq, iRange, iRange2, iZipD, iEnumD, gtN, gtT, gtU, setsE, setsS, wipeE, bYes, toB_bl, toI_int, toL_lst, toLs_lst, toLs_scr, one_1, two_2, oneL_1, dEq_int, dNe_int, dAdd_int, dSub_int, dLen_lst, dLen_scr, dLt_int, dLe_int, dGt_int, dGe_int, dNot_bl, dNeg_int, dAbs_int, dIx_lst, dIx_tup, dList_lst, dList_tup, dIs_int_int, dIs_bool_int, dIs_bool_bl, dIs_list_lst, dIs_list_c, dIs_list_cs, dLen_c, dLen_cs, dList_c, dList_cs, toL_c, toL_cs, toLs_c, toLs_cs, dIsB, dNotB, vw, vwA, seen_sh, seen_no, seen_ow, seen_o2, seenA_sh, seenA_no, seenA_ow, seenA_o2, outD, outL, out2, scal, List.map_cons, List.map_nil, List.getElem?_cons_zero, List.getElem?_cons_succ, List.getElem?_nil, List.set_cons_zero, List.set_cons_succ, List.length_cons, List.length_nil, Option.bind_some, Option.bind_none, Option.map_some, Option.map_none, Option.join_some, Option.bind_fun_some, List.zip_cons_cons, List.zip_nil_left, Bool.false_eq_true, Bool.true_eq_false, if_true, if_false, ite_true, ite_false, reduceIte, Bool.not_true, Bool.not_false, e0, es]))]
  rw [seq_nx (skip_nx (by simp only [sSeq, sSet, sSetA, sOwn, sOwn2, sAsg, sDrop, sApp, sApp2, sExt, sPut, sFrz, sIf, sRet, sRetA, sRetL, sRet2, sRetO, sBrk, sCnt, sPar, sParO, sNext, sAppAll, fVar, fC, fU, fB, fUL, fBL, fL, bB, fChain, fChain3, fAnd, fOr, bAnd, bOr, bNot, fIf, fIfL, aNil, aCons, fTup, fDisp, oNone, oSome, fSlice, fRev, fIs, fCall, fCallL, fCall2, fLL, iSeq, iRange, iRange2, iZipD, iEnumD, gtN, gtT, gtU, setsE, setsS, wipeE, bYes, toB_bl, toI_int, toL_lst, toLs_lst, toLs_scr, one_1, two_2, oneL_1, dEq_int, dNe_int, dAdd_int, dSub_int, dLen_lst, dLen_scr, dLt_int, dLe_int, dGt_int, dGe_int, dNot_bl, dNeg_int, dAbs_int, dIx_lst, dIx_tup, dList_lst, dList_tup, dIs_int_int, dIs_bool_int, dIs_bool_bl, dIs_list_lst, dIs_list_c, dIs_list_cs, dLen_c, dLen_cs, dList_c, dList_cs, toL_c, toL_cs, toLs_c, toLs_cs, dIsB, dNotB, vw, vwA, seen_sh, seen_no, seen_ow, seen_o2, seenA_sh, seenA_no, seenA_ow, seenA_o2, outD, outL, out2, scal, List.map_cons, List.map_nil, List.getElem?_cons_zero, List.getElem?_cons_succ, List.getElem?_nil, List.set_cons_zero, List.set_cons_succ, List.length_cons, List.length_nil, Option.bind_some, Option.bind_none, Option.map_some, Option.map_none, Option.join_some, Option.bind_fun_some, List.zip_cons_cons, List.zip_nil_left, Bool.false_eq_true, Bool.true_eq_false, if_true, if_false, ite_true, ite_false, reduceIte, Bool.not_true, Bool.not_false, e0, el, dNe_lc, dNe_cs, bl_dec]))]
  simp only [sSeq, sSet, sSetA, sOwn, sOwn2, sAsg, sDrop, sApp, sApp2, sExt, sPut, sFrz, sIf, sRet, sRetA, sRetL, sRet2, sRetO, sBrk, sCnt, sPar, sParO, sNext, sAppAll, fVar, fC, fU, fB, fUL, fBL, fL, bB, fChain, fChain3, fAnd, fOr, bAnd, bOr, bNot, fIf, fIfL, aNil, aCons, fTup, fDisp, oNone, oSome, fSlice, fRev, fIs, fCall, fCallL, fCall2, fLL, iSeq, iRange, iRange2, iZipD, iEnumD, gtN, gtT, gtU, setsE, setsS, wipeE, bYes, toB_bl, toI_int, toL_lst, toLs_lst, toLs_scr, one_1, two_2, oneL_1, dEq_int, dNe_int, dAdd_int, dSub_int, dLen_lst, dLen_scr, dLt_int, dLe_int, dGt_int, dGe_int, dNot_bl, dNeg_int, dAbs_int, dIx_lst, dIx_tup, dList_lst, dList_tup, dIs_int_int, dIs_bool_int, dIs_bool_bl, dIs_list_lst, dIs_list_c, dIs_list_cs, dLen_c, dLen_cs, dList_c, dList_cs, toL_c, toL_cs, toLs_c, toLs_cs, dIsB, dNotB, vw, vwA, seen_sh, seen_no, seen_ow, seen_o2, seenA_sh, seenA_no, seenA_ow, seenA_o2, outD, outL, out2, scal, List.map_cons, List.map_nil, List.getElem?_cons_zero, List.getElem?_cons_succ, List.getElem?_nil, List.set_cons_zero, List.set_cons_succ, List.length_cons, List.length_nil, Option.bind_some, Option.bind_none, Option.map_some, Option.map_none, Option.join_some, Option.bind_fun_some, List.zip_cons_cons, List.zip_nil_left, Bool.false_eq_true, Bool.true_eq_false, if_true, if_false, ite_true, ite_false, reduceIte, Bool.not_true, Bool.not_false, if_pos hlen]
theorem mem_rng {n : Nat} {d : D} (h : d ∈ (List.range n).map fun (i : Nat) => D.int (i : Int)) : ∃ i : Nat, i < n ∧ d = .int i := by
  obtain ⟨i, hi, rfl⟩ := List.mem_map.mp h
  exact ⟨i, List.mem_range.mp hi, rfl⟩
theorem b2_ok {ns : List Int} {w by_ l : Int} {cs : List (List Int)} (h : Cbs cs) (h0 : 0 ≤ l) (hl : l < 24) (s3 s7 s8 s9 s10 s11 s12 s13 s14 s15 s16 : Sl) :
    ∃ b10 b11, b_law_2 [.sh (.scr ns), .sh (.int w), .sh (.int by_), s3, .sh (csD cs), .sh (csD cs), .sh (.int l), s7, s8, s9, s10, s11, s12, s13, s14, s15, s16] = some (.nx [.sh (.scr ns), .sh (.int w), .sh (.int by_), s3, .sh (csD cs), .sh (csD cs), .sh (.int l), s7, s8, s9, b10, b11, s12, s13, s14, s15, s16]) := by
  unfold b_law_2
  obtain ⟨s', e, b10, b11, rfl⟩ := for_inv' (src := iRange (fC (.int 2))) (tg := gtN 10) (b := b_law_1) (iRange_nat (n := 2) rfl (by omega))
    (fun s => ∃ b10 b11, s = [.sh (.scr ns), .sh (.int w), .sh (.int by_), s3, .sh (csD cs), .sh (csD cs), .sh (.int l), s7, s8, s9, b10, b11, s12, s13, s14, s15, s16])
    (s := [.sh (.scr ns), .sh (.int w), .sh (.int by_), s3, .sh (csD cs), .sh (csD cs), .sh (.int l), s7, s8, s9, s10, s11, s12, s13, s14, s15, s16]) ⟨_, _, rfl⟩ (by
      rintro d hd s ⟨b10, b11, rfl⟩
      obtain ⟨b, e⟩ := b1_ok (ns := ns) (w := w) (by_ := by_) h h0 hl s3 s7 s8 s9 (.sh d) b11 s12 s13 s14 s15 s16
      exact ⟨_, _, rfl, e, _, _, rfl⟩)
  exact ⟨_, _, e⟩
theorem app2_small {dss : List (List D)} {n : Nat} (h : dss.length = n) (hn : n < 1000000) : dss.length < 1000000 := by omega
theorem b3_ok {ns ls : List Int} {w by_ : Int} {cs : List (List Int)} (h : Cbs cs) (k : Lys cs.length ls) (s3 s6 s10 s11 s12 s13 s14 s15 s16 : Sl) :
    ∃ b11 b12, b_law_3 [.sh (.scr ns), .sh (.int w), .sh (.int by_), s3, .sh (csD cs), .sh (csD cs), s6, .sh (cD ls), .sh (cD ls), .sh (csD (ringsL cs ls)), s10, s11, s12, s13, s14, s15, s16] = some (.nx [.sh (.scr ns), .sh (.int w), .sh (.int by_), s3, .sh (csD cs), .sh (csD cs), s6, .sh (cD ls), .sh (cD ls), .sh (csD (ringsL cs ls)), s10, b11, b12, s13, s14, s15, s16]) := by
  have et := tower_ok h k
  have hr : ∀ r ∈ ringsL cs ls, r.length = 4 := by
    intro r hr
    obtain ⟨p, hp, rfl⟩ := List.mem_map.mp hr
    have := k.rng _ (mem_zip_l hp).2
    exact laidL_len _ (by omega)
  have hrl : (ringsL cs ls).length ≤ 5 := by unfold ringsL; rw [List.length_map, List.length_zip]; have := h.l5; omega
  have e4 : c_law_4 [some (.scr ns), some (.int w), some (.int by_), seenA s3, some (csD cs), some (csD cs), seenA s6, some (cD ls), some (cD ls), some (csD (ringsL cs ls)), seenA s10, some (csD (towerL cs ls)), seenA s12, seenA s13, seenA s14, seenA s15, seenA s16] = some ((towerL cs ls).map fun r => r.map D.int) := by
    unfold towerL
    rw [List.map_map]
    refine fLc2_map (e := fun (i : Nat) => D.int (i : Int)) (fun (i : Nat) => [(15, D.int (i : Int))]) _ (iRange_nat (n := 4) rfl (by omega)) (by decide) (fun x _ => rfl) fun i hi => ?_
    rw [List.mem_range] at hi
    exact col_eq (fun r h => by rw [hr r h]; exact hi) (by omega) rfl (fun _ => rfl) fun _ => rfl
  have htl : (towerL cs ls).length = 4 := by unfold towerL; rw [List.length_map, List.length_range]
  have htr : ∀ r ∈ towerL cs ls, r.length ≤ 5 := by
    intro r hr
    obtain ⟨p, hp, rfl⟩ := List.mem_map.mp hr
    rw [List.length_map]; exact hrl
  refine ⟨.o2 (((towerL cs ls).map fun r => r.map D.int).map (fun ds => ds ++ [.int 0]) ++ [[]]), .no, ?_⟩
  unfold b_law_3
  rw [seq_nx (own2_nx (d := (towerL cs ls).map fun r => r.map D.int) (by simp only [sSeq, sSet, sSetA, sOwn, sOwn2, sAsg, sDrop, sApp, sApp2, sExt, sPut, sFrz, sIf, sRet, sRetA, sRetL, sRet2, sRetO, sBrk, sCnt, sPar, sParO, sNext, sAppAll, fVar, fC, fU, fB, fUL, fBL, fL, bB, fChain, fChain3, fAnd, fOr, bAnd, bOr, bNot, fIf, fIfL, aNil, aCons, fTup, fDisp, oNone, oSome, fSlice, fRev, fIs, fCall, fCallL, fCall2, fLL, iSeq, iRange, iRange2, iZipD, iEnumD, gtN, gtT, gtU, setsE, setsS, wipeE, bYes, toB_bl, toI_int, toL_lst, toLs_lst, toLs_scr, one_1, two_2, oneL_1, dEq_int, dNe_int, dAdd_int, dSub_int, dLen_lst, dLen_scr, dLt_int, dLe_int, dGt_int, dGe_int, dNot_bl, dNeg_int, dAbs_int, dIx_lst, dIx_tup, dList_lst, dList_tup, dIs_int_int, dIs_bool_int, dIs_bool_bl, dIs_list_lst, dIs_list_c, dIs_list_cs, dLen_c, dLen_cs, dList_c, dList_cs, toL_c, toL_cs, toLs_c, toLs_cs, dIsB, dNotB, vw, vwA, seen_sh, seen_no, seen_ow, seen_o2, seenA_sh, seenA_no, seenA_ow, seenA_o2, outD, outL, out2, scal, List.map_cons, List.map_nil, List.getElem?_cons_zero, List.getElem?_cons_succ, List.getElem?_nil, List.set_cons_zero, List.set_cons_succ, List.length_cons, List.length_nil, Option.bind_some, Option.bind_none, Option.map_some, Option.map_none, Option.join_some, Option.bind_fun_some, List.zip_cons_cons, List.zip_nil_left, Bool.false_eq_true, Bool.true_eq_false, if_true, if_false, ite_true, ite_false, reduceIte, Bool.not_true, Bool.not_false, et]))]
  rw [seq_nx (skip_nx (by
    simp only [sSeq, sSet, sSetA, sOwn, sOwn2, sAsg, sDrop, sApp, sApp2, sExt, sPut, sFrz, sIf, sRet, sRetA, sRetL, sRet2, sRetO, sBrk, sCnt, sPar, sParO, sNext, sAppAll, fVar, fC, fU, fB, fUL, fBL, fL, bB, fChain, fChain3, fAnd, fOr, bAnd, bOr, bNot, fIf, fIfL, aNil, aCons, fTup, fDisp, oNone, oSome, fSlice, fRev, fIs, fCall, fCallL, fCall2, fLL, iSeq, iRange, iRange2, iZipD, iEnumD, gtN, gtT, gtU, setsE, setsS, wipeE, bYes, toB_bl, toI_int, toL_lst, toLs_lst, toLs_scr, one_1, two_2, oneL_1, dEq_int, dNe_int, dAdd_int, dSub_int, dLen_lst, dLen_scr, dLt_int, dLe_int, dGt_int, dGe_int, dNot_bl, dNeg_int, dAbs_int, dIx_lst, dIx_tup, dList_lst, dList_tup, dIs_int_int, dIs_bool_int, dIs_bool_bl, dIs_list_lst, dIs_list_c, dIs_list_cs, dLen_c, dLen_cs, dList_c, dList_cs, toL_c, toL_cs, toLs_c, toLs_cs, dIsB, dNotB, vw, vwA, seen_sh, seen_no, seen_ow, seen_o2, seenA_sh, seenA_no, seenA_ow, seenA_o2, outD, outL, out2, scal, List.map_cons, List.map_nil, List.getElem?_cons_zero, List.getElem?_cons_succ, List.getElem?_nil, List.set_cons_zero, List.set_cons_succ, List.length_cons, List.length_nil, Option.bind_some, Option.bind_none, Option.map_some, Option.map_none, Option.join_some, Option.bind_fun_some, List.zip_cons_cons, List.zip_nil_left, Bool.false_eq_true, Bool.true_eq_false, if_true, if_false, ite_true, ite_false, reduceIte, Bool.not_true, Bool.not_false, o2_cs, e4, dNe_cs, bl_dec]))]
  rw [seq_nx (skip_nx (by simp only [sSeq, sSet, sSetA, sOwn, sOwn2, sAsg, sDrop, sApp, sApp2, sExt, sPut, sFrz, sIf, sRet, sRetA, sRetL, sRet2, sRetO, sBrk, sCnt, sPar, sParO, sNext, sAppAll, fVar, fC, fU, fB, fUL, fBL, fL, bB, fChain, fChain3, fAnd, fOr, bAnd, bOr, bNot, fIf, fIfL, aNil, aCons, fTup, fDisp, oNone, oSome, fSlice, fRev, fIs, fCall, fCallL, fCall2, fLL, iSeq, iRange, iRange2, iZipD, iEnumD, gtN, gtT, gtU, setsE, setsS, wipeE, bYes, toB_bl, toI_int, toL_lst, toLs_lst, toLs_scr, one_1, two_2, oneL_1, dEq_int, dNe_int, dAdd_int, dSub_int, dLen_lst, dLen_scr, dLt_int, dLe_int, dGt_int, dGe_int, dNot_bl, dNeg_int, dAbs_int, dIx_lst, dIx_tup, dList_lst, dList_tup, dIs_int_int, dIs_bool_int, dIs_bool_bl, dIs_list_lst, dIs_list_c, dIs_list_cs, dLen_c, dLen_cs, dList_c, dList_cs, toL_c, toL_cs, toLs_c, toLs_cs, dIsB, dNotB, vw, vwA, seen_sh, seen_no, seen_ow, seen_o2, seenA_sh, seenA_no, seenA_ow, seenA_o2, outD, outL, out2, scal, List.map_cons, List.map_nil, List.getElem?_cons_zero, List.getElem?_cons_succ, List.getElem?_nil, List.set_cons_zero, List.set_cons_succ, List.length_cons, List.length_nil, Option.bind_some, Option.bind_none, Option.map_some, Option.map_none, Option.join_some, Option.bind_fun_some, List.zip_cons_cons, List.zip_nil_left, Bool.false_eq_true, Bool.true_eq_false, if_true, if_false, ite_true, ite_false, reduceIte, Bool.not_true, Bool.not_false, dNe_cs, dNe_c, bl_dec]))]
  have ha : (((towerL cs ls).map fun r => r.map D.int).all fun ds => decide (ds.length < 1000000)) = true := by
    rw [List.all_eq_true]
    intro x hx
    obtain ⟨r, hr, rfl⟩ := List.mem_map.mp hx
    rw [List.length_map]
    have := htr r hr
    exact decide_eq_true (by omega)
  have hb : (((towerL cs ls).map fun r => r.map D.int).map (fun ds => ds ++ [.int 0])).length < 1000000 := by rw [List.length_map, List.length_map, htl]; omega
  rw [seq_nx (s' := [.sh (.scr ns), .sh (.int w), .sh (.int by_), s3, .sh (csD cs), .sh (csD cs), s6, .sh (cD ls), .sh (cD ls), .sh (csD (ringsL cs ls)), s10, .o2 (((towerL cs ls).map fun r => r.map D.int).map (fun ds => ds ++ [.int 0])), .no, s13, s14, s15, s16]) (by
    show (if (decide (12 < 17) && (((towerL cs ls).map fun r => r.map D.int).all fun ds => decide (ds.length < 1000000))) = true then _ else _) = _
    rw [ha]
    rfl)]
  have b0 : (0 ≤ 1000000) := by decide
  simp only [sSeq, sSet, sSetA, sOwn, sOwn2, sAsg, sDrop, sApp, sApp2, sExt, sPut, sFrz, sIf, sRet, sRetA, sRetL, sRet2, sRetO, sBrk, sCnt, sPar, sParO, sNext, sAppAll, fVar, fC, fU, fB, fUL, fBL, fL, bB, fChain, fChain3, fAnd, fOr, bAnd, bOr, bNot, fIf, fIfL, aNil, aCons, fTup, fDisp, oNone, oSome, fSlice, fRev, fIs, fCall, fCallL, fCall2, fLL, iSeq, iRange, iRange2, iZipD, iEnumD, gtN, gtT, gtU, setsE, setsS, wipeE, bYes, toB_bl, toI_int, toL_lst, toLs_lst, toLs_scr, one_1, two_2, oneL_1, dEq_int, dNe_int, dAdd_int, dSub_int, dLen_lst, dLen_scr, dLt_int, dLe_int, dGt_int, dGe_int, dNot_bl, dNeg_int, dAbs_int, dIx_lst, dIx_tup, dList_lst, dList_tup, dIs_int_int, dIs_bool_int, dIs_bool_bl, dIs_list_lst, dIs_list_c, dIs_list_cs, dLen_c, dLen_cs, dList_c, dList_cs, toL_c, toL_cs, toLs_c, toLs_cs, dIsB, dNotB, vw, vwA, seen_sh, seen_no, seen_ow, seen_o2, seenA_sh, seenA_no, seenA_ow, seenA_o2, outD, outL, out2, scal, List.map_cons, List.map_nil, List.getElem?_cons_zero, List.getElem?_cons_succ, List.getElem?_nil, List.set_cons_zero, List.set_cons_succ, List.length_cons, List.length_nil, Option.bind_some, Option.bind_none, Option.map_some, Option.map_none, Option.join_some, Option.bind_fun_some, List.zip_cons_cons, List.zip_nil_left, Bool.false_eq_true, Bool.true_eq_false, if_true, if_false, ite_true, ite_false, reduceIte, Bool.not_true, Bool.not_false, if_pos b0, if_pos hb]
theorem b4_ok {N : Nat} (h3 : 3 ≤ N) (hN : N ≤ 1500000) {ns : List Int} (hl : ns.length ≤ 63) (hs : ∀ z ∈ ns, Sz N z) {w by_ : Int} (hw : Sz (N + 6) w) (hby : 0 ≤ by_) (hby' : by_ ≤ 5) (s3 s4 s5 s6 s7 s8 s9 s10 s11 s12 s13 s14 s15 s16 : Sl) :
    ∃ t4 t5 t6 t7 t8 t9 t10 t11 t12, b_law_4 [.sh (.scr ns), .sh (.int w), .sh (.int by_), s3, s4, s5, s6, s7, s8, s9, s10, s11, s12, s13, s14, s15, s16] = some (.nx [.sh (.scr ns), .sh (.int w), .sh (.int by_), s3, t4, t5, t6, t7, t8, t9, t10, t11, t12, s13, s14, s15, s16]) := by
  obtain ⟨cs, ec, -, hc⟩ := law_cubes_ok h3 (by omega) hl hs hby (by omega) (show (1 : Int) ≤ 5 by omega) (by omega)
  have c5 := hc.l5
  unfold b_law_4
  rw [seq_nx (set_nx (d := csD cs) (by simp only [sSeq, sSet, sSetA, sOwn, sOwn2, sAsg, sDrop, sApp, sApp2, sExt, sPut, sFrz, sIf, sRet, sRetA, sRetL, sRet2, sRetO, sBrk, sCnt, sPar, sParO, sNext, sAppAll, fVar, fC, fU, fB, fUL, fBL, fL, bB, fChain, fChain3, fAnd, fOr, bAnd, bOr, bNot, fIf, fIfL, aNil, aCons, fTup, fDisp, oNone, oSome, fSlice, fRev, fIs, fCall, fCallL, fCall2, fLL, iSeq, iRange, iRange2, iZipD, iEnumD, gtN, gtT, gtU, setsE, setsS, wipeE, bYes, toB_bl, toI_int, toL_lst, toLs_lst, toLs_scr, one_1, two_2, oneL_1, dEq_int, dNe_int, dAdd_int, dSub_int, dLen_lst, dLen_scr, dLt_int, dLe_int, dGt_int, dGe_int, dNot_bl, dNeg_int, dAbs_int, dIx_lst, dIx_tup, dList_lst, dList_tup, dIs_int_int, dIs_bool_int, dIs_bool_bl, dIs_list_lst, dIs_list_c, dIs_list_cs, dLen_c, dLen_cs, dList_c, dList_cs, toL_c, toL_cs, toLs_c, toLs_cs, dIsB, dNotB, vw, vwA, seen_sh, seen_no, seen_ow, seen_o2, seenA_sh, seenA_no, seenA_ow, seenA_o2, outD, outL, out2, scal, List.map_cons, List.map_nil, List.getElem?_cons_zero, List.getElem?_cons_succ, List.getElem?_nil, List.set_cons_zero, List.set_cons_succ, List.length_cons, List.length_nil, Option.bind_some, Option.bind_none, Option.map_some, Option.map_none, Option.join_some, Option.bind_fun_some, List.zip_cons_cons, List.zip_nil_left, Bool.false_eq_true, Bool.true_eq_false, if_true, if_false, ite_true, ite_false, reduceIte, Bool.not_true, Bool.not_false, ec, lst_cs]))]
  rw [seq_nx (set_nx (d := csD cs) (by simp only [sSeq, sSet, sSetA, sOwn, sOwn2, sAsg, sDrop, sApp, sApp2, sExt, sPut, sFrz, sIf, sRet, sRetA, sRetL, sRet2, sRetO, sBrk, sCnt, sPar, sParO, sNext, sAppAll, fVar, fC, fU, fB, fUL, fBL, fL, bB, fChain, fChain3, fAnd, fOr, bAnd, bOr, bNot, fIf, fIfL, aNil, aCons, fTup, fDisp, oNone, oSome, fSlice, fRev, fIs, fCall, fCallL, fCall2, fLL, iSeq, iRange, iRange2, iZipD, iEnumD, gtN, gtT, gtU, setsE, setsS, wipeE, bYes, toB_bl, toI_int, toL_lst, toLs_lst, toLs_scr, one_1, two_2, oneL_1, dEq_int, dNe_int, dAdd_int, dSub_int, dLen_lst, dLen_scr, dLt_int, dLe_int, dGt_int, dGe_int, dNot_bl, dNeg_int, dAbs_int, dIx_lst, dIx_tup, dList_lst, dList_tup, dIs_int_int, dIs_bool_int, dIs_bool_bl, dIs_list_lst, dIs_list_c, dIs_list_cs, dLen_c, dLen_cs, dList_c, dList_cs, toL_c, toL_cs, toLs_c, toLs_cs, dIsB, dNotB, vw, vwA, seen_sh, seen_no, seen_ow, seen_o2, seenA_sh, seenA_no, seenA_ow, seenA_o2, outD, outL, out2, scal, List.map_cons, List.map_nil, List.getElem?_cons_zero, List.getElem?_cons_succ, List.getElem?_nil, List.set_cons_zero, List.set_cons_succ, List.length_cons, List.length_nil, Option.bind_some, Option.bind_none, Option.map_some, Option.map_none, Option.join_some, Option.bind_fun_some, List.zip_cons_cons, List.zip_nil_left, Bool.false_eq_true, Bool.true_eq_false, if_true, if_false, ite_true, ite_false, reduceIte, Bool.not_true, Bool.not_false, law_copied_ok c5, o2_cs]))]
  obtain ⟨s', e, b6, b10, b11, rfl⟩ := for_inv' (src := iRange (fC (.int 24))) (tg := gtN 6) (b := b_law_2) (iRange_nat (n := 24) rfl (by omega))
    (fun s => ∃ b6 b10 b11, s = [.sh (.scr ns), .sh (.int w), .sh (.int by_), s3, .sh (csD cs), .sh (csD cs), b6, s7, s8, s9, b10, b11, s12, s13, s14, s15, s16])
    (s := [.sh (.scr ns), .sh (.int w), .sh (.int by_), s3, .sh (csD cs), .sh (csD cs), s6, s7, s8, s9, s10, s11, s12, s13, s14, s15, s16]) ⟨_, _, _, rfl⟩ (by
      rintro d hd s ⟨b6, b10, b11, rfl⟩
      obtain ⟨i, hi, rfl⟩ := mem_rng hd
      obtain ⟨x10, x11, e⟩ := b2_ok (ns := ns) (w := w) (by_ := by_) (l := (i : Int)) hc (by omega) (by omega) s3 s7 s8 s9 b10 b11 s12 s13 s14 s15 s16
      exact ⟨_, _, rfl, e, _, _, _, rfl⟩)
  simp only [List.set_cons_zero, List.set_cons_succ]
  rw [seq_nx (s' := [.sh (.scr ns), .sh (.int w), .sh (.int by_), s3, .sh (csD cs), .sh (csD cs), b6, s7, s8, s9, b10, b11, s12, s13, s14, s15, s16]) e]
  have k : Lys cs.length ((List.range cs.length).map fun (i : Nat) => numL (w + (i : Int)) by_ 5 % 24) := ⟨by rw [List.length_map, List.length_range], fun x hx => by
    obtain ⟨i, _, rfl⟩ := List.mem_map.mp hx
    omega⟩
  have el : c_law_1 [some (.scr ns), some (.int w), some (.int by_), seen s3, some (csD cs), some (csD cs), seen b6, seen s7, seen s8, seen s9, seen b10, seen b11, seen s12, seen s13, seen s14, seen s15, seen s16] = some (((List.range cs.length).map fun (i : Nat) => numL (w + (i : Int)) by_ 5 % 24).map D.int) := by
    rw [List.map_map]
    refine fLc_map (e := fun (i : Nat) => D.int (i : Int)) (fun (i : Nat) => [(13, D.int (i : Int))]) _ (iRange_nat (n := cs.length) (by simp only [sSeq, sSet, sSetA, sOwn, sOwn2, sAsg, sDrop, sApp, sApp2, sExt, sPut, sFrz, sIf, sRet, sRetA, sRetL, sRet2, sRetO, sBrk, sCnt, sPar, sParO, sNext, sAppAll, fVar, fC, fU, fB, fUL, fBL, fL, bB, fChain, fChain3, fAnd, fOr, bAnd, bOr, bNot, fIf, fIfL, aNil, aCons, fTup, fDisp, oNone, oSome, fSlice, fRev, fIs, fCall, fCallL, fCall2, fLL, iSeq, iRange, iRange2, iZipD, iEnumD, gtN, gtT, gtU, setsE, setsS, wipeE, bYes, toB_bl, toI_int, toL_lst, toLs_lst, toLs_scr, one_1, two_2, oneL_1, dEq_int, dNe_int, dAdd_int, dSub_int, dLen_lst, dLen_scr, dLt_int, dLe_int, dGt_int, dGe_int, dNot_bl, dNeg_int, dAbs_int, dIx_lst, dIx_tup, dList_lst, dList_tup, dIs_int_int, dIs_bool_int, dIs_bool_bl, dIs_list_lst, dIs_list_c, dIs_list_cs, dLen_c, dLen_cs, dList_c, dList_cs, toL_c, toL_cs, toLs_c, toLs_cs, dIsB, dNotB, vw, vwA, seen_sh, seen_no, seen_ow, seen_o2, seenA_sh, seenA_no, seenA_ow, seenA_o2, outD, outL, out2, scal, List.map_cons, List.map_nil, List.getElem?_cons_zero, List.getElem?_cons_succ, List.getElem?_nil, List.set_cons_zero, List.set_cons_succ, List.length_cons, List.length_nil, Option.bind_some, Option.bind_none, Option.map_some, Option.map_none, Option.join_some, Option.bind_fun_some, List.zip_cons_cons, List.zip_nil_left, Bool.false_eq_true, Bool.true_eq_false, if_true, if_false, ite_true, ite_false, reduceIte, Bool.not_true, Bool.not_false]) (by omega)) (by rw [List.length_range]; omega) (fun x _ => rfl) fun i hi => ?_
    rw [List.mem_range] at hi
    have sz := hw.add (Sz.small (x := (i : Int)) (by omega))
    simp only [sSeq, sSet, sSetA, sOwn, sOwn2, sAsg, sDrop, sApp, sApp2, sExt, sPut, sFrz, sIf, sRet, sRetA, sRetL, sRet2, sRetO, sBrk, sCnt, sPar, sParO, sNext, sAppAll, fVar, fC, fU, fB, fUL, fBL, fL, bB, fChain, fChain3, fAnd, fOr, bAnd, bOr, bNot, fIf, fIfL, aNil, aCons, fTup, fDisp, oNone, oSome, fSlice, fRev, fIs, fCall, fCallL, fCall2, fLL, iSeq, iRange, iRange2, iZipD, iEnumD, gtN, gtT, gtU, setsE, setsS, wipeE, bYes, toB_bl, toI_int, toL_lst, toLs_lst, toLs_scr, one_1, two_2, oneL_1, dEq_int, dNe_int, dAdd_int, dSub_int, dLen_lst, dLen_scr, dLt_int, dLe_int, dGt_int, dGe_int, dNot_bl, dNeg_int, dAbs_int, dIx_lst, dIx_tup, dList_lst, dList_tup, dIs_int_int, dIs_bool_int, dIs_bool_bl, dIs_list_lst, dIs_list_c, dIs_list_cs, dLen_c, dLen_cs, dList_c, dList_cs, toL_c, toL_cs, toLs_c, toLs_cs, dIsB, dNotB, vw, vwA, seen_sh, seen_no, seen_ow, seen_o2, seenA_sh, seenA_no, seenA_ow, seenA_o2, outD, outL, out2, scal, List.map_cons, List.map_nil, List.getElem?_cons_zero, List.getElem?_cons_succ, List.getElem?_nil, List.set_cons_zero, List.set_cons_succ, List.length_cons, List.length_nil, Option.bind_some, Option.bind_none, Option.map_some, Option.map_none, Option.join_some, Option.bind_fun_some, List.zip_cons_cons, List.zip_nil_left, Bool.false_eq_true, Bool.true_eq_false, if_true, if_false, ite_true, ite_false, reduceIte, Bool.not_true, Bool.not_false, law_number_int (N := N + 6 + 32 + 1) (n := w + (i : Int)) (k := by_) (s := 5) (by omega) sz hby (by omega), dMod_int (show (0 : Int) < 24 by omega)]
    rfl
  generalize hls : (List.range cs.length).map (fun (i : Nat) => numL (w + (i : Int)) by_ 5 % 24) = ls at k el
  rw [seq_nx (set_nx (d := cD ls) (by simp only [sSeq, sSet, sSetA, sOwn, sOwn2, sAsg, sDrop, sApp, sApp2, sExt, sPut, sFrz, sIf, sRet, sRetA, sRetL, sRet2, sRetO, sBrk, sCnt, sPar, sParO, sNext, sAppAll, fVar, fC, fU, fB, fUL, fBL, fL, bB, fChain, fChain3, fAnd, fOr, bAnd, bOr, bNot, fIf, fIfL, aNil, aCons, fTup, fDisp, oNone, oSome, fSlice, fRev, fIs, fCall, fCallL, fCall2, fLL, iSeq, iRange, iRange2, iZipD, iEnumD, gtN, gtT, gtU, setsE, setsS, wipeE, bYes, toB_bl, toI_int, toL_lst, toLs_lst, toLs_scr, one_1, two_2, oneL_1, dEq_int, dNe_int, dAdd_int, dSub_int, dLen_lst, dLen_scr, dLt_int, dLe_int, dGt_int, dGe_int, dNot_bl, dNeg_int, dAbs_int, dIx_lst, dIx_tup, dList_lst, dList_tup, dIs_int_int, dIs_bool_int, dIs_bool_bl, dIs_list_lst, dIs_list_c, dIs_list_cs, dLen_c, dLen_cs, dList_c, dList_cs, toL_c, toL_cs, toLs_c, toLs_cs, dIsB, dNotB, vw, vwA, seen_sh, seen_no, seen_ow, seen_o2, seenA_sh, seenA_no, seenA_ow, seenA_o2, outD, outL, out2, scal, List.map_cons, List.map_nil, List.getElem?_cons_zero, List.getElem?_cons_succ, List.getElem?_nil, List.set_cons_zero, List.set_cons_succ, List.length_cons, List.length_nil, Option.bind_some, Option.bind_none, Option.map_some, Option.map_none, Option.join_some, Option.bind_fun_some, List.zip_cons_cons, List.zip_nil_left, Bool.false_eq_true, Bool.true_eq_false, if_true, if_false, ite_true, ite_false, reduceIte, Bool.not_true, Bool.not_false, el, lst_c]))]
  rw [seq_nx (set_nx (d := cD ls) (by simp only [sSeq, sSet, sSetA, sOwn, sOwn2, sAsg, sDrop, sApp, sApp2, sExt, sPut, sFrz, sIf, sRet, sRetA, sRetL, sRet2, sRetO, sBrk, sCnt, sPar, sParO, sNext, sAppAll, fVar, fC, fU, fB, fUL, fBL, fL, bB, fChain, fChain3, fAnd, fOr, bAnd, bOr, bNot, fIf, fIfL, aNil, aCons, fTup, fDisp, oNone, oSome, fSlice, fRev, fIs, fCall, fCallL, fCall2, fLL, iSeq, iRange, iRange2, iZipD, iEnumD, gtN, gtT, gtU, setsE, setsS, wipeE, bYes, toB_bl, toI_int, toL_lst, toLs_lst, toLs_scr, one_1, two_2, oneL_1, dEq_int, dNe_int, dAdd_int, dSub_int, dLen_lst, dLen_scr, dLt_int, dLe_int, dGt_int, dGe_int, dNot_bl, dNeg_int, dAbs_int, dIx_lst, dIx_tup, dList_lst, dList_tup, dIs_int_int, dIs_bool_int, dIs_bool_bl, dIs_list_lst, dIs_list_c, dIs_list_cs, dLen_c, dLen_cs, dList_c, dList_cs, toL_c, toL_cs, toLs_c, toLs_cs, dIsB, dNotB, vw, vwA, seen_sh, seen_no, seen_ow, seen_o2, seenA_sh, seenA_no, seenA_ow, seenA_o2, outD, outL, out2, scal, List.map_cons, List.map_nil, List.getElem?_cons_zero, List.getElem?_cons_succ, List.getElem?_nil, List.set_cons_zero, List.set_cons_succ, List.length_cons, List.length_nil, Option.bind_some, Option.bind_none, Option.map_some, Option.map_none, Option.join_some, Option.bind_fun_some, List.zip_cons_cons, List.zip_nil_left, Bool.false_eq_true, Bool.true_eq_false, if_true, if_false, ite_true, ite_false, reduceIte, Bool.not_true, Bool.not_false, lst_c]))]
  have er : c_law_2 [some (.scr ns), some (.int w), some (.int by_), seen s3, some (csD cs), some (csD cs), seen b6, some (cD ls), some (cD ls), seen s9, seen b10, seen b11, seen s12, seen s13, seen s14, seen s15, seen s16] = some ((ringsL cs ls).map fun r => r.map D.int) := by
    unfold ringsL
    rw [List.map_map]
    refine fLc2_map (e := fun p : List Int × Int => .tup [cD p.1, .int p.2]) (fun p => [(14, cD p.1), (6, .int p.2)]) _ ?_ (by rw [List.length_zip]; omega) (fun x _ => rfl) fun p hp => ?_
    · show some (pairs (cs.map cD) (ls.map D.int)) = _
      rw [pairs_zip]
    · simp only [sSeq, sSet, sSetA, sOwn, sOwn2, sAsg, sDrop, sApp, sApp2, sExt, sPut, sFrz, sIf, sRet, sRetA, sRetL, sRet2, sRetO, sBrk, sCnt, sPar, sParO, sNext, sAppAll, fVar, fC, fU, fB, fUL, fBL, fL, bB, fChain, fChain3, fAnd, fOr, bAnd, bOr, bNot, fIf, fIfL, aNil, aCons, fTup, fDisp, oNone, oSome, fSlice, fRev, fIs, fCall, fCallL, fCall2, fLL, iSeq, iRange, iRange2, iZipD, iEnumD, gtN, gtT, gtU, setsE, setsS, wipeE, bYes, toB_bl, toI_int, toL_lst, toLs_lst, toLs_scr, one_1, two_2, oneL_1, dEq_int, dNe_int, dAdd_int, dSub_int, dLen_lst, dLen_scr, dLt_int, dLe_int, dGt_int, dGe_int, dNot_bl, dNeg_int, dAbs_int, dIx_lst, dIx_tup, dList_lst, dList_tup, dIs_int_int, dIs_bool_int, dIs_bool_bl, dIs_list_lst, dIs_list_c, dIs_list_cs, dLen_c, dLen_cs, dList_c, dList_cs, toL_c, toL_cs, toLs_c, toLs_cs, dIsB, dNotB, vw, vwA, seen_sh, seen_no, seen_ow, seen_o2, seenA_sh, seenA_no, seenA_ow, seenA_o2, outD, outL, out2, scal, List.map_cons, List.map_nil, List.getElem?_cons_zero, List.getElem?_cons_succ, List.getElem?_nil, List.set_cons_zero, List.set_cons_succ, List.length_cons, List.length_nil, Option.bind_some, Option.bind_none, Option.map_some, Option.map_none, Option.join_some, Option.bind_fun_some, List.zip_cons_cons, List.zip_nil_left, Bool.false_eq_true, Bool.true_eq_false, if_true, if_false, ite_true, ite_false, reduceIte, Bool.not_true, Bool.not_false, law_laid_int (hc.six _ (mem_zip_l hp).1) (k.rng _ (mem_zip_l hp).2).1 (k.rng _ (mem_zip_l hp).2).2]
      rfl
  rw [seq_nx (set_nx (d := csD (ringsL cs ls)) (by simp only [sSeq, sSet, sSetA, sOwn, sOwn2, sAsg, sDrop, sApp, sApp2, sExt, sPut, sFrz, sIf, sRet, sRetA, sRetL, sRet2, sRetO, sBrk, sCnt, sPar, sParO, sNext, sAppAll, fVar, fC, fU, fB, fUL, fBL, fL, bB, fChain, fChain3, fAnd, fOr, bAnd, bOr, bNot, fIf, fIfL, aNil, aCons, fTup, fDisp, oNone, oSome, fSlice, fRev, fIs, fCall, fCallL, fCall2, fLL, iSeq, iRange, iRange2, iZipD, iEnumD, gtN, gtT, gtU, setsE, setsS, wipeE, bYes, toB_bl, toI_int, toL_lst, toLs_lst, toLs_scr, one_1, two_2, oneL_1, dEq_int, dNe_int, dAdd_int, dSub_int, dLen_lst, dLen_scr, dLt_int, dLe_int, dGt_int, dGe_int, dNot_bl, dNeg_int, dAbs_int, dIx_lst, dIx_tup, dList_lst, dList_tup, dIs_int_int, dIs_bool_int, dIs_bool_bl, dIs_list_lst, dIs_list_c, dIs_list_cs, dLen_c, dLen_cs, dList_c, dList_cs, toL_c, toL_cs, toLs_c, toLs_cs, dIsB, dNotB, vw, vwA, seen_sh, seen_no, seen_ow, seen_o2, seenA_sh, seenA_no, seenA_ow, seenA_o2, outD, outL, out2, scal, List.map_cons, List.map_nil, List.getElem?_cons_zero, List.getElem?_cons_succ, List.getElem?_nil, List.set_cons_zero, List.set_cons_succ, List.length_cons, List.length_nil, Option.bind_some, Option.bind_none, Option.map_some, Option.map_none, Option.join_some, Option.bind_fun_some, List.zip_cons_cons, List.zip_nil_left, Bool.false_eq_true, Bool.true_eq_false, if_true, if_false, ite_true, ite_false, reduceIte, Bool.not_true, Bool.not_false, er, o2_cs]))]
  obtain ⟨s', e, c10, c11, c12, rfl⟩ := for_inv' (src := iRange (fC (.int 2))) (tg := gtN 10) (b := b_law_3) (iRange_nat (n := 2) rfl (by omega))
    (fun s => ∃ c10 c11 c12, s = [.sh (.scr ns), .sh (.int w), .sh (.int by_), s3, .sh (csD cs), .sh (csD cs), b6, .sh (cD ls), .sh (cD ls), .sh (csD (ringsL cs ls)), c10, c11, c12, s13, s14, s15, s16])
    (s := [.sh (.scr ns), .sh (.int w), .sh (.int by_), s3, .sh (csD cs), .sh (csD cs), b6, .sh (cD ls), .sh (cD ls), .sh (csD (ringsL cs ls)), b10, b11, s12, s13, s14, s15, s16]) ⟨_, _, _, rfl⟩ (by
      rintro d hd s ⟨b10, b11, b12, rfl⟩
      obtain ⟨x11, x12, e⟩ := b3_ok (ns := ns) (w := w) (by_ := by_) hc k s3 b6 (.sh d) b11 b12 s13 s14 s15 s16
      exact ⟨_, _, rfl, e, _, _, _, rfl⟩)
  exact ⟨_, _, _, _, _, _, _, _, _, e⟩
theorem law_true {ns : List Int} (hl : ns.length ≤ 63) (hb : ∀ z ∈ ns, Builtin.Int.intBits z ≤ 1048576) : F_law [.scr ns] = some (.bl true) := by
  obtain ⟨N, hN⟩ : ∃ N, N = 1048576 := ⟨_, rfl⟩
  rw [← hN] at hb
  have hs : ∀ z ∈ ns, Sz N z := fun z hz => sz_of_bits (hb z hz)
  have hw : Sz (N + 6) (absI ns.sum) := absI_sz (Sz.sum63 hs hl)
  rw [E_law, g_law]
  rw [seq_nx (set_nx (d := .int (absI ns.sum)) (by
    simp only [sSeq, sSet, sSetA, sOwn, sOwn2, sAsg, sDrop, sApp, sApp2, sExt, sPut, sFrz, sIf, sRet, sRetA, sRetL, sRet2, sRetO, sBrk, sCnt, sPar, sParO, sNext, sAppAll, fVar, fC, fU, fB, fUL, fBL, fL, bB, fChain, fChain3, fAnd, fOr, bAnd, bOr, bNot, fIf, fIfL, aNil, aCons, fTup, fDisp, oNone, oSome, fSlice, fRev, fIs, fCall, fCallL, fCall2, fLL, iSeq, iRange, iRange2, iZipD, iEnumD, gtN, gtT, gtU, setsE, setsS, wipeE, bYes, toB_bl, toI_int, toL_lst, toLs_lst, toLs_scr, one_1, two_2, oneL_1, dEq_int, dNe_int, dAdd_int, dSub_int, dLen_lst, dLen_scr, dLt_int, dLe_int, dGt_int, dGe_int, dNot_bl, dNeg_int, dAbs_int, dIx_lst, dIx_tup, dList_lst, dList_tup, dIs_int_int, dIs_bool_int, dIs_bool_bl, dIs_list_lst, dIs_list_c, dIs_list_cs, dLen_c, dLen_cs, dList_c, dList_cs, toL_c, toL_cs, toLs_c, toLs_cs, dIsB, dNotB, vw, vwA, seen_sh, seen_no, seen_ow, seen_o2, seenA_sh, seenA_no, seenA_ow, seenA_o2, outD, outL, out2, scal, List.map_cons, List.map_nil, List.getElem?_cons_zero, List.getElem?_cons_succ, List.getElem?_nil, List.set_cons_zero, List.set_cons_succ, List.length_cons, List.length_nil, Option.bind_some, Option.bind_none, Option.map_some, Option.map_none, Option.join_some, Option.bind_fun_some, List.zip_cons_cons, List.zip_nil_left, Bool.false_eq_true, Bool.true_eq_false, if_true, if_false, ite_true, ite_false, reduceIte, Bool.not_true, Bool.not_false, cut_to _ (show (ns.map D.int).length ≤ 63 by rw [List.length_map]; exact hl), dSum_map]
    rfl))]
  obtain ⟨s', e, t2, t4, t5, t6, t7, t8, t9, t10, t11, t12, rfl⟩ := for_inv' (src := iSeq (fL (fDisp (aCons (fC (.int 0)) (aCons (fC (.int 1)) (aCons (fC (.int 3)) aNil)))))) (tg := gtN 2) (b := b_law_4) (ds := [.int 0, .int 1, .int 3]) rfl
    (fun s => ∃ t2 t4 t5 t6 t7 t8 t9 t10 t11 t12, s = [.sh (.scr ns), .sh (.int (absI ns.sum)), t2, .no, t4, t5, t6, t7, t8, t9, t10, t11, t12, .no, .no, .no, .no])
    (s := [.sh (.scr ns), .sh (.int (absI ns.sum)), .no, .no, .no, .no, .no, .no, .no, .no, .no, .no, .no, .no, .no, .no, .no]) ⟨_, _, _, _, _, _, _, _, _, _, rfl⟩ (by
      rintro d hd s ⟨t2, t4, t5, t6, t7, t8, t9, t10, t11, t12, rfl⟩
      obtain ⟨b, rfl, h0, h5⟩ : ∃ b : Int, d = .int b ∧ 0 ≤ b ∧ b ≤ 5 := by
        simp only [List.mem_cons, List.not_mem_nil, or_false] at hd
        rcases hd with rfl | rfl | rfl
        · exact ⟨0, rfl, by omega, by omega⟩
        · exact ⟨1, rfl, by omega, by omega⟩
        · exact ⟨3, rfl, by omega, by omega⟩
      obtain ⟨x4, x5, x6, x7, x8, x9, x10, x11, x12, e⟩ := b4_ok (N := N) (by omega) (by omega) hl hs hw h0 h5 .no t4 t5 t6 t7 t8 t9 t10 t11 t12 .no .no .no .no
      exact ⟨_, _, rfl, e, _, _, _, _, _, _, _, _, _, _, rfl⟩)
  simp only [List.set_cons_zero, List.set_cons_succ]
  rw [seq_nx (s' := [.sh (.scr ns), .sh (.int (absI ns.sum)), t2, .no, t4, t5, t6, t7, t8, t9, t10, t11, t12, .no, .no, .no, .no]) e]
  kernel_rfl
end CT

set_option Elab.async false
set_option linter.all false
set_option maxRecDepth 100000
set_option maxHeartbeats 4000000
namespace CT
open PySem PySem.Spec PyProof.Rows L2 DL
def topS (i : Nat) : Stmt := PySem.Challenge.pw_cubetower_k01_whole_laid.main.body.getD i (.Pass ⟨0, 0, 0, 0⟩)
abbrev s_is_whole : Stmt := topS 7
theorem sc_is_whole : FnScope ["thing"] ["thing"] (defScope s_is_whole) := ⟨rfl, rfl, rfl, by decide +kernel, rfl, by decide +kernel, by decide +kernel⟩
abbrev s_is_cube : Stmt := topS 8
theorem sc_is_cube : FnScope ["thing", "many", "one"] ["thing", "many"] (defScope s_is_cube) := ⟨rfl, rfl, rfl, by decide +kernel, rfl, by decide +kernel, by decide +kernel⟩
abbrev s_asked_cubes : Stmt := topS 9
theorem sc_asked_cubes : FnScope ["cubes", "cube"] ["cubes"] (defScope s_asked_cubes) := ⟨rfl, rfl, rfl, by decide +kernel, rfl, by decide +kernel, by decide +kernel⟩
abbrev s_asked_layings : Stmt := topS 10
theorem sc_asked_layings : FnScope ["cubes", "layings", "one"] ["cubes", "layings"] (defScope s_asked_layings) := ⟨rfl, rfl, rfl, by decide +kernel, rfl, by decide +kernel, by decide +kernel⟩
abbrev s_ring_of : Stmt := topS 11
theorem sc_ring_of : FnScope ["cube", "axis", "front", "back", "right", "left", "top", "bottom"] ["cube", "axis"] (defScope s_ring_of) := ⟨rfl, rfl, rfl, by decide +kernel, rfl, by decide +kernel, by decide +kernel⟩
abbrev s_laid : Stmt := topS 12
theorem sc_laid : FnScope ["cube", "laying", "ring", "turn"] ["cube", "laying"] (defScope s_laid) := ⟨rfl, rfl, rfl, by decide +kernel, rfl, by decide +kernel, by decide +kernel⟩
abbrev s_sides : Stmt := topS 13
theorem sc_sides : FnScope ["cube", "laying"] ["cube", "laying"] (defScope s_sides) := ⟨rfl, rfl, rfl, by decide +kernel, rfl, by decide +kernel, by decide +kernel⟩
abbrev s_tower_of : Stmt := topS 14
theorem sc_tower_of : FnScope ["cubes", "layings", "rings", "side", "cube", "laying", "ring"] ["cubes", "layings"] (defScope s_tower_of) := ⟨rfl, rfl, rfl, by decide +kernel, rfl, by decide +kernel, by decide +kernel⟩
abbrev s_tower : Stmt := topS 15
theorem sc_tower : FnScope ["cubes", "layings"] ["cubes", "layings"] (defScope s_tower) := ⟨rfl, rfl, rfl, by decide +kernel, rfl, by decide +kernel, by decide +kernel⟩
abbrev s_law_number : Stmt := topS 17
theorem sc_law_number : FnScope ["_law_cell", "_law_at", "_law_whole", "_law_blend", "_law_more"] ["_law_cell", "_law_at", "_law_whole"] (defScope s_law_number) := ⟨rfl, rfl, rfl, by decide +kernel, rfl, by decide +kernel, by decide +kernel⟩
abbrev s_law_cubes : Stmt := topS 18
theorem sc_law_cubes : FnScope ["_law_script", "_law_by", "_law_most", "_law_cells", "_law_whole", "_law_many", "_law_found", "_law_at", "_law_number_here", "_law_cube", "_law_hidden", "_law_side"] ["_law_script", "_law_by", "_law_most"] (defScope s_law_cubes) := ⟨rfl, rfl, rfl, by decide +kernel, rfl, by decide +kernel, by decide +kernel⟩
abbrev s_law_laid : Stmt := topS 19
theorem sc_law_laid : FnScope ["_law_cube", "_law_laying", "_law_around", "_law_side"] ["_law_cube", "_law_laying"] (defScope s_law_laid) := ⟨rfl, rfl, rfl, by decide +kernel, rfl, by decide +kernel, by decide +kernel⟩
abbrev s_law_copied : Stmt := topS 20
theorem sc_law_copied : FnScope ["_law_cubes_here", "_law_cube"] ["_law_cubes_here"] (defScope s_law_copied) := ⟨rfl, rfl, rfl, by decide +kernel, rfl, by decide +kernel, by decide +kernel⟩
abbrev s_law : Stmt := topS 21
theorem sc_law : FnScope ["_law_script", "_law_whole", "_law_by", "_law_plain", "_law_cubes_here", "_law_handed", "_law_laying", "_law_layings", "_law_mine", "_law_shown", "_law_again", "_law_found", "_law_line", "_law_at", "_law_cube", "_law_side", "_law_ring"] ["_law_script"] (defScope s_law) := ⟨rfl, rfl, rfl, by decide +kernel, rfl, by decide +kernel, by decide +kernel⟩
structure Ad where
  a_is_whole : Addr
  d_is_whole : FuncData
  a_is_cube : Addr
  d_is_cube : FuncData
  a_asked_cubes : Addr
  d_asked_cubes : FuncData
  a_asked_layings : Addr
  d_asked_layings : FuncData
  a_ring_of : Addr
  d_ring_of : FuncData
  a_laid : Addr
  d_laid : FuncData
  a_sides : Addr
  d_sides : FuncData
  a_tower_of : Addr
  d_tower_of : FuncData
  a_tower : Addr
  d_tower : FuncData
  a_law_number : Addr
  d_law_number : FuncData
  a_law_cubes : Addr
  d_law_cubes : FuncData
  a_law_laid : Addr
  d_law_laid : FuncData
  a_law_copied : Addr
  d_law_copied : FuncData
  a_law : Addr
  d_law : FuncData
structure Tx (K : PySem.W.Frag) (mg : Str → Option Value) (A : Ad) : Prop where
  F_is_whole : Fun K "is_whole" "is_whole" s_is_whole A.a_is_whole A.d_is_whole
  m_is_whole : mg "is_whole" = some (.ref A.a_is_whole)
  b_is_whole : Binds K A.d_is_whole ["thing"] []
  F_is_cube : Fun K "is_cube" "is_cube" s_is_cube A.a_is_cube A.d_is_cube
  m_is_cube : mg "is_cube" = some (.ref A.a_is_cube)
  b_is_cube : Binds K A.d_is_cube ["thing", "many"] []
  F_asked_cubes : Fun K "asked_cubes" "asked_cubes" s_asked_cubes A.a_asked_cubes A.d_asked_cubes
  m_asked_cubes : mg "asked_cubes" = some (.ref A.a_asked_cubes)
  b_asked_cubes : Binds K A.d_asked_cubes ["cubes"] []
  F_asked_layings : Fun K "asked_layings" "asked_layings" s_asked_layings A.a_asked_layings A.d_asked_layings
  m_asked_layings : mg "asked_layings" = some (.ref A.a_asked_layings)
  b_asked_layings : Binds K A.d_asked_layings ["cubes", "layings"] []
  F_ring_of : Fun K "ring_of" "ring_of" s_ring_of A.a_ring_of A.d_ring_of
  m_ring_of : mg "ring_of" = some (.ref A.a_ring_of)
  b_ring_of : Binds K A.d_ring_of ["cube", "axis"] []
  F_laid : Fun K "laid" "laid" s_laid A.a_laid A.d_laid
  m_laid : mg "laid" = some (.ref A.a_laid)
  b_laid : Binds K A.d_laid ["cube", "laying"] []
  F_sides : Fun K "sides" "sides" s_sides A.a_sides A.d_sides
  m_sides : mg "sides" = some (.ref A.a_sides)
  b_sides : Binds K A.d_sides ["cube", "laying"] []
  F_tower_of : Fun K "tower_of" "tower_of" s_tower_of A.a_tower_of A.d_tower_of
  m_tower_of : mg "tower_of" = some (.ref A.a_tower_of)
  b_tower_of : Binds K A.d_tower_of ["cubes", "layings"] []
  F_tower : Fun K "tower" "tower" s_tower A.a_tower A.d_tower
  m_tower : mg "tower" = some (.ref A.a_tower)
  b_tower : Binds K A.d_tower ["cubes", "layings"] []
  F_law_number : Fun K "_law_number" "_law_number" s_law_number A.a_law_number A.d_law_number
  m_law_number : mg "_law_number" = some (.ref A.a_law_number)
  b_law_number : Binds K A.d_law_number ["_law_cell", "_law_at", "_law_whole"] []
  F_law_cubes : Fun K "_law_cubes" "_law_cubes" s_law_cubes A.a_law_cubes A.d_law_cubes
  m_law_cubes : mg "_law_cubes" = some (.ref A.a_law_cubes)
  b_law_cubes : Binds K A.d_law_cubes ["_law_script", "_law_by", "_law_most"] []
  F_law_laid : Fun K "_law_laid" "_law_laid" s_law_laid A.a_law_laid A.d_law_laid
  m_law_laid : mg "_law_laid" = some (.ref A.a_law_laid)
  b_law_laid : Binds K A.d_law_laid ["_law_cube", "_law_laying"] []
  F_law_copied : Fun K "_law_copied" "_law_copied" s_law_copied A.a_law_copied A.d_law_copied
  m_law_copied : mg "_law_copied" = some (.ref A.a_law_copied)
  b_law_copied : Binds K A.d_law_copied ["_law_cubes_here"] []
  F_law : Fun K "law" "law" s_law A.a_law A.d_law
  m_law : mg "law" = some (.ref A.a_law)
  b_law : Binds K A.d_law ["_law_script"] []
  m_MOST : ∃ t, mg "MOST" = some (.int 5 t)
section
variable {P : Program} {w : World} {K : PySem.W.Frag} {mg : Str → Option Value} {base : Heap} {ca : Nat → Addr} {cf : Nat → List Str} {Z : Ad}
theorem ok_is_whole (Y : Tx K mg Z) (B : Bn mg) : FnOk P w K mg base CX0 1 Z.a_is_whole Z.d_is_whole ["thing"] (spD ⟨K, ca, cf⟩ F_is_whole) := by
  exact fnD Y.F_is_whole sc_is_whole fun cdv A outer s H E hr => ⟨_, (dss_one (ds_ret (de_and (de_isT .int B B.int PyProof.Rows.boot_int (de_var 0)) (de_one (de_not (de_isT .bool B B.bool PyProof.Rows.boot_bool (de_var 0)))))))⟩
theorem ok_is_cube (Y : Tx K mg Z) (B : Bn mg) : FnOk P w K mg base CX0 2 Z.a_is_cube Z.d_is_cube ["thing", "many"] (spD ⟨K, ca, cf⟩ F_is_cube) := by
  exact fnD Y.F_is_cube sc_is_cube fun cdv A outer s H E hr => ⟨_, (dss_one (ds_ret (de_and (de_isT .list B B.list PyProof.Rows.boot_list (de_var 0)) (de_and (de_cmp (do_eq hr.units) (de_len B (da_cons (de_var 0) da_nil)) de_int (nomark _)) (de_one (de_all B (da_cons (DE.ofL (dl_lc (own := [("one", 2)]) sc_is_cube.nd (blkOk_by (by kernel_rfl)) (di_seq (de_var 0)) (fun _ _ _ _ _ => (dg_name 2 sc_is_cube.nd)) (fun _ _ _ _ _ => dts_nil) (fun _ _ _ _ _ => (de_and (de_call (x := "is_whole") (ok_is_whole Y B) (hr.mono (by decide)) Y.m_is_whole Y.F_is_whole.kp Y.b_is_whole pass0 (da_cons (de_var 2) da_nil)) (de_one (de_chain do_le do_lt de_int (de_var 2) (de_var 1))))))) da_nil)))))))⟩
theorem ok_asked_cubes (Y : Tx K mg Z) (B : Bn mg) : FnOk P w K mg base CX0 3 Z.a_asked_cubes Z.d_asked_cubes ["cubes"] (spD ⟨K, ca, cf⟩ F_asked_cubes) := by
  obtain ⟨t_MOST, m_MOST⟩ := Y.m_MOST; exact fnD Y.F_asked_cubes sc_asked_cubes fun cdv A outer s H E hr => ⟨_, (dss_cons (ds_if (dw_pt (dw_or (dt_not (dt_val (de_isT .list B B.list PyProof.Rows.boot_list (de_var 0)))) (dw_or1 (dt_not (dt_chain do_le do_le de_int (de_len B (da_cons (de_var 0) da_nil)) (de_globI m_MOST))))))
      (dss_one ds_never)
      dss_nil)
      (dss_one (ds_if (dt_not (dt_val (de_all B (da_cons (DE.ofL (dl_lc (own := [("cube", 1)]) sc_asked_cubes.nd (blkOk_by (by kernel_rfl)) (di_seq (de_var 0)) (fun _ _ _ _ _ => (dg_name 1 sc_asked_cubes.nd)) (fun _ _ _ _ _ => dts_nil) (fun _ _ _ _ _ => (de_call (x := "is_cube") (ok_is_cube Y B) (hr.mono (by decide)) Y.m_is_cube Y.F_is_cube.kp Y.b_is_cube pass0 (da_cons (de_var 1) (da_cons (de_len B (da_cons (de_var 0) da_nil)) da_nil)))))) da_nil))))
      (dss_one ds_never)
      dss_nil)))⟩
theorem ok_asked_layings (Y : Tx K mg Z) (B : Bn mg) : FnOk P w K mg base CX0 2 Z.a_asked_layings Z.d_asked_layings ["cubes", "layings"] (spD ⟨K, ca, cf⟩ F_asked_layings) := by
  exact fnD Y.F_asked_layings sc_asked_layings fun cdv A outer s H E hr => ⟨_, (dss_cons (ds_if (dw_pt (dw_or (dt_not (dt_val (de_isT .list B B.list PyProof.Rows.boot_list (de_var 1)))) (dw_or1 (dt_cmp (do_ne hr.units) (de_len B (da_cons (de_var 1) da_nil)) (de_len B (da_cons (de_var 0) da_nil)) (nomark _)))))
      (dss_one ds_never)
      dss_nil)
      (dss_one (ds_if (dt_not (dt_val (de_all B (da_cons (DE.ofL (dl_lc (own := [("one", 2)]) sc_asked_layings.nd (blkOk_by (by kernel_rfl)) (di_seq (de_var 1)) (fun _ _ _ _ _ => (dg_name 2 sc_asked_layings.nd)) (fun _ _ _ _ _ => dts_nil) (fun _ _ _ _ _ => (de_and (de_call (x := "is_whole") (ok_is_whole Y B) (hr.mono (by decide)) Y.m_is_whole Y.F_is_whole.kp Y.b_is_whole pass0 (da_cons (de_var 2) da_nil)) (de_one (de_chain do_le do_lt de_int (de_var 2) de_int)))))) da_nil))))
      (dss_one ds_never)
      dss_nil)))⟩
theorem ok_ring_of (Y : Tx K mg Z) (B : Bn mg) : FnOk P w K mg base CX0 1 Z.a_ring_of Z.d_ring_of ["cube", "axis"] (spD ⟨K, ca, cf⟩ F_ring_of) := by
  exact fnD Y.F_ring_of sc_ring_of fun cdv A outer s H E hr => ⟨_, (dss_cons (ds_asg (de_var 0) (dg_unl (dgs_cons 2 sc_ring_of.nd (dgs_cons 3 sc_ring_of.nd (dgs_cons 4 sc_ring_of.nd (dgs_cons 5 sc_ring_of.nd (dgs_cons 6 sc_ring_of.nd (dgs_cons 7 sc_ring_of.nd dgs_nil))))))))
      (dss_one (ds_ret (de_ix (de_tup (da_cons (DE.ofL (dl_disp (da_cons (de_var 2) (da_cons (de_var 4) (da_cons (de_var 3) (da_cons (de_var 5) da_nil)))))) (da_cons (DE.ofL (dl_disp (da_cons (de_var 6) (da_cons (de_var 4) (da_cons (de_var 7) (da_cons (de_var 5) da_nil)))))) (da_cons (DE.ofL (dl_disp (da_cons (de_var 2) (da_cons (de_var 6) (da_cons (de_var 3) (da_cons (de_var 7) da_nil)))))) da_nil)))) (de_var 1)))))⟩
theorem ok_laid (Y : Tx K mg Z) (B : Bn mg) : FnOk P w K mg base CX0 2 Z.a_laid Z.d_laid ["cube", "laying"] (spL ⟨K, ca, cf⟩ F_laid) := by
  exact fnL Y.F_laid sc_laid fun cdv A outer s H E hr => ⟨_, (dss_cons (ds_set 2 sc_laid.nd (de_call (x := "ring_of") (ok_ring_of Y B) (hr.mono (by decide)) Y.m_ring_of Y.F_ring_of.kp Y.b_ring_of pass0 (da_cons (de_var 0) (da_cons (de_bin do_div (de_var 1) de_int) da_nil))))
      (dss_cons (ds_if (dt_cmp (do_eq hr.units) (de_bin do_mod (de_bin do_div (de_var 1) de_int) de_int) de_int (nomark _))
      (dss_one (ds_set 2 sc_laid.nd (DE.ofL (dl_rev (de_var 2)))))
      dss_nil)
      (dss_cons (ds_set 3 sc_laid.nd (de_bin do_mod (de_var 1) de_int))
      (dss_one (ds_retL (dl_bin do_cat (DE.ofL (dl_slice (de_var 2) (do_some (de_var 3)) do_none)) (DE.ofL (dl_slice (de_var 2) do_none (do_some (de_var 3))))))))))⟩
theorem ok_sides (Y : Tx K mg Z) (B : Bn mg) : FnOk P w K mg base CX0 3 Z.a_sides Z.d_sides ["cube", "laying"] (spL ⟨K, ca, cf⟩ F_sides) := by
  obtain ⟨t_MOST, m_MOST⟩ := Y.m_MOST; exact fnL Y.F_sides sc_sides fun cdv A outer s H E hr => ⟨_, (dss_cons (ds_if (dt_not (dt_val (de_call (x := "is_cube") (ok_is_cube Y B) (hr.mono (by decide)) Y.m_is_cube Y.F_is_cube.kp Y.b_is_cube pass0 (da_cons (de_var 0) (da_cons (de_globI m_MOST) da_nil)))))
      (dss_one ds_never)
      dss_nil)
      (dss_cons (ds_if (dw_pt (dw_or (dt_not (dt_val (de_call (x := "is_whole") (ok_is_whole Y B) (hr.mono (by decide)) Y.m_is_whole Y.F_is_whole.kp Y.b_is_whole pass0 (da_cons (de_var 1) da_nil)))) (dw_or1 (dt_not (dt_chain do_le do_lt de_int (de_var 1) de_int)))))
      (dss_one ds_never)
      dss_nil)
      (dss_one (ds_retL (dl_call (x := "laid") (ok_laid Y B) (hr.mono (by decide)) Y.m_laid Y.F_laid.kp Y.b_laid pass0 (da_cons (de_var 0) (da_cons (de_var 1) da_nil)))))))⟩
theorem ok_tower_of (Y : Tx K mg Z) (B : Bn mg) : FnOk P w K mg base CX0 3 Z.a_tower_of Z.d_tower_of ["cubes", "layings"] (sp2 ⟨K, ca, cf⟩ F_tower_of) := by
  exact fn2 Y.F_tower_of sc_tower_of fun cdv A outer s H E hr => ⟨_, (dss_cons (ds_set 2 sc_tower_of.nd (DE.ofL (DLs.of2 (d2_lc (own := [("cube", 4), ("laying", 5)]) sc_tower_of.nd (blkOk_by (by kernel_rfl)) (di_zip B (de_var 0) (de_var 1)) (fun _ _ _ _ _ => (dg_tup (dgs_cons 4 sc_tower_of.nd (dgs_cons 5 sc_tower_of.nd dgs_nil)))) (fun _ _ _ _ _ => dts_nil) (fun _ _ _ _ _ => (dl_call (x := "laid") (ok_laid Y B) (hr.mono (by decide)) Y.m_laid Y.F_laid.kp Y.b_laid pass0 (da_cons (de_var 4) (da_cons (de_var 5) da_nil))))))))
      (dss_one (ds_ret2 (d2_lc (own := [("side", 3)]) sc_tower_of.nd (blkOk_by (by kernel_rfl)) (di_range B de_int) (fun _ _ _ _ _ => (dg_name 3 sc_tower_of.nd)) (fun _ _ _ _ _ => dts_nil) (fun _ _ _ _ _ => (dl_lc (own := [("ring", 6)]) sc_tower_of.nd (blkOk_by (by kernel_rfl)) (di_seq (de_var 2)) (fun _ _ _ _ _ => (dg_name 6 sc_tower_of.nd)) (fun _ _ _ _ _ => dts_nil) (fun _ _ _ _ _ => (de_ix (de_var 6) (de_var 3)))))))))⟩
theorem ok_tower (Y : Tx K mg Z) (B : Bn mg) : FnOk P w K mg base CX0 4 Z.a_tower Z.d_tower ["cubes", "layings"] (sp2 ⟨K, ca, cf⟩ F_tower) := by
  exact fn2 Y.F_tower sc_tower fun cdv A outer s H E hr => ⟨_, (dss_cons (ds_drop (de_call (x := "asked_cubes") (ok_asked_cubes Y B) (hr.mono (by decide)) Y.m_asked_cubes Y.F_asked_cubes.kp Y.b_asked_cubes pass0 (da_cons (de_var 0) da_nil)))
      (dss_cons (ds_drop (de_call (x := "asked_layings") (ok_asked_layings Y B) (hr.mono (by decide)) Y.m_asked_layings Y.F_asked_layings.kp Y.b_asked_layings pass0 (da_cons (de_var 0) (da_cons (de_var 1) da_nil))))
      (dss_one (ds_ret2 (d2_call (x := "tower_of") (ok_tower_of Y B) (hr.mono (by decide)) Y.m_tower_of Y.F_tower_of.kp Y.b_tower_of pass0 (da_cons (de_var 0) (da_cons (de_var 1) da_nil)))))))⟩
theorem ok_law_number (Y : Tx K mg Z) (B : Bn mg) : FnOk P w K mg base CX0 1 Z.a_law_number Z.d_law_number ["_law_cell", "_law_at", "_law_whole"] (spD ⟨K, ca, cf⟩ F_law_number) := by
  exact fnD Y.F_law_number sc_law_number fun cdv A outer s H E hr => ⟨_, (dss_cons (ds_if (dt_cmp do_ge (de_var 0) (de_bin do_pow de_int de_int) (nomark _))
      (dss_one (ds_ret (de_bin do_div (de_var 0) (de_bin do_add de_int (de_bin do_mod (de_var 1) de_int)))))
      dss_nil)
      (dss_cons (ds_set 3 sc_law_number.nd (de_bin do_mod (de_bin do_add (de_bin do_mul (de_bin do_add (de_var 0) (de_bin do_mul de_int (de_var 1))) de_int) (de_var 2)) de_int))
      (dss_cons (ds_set 4 sc_law_number.nd (de_bin do_mul (de_var 3) (de_bin do_add (de_bin do_add (de_var 0) (de_bin do_mul de_int (de_var 1))) de_int)))
      (dss_one (ds_ret (de_bin do_div (de_bin do_mul (de_bin do_mul (de_var 4) (de_bin do_add (de_bin do_add (de_var 3) (de_var 0)) de_int)) (de_bin do_add (de_bin do_mul (de_var 3) (de_var 3)) de_int)) (de_bin do_add de_int (de_var 1))))))))⟩
theorem ok_law_cubes (Y : Tx K mg Z) (B : Bn mg) : FnOk P w K mg base CX0 2 Z.a_law_cubes Z.d_law_cubes ["_law_script", "_law_by", "_law_most"] (spL ⟨K, ca, cf⟩ F_law_cubes) := by
  exact fnL Y.F_law_cubes sc_law_cubes fun cdv A outer s H E hr => ⟨_, (dss_cons (ds_set 3 sc_law_cubes.nd (DE.ofL (dl_if (dt_cmp (do_ne hr.units) (de_var 0) (DE.ofL (dl_disp da_nil)) (nomark _)) (dl_slice (de_var 0) do_none (do_some de_int)) (dl_disp (da_cons de_int da_nil)))))
      (dss_cons (ds_set 4 sc_law_cubes.nd (de_bin do_add (de_abs B (da_cons (de_sum B (da_cons (de_var 3) da_nil)) da_nil)) (de_var 1)))
      (dss_cons (ds_set 5 sc_law_cubes.nd (de_bin do_add de_int (de_bin do_mod (de_var 4) (de_var 2))))
      (dss_cons (ds_own 6 sc_law_cubes.nd (dl_disp da_nil))
      (dss_cons (ds_for PassesOwn.never (di_range B (de_var 5)) (dg_name 7 sc_law_cubes.nd)
      (dss_cons (ds_set 8 sc_law_cubes.nd (de_bin do_div (de_call (x := "_law_number") (ok_law_number Y B) (hr.mono (by decide)) Y.m_law_number Y.F_law_number.kp Y.b_law_number pass0 (da_cons (de_ix (de_var 3) (de_bin do_mod (de_bin do_add (de_var 7) (de_var 1)) (de_len B (da_cons (de_var 3) da_nil)))) (da_cons (de_bin do_add (de_var 7) (de_var 1)) (da_cons (de_var 4) da_nil)))) de_int))
      (dss_cons (ds_lcS 9 (own := [("_law_side", 11)]) sc_law_cubes.nd (blkOk_by (by kernel_rfl)) (di_range B de_int) (fun _ _ _ _ _ => (dg_name 11 sc_law_cubes.nd)) (fun _ _ _ _ _ => dts_nil) (fun _ _ _ _ _ => (de_bin do_mod (de_bin do_div (de_var 8) (de_bin do_add de_int (de_bin do_mul de_int (de_var 11)))) (de_var 5))) (sw_true rfl rfl rfl (by kernel_rfl)))
      (dss_cons (ds_if (dt_cmp do_gt (de_bin do_mod (de_bin do_div (de_var 4) (de_var 2)) de_int) de_int (nomark _))
      (dss_cons (ds_set 10 sc_law_cubes.nd (DE.ofL (dl_disp (da_cons (de_bin do_mod (de_bin do_add (de_var 7) (de_var 4)) (de_var 5)) (da_cons (de_bin do_mod (de_bin do_add (de_var 7) (de_bin do_div (de_var 4) de_int)) (de_var 5)) da_nil)))))
      (dss_cons (ds_set 10 sc_law_cubes.nd (DE.ofL (dl_bin do_cat (de_var 10) (DE.ofL (dl_disp (da_cons (de_bin do_mod (de_bin do_sub (de_bin do_mul de_int (de_var 5)) (de_var 7)) (de_var 5)) (da_cons (de_bin do_mod (de_bin do_add (de_var 7) (de_bin do_div (de_var 4) de_int)) (de_var 5)) da_nil)))))))
      (dss_one (ds_set 9 sc_law_cubes.nd (DE.ofL (dl_bin do_cat (de_var 10) (DE.ofL (dl_slice (de_var 9) (do_some de_int) do_none))))))))
      dss_nil)
      (dss_cons (ds_if (dt_cmp (do_eq hr.units) (de_bin do_mod (de_var 8) de_int) de_int (nomark _))
      (dss_one (ds_set 9 sc_law_cubes.nd (DE.ofL (dl_bin do_cat (DE.ofL (dl_slice (de_var 9) (do_some de_int) do_none)) (DE.ofL (dl_slice (de_var 9) do_none (do_some de_int)))))))
      dss_nil)
      (dss_one (ds_app 6 (de_var 9))))))))
      (dss_one (ds_retO 6)))))))⟩
theorem ok_law_laid (Y : Tx K mg Z) (B : Bn mg) : FnOk P w K mg base CX0 1 Z.a_law_laid Z.d_law_laid ["_law_cube", "_law_laying"] (spL ⟨K, ca, cf⟩ F_law_laid) := by
  exact fnL Y.F_law_laid sc_law_laid fun cdv A outer s H E hr => ⟨_, (dss_cons (ds_set 2 sc_law_laid.nd (de_ix (de_tup (da_cons (de_tup (da_cons de_int (da_cons de_int (da_cons de_int (da_cons de_int da_nil))))) (da_cons (de_tup (da_cons de_int (da_cons de_int (da_cons de_int (da_cons de_int da_nil))))) (da_cons (de_tup (da_cons de_int (da_cons de_int (da_cons de_int (da_cons de_int da_nil))))) da_nil)))) (de_bin do_div (de_var 1) de_int)))
      (dss_cons (ds_if (dt_cmp do_gt (de_bin do_mod (de_var 1) de_int) de_int (nomark _))
      (dss_one (ds_set 2 sc_law_laid.nd (de_tup (da_cons (de_ix (de_var 2) de_int) (da_cons (de_ix (de_var 2) de_int) (da_cons (de_ix (de_var 2) de_int) (da_cons (de_ix (de_var 2) de_int) da_nil)))))))
      dss_nil)
      (dss_one (ds_retL (dl_lc (own := [("_law_side", 3)]) sc_law_laid.nd (blkOk_by (by kernel_rfl)) (di_range B de_int) (fun _ _ _ _ _ => (dg_name 3 sc_law_laid.nd)) (fun _ _ _ _ _ => dts_nil) (fun _ _ _ _ _ => (de_ix (de_var 0) (de_ix (de_var 2) (de_bin do_mod (de_bin do_add (de_var 3) (de_var 1)) de_int)))))))))⟩
theorem ok_law_copied (Y : Tx K mg Z) (B : Bn mg) : FnOk P w K mg base CX0 1 Z.a_law_copied Z.d_law_copied ["_law_cubes_here"] (sp2 ⟨K, ca, cf⟩ F_law_copied) := by
  exact fn2 Y.F_law_copied sc_law_copied fun cdv A outer s H E hr => ⟨_, (dss_one (ds_ret2 (d2_lc (own := [("_law_cube", 1)]) sc_law_copied.nd (blkOk_by (by kernel_rfl)) (di_seq (de_var 0)) (fun _ _ _ _ _ => (dg_name 1 sc_law_copied.nd)) (fun _ _ _ _ _ => dts_nil) (fun _ _ _ _ _ => (dl_list B (da_cons (de_var 1) da_nil))))))⟩
theorem ok_law (Y : Tx K mg Z) (B : Bn mg) : FnOk P w K mg base CX0 5 Z.a_law Z.d_law ["_law_script"] (spD ⟨K, ca, cf⟩ F_law) := by
  exact fnD Y.F_law sc_law fun cdv A outer s H E hr => ⟨_, (dss_cons (ds_set 1 sc_law.nd (de_abs B (da_cons (de_sum B (da_cons (DE.ofL (dl_slice (de_var 0) do_none (do_some de_int))) da_nil)) da_nil)))
      (dss_cons (ds_for PassesOwn.never (di_seq (DE.ofL (dl_disp (da_cons de_int (da_cons de_int (da_cons de_int da_nil)))))) (dg_name 2 sc_law.nd)
      (dss_cons (ds_set 4 sc_law.nd (DE.ofL (dl_call (x := "_law_cubes") (ok_law_cubes Y B) (hr.mono (by decide)) Y.m_law_cubes Y.F_law_cubes.kp Y.b_law_cubes pass0 (da_cons (de_var 0) (da_cons (de_var 2) (da_cons de_int da_nil))))))
      (dss_cons (ds_set 5 sc_law.nd (DE.ofL (DLs.of2 (d2_call (x := "_law_copied") (ok_law_copied Y B) (hr.mono (by decide)) Y.m_law_copied Y.F_law_copied.kp Y.b_law_copied pass0 (da_cons (de_var 4) da_nil)))))
      (dss_cons (ds_for PassesOwn.never (di_range B de_int) (dg_name 6 sc_law.nd)
      (dss_one (ds_for PassesOwn.never (di_range B de_int) (dg_name 10 sc_law.nd)
      (dss_cons (ds_own 11 sc_law.nd (dl_call (x := "sides") (ok_sides Y B) (hr.mono (by decide)) Y.m_sides Y.F_sides.kp Y.b_sides pass0 (da_cons (de_ix (de_var 5) de_int) (da_cons (de_var 6) da_nil))))
      (dss_cons (ds_if (dw_pt (dw_or (dt_not (dt_val (de_isT .list B B.list PyProof.Rows.boot_list (de_var 11)))) (dw_or (dt_cmp (do_ne hr.units) (de_var 11) (DE.ofL (dl_call (x := "_law_laid") (ok_law_laid Y B) (hr.mono (by decide)) Y.m_law_laid Y.F_law_laid.kp Y.b_law_laid pass0 (da_cons (de_ix (de_var 4) de_int) (da_cons (de_var 6) da_nil)))) (nomark _)) (dw_or1 (dt_cmp (do_ne hr.units) (de_var 5) (de_var 4) (nomark _))))))
      (dss_one (ds_ret de_bl))
      dss_nil)
      (dss_one (ds_app 11 de_int)))))))
      (dss_cons (ds_lcS 7 (own := [("_law_at", 13)]) sc_law.nd (blkOk_by (by kernel_rfl)) (di_range B (de_len B (da_cons (de_var 4) da_nil))) (fun _ _ _ _ _ => (dg_name 13 sc_law.nd)) (fun _ _ _ _ _ => dts_nil) (fun _ _ _ _ _ => (de_bin do_mod (de_call (x := "_law_number") (ok_law_number Y B) (hr.mono (by decide)) Y.m_law_number Y.F_law_number.kp Y.b_law_number pass0 (da_cons (de_bin do_add (de_var 1) (de_var 13)) (da_cons (de_var 2) (da_cons de_int da_nil)))) de_int)) (sw_true rfl rfl rfl (by kernel_rfl)))
      (dss_cons (ds_set 8 sc_law.nd (DE.ofL (dl_list B (da_cons (de_var 7) da_nil))))
      (dss_cons (ds_set 9 sc_law.nd (DE.ofL (DLs.of2 (d2_lc (own := [("_law_cube", 14), ("_law_laying", 6)]) sc_law.nd (blkOk_by (by kernel_rfl)) (di_zip B (de_var 4) (de_var 7)) (fun _ _ _ _ _ => (dg_tup (dgs_cons 14 sc_law.nd (dgs_cons 6 sc_law.nd dgs_nil)))) (fun _ _ _ _ _ => dts_nil) (fun _ _ _ _ _ => (dl_call (x := "_law_laid") (ok_law_laid Y B) (hr.mono (by decide)) Y.m_law_laid Y.F_law_laid.kp Y.b_law_laid pass0 (da_cons (de_var 14) (da_cons (de_var 6) da_nil))))))))
      (dss_one (ds_for PassesOwn.never (di_range B de_int) (dg_name 10 sc_law.nd)
      (dss_cons (ds_own2 11 sc_law.nd (d2_call (x := "tower") (ok_tower Y B) (hr.mono (by decide)) Y.m_tower Y.F_tower.kp Y.b_tower pass0 (da_cons (de_var 5) (da_cons (de_var 8) da_nil))))
      (dss_cons (ds_if (dw_pt (dw_or (dt_not (dt_val (de_isT .list B B.list PyProof.Rows.boot_list (de_var 11)))) (dw_or1 (dt_cmp (do_ne hr.units) (de_var 11) (DE.ofL (DLs.of2 (d2_lc (own := [("_law_side", 15)]) sc_law.nd (blkOk_by (by kernel_rfl)) (di_range B de_int) (fun _ _ _ _ _ => (dg_name 15 sc_law.nd)) (fun _ _ _ _ _ => dts_nil) (fun _ _ _ _ _ => (dl_lc (own := [("_law_ring", 16)]) sc_law.nd (blkOk_by (by kernel_rfl)) (di_seq (de_var 9)) (fun _ _ _ _ _ => (dg_name 16 sc_law.nd)) (fun _ _ _ _ _ => dts_nil) (fun _ _ _ _ _ => (de_ix (de_var 16) (de_var 15)))))))) (nomark _)))))
      (dss_one (ds_ret de_bl))
      dss_nil)
      (dss_cons (ds_if (dw_pt (dw_or (dt_cmp (do_ne hr.units) (de_var 5) (de_var 4) (nomark _)) (dw_or1 (dt_cmp (do_ne hr.units) (de_var 8) (de_var 7) (nomark _)))))
      (dss_one (ds_ret de_bl))
      dss_nil)
      (dss_cons (ds_appAll 11 12 PassesOwn.never (de_var 11) (pg_name (i := 12) sc_law.nd rfl (Or.inl rfl)) (dss_one (ds_app 12 de_int)))
      (dss_one (ds_app2 11 (dl_disp da_nil))))))))))))))))
      (dss_cons (ds_lcS 3 (own := [("_law_laying", 6)]) sc_law.nd (blkOk_by (by kernel_rfl)) (di_range B de_int) (fun _ _ _ _ _ => (dg_name 6 sc_law.nd)) (fun _ _ _ _ _ => dts_nil) (fun _ _ _ _ _ => (DE.ofL (dl_call (x := "sides") (ok_sides Y B) (hr.mono (by decide)) Y.m_sides Y.F_sides.kp Y.b_sides pass0 (da_cons (DE.ofL (dl_disp (da_cons de_int (da_cons de_int (da_cons de_int (da_cons de_int (da_cons de_int (da_cons de_int da_nil)))))))) (da_cons (de_var 6) da_nil))))) (sw_true rfl rfl rfl (by kernel_rfl)))
      (dss_cons (ds_if (dw_pt (dw_or (dt_cmp (do_ne hr.units) (de_ix (de_var 3) de_int) (DE.ofL (dl_disp (da_cons de_int (da_cons de_int (da_cons de_int (da_cons de_int da_nil)))))) (nomark _)) (dw_or (dt_cmp (do_ne hr.units) (de_ix (de_var 3) de_int) (DE.ofL (dl_disp (da_cons de_int (da_cons de_int (da_cons de_int (da_cons de_int da_nil)))))) (nomark _)) (dw_or (dt_cmp (do_ne hr.units) (de_ix (de_var 3) de_int) (DE.ofL (dl_disp (da_cons de_int (da_cons de_int (da_cons de_int (da_cons de_int da_nil)))))) (nomark _)) (dw_or1 (dt_cmp (do_ne hr.units) (de_ix (de_var 3) de_int) (DE.ofL (dl_disp (da_cons de_int (da_cons de_int (da_cons de_int (da_cons de_int da_nil)))))) (nomark _)))))))
      (dss_one (ds_ret de_bl))
      dss_nil)
      (dss_one (ds_ret (de_cmp (do_eq hr.units) (DE.ofL (DLs.of2 (d2_call (x := "tower") (ok_tower Y B) (hr.mono (by decide)) Y.m_tower Y.F_tower.kp Y.b_tower pass0 (da_cons (DE.ofL (dl_disp (da_cons (DE.ofL (dl_disp (da_cons de_int (da_cons de_int (da_cons de_int (da_cons de_int (da_cons de_int (da_cons de_int da_nil)))))))) da_nil))) (da_cons (DE.ofL (dl_disp (da_cons de_int da_nil))) da_nil))))) (DE.ofL (dl_disp (da_cons (DE.ofL (dl_disp (da_cons de_int da_nil))) (da_cons (DE.ofL (dl_disp (da_cons de_int da_nil))) (da_cons (DE.ofL (dl_disp (da_cons de_int da_nil))) (da_cons (DE.ofL (dl_disp (da_cons de_int da_nil))) da_nil)))))) (nomark _))))))))⟩
end
end CT

set_option Elab.async false
set_option linter.all false
set_option maxRecDepth 100000
set_option maxHeartbeats 4000000
namespace CT
open PySem PySem.Spec PyProof.Rows L2 DL
theorem law_end {K : PySem.W.Frag} {H : Hp} {a : Addr} {ns : List Int} {ca : Nat → Addr} {cf : Nat → List Str} {E : XK} (hl : ns.length ≤ 63) (hb : ∀ z ∈ ns, Builtin.Int.intBits z ≤ 1048576) (hS : SqL K H a (ns.map V.int)) : spD ⟨K, ca, cf⟩ F_law [.ref a] H (fun v _ => v = .bl true) E :=
  ⟨H, [.scr ns], .bl true, Le.refl _, .cons (.scr hS) .nil, law_true hl hb, fun v _ _ _ r => by cases r; rfl⟩
theorem all_mk {w : World} {P : Program} {K : PySem.W.Frag} {h : Heap} {mg : Str → Option Value} {fa : Addr} {ca : Nat → Addr} {cf : Nat → List Str} (X : K.In h) (G : h.Ns mainGlobals mg) (hfa : mg "law" = some (.ref fa))
    {f_is_whole : Addr} {od_is_whole an_is_whole : Option Addr} {sl_is_whole : Array (Option Value)} {oc_is_whole kV_is_whole dc_is_whole pm_is_whole cd_is_whole ct_is_whole : Value}
    (a_is_whole : PySem.W.nsIn K mainGlobals "is_whole" = some (some (.ref f_is_whole))) (l_is_whole : K.lookup f_is_whole = some ⟨oc_is_whole, od_is_whole, .func (PySem.W.fnOf "is_whole" "is_whole" (defArgs s_is_whole) (defBody s_is_whole) (defScope s_is_whole) .none kV_is_whole dc_is_whole pm_is_whole an_is_whole cd_is_whole ct_is_whole), sl_is_whole⟩) (c_is_whole : PySem.W.codeIn K cd_is_whole "is_whole" = true) (k_is_whole : PySem.W.keepIn K (.ref f_is_whole) = true)
    {f_is_cube : Addr} {od_is_cube an_is_cube : Option Addr} {sl_is_cube : Array (Option Value)} {oc_is_cube kV_is_cube dc_is_cube pm_is_cube cd_is_cube ct_is_cube : Value}
    (a_is_cube : PySem.W.nsIn K mainGlobals "is_cube" = some (some (.ref f_is_cube))) (l_is_cube : K.lookup f_is_cube = some ⟨oc_is_cube, od_is_cube, .func (PySem.W.fnOf "is_cube" "is_cube" (defArgs s_is_cube) (defBody s_is_cube) (defScope s_is_cube) .none kV_is_cube dc_is_cube pm_is_cube an_is_cube cd_is_cube ct_is_cube), sl_is_cube⟩) (c_is_cube : PySem.W.codeIn K cd_is_cube "is_cube" = true) (k_is_cube : PySem.W.keepIn K (.ref f_is_cube) = true)
    {f_asked_cubes : Addr} {od_asked_cubes an_asked_cubes : Option Addr} {sl_asked_cubes : Array (Option Value)} {oc_asked_cubes kV_asked_cubes dc_asked_cubes pm_asked_cubes cd_asked_cubes ct_asked_cubes : Value}
    (a_asked_cubes : PySem.W.nsIn K mainGlobals "asked_cubes" = some (some (.ref f_asked_cubes))) (l_asked_cubes : K.lookup f_asked_cubes = some ⟨oc_asked_cubes, od_asked_cubes, .func (PySem.W.fnOf "asked_cubes" "asked_cubes" (defArgs s_asked_cubes) (defBody s_asked_cubes) (defScope s_asked_cubes) .none kV_asked_cubes dc_asked_cubes pm_asked_cubes an_asked_cubes cd_asked_cubes ct_asked_cubes), sl_asked_cubes⟩) (c_asked_cubes : PySem.W.codeIn K cd_asked_cubes "asked_cubes" = true) (k_asked_cubes : PySem.W.keepIn K (.ref f_asked_cubes) = true)
    {f_asked_layings : Addr} {od_asked_layings an_asked_layings : Option Addr} {sl_asked_layings : Array (Option Value)} {oc_asked_layings kV_asked_layings dc_asked_layings pm_asked_layings cd_asked_layings ct_asked_layings : Value}
    (a_asked_layings : PySem.W.nsIn K mainGlobals "asked_layings" = some (some (.ref f_asked_layings))) (l_asked_layings : K.lookup f_asked_layings = some ⟨oc_asked_layings, od_asked_layings, .func (PySem.W.fnOf "asked_layings" "asked_layings" (defArgs s_asked_layings) (defBody s_asked_layings) (defScope s_asked_layings) .none kV_asked_layings dc_asked_layings pm_asked_layings an_asked_layings cd_asked_layings ct_asked_layings), sl_asked_layings⟩) (c_asked_layings : PySem.W.codeIn K cd_asked_layings "asked_layings" = true) (k_asked_layings : PySem.W.keepIn K (.ref f_asked_layings) = true)
    {f_ring_of : Addr} {od_ring_of an_ring_of : Option Addr} {sl_ring_of : Array (Option Value)} {oc_ring_of kV_ring_of dc_ring_of pm_ring_of cd_ring_of ct_ring_of : Value}
    (a_ring_of : PySem.W.nsIn K mainGlobals "ring_of" = some (some (.ref f_ring_of))) (l_ring_of : K.lookup f_ring_of = some ⟨oc_ring_of, od_ring_of, .func (PySem.W.fnOf "ring_of" "ring_of" (defArgs s_ring_of) (defBody s_ring_of) (defScope s_ring_of) .none kV_ring_of dc_ring_of pm_ring_of an_ring_of cd_ring_of ct_ring_of), sl_ring_of⟩) (c_ring_of : PySem.W.codeIn K cd_ring_of "ring_of" = true) (k_ring_of : PySem.W.keepIn K (.ref f_ring_of) = true)
    {f_laid : Addr} {od_laid an_laid : Option Addr} {sl_laid : Array (Option Value)} {oc_laid kV_laid dc_laid pm_laid cd_laid ct_laid : Value}
    (a_laid : PySem.W.nsIn K mainGlobals "laid" = some (some (.ref f_laid))) (l_laid : K.lookup f_laid = some ⟨oc_laid, od_laid, .func (PySem.W.fnOf "laid" "laid" (defArgs s_laid) (defBody s_laid) (defScope s_laid) .none kV_laid dc_laid pm_laid an_laid cd_laid ct_laid), sl_laid⟩) (c_laid : PySem.W.codeIn K cd_laid "laid" = true) (k_laid : PySem.W.keepIn K (.ref f_laid) = true)
    {f_sides : Addr} {od_sides an_sides : Option Addr} {sl_sides : Array (Option Value)} {oc_sides kV_sides dc_sides pm_sides cd_sides ct_sides : Value}
    (a_sides : PySem.W.nsIn K mainGlobals "sides" = some (some (.ref f_sides))) (l_sides : K.lookup f_sides = some ⟨oc_sides, od_sides, .func (PySem.W.fnOf "sides" "sides" (defArgs s_sides) (defBody s_sides) (defScope s_sides) .none kV_sides dc_sides pm_sides an_sides cd_sides ct_sides), sl_sides⟩) (c_sides : PySem.W.codeIn K cd_sides "sides" = true) (k_sides : PySem.W.keepIn K (.ref f_sides) = true)
    {f_tower_of : Addr} {od_tower_of an_tower_of : Option Addr} {sl_tower_of : Array (Option Value)} {oc_tower_of kV_tower_of dc_tower_of pm_tower_of cd_tower_of ct_tower_of : Value}
    (a_tower_of : PySem.W.nsIn K mainGlobals "tower_of" = some (some (.ref f_tower_of))) (l_tower_of : K.lookup f_tower_of = some ⟨oc_tower_of, od_tower_of, .func (PySem.W.fnOf "tower_of" "tower_of" (defArgs s_tower_of) (defBody s_tower_of) (defScope s_tower_of) .none kV_tower_of dc_tower_of pm_tower_of an_tower_of cd_tower_of ct_tower_of), sl_tower_of⟩) (c_tower_of : PySem.W.codeIn K cd_tower_of "tower_of" = true) (k_tower_of : PySem.W.keepIn K (.ref f_tower_of) = true)
    {f_tower : Addr} {od_tower an_tower : Option Addr} {sl_tower : Array (Option Value)} {oc_tower kV_tower dc_tower pm_tower cd_tower ct_tower : Value}
    (a_tower : PySem.W.nsIn K mainGlobals "tower" = some (some (.ref f_tower))) (l_tower : K.lookup f_tower = some ⟨oc_tower, od_tower, .func (PySem.W.fnOf "tower" "tower" (defArgs s_tower) (defBody s_tower) (defScope s_tower) .none kV_tower dc_tower pm_tower an_tower cd_tower ct_tower), sl_tower⟩) (c_tower : PySem.W.codeIn K cd_tower "tower" = true) (k_tower : PySem.W.keepIn K (.ref f_tower) = true)
    {f_law_number : Addr} {od_law_number an_law_number : Option Addr} {sl_law_number : Array (Option Value)} {oc_law_number kV_law_number dc_law_number pm_law_number cd_law_number ct_law_number : Value}
    (a_law_number : PySem.W.nsIn K mainGlobals "_law_number" = some (some (.ref f_law_number))) (l_law_number : K.lookup f_law_number = some ⟨oc_law_number, od_law_number, .func (PySem.W.fnOf "_law_number" "_law_number" (defArgs s_law_number) (defBody s_law_number) (defScope s_law_number) .none kV_law_number dc_law_number pm_law_number an_law_number cd_law_number ct_law_number), sl_law_number⟩) (c_law_number : PySem.W.codeIn K cd_law_number "_law_number" = true) (k_law_number : PySem.W.keepIn K (.ref f_law_number) = true)
    {f_law_cubes : Addr} {od_law_cubes an_law_cubes : Option Addr} {sl_law_cubes : Array (Option Value)} {oc_law_cubes kV_law_cubes dc_law_cubes pm_law_cubes cd_law_cubes ct_law_cubes : Value}
    (a_law_cubes : PySem.W.nsIn K mainGlobals "_law_cubes" = some (some (.ref f_law_cubes))) (l_law_cubes : K.lookup f_law_cubes = some ⟨oc_law_cubes, od_law_cubes, .func (PySem.W.fnOf "_law_cubes" "_law_cubes" (defArgs s_law_cubes) (defBody s_law_cubes) (defScope s_law_cubes) .none kV_law_cubes dc_law_cubes pm_law_cubes an_law_cubes cd_law_cubes ct_law_cubes), sl_law_cubes⟩) (c_law_cubes : PySem.W.codeIn K cd_law_cubes "_law_cubes" = true) (k_law_cubes : PySem.W.keepIn K (.ref f_law_cubes) = true)
    {f_law_laid : Addr} {od_law_laid an_law_laid : Option Addr} {sl_law_laid : Array (Option Value)} {oc_law_laid kV_law_laid dc_law_laid pm_law_laid cd_law_laid ct_law_laid : Value}
    (a_law_laid : PySem.W.nsIn K mainGlobals "_law_laid" = some (some (.ref f_law_laid))) (l_law_laid : K.lookup f_law_laid = some ⟨oc_law_laid, od_law_laid, .func (PySem.W.fnOf "_law_laid" "_law_laid" (defArgs s_law_laid) (defBody s_law_laid) (defScope s_law_laid) .none kV_law_laid dc_law_laid pm_law_laid an_law_laid cd_law_laid ct_law_laid), sl_law_laid⟩) (c_law_laid : PySem.W.codeIn K cd_law_laid "_law_laid" = true) (k_law_laid : PySem.W.keepIn K (.ref f_law_laid) = true)
    {f_law_copied : Addr} {od_law_copied an_law_copied : Option Addr} {sl_law_copied : Array (Option Value)} {oc_law_copied kV_law_copied dc_law_copied pm_law_copied cd_law_copied ct_law_copied : Value}
    (a_law_copied : PySem.W.nsIn K mainGlobals "_law_copied" = some (some (.ref f_law_copied))) (l_law_copied : K.lookup f_law_copied = some ⟨oc_law_copied, od_law_copied, .func (PySem.W.fnOf "_law_copied" "_law_copied" (defArgs s_law_copied) (defBody s_law_copied) (defScope s_law_copied) .none kV_law_copied dc_law_copied pm_law_copied an_law_copied cd_law_copied ct_law_copied), sl_law_copied⟩) (c_law_copied : PySem.W.codeIn K cd_law_copied "_law_copied" = true) (k_law_copied : PySem.W.keepIn K (.ref f_law_copied) = true)
    {f_law : Addr} {od_law an_law : Option Addr} {sl_law : Array (Option Value)} {oc_law kV_law dc_law pm_law cd_law ct_law : Value}
    (a_law : PySem.W.nsIn K mainGlobals "law" = some (some (.ref f_law))) (l_law : K.lookup f_law = some ⟨oc_law, od_law, .func (PySem.W.fnOf "law" "law" (defArgs s_law) (defBody s_law) (defScope s_law) .none kV_law dc_law pm_law an_law cd_law ct_law), sl_law⟩) (c_law : PySem.W.codeIn K cd_law "law" = true) (k_law : PySem.W.keepIn K (.ref f_law) = true)
    {t_MOST : Tok} (g_MOST : PySem.W.nsIn K mainGlobals "MOST" = some (some (.int 5 t_MOST)))
    (z_len : PySem.W.nsIn K mainGlobals "len" = some none)
    (z_all : PySem.W.nsIn K mainGlobals "all" = some none)
    (z_any : PySem.W.nsIn K mainGlobals "any" = some none)
    (z_sum : PySem.W.nsIn K mainGlobals "sum" = some none)
    (z_abs : PySem.W.nsIn K mainGlobals "abs" = some none)
    (z_min : PySem.W.nsIn K mainGlobals "min" = some none)
    (z_max : PySem.W.nsIn K mainGlobals "max" = some none)
    (z_sorted : PySem.W.nsIn K mainGlobals "sorted" = some none)
    (z_list : PySem.W.nsIn K mainGlobals "list" = some none)
    (z_tuple : PySem.W.nsIn K mainGlobals "tuple" = some none)
    (z_set : PySem.W.nsIn K mainGlobals "set" = some none)
    (z_range : PySem.W.nsIn K mainGlobals "range" = some none)
    (z_zip : PySem.W.nsIn K mainGlobals "zip" = some none)
    (z_enumerate : PySem.W.nsIn K mainGlobals "enumerate" = some none)
    (z_isinstance : PySem.W.nsIn K mainGlobals "isinstance" = some none)
    (z_int : PySem.W.nsIn K mainGlobals "int" = some none)
    (z_bool : PySem.W.nsIn K mainGlobals "bool" = some none)
    (z_str : PySem.W.nsIn K mainGlobals "str" = some none)
    : ∃ fd : FuncData, (∀ (s : Shared) (v : Value), BindsTo s fd ⟨[v], []⟩ [("_law_script", v)]) ∧ ∀ base : Heap, K.In base → base.Ns mainGlobals mg → FnOk P w K mg base CX0 5 fa fd ["_law_script"] (spD ⟨K, ca, cf⟩ F_law) := by
  have e := hfa.symm.trans (PySem.W.mg_of X G a_law)
  cases e
  have B : Bn mg := ⟨PySem.W.mg_none_of X G z_len, PySem.W.mg_none_of X G z_all, PySem.W.mg_none_of X G z_any, PySem.W.mg_none_of X G z_sum, PySem.W.mg_none_of X G z_abs, PySem.W.mg_none_of X G z_min, PySem.W.mg_none_of X G z_max, PySem.W.mg_none_of X G z_sorted, PySem.W.mg_none_of X G z_list, PySem.W.mg_none_of X G z_tuple, PySem.W.mg_none_of X G z_set, PySem.W.mg_none_of X G z_range, PySem.W.mg_none_of X G z_zip, PySem.W.mg_none_of X G z_enumerate, PySem.W.mg_none_of X G z_isinstance, PySem.W.mg_none_of X G z_int, PySem.W.mg_none_of X G z_bool, PySem.W.mg_none_of X G z_str⟩
  have F_is_whole := fun_mk (st := s_is_whole) l_is_whole c_is_whole k_is_whole
  have b_is_whole := F_is_whole.binds (ps := ["thing"]) fun _ _ _ _ _ _ us hl => match us, hl with | [_], _ => rfl
  have F_is_cube := fun_mk (st := s_is_cube) l_is_cube c_is_cube k_is_cube
  have b_is_cube := F_is_cube.binds (ps := ["thing", "many"]) fun _ _ _ _ _ _ us hl => match us, hl with | [_, _], _ => rfl
  have F_asked_cubes := fun_mk (st := s_asked_cubes) l_asked_cubes c_asked_cubes k_asked_cubes
  have b_asked_cubes := F_asked_cubes.binds (ps := ["cubes"]) fun _ _ _ _ _ _ us hl => match us, hl with | [_], _ => rfl
  have F_asked_layings := fun_mk (st := s_asked_layings) l_asked_layings c_asked_layings k_asked_layings
  have b_asked_layings := F_asked_layings.binds (ps := ["cubes", "layings"]) fun _ _ _ _ _ _ us hl => match us, hl with | [_, _], _ => rfl
  have F_ring_of := fun_mk (st := s_ring_of) l_ring_of c_ring_of k_ring_of
  have b_ring_of := F_ring_of.binds (ps := ["cube", "axis"]) fun _ _ _ _ _ _ us hl => match us, hl with | [_, _], _ => rfl
  have F_laid := fun_mk (st := s_laid) l_laid c_laid k_laid
  have b_laid := F_laid.binds (ps := ["cube", "laying"]) fun _ _ _ _ _ _ us hl => match us, hl with | [_, _], _ => rfl
  have F_sides := fun_mk (st := s_sides) l_sides c_sides k_sides
  have b_sides := F_sides.binds (ps := ["cube", "laying"]) fun _ _ _ _ _ _ us hl => match us, hl with | [_, _], _ => rfl
  have F_tower_of := fun_mk (st := s_tower_of) l_tower_of c_tower_of k_tower_of
  have b_tower_of := F_tower_of.binds (ps := ["cubes", "layings"]) fun _ _ _ _ _ _ us hl => match us, hl with | [_, _], _ => rfl
  have F_tower := fun_mk (st := s_tower) l_tower c_tower k_tower
  have b_tower := F_tower.binds (ps := ["cubes", "layings"]) fun _ _ _ _ _ _ us hl => match us, hl with | [_, _], _ => rfl
  have F_law_number := fun_mk (st := s_law_number) l_law_number c_law_number k_law_number
  have b_law_number := F_law_number.binds (ps := ["_law_cell", "_law_at", "_law_whole"]) fun _ _ _ _ _ _ us hl => match us, hl with | [_, _, _], _ => rfl
  have F_law_cubes := fun_mk (st := s_law_cubes) l_law_cubes c_law_cubes k_law_cubes
  have b_law_cubes := F_law_cubes.binds (ps := ["_law_script", "_law_by", "_law_most"]) fun _ _ _ _ _ _ us hl => match us, hl with | [_, _, _], _ => rfl
  have F_law_laid := fun_mk (st := s_law_laid) l_law_laid c_law_laid k_law_laid
  have b_law_laid := F_law_laid.binds (ps := ["_law_cube", "_law_laying"]) fun _ _ _ _ _ _ us hl => match us, hl with | [_, _], _ => rfl
  have F_law_copied := fun_mk (st := s_law_copied) l_law_copied c_law_copied k_law_copied
  have b_law_copied := F_law_copied.binds (ps := ["_law_cubes_here"]) fun _ _ _ _ _ _ us hl => match us, hl with | [_], _ => rfl
  have F_law := fun_mk (st := s_law) l_law c_law k_law
  have b_law := F_law.binds (ps := ["_law_script"]) fun _ _ _ _ _ _ us hl => match us, hl with | [_], _ => rfl
  let Z : Ad := ⟨f_is_whole, PySem.W.fnOf "is_whole" "is_whole" (defArgs s_is_whole) (defBody s_is_whole) (defScope s_is_whole) .none kV_is_whole dc_is_whole pm_is_whole an_is_whole cd_is_whole ct_is_whole, f_is_cube, PySem.W.fnOf "is_cube" "is_cube" (defArgs s_is_cube) (defBody s_is_cube) (defScope s_is_cube) .none kV_is_cube dc_is_cube pm_is_cube an_is_cube cd_is_cube ct_is_cube, f_asked_cubes, PySem.W.fnOf "asked_cubes" "asked_cubes" (defArgs s_asked_cubes) (defBody s_asked_cubes) (defScope s_asked_cubes) .none kV_asked_cubes dc_asked_cubes pm_asked_cubes an_asked_cubes cd_asked_cubes ct_asked_cubes, f_asked_layings, PySem.W.fnOf "asked_layings" "asked_layings" (defArgs s_asked_layings) (defBody s_asked_layings) (defScope s_asked_layings) .none kV_asked_layings dc_asked_layings pm_asked_layings an_asked_layings cd_asked_layings ct_asked_layings, f_ring_of, PySem.W.fnOf "ring_of" "ring_of" (defArgs s_ring_of) (defBody s_ring_of) (defScope s_ring_of) .none kV_ring_of dc_ring_of pm_ring_of an_ring_of cd_ring_of ct_ring_of, f_laid, PySem.W.fnOf "laid" "laid" (defArgs s_laid) (defBody s_laid) (defScope s_laid) .none kV_laid dc_laid pm_laid an_laid cd_laid ct_laid, f_sides, PySem.W.fnOf "sides" "sides" (defArgs s_sides) (defBody s_sides) (defScope s_sides) .none kV_sides dc_sides pm_sides an_sides cd_sides ct_sides, f_tower_of, PySem.W.fnOf "tower_of" "tower_of" (defArgs s_tower_of) (defBody s_tower_of) (defScope s_tower_of) .none kV_tower_of dc_tower_of pm_tower_of an_tower_of cd_tower_of ct_tower_of, f_tower, PySem.W.fnOf "tower" "tower" (defArgs s_tower) (defBody s_tower) (defScope s_tower) .none kV_tower dc_tower pm_tower an_tower cd_tower ct_tower, f_law_number, PySem.W.fnOf "_law_number" "_law_number" (defArgs s_law_number) (defBody s_law_number) (defScope s_law_number) .none kV_law_number dc_law_number pm_law_number an_law_number cd_law_number ct_law_number, f_law_cubes, PySem.W.fnOf "_law_cubes" "_law_cubes" (defArgs s_law_cubes) (defBody s_law_cubes) (defScope s_law_cubes) .none kV_law_cubes dc_law_cubes pm_law_cubes an_law_cubes cd_law_cubes ct_law_cubes, f_law_laid, PySem.W.fnOf "_law_laid" "_law_laid" (defArgs s_law_laid) (defBody s_law_laid) (defScope s_law_laid) .none kV_law_laid dc_law_laid pm_law_laid an_law_laid cd_law_laid ct_law_laid, f_law_copied, PySem.W.fnOf "_law_copied" "_law_copied" (defArgs s_law_copied) (defBody s_law_copied) (defScope s_law_copied) .none kV_law_copied dc_law_copied pm_law_copied an_law_copied cd_law_copied ct_law_copied, fa, PySem.W.fnOf "law" "law" (defArgs s_law) (defBody s_law) (defScope s_law) .none kV_law dc_law pm_law an_law cd_law ct_law⟩
  have Y : Tx K mg Z := ⟨F_is_whole, PySem.W.mg_of X G a_is_whole, b_is_whole, F_is_cube, PySem.W.mg_of X G a_is_cube, b_is_cube, F_asked_cubes, PySem.W.mg_of X G a_asked_cubes, b_asked_cubes, F_asked_layings, PySem.W.mg_of X G a_asked_layings, b_asked_layings, F_ring_of, PySem.W.mg_of X G a_ring_of, b_ring_of, F_laid, PySem.W.mg_of X G a_laid, b_laid, F_sides, PySem.W.mg_of X G a_sides, b_sides, F_tower_of, PySem.W.mg_of X G a_tower_of, b_tower_of, F_tower, PySem.W.mg_of X G a_tower, b_tower, F_law_number, PySem.W.mg_of X G a_law_number, b_law_number, F_law_cubes, PySem.W.mg_of X G a_law_cubes, b_law_cubes, F_law_laid, PySem.W.mg_of X G a_law_laid, b_law_laid, F_law_copied, PySem.W.mg_of X G a_law_copied, b_law_copied, F_law, PySem.W.mg_of X G a_law, b_law, ⟨_, PySem.W.mg_of X G g_MOST⟩⟩
  exact ⟨PySem.W.fnOf "law" "law" (defArgs s_law) (defBody s_law) (defScope s_law) .none kV_law dc_law pm_law an_law cd_law ct_law, fun s v => .of_eq rfl, fun base _ _ => ok_law Y B⟩
end CT
open PySem PySem.W PyProof.Rows
set_option maxRecDepth 100000 in
set_option maxHeartbeats 0 in
theorem PySem.Challenge.cw_cubetower_k01_whole_laid_holds : PySem.Challenge.rw_cubetower_k01_whole_laid.Holds := by
  w_on; o_law; k_head; (case hw => w_witness2)
  k_fill
  refine L2.walk_ofB (l := PySem.Challenge.rw_cubetower_k01_whole_laid) (n := 63) (k := 5) (x := "_law_script") (CX := fun _ => L2.CX0) (sp := fun w => DL.spD ⟨_, fun _ => 0, fun _ => []⟩ CT.F_law) rfl (by decide) rfl ⟨rfl, by decide, by decide⟩ (fun w h Y => PySem.W.kIn_of Y) ?F (fun _ H a ns hl hb _ hS => CT.law_end hl hb hS) (fun _ _ _ _ _ h => h)
  case F =>
    intro w mg fa h KX G hmg
    refine' CT.all_mk KX G hmg ?a_is_whole ?l_is_whole ?c_is_whole ?k_is_whole ?a_is_cube ?l_is_cube ?c_is_cube ?k_is_cube ?a_asked_cubes ?l_asked_cubes ?c_asked_cubes ?k_asked_cubes ?a_asked_layings ?l_asked_layings ?c_asked_layings ?k_asked_layings ?a_ring_of ?l_ring_of ?c_ring_of ?k_ring_of ?a_laid ?l_laid ?c_laid ?k_laid ?a_sides ?l_sides ?c_sides ?k_sides ?a_tower_of ?l_tower_of ?c_tower_of ?k_tower_of ?a_tower ?l_tower ?c_tower ?k_tower ?a_law_number ?l_law_number ?c_law_number ?k_law_number ?a_law_cubes ?l_law_cubes ?c_law_cubes ?k_law_cubes ?a_law_laid ?l_law_laid ?c_law_laid ?k_law_laid ?a_law_copied ?l_law_copied ?c_law_copied ?k_law_copied ?a_law ?l_law ?c_law ?k_law ?g_MOST ?z_len ?z_all ?z_any ?z_sum ?z_abs ?z_min ?z_max ?z_sorted ?z_list ?z_tuple ?z_set ?z_range ?z_zip ?z_enumerate ?z_isinstance ?z_int ?z_bool ?z_str
    (case a_is_whole => k_is); (case l_is_whole => k_is); (case c_is_whole => k_is); (case k_is_whole => k_is); (case a_is_cube => k_is); (case l_is_cube => k_is); (case c_is_cube => k_is); (case k_is_cube => k_is); (case a_asked_cubes => k_is); (case l_asked_cubes => k_is); (case c_asked_cubes => k_is); (case k_asked_cubes => k_is); (case a_asked_layings => k_is); (case l_asked_layings => k_is); (case c_asked_layings => k_is); (case k_asked_layings => k_is); (case a_ring_of => k_is); (case l_ring_of => k_is); (case c_ring_of => k_is); (case k_ring_of => k_is); (case a_laid => k_is); (case l_laid => k_is); (case c_laid => k_is); (case k_laid => k_is); (case a_sides => k_is); (case l_sides => k_is); (case c_sides => k_is); (case k_sides => k_is); (case a_tower_of => k_is); (case l_tower_of => k_is); (case c_tower_of => k_is); (case k_tower_of => k_is); (case a_tower => k_is); (case l_tower => k_is); (case c_tower => k_is); (case k_tower => k_is); (case a_law_number => k_is); (case l_law_number => k_is); (case c_law_number => k_is); (case k_law_number => k_is); (case a_law_cubes => k_is); (case l_law_cubes => k_is); (case c_law_cubes => k_is); (case k_law_cubes => k_is); (case a_law_laid => k_is); (case l_law_laid => k_is); (case c_law_laid => k_is); (case k_law_laid => k_is); (case a_law_copied => k_is); (case l_law_copied => k_is); (case c_law_copied => k_is); (case k_law_copied => k_is); (case a_law => k_is); (case l_law => k_is); (case c_law => k_is); (case k_law => k_is); (case g_MOST => k_is); (case z_len => k_is); (case z_all => k_is); (case z_any => k_is); (case z_sum => k_is); (case z_abs => k_is); (case z_min => k_is); (case z_max => k_is); (case z_sorted => k_is); (case z_list => k_is); (case z_tuple => k_is); (case z_set => k_is); (case z_range => k_is); (case z_zip => k_is); (case z_enumerate => k_is); (case z_isinstance => k_is); (case z_int => k_is); (case z_bool => k_is); (case z_str => k_is)
#print axioms PySem.Challenge.cw_cubetower_k01_whole_laid_holds
