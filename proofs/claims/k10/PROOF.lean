import PyProof.Rows.All
import Wide.All
import OpenK.AllK
import Wide.FinOn
import HandS.ForMost
import HandS.ForExc
import KE.KeyNested
import HandS.TupAny
import HandS.Wide
import HandS.CallSlots
import HandS.Deep
import PyProof.StrLawsIn
import HandS.Dict
import KE.KDictKeyed
import HandS.DictTup
import HandS.SetKeys
import KE.KEqDict
import HandS.Text
import HandS.Codes
import HandS.RaiseMore
import KE.KIntText
import PyProof.StrLawsTight
import HandS.ExcOwn
import PyProof.Rows.ReprR
import PyProof.FString2
import HandS.IsInst
import HandS.More
import HandS.Walk
import HandS.Zip
import KE.KDictWalk
import KE.KItem
import HandS.Iter
import HandS.Style
import HandS.Words
import HandS.ClsMeth
import HandS.ExcInit
import HandS.ExcField
import HandS.TryOnly
import HandS.Ends
import HandS.WordsExc
import HandS.EndBits
import PyProof.ListStr
import PyProof.DictCompW
import HandS.Conv
import KE.KDictDisplayH
import KE.SortData
import KE.KDictSum
import PyProof.NeKinds
import HandS.TryMany
import KE.KMethU
import KE.KFmtOwn
import PyProof.InstEq
import HandS.FStr
import PySem.Challenge.RW_sharedlines_k10_programs_read
set_option Elab.async false
set_option linter.all false
set_option maxRecDepth 100000
set_option maxHeartbeats 4000000
namespace Ov

inductive W where
  | non | bl (b : Bool) | int (i : Int) | str (s : List Nat)
  | tup (xs : List W) | lst (xs : List W) | dct (ks vs : List W)
  | obj (c : Nat) (ns : List Nat) (vs : List W)
  | ref (n : Nat)
  | any
  | scr (xs : List W)
  deriving Inhabited

inductive Cell where
  | lst (xs : List W) | dct (ks vs : List W) | lck (ks vs : List W) | obj (c : Nat) (ns : List Nat) (vs : List W) | dead
  deriving Inhabited

abbrev Hw := List Cell
abbrev Sw := List (Option W)

inductive R (α : Type) where
  | ok (a : α) (h : Hw) | exn (c : Nat) (a : Option W) (h : Hw) | no

def R.bind {α β : Type} (r : R α) (f : α → Hw → R β) : R β :=
  match r with
  | .ok a h => f a h
  | .exn c a h => .exn c a h
  | .no => .no
def R.calm {α : Type} : R α → R α
  | .ok a h => .ok a h
  | _ => .no
def R.of {α : Type} (h : Hw) : Option α → R α
  | some a => .ok a h
  | none => .no

def b2i : Bool → Int
  | true => 1
  | false => 0
def seqNat : List Nat → List Nat → Bool
  | [], [] => true
  | a :: r, b :: t => Nat.beq a b && seqNat r t
  | _, _ => false

mutual
def W.keq : W → W → Bool
  | .non, .non => true
  | .bl a, .bl b => a == b
  | .bl a, .int j => decide (b2i a = j)
  | .int i, .bl b => decide (i = b2i b)
  | .int i, .int j => decide (i = j)
  | .str s, .str t => seqNat s t
  | .tup xs, .tup ys => W.keqs xs ys
  | _, _ => false
def W.keqs : List W → List W → Bool
  | [], [] => true
  | x :: xs, y :: ys => W.keq x y && W.keqs xs ys
  | _, _ => false
end
def dget (k : W) : List W → List W → Option W
  | j :: ks, v :: vs => if W.keq j k then some v else dget k ks vs
  | _, _ => none
mutual
def W.eq : W → W → Bool
  | .non, .non => true
  | .bl a, .bl b => a == b
  | .bl a, .int j => decide (b2i a = j)
  | .int i, .bl b => decide (i = b2i b)
  | .int i, .int j => decide (i = j)
  | .str s, .str t => seqNat s t
  | .tup xs, .tup ys => W.eqs xs ys
  | .lst xs, .lst ys => W.eqs xs ys
  | .dct ks vs, .dct js us => Nat.beq ks.length js.length && W.dle vs ks js us
  | _, _ => false
termination_by structural x => x
def W.eqs : List W → List W → Bool
  | [], [] => true
  | x :: xs, y :: ys => W.eq x y && W.eqs xs ys
  | _, _ => false
termination_by structural x => x
def W.dle : List W → List W → List W → List W → Bool
  | v :: vs, k :: ks, js, us => (match dget k js us with
      | some u => W.eq v u
      | none => false) && W.dle vs ks js us
  | _, _, _, _ => true
termination_by structural x => x
end

mutual
def W.plain : W → Bool
  | .obj .. => false
  | .ref _ => false
  | .any => false
  | .scr _ => false
  | .tup xs => W.plains xs
  | .lst xs => W.plains xs
  | .dct ks vs => W.plains ks && W.plains vs
  | _ => true
def W.plains : List W → Bool
  | [] => true
  | x :: xs => W.plain x && W.plains xs
def W.under (n : Nat) : W → Bool
  | .ref m => Nat.blt m n
  | .tup xs => W.unders n xs
  | .lst xs => W.unders n xs
  | .dct ks vs => W.unders n ks && W.unders n vs
  | .obj _ _ xs => W.unders n xs
  | .scr xs => W.unders n xs
  | _ => true
def W.unders (n : Nat) : List W → Bool
  | [] => true
  | x :: xs => W.under n x && W.unders n xs
def W.depth : W → Nat
  | .tup xs => W.depths xs + 1
  | .lst xs => W.depths xs + 1
  | .dct ks vs => Nat.max (W.depths ks) (W.depths vs) + 1
  | .obj _ _ xs => W.depths xs + 1
  | _ => 0
def W.depths : List W → Nat
  | [] => 0
  | x :: xs => Nat.max (W.depth x) (W.depths xs)
end
def Cell.under (n : Nat) : Cell → Bool
  | .lst xs => W.unders n xs
  | .dct ks vs => W.unders n ks && W.unders n vs
  | .lck ks vs => W.unders n ks && W.unders n vs
  | .obj _ _ xs => W.unders n xs
  | .dead => true
def look (h : Hw) : W → W
  | .ref n => match h[n]? with
    | some (.lst xs) => .lst xs
    | some (.dct ks vs) => .dct ks vs
    | some (.lck ks vs) => .dct ks vs
    | some (.obj c ns vs) => .obj c ns vs
    | _ => .ref n
  | w => w
def lookS (h : Hw) : W → W
  | .ref n => match h[n]? with
    | some (.lst xs) => .lst xs
    | some (.lck ks vs) => .dct ks vs
    | _ => .ref n
  | w => w
def deep (h : Hw) : Nat → W → W
  | 0, w => w
  | d + 1, w => match look h w with
    | .tup xs => .tup (xs.map (deep h d))
    | .lst xs => .lst (xs.map (deep h d))
    | .dct ks vs => .dct ks (vs.map (deep h d))
    | .obj c ns xs => .obj c ns (xs.map (deep h d))
    | w => w
def whole (h : Hw) (w : W) : W := if W.under 0 w then w else deep h 12 w

inductive BOp where | add | sub | mul | fdiv | mod | pow
inductive COp where | eq | ne | lt | le | gt | ge | isin | notin
inductive IK where | seq | enum | zip | range | range2 | items | values | range3
inductive Ty where
  | int | bool | str | tuple | list | dict
def bits (i : Int) : Nat := i.natAbs.log2
def most : Nat := 16000000

def binop (o : BOp) (a b : W) : Option W :=
  match o, a, b with
  | .add, .int i, .int j => some (.int (i + j))
  | .sub, .int i, .int j => some (.int (i - j))
  | .mul, .int i, .int j => if Nat.blt (bits i) 63 || Nat.blt (bits j) 63 || Nat.blt (bits i + bits j) 1000000 then some (.int (i * j)) else none
  | .fdiv, .int i, .int j => if decide (0 < j) && Nat.blt (bits j) 9000 then some (.int (i / j)) else none
  | .mod, .int i, .int j => if decide (0 < j) then some (.int (i % j)) else none
  | .pow, .int i, .int j => if decide (0 ≤ j) && decide (j < 100) && Nat.blt (bits i) 60 then some (.int (i ^ j.toNat)) else none
  | .add, .str s, .str t => if Nat.blt (s.length + t.length) most then some (.str (s ++ t)) else none
  | .mul, .str s, .int j => if decide (0 ≤ j) && decide (j < 100000) && Nat.blt s.length 100 then some (.str (List.replicate j.toNat s).flatten) else none
  | .add, .lst s, .lst t => if Nat.blt (s.length + t.length) most then some (.lst (s ++ t)) else none
  | .add, .tup s, .tup t => if Nat.blt (s.length + t.length) most then some (.tup (s ++ t)) else none
  | _, _, _ => none

def isPre : List Nat → List Nat → Bool
  | [], _ => true
  | _ :: _, [] => false
  | a :: r, b :: t => Nat.beq a b && isPre r t
def isSub (s : List Nat) : List Nat → Bool
  | [] => isPre s []
  | b :: t => isPre s (b :: t) || isSub s t

def dset (k v : W) : List W → List W → List W × List W
  | j :: ks, u :: us => if W.keq j k then (j :: ks, v :: us) else let (a, b) := dset k v ks us; (j :: a, u :: b)
  | _, _ => ([k], [v])
def ddel (k : W) : List W → List W → List W × List W
  | j :: ks, u :: us => if W.keq j k then (ks, us) else let (a, b) := ddel k ks us; (j :: a, u :: b)
  | _, _ => ([], [])
def W.kflat : W → Bool
  | .int _ => true
  | .str _ => true
  | _ => false
def W.kin : Nat → W → Bool
  | 0, _ => false
  | d + 1, w => match w with
    | .non => true
    | .bl _ => true
    | .int _ => true
    | .str _ => true
    | .tup xs => xs.all (W.kin d)
    | _ => false
def W.key : W → Bool
  | .tup xs => xs.all (W.kin 7)
  | w => W.kflat w
def W.isTup : W → Bool
  | .tup _ => true
  | _ => false
def kfit (k : W) : List W → Bool
  | [] => W.key k
  | j :: _ => W.key k && (W.isTup k == W.isTup j)
def ltNat : List Nat → List Nat → Bool
  | [], [] => false
  | [], _ :: _ => true
  | _ :: _, [] => false
  | a :: r, b :: t => Nat.blt a b || (Nat.beq a b && ltNat r t)
mutual
def W.alike : W → W → Bool
  | .non, .non => true
  | .bl _, .bl _ => true
  | .int _, .int _ => true
  | .str _, .str _ => true
  | .tup xs, .tup ys => W.alikes xs ys
  | .lst xs, .lst ys => W.alikes xs ys
  | _, _ => false
def W.alikes : List W → List W → Bool
  | x :: xs, y :: ys => W.alike x y && W.alikes xs ys
  | _, _ => true
def W.lt : W → W → Bool
  | .int i, .int j => decide (i < j)
  | .bl i, .bl j => !i && j
  | .str s, .str t => ltNat s t
  | .tup xs, .tup ys => W.lts xs ys
  | .lst xs, .lst ys => W.lts xs ys
  | _, _ => false
def W.lts : List W → List W → Bool
  | [], [] => false
  | [], _ :: _ => true
  | _ :: _, [] => false
  | x :: xs, y :: ys => if W.eq x y then W.lts xs ys else W.lt x y
end
def allAlike : List W → Bool
  | [] => true
  | x :: xs => xs.all (W.alike x) && allAlike xs
def insBy (le : α → α → Bool) (x : α) : List α → List α
  | [] => [x]
  | y :: r => if le x y then x :: y :: r else y :: insBy le x r
def sortBy (le : α → α → Bool) : List α → List α
  | [] => []
  | x :: r => insBy le x (sortBy le r)
def sortW (xs : List W) : List W := sortBy (fun x y => !W.lt y x) xs

def W.lay : Nat → W → Bool
  | 0, _ => false
  | d + 1, w => match w with
    | .non => true
    | .bl _ => true
    | .int _ => true
    | .str s => s.all fun c => Nat.blt c 1114112
    | .tup xs => xs.all (W.lay d)
    | .lst xs => xs.all (W.lay d)
    | _ => false
def W.flat : W → Bool
  | .non => true
  | .bl _ => true
  | .int _ => true
  | .str _ => true
  | _ => false
def eqOk (a b : W) : Bool := (W.flat a && W.flat b) || (W.lay 40 a && W.lay 40 b)
def inOk (a : W) (xs : List W) : Bool := (W.flat a && xs.all W.flat) || (W.lay 39 a && xs.all (W.lay 39))
def eqD (ks vs js us : List W) : Bool := ((ks.all W.kflat && js.all W.kflat) || (ks.all W.isTup && js.all W.isTup)) && (!Nat.beq ks.length js.length || (vs.all (W.lay 39) && us.all (W.lay 39)))
def cmpop (o : COp) (a b : W) : Option W :=
  match o with
  | .eq => if eqOk a b then some (.bl (W.eq a b)) else none
  | .ne => if eqOk a b then some (.bl (!W.eq a b)) else none
  | .lt => match a, b with
    | .int i, .int j => some (.bl (decide (i < j)))
    | _, _ => none
  | .le => match a, b with
    | .int i, .int j => some (.bl (decide (i ≤ j)))
    | _, _ => none
  | .gt => match a, b with
    | .int i, .int j => some (.bl (decide (j < i)))
    | _, _ => none
  | .ge => match a, b with
    | .int i, .int j => some (.bl (decide (j ≤ i)))
    | _, _ => none
  | .isin => match b with
    | .str t => match a with
      | .str [c] => some (.bl (t.any (Nat.beq c)))
      | _ => none
    | .lst xs => if inOk a xs then some (.bl (xs.any fun y => W.eq y a)) else none
    | .tup xs => if inOk a xs then some (.bl (xs.any fun y => W.eq y a)) else none
    | _ => none
  | .notin => match b with
    | .str t => match a with
      | .str [c] => some (.bl (!t.any (Nat.beq c)))
      | _ => none
    | .lst xs => if inOk a xs then some (.bl (!xs.any fun y => W.eq y a)) else none
    | .tup xs => if inOk a xs then some (.bl (!xs.any fun y => W.eq y a)) else none
    | _ => none

def natText (n : Nat) : List Nat := (Nat.toDigits 10 n).map Char.toNat
def intText (i : Int) : List Nat := match i with
  | .ofNat n => natText n
  | .negSucc n => 45 :: natText (n + 1)
def isDigit (c : Nat) : Bool := Nat.ble 48 c && Nat.ble c 57
def readGo : Nat → List Nat → Option Nat
  | acc, [] => some acc
  | acc, c :: r => if isDigit c then readGo (acc * 10 + (c - 48)) r else none
def readNat (s : List Nat) : Option Nat := if s.isEmpty then none else readGo 0 s
def plainSign (c : Nat) : Bool := Nat.ble 32 c && Nat.ble c 126 && !Nat.beq c 39 && !Nat.beq c 92
def reprStr (s : List Nat) : Option (List Nat) := if s.all plainSign then some (39 :: s ++ [39]) else none
def commaJoin : List (List Nat) → List Nat
  | [] => []
  | [x] => x
  | x :: r => x ++ 44 :: 32 :: commaJoin r
mutual
def W.repr : W → Option (List Nat)
  | .non => some [78, 111, 110, 101]
  | .bl true => some [84, 114, 117, 101]
  | .bl false => some [70, 97, 108, 115, 101]
  | .int i => if Nat.blt (bits i) 1900 then some (intText i) else none
  | .str s => reprStr s
  | .tup [] => some [40, 41]
  | .tup [x] => (W.repr x).map fun t => 40 :: t ++ [44, 41]
  | .tup (x :: y :: r) => match W.repr x, W.reprs (y :: r) with
    | some t, some ts => some (40 :: commaJoin (t :: ts) ++ [41])
    | _, _ => none
  | .lst xs => (W.reprs xs).map fun ts => 91 :: commaJoin ts ++ [93]
  | _ => none
def W.reprs : List W → Option (List (List Nat))
  | [] => some []
  | x :: r => match W.repr x, W.reprs r with
    | some t, some ts => some (t :: ts)
    | _, _ => none
end
def splitGo (c : Nat) : List Nat → List Nat × List (List Nat)
  | [] => ([], [])
  | a :: r => let (x, xs) := splitGo c r
    if Nat.beq a c then ([], x :: xs) else (a :: x, xs)
def splitBy (c : Nat) (s : List Nat) : List (List Nat) := let (x, xs) := splitGo c s; x :: xs
def joinBy (sep : List Nat) : List (List Nat) → List Nat
  | [] => []
  | [x] => x
  | x :: r => x ++ sep ++ joinBy sep r
def strsOf : List W → Option (List (List Nat))
  | [] => some []
  | .str s :: r => (strsOf r).map (s :: ·)
  | _ :: _ => none
def intsOf : List W → Option (List Int)
  | [] => some []
  | .int i :: r => (intsOf r).map (i :: ·)
  | _ :: _ => none
def blsOf : List W → Option (List Bool)
  | [] => some []
  | .bl b :: r => (blsOf r).map (b :: ·)
  | _ :: _ => none

def place (i : Int) (n : Nat) : Option Nat :=
  if 0 ≤ i then (if i.toNat < n then some i.toNat else none)
  else if -(n : Int) ≤ i then some (i + n).toNat else none
def clip (i : Int) (n : Nat) : Nat := if i < 0 then (i + n).toNat else Nat.min i.toNat n
def slice {α : Type} (xs : List α) (lo hi : Option Int) : List α :=
  let a := match lo with | some i => clip i xs.length | none => 0
  let b := match hi with | some i => clip i xs.length | none => xs.length
  (xs.take b).drop a
def sliceW (o : W) (l u : Option Int) : Option W :=
  match o with
  | .str s => if Nat.blt s.length most then some (.str (slice s l u)) else none
  | .lst s => some (.lst (slice s l u))
  | .scr s => some (.lst (slice s l u))
  | .tup s => some (.tup (slice s l u))
  | _ => none
def itemW (o i : W) : Option W :=
  match o, i with
  | .lst xs, .int i => (place i xs.length).bind fun n => xs[n]?
  | .tup xs, .int i => (place i xs.length).bind fun n => xs[n]?
  | .str s, .int i => if Nat.blt s.length most then (place i s.length).bind fun n => (s[n]?).map fun c => .str [c] else none
  | .dct ks vs, k => if kfit k ks then dget k ks vs else none
  | _, _ => none

def numFrom : Int → List W → List W
  | _, [] => []
  | i, x :: r => .tup [.int i, x] :: numFrom (i + 1) r
def zipW : List W → List W → List W
  | x :: xs, y :: ys => .tup [x, y] :: zipW xs ys
  | _, _ => []
def rangeGo (i : Int) : Nat → List W
  | 0 => []
  | n + 1 => .int i :: rangeGo (i + 1) n
def rangeDn (i : Int) : Nat → List W
  | 0 => []
  | n + 1 => .int i :: rangeDn (i - 1) n
def signs (s : List Nat) : List W := s.map fun c => .str [c]
def walked (k : IK) (ws : List W) : Option (List W) :=
  match k, ws with
  | .seq, [.lst xs] => some xs
  | .seq, [.tup xs] => some xs
  | .seq, [.str s] => some (signs s)
  | .seq, [.dct ks _] => some ks
  | .items, [.dct ks vs] => some (zipW ks vs)
  | .values, [.dct _ vs] => some vs
  | .enum, [.lst xs] => some (numFrom 0 xs)
  | .enum, [.tup xs] => some (numFrom 0 xs)
  | .zip, [.lst xs, .lst ys] => some (zipW xs ys)
  | .zip, [.tup xs, .tup ys] => some (zipW xs ys)
  | .range, [.int n] => if decide (-1000000 < n) && decide (n < 1000000) then some (rangeGo 0 n.toNat) else none
  | .range2, [.int m, .int n] => if decide (-1000000 < m) && decide (m < 1000000) && decide (-1000000 < n) && decide (n < 1000000) then some (rangeGo m (n - m).toNat) else none
  | .range3, [.int m, .int n, .int c] => if decide (c = -1) && decide (-1000000 < m) && decide (m < 1000000) && decide (-1000000 < n) && decide (n < 1000000) then some (rangeDn m (m - n).toNat) else none
  | _, _ => none
def greatest : List Int → Option Int
  | [] => none
  | x :: r => some (r.foldl max x)
def smallest : List Int → Option Int
  | [] => none
  | x :: r => some (r.foldl min x)
def dictOf : List W → List W → List W → Option (List W × List W)
  | [], ks, vs => some (ks, vs)
  | .tup [k, v] :: r, ks, vs => if kfit k ks then dictOf r (dset k v ks vs).1 (dset k v ks vs).2 else none
  | _ :: _, _, _ => none
def newCell (h : Hw) (c : Cell) : R W := .ok (.ref h.length) (h ++ [c])
def made (m : Bool) (h : Hw) (w : W) : R W :=
  if m then (match w with
    | .lst xs => newCell h (.lst xs)
    | .dct ks vs => newCell h (.dct ks vs)
    | _ => .no) else .ok w h
def setCell (h : Hw) (n : Nat) (c : Cell) : R W :=
  match h[n]? with
  | some .dead => .no
  | some _ => .ok .non (h.set n c)
  | none => .no
def trim (n : Nat) (w : W) (h : Hw) : Hw :=
  if W.under n w && (h.take n).all (Cell.under n) then h.take n else h
def trimR (n : Nat) : R W → R W
  | .ok w h => .ok w (trim n w h)
  | .exn c a h => .exn c a (trim n (a.getD .non) h)
  | .no => .no

def attrOf : W → Nat → Option W
  | .obj _ ns vs, nm => ((ns.zip vs).lookup nm)
  | _, _ => none
def putAttr (nm : Nat) (v : W) : List Nat → List W → List Nat × List W
  | n :: ns, x :: xs => if Nat.beq n nm then (n :: ns, v :: xs) else let (a, b) := putAttr nm v ns xs; (n :: a, x :: b)
  | _, _ => ([nm], [v])

mutual
def W.same : W → W → Bool
  | .non, .non => true
  | .bl a, .bl b => a == b
  | .int i, .int j => decide (i = j)
  | .str s, .str t => seqNat s t
  | .tup xs, .tup ys => W.sames xs ys
  | .lst xs, .lst ys => W.sames xs ys
  | .dct ks vs, .dct js us => W.sames ks js && W.sames vs us
  | .obj c ns xs, .obj d ms ys => Nat.beq c d && seqNat ns ms && W.sames xs ys
  | .ref n, .ref m => Nat.beq n m
  | _, _ => false
def W.sames : List W → List W → Bool
  | [], [] => true
  | x :: xs, y :: ys => W.same x y && W.sames xs ys
  | _, _ => false
end
def Cell.same : Cell → Cell → Bool
  | .lst xs, .lst ys => W.sames xs ys
  | .dct ks vs, .dct js us => W.sames ks js && W.sames vs us
  | .lck ks vs, .lck js us => W.sames ks js && W.sames vs us
  | .obj c ns xs, .obj d ms ys => Nat.beq c d && seqNat ns ms && W.sames xs ys
  | _, _ => false
def stands (h0 h : Hw) : List W → Bool
  | [] => true
  | .ref n :: ws => (match h0[n]?, h[n]? with
    | some a, some b => Cell.same a b
    | _, _ => false) && stands h0 h ws
  | _ :: ws => stands h0 h ws
def compGo (chk : Hw → Bool) (f : W → Hw → R (Option W)) : List W → Hw → R (List W)
  | [], h => match chk h with
    | true => .ok [] h
    | false => .no
  | x :: xs, h => match chk h with
    | true => (f x h).bind fun o h1 => (compGo chk f xs h1).bind fun ys h2 => .ok (match o with | some y => y :: ys | none => ys) h2
    | false => .no
def concatGo (chk : Hw → Bool) (f : W → Hw → R (List W)) : List W → Hw → R (List W)
  | [], h => match chk h with
    | true => .ok [] h
    | false => .no
  | x :: xs, h => match chk h with
    | true => (f x h).bind fun ys h1 => (concatGo chk f xs h1).bind fun zs h2 => .ok (ys ++ zs) h2
    | false => .no
def truth : W → Option Bool
  | .bl b => some b
  | _ => none
def wipeW (σ : Sw) : List Nat → Sw
  | [] => σ
  | v :: vs => (wipeW σ vs).set v none

abbrev Gf := List W → Hw → R W
def isTy : Ty → W → Bool
  | .int, .int _ => true
  | .int, .bl _ => true
  | .bool, .bl _ => true
  | .str, .str _ => true
  | .tuple, .tup _ => true
  | .list, .lst _ => true
  | .dict, .dct _ _ => true
  | _, _ => false
def gIsTy (t : Ty) : Gf := fun ws h => match ws with
  | [w] => match look h w with
    | .ref _ => .no
    | .obj _ _ _ => .no
    | .any => .no
    | .scr _ => .no
    | u => .ok (.bl (isTy t u)) h
  | _ => .no
def gLen : Gf := fun ws h => match ws with
  | [w] => match look h w with
    | .str s => if Nat.blt s.length most then .ok (.int s.length) h else .no
    | .lst xs => .ok (.int xs.length) h
    | .tup xs => .ok (.int xs.length) h
    | .scr xs => .ok (.int xs.length) h
    | .dct ks _ => .ok (.int ks.length) h
    | _ => .no
  | _ => .no
def gStr : Gf := fun ws h => match ws with
  | [.int i] => if Nat.blt (bits i) 1900 then .ok (.str (intText i)) h else .no
  | _ => .no
def gInt : Gf := fun ws h => match ws with
  | [.int i] => .ok (.int i) h
  | [.bl b] => .ok (.int (b2i b)) h
  | [.str s] => if Nat.ble s.length 600 then (match readNat s with
    | some n => .ok (.int n) h
    | none => .no) else .no
  | _ => .no
def gRepr : Gf := fun ws h => match ws with
  | [w] => match W.repr (whole h w) with
    | some t => if W.lay 40 (whole h w) && Nat.blt t.length most then .ok (.str t) h else .no
    | none => .no
  | _ => .no
def gAbs : Gf := fun ws h => match ws with
  | [.int i] => .ok (.int (if i < 0 then -i else i)) h
  | _ => .no
def gMax2 : Gf := fun ws h => match ws with
  | [.int i, .int j] => .ok (.int (if j > i then j else i)) h
  | _ => .no
def gMin2 : Gf := fun ws h => match ws with
  | [.int i, .int j] => .ok (.int (if j < i then j else i)) h
  | _ => .no
def gAll : Gf := fun ws h => match ws with
  | [w] => match look h w with
    | .lst xs => match blsOf xs with
      | some bs => .ok (.bl (bs.all id)) h
      | none => .no
    | _ => .no
  | _ => .no
def gAny : Gf := fun ws h => match ws with
  | [w] => match look h w with
    | .lst xs => match blsOf xs with
      | some bs => .ok (.bl (bs.any id)) h
      | none => .no
    | _ => .no
  | _ => .no
def gList (m : Bool) : Gf := fun ws h => match ws with
  | [w] => match look h w with
    | .lst xs => made m h (.lst xs)
    | .tup xs => made m h (.lst xs)
    | _ => .no
  | _ => .no
def gTuple : Gf := fun ws h => match ws with
  | [w] => match look h w with
    | .lst xs => .ok (.tup xs) h
    | .tup xs => .ok (.tup xs) h
    | _ => .no
  | _ => .no
inductive Kd where
  | str | list | dict
def isKd : Kd → W → Bool
  | .str, .str _ => true
  | .list, .lst _ => true
  | .dict, .dct _ _ => true
  | _, _ => false
abbrev Gm := W → List W → Hw → R W
def mAppend : Gm := fun o ws h => match o, ws with
  | .ref n, [w] => match h[n]? with
    | some (.lst xs) => if Nat.blt xs.length most then .ok .non (h.set n (.lst (xs ++ [w]))) else .no
    | _ => .no
  | _, _ => .no
def mSplit (m : Bool) : Gm := fun o ws h => match o, ws with
  | .str s, [.str [c]] => if Nat.blt s.length most then made m h (.lst ((splitBy c s).map .str)) else .no
  | _, _ => .no
def mJoin : Gm := fun o ws h => match o, ws with
  | .str s, [w] => match look h w with
    | .lst xs => match strsOf xs with
      | some ss => if Nat.blt ((ss.map (·.length)).sum + ss.length * s.length) most then .ok (.str (joinBy s ss)) h else .no
      | none => .no
    | _ => .no
  | _, _ => .no

def pairUp : List W → List W → List W → Option (List W × List W)
  | [], ks, vs => some (ks, vs)
  | k :: v :: r, ks, vs => if kfit k ks then pairUp r (dset k v ks vs).1 (dset k v ks vs).2 else none
  | _, _, _ => none
abbrev CL := Nat → List W → Hw → R W
inductive Fl where
  | nx (σ : Sw) | ret (w : W) | brk (σ : Sw)
def mapFz (f : W → Hw → Option (W × Hw)) : List W → Hw → Option (List W × Hw)
  | [], h => some ([], h)
  | w :: ws, h => match f w h with
    | some p => (match mapFz f ws p.2 with
      | some q => some (p.1 :: q.1, q.2)
      | none => none)
    | none => none
def fzV : Nat → W → Hw → Option (W × Hw)
  | 0, _, _ => none
  | d + 1, w, h => match w with
    | .ref n => (match h[n]? with
      | some (.lst xs) => (mapFz (fzV d) xs (h.set n .dead)).map fun p => (.lst p.1, p.2)
      | some (.dct ks vs) => (mapFz (fzV d) vs (h.set n .dead)).map fun p => (.dct ks p.1, p.2)
      | some (.obj c ns vs) => (mapFz (fzV d) vs (h.set n .dead)).map fun p => (.obj c ns p.1, p.2)
      | _ => none)
    | .tup xs => if W.unders 0 xs then some (.tup xs, h) else (mapFz (fzV d) xs h).map fun p => (.tup p.1, p.2)
    | .lst xs => if W.unders 0 xs then some (.lst xs, h) else (mapFz (fzV d) xs h).map fun p => (.lst p.1, p.2)
    | .dct ks vs => if W.unders 0 vs then some (.dct ks vs, h) else (mapFz (fzV d) vs h).map fun p => (.dct ks p.1, p.2)
    | .obj c ns vs => if W.unders 0 vs then some (.obj c ns vs, h) else (mapFz (fzV d) vs h).map fun p => (.obj c ns p.1, p.2)
    | w => some (w, h)
def freeze (h : Hw) (w : W) : R W := match fzV 9 w h with
  | some p => .ok p.1 p.2
  | none => .no
section
variable (cl : CL)
def newObj (c f : Nat) (fz : Bool) (ws : List W) (h : Hw) : R W :=
  match cl f (.ref h.length :: ws) (h ++ [.obj c [] []]) with
  | .ok .non h1 => if fz then (freeze h1 (.ref h.length)).bind fun w h2 => .ok w (trim h.length w h2) else .ok (.ref h.length) h1
  | .exn c a h1 => .exn c a (trim h.length (a.getD .non) h1)
  | _ => .no
def cmpW (o : COp) (a b : W) (h : Hw) : R W :=
  match o, look h b with
  | .isin, .dct ks vs => if kfit a ks then .ok (.bl (dget a ks vs).isSome) h else .no
  | .notin, .dct ks vs => if kfit a ks then .ok (.bl (!(dget a ks vs).isSome)) h else .no
  | .eq, .dct js us => (match look h a with
    | .dct ks vs => if eqD ks vs js us then .ok (.bl (W.eq (.dct ks vs) (.dct js us))) h else .no
    | _ => .no)
  | .ne, .dct js us => (match look h a with
    | .dct ks vs => if eqD ks vs js us then .ok (.bl (!W.eq (.dct ks vs) (.dct js us))) h else .no
    | _ => .no)
  | _, _ => R.of h (cmpop o (whole h a) (whole h b))
def setAttr (cs : List Nat) (o : W) (nm : Nat) (v : W) (h : Hw) : R W :=
  match o with
  | .ref n => match h[n]? with
    | some (.obj c ns vs) => if cs.any (Nat.beq c) && Nat.blt ns.length 1000 then .ok .non (h.set n (.obj c (putAttr nm v ns vs).1 (putAttr nm v ns vs).2)) else .no
    | _ => .no
  | _ => .no
def setItem (o i v : W) (h : Hw) : R W :=
  match o with
  | .ref n => match h[n]?, i with
    | some (.lst xs), .int i => match place i xs.length with
      | some k => .ok .non (h.set n (.lst (xs.set k v)))
      | none => .no
    | some (.dct ks vs), k => if kfit k ks && Nat.blt ks.length most then .ok .non (h.set n (.dct (dset k v ks vs).1 (dset k v ks vs).2)) else .no
    | _, _ => .no
  | _ => .no
end

abbrev Ex := CL → Sw → Hw → R W
abbrev Exs := CL → Sw → Hw → R (List W)
abbrev Exo := CL → Sw → Hw → R (Option Int)
abbrev Exb := CL → Sw → Hw → R Bool
abbrev Tx := CL → W → Sw → Hw → R Sw
abbrev Txs := CL → List W → Sw → Hw → R Sw

def xVar (i : Nat) : Ex := fun _ σ h => match σ[i]? with
  | some (some w) => .ok w h
  | _ => .no
def xCon (w : W) : Ex := fun _ _ h => .ok w h
def xBin (o : BOp) (a b : Ex) : Ex := fun cl σ h => (a cl σ h).bind fun x h1 => (b cl σ h1).bind fun y h2 => .of h2 (binop o (look h2 x) (look h2 y))
def xNeg (a : Ex) : Ex := fun cl σ h => (a cl σ h).bind fun x h1 => match x with
  | .int i => .ok (.int (-i)) h1
  | _ => .no
def xNot (a : Ex) : Ex := fun cl σ h => (a cl σ h).bind fun x h1 => match x with
  | .bl b => .ok (.bl (!b)) h1
  | _ => .no
def xAnd (a b : Ex) : Ex := fun cl σ h => (a cl σ h).bind fun x h1 => match x with
  | .bl true => b cl σ h1
  | .bl false => .ok (.bl false) h1
  | _ => .no
def xOr (a b : Ex) : Ex := fun cl σ h => (a cl σ h).bind fun x h1 => match x with
  | .bl false => b cl σ h1
  | .bl true => .ok (.bl true) h1
  | _ => .no
def xIte (c a b : Ex) : Ex := fun cl σ h => (c cl σ h).bind fun x h1 => match x with
  | .bl true => a cl σ h1
  | .bl false => b cl σ h1
  | _ => .no
def xCmp (o : COp) (a b : Ex) : Ex := fun cl σ h => (a cl σ h).bind fun x h1 => (b cl σ h1).bind fun y h2 => cmpW o x y h2
def xChain (o p : COp) (a b c : Ex) : Ex := fun cl σ h => (a cl σ h).bind fun x h1 => (b cl σ h1).bind fun y h2 => (cmpW o x y h2).bind fun r h3 => match r with
  | .bl true => (c cl σ h3).bind fun z h4 => cmpW p y z h4
  | .bl false => .ok (.bl false) h3
  | _ => .no
def isNon : W → Bool
  | .non => true
  | _ => false
def gIsN (yes : Bool) : W → Hw → R W := fun x h1 => match x with
  | .any => .no
  | x => .ok (.bl (if yes then isNon x else !isNon x)) h1
def xIsN (yes : Bool) (a : Ex) : Ex := fun cl σ h => (a cl σ h).bind (gIsN yes)
def xsNil : Exs := fun _ _ h => .ok [] h
def xsCons (a : Ex) (r : Exs) : Exs := fun cl σ h => (a cl σ h).bind fun w h1 => (r cl σ h1).bind fun ws h2 => .ok (w :: ws) h2
def xTup (es : Exs) : Ex := fun cl σ h => (es cl σ h).bind fun ws h1 => if Nat.blt ws.length most then .ok (.tup ws) h1 else .no
def xLst (m : Bool) (es : Exs) : Ex := fun cl σ h => (es cl σ h).bind fun ws h1 => if Nat.blt ws.length most then made m h1 (.lst ws) else .no
def xDct (m : Bool) (es : Exs) : Ex := fun cl σ h => (es cl σ h).bind fun ws h1 => match pairUp ws [] [] with
  | some kvs => made m h1 (.dct kvs.1 kvs.2)
  | none => .no
def ifNil : Exb := fun _ _ h => .ok true h
def ifCons (a : Ex) (r : Exb) : Exb := fun cl σ h => (a cl σ h).bind fun w h1 => match w with
  | .bl true => r cl σ h1
  | .bl false => .ok false h1
  | _ => .no
def src (k : IK) (its : Exs) : CL → Sw → Hw → R (List W × List W) := fun cl σ h => (its cl σ h).bind fun ws h1 => match walked k (ws.map (lookS h1)) with
  | some xs => (match Nat.blt xs.length most with
    | true => .ok (ws, xs) h1
    | false => .no)
  | none => .no
def turn (own : List Nat) (t : Tx) (ifs : Exb) (e : Ex) (cl : CL) (σ : Sw) : W → Hw → R (Option W) := fun x h =>
  (t cl x (wipeW σ own) h).calm.bind fun σ1 h1 => (ifs cl σ1 h1).calm.bind fun b h2 => if b then (e cl σ1 h2).calm.bind fun y h3 => .ok (some y) h3 else .ok none h2
def xComp (m : Bool) (own : List Nat) (t : Tx) (k : IK) (its : Exs) (ifs : Exb) (e : Ex) : Ex := fun cl σ h =>
  (src k its cl σ h).bind fun p h2 => (compGo (fun h' => stands h2 h' p.1) (turn own t ifs e cl σ) p.2 h2).bind fun ys h3 => made m h3 (.lst ys)
def xComp2 (m : Bool) (own : List Nat) (t : Tx) (k : IK) (its : Exs) (own2 : List Nat) (t2 : Tx) (k2 : IK) (its2 : Exs) (ifs : Exb) (e : Ex) : Ex := fun cl σ h =>
  (src k its cl σ h).bind fun p h2 => (concatGo (fun h' => stands h2 h' p.1) (fun x h => (t cl x (wipeW σ own) h).calm.bind fun σ1 h1 => (src k2 its2 cl σ1 h1).calm.bind fun q h3 =>
    compGo (fun h' => stands h3 h' q.1) (turn own2 t2 ifs e cl σ1) q.2 h3) p.2 h2).bind fun ys h3 => made m h3 (.lst ys)
def xPair (a b : Ex) : Ex := fun cl σ h => (a cl σ h).bind fun x h1 => (b cl σ h1).bind fun y h2 => .ok (.tup [x, y]) h2
def dcGo (chk : Hw → Bool) (f : W → Hw → R (Option (W × W))) : List W → List W → List W → Hw → R (List W × List W)
  | [], ks, vs, h => match chk h with
    | true => .ok (ks, vs) h
    | false => .no
  | x :: xs, ks, vs, h => match chk h with
    | true => (f x h).bind fun o h1 => (match o with
      | some kv => if kfit kv.1 ks && Nat.blt ks.length most then dcGo chk f xs (dset kv.1 kv.2 ks vs).1 (dset kv.1 kv.2 ks vs).2 h1 else .no
      | none => dcGo chk f xs ks vs h1)
    | false => .no
def turnD (own : List Nat) (t : Tx) (ifs : Exb) (e v : Ex) (cl : CL) (σ : Sw) : W → Hw → R (Option (W × W)) := fun x h =>
  (t cl x (wipeW σ own) h).calm.bind fun σ1 h1 => (ifs cl σ1 h1).calm.bind fun b h2 => if b then (e cl σ1 h2).calm.bind fun y h3 => (v cl σ1 h3).calm.bind fun z h4 => .ok (some (y, z)) h4 else .ok none h2
def xDcomp (m : Bool) (own : List Nat) (t : Tx) (k : IK) (its : Exs) (ifs : Exb) (e v : Ex) : Ex := fun cl σ h =>
  (src k its cl σ h).bind fun p h2 => (dcGo (fun h' => stands h2 h' p.1) (turnD own t ifs e v cl σ) p.2 [] [] h2).bind fun kv h3 => made m h3 (.dct kv.1 kv.2)
def xCall (f : Nat) (es : Exs) : Ex := fun cl σ h => (es cl σ h).bind fun ws h1 => cl f ws h1
def xNew (c f : Nat) (fz : Bool) (es : Exs) : Ex := fun cl σ h => (es cl σ h).bind fun ws h1 => newObj cl c f fz ws h1
def xUm (tab : List (Nat × Nat)) (nm : Nat) (o : Ex) (es : Exs) : Ex := fun cl σ h => (o cl σ h).bind fun x h1 => match look h1 x with
  | .obj c ns _ => if ns.any (Nat.beq nm) then .no else (match tab.lookup c with
    | some f => (es cl σ h1).bind fun ws h2 => cl f (x :: ws) h2
    | none => .no)
  | _ => .no
def xF (g : Gf) (es : Exs) : Ex := fun cl σ h => (es cl σ h).bind g
def xM (k : Kd) (g : Gm) (o : Ex) (es : Exs) : Ex := fun cl σ h => (o cl σ h).bind fun x h1 => if isKd k (look h1 x) then (es cl σ h1).bind fun ws h2 => g x ws h2 else .no
def xAttr (cs : List Nat) (nm : Nat) (o : Ex) : Ex := fun cl σ h => (o cl σ h).bind fun x h1 => match look h1 x with
  | .obj c ns vs => (match cs.any (Nat.beq c) with
    | true => .of h1 ((ns.zip vs).lookup nm)
    | false => .no)
  | _ => .no
def xIdx (o i : Ex) : Ex := fun cl σ h => (o cl σ h).bind fun x h1 => (i cl σ h1).bind fun y h2 => .of h2 (itemW (look h2 x) y)
def oNone : Exo := fun _ _ h => .ok none h
def oSome (a : Ex) : Exo := fun cl σ h => (a cl σ h).bind fun w h1 => match w with
  | .int i => .ok (some i) h1
  | _ => .no
def xSlc (m : Bool) (o : Ex) (lo hi : Exo) : Ex := fun cl σ h => (o cl σ h).bind fun x h1 => (lo cl σ h1).bind fun l h2 => (hi cl σ h2).bind fun u h3 => (R.of h3 (sliceW (look h3 x) l u)).bind fun w h4 => match w with
  | .lst xs => made m h4 (.lst xs)
  | w => .ok w h4
def xRev (o : Ex) : Ex := fun cl σ h => (o cl σ h).bind fun x h1 => match look h1 x with
  | .lst xs => .ok (.lst xs.reverse) h1
  | _ => .no
def xFrz (e : Ex) : Ex := fun cl σ h => (e cl σ h).bind fun x h1 => freeze h1 x
def tName (i : Nat) : Tx := fun _ w σ h => if Nat.blt i σ.length then .ok (σ.set i (some w)) h else .no
def tTup (n : Nat) (ts : Txs) : Tx := fun cl w σ h => match look h w with
  | .tup ws => (match Nat.beq ws.length n with
    | true => ts cl ws σ h
    | false => .no)
  | .lst ws => (match Nat.beq ws.length n with
    | true => ts cl ws σ h
    | false => .no)
  | _ => .no
def tsNil : Txs := fun _ ws σ h => match ws with
  | [] => .ok σ h
  | _ :: _ => .no
def tsCons (t : Tx) (ts : Txs) : Txs := fun cl ws σ h => match ws with
  | w :: r => (t cl w σ h).bind fun σ1 h1 => ts cl r σ1 h1
  | [] => .no
def tAttr (cs : List Nat) (nm : Nat) (o : Ex) : Tx := fun cl w σ h => (o cl σ h).bind fun x h1 => (setAttr cs x nm w h1).bind fun _ h2 => .ok σ h2
def tSub (o i : Ex) : Tx := fun cl w σ h => (o cl σ h).bind fun x h1 => (i cl σ h1).bind fun y h2 => (setItem x y w h2).bind fun _ h3 => .ok σ h3
def augW (o : BOp) (x y : W) (h : Hw) : R W :=
  match o, x with
  | .add, .ref n => match h[n]?, look h y with
    | some (.lst xs), .lst ys => if Nat.blt (xs.length + ys.length) most then .ok x (h.set n (.lst (xs ++ ys))) else .no
    | _, _ => .no
  | _, .lst _ => .no
  | _, .dct _ _ => .no
  | _, _ => .of h (binop o x y)
inductive RS where
  | ok (fl : Fl) (h : Hw) | exn (c : Nat) (a : Option W) (σ : Sw) (h : Hw) | no
def RS.bind (r : RS) (f : Fl → Hw → RS) : RS :=
  match r with
  | .ok fl h => f fl h
  | .exn c a σ h => .exn c a σ h
  | .no => .no
abbrev Sx := CL → Sw → Hw → RS
def R.st {α : Type} (r : R α) (σ : Sw) (f : α → Hw → RS) : RS :=
  match r with
  | .ok a h => f a h
  | .exn c a h => .exn c a σ h
  | .no => .no
def forGo (chk : Hw → Bool) (f : W → Sw → Hw → RS) : List W → Sw → Hw → RS
  | [], σ, h => match chk h with
    | true => .ok (.nx σ) h
    | false => .no
  | x :: xs, σ, h => match chk h with
    | true => (f x σ h).bind fun fl h1 => (match fl with
      | .nx σ1 => forGo chk f xs σ1 h1
      | .ret w => .ok (.ret w) h1
      | .brk σ1 => .ok (.nx σ1) h1)
    | false => .no
def whGo (c : Sw → Hw → R W) (f : Sw → Hw → RS) : Nat → Sw → Hw → RS
  | 0, _, _ => .no
  | n + 1, σ, h => (c σ h).st σ fun x h1 => match x with
    | .bl true => (f σ h1).bind fun fl h2 => match fl with
      | .nx σ1 => whGo c f n σ1 h2
      | .ret w => .ok (.ret w) h2
      | .brk σ1 => .ok (.nx σ1) h2
    | .bl false => .ok (.nx σ) h1
    | _ => .no
def wfuel : Nat := 100000000
def sAsg (t : Tx) (e : Ex) : Sx := fun cl σ h => (e cl σ h).st σ fun w h1 => (t cl w σ h1).calm.st σ fun σ1 h2 => .ok (.nx σ1) h2
def sAug (t : Tx) (o : BOp) (old e : Ex) : Sx := fun cl σ h => (old cl σ h).st σ fun x h1 => (e cl σ h1).st σ fun y h2 => (augW o x y h2).st σ fun z h3 => (t cl z σ h3).calm.st σ fun σ1 h4 => .ok (.nx σ1) h4
def sPar (i j : Nat) (es : Exs) : Sx := fun cl σ h => (es cl σ h).st σ fun ws h1 => match ws with
  | [v, w] => .ok (.nx ((σ.set i (some v)).set j (some w))) h1
  | _ => .no
def sPar3 (i j k : Nat) (es : Exs) : Sx := fun cl σ h => (es cl σ h).st σ fun ws h1 => match ws with
  | [u, v, w] => .ok (.nx (((σ.set i (some u)).set j (some v)).set k (some w))) h1
  | _ => .no
def sEx (e : Ex) : Sx := fun cl σ h => (e cl σ h).st σ fun _ h1 => .ok (.nx σ) h1
def sIf (c : Ex) (a b : Sx) : Sx := fun cl σ h => (c cl σ h).st σ fun x h1 => match x with
  | .bl true => a cl σ h1
  | .bl false => b cl σ h1
  | _ => .no
def sFor (t : Tx) (k : IK) (its : Exs) (b : Sx) : Sx := fun cl σ h => (src k its cl σ h).st σ fun p h2 =>
  forGo (fun h' => stands h2 h' p.1) (fun x σ h => (t cl x σ h).calm.st σ fun σ1 h3 => b cl σ1 h3) p.2 σ h2
def sWh (c : Ex) (b : Sx) : Sx := fun cl σ h => whGo (c cl) (b cl) wfuel σ h
def unlock (n : Nat) (ks vs : List W) : RS → RS
  | .ok fl h => match h[n]? with
    | some (.lck _ _) => .ok fl (h.set n (.dct ks vs))
    | _ => .no
  | _ => .no
def sLock (i : Nat) (s : Sx) : Sx := fun cl σ h => match σ[i]? with
  | some (some (.ref n)) => (match h[n]? with
    | some (.dct ks vs) => unlock n ks vs (s cl σ (h.set n (.lck ks vs)))
    | _ => s cl σ h)
  | _ => s cl σ h
def unlockE (n : Nat) (ks vs : List W) : R W → R W
  | .ok w h => match h[n]? with
    | some (.lck _ _) => .ok w (h.set n (.dct ks vs))
    | _ => .no
  | _ => .no
def xLock (i : Nat) (e : Ex) : Ex := fun cl σ h => match σ[i]? with
  | some (some (.ref n)) => (match h[n]? with
    | some (.dct ks vs) => unlockE n ks vs (e cl σ (h.set n (.lck ks vs)))
    | _ => e cl σ h)
  | _ => e cl σ h
def sRet (e : Ex) : Sx := fun cl σ h => (e cl σ h).st σ fun w h1 => .ok (.ret w) h1
def sRetn : Sx := fun _ _ h => .ok (.ret .non) h
def sRai0 (c : Nat) : Sx := fun _ σ h => .exn c none σ h
def sRai (c : Nat) (e : Ex) : Sx := fun cl σ h => (e cl σ h).st σ fun w h1 => .exn c (some w) σ h1
def sPass : Sx := fun _ σ h => .ok (.nx σ) h
def sBrk : Sx := fun _ σ h => .ok (.brk σ) h
def sSeq (a b : Sx) : Sx := fun cl σ h => (a cl σ h).bind fun fl h1 => match fl with
  | .nx σ1 => b cl σ1 h1
  | fl => .ok fl h1
def sTryAs (tab : List (Nat × Bool)) (i : Nat) (suite : Option W → Sx) (b : Sx) : Sx := fun cl σ h => match b cl σ h with
  | .exn c a σ1 h1 => (match tab.lookup c with
    | some true => if Nat.blt i σ1.length then (match suite a cl (σ1.set i none) h1 with
      | .ok (.nx σ2) h2 => .ok (.nx (σ2.set i none)) h2
      | .ok (.brk σ2) h2 => .ok (.brk (σ2.set i none)) h2
      | .ok (.ret w) h2 => .ok (.ret w) h2
      | _ => .no) else .no
    | some false => .exn c a σ1 h1
    | none => .no)
  | r => r
def sTry1 (tab : List (Nat × Bool)) (suite : Sx) (b : Sx) : Sx := fun cl σ h => match b cl σ h with
  | .exn c a σ1 h1 => (match tab.lookup c with
    | some true => (match suite cl σ1 h1 with
      | .ok fl h2 => .ok fl h2
      | _ => .no)
    | some false => .exn c a σ1 h1
    | none => .no)
  | r => r
def xExc (o : Option W) : Ex := fun _ _ h => match o with
  | some w => .ok w h
  | none => .no
def RS.back : RS → R W
  | .ok (.ret w) h => .ok w h
  | .ok (.nx _) h => .ok .non h
  | .ok (.brk _) _ => .no
  | .exn c a _ h => .exn c a h
  | .no => .no
def enter (nl : Nat) (ws : List W) : Sw := ws.map some ++ List.replicate (nl - ws.length) none
structure Fn where
  np : Nat
  nl : Nat
  pure : Bool
  body : Sx
def runPure (r : R W) (h : Hw) : R W :=
  match r with
  | .ok w _ => if W.under 0 w then .ok w h else .no
  | .exn c a _ => if W.under 0 (a.getD .non) then .exn c a h else .no
  | .no => .no
def runF (f : Fn) (cl : CL) (ws : List W) (h : Hw) : R W :=
  if Nat.beq ws.length f.np then
    if f.pure then
      if W.unders 0 ws then runPure (f.body cl (enter f.nl ws) []).back h else .no
    else trimR h.length (f.body cl (enter f.nl ws) h).back
  else .no
def callF (fns : List Fn) : Nat → CL
  | 0, _, _, _ => .no
  | k + 1, f, ws, h => match fns[f]? with
    | some fn => runF fn (callF fns k) ws h
    | none => .no
end Ov
namespace Ov
open PySem PySem.Spec PyProof.Rows L2

structure Cf where
  K : PySem.W.Frag
  w : World
  nm : Nat → Str
  ca : Nat → Addr
  xf : Nat → Str
structure Gh where
  ι : List Addr
  F : Hp
  P : Addr → Prop
  L : Addr → Option Obj

abbrev strV (s : List Nat) : V := .str ⟨s.toArray⟩
mutual
def keyN : W → NestedKey
  | .bl b => .num (b2i b)
  | .int i => .num i
  | .str s => .text ⟨s.toArray⟩
  | .tup xs => .tup (keyNs xs)
  | _ => .none
def keyNs : List W → List NestedKey
  | [] => []
  | x :: r => keyN x :: keyNs r
end
abbrev pin (a : Addr) (o : Obj) : HO := .ext fun h => h.get? a = some o
inductive Ents (w : World) : List W → List V → List V → List DictEntry → Prop
  | nil : Ents w [] [] [] []
  | cons {k ks x xs y ys} {d : DictEntry} {ds} : RelV x d.key → RelV y d.val → d.hash = (keyN k).hash w → Ents w ks xs ys ds → Ents w (k :: ks) (x :: xs) (y :: ys) (d :: ds)
structure KeysOk (ks : List W) : Prop where
  key : ∀ k ∈ ks, W.key k = true
  sort : (∀ k ∈ ks, W.isTup k = true) ∨ ∀ k ∈ ks, W.isTup k = false
  nd : (ks.map keyN).Nodup
  size : ks.length ≤ sizeLine
structure DO (w : World) (a : Addr) (o : Obj) (ks : List W) (xs ys : List V) : Prop where
  ex : o.ExactDict
  sys : (a == sysModules) = false
  data : ∃ es ep, o.data = .dict es ep ∧ Ents w ks xs ys es.toList
  ok : KeysOk ks
mutual
def RW (C : Cf) (γ : Gh) : W → V → Prop
  | .non, v => v = .non
  | .bl b, v => v = .bl b
  | .int i, v => v = .int i
  | .str s, v => v = strV s
  | .tup ws, v => ∃ a vs, v = .ref a ∧ Rd γ.F a (.tup vs) ∧ RWs C γ ws vs
  | .lst ws, v => ∃ a vs, v = .ref a ∧ Rd γ.F a (.lst vs) ∧ RWs C γ ws vs
  | .dct ks ws, v => ∃ a o xs ys, v = .ref a ∧ γ.F a = some (pin a o) ∧ DO C.w a o ks xs ys ∧ RWs C γ ks xs ∧ RWs C γ ws ys
  | .obj c ns ws, v => ∃ a dx vs, v = .ref a ∧ γ.F a = some (.ins (C.ca c) dx ((ns.map C.nm).zip vs)) ∧ γ.F dx = some (.own a) ∧ ns.length = vs.length ∧ RWs C γ ws vs
  | .ref n, v => ∃ a, v = .ref a ∧ γ.ι[n]? = some a
  | .any, _ => True
  | .scr ws, v => ∃ a vs, v = .ref a ∧ SqL C.K γ.F a vs ∧ RWs C γ ws vs
def RWs (C : Cf) (γ : Gh) : List W → List V → Prop
  | [], vs => vs = []
  | w :: ws, vs => ∃ v r, vs = v :: r ∧ RW C γ w v ∧ RWs C γ ws r
end

def Fr (γ : Gh) (a : Addr) : Prop := γ.F a = none ∧ γ.L a = none
def CellIs (C : Cf) (γ : Gh) (H : Hp) (a : Addr) : Cell → Prop
  | .lst ws => Fr γ a ∧ ∃ vs, H a = some (.lst vs) ∧ RWs C γ ws vs
  | .dct ks ws => Fr γ a ∧ ∃ o xs ys, H a = some (pin a o) ∧ DO C.w a o ks xs ys ∧ RWs C γ ks xs ∧ RWs C γ ws ys
  | .lck ks ws => γ.F a = none ∧ ∃ o xs ys, γ.L a = some o ∧ H a = some (pin a o) ∧ DO C.w a o ks xs ys ∧ RWs C γ ks xs ∧ RWs C γ ws ys
  | .obj c ns ws => Fr γ a ∧ ∃ dx vs, γ.F dx = none ∧ H a = some (.ins (C.ca c) dx ((ns.map C.nm).zip vs)) ∧ H dx = some (.own a) ∧ ns.length = vs.length ∧ RWs C γ ws vs
  | .dead => True
structure HC (C : Cf) (γ : Gh) (h : Hw) (H : Hp) : Prop where
  len : h.length = γ.ι.length
  nd : γ.ι.Nodup
  cell : ∀ (n : Nat) (a : Addr) (c : Cell), γ.ι[n]? = some a → h[n]? = some c → CellIs C γ H a c
  there : ∀ a, a ∈ γ.ι → H a ≠ none
  frz : ∀ a o, γ.F a = some o → H a = some o
  prot : ∀ a, γ.P a → H a ≠ none ∧ γ.F a = none ∧ a ∉ γ.ι ∧ ∀ b, b ∈ γ.ι → H a ≠ some (.own b)
  own : ∀ d x, H d = some (.own x) → H x ≠ none
  lkd : ∀ a o, γ.L a = some o → H a = some (pin a o)
  prl : ∀ a, γ.P a → γ.L a = none
theorem upd_some {H : Hp} {p a : Addr} {o : HO} (h : H a ≠ none) : upd H p o a ≠ none := by
  by_cases z : a = p
  · subst z; rw [upd_same]; simp
  · rw [upd_ne z]; exact h

structure Ext (γ γ' : Gh) (H : Hp) : Prop where
  pre : ∃ l, γ'.ι = γ.ι ++ l ∧ ∀ a ∈ l, H a = none
  frz : ∀ a o, γ.F a = some o → γ'.F a = some o
  prot : γ'.P = γ.P
  lk : γ'.L = γ.L
structure Keep (γ : Gh) (H H' : Hp) : Prop where
  same : ∀ a o, H a = some o → (a ∈ γ.ι → γ.F a = some o ∨ γ.L a ≠ none) → H' a = some o
  there : ∀ a, H a ≠ none → H' a ≠ none

theorem Keep.refl (γ : Gh) (H : Hp) : Keep γ H H := ⟨fun _ _ h _ => h, fun _ h => h⟩
theorem Ext.refl (γ : Gh) (H : Hp) : Ext γ γ H := ⟨⟨[], by simp, fun _ h => nomatch h⟩, fun _ _ h => h, rfl, rfl⟩
theorem RdM {F F' : Hp} (k : ∀ a o, F a = some o → F' a = some o) {a : Addr} {u : HO} (h : Rd F a u) : Rd F' a u := by
  rcases h with h | ⟨o, h⟩
  · exact .inl (k _ _ h)
  · exact .inr ⟨o, k _ _ h⟩

theorem SqM {K : PySem.W.Frag} {F F' : Hp} (k : ∀ a o, F a = some o → F' a = some o) {a : Addr} {xs : List V} (h : SqL K F a xs) : SqL K F' a xs := by
  rcases h with h | h
  · exact .inl (RdM k h)
  · exact .inr h

section
variable {C : Cf} {γ γ' γ1 γ2 : Gh} {H H' H1 H2 : Hp}
mutual
theorem RW.mono (hi : ∀ (n : Nat) (a : Addr), γ.ι[n]? = some a → γ'.ι[n]? = some a) (hf : ∀ a o, γ.F a = some o → γ'.F a = some o) : ∀ (w : W) (v : V), RW C γ w v → RW C γ' w v
  | .non, _, h => h
  | .bl _, _, h => h
  | .int _, _, h => h
  | .str _, _, h => h
  | .tup ws, v, h => by
    obtain ⟨a, vs, e, s, r⟩ := h
    exact ⟨a, vs, e, RdM hf s, RWs.mono hi hf ws vs r⟩
  | .lst ws, v, h => by
    obtain ⟨a, vs, e, s, r⟩ := h
    exact ⟨a, vs, e, RdM hf s, RWs.mono hi hf ws vs r⟩
  | .dct ks ws, v, h => by
    obtain ⟨a, o, xs, ys, e, f, d, r1, r2⟩ := h
    exact ⟨a, o, xs, ys, e, hf _ _ f, d, RWs.mono hi hf ks xs r1, RWs.mono hi hf ws ys r2⟩
  | .obj c ns ws, v, h => by
    obtain ⟨a, dx, vs, e, f1, f2, l, r⟩ := h
    exact ⟨a, dx, vs, e, hf _ _ f1, hf _ _ f2, l, RWs.mono hi hf ws vs r⟩
  | .ref n, v, h => by
    obtain ⟨a, e, i⟩ := h
    exact ⟨a, e, hi _ _ i⟩
  | .any, _, _ => trivial
  | .scr ws, v, h => by
    obtain ⟨a, vs, e, s, r⟩ := h
    exact ⟨a, vs, e, SqM hf s, RWs.mono hi hf ws vs r⟩
theorem RWs.mono (hi : ∀ (n : Nat) (a : Addr), γ.ι[n]? = some a → γ'.ι[n]? = some a) (hf : ∀ a o, γ.F a = some o → γ'.F a = some o) : ∀ (ws : List W) (vs : List V), RWs C γ ws vs → RWs C γ' ws vs
  | [], _, h => h
  | w :: ws, vs, h => by
    obtain ⟨v, r, e, a, b⟩ := h
    exact ⟨v, r, e, RW.mono hi hf w v a, RWs.mono hi hf ws r b⟩
end
mutual
theorem RW.pure (hf : ∀ a o, γ.F a = some o → γ'.F a = some o) : ∀ (w : W) (v : V), w.under 0 = true → RW C γ w v → RW C γ' w v
  | .non, _, _, h => h
  | .bl _, _, _, h => h
  | .int _, _, _, h => h
  | .str _, _, _, h => h
  | .tup ws, v, u, h => by
    obtain ⟨a, vs, e, s, r⟩ := h
    exact ⟨a, vs, e, RdM hf s, RWs.pure hf ws vs u r⟩
  | .lst ws, v, u, h => by
    obtain ⟨a, vs, e, s, r⟩ := h
    exact ⟨a, vs, e, RdM hf s, RWs.pure hf ws vs u r⟩
  | .dct ks ws, v, u, h => by
    obtain ⟨a, o, xs, ys, e, f, d, r1, r2⟩ := h
    simp only [W.under, Bool.and_eq_true] at u
    exact ⟨a, o, xs, ys, e, hf _ _ f, d, RWs.pure hf ks xs u.1 r1, RWs.pure hf ws ys u.2 r2⟩
  | .obj c ns ws, v, u, h => by
    obtain ⟨a, dx, vs, e, f1, f2, l, r⟩ := h
    exact ⟨a, dx, vs, e, hf _ _ f1, hf _ _ f2, l, RWs.pure hf ws vs u r⟩
  | .ref n, v, u, h => by simp [W.under, Nat.blt] at u
  | .any, _, _, _ => trivial
  | .scr ws, v, u, h => by
    obtain ⟨a, vs, e, s, r⟩ := h
    exact ⟨a, vs, e, SqM hf s, RWs.pure hf ws vs u r⟩
theorem RWs.pure (hf : ∀ a o, γ.F a = some o → γ'.F a = some o) : ∀ (ws : List W) (vs : List V), W.unders 0 ws = true → RWs C γ ws vs → RWs C γ' ws vs
  | [], _, _, h => h
  | w :: ws, vs, u, h => by
    obtain ⟨v, r, e, a, b⟩ := h
    simp only [W.unders, Bool.and_eq_true] at u
    exact ⟨v, r, e, RW.pure hf w v u.1 a, RWs.pure hf ws r u.2 b⟩
end
mutual
theorem RW.cut {n : Nat} (hi : ∀ (m : Nat) (a : Addr), m < n → γ.ι[m]? = some a → γ'.ι[m]? = some a) (hf : ∀ a o, γ.F a = some o → γ'.F a = some o) : ∀ (w : W) (v : V), w.under n = true → RW C γ w v → RW C γ' w v
  | .non, _, _, h => h
  | .bl _, _, _, h => h
  | .int _, _, _, h => h
  | .str _, _, _, h => h
  | .tup ws, v, u, h => by
    obtain ⟨a, vs, e, s, r⟩ := h
    exact ⟨a, vs, e, RdM hf s, RWs.cut hi hf ws vs u r⟩
  | .lst ws, v, u, h => by
    obtain ⟨a, vs, e, s, r⟩ := h
    exact ⟨a, vs, e, RdM hf s, RWs.cut hi hf ws vs u r⟩
  | .dct ks ws, v, u, h => by
    obtain ⟨a, o, xs, ys, e, f, d, r1, r2⟩ := h
    simp only [W.under, Bool.and_eq_true] at u
    exact ⟨a, o, xs, ys, e, hf _ _ f, d, RWs.cut hi hf ks xs u.1 r1, RWs.cut hi hf ws ys u.2 r2⟩
  | .obj c ns ws, v, u, h => by
    obtain ⟨a, dx, vs, e, f1, f2, l, r⟩ := h
    exact ⟨a, dx, vs, e, hf _ _ f1, hf _ _ f2, l, RWs.cut hi hf ws vs u r⟩
  | .ref m, v, u, h => by
    obtain ⟨a, e, i⟩ := h
    have u' : m < n := Nat.le_of_ble_eq_true u
    exact ⟨a, e, hi _ _ u' i⟩
  | .any, _, _, _ => trivial
  | .scr ws, v, u, h => by
    obtain ⟨a, vs, e, s, r⟩ := h
    exact ⟨a, vs, e, SqM hf s, RWs.cut hi hf ws vs u r⟩
theorem RWs.cut {n : Nat} (hi : ∀ (m : Nat) (a : Addr), m < n → γ.ι[m]? = some a → γ'.ι[m]? = some a) (hf : ∀ a o, γ.F a = some o → γ'.F a = some o) : ∀ (ws : List W) (vs : List V), W.unders n ws = true → RWs C γ ws vs → RWs C γ' ws vs
  | [], _, _, h => h
  | w :: ws, vs, u, h => by
    obtain ⟨v, r, e, a, b⟩ := h
    simp only [W.unders, Bool.and_eq_true] at u
    exact ⟨v, r, e, RW.cut hi hf w v u.1 a, RWs.cut hi hf ws r u.2 b⟩
end
theorem Ext.ix (e : Ext γ γ' H) : ∀ (n : Nat) (a : Addr), γ.ι[n]? = some a → γ'.ι[n]? = some a := fun n a h => by
  obtain ⟨l, q, _⟩ := e.pre
  rw [q, List.getElem?_append_left (List.getElem?_eq_some_iff.mp h).1]
  exact h
theorem Ext.rw (e : Ext γ γ' H) {w : W} {v : V} (h : RW C γ w v) : RW C γ' w v := RW.mono e.ix e.frz w v h
theorem Ext.rws (e : Ext γ γ' H) {ws : List W} {vs : List V} (h : RWs C γ ws vs) : RWs C γ' ws vs := RWs.mono e.ix e.frz ws vs h
theorem RWs.length : ∀ {ws : List W} {vs : List V}, RWs C γ ws vs → ws.length = vs.length
  | [], _, h => by cases h; rfl
  | _ :: _, _, ⟨_, _, e, _, b⟩ => by subst e; simp [RWs.length b]
theorem RWs.get : ∀ {ws : List W} {vs : List V} {i : Nat} {w : W}, RWs C γ ws vs → ws[i]? = some w → ∃ v, vs[i]? = some v ∧ RW C γ w v
  | [], _, _, _, _, e => by simp at e
  | _ :: _, _, 0, w, ⟨v, r, e, a, b⟩, q => by subst e; simp at q; subst q; exact ⟨v, rfl, a⟩
  | _ :: _, _, i + 1, w, ⟨v, r, e, a, b⟩, q => by subst e; exact RWs.get (i := i) b (by simpa using q)
theorem RWs.append : ∀ {ws us : List W} {vs xs : List V}, RWs C γ ws vs → RWs C γ us xs → RWs C γ (ws ++ us) (vs ++ xs)
  | [], _, _, _, h, k => by cases h; exact k
  | _ :: _, _, _, _, ⟨v, r, e, a, b⟩, k => by subst e; exact ⟨v, r ++ _, rfl, a, RWs.append b k⟩
theorem RWs.cons {w : W} {ws : List W} {v : V} {vs : List V} (a : RW C γ w v) (b : RWs C γ ws vs) : RWs C γ (w :: ws) (v :: vs) := ⟨v, vs, rfl, a, b⟩
theorem RWs.nil : RWs C γ [] [] := rfl
theorem Keep.trans (e : Ext γ γ1 H) (k1 : Keep γ H H1) (k2 : Keep γ1 H1 H2) : Keep γ H H2 := by
  refine ⟨fun a o h n => ?_, fun a h => k2.there a (k1.there a h)⟩
  refine k2.same a o (k1.same a o h n) fun hi => ?_
  obtain ⟨l, q, ln⟩ := e.pre
  rw [q] at hi
  rcases List.mem_append.mp hi with hi | hi
  · rw [e.lk]
    exact (n hi).imp (e.frz _ _) id
  · rw [ln a hi] at h
    cases h
theorem Ext.trans (e1 : Ext γ γ1 H) (k1 : Keep γ H H1) (e2 : Ext γ1 γ2 H1) : Ext γ γ2 H := by
  obtain ⟨l1, q1, n1⟩ := e1.pre
  obtain ⟨l2, q2, n2⟩ := e2.pre
  refine ⟨⟨l1 ++ l2, by rw [q2, q1, List.append_assoc], fun a h => ?_⟩, fun a o h => e2.frz _ _ (e1.frz _ _ h), e2.prot.trans e1.prot, e2.lk.trans e1.lk⟩
  rcases List.mem_append.mp h with h | h
  · exact n1 a h
  · exact Decidable.byContradiction fun n => (k1.there a n) (n2 a h)
end

def SL (C : Cf) (γ : Gh) (σw : Sw) (σ : L2.St) : Prop := σw.length = σ.length ∧ ∀ (i : Nat) (w : W), σw[i]? = some (some w) → ∃ v, σ[i]? = some (some v) ∧ RW C γ w v
theorem SL.ext {C : Cf} {γ γ' : Gh} {H : Hp} {σw : Sw} {σ : L2.St} (s : SL C γ σw σ) (e : Ext γ γ' H) : SL C γ' σw σ :=
  ⟨s.1, fun i w h => let ⟨v, a, b⟩ := s.2 i w h; ⟨v, a, e.rw b⟩⟩
theorem SL.set {C : Cf} {γ : Gh} {σw : Sw} {σ : L2.St} (s : SL C γ σw σ) {i : Nat} {w : W} {v : V} (r : RW C γ w v) : SL C γ (σw.set i (some w)) (σ.set i (some v)) := by
  refine ⟨by simp [s.1], fun j u h => ?_⟩
  by_cases e : i = j
  · subst e
    by_cases l : i < σw.length
    · rw [List.getElem?_set_self l] at h
      cases h
      exact ⟨v, by rw [List.getElem?_set_self (by rw [← s.1]; exact l)], r⟩
    · rw [List.getElem?_eq_none (by simpa using l)] at h; cases h
  · rw [List.getElem?_set_ne e] at h ⊢
    exact s.2 j u h
theorem SL.setN {C : Cf} {γ : Gh} {σw : Sw} {σ : L2.St} (s : SL C γ σw σ) (i : Nat) : SL C γ (σw.set i none) (σ.set i none) := by
  refine ⟨by simp [s.1], fun j u h => ?_⟩
  by_cases e : i = j
  · subst e
    by_cases l : i < σw.length
    · rw [List.getElem?_set_self l] at h; cases h
    · rw [List.getElem?_eq_none (by simpa using l)] at h; cases h
  · rw [List.getElem?_set_ne e] at h ⊢
    exact s.2 j u h
theorem SL.wipe {C : Cf} {γ : Gh} {σw : Sw} {σ : L2.St} (s : SL C γ σw σ) : ∀ vs : List Nat, SL C γ (wipeW σw vs) (L2.wipe σ vs)
  | [] => s
  | v :: vs => (SL.wipe s vs).setN v

def RX (C : Cf) (γ : Gh) (H : Hp) (c : Nat) (a : Option W) (cls : Value) (d : Option Addr) : Prop :=
  cls = .ref (C.ca c) ∧ match a with
    | none => True
    | some w => ∃ dd v, d = some dd ∧ H dd = some (.xd [(C.xf c, v)]) ∧ RW C γ w v
def PoE (C : Cf) (γ : Gh) (H : Hp) (r : R W) (Q : VK) (E : XK) : Prop :=
  match r with
  | .ok w h => ∀ γ' v H', Ext γ γ' H → Keep γ H H' → HC C γ' h H' → RW C γ' w v → Q v H'
  | .exn c a h => ∀ γ' H' cls d, Ext γ γ' H → Keep γ H H' → HC C γ' h H' → RX C γ' H' c a cls d → E cls d H'
  | .no => False
def PoEs (C : Cf) (γ : Gh) (H : Hp) (r : R (List W)) (Q : List V → Hp → Prop) (E : XK) : Prop :=
  match r with
  | .ok ws h => ∀ γ' vs H', Ext γ γ' H → Keep γ H H' → HC C γ' h H' → RWs C γ' ws vs → Q vs H'
  | .exn c a h => ∀ γ' H' cls d, Ext γ γ' H → Keep γ H H' → HC C γ' h H' → RX C γ' H' c a cls d → E cls d H'
  | .no => False
def PoB (C : Cf) (γ : Gh) (H : Hp) (r : R Bool) (Q : Bool → Hp → Prop) (E : XK) : Prop :=
  match r with
  | .ok b h => ∀ γ' H', Ext γ γ' H → Keep γ H H' → HC C γ' h H' → Q b H'
  | .exn c a h => ∀ γ' H' cls d, Ext γ γ' H → Keep γ H H' → HC C γ' h H' → RX C γ' H' c a cls d → E cls d H'
  | .no => False
def PoT (C : Cf) (γ : Gh) (H : Hp) (r : R Sw) (Q : L2.St → Hp → Prop) : Prop :=
  match r with
  | .ok σw h => ∀ γ' σ H', Ext γ γ' H → Keep γ H H' → HC C γ' h H' → SL C γ' σw σ → Q σ H'
  | _ => False
def PoS (C : Cf) (γ : Gh) (H : Hp) (r : RS) (D : Ends) (Wx : WX) : Prop :=
  match r with
  | .ok (.nx σw) h => ∀ γ' σ H', Ext γ γ' H → Keep γ H H' → HC C γ' h H' → SL C γ' σw σ → D.nx σ H'
  | .ok (.brk σw) h => ∀ γ' σ H', Ext γ γ' H → Keep γ H H' → HC C γ' h H' → SL C γ' σw σ → D.bk σ H'
  | .ok (.ret w) h => ∀ γ' v H', Ext γ γ' H → Keep γ H H' → HC C γ' h H' → RW C γ' w v → D.rt v H'
  | .exn c a σw h => ∀ γ' σ H' cls d, Ext γ γ' H → Keep γ H H' → HC C γ' h H' → SL C γ' σw σ → RX C γ' H' c a cls d → Wx cls d σ H'
  | .no => False
section
variable {C : Cf} {γ γ1 : Gh} {H H1 : Hp}
theorem PoE.step {r : R W} {Q : VK} {E : XK} (p : PoE C γ H r Q E) (e : Ext γ γ1 H) (k : Keep γ H H1) : PoE C γ1 H1 r Q E := by
  cases r with
  | ok w h => exact fun γ' v H' e' k' c r => p γ' v H' (e.trans k e') (k.trans e k') c r
  | exn c a h => exact fun γ' H' cls d e' k' cc r => p γ' H' cls d (e.trans k e') (k.trans e k') cc r
  | no => exact p
theorem PoEs.step {r : R (List W)} {Q : List V → Hp → Prop} {E : XK} (p : PoEs C γ H r Q E) (e : Ext γ γ1 H) (k : Keep γ H H1) : PoEs C γ1 H1 r Q E := by
  cases r with
  | ok w h => exact fun γ' v H' e' k' c r => p γ' v H' (e.trans k e') (k.trans e k') c r
  | exn c a h => exact fun γ' H' cls d e' k' cc r => p γ' H' cls d (e.trans k e') (k.trans e k') cc r
  | no => exact p
theorem PoB.step {r : R Bool} {Q : Bool → Hp → Prop} {E : XK} (p : PoB C γ H r Q E) (e : Ext γ γ1 H) (k : Keep γ H H1) : PoB C γ1 H1 r Q E := by
  cases r with
  | ok w h => exact fun γ' H' e' k' c => p γ' H' (e.trans k e') (k.trans e k') c
  | exn c a h => exact fun γ' H' cls d e' k' cc r => p γ' H' cls d (e.trans k e') (k.trans e k') cc r
  | no => exact p
theorem PoT.step {r : R Sw} {Q : L2.St → Hp → Prop} (p : PoT C γ H r Q) (e : Ext γ γ1 H) (k : Keep γ H H1) : PoT C γ1 H1 r Q := by
  cases r with
  | ok w h => exact fun γ' σ H' e' k' c s => p γ' σ H' (e.trans k e') (k.trans e k') c s
  | exn c a h => exact p
  | no => exact p
theorem PoS.step {r : RS} {D : Ends} {Wx : WX} (p : PoS C γ H r D Wx) (e : Ext γ γ1 H) (k : Keep γ H H1) : PoS C γ1 H1 r D Wx := by
  cases r with
  | ok fl h => cases fl with
    | nx σw => exact fun γ' σ H' e' k' c s => p γ' σ H' (e.trans k e') (k.trans e k') c s
    | brk σw => exact fun γ' σ H' e' k' c s => p γ' σ H' (e.trans k e') (k.trans e k') c s
    | ret w => exact fun γ' v H' e' k' c s => p γ' v H' (e.trans k e') (k.trans e k') c s
  | exn c a σw h => exact fun γ' σ H' cls d e' k' cc s r => p γ' σ H' cls d (e.trans k e') (k.trans e k') cc s r
  | no => exact p
end

section
variable (C : Cf) (cl : CL)
def tev (Wx : WX) (x : Ex) : TE := fun σ H Q => ∃ γ σw h, SL C γ σw σ ∧ HC C γ h H ∧ PoE C γ H (x cl σw h) Q (fun cls d H' => Wx cls d σ H')
def tes (Wx : WX) (x : Exs) : TA := fun σ H Q => ∃ γ σw h, SL C γ σw σ ∧ HC C γ h H ∧ PoEs C γ H (x cl σw h) Q (fun cls d H' => Wx cls d σ H')
def asB : R W → R Bool
  | .ok (.bl b) h => .ok b h
  | .ok _ _ => .no
  | .exn c a h => .exn c a h
  | .no => .no
def ttv (Wx : WX) (x : Ex) : TT := fun σ H Q => ∃ γ σw h, SL C γ σw σ ∧ HC C γ h H ∧ PoB C γ H (asB (x cl σw h)) Q (fun cls d H' => Wx cls d σ H')
def tst (Wx : WX) (s : Sx) : TS := fun D σ H => ∃ γ σw h, SL C γ σw σ ∧ HC C γ h H ∧ PoS C γ H (s cl σw h) D Wx
def ttg (t : Tx) : TG := fun v σ H Q => ∃ γ σw h w, SL C γ σw σ ∧ HC C γ h H ∧ RW C γ w v ∧ PoT C γ H (t cl w σw h) Q
end
end Ov
namespace Ov
open PySem PySem.Spec PyProof.Rows L2

section
variable {X : Cx}
theorem PE.imp {e : Expr} {t t' : TE} (h : PE X e t) (i : ∀ σ H Q, t' σ H Q → t σ H Q) : PE X e t' := ⟨fun pins s σ H Q I hw => h.run pins s σ H Q I (i σ H Q hw)⟩
theorem PT.imp {e : Expr} {t t' : TT} (h : PT X e t) (i : ∀ σ H Q, t' σ H Q → t σ H Q) : PT X e t' := ⟨fun pins s σ H Q I hw => h.run pins s σ H Q I (i σ H Q hw)⟩
theorem PA.imp {es : List Expr} {t t' : TA} (h : PA X es t) (i : ∀ σ H Q, t' σ H Q → t σ H Q) : PA X es t' := ⟨fun pos pins s σ H Q I hw => h.run pos pins s σ H Q I (i σ H Q hw)⟩
theorem PS.imp {st : Stmt} {t t' : TS} (h : PS X st t) (i : ∀ D σ H, t' D σ H → t D σ H) : PS X st t' := ⟨fun pins s σ H D I hw => h.run pins s σ H D I (i D σ H hw)⟩
theorem PSs.imp {st : List Stmt} {t t' : TS} (h : PSs X st t) (i : ∀ D σ H, t' D σ H → t D σ H) : PSs X st t' := ⟨fun pins s σ H D I hw => h.run pins s σ H D I (i D σ H hw)⟩
end

section
variable {C : Cf} {γ : Gh} {h : Hw} {H : Hp} {w : W} {x : V}
theorem look_lst {ws : List W} (c : HC C γ h H) (r : RW C γ w x) (e : look h w = .lst ws) : ∃ a vs, x = .ref a ∧ Rd H a (.lst vs) ∧ RWs C γ ws vs := by
  cases w with
  | lst us =>
    simp only [look] at e; cases e
    obtain ⟨a, vs, e, s, q⟩ := r
    exact ⟨a, vs, e, RdM c.frz s, q⟩
  | ref n =>
    obtain ⟨a, e1, i⟩ := r
    simp only [look] at e
    cases hn : h[n]? with
    | none => rw [hn] at e; cases e
    | some cc =>
      rw [hn] at e
      cases cc with
      | lst us =>
        cases e
        obtain ⟨_, vs, hh, q⟩ := c.cell n a _ i hn
        exact ⟨a, vs, e1, .inl hh, q⟩
      | dct _ _ => cases e
      | lck _ _ => cases e
      | obj _ _ _ => cases e
      | dead => cases e
  | _ => simp only [look] at e; cases e
theorem look_tup {ws : List W} (c : HC C γ h H) (r : RW C γ w x) (e : look h w = .tup ws) : ∃ a vs, x = .ref a ∧ Rd H a (.tup vs) ∧ RWs C γ ws vs := by
  cases w with
  | tup us =>
    simp only [look] at e; cases e
    obtain ⟨a, vs, e, s, q⟩ := r
    exact ⟨a, vs, e, RdM c.frz s, q⟩
  | ref n =>
    simp only [look] at e
    cases hn : h[n]? with
    | none => rw [hn] at e; cases e
    | some cc => rw [hn] at e; cases cc <;> cases e
  | _ => simp only [look] at e; cases e
theorem look_tupE {ws : List W} (e : look h w = .tup ws) : w = .tup ws := by
  cases w with
  | ref n =>
    simp only [look] at e
    cases hn : h[n]? with
    | none => rw [hn] at e; cases e
    | some cc => rw [hn] at e; cases cc <;> cases e
  | _ => simpa only [look] using e
theorem look_flat {u : W} (e : look h w = u) (f : match u with | .non | .bl _ | .int _ | .str _ => True | _ => False) : w = u := by
  cases w with
  | ref n =>
    simp only [look] at e
    cases hn : h[n]? with
    | none => rw [hn] at e; subst e; exact f.elim
    | some cc => rw [hn] at e; cases cc <;> (subst e; exact f.elim)
  | _ => simpa only [look] using e
theorem look_scr {ws : List W} (c : HC C γ h H) (r : RW C γ w x) (e : look h w = .scr ws) : w = .scr ws ∧ ∃ a vs, x = .ref a ∧ SqL C.K H a vs ∧ RWs C γ ws vs := by
  have hw : w = .scr ws := by
    cases w with
    | ref n =>
      simp only [look] at e
      cases hn : h[n]? with
      | none => rw [hn] at e; cases e
      | some cc => rw [hn] at e; cases cc <;> cases e
    | _ => simpa only [look] using e
  subst hw
  obtain ⟨a, vs, rfl, q1, q2⟩ := r
  exact ⟨rfl, a, vs, rfl, SqM c.frz q1, q2⟩
end
theorem Ext.same {γ : Gh} {H : Hp} : Ext γ γ H := Ext.refl γ H
section
variable {C : Cf} {γ : Gh} {h : Hw} {H : Hp}
theorem look_dct {w : W} {x : V} {ks ws : List W} (c : HC C γ h H) (r : RW C γ w x) (e : look h w = .dct ks ws) : ∃ a o xs ys, x = .ref a ∧ H a = some (pin a o) ∧ DO C.w a o ks xs ys ∧ RWs C γ ks xs ∧ RWs C γ ws ys := by
  cases w with
  | dct js us =>
    simp only [look] at e; cases e
    obtain ⟨a, o, xs, ys, e, s, d, q1, q2⟩ := r
    exact ⟨a, o, xs, ys, e, c.frz _ _ s, d, q1, q2⟩
  | ref n =>
    obtain ⟨a, e1, i⟩ := r
    simp only [look] at e
    cases hn : h[n]? with
    | none => rw [hn] at e; cases e
    | some cc =>
      rw [hn] at e
      cases cc with
      | dct us _ =>
        cases e
        obtain ⟨_, o, xs, ys, hh, d, q1, q2⟩ := c.cell n a _ i hn
        exact ⟨a, o, xs, ys, e1, hh, d, q1, q2⟩
      | lck us _ =>
        cases e
        obtain ⟨_, o, xs, ys, _, hh, d, q1, q2⟩ := c.cell n a _ i hn
        exact ⟨a, o, xs, ys, e1, hh, d, q1, q2⟩
      | lst _ => cases e
      | obj _ _ _ => cases e
      | dead => cases e
  | _ => simp only [look] at e; cases e
theorem HC.lay (c : HC C γ h H) {p : Addr} {o : HO} (n : H p = none) (no : ∀ y, o ≠ .own y) :
    let γ' : Gh := { γ with F := upd γ.F p o }
    Ext γ γ' H ∧ Keep γ H (upd H p o) ∧ HC C γ' h (upd H p o) ∧ γ'.F p = some o := by
  have fn : γ.F p = none := by
    cases e : γ.F p with
    | none => rfl
    | some u => rw [c.frz _ _ e] at n; cases n
  have ne : ∀ a o', H a = some o' → a ≠ p := fun a o' e z => by subst z; rw [n] at e; cases e
  have nef : ∀ a o', γ.F a = some o' → a ≠ p := fun a o' e z => by subst z; rw [fn] at e; cases e
  have E : Ext γ { γ with F := upd γ.F p o } H := ⟨⟨[], by simp, fun _ h => nomatch h⟩, fun a u e => by
    show upd γ.F p o a = some u
    rw [upd_ne (nef a u e)]; exact e, rfl, rfl⟩
  refine ⟨E, ⟨fun a u e _ => by rw [upd_ne (ne a u e)]; exact e, fun a e => ?_⟩, ⟨c.len, c.nd, fun m a cc i hm => ?_, fun a i => ?_, fun a u e => ?_, fun a pa => ?_, fun d y e => ?_, fun a l q => by rw [upd_ne (ne a _ (c.lkd a l q))]; exact c.lkd a l q, c.prl⟩, upd_same⟩
  · cases q : H a with
    | none => exact absurd q e
    | some u => rw [upd_ne (ne a u q), q]; simp
  · have hp : a ≠ p := by
      have := c.there a (List.mem_of_getElem? i)
      intro z; subst z; exact this n
    have q := c.cell m a cc i hm
    cases cc with
    | lst ws =>
      obtain ⟨f, vs, hh, r⟩ := q
      exact ⟨⟨by show upd γ.F p o a = none; rw [upd_ne hp]; exact f.1, f.2⟩, vs, by rw [upd_ne hp]; exact hh, E.rws r⟩
    | dct ks us =>
      obtain ⟨f, ob, xs, ys, hh, d, r1, r2⟩ := q
      exact ⟨⟨by show upd γ.F p o a = none; rw [upd_ne hp]; exact f.1, f.2⟩, ob, xs, ys, by rw [upd_ne hp]; exact hh, d, E.rws r1, E.rws r2⟩
    | lck ks us =>
      obtain ⟨f, ob, xs, ys, lo, hh, d, r1, r2⟩ := q
      exact ⟨by show upd γ.F p o a = none; rw [upd_ne hp]; exact f, ob, xs, ys, lo, by rw [upd_ne hp]; exact hh, d, E.rws r1, E.rws r2⟩
    | obj k ns ws =>
      obtain ⟨f, dx, vs, fd, hh, hd, l, r⟩ := q
      have hdp : dx ≠ p := ne _ _ hd
      exact ⟨⟨by show upd γ.F p o a = none; rw [upd_ne hp]; exact f.1, f.2⟩, dx, vs, by show upd γ.F p o dx = none; rw [upd_ne hdp]; exact fd, by rw [upd_ne hp]; exact hh, by rw [upd_ne hdp]; exact hd, l, E.rws r⟩
    | dead => trivial
  · have := c.there a i
    have hp : a ≠ p := by intro z; subst z; exact this n
    rw [upd_ne hp]; exact this
  · by_cases z : a = p
    · subst z; rw [upd_same]
      have : upd γ.F a o a = some u := e
      rw [upd_same] at this; exact this
    · have : upd γ.F p o a = some u := e
      rw [upd_ne z] at this
      rw [upd_ne z]; exact c.frz _ _ this
  · obtain ⟨a1, a2, a3, a4⟩ := c.prot a pa
    have hp : a ≠ p := by intro z; subst z; exact a1 n
    refine ⟨by rw [upd_ne hp]; exact a1, by show upd γ.F p o a = none; rw [upd_ne hp]; exact a2, a3, fun b hb => by rw [upd_ne hp]; exact a4 b hb⟩
  · by_cases z : d = p
    · subst z; rw [upd_same] at e; cases e; exact absurd rfl (no y)
    · rw [upd_ne z] at e
      have := c.own d y e
      have hp : y ≠ p := by intro z; subst z; exact this n
      rw [upd_ne hp]; exact this
theorem HC.layD (c : HC C γ h H) {p : Addr} {o : Obj} {ks ws : List W} {xs ys : List V} (n : H p = none) (d : DO C.w p o ks xs ys) (r1 : RWs C γ ks xs) (r2 : RWs C γ ws ys) :
    ∃ γ', Ext γ γ' H ∧ Keep γ H (upd H p (pin p o)) ∧ HC C γ' h (upd H p (pin p o)) ∧ RW C γ' (.dct ks ws) (.ref p) := by
  obtain ⟨e, k, c', f⟩ := c.lay (o := pin p o) n (fun y z => by cases z)
  exact ⟨_, e, k, c', p, o, xs, ys, rfl, f, d, e.rws r1, e.rws r2⟩
theorem HC.layT (c : HC C γ h H) {p : Addr} {ws : List W} {vs : List V} (n : H p = none) (r : RWs C γ ws vs) :
    ∃ γ', Ext γ γ' H ∧ Keep γ H (upd H p (.tup vs)) ∧ HC C γ' h (upd H p (.tup vs)) ∧ RW C γ' (.tup ws) (.ref p) := by
  obtain ⟨e, k, c', f⟩ := c.lay (o := .tup vs) n (fun y z => by cases z)
  exact ⟨_, e, k, c', p, vs, rfl, .inl f, e.rws r⟩
theorem HC.layL (c : HC C γ h H) {p : Addr} {ws : List W} {vs : List V} (n : H p = none) (r : RWs C γ ws vs) :
    ∃ γ', Ext γ γ' H ∧ Keep γ H (upd H p (.lst vs)) ∧ HC C γ' h (upd H p (.lst vs)) ∧ RW C γ' (.lst ws) (.ref p) := by
  obtain ⟨e, k, c', f⟩ := c.lay (o := .lst vs) n (fun y z => by cases z)
  exact ⟨_, e, k, c', p, vs, rfl, .inl f, e.rws r⟩
end
end Ov
namespace Ov
open PySem PySem.Spec PyProof.Rows L2

def rf2 (C : Cf) (g : W → W → Hw → R W) (E : XK) : R2 := fun x y H Q => ∃ γ h w u, HC C γ h H ∧ RW C γ w x ∧ RW C γ u y ∧ PoE C γ H (g w u h) Q E
section
variable {C : Cf} {γ : Gh} {h : Hw} {H : Hp} {Q : VK} {E : XK}
theorem PoE.imp {r : R W} {Q' : VK} (p : PoE C γ H r Q E) (i : ∀ v H', Q v H' → Q' v H') : PoE C γ H r Q' E := by
  cases r with
  | ok w h => exact fun γ' v H' e k c r => i _ _ (p γ' v H' e k c r)
  | exn c a h => exact p
  | no => exact p
theorem PoE.here {w : W} {v : V} (p : PoE C γ H (.ok w h) Q E) (c : HC C γ h H) (r : RW C γ w v) : Q v H := p γ v H (Ext.refl _ _) (Keep.refl _ _) c r
theorem PoE.tupNew {ws : List W} {vs : List V} (p : PoE C γ H (.ok (.tup ws) h) Q E) (c : HC C γ h H) (r : RWs C γ ws vs) {a : Addr} (n : H a = none) : Q (.ref a) (upd H a (.tup vs)) :=
  let ⟨γ', e, k, c', r'⟩ := c.layT n r
  p γ' _ _ e k c' r'
theorem PoE.lstNew {ws : List W} {vs : List V} (p : PoE C γ H (.ok (.lst ws) h) Q E) (c : HC C γ h H) (r : RWs C γ ws vs) {a : Addr} (n : H a = none) : Q (.ref a) (upd H a (.lst vs)) :=
  let ⟨γ', e, k, c', r'⟩ := c.layL n r
  p γ' _ _ e k c' r'
theorem PoE.ofSome {o : Option W} (p : PoE C γ H (R.of h o) Q E) : ∃ w, o = some w ∧ PoE C γ H (.ok w h) Q E := by
  cases o with
  | none => exact p.elim
  | some w => exact ⟨w, rfl, p⟩
end
section
variable {X : Cx} {C : Cf} {a b : Expr} {cl : CL} {Wx : WX} {xa xb : Ex} {pos : Pos}
theorem tev2 {f : W → W → Hw → R W} {σ : L2.St} {H : Hp} {Q : VK} (t : tev C cl Wx (fun cl σ h => (xa cl σ h).bind fun x h1 => (xb cl σ h1).bind fun y h2 => f x y h2) σ H Q) :
    tev C cl Wx xa σ H (fun x H1 => tev C cl Wx xb σ H1 (fun y H2 => rf2 C f (fun cls d H' => Wx cls d σ H') x y H2 Q)) := by
  obtain ⟨γ, σw, h, sl, hc, p⟩ := t
  refine ⟨γ, σw, h, sl, hc, ?_⟩
  dsimp only at p
  cases ea : xa cl σw h with
  | ok w h1 =>
    rw [ea] at p
    intro γ1 v H1 e1 k1 c1 r1
    refine ⟨γ1, σw, h1, sl.ext e1, c1, ?_⟩
    have p1 := PoE.step p e1 k1
    dsimp only [R.bind] at p1
    cases eb : xb cl σw h1 with
    | ok u h2 =>
      rw [eb] at p1
      intro γ2 v2 H2 e2 k2 c2 r2
      exact ⟨γ2, h2, w, u, c2, e2.rw r1, r2, PoE.step p1 e2 k2⟩
    | exn c aa h2 => rw [eb] at p1; exact p1
    | no => rw [eb] at p1; exact p1
  | exn c aa h1 => rw [ea] at p; exact p
  | no => rw [ea] at p; exact p
theorem tev1 {f : W → Hw → R W} {σ : L2.St} {H : Hp} {Q : VK} (t : tev C cl Wx (fun cl σ h => (xa cl σ h).bind fun x h1 => f x h1) σ H Q) :
    tev C cl Wx xa σ H (fun x H1 => ∃ γ σw h w, SL C γ σw σ ∧ HC C γ h H1 ∧ RW C γ w x ∧ PoE C γ H1 (f w h) Q (fun cls d H' => Wx cls d σ H')) := by
  obtain ⟨γ, σw, h, sl, hc, p⟩ := t
  refine ⟨γ, σw, h, sl, hc, ?_⟩
  dsimp only at p
  cases ea : xa cl σw h with
  | ok w h1 =>
    rw [ea] at p
    intro γ1 v H1 e1 k1 c1 r1
    exact ⟨γ1, σw, h1, w, sl.ext e1, c1, r1, PoE.step p e1 k1⟩
  | exn c aa h1 => rw [ea] at p; exact p
  | no => rw [ea] at p; exact p

theorem pv_var {i : Nat} {x : Str} (hN : X.N[i]? = some x) (hv : Vis X.env.scope x) (hd : (x == ("__debug__" : Str)) = false) (hcd : (x == ("__classdict__" : Str)) = false) : PE X (.Name x pos) (tev C cl Wx (xVar i)) :=
  PE.imp (pe_var hN hv hd hcd) fun σ H Q ⟨γ, σw, h, sl, hc, p⟩ => by
    unfold xVar at p
    cases e : σw[i]? with
    | none => rw [e] at p; exact p.elim
    | some o =>
      rw [e] at p
      cases o with
      | none => exact p.elim
      | some w =>
        obtain ⟨v, q, r⟩ := sl.2 i w e
        exact ⟨v, q, PoE.here p hc r⟩
theorem con_imp {w : W} {v : V} (r : ∀ γ, RW C γ w v) {σ : L2.St} {H : Hp} {Q : VK} : tev C cl Wx (xCon w) σ H Q → Q v H := fun ⟨γ, σw, h, sl, hc, p⟩ => PoE.here p hc (r γ)

theorem Inv.lstR {pins : List (Addr × Obj)} {σ : L2.St} {H : Hp} {s : Shared} (I : Inv X pins σ H s) {l : Addr} {xs : List V} (hH : Rd H l (.lst xs)) : xs.length ≤ sizeLine ∧ ∃ (its : List Value) (n : Nat), Vals xs its ∧ xs.length = its.length ∧ s.heap.get? l = some { cls := .type "list", data := .seq its.toArray n } := by
  obtain ⟨z, its, n, r, e⟩ := hH.ok I.hok
  exact ⟨z, its, n, r, r.length, e⟩
theorem op_catL : OpR X (binaryOp .Add) (fun x y H Q => ∃ l b xs zs, x = .ref l ∧ y = .ref b ∧ Rd H l (.lst xs) ∧ Rd H b (.lst zs) ∧ xs.length + zs.length ≤ sizeLine ∧ ∀ p, H p = none → Q (.ref p) (upd H p (.lst (xs ++ zs)))) := by
  intro pins s σ H x y v u Q I rx ry h
  obtain ⟨l, b, xs, zs, rfl, rfl, hH, hB, hz, q⟩ := h
  cases rx
  cases ry
  obtain ⟨z, its, n, r, hl, e⟩ := Inv.lstR I hH
  obtain ⟨z2, its2, n2, r2, hl2, e2⟩ := Inv.lstR I hB
  refine PySem.P.add_list e e2 ?_ (by rw [List.size_toArray, List.size_toArray]; omega)
  have ea : its.toArray ++ its2.toArray = (its ++ its2).toArray := by simp
  rw [ea]
  exact ⟨.ref _, _, I.lnew (t' := s.toks) (r.append r2) (by rw [List.length_append]; omega), rfl, q _ I.fresh⟩
theorem flat_rep (l : List Nat) : ∀ (n : Nat) (acc : List Nat), (List.foldl (· ++ ·) acc.toArray (List.replicate n l.toArray)) = (acc ++ (List.replicate n l).flatten).toArray
  | 0, acc => by simp
  | n + 1, acc => by
    rw [List.replicate_succ, List.foldl_cons, List.append_toArray, flat_rep l n (acc ++ l)]
    simp [List.replicate_succ]
theorem flat_rep_len (l : List Nat) : ∀ n : Nat, (List.replicate n l).flatten.length = n * l.length
  | 0 => by simp
  | n + 1 => by rw [List.replicate_succ, List.flatten_cons, List.length_append, flat_rep_len l n, Nat.succ_mul, Nat.add_comm]
theorem mul_str_W {x : List Nat} {n : Int} (h0 : 0 ≤ n) : Txt.mul ⟨x.toArray⟩ n = ⟨((List.replicate n.toNat x).flatten).toArray⟩ := by
  unfold Txt.mul
  by_cases h : n < 1
  · rw [if_pos h]
    have : n = 0 := by omega
    subst this
    rfl
  · rw [if_neg h]
    by_cases h1 : (n == 1 || (⟨x.toArray⟩ : Str).length == 0) = true
    · rw [if_pos h1]
      rcases Bool.or_eq_true_iff.mp h1 with e | e
      · have : n = 1 := by simpa using e
        subst this
        simp
      · have : x.length = 0 := by simpa [Str.length] using e
        have : x = [] := List.length_eq_zero_iff.mp this
        subst this
        congr 1
        induction n.toNat with
        | zero => rfl
        | succ k ih => simp [List.replicate_succ] at ih ⊢
    · rw [if_neg h1]
      have := flat_rep x n.toNat []
      simp only [List.nil_append] at this
      exact congrArg Str.mk this
theorem op_mul_str : OpR X (binaryOp .Mult) (fun x y H Q => ∃ (s : List Nat) (n : Int), x = strV s ∧ y = .int n ∧ 0 ≤ n ∧ n < 100000 ∧ s.length < 100 ∧ Q (strV (List.replicate n.toNat s).flatten) H) := by
  intro pins s σ H x y v u Q I rx ry h
  obtain ⟨t, n, rfl, rfl, h0, h1, h2, q⟩ := h
  obtain ⟨k, rfl⟩ := rx
  obtain ⟨k', rfl⟩ := ry
  have hl : (⟨t.toArray⟩ : Str).length = t.length := by simp [Str.length]
  refine SB.mul ⟨?_, ?_, ?_⟩ fun t' k => ?_
  · have a : decide (n < -(2 ^ 63 : Int)) = false := decide_eq_false (by omega)
    have b : decide (n ≥ 2 ^ 63) = false := decide_eq_false (by omega)
    rw [a, b]; rfl
  · intro g _
    rw [hl]
    have hp : (t.length : Int) * n ≤ 100 * 100000 := by
      have a1 : (t.length : Int) * n ≤ 100 * n := Int.mul_le_mul_of_nonneg_right (by omega) h0
      omega
    have : (t.length : Int) ≤ (2 ^ 63 - 1) / n := (Int.le_ediv_iff_mul_le (by omega)).mpr (by omega)
    omega
  · intro g _
    rw [hl]
    unfold Builtin.Str.tooLong
    have : t.length * n.toNat ≤ 100 * 100000 := Nat.mul_le_mul (by omega) (by omega)
    rw [sizeLine_eq]
    exact decide_eq_false (by omega)
  · rw [mul_str_W h0]
    exact ⟨strV _, H, I.tok _, ⟨_, rfl⟩, q⟩
def opOf : BOp → Operator
  | .add => .Add | .sub => .Sub | .mul => .Mult | .fdiv => .FloorDiv | .mod => .Mod | .pow => .Pow
def gBin (o : BOp) : W → W → Hw → R W := fun x y h => .of h (binop o (look h x) (look h y))
theorem bits_lt {i : Int} {n : Nat} (h : Nat.blt (bits i) n = true) : i.natAbs < 2 ^ n := by
  have h' : i.natAbs.log2 < n := Nat.le_of_ble_eq_true h
  by_cases z : i.natAbs = 0
  · rw [z]; exact Nat.two_pow_pos n
  · exact (Nat.log2_lt z).mp h'
theorem of_bin {C : Cf} (hK : C.K = X.K) (o : BOp) : OpR X (binaryOp (opOf o)) (fun x y H Q => ∃ E, rf2 C (gBin o) E x y H Q) := by
  intro pins s σ H x y v u Q I rx ry ⟨E, γ, h, w1, w2, c, r1, r2, p0⟩
  obtain ⟨w, eo, p⟩ := p0.ofSome
  clear p0
  cases o with
  | add =>
    cases e1 : look h w1 with
    | int i =>
      cases e2 : look h w2 with
      | int j =>
        rw [e1, e2] at eo; simp only [binop] at eo; cases eo
        cases look_flat e1 trivial; cases look_flat e2 trivial
        exact op_add pins s σ H x y v u Q I rx ry ⟨i, j, r1, r2, PoE.here p c rfl⟩
      | _ => rw [e1, e2] at eo; simp [binop] at eo
    | str i =>
      cases e2 : look h w2 with
      | str j =>
        rw [e1, e2] at eo; simp only [binop] at eo
        split at eo
        · rename_i hz; cases eo
          cases look_flat e1 trivial; cases look_flat e2 trivial
          refine op_add_str pins s σ H x y v u Q I rx ry ⟨_, _, r1, r2, ?_, PoE.here p c ?_⟩
          · have : i.length + j.length < most := Nat.le_of_ble_eq_true hz
            show i.toArray.size + j.toArray.size ≤ sizeLine
            rw [sizeLine_eq, List.size_toArray, List.size_toArray]
            unfold most at this; omega
          · show V.str ⟨i.toArray ++ j.toArray⟩ = strV (i ++ j)
            rw [List.append_toArray]
        · cases eo
      | _ => rw [e1, e2] at eo; simp [binop] at eo
    | lst xs =>
      cases e2 : look h w2 with
      | lst ys =>
        rw [e1, e2] at eo; simp only [binop] at eo
        split at eo
        · rename_i hz; cases eo
          obtain ⟨a, vs, rfl, q1, q2⟩ := look_lst c r1 e1
          obtain ⟨b, us, rfl, q3, q4⟩ := look_lst c r2 e2
          have l1 := q2.length
          have l2 := q4.length
          refine op_catL pins s σ H _ _ v u Q I rx ry ⟨a, b, vs, us, rfl, rfl, q1, q3, ?_, fun p' n => PoE.lstNew p c (q2.append q4) n⟩
          have : xs.length + ys.length < most := Nat.le_of_ble_eq_true hz
          rw [sizeLine_eq]; unfold most at this; omega
        · cases eo
      | _ => rw [e1, e2] at eo; simp [binop] at eo
    | tup xs =>
      cases e2 : look h w2 with
      | tup ys =>
        rw [e1, e2] at eo; simp only [binop] at eo
        split at eo
        · rename_i hz; cases eo
          obtain ⟨a, vs, rfl, q1, q2⟩ := look_tup c r1 e1
          obtain ⟨b, us, rfl, q3, q4⟩ := look_tup c r2 e2
          have l1 := q2.length
          have l2 := q4.length
          have t1 : w1 = .tup xs := look_tupE e1
          have t2 : w2 = .tup ys := look_tupE e2
          subst t1; subst t2
          refine op_catA pins s σ H _ _ v u Q I rx ry ⟨a, b, vs, us, rfl, rfl, .inl q1, .inl q3, ?_, fun z => ?_, fun _ z => ?_, fun _ _ p' n => PoE.tupNew p c (q2.append q4) n⟩
          · have : xs.length + ys.length < most := Nat.le_of_ble_eq_true hz
            rw [sizeLine_eq]; unfold most at this; omega
          · subst z
            have : xs = [] := List.length_eq_zero_iff.mp l1
            subst this
            exact PoE.here p c r2
          · subst z
            have : ys = [] := List.length_eq_zero_iff.mp l2
            subst this
            rw [List.append_nil] at p
            exact PoE.here p c r1
        · cases eo
      | _ => rw [e1, e2] at eo; simp [binop] at eo
    | _ => rw [e1] at eo; simp [binop] at eo
  | sub =>
    cases e1 : look h w1 with
    | int i =>
      cases e2 : look h w2 with
      | int j =>
        rw [e1, e2] at eo; simp only [binop] at eo; cases eo
        cases look_flat e1 trivial; cases look_flat e2 trivial
        exact op_sub pins s σ H x y v u Q I rx ry ⟨i, j, r1, r2, PoE.here p c rfl⟩
      | _ => rw [e1, e2] at eo; simp [binop] at eo
    | _ => rw [e1] at eo; simp [binop] at eo
  | mul =>
    cases e1 : look h w1 with
    | int i =>
      cases e2 : look h w2 with
      | int j =>
        rw [e1, e2] at eo; simp only [binop] at eo
        split at eo
        · rename_i hz; cases eo
          cases look_flat e1 trivial; cases look_flat e2 trivial
          rcases Bool.or_eq_true_iff.mp hz with hz | hz
          · refine op_mul pins s σ H x y v u Q I rx ry ⟨i, j, r1, r2, ?_, PoE.here p c rfl⟩
            rcases Bool.or_eq_true_iff.mp hz with hz | hz
            · have := bits_lt hz; exact .inl (by omega)
            · have := bits_lt hz; exact .inr (by omega)
          · exact op_mulW pins s σ H x y v u Q I rx ry ⟨i, j, r1, r2, Nat.le_of_ble_eq_true hz, PoE.here p c rfl⟩
        · cases eo
      | _ => rw [e1, e2] at eo; simp [binop] at eo
    | str i =>
      cases e2 : look h w2 with
      | int j =>
        rw [e1, e2] at eo; simp only [binop] at eo
        split at eo
        · rename_i hz; cases eo
          cases look_flat e1 trivial; cases look_flat e2 trivial
          simp only [Bool.and_eq_true, decide_eq_true_eq] at hz
          exact op_mul_str pins s σ H x y v u Q I rx ry ⟨i, j, r1, r2, hz.1.1, hz.1.2, Nat.le_of_ble_eq_true hz.2, PoE.here p c rfl⟩
        · cases eo
      | _ => rw [e1, e2] at eo; simp [binop] at eo
    | lst xs =>
      cases e2 : look h w2 with
      | int j =>
        rw [e1, e2] at eo; simp only [binop] at eo
        cases eo
      | _ => rw [e1, e2] at eo; simp [binop] at eo
    | _ => rw [e1] at eo; simp [binop] at eo
  | fdiv =>
    cases e1 : look h w1 with
    | int i =>
      cases e2 : look h w2 with
      | int j =>
        rw [e1, e2] at eo; simp only [binop] at eo
        split at eo
        · rename_i hz; cases eo
          cases look_flat e1 trivial; cases look_flat e2 trivial
          simp only [Bool.and_eq_true, decide_eq_true_eq] at hz
          exact op_fdivW pins s σ H x y v u Q I rx ry ⟨i, j, r1, r2, ⟨hz.1, Nat.le_of_ble_eq_true hz.2⟩, PoE.here p c rfl⟩
        · cases eo
      | _ => rw [e1, e2] at eo; simp [binop] at eo
    | _ => rw [e1] at eo; simp [binop] at eo
  | mod =>
    cases e1 : look h w1 with
    | int i =>
      cases e2 : look h w2 with
      | int j =>
        rw [e1, e2] at eo; simp only [binop] at eo
        split at eo
        · rename_i hz; cases eo
          cases look_flat e1 trivial; cases look_flat e2 trivial
          simp only [decide_eq_true_eq] at hz
          exact op_mod pins s σ H x y v u Q I rx ry ⟨i, j, r1, r2, hz, PoE.here p c rfl⟩
        · cases eo
      | _ => rw [e1, e2] at eo; simp [binop] at eo
    | _ => rw [e1] at eo; simp [binop] at eo
  | pow =>
    cases e1 : look h w1 with
    | int i =>
      cases e2 : look h w2 with
      | int j =>
        rw [e1, e2] at eo; simp only [binop] at eo
        split at eo
        · rename_i hz; cases eo
          cases look_flat e1 trivial; cases look_flat e2 trivial
          simp only [Bool.and_eq_true, decide_eq_true_eq] at hz
          have := bits_lt hz.2
          exact op_pow pins s σ H x y v u Q I rx ry ⟨i, j, r1, r2, ⟨hz.1.1, by omega, by omega⟩, PoE.here p c rfl⟩
        · cases eo
      | _ => rw [e1, e2] at eo; simp [binop] at eo
    | _ => rw [e1] at eo; simp [binop] at eo
theorem pv_bin (hK : C.K = X.K) {op : Operator} {o : BOp} (ho : op = opOf o) (ha : PE X a (tev C cl Wx xa)) (hb : PE X b (tev C cl Wx xb)) : PE X (.BinOp a op b pos) (tev C cl Wx (xBin o xa xb)) := by
  subst ho
  refine PE.imp (pe_op (of_bin hK o) ha hb) fun σ H Q t => ?_
  have := tev2 (f := gBin o) t
  obtain ⟨γ, σw, h, sl, hc, p⟩ := this
  refine ⟨γ, σw, h, sl, hc, ?_⟩
  exact PoE.imp p fun v H' q => by
    obtain ⟨γ, σw, h, sl, hc, p⟩ := q
    exact ⟨γ, σw, h, sl, hc, PoE.imp p fun v' H'' q' => ⟨_, q'⟩⟩
end
end Ov
namespace Ov
open PySem PySem.Spec PyProof.Rows L2
mutual
def pyd : W → PyData
  | .non => .none
  | .bl b => .bool b
  | .int i => .int i
  | .str s => .str ⟨s.toArray⟩
  | .tup xs => .tuple (pyds xs)
  | .lst xs => .list (pyds xs)
  | _ => .none
def pyds : List W → List PyData
  | [] => []
  | x :: r => pyd x :: pyds r
end
theorem pyds_map : ∀ xs : List W, pyds xs = xs.map pyd
  | [] => rfl
  | x :: r => by rw [pyds, List.map_cons, pyds_map r]
structure LayP (K : PySem.W.Frag) (H : Hp) (v : V) (d : Nat) (w : W) : Prop where
  dp : Dp K H v (pyd w)
  lay : (pyd w).canLay0 = true
  dep : (pyd w).depth ≤ d
theorem depthAll_le {d : Nat} : ∀ {xs : List PyData}, (∀ x ∈ xs, x.depth ≤ d) → PyData.depthAll xs ≤ d
  | [], _ => Nat.zero_le _
  | x :: r, h => by
    have := depthAll_le (d := d) (xs := r) fun y hy => h y (List.mem_cons_of_mem _ hy)
    have h0 := h x List.mem_cons_self
    rw [PyData.depthAll]
    omega
theorem canLayAll_of {xs : List PyData} : (∀ x ∈ xs, x.canLay0 = true) → PyData.canLayAll0 xs = true := by
  induction xs with
  | nil => intro _; rfl
  | cons x r ih =>
    intro h
    rw [PyData.canLayAll0, h x List.mem_cons_self, ih fun y hy => h y (List.mem_cons_of_mem _ hy)]
    rfl
theorem layAll {C : Cf} {γ : Gh} {K : PySem.W.Frag} {H : Hp} {d : Nat} (f : W → W) : ∀ {ws : List W} {vs : List V}, RWs C γ ws vs → (∀ w ∈ ws, ∀ v, RW C γ w v → LayP K H v d (f w)) →
    DpAll K H vs (pyds (ws.map f)) ∧ PyData.canLayAll0 (pyds (ws.map f)) = true ∧ PyData.depthAll (pyds (ws.map f)) ≤ d
  | [], _, h, _ => by cases h; exact ⟨.nil, rfl, Nat.zero_le _⟩
  | w :: ws, _, ⟨v, r, e, a, b⟩, i => by
    subst e
    obtain ⟨i1, i2, i3⟩ := layAll f b fun u hu => i u (List.mem_cons_of_mem _ hu)
    have l := i w List.mem_cons_self v a
    refine ⟨.cons l.dp i1, ?_, ?_⟩
    · rw [List.map_cons, pyds, PyData.canLayAll0, l.lay, i2]; rfl
    · rw [List.map_cons, pyds, PyData.depthAll]
      have := l.dep
      omega
section
variable {C : Cf} {γ : Gh} {h : Hw} {H : Hp}
theorem sgn_ok {s : List Nat} (h : (s.all fun c => Nat.blt c 1114112) = true) : (PyData.str ⟨s.toArray⟩).canLay0 = true := by
  show PyData.strOk ⟨s.toArray⟩ = true
  unfold PyData.strOk
  simp only [List.all_eq_true] at h
  rw [Array.all_eq_true']
  intro x hx
  have := h x (by simpa using hx)
  exact decide_eq_true (Nat.le_of_ble_eq_true this)
theorem lay_dp (c : HC C γ h H) : ∀ (d : Nat) (w : W) (v : V), W.lay d w = true → RW C γ w v → LayP C.K H v d w
  | 0, w, v, l, _ => by simp [W.lay] at l
  | d + 1, w, v, l, r => by
    cases w with
    | non => cases r; exact ⟨.non, rfl, by simp [pyd, PyData.depth]⟩
    | bl b => cases r; exact ⟨.bl b, rfl, by simp [pyd, PyData.depth]⟩
    | int i => cases r; exact ⟨.int i, rfl, by simp [pyd, PyData.depth]⟩
    | str s => cases r; exact ⟨.str _, sgn_ok l, by simp [pyd, PyData.depth]⟩
    | tup ws =>
      obtain ⟨a, vs, rfl, q1, q2⟩ := r
      have l' : (ws.all (W.lay d)) = true := l
      rw [List.all_eq_true] at l'
      obtain ⟨i1, i2, i3⟩ := layAll (K := C.K) (H := H) (d := d) id q2 fun w hw v r => lay_dp c d w v (l' w hw) r
      rw [List.map_id] at i1 i2 i3
      exact ⟨.tup (.inl (RdM c.frz q1)) i1, i2, by rw [pyd, PyData.depth]; omega⟩
    | lst ws =>
      obtain ⟨a, vs, rfl, q1, q2⟩ := r
      have l' : (ws.all (W.lay d)) = true := l
      rw [List.all_eq_true] at l'
      obtain ⟨i1, i2, i3⟩ := layAll (K := C.K) (H := H) (d := d) id q2 fun w hw v r => lay_dp c d w v (l' w hw) r
      rw [List.map_id] at i1 i2 i3
      exact ⟨.lst (.inl (RdM c.frz q1)) i1, i2, by rw [pyd, PyData.depth]; omega⟩
    | dct _ _ => simp [W.lay] at l
    | obj _ _ _ => simp [W.lay] at l
    | ref _ => simp [W.lay] at l
    | any => simp [W.lay] at l
    | scr _ => simp [W.lay] at l
theorem deep_dp (c : HC C γ h H) : ∀ (e d : Nat) (w : W) (v : V), W.lay d (deep h e w) = true → RW C γ w v → LayP C.K H v d (deep h e w)
  | 0, d, w, v, l, r => lay_dp c d w v l r
  | e + 1, 0, w, v, l, _ => by simp [W.lay] at l
  | e + 1, d + 1, w, v, l, r => by
    unfold deep at l ⊢
    cases hl : look h w with
    | tup ws =>
      obtain ⟨a, vs, rfl, q1, q2⟩ := look_tup c r hl
      rw [hl] at l
      have l' : ((ws.map (deep h e)).all (W.lay d)) = true := l
      rw [List.all_eq_true] at l'
      obtain ⟨i1, i2, i3⟩ := layAll (K := C.K) (H := H) (d := d) (deep h e) q2 fun w hw v r => deep_dp c e d w v (l' _ (List.mem_map_of_mem hw)) r
      exact ⟨.tup (.inl q1) i1, i2, by show (pyd (.tup _)).depth ≤ _; rw [pyd, PyData.depth]; omega⟩
    | lst ws =>
      obtain ⟨a, vs, rfl, q1, q2⟩ := look_lst c r hl
      rw [hl] at l
      have l' : ((ws.map (deep h e)).all (W.lay d)) = true := l
      rw [List.all_eq_true] at l'
      obtain ⟨i1, i2, i3⟩ := layAll (K := C.K) (H := H) (d := d) (deep h e) q2 fun w hw v r => deep_dp c e d w v (l' _ (List.mem_map_of_mem hw)) r
      exact ⟨.lst (.inl q1) i1, i2, by show (pyd (.lst _)).depth ≤ _; rw [pyd, PyData.depth]; omega⟩
    | any => simp [hl, W.lay] at l
    | scr _ => simp [hl, W.lay] at l
    | dct _ _ => simp [hl, W.lay] at l
    | obj _ _ _ => simp [hl, W.lay] at l
    | ref _ => simp [hl, W.lay] at l
    | non => have := look_flat hl trivial; subst this; exact lay_dp c _ _ v rfl r
    | bl b => have := look_flat hl trivial; subst this; exact lay_dp c _ _ v rfl r
    | int i => have := look_flat hl trivial; subst this; exact lay_dp c _ _ v rfl r
    | str s => have := look_flat hl trivial; subst this; rw [hl] at l; exact lay_dp c _ _ v l r
theorem whole_dp (c : HC C γ h H) {d : Nat} {w : W} {v : V} (l : W.lay d (whole h w) = true) (r : RW C γ w v) : LayP C.K H v d (whole h w) := by
  unfold whole at l ⊢
  split at l
  · rename_i u; rw [if_pos u]; exact lay_dp c d w v l r
  · rename_i u; rw [if_neg u]; exact deep_dp c 12 d w v l r
theorem shaped_of {K : PySem.W.Frag} {v : V} {d : Nat} {w : W} (l : LayP K H v d w) (hd : d ≤ 64) : SeqAt.shaped (pyd w) = true := by
  unfold SeqAt.shaped
  rw [l.lay, Bool.true_and]
  exact decide_eq_true (Nat.le_trans l.dep hd)
end
theorem seqNat_iff : ∀ s t : List Nat, seqNat s t = decide (s = t)
  | [], [] => rfl
  | [], _ :: _ => rfl
  | _ :: _, [] => rfl
  | a :: r, b :: t => by
    rw [seqNat, seqNat_iff r t]
    by_cases h : a = b
    · subst h; simp
    · simp [h]
theorem str_beq (s t : List Nat) : ((⟨s.toArray⟩ : Str) == ⟨t.toArray⟩) = seqNat s t := by
  rw [seqNat_iff]
  by_cases h : s = t
  · subst h; simp
  · rw [decide_eq_false h]
    refine beq_eq_false_iff_ne.mpr fun e => h ?_
    have := congrArg Str.cps e
    simpa using this
mutual
theorem eqv_eq : ∀ (d e : Nat) (a b : W), W.lay d a = true → W.lay e b = true → PyData.eqv (pyd a) (pyd b) = W.eq a b
  | 0, _, _, _, l, _ => by simp [W.lay] at l
  | d + 1, 0, _, _, _, l => by simp [W.lay] at l
  | d + 1, e + 1, a, b, la, lb => by
    have ne : ∀ (i : Int) (b : Bool), (i == (if b = true then 1 else 0)) = decide (i = b2i b) := fun i b => by
      cases b <;> rfl
    cases a with
    | dct _ _ => simp [W.lay] at la
    | obj _ _ _ => simp [W.lay] at la
    | ref _ => simp [W.lay] at la
    | any => simp [W.lay] at la
    | scr _ => simp [W.lay] at la
    | non => cases b <;> first | (simp [W.lay] at lb; done) | (simp [pyd, PyData.eqv, W.eq]; done)
    | bl x => cases b <;> first | (simp [W.lay] at lb; done) | (simp [pyd, PyData.eqv, W.eq]; done) | (simp only [pyd, PyData.eqv, W.eq]; cases x <;> rfl)
    | int i => cases b <;> first | (simp [W.lay] at lb; done) | (simp [pyd, PyData.eqv, W.eq]; done) | (simp only [pyd, PyData.eqv, W.eq]; exact ne _ _) | (simp only [pyd, PyData.eqv, W.eq]; rfl)
    | str s => cases b <;> first | (simp [W.lay] at lb; done) | (simp only [pyd, PyData.eqv, W.eq]; exact str_beq _ _) | (simp [pyd, PyData.eqv, W.eq]; done)
    | tup xs => cases b with
      | tup ys =>
        simp only [pyd, PyData.eqv, W.eq]
        exact eqvs_eq d e xs ys (by simpa [W.lay] using la) (by simpa [W.lay] using lb)
      | _ => first | (simp [W.lay] at lb; done) | (simp [pyd, PyData.eqv, W.eq]; done)
    | lst xs => cases b with
      | lst ys =>
        simp only [pyd, PyData.eqv, W.eq]
        exact eqvs_eq d e xs ys (by simpa [W.lay] using la) (by simpa [W.lay] using lb)
      | _ => first | (simp [W.lay] at lb; done) | (simp [pyd, PyData.eqv, W.eq]; done)
theorem eqvs_eq : ∀ (d e : Nat) (xs ys : List W), (∀ x ∈ xs, W.lay d x = true) → (∀ y ∈ ys, W.lay e y = true) → PyData.eqvAll (pyds xs) (pyds ys) = W.eqs xs ys
  | _, _, [], [], _, _ => rfl
  | _, _, [], _ :: _, _, _ => rfl
  | _, _, _ :: _, [], _, _ => rfl
  | d, e, x :: xs, y :: ys, hx, hy => by
    simp only [pyds, PyData.eqvAll, W.eqs]
    rw [eqv_eq d e x y (hx x List.mem_cons_self) (hy y List.mem_cons_self), eqvs_eq d e xs ys (fun z hz => hx z (List.mem_cons_of_mem _ hz)) (fun z hz => hy z (List.mem_cons_of_mem _ hz))]
end
end Ov
namespace Ov
open PySem PySem.Spec PyProof.Rows L2

def kK : W → Key
  | .int i => .inl i
  | .str s => .inr ⟨s.toArray⟩
  | _ => .inl 0
def kX (k : W) : V := kV (kK k)
theorem kX_rw {C : Cf} {γ : Gh} {k : W} {x : V} (f : W.kflat k = true) (r : RW C γ k x) : x = kX k := by
  cases k <;> first | (cases f; done) | (cases r; rfl)
theorem rw_kX {C : Cf} {γ : Gh} {k : W} (f : W.kflat k = true) : RW C γ k (kX k) := by
  cases k <;> first | (cases f; done) | rfl
theorem kK_hash {w : World} {k : W} (f : W.kflat k = true) : (keyN k).hash w = keyH w (kK k) := by
  cases k <;> first | (cases f; done) | rfl
theorem kK_inj {a b : W} (fa : W.kflat a = true) (fb : W.kflat b = true) : (keyN a = keyN b) ↔ (kK a = kK b) := by
  cases a <;> (try (cases fa; done)) <;> cases b <;> (try (cases fb; done)) <;> simp [keyN, kK]
mutual
theorem keq_iff : ∀ (d e : Nat) (a b : W), W.kin d a = true → W.kin e b = true → W.keq a b = decide (keyN a = keyN b)
  | 0, _, _, _, h, _ => by simp [W.kin] at h
  | _ + 1, 0, _, _, _, h => by simp [W.kin] at h
  | d + 1, e + 1, a, b, ha, hb => by
    have bi : ∀ (p q : Bool), (p == q) = decide (b2i p = b2i q) := by decide
    cases a with
    | non => cases b <;> first | (simp [W.kin] at hb; done) | (simp [W.keq, keyN])
    | bl x => cases b <;> first | (simp [W.kin] at hb; done) | (simp [W.keq, keyN]; done) | (simp only [W.keq, keyN, bi, NestedKey.num.injEq])
    | int i => cases b <;> first | (simp [W.kin] at hb; done) | (simp [W.keq, keyN])
    | str s => cases b <;> first | (simp [W.kin] at hb; done) | (simp [W.keq, keyN]; done) | (
        rename_i t
        have q : ∀ (u v : List Nat), seqNat u v = decide (u = v) := by
          intro u
          induction u with
          | nil => intro v; cases v <;> rfl
          | cons a r ih =>
            intro v
            cases v with
            | nil => rfl
            | cons b t =>
              rw [seqNat, ih t]
              by_cases z : a = b
              · subst z; simp
              · simp [z]
        simp only [W.keq, keyN, q, NestedKey.text.injEq, Str.mk.injEq]
        congr 1
        simp)
    | tup xs => cases b with
      | tup ys =>
        have l1 : (∀ x ∈ xs, W.kin d x = true) := by simpa [W.kin] using ha
        have l2 : (∀ y ∈ ys, W.kin e y = true) := by simpa [W.kin] using hb
        simp only [W.keq, keyN, keqs_iff d e xs ys l1 l2, NestedKey.tup.injEq]
      | _ => first | (simp [W.kin] at hb; done) | (simp [W.keq, keyN])
    | _ => simp [W.kin] at ha
theorem keqs_iff : ∀ (d e : Nat) (xs ys : List W), (∀ x ∈ xs, W.kin d x = true) → (∀ y ∈ ys, W.kin e y = true) → W.keqs xs ys = decide (keyNs xs = keyNs ys)
  | _, _, [], [], _, _ => rfl
  | _, _, [], _ :: _, _, _ => by simp [W.keqs, keyNs]
  | _, _, _ :: _, [], _, _ => by simp [W.keqs, keyNs]
  | d, e, x :: xs, y :: ys, hx, hy => by
    simp only [W.keqs, keyNs, List.cons.injEq]
    rw [keq_iff d e x y (hx x List.mem_cons_self) (hy y List.mem_cons_self), keqs_iff d e xs ys (fun z hz => hx z (List.mem_cons_of_mem _ hz)) (fun z hz => hy z (List.mem_cons_of_mem _ hz))]
    by_cases p : keyN x = keyN y <;> by_cases q : keyNs xs = keyNs ys <;> simp [p, q]
end
theorem key_kin {k : W} (h : W.key k = true) : W.kin 8 k = true := by
  cases k <;> first | (cases h; done) | rfl | exact h
theorem key_eq {a b : W} (ha : W.key a = true) (hb : W.key b = true) : W.keq a b = decide (keyN a = keyN b) := keq_iff 8 8 a b (key_kin ha) (key_kin hb)
theorem key_flat {k : W} (h : W.key k = true) (t : W.isTup k = false) : W.kflat k = true := by
  cases k <;> first | (cases t; done) | exact h
theorem kfit_of {k : W} {ks : List W} (o : KeysOk ks) (h : kfit k ks = true) : W.key k = true ∧ ∀ j ∈ ks, W.isTup j = W.isTup k := by
  cases ks with
  | nil => exact ⟨h, fun j hj => nomatch hj⟩
  | cons a r =>
    simp only [kfit, Bool.and_eq_true, beq_iff_eq] at h
    refine ⟨h.1, fun j hj => ?_⟩
    rcases o.sort with s | s
    · rw [s j hj, h.2, s a List.mem_cons_self]
    · rw [s j hj, h.2, s a List.mem_cons_self]

section
variable {C : Cf} {γ : Gh} {P : Program} {w : World} {H : Hp} {g : Heap} {hw : Hw}
mutual
theorem nest_is (c : HC C γ hw H) (ok : HOk P w H g) : ∀ (d : Nat) (k : W) (x : V) (u : Value), W.kin d k = true → RW C γ k x → RelV x u → NestedIs g (keyN k) u ∧ (keyN k).depth ≤ d
  | 0, _, _, _, h, _, _ => by simp [W.kin] at h
  | d + 1, .non, x, u, _, r, rx => by cases r; cases rx; exact ⟨.none, by simp [keyN, NestedKey.depth]⟩
  | d + 1, .bl b, x, u, _, r, rx => by cases r; cases rx; exact ⟨.bool (by cases b <;> rfl), by simp [keyN, NestedKey.depth]⟩
  | d + 1, .int i, x, u, _, r, rx => by cases r; obtain ⟨t, rfl⟩ := rx; exact ⟨.int _ _, by simp [keyN, NestedKey.depth]⟩
  | d + 1, .str s, x, u, _, r, rx => by cases r; obtain ⟨t, rfl⟩ := rx; exact ⟨.text _ _, by simp [keyN, NestedKey.depth]⟩
  | d + 1, .tup ks, x, u, h, r, rx => by
    obtain ⟨a, vs, rfl, q1, q2⟩ := r
    obtain rfl : u = Value.ref a := rx
    have l : ∀ k ∈ ks, W.kin d k = true := by simpa [W.kin] using h
    obtain ⟨_, its, rv, ob, e1, e2, n, e3⟩ := (RdM c.frz q1).ok ok
    obtain ⟨n1, n2⟩ := nests_is c ok d ks vs its l q2 rv
    refine ⟨NestedIs.tup e1 e2 e3 (by simpa using n1), ?_⟩
    simp only [keyN, NestedKey.depth]; omega
  | _ + 1, .lst _, _, _, h, _, _ => by simp [W.kin] at h
  | _ + 1, .dct _ _, _, _, h, _, _ => by simp [W.kin] at h
  | _ + 1, .obj _ _ _, _, _, h, _, _ => by simp [W.kin] at h
  | _ + 1, .ref _, _, _, h, _, _ => by simp [W.kin] at h
  | _ + 1, .any, _, _, h, _, _ => by simp [W.kin] at h
  | _ + 1, .scr _, _, _, h, _, _ => by simp [W.kin] at h
theorem nests_is (c : HC C γ hw H) (ok : HOk P w H g) : ∀ (d : Nat) (ks : List W) (xs : List V) (us : List Value), (∀ k ∈ ks, W.kin d k = true) → RWs C γ ks xs → Vals xs us → NestedAll g (keyNs ks) us ∧ NestedKey.depthAll (keyNs ks) ≤ d
  | _, [], xs, us, _, r, rv => by cases r; cases rv; exact ⟨.nil, Nat.zero_le _⟩
  | d, k :: ks, xs, us, h, r, rv => by
    obtain ⟨x, xr, rfl, r1, r2⟩ := r
    cases rv with
    | cons v1 v2 =>
      obtain ⟨a1, a2⟩ := nest_is c ok d k x _ (h k List.mem_cons_self) r1 v1
      obtain ⟨b1, b2⟩ := nests_is c ok d ks xr _ (fun j hj => h j (List.mem_cons_of_mem _ hj)) r2 v2
      exact ⟨.cons a1 b1, by simp only [keyNs, NestedKey.depthAll]; omega⟩
end
theorem tup_key (c : HC C γ hw H) (ok : HOk P w H g) {k : W} {x : V} {u : Value} (hk : W.key k = true) (t : W.isTup k = true) (r : RW C γ k x) (rx : RelV x u) : ∃ b, x = .ref b ∧ u = .ref b ∧ (nestedKind P w).is g (keyN k) b := by
  cases k with
  | tup ks =>
    obtain ⟨n1, n2⟩ := nest_is c ok 8 (.tup ks) x u (key_kin hk) r rx
    obtain ⟨a, vs, rfl, _⟩ := r
    obtain rfl : u = Value.ref a := rx
    exact ⟨a, rfl, rfl, n1, by omega⟩
  | _ => cases t
theorem flat_is {k : W} {x : V} {u : Value} (f : W.kflat k = true) (r : RW C γ k x) (rx : RelV x u) : (mixKind P w).is (kK k) u = true := by
  have := kX_rw f r
  subst this
  exact kV_is rx

theorem Ents.len : ∀ {ks : List W} {xs ys : List V} {ds : List DictEntry}, Ents w ks xs ys ds → xs.length = ks.length ∧ ys.length = ks.length ∧ ds.length = ks.length
  | _, _, _, _, .nil => ⟨rfl, rfl, rfl⟩
  | _, _, _, _, .cons _ _ _ e => by
    obtain ⟨a, b, c⟩ := e.len
    simp [a, b, c]
theorem ents_pairs : ∀ {ks : List W} {xs ys : List V} {ds : List DictEntry}, Ents w ks xs ys ds → (∀ k ∈ ks, W.kflat k = true) → RWs C γ ks xs →
    ∃ kvs, Pairs (mixKind P w) ds kvs ∧ KV ((ks.map kK).zip ys) kvs ∧ kvs.map (·.1) = ks.map kK ∧ ∀ e ∈ ds, ∃ k, (mixKind P w).is k e.key = true ∧ e.hash = (mixKind P w).hash k
  | _, _, _, _, .nil, _, _ => ⟨[], .nil, .nil, rfl, fun _ h => nomatch h⟩
  | k :: ks, _, _, d :: _, .cons r1 r2 r3 e, f, r => by
    obtain ⟨x, xr, ex, q1, q2⟩ := r
    cases ex
    obtain ⟨kvs, p1, p2, p3, p4⟩ := ents_pairs e (fun j hj => f j (List.mem_cons_of_mem _ hj)) q2
    have fk := f k List.mem_cons_self
    have i := flat_is (P := P) (w := w) fk q1 r1
    refine ⟨(kK k, d.val) :: kvs, .cons i rfl p1, .cons ⟨rfl, r2⟩ p2, by simp [p3], fun e he => ?_⟩
    rcases List.mem_cons.mp he with rfl | he
    · exact ⟨kK k, i, r3.trans (kK_hash fk)⟩
    · exact p4 e he
theorem keysOk_kK {ks : List W} (o : KeysOk ks) (f : ∀ k ∈ ks, W.kflat k = true) : (ks.map kK).Nodup := by
  have n := o.nd
  clear o
  induction ks with
  | nil => simp
  | cons k ks ih =>
    rw [List.map_cons, List.nodup_cons] at n ⊢
    refine ⟨fun h => n.1 ?_, ih (fun j hj => f j (List.mem_cons_of_mem _ hj)) n.2⟩
    obtain ⟨j, hj, e⟩ := List.mem_map.mp h
    exact List.mem_map.mpr ⟨j, hj, (kK_inj (f j (List.mem_cons_of_mem _ hj)) (f k List.mem_cons_self)).mpr e⟩
theorem do_flat {a : Addr} {o : Obj} {ks : List W} {xs ys : List V} (d : DO w a o ks xs ys) (f : ∀ k ∈ ks, W.kflat k = true) (r : RWs C γ ks xs) (e : g.get? a = some o) :
    ∃ kvs, KV ((ks.map kK).zip ys) kvs ∧ g.DictOf (mixKind P w) a kvs ∧ kvs.length ≤ sizeLine := by
  obtain ⟨es, ep, hd, en⟩ := d.data
  obtain ⟨kvs, p1, p2, p3, p4⟩ := ents_pairs (P := P) en f r
  refine ⟨kvs, p2, ⟨o, es, ep, e, d.ex, hd, fun x hx => p4 x (by simpa using hx), p1, by rw [p3]; exact keysOk_kK d.ok f⟩, ?_⟩
  have : kvs.length = ks.length := by rw [← List.length_map (f := (·.1)) (as := kvs), p3, List.length_map]
  rw [this]; exact d.ok.size
theorem pairs_ents : ∀ {ks : List W} {ys : List V} {ds : List DictEntry} {kvs : List (Key × Value)}, Pairs (mixKind P w) ds kvs → KV ((ks.map kK).zip ys) kvs → ys.length = ks.length → (∀ k ∈ ks, W.kflat k = true) →
    (∀ e ∈ ds, ∃ k, (mixKind P w).is k e.key = true ∧ e.hash = (mixKind P w).hash k) → Ents w ks (ks.map kX) ys ds
  | [], ys, ds, kvs, p, q, l, _, _ => by
    cases q
    cases p
    have : ys = [] := List.length_eq_zero_iff.mp l
    subst this
    exact .nil
  | k :: ks, [], _, _, _, _, l, _, _ => by simp at l
  | k :: ks, y :: ys, ds, kvs, p, q, l, f, hk => by
    cases q with
    | cons q1 q2 =>
      cases p with
      | @cons d _ _ _ p1 p2 p3 =>
        obtain ⟨e1, e2⟩ := q1
        have p1 : (mixKind P w).is (kK k) d.key = true := by rw [show kK k = _ from e1]; exact p1
        have fk := f k List.mem_cons_self
        have rk : RelV (kX k) d.key := by
          rcases keyIs_shape p1 with ⟨i, t, a, b⟩ | ⟨x, t, a, b⟩
          · show RelV (kV (kK k)) d.key
            rw [a, b]; exact ⟨t, rfl⟩
          · show RelV (kV (kK k)) d.key
            rw [a, b]; exact ⟨t, rfl⟩
        obtain ⟨k', i', h'⟩ := hk d List.mem_cons_self
        have : k' = kK k := (mixKind P w).inj _ _ _ i' p1
        subst this
        exact .cons rk (by rw [p2]; exact e2) (h'.trans (kK_hash fk).symm) (pairs_ents p3 q2 (by simpa using l) (fun j hj => f j (List.mem_cons_of_mem _ hj)) fun e he => hk e (List.mem_cons_of_mem _ he))
theorem rws_kX : ∀ {ks : List W}, (∀ k ∈ ks, W.kflat k = true) → RWs C γ ks (ks.map kX)
  | [], _ => rfl
  | k :: ks, f => ⟨_, _, rfl, rw_kX (f k List.mem_cons_self), rws_kX fun j hj => f j (List.mem_cons_of_mem _ hj)⟩
theorem flat_do {a : Addr} {ks : List W} {ys : List V} {kvs : List (Key × Value)} (sys : (a == sysModules) = false) (ok : KeysOk ks) (f : ∀ k ∈ ks, W.kflat k = true) (l : ys.length = ks.length) (q : KV ((ks.map kK).zip ys) kvs) (dd : g.DictOf (mixKind P w) a kvs) :
    ∃ o, g.get? a = some o ∧ DO w a o ks (ks.map kX) ys := by
  obtain ⟨o, es, ep, e, ex, hd, hk, p, n⟩ := dd
  exact ⟨o, e, ex, sys, ⟨es, ep, hd, pairs_ents p q l f fun x hx => hk x (by simpa using hx)⟩, ok⟩
theorem ents_trip (c : HC C γ hw H) (ok : HOk P w H g) : ∀ {ks : List W} {xs ys : List V} {ds : List DictEntry}, Ents w ks xs ys ds → (∀ k ∈ ks, W.key k = true ∧ W.isTup k = true) → RWs C γ ks xs →
    ∃ ts : List (NestedKey × Addr × Value), ds = ts.map (entryOfKey (nestedKind P w)) ∧ ts.map (·.1) = ks.map keyN ∧ xs = ts.map (fun t => V.ref t.2.1) ∧ Paired RelV ys (ts.map (·.2.2)) ∧ ∀ t ∈ ts, (nestedKind P w).is g t.1 t.2.1
  | _, _, _, _, .nil, _, _ => ⟨[], rfl, rfl, rfl, .nil, fun _ h => nomatch h⟩
  | k :: ks, _, _, d :: _, .cons r1 r2 r3 e, f, r => by
    obtain ⟨x, xr, ex, q1, q2⟩ := r
    cases ex
    obtain ⟨ts, p1, p2, p3, p4, p5⟩ := ents_trip c ok e (fun j hj => f j (List.mem_cons_of_mem _ hj)) q2
    obtain ⟨fk, ft⟩ := f k List.mem_cons_self
    obtain ⟨b, rfl, e2, i⟩ := tup_key c ok fk ft q1 r1
    refine ⟨(keyN k, b, d.val) :: ts, ?_, by simp [p2], by simp [p3], .cons r2 p4, fun t ht => ?_⟩
    · rw [List.map_cons, ← p1]
      congr 1
      cases d
      simp only at e2 r3
      subst e2 r3
      rfl
    · rcases List.mem_cons.mp ht with rfl | ht
      · exact i
      · exact p5 t ht
theorem do_tup (c : HC C γ hw H) (ok : HOk P w H g) {a : Addr} {o : Obj} {ks : List W} {xs ys : List V} (d : DO w a o ks xs ys) (f : ∀ k ∈ ks, W.isTup k = true) (r : RWs C γ ks xs) (e : g.get? a = some o) :
    ∃ ts : List (NestedKey × Addr × Value), g.DictOfH (nestedKind P w) a ts ∧ ts.map (·.1) = ks.map keyN ∧ xs = ts.map (fun t => V.ref t.2.1) ∧ Paired RelV ys (ts.map (·.2.2)) ∧ ts.length ≤ sizeLine := by
  obtain ⟨es, ep, hd, en⟩ := d.data
  obtain ⟨ts, p1, p2, p3, p4, p5⟩ := ents_trip c ok en (fun k hk => ⟨d.ok.key k hk, f k hk⟩) r
  refine ⟨ts, ⟨o, es, ep, e, d.ex, hd, p1, p5, by rw [p2]; exact d.ok.nd⟩, p2, p3, p4, ?_⟩
  have : ts.length = ks.length := by rw [← List.length_map (f := (·.1)) (as := ts), p2, List.length_map]
  rw [this]; exact d.ok.size
theorem trip_ents : ∀ {ks : List W} {ys : List V} {ts : List (NestedKey × Addr × Value)}, ts.map (·.1) = ks.map keyN → Paired RelV ys (ts.map (·.2.2)) → Ents w ks (ts.map fun t => V.ref t.2.1) ys (ts.map (entryOfKey (nestedKind P w)))
  | [], ys, ts, e, q => by
    have : ts = [] := by simpa using e
    subst this
    cases q
    exact .nil
  | k :: ks, ys, [], e, q => by simp at e
  | k :: ks, ys, t :: ts, e, q => by
    rw [List.map_cons, List.map_cons, List.cons.injEq] at e
    cases q with
    | cons q1 q2 => exact .cons rfl q1 (by rw [← e.1]; rfl) (trip_ents e.2 q2)
theorem tup_do {a : Addr} {ks : List W} {ys : List V} {ts : List (NestedKey × Addr × Value)} (sys : (a == sysModules) = false) (ok : KeysOk ks) (e : ts.map (·.1) = ks.map keyN) (q : Paired RelV ys (ts.map (·.2.2))) (dd : g.DictOfH (nestedKind P w) a ts) :
    ∃ o, g.get? a = some o ∧ DO w a o ks (ts.map fun t => V.ref t.2.1) ys := by
  obtain ⟨o, es, ep, e1, ex, hd, he, _, _⟩ := dd
  exact ⟨o, e1, ex, sys, ⟨es, ep, hd, by rw [he]; exact trip_ents e q⟩, ok⟩
end
end Ov
namespace Ov
open PySem PySem.Spec PyProof.Rows L2
section
variable {C : Cf} {γ : Gh}
theorem keq_flat {a b : W} (fa : W.kflat a = true) (fb : W.kflat b = true) : W.keq a b = decide (kK a = kK b) := by
  have ka : W.key a = true := by cases a <;> first | exact fa | cases fa
  have kb : W.key b = true := by cases b <;> first | exact fb | cases fb
  rw [key_eq ka kb]
  by_cases e : keyN a = keyN b
  · rw [decide_eq_true e, decide_eq_true ((kK_inj fa fb).mp e)]
  · rw [decide_eq_false e, decide_eq_false fun z => e ((kK_inj fa fb).mpr z)]
theorem dget_flat {k : W} (fk : W.kflat k = true) : ∀ {ks ws : List W} {ys : List V}, (∀ j ∈ ks, W.kflat j = true) → RWs C γ ws ys → ws.length = ks.length →
    match dget k ks ws with
    | some w => ∃ y, valV ((ks.map kK).zip ys) (kK k) = some y ∧ RW C γ w y
    | none => valV ((ks.map kK).zip ys) (kK k) = none
  | [], ws, ys, _, _, _ => by simp [dget, valV]
  | j :: ks, [], _, _, _, l => by simp at l
  | j :: ks, w :: ws, ys, f, r, l => by
    obtain ⟨y, yr, rfl, r1, r2⟩ := r
    have fj := f j List.mem_cons_self
    unfold dget
    rw [keq_flat fj fk]
    rw [List.map_cons, List.zip_cons_cons]
    by_cases e : kK j = kK k
    · rw [decide_eq_true e]
      exact ⟨y, valV_pos e, r1⟩
    · rw [decide_eq_false e]
      simp only [Bool.false_eq_true, if_false]
      rw [valV_neg (p := (kK j, y)) e]
      exact dget_flat fk (fun i hi => f i (List.mem_cons_of_mem _ hi)) r2 (by simpa using l)
theorem dget_tup {k : W} (fk : W.key k = true) : ∀ {ks ws : List W} {ys : List V} {ts : List (NestedKey × Addr × Value)}, (∀ j ∈ ks, W.key j = true) → ts.map (·.1) = ks.map keyN → Paired RelV ys (ts.map (·.2.2)) → RWs C γ ws ys → ws.length = ks.length →
    match dget k ks ws with
    | some w => ∃ y b v, atKey ts (keyN k) = some (b, v) ∧ RelV y v ∧ RW C γ w y
    | none => atKey ts (keyN k) = none
  | [], ws, ys, ts, _, e, _, _, _ => by
    have : ts = [] := by simpa using e
    subst this
    simp [dget, atKey]
  | j :: ks, [], _, _, _, _, _, _, l => by simp at l
  | j :: ks, w :: ws, ys, [], f, e, q, r, l => by simp at e
  | j :: ks, w :: ws, ys, t :: ts, f, e, q, r, l => by
    obtain ⟨y, yr, rfl, r1, r2⟩ := r
    rw [List.map_cons] at q
    cases q with
    | cons q1 q2 =>
      rw [List.map_cons, List.map_cons, List.cons.injEq] at e
      have fj := f j List.mem_cons_self
      unfold dget
      rw [key_eq fj fk]
      by_cases z : keyN j = keyN k
      · rw [decide_eq_true z]
        exact ⟨y, t.2.1, t.2.2, by unfold atKey; rw [List.find?_cons, e.1, decide_eq_true z]; rfl, q1, r1⟩
      · rw [decide_eq_false z]
        simp only [Bool.false_eq_true, if_false]
        have s : atKey (t :: ts) (keyN k) = atKey ts (keyN k) := by unfold atKey; rw [List.find?_cons, e.1, decide_eq_false z]
        rw [s]
        exact dget_tup fk (fun i hi => f i (List.mem_cons_of_mem _ hi)) e.2 q2 r2 (by simpa using l)
theorem dset_keys {k v : W} (fk : W.key k = true) : ∀ {ks ws : List W}, (∀ j ∈ ks, W.key j = true) → ws.length = ks.length →
    ((∃ w, dget k ks ws = some w) ∧ (dset k v ks ws).1 = ks) ∨ (dget k ks ws = none ∧ (dset k v ks ws).1 = ks ++ [k] ∧ (dset k v ks ws).2 = ws ++ [v] ∧ keyN k ∉ ks.map keyN)
  | [], ws, _, l => by
    have : ws = [] := List.length_eq_zero_iff.mp l
    subst this
    exact .inr ⟨rfl, rfl, rfl, by simp⟩
  | j :: ks, [], _, l => by simp at l
  | j :: ks, w :: ws, f, l => by
    have fj := f j List.mem_cons_self
    unfold dget dset
    by_cases z : W.keq j k = true
    · rw [z]; exact .inl ⟨⟨w, rfl⟩, rfl⟩
    · have z' : W.keq j k = false := by simpa using z
      rw [z']
      simp only [Bool.false_eq_true, if_false]
      rcases dset_keys (v := v) fk (fun i hi => f i (List.mem_cons_of_mem _ hi)) (show ws.length = ks.length by simpa using l) with ⟨a, b⟩ | ⟨a, b, c, d⟩
      · exact .inl ⟨a, by rw [b]⟩
      · refine .inr ⟨a, by rw [b]; rfl, by rw [c]; rfl, fun h => ?_⟩
        rw [List.map_cons, List.mem_cons] at h
        rcases h with h | h
        · rw [key_eq fj fk, decide_eq_true h.symm] at z'; cases z'
        · exact d h
theorem dset_len (k v : W) : ∀ (ks ws : List W), ws.length = ks.length → (dset k v ks ws).2.length = (dset k v ks ws).1.length
  | [], ws, l => by
    have : ws = [] := List.length_eq_zero_iff.mp l
    subst this; rfl
  | j :: ks, [], l => by simp at l
  | j :: ks, w :: ws, l => by
    unfold dset
    by_cases z : W.keq j k = true
    · rw [z]; simpa using l
    · have z' : W.keq j k = false := by simpa using z
      rw [z']
      simp only [Bool.false_eq_true, if_false, List.length_cons]
      rw [dset_len k v ks ws (by simpa using l)]
theorem keysOk_dset {k v : W} {ks ws : List W} (o : KeysOk ks) (fit : kfit k ks = true) (l : ws.length = ks.length) (z : ks.length < sizeLine) : KeysOk (dset k v ks ws).1 := by
  obtain ⟨fk, fs⟩ := kfit_of o fit
  rcases dset_keys (v := v) fk o.key l with ⟨_, b⟩ | ⟨_, b, _, d⟩
  · rw [b]; exact o
  · rw [b]
    refine ⟨fun j hj => ?_, ?_, ?_, by rw [List.length_append, List.length_singleton]; omega⟩
    · rcases List.mem_append.mp hj with h | h
      · exact o.key j h
      · rw [List.mem_singleton.mp h]; exact fk
    · cases t : W.isTup k with
      | true =>
        refine .inl fun j hj => ?_
        rcases List.mem_append.mp hj with h | h
        · rw [fs j h, t]
        · rw [List.mem_singleton.mp h, t]
      | false =>
        refine .inr fun j hj => ?_
        rcases List.mem_append.mp hj with h | h
        · rw [fs j h, t]
        · rw [List.mem_singleton.mp h, t]
    · rw [List.map_append, List.nodup_append]
      refine ⟨o.nd, by simp, fun x hx y hy => ?_⟩
      have : y = keyN k := by simpa using hy
      subst this
      exact fun e => d (e ▸ hx)
theorem map_none {kvs : List (Key × V)} {k : Key} {y : V} (h : k ∉ kvs.map (·.1)) : (kvs.map fun kv => if kv.1 = k then (kv.1, y) else kv) = kvs := by
  induction kvs with
  | nil => rfl
  | cons p r ih =>
    rw [List.map_cons, List.mem_cons, not_or] at h
    rw [List.map_cons, if_neg (fun e => h.1 e.symm), ih h.2]
theorem putK_pos {p : Key × V} {r : List (Key × V)} {k : Key} {y : V} (e : p.1 = k) (n : k ∉ r.map (·.1)) : putK (p :: r) k y = (p.1, y) :: r := by
  unfold putK
  rw [List.any_cons, decide_eq_true e, Bool.true_or, if_pos rfl, List.map_cons, if_pos e, map_none n]
theorem putK_neg {p : Key × V} {r : List (Key × V)} {k : Key} {y : V} (e : ¬ p.1 = k) : putK (p :: r) k y = p :: putK r k y := by
  unfold putK
  rw [List.any_cons, decide_eq_false e, Bool.false_or]
  split
  · rw [List.map_cons, if_neg e]
  · rfl
theorem zip_fst : ∀ {α β : Type} {as : List α} {bs : List β}, bs.length = as.length → (as.zip bs).map (·.1) = as
  | _, _, [], _, _ => by simp
  | _, _, a :: as, [], l => by simp at l
  | _, _, a :: as, b :: bs, l => by rw [List.zip_cons_cons, List.map_cons, zip_fst (by simpa using l)]
theorem dset_flat {k v : W} {y : V} (fk : W.kflat k = true) (rv : RW C γ v y) : ∀ {ks ws : List W} {ys : List V}, (∀ j ∈ ks, W.kflat j = true) → (ks.map kK).Nodup → RWs C γ ws ys → ws.length = ks.length →
    ∃ us, RWs C γ (dset k v ks ws).2 us ∧ ((dset k v ks ws).1.map kK).zip us = putK ((ks.map kK).zip ys) (kK k) y
  | [], ws, ys, _, _, r, l => by
    have : ws = [] := List.length_eq_zero_iff.mp l
    subst this
    cases r
    exact ⟨[y], ⟨y, [], rfl, rv, rfl⟩, rfl⟩
  | j :: ks, [], _, _, _, _, l => by simp at l
  | j :: ks, w :: ws, ys, f, n, r, l => by
    obtain ⟨y0, yr, rfl, r1, r2⟩ := r
    have fj := f j List.mem_cons_self
    rw [List.map_cons, List.nodup_cons] at n
    have lr : yr.length = (ks.map kK).length := by rw [List.length_map, ← r2.length]; simpa using l
    unfold dset
    rw [keq_flat fj fk, List.map_cons, List.zip_cons_cons]
    by_cases e : kK j = kK k
    · rw [decide_eq_true e]
      refine ⟨y :: yr, ⟨_, _, rfl, rv, r2⟩, ?_⟩
      rw [putK_pos (p := (kK j, y0)) e (by rw [zip_fst lr, ← e]; exact n.1)]
      rfl
    · rw [decide_eq_false e]
      simp only [Bool.false_eq_true, if_false]
      obtain ⟨us, a, b⟩ := dset_flat fk rv (fun i hi => f i (List.mem_cons_of_mem _ hi)) n.2 r2 (by simpa using l)
      refine ⟨y0 :: us, ⟨_, _, rfl, r1, a⟩, ?_⟩
      rw [putK_neg (p := (kK j, y0)) e, ← b]
      rfl
theorem storedH_pos {t : NestedKey × Addr × Value} {ts : List (NestedKey × Addr × Value)} {k : NestedKey} {b : Addr} {v : Value} (e : t.1 = k) (n : k ∉ ts.map (·.1)) : storedH (t :: ts) k b v = (t.1, t.2.1, v) :: ts := by
  have h : atKey (t :: ts) k = some t.2 := by unfold atKey; rw [List.find?_cons, decide_eq_true e]; rfl
  rw [storedH_old (p := t.2) h, List.map_cons, map_putAt_of_not_mem ts k v n]
  unfold putAt
  rw [if_pos e]
theorem storedH_neg {t : NestedKey × Addr × Value} {ts : List (NestedKey × Addr × Value)} {k : NestedKey} {b : Addr} {v : Value} (e : ¬ t.1 = k) : storedH (t :: ts) k b v = t :: storedH ts k b v := by
  have h : atKey (t :: ts) k = atKey ts k := by unfold atKey; rw [List.find?_cons, decide_eq_false e]
  unfold storedH
  rw [h]
  split
  · rw [List.map_cons]; unfold putAt; rw [if_neg e]
  · rfl
theorem dset_tup {k v : W} {b : Addr} {y : V} {u : Value} (fk : W.key k = true) (rk : RW C γ k (.ref b)) (rv : RW C γ v y) (ru : RelV y u) : ∀ {ks ws : List W} {ys : List V} {ts : List (NestedKey × Addr × Value)}, (∀ j ∈ ks, W.key j = true) → (ks.map keyN).Nodup →
    ts.map (·.1) = ks.map keyN → RWs C γ ks (ts.map fun t => V.ref t.2.1) → Paired RelV ys (ts.map (·.2.2)) → RWs C γ ws ys → ws.length = ks.length →
    ∃ us, RWs C γ (dset k v ks ws).2 us ∧ (storedH ts (keyN k) b u).map (·.1) = (dset k v ks ws).1.map keyN ∧ RWs C γ (dset k v ks ws).1 ((storedH ts (keyN k) b u).map fun t => V.ref t.2.1) ∧ Paired RelV us ((storedH ts (keyN k) b u).map (·.2.2))
  | [], ws, ys, ts, _, _, e, _, _, r, l => by
    have : ws = [] := List.length_eq_zero_iff.mp l
    subst this
    have : ts = [] := by simpa using e
    subst this
    cases r
    exact ⟨[y], ⟨y, [], rfl, rv, rfl⟩, rfl, ⟨_, _, rfl, rk, rfl⟩, .cons ru .nil⟩
  | j :: ks, [], _, _, _, _, _, _, _, _, l => by simp at l
  | j :: ks, w :: ws, ys, [], f, _, e, _, q, r, l => by simp at e
  | j :: ks, w :: ws, ys, t :: ts, f, n, e, rj, q, r, l => by
    obtain ⟨y0, yr, rfl, r1, r2⟩ := r
    rw [List.map_cons] at q
    cases q with
    | cons q1 q2 =>
      rw [List.map_cons, List.map_cons, List.cons.injEq] at e
      rw [List.map_cons, List.nodup_cons] at n
      obtain ⟨x0, xr, ex, j1, j2⟩ := rj
      rw [List.map_cons, List.cons.injEq] at ex
      obtain ⟨ex1, ex2⟩ := ex
      subst ex1 ex2
      have fj := f j List.mem_cons_self
      unfold dset
      rw [key_eq fj fk]
      by_cases z : keyN j = keyN k
      · rw [decide_eq_true z]
        have s := storedH_pos (t := t) (ts := ts) (k := keyN k) (b := b) (v := u) (e.1.trans z) (by rw [e.2, ← z]; exact n.1)
        rw [s]
        exact ⟨y :: yr, ⟨_, _, rfl, rv, r2⟩, by simp [e.1, e.2], ⟨_, _, rfl, j1, j2⟩, .cons ru q2⟩
      · rw [decide_eq_false z]
        simp only [Bool.false_eq_true, if_false]
        obtain ⟨us, a1, a2, a3, a4⟩ := dset_tup fk rk rv ru (fun i hi => f i (List.mem_cons_of_mem _ hi)) n.2 e.2 j2 q2 r2 (by simpa using l)
        have s := storedH_neg (t := t) (ts := ts) (k := keyN k) (b := b) (v := u) (fun h => z (e.1.symm.trans h))
        rw [s]
        exact ⟨y0 :: us, ⟨_, _, rfl, r1, a1⟩, by simp [e.1, a2], ⟨_, _, rfl, j1, a3⟩, .cons q1 a4⟩
end
end Ov
namespace Ov
open PySem PySem.Spec PyProof.Rows L2
def DAt (C : Cf) (γ : Gh) (H : Hp) (a : Addr) (ks ws : List W) : Prop := ∃ o xs ys, H a = some (pin a o) ∧ DO C.w a o ks xs ys ∧ RWs C γ ks xs ∧ RWs C γ ws ys
theorem DAt.len {C : Cf} {γ : Gh} {H : Hp} {a : Addr} {ks ws : List W} : DAt C γ H a ks ws → ws.length = ks.length := fun ⟨o, xs, ys, _, d, r1, r2⟩ => by
  obtain ⟨es, ep, _, en⟩ := d.data
  obtain ⟨l1, l2, _⟩ := en.len
  rw [r2.length, l2]
theorem DAt.ok {C : Cf} {γ : Gh} {H : Hp} {a : Addr} {ks ws : List W} : DAt C γ H a ks ws → KeysOk ks := fun ⟨_, _, _, _, d, _⟩ => d.ok
theorem pin_ok {P : Program} {w : World} {H : Hp} {g : Heap} {a : Addr} {o : Obj} (e : g.get? a = some o) : ObjOk P w H g a (pin a o) := ⟨e, ⟨_, e⟩, fun _ _ p k => k _ p⟩
theorem pin_get {P : Program} {w : World} {H : Hp} {g : Heap} {a : Addr} {o : Obj} (ok : HOk P w H g) (e : H a = some (pin a o)) : g.get? a = some o := (show ObjOk P w H g a (pin a o) from ok a _ e).1
theorem flat_all {ks : List W} {k : W} (o : KeysOk ks) (fit : kfit k ks = true) (t : W.isTup k = false) : W.kflat k = true ∧ ∀ j ∈ ks, W.kflat j = true := by
  obtain ⟨fk, fs⟩ := kfit_of o fit
  exact ⟨key_flat fk t, fun j hj => key_flat (o.key j hj) ((fs j hj).trans t)⟩
theorem tup_all {ks : List W} {k : W} (o : KeysOk ks) (fit : kfit k ks = true) (t : W.isTup k = true) : W.key k = true ∧ ∀ j ∈ ks, W.isTup j = true := by
  obtain ⟨fk, fs⟩ := kfit_of o fit
  exact ⟨fk, fun j hj => (fs j hj).trans t⟩
theorem tup_ref {C : Cf} {γ : Gh} {hw : Hw} {H : Hp} {P : Program} {w : World} {g : Heap} (c : HC C γ hw H) (ok : HOk P w H g) {k : W} {x : V} {u : Value} (hk : W.key k = true) (t : W.isTup k = true) (r : RW C γ k x) (rx : RelV x u) :
    ∃ b, x = .ref b ∧ u = .ref b ∧ (nestedKind P w).is g (keyN k) b := tup_key c ok hk t r rx
section
variable {X : Cx} {C : Cf} {γ : Gh} {hw : Hw} {pins : List (Addr × Obj)} {σ : L2.St} {H : Hp} {s : Shared} {a : Addr} {ks ws : List W} {k w v : W} {x y : V} {u r : Value} {A : Around} {E : Value → Shared → Prop}
theorem nroom (hu : A.units + 9 < cLine) : (nestedKind X.prog X.w).room A.in1 := by
  show A.in1.units + 8 < cLine
  rw [Around.in1_units]; omega
theorem w_type (I : Inv X pins σ H s) (d : DAt C γ H a ks ws) : s.TypeIs (.ref a) "dict" ∧ (∀ b, Value.ref a = .ref b → ∃ ob, s.heap.get? b = some ob ∧ ob.dict = none) ∧ (a == sysModules) = false := by
  obtain ⟨o, xs, ys, e, d, _⟩ := d
  have e' := pin_get I.hok e
  refine ⟨⟨o, e', d.ex.1⟩, fun b q => ?_, d.sys⟩
  cases q
  exact ⟨o, e', d.ex.2.1⟩
theorem w_getItem {Q : Value → Shared → Prop} (hW : C.w = X.w) (hu : A.units + 9 < cLine) (c : HC C γ hw H) (I : Inv X pins σ H s) (d : DAt C γ H a ks ws) (fit : kfit k ks = true) (g : dget k ks ws = some w) (rk : RW C γ k x) (rx : RelV x u)
    (h : ∀ y v s', Inv X pins σ H s' → RelV y v → RW C γ w y → Q v s') : wpAny (model X.prog X.w) A (getItem (.ref a) u) Q E s := by
  have l := d.len
  obtain ⟨o, xs, ys, e, d, r1, r2⟩ := d
  rw [hW] at d
  have e' := pin_get I.hok e
  cases t : W.isTup k with
  | false =>
    obtain ⟨fk, fs⟩ := flat_all d.ok fit t
    obtain ⟨kvs, rel, dd, z⟩ := do_flat (P := X.prog) d fs r1 e'
    have q := dget_flat fk fs r2 l
    rw [g] at q
    obtain ⟨y, q1, q2⟩ := q
    obtain ⟨v, hv, rv⟩ := RelO.some_of (v := y) (o := valueAt kvs (kK k)) (by rw [← q1]; exact rel.val (kK k))
    exact wpAny_getItem_of (flat_is fk rk rx) dd.mapOf hv (h y v _ (I.tok _) rv q2)
  | true =>
    obtain ⟨fk, fs⟩ := tup_all d.ok fit t
    obtain ⟨ts, dd, p1, p2, p3, z⟩ := do_tup c I.hok d fs r1 e'
    have q := dget_tup fk d.ok.key p1 p3 r2 l
    rw [g] at q
    obtain ⟨y, b, v, q1, rv, q2⟩ := q
    obtain ⟨b', rfl, rfl, i⟩ := tup_ref c I.hok fk t rk rx
    exact wpAny_getItem_heap (nroom hu) i dd q1 (h y v _ (I.tok _) rv q2)
theorem w_isin {Q : Value → Shared → Prop} (neg : Bool) (hW : C.w = X.w) (hu : A.units + 9 < cLine) (c : HC C γ hw H) (I : Inv X pins σ H s) (d : DAt C γ H a ks ws) (fit : kfit k ks = true) (rk : RW C γ k x) (rx : RelV x u)
    (h : ∀ s', Inv X pins σ H s' → Q (.bool (if neg then !(dget k ks ws).isSome else (dget k ks ws).isSome)) s') : wpAny (model X.prog X.w) A (compareOp (if neg then .NotIn else .In) u (.ref a)) Q E s := by
  have l := d.len
  obtain ⟨o, xs, ys, e, d, r1, r2⟩ := d
  rw [hW] at d
  have e' := pin_get I.hok e
  cases t : W.isTup k with
  | false =>
    obtain ⟨fk, fs⟩ := flat_all d.ok fit t
    obtain ⟨kvs, rel, dd, z⟩ := do_flat (P := X.prog) d fs r1 e'
    have q := dget_flat fk fs r2 l
    have b : (dget k ks ws).isSome = (valueAt kvs (kK k)).isSome := by
      rw [← (rel.val (kK k)).isSome_eq]
      cases g : dget k ks ws with
      | some w => rw [g] at q; obtain ⟨y, q1, _⟩ := q; rw [q1]; rfl
      | none => rw [g] at q; rw [q]; rfl
    rw [b] at h
    cases neg with
    | false => exact wpAny_in_of (flat_is fk rk rx) d.sys dd.mapOf (h _ (I.tok _))
    | true => exact wpAny_notIn_of (flat_is fk rk rx) d.sys dd.mapOf (h _ (I.tok _))
  | true =>
    obtain ⟨fk, fs⟩ := tup_all d.ok fit t
    obtain ⟨ts, dd, p1, p2, p3, z⟩ := do_tup c I.hok d fs r1 e'
    have q := dget_tup fk d.ok.key p1 p3 r2 l
    have b : (dget k ks ws).isSome = (atKey ts (keyN k)).isSome := by
      cases g : dget k ks ws with
      | some w => rw [g] at q; obtain ⟨y, b, v, q1, _⟩ := q; rw [q1]; rfl
      | none => rw [g] at q; rw [q]; rfl
    rw [b] at h
    obtain ⟨b', rfl, rfl, i⟩ := tup_ref c I.hok fk t rk rx
    cases neg with
    | false => exact wpAny_in_heap (nroom hu) i d.sys dd (h _ (I.tok _))
    | true => exact wpAny_notIn_heap (nroom hu) i d.sys dd (h _ (I.tok _))
theorem w_get {Q : Value → Shared → Prop} {more : List Value} (hW : C.w = X.w) (hu : A.units + 9 < cLine) (c : HC C γ hw H) (I : Inv X pins σ H s) (d : DAt C γ H a ks ws) (fit : kfit k ks = true) (rk : RW C γ k x) (rx : RelV x u) (rv : RW C γ v y) (ry : RelV y r) (hm : (more = [] ∧ r = .none) ∨ more = [r])
    (h : ∀ y' v' s', Inv X pins σ H s' → RelV y' v' → RW C γ ((dget k ks ws).getD v) y' → Q v' s') : wpAny (model X.prog X.w) A (call (.builtin "dict.get") (.ref a :: u :: more)) Q E s := by
  have l := d.len
  obtain ⟨o, xs, ys, e, d, r1, r2⟩ := d
  rw [hW] at d
  have e' := pin_get I.hok e
  cases t : W.isTup k with
  | false =>
    obtain ⟨fk, fs⟩ := flat_all d.ok fit t
    obtain ⟨kvs, rel, dd, z⟩ := do_flat (P := X.prog) d fs r1 e'
    have q := dget_flat fk fs r2 l
    have b : ∃ y', RelV y' ((valueAt kvs (kK k)).getD r) ∧ RW C γ ((dget k ks ws).getD v) y' := by
      have rr := rel.val (kK k)
      cases g : dget k ks ws with
      | some w =>
        rw [g] at q; obtain ⟨y1, q1, q2⟩ := q
        rw [q1] at rr
        obtain ⟨v1, hv, rv1⟩ := RelO.some_of rr
        rw [hv]; exact ⟨y1, rv1, q2⟩
      | none =>
        rw [g] at q; rw [q] at rr
        rw [RelO.none_of rr]; exact ⟨y, ry, rv⟩
    obtain ⟨y', b1, b2⟩ := b
    rcases hm with ⟨rfl, rfl⟩ | rfl
    · exact call_meetsIn PySem.F.slot_dict_get dd.typeIs PySem.F.entry_dict_get (PySem.F.args_dict_get_2 _ _) (meets_dict_get (mixKind X.prog X.w) a (flat_is fk rk rx) d.sys) ⟨_, dd.mapOf, h _ _ _ (I.tok _) b1 b2⟩
    · exact call_meetsIn PySem.F.slot_dict_get dd.typeIs PySem.F.entry_dict_get (PySem.F.args_dict_get_3 _ _ _) (meets_dict_get_default (mixKind X.prog X.w) a (flat_is fk rk rx) d.sys _) ⟨_, dd.mapOf, h _ _ _ (I.tok _) b1 b2⟩
  | true =>
    obtain ⟨fk, fs⟩ := tup_all d.ok fit t
    obtain ⟨ts, dd, p1, p2, p3, z⟩ := do_tup c I.hok d fs r1 e'
    have q := dget_tup fk d.ok.key p1 p3 r2 l
    have b : ∃ y', RelV y' (((atKey ts (keyN k)).map (·.2)).getD r) ∧ RW C γ ((dget k ks ws).getD v) y' := by
      cases g : dget k ks ws with
      | some w => rw [g] at q; obtain ⟨y1, b, v1, q1, rv1, q2⟩ := q; rw [q1]; exact ⟨y1, rv1, q2⟩
      | none => rw [g] at q; rw [q]; exact ⟨y, ry, rv⟩
    obtain ⟨y', b1, b2⟩ := b
    obtain ⟨b', rfl, rfl, i⟩ := tup_ref c I.hok fk t rk rx
    rcases hm with ⟨rfl, rfl⟩ | rfl
    · exact call_meetsIn PySem.F.slot_dict_get dd.typeIs PySem.F.entry_dict_get (PySem.F.args_dict_get_2 _ _) (meetsH_dict_get (nestedKind X.prog X.w) a b' d.sys) ⟨nroom hu, keyN k, ts, i, dd, h _ _ _ (I.tok _) b1 b2⟩
    · exact call_meetsIn PySem.F.slot_dict_get dd.typeIs PySem.F.entry_dict_get (PySem.F.args_dict_get_3 _ _ _) (meetsH_dict_get_default (nestedKind X.prog X.w) a b' d.sys _) ⟨nroom hu, keyN k, ts, i, dd, h _ _ _ (I.tok _) b1 b2⟩
theorem w_write {h' : Heap} {t' : Nat} {o o' : Obj} (I : Inv X pins σ H s) (e : H a = some (pin a o)) (hs : Heap.SameBut a s.heap h') (he : h'.get? a = some o') : Inv X pins σ (upd H a (pin a o')) { s with heap := h', toks := t' } :=
  d_write I (by rw [e]; exact True.intro) hs ⟨_, he⟩ (pin_ok he)
theorem w_setItem {Q : Unit → Shared → Prop} (hW : C.w = X.w) (hu : A.units + 9 < cLine) (c : HC C γ hw H) (I : Inv X pins σ H s) (d : DAt C γ H a ks ws) (fit : kfit k ks = true) (z : ks.length < sizeLine) (rk : RW C γ k x) (rx : RelV x u) (rv : RW C γ v y) (ry : RelV y r)
    (h : ∀ o' s', Inv X pins σ (upd H a (pin a o')) s' → (∃ xs ys, DO C.w a o' (dset k v ks ws).1 xs ys ∧ RWs C γ (dset k v ks ws).1 xs ∧ RWs C γ (dset k v ks ws).2 ys) → Q () s') : wpAny (model X.prog X.w) A (PySem.setItem (.ref a) u r) Q E s := by
  have l := d.len
  have okn := keysOk_dset (v := v) d.ok fit l z
  have ln := dset_len k v ks ws l
  obtain ⟨o, xs, ys, e, d, r1, r2⟩ := d
  rw [hW] at d h
  have e' := pin_get I.hok e
  cases t : W.isTup k with
  | false =>
    obtain ⟨fk, fs⟩ := flat_all d.ok fit t
    obtain ⟨kvs, rel, dd, z⟩ := do_flat (P := X.prog) d fs r1 e'
    refine wpAny_setItem_pairs (hsz := z) (flat_is fk rk rx) dd fun h' dd' hs => ?_
    obtain ⟨us, q1, q2⟩ := dset_flat fk rv fs (keysOk_kK d.ok fs) r2 l
    have fn : ∀ j ∈ (dset k v ks ws).1, W.kflat j = true := by
      obtain ⟨fk', _⟩ := kfit_of d.ok fit
      rcases dset_keys (v := v) fk' d.ok.key l with ⟨_, b⟩ | ⟨_, b, _⟩
      · rw [b]; exact fs
      · rw [b]; intro j hj
        rcases List.mem_append.mp hj with hj | hj
        · exact fs j hj
        · rw [List.mem_singleton.mp hj]; exact fk
    have kv := rel.put (kK k) ry
    rw [← q2] at kv
    obtain ⟨o', e2, d2⟩ := flat_do (P := X.prog) (w := X.w) d.sys okn fn (by rw [← q1.length, ln]) kv dd'
    exact h o' _ (w_write I e hs e2) ⟨_, _, d2, rws_kX fn, q1⟩
  | true =>
    obtain ⟨fk, fs⟩ := tup_all d.ok fit t
    obtain ⟨ts, dd, p1, p2, p3, z⟩ := do_tup c I.hok d fs r1 e'
    obtain ⟨b', rfl, rfl, i⟩ := tup_ref c I.hok fk t rk rx
    refine wpAny_setItem_heap (hsz := z) (nroom hu) i dd fun h' dd' hs => ?_
    subst p2
    obtain ⟨us, q1, q2, q3, q4⟩ := dset_tup fk rk rv ry d.ok.key d.ok.nd p1 r1 p3 r2 l
    obtain ⟨o', e2, d2⟩ := tup_do (P := X.prog) (w := X.w) d.sys okn q2 q4 dd'
    exact h o' _ (w_write I e hs e2) ⟨_, _, d2, q3, q1⟩
theorem nroom0 (hu : A.units + 9 < cLine) : (nestedKind X.prog X.w).room A := by
  show A.units + 8 < cLine
  omega
theorem w_dictSet {Q : Unit → Shared → Prop} (hW : C.w = X.w) (hu : A.units + 9 < cLine) (c : HC C γ hw H) (I : Inv X pins σ H s) (d : DAt C γ H a ks ws) (fit : kfit k ks = true) (z : ks.length < sizeLine) (rk : RW C γ k x) (rx : RelV x u) (rv : RW C γ v y) (ry : RelV y r)
    (h : ∀ o' s', Inv X pins σ (upd H a (pin a o')) s' → (∃ xs ys, DO C.w a o' (dset k v ks ws).1 xs ys ∧ RWs C γ (dset k v ks ws).1 xs ∧ RWs C γ (dset k v ks ws).2 ys) → Q () s') : wpAny (model X.prog X.w) A (dictSet a u r) Q E s := by
  have l := d.len
  have okn := keysOk_dset (v := v) d.ok fit l z
  have ln := dset_len k v ks ws l
  obtain ⟨o, xs, ys, e, d, r1, r2⟩ := d
  rw [hW] at d h
  have e' := pin_get I.hok e
  cases t : W.isTup k with
  | false =>
    obtain ⟨fk, fs⟩ := flat_all d.ok fit t
    obtain ⟨kvs, rel, dd, z⟩ := do_flat (P := X.prog) d fs r1 e'
    refine wpAny_dictSet_pairs (hsz := z) (flat_is fk rk rx) dd fun h' dd' hs => ?_
    obtain ⟨us, q1, q2⟩ := dset_flat fk rv fs (keysOk_kK d.ok fs) r2 l
    have fn : ∀ j ∈ (dset k v ks ws).1, W.kflat j = true := by
      obtain ⟨fk', _⟩ := kfit_of d.ok fit
      rcases dset_keys (v := v) fk' d.ok.key l with ⟨_, b⟩ | ⟨_, b, _⟩
      · rw [b]; exact fs
      · rw [b]; intro j hj
        rcases List.mem_append.mp hj with hj | hj
        · exact fs j hj
        · rw [List.mem_singleton.mp hj]; exact fk
    have kv := rel.put (kK k) ry
    rw [← q2] at kv
    obtain ⟨o', e2, d2⟩ := flat_do (P := X.prog) (w := X.w) d.sys okn fn (by rw [← q1.length, ln]) kv dd'
    exact h o' _ (w_write I e hs e2) ⟨_, _, d2, rws_kX fn, q1⟩
  | true =>
    obtain ⟨fk, fs⟩ := tup_all d.ok fit t
    obtain ⟨ts, dd, p1, p2, p3, z⟩ := do_tup c I.hok d fs r1 e'
    obtain ⟨b', rfl, rfl, i⟩ := tup_ref c I.hok fk t rk rx
    refine wpAny_dictSet_heap (hsz := z) (nroom0 hu) i dd fun h' dd' hs => ?_
    subst p2
    obtain ⟨us, q1, q2, q3, q4⟩ := dset_tup fk rk rv ry d.ok.key d.ok.nd p1 r1 p3 r2 l
    obtain ⟨o', e2, d2⟩ := tup_do (P := X.prog) (w := X.w) d.sys okn q2 q4 dd'
    exact h o' _ (w_write I e hs e2) ⟨_, _, d2, q3, q1⟩
theorem w_setdefault {Q : Value → Shared → Prop} (hW : C.w = X.w) (hu : A.units + 9 < cLine) (c : HC C γ hw H) (I : Inv X pins σ H s) (d : DAt C γ H a ks ws) (fit : kfit k ks = true) (z : ks.length < sizeLine) (rk : RW C γ k x) (rx : RelV x u) (rv : RW C γ v y) (ry : RelV y r)
    (h1 : ∀ w y' v' s', dget k ks ws = some w → Inv X pins σ H s' → RelV y' v' → RW C γ w y' → Q v' s')
    (h : ∀ o' s', dget k ks ws = none → Inv X pins σ (upd H a (pin a o')) s' → (∃ xs ys, DO C.w a o' (dset k v ks ws).1 xs ys ∧ RWs C γ (dset k v ks ws).1 xs ∧ RWs C γ (dset k v ks ws).2 ys) → Q r s') : wpAny (model X.prog X.w) A (call (.builtin "dict.setdefault") [.ref a, u, r]) Q E s := by
  have l := d.len
  have okn := keysOk_dset (v := v) d.ok fit l z
  have ln := dset_len k v ks ws l
  obtain ⟨o, xs, ys, e, d, r1, r2⟩ := d
  rw [hW] at d h
  have e' := pin_get I.hok e
  cases t : W.isTup k with
  | false =>
    obtain ⟨fk, fs⟩ := flat_all d.ok fit t
    obtain ⟨kvs, rel, dd, z⟩ := do_flat (P := X.prog) d fs r1 e'
    have q := dget_flat fk fs r2 l
    have rr := rel.val (kK k)
    refine call_meetsIn PySem.F.slot_dict_setdefault dd.typeIs PySem.F.entry_dict_setdefault (PySem.F.args_dict_setdefault_3 _ _ _) (kt_meets_setdefault (mixKind X.prog X.w) a (flat_is fk rk rx) d.sys r) ⟨kvs, dd, z, fun v0 hv => ?_, fun hn h' dd' hs => ?_⟩
    · cases g : dget k ks ws with
      | some w =>
        rw [g] at q; obtain ⟨y1, q1, q2⟩ := q
        rw [q1] at rr
        obtain ⟨v1, hv1, rv1⟩ := RelO.some_of rr
        rw [hv1] at hv; cases hv
        exact h1 w y1 _ _ g (I.tok _) rv1 q2
      | none =>
        rw [g] at q; rw [q] at rr
        rw [RelO.none_of rr] at hv; cases hv
    · cases g : dget k ks ws with
      | some w =>
        rw [g] at q; obtain ⟨y1, q1, q2⟩ := q
        rw [q1] at rr
        obtain ⟨v1, hv1, rv1⟩ := RelO.some_of rr
        rw [hv1] at hn; cases hn
      | none =>
        obtain ⟨us, q1, q2⟩ := dset_flat fk rv fs (keysOk_kK d.ok fs) r2 l
        have fn : ∀ j ∈ (dset k v ks ws).1, W.kflat j = true := by
          obtain ⟨fk', _⟩ := kfit_of d.ok fit
          rcases dset_keys (v := v) fk' d.ok.key l with ⟨_, b⟩ | ⟨_, b, _⟩
          · rw [b]; exact fs
          · rw [b]; intro j hj
            rcases List.mem_append.mp hj with hj | hj
            · exact fs j hj
            · rw [List.mem_singleton.mp hj]; exact fk
        have kv := rel.put (kK k) ry
        rw [← q2] at kv
        obtain ⟨o', e2, d2⟩ := flat_do (P := X.prog) (w := X.w) d.sys okn fn (by rw [← q1.length, ln]) kv dd'
        exact h o' _ g (w_write I e hs e2) ⟨_, _, d2, rws_kX fn, q1⟩
  | true =>
  obtain ⟨fk, fs⟩ := tup_all d.ok fit t
  obtain ⟨ts, dd, p1, p2, p3, z⟩ := do_tup c I.hok d fs r1 e'
  obtain ⟨b', rfl, rfl, i⟩ := tup_ref c I.hok fk t rk rx
  have q := dget_tup fk d.ok.key p1 p3 r2 l
  refine call_setdefault_heap (hsz := z) (nroom hu) i d.sys dd (fun p hp => ?_) fun hn h' dd' hs => ?_
  · cases g : dget k ks ws with
    | some w =>
      rw [g] at q; obtain ⟨y1, b, v1, q1, rv1, q2⟩ := q
      rw [q1] at hp; cases hp
      exact h1 w y1 _ _ g (I.tok _) rv1 q2
    | none => rw [g] at q; rw [q] at hp; cases hp
  · cases g : dget k ks ws with
    | some w => rw [g] at q; obtain ⟨y1, b, v1, q1, _⟩ := q; rw [q1] at hn; cases hn
    | none =>
      subst p2
      obtain ⟨us, q1, q2, q3, q4⟩ := dset_tup fk rk rv ry d.ok.key d.ok.nd p1 r1 p3 r2 l
      have st : storedH ts (keyN k) b' r = ts ++ [(keyN k, b', r)] := storedH_new hn b' r
      obtain ⟨o', e2, d2⟩ := tup_do (P := X.prog) (w := X.w) d.sys okn q2 q4 dd'
      exact h o' _ g (w_write I e hs e2) ⟨_, _, d2, q3, q1⟩
theorem w_len {Q : Value → Shared → Prop} (I : Inv X pins σ H s) (d : DAt C γ H a ks ws) (h : ∀ t s', Inv X pins σ H s' → Q (.int ks.length t) s') : wpAny (model X.prog X.w) A (call (.builtin "len") [.ref a]) Q E s := by
  obtain ⟨o, xs, ys, e, d, r1, r2⟩ := d
  have e' := pin_get I.hok e
  obtain ⟨es, ep, hd, en⟩ := d.data
  have l := en.len.2.2
  have hz := d.ok.size
  have hs : es.size = ks.length := by rw [← Array.length_toList, l]
  have z : ks.length < 2 ^ 63 := by rw [sizeLine_eq] at hz; omega
  refine call_len_slot (n := (ks.length : Int)) (T := "dict") ⟨o, e', d.ex.1⟩ PySem.F.slot_dict_len (fun Q' hq => ?_) (by omega) (by omega) (h _ _ (I.tok _))
  refine call_len_raw d.sys (es := es) (ep := ep) ⟨o, e', d.ex, hd⟩ ?_
  rw [hs]
  exact hq
theorem dict_tail {dv kv : Value} {val slc : Expr} {Q : Value → Shared → Prop} (tp : s.TypeIs dv "dict") (plain : subscripted slc false dv kv = operate [dv, kv] (getItem dv kv)) (go : wpAny (model X.prog X.w) A (getItem dv kv) Q E s) :
    wpAny (model X.prog X.w) A (subscriptTail val slc dv kv) Q E s := by
  have run : wpAny (model X.prog X.w) A (subscripted slc false dv kv) (fun z g => wpAny (model X.prog X.w) A (letTemporaryGo val dv z >>= fun _ => pure z) Q E g) E s := by
    rw [plain]
    exact wpAny_operating (wpAny_mono go (fun _ _ q => wpAny_bind (wpAny_letTemporaryGo (wpAny_pure q))) fun _ _ q => q)
  unfold subscriptTail
  refine wpAny_bind ?_
  rw [getitemInPython_of_ne tp.not_modules]
  refine wpAny_bind (wpAny_specialOf tp PySem.F.slot_dict_getitem.lookup ?_)
  first
    | exact wpAny_pure (wpAny_bind run)
    | exact wpAny_bind (wpAny_pure (wpAny_bind run))
    | exact wpAny_bind run
end
end Ov
namespace Ov
open PySem PySem.Spec PyProof.Rows L2
section
variable {prog : Program} {w : World} {K : Type} [DecidableEq K] {knd : HeapKind prog w K} {A : Around} {E : Value → Shared → Prop} {s : Shared}
inductive HitsH {K : Type} [DecidableEq K] (A : Around) (s : Shared) (tb : List (K × Addr × Value)) : List (K × Addr × Value) → Bool → Prop
  | nil : HitsH A s tb [] true
  | miss {k : K} {p : Addr × Value} {r : List (K × Addr × Value)} : atKey tb k = none → HitsH A s tb ((k, p) :: r) false
  | hit {k : K} {p q : Addr × Value} {r : List (K × Addr × Value)} {e b : Bool} : atKey tb k = some q → SeqAt.EqAt A s p.2 q.2 e → HitsH A s tb r b → HitsH A s tb ((k, p) :: r) (e && b)
theorem HitsH.inv {tb : List (K × Addr × Value)} {k : K} {p : Addr × Value} {r : List (K × Addr × Value)} {b : Bool} (h : HitsH A s tb ((k, p) :: r) b) :
    (atKey tb k = none ∧ b = false) ∨ ∃ q e b', atKey tb k = some q ∧ SeqAt.EqAt A s p.2 q.2 e ∧ HitsH A s tb r b' ∧ b = (e && b') := by
  cases h with
  | miss h => exact .inl ⟨h, rfl⟩
  | hit h1 h2 h3 => exact .inr ⟨_, _, _, h1, h2, h3, rfl⟩
theorem same_heap {nm : String} {a b : Addr} {ta tb : List (K × Addr × Value)} {r : Bool} {Q : Bool → Shared → Prop} (ha : (a == sysModules) = false) (hb : (b == sysModules) = false) (hu : knd.room A)
    (da : s.heap.DictOfH knd a ta) (db : s.heap.DictOfH knd b tb) (hits : ta.length = tb.length → HitsH A s tb ta r) (h : Q (ta.length == tb.length && r) s) : wpAny (model prog w) A (Builtin.Dict.samePairs nm a b) Q E s := by
  obtain ⟨oa, es, ep, hoa, _, hda, hea, hka, _⟩ := da
  obtain ⟨ob, es', ep', hob, _, hdb, heb, hkb, hnb⟩ := db
  have hla : ta.length = es.size := (size_of_entries hea).symm
  have hlb : tb.length = es'.size := (size_of_entries heb).symm
  rw [hla, hlb] at h
  unfold Builtin.Dict.samePairs Builtin.Dict.showsAll
  rw [if_neg (show ¬ (a == sysModules) = true by rw [ha]; exact Bool.false_ne_true), if_neg (show ¬ (b == sysModules) = true by rw [hb]; exact Bool.false_ne_true)]
  refine wpAny_bind (wpAny_pure (wpAny_bind (wpAny_pure ?_)))
  refine wpAny_bind (wpAny_dictEntries hoa hda ?_)
  dsimp only
  refine wpAny_bind (wpAny_dictEntries hob hdb ?_)
  by_cases hsz : es.size = es'.size
  case neg =>
    rw [if_pos (by simpa using hsz)]
    have hbf : (es.size == es'.size) = false := by simpa using hsz
    rw [hbf, Bool.false_and] at h
    exact wpAny_bind (wpAny_rule (wpAny_pure h))
  case pos =>
    have h' : Q r s := by simpa [hsz] using h
    have hits' := hits (by rw [hla, hlb]; exact hsz)
    rw [if_neg (by rw [hsz]; simp)]
    refine wpAny_bind (wpAny_dictEpoch hoa hda ?_)
    refine wpAny_bind ?_
    rw [Std.Legacy.Range.forIn_eq_forIn_range']
    simp only [Std.Legacy.Range.size, Nat.sub_zero, Nat.add_sub_cancel, Nat.div_one]
    refine wpAny_forIn_list _
      (fun rest q s' => s' = s ∧ q = (none, ()) ∧ ∃ i, rest = List.range' i (es.size - i) ∧ i ≤ es.size ∧ HitsH A s tb (ta.drop i) r)
      _ ?_ ?_ _ _ ⟨rfl, rfl, 0, by simp, Nat.zero_le _, hits'⟩
    · rintro x rest q s' ⟨rfl, rfl, i, hr, hi, hpre⟩
      have hlt : i < es.size := by
        rcases Nat.lt_or_ge i es.size with h | h
        · exact h
        · rw [Nat.sub_eq_zero_of_le h] at hr; simp at hr
      obtain ⟨rfl, hrest⟩ : x = i ∧ rest = List.range' (i + 1) (es.size - (i + 1)) := by
        have e : es.size - i = (es.size - (i + 1)) + 1 := by omega
        rw [e, List.range'_succ] at hr
        injection hr with h1 h2
        exact ⟨h1, h2⟩
      refine wpAny_bind (wpAny_dictEntries hoa hda ?_)
      rw [Array.getElem?_eq_getElem hlt]
      have hlt' : x < ta.length := by rw [hla]; exact hlt
      obtain ⟨k, p, hkv⟩ : ∃ k p, ta[x] = (k, p) := ⟨_, _, rfl⟩
      have hx : ta[x]? = some (k, p) := by rw [List.getElem?_eq_getElem hlt', hkv]
      have hdrop : ta.drop x = (k, p) :: ta.drop (x + 1) := by rw [← hkv]; exact List.drop_eq_getElem_cons hlt'
      have hen : es[x] = entryOfKey knd (k, p) := by
        have := entry_at hea x
        rw [hx, Array.getElem?_eq_getElem hlt] at this
        exact Option.some.inj this
      have hkey := hka _ (List.mem_of_getElem? hx)
      rw [hdrop] at hpre
      show wpAny _ _ (holding [es[x].key, es[x].val] _ >>= _) _ _ _
      rw [hen]
      refine wpAny_bind (wpAny_holding (wpAny_bind (wpAny_dictFind_heap (k := k) (a := p.1) hu hkey hob hdb heb hkb hnb (fun hno => ?_) fun j q hj => ?_)))
      · have hn : atKey tb k = none := atKey_none_of_get hno
        rcases hpre.inv with ⟨_, er⟩ | ⟨q, _, _, hy, _⟩
        · rw [er] at h'
          refine wpAny_pure ?_
          show wpAny _ _ (if (!false) = true then _ else _) _ _ _
          rw [if_pos (by decide)]
          exact wpAny_pure (wpAny_pure h')
        · rw [hn] at hy; exact nomatch hy
      · have hv' : atKey tb k = some q := atKey_of_get hnb hj
        have hjl : j < es'.size := by rw [← hlb]; exact (List.getElem?_eq_some_iff.mp hj).1
        have hen' : es'[j] = entryOfKey knd (k, q) := by
          have := entry_at heb j
          rw [hj, Array.getElem?_eq_getElem hjl] at this
          exact Option.some.inj this
        refine wpAny_bind (wpAny_dictEntries hob hdb ?_)
        rw [Array.getElem?_eq_getElem hjl]
        rcases hpre.inv with ⟨hn, _⟩ | ⟨q', e, b', hy, he, hrr, er⟩
        · rw [hv'] at hn; exact nomatch hn
        · have ey : q = q' := Option.some.inj (hv'.symm.trans hy)
          subst ey
          dsimp only
          rw [hen']
          refine wpAny_holding (he prog w _ _ ?_)
          cases e with
          | false =>
            rw [er, Bool.false_and] at h'
            show wpAny _ _ (if (!false) = true then _ else _) _ _ _
            rw [if_pos (by decide)]
            exact wpAny_pure (wpAny_pure h')
          | true =>
            rw [Bool.true_and] at er
            rw [← er] at hrr
            show wpAny _ _ (if (!true) = true then _ else _) _ _ _
            rw [if_neg (by decide)]
            refine wpAny_bind (wpAny_dictEpoch hoa hda ?_)
            rw [if_neg (by simp)]
            exact wpAny_pure ⟨rfl, rfl, x + 1, hrest, hlt, hrr⟩
    · rintro q s' ⟨rfl, rfl, i, hr, hi, hpre⟩
      have hin : i = es.size := by
        rcases Nat.lt_or_ge i es.size with h | h
        · have e : es.size - i = (es.size - (i + 1)) + 1 := by omega
          rw [e, List.range'_succ] at hr; exact nomatch hr
        · exact Nat.le_antisymm hi h
      refine wpAny_pure ?_
      rw [hin, ← hla, List.drop_length] at hpre
      cases hpre
      exact h'
theorem eq_heap {a b : Addr} {ta tb : List (K × Addr × Value)} {r : Bool} {Q : Value → Shared → Prop} (neg : Bool) (ha : (a == sysModules) = false) (hb : (b == sysModules) = false) (hr : knd.room A.in1)
    (da : s.heap.DictOfH knd a ta) (db : s.heap.DictOfH knd b tb) (hu : A.units < cLine) (hits : ta.length = tb.length → HitsH A.in1 s tb ta r) (h : Q (.bool (if neg then !(ta.length == tb.length && r) else (ta.length == tb.length && r))) s) :
    wpAny (model prog w) A (compareOp (if neg then .NotEq else .Eq) (.ref a) (.ref b)) Q E s := by
  have tya : s.TypeIs (.ref a) "dict" := let ⟨o, _, _, ho, hx, _⟩ := da; ⟨o, ho, hx.1⟩
  have tyb : s.TypeIs (.ref b) "dict" := let ⟨o, _, _, ho, hx, _⟩ := db; ⟨o, ho, hx.1⟩
  cases neg with
  | false =>
    refine wpAny_richCompare_same_room (op := .Eq) tya tyb PySem.F.slot_dict_eq (wpAny_call_entry PySem.F.slot_dict_eq tya PySem.F.entry_dict_eq ?_ (PySem.F.args_dict_eq_2 _ _)) hu
    show wpAny _ _ (Builtin.Dict.dictSlotArgs "__eq__" ⟨[.ref a, .ref b], []⟩ >>= _) _ _ s
    refine wpAny_bind ?_
    unfold Builtin.Dict.dictSlotArgs
    refine wpAny_bind (wpAny_notOrdered_dict tya ?_)
    show wpAny _ _ (pure (Value.ref a, Value.ref b)) _ _ s
    refine wpAny_pure ?_
    refine wpAny_bind (wpAny_isInstance (T := "dict") tyb PySem.F.sub_dict_dict ?_)
    simp only [Bool.not_true, Bool.false_eq_true, if_false]
    refine wpAny_bind (wpAny_pure (wpAny_bind (wpAny_pure ?_)))
    refine wpAny_bind (same_heap ha hb hr da db hits ?_)
    refine wpAny_pure ⟨_, rfl, ?_, ?_⟩
    · exact fun x => nomatch x
    · simpa using h
  | true =>
    refine wpAny_richCompare_same_room (op := .NotEq) tya tyb PySem.F.slot_dict_ne (wpAny_call_entry PySem.F.slot_dict_ne tya PySem.F.entry_dict_ne ?_ (PySem.F.args_dict_ne_2 _ _)) hu
    show wpAny _ _ (Builtin.Dict.dictSlotArgs "__ne__" ⟨[.ref a, .ref b], []⟩ >>= _) _ _ s
    refine wpAny_bind ?_
    unfold Builtin.Dict.dictSlotArgs
    refine wpAny_bind (wpAny_notOrdered_dict tya ?_)
    show wpAny _ _ (pure (Value.ref a, Value.ref b)) _ _ s
    refine wpAny_pure ?_
    refine wpAny_bind (wpAny_isInstance (T := "dict") tyb PySem.F.sub_dict_dict ?_)
    simp only [Bool.not_true, Bool.false_eq_true, if_false]
    refine wpAny_bind (wpAny_pure (wpAny_bind (wpAny_pure ?_)))
    refine wpAny_bind (same_heap ha hb hr da db hits ?_)
    refine wpAny_pure ⟨_, rfl, ?_, ?_⟩
    · exact fun x => nomatch x
    · simpa using h
end
end Ov
namespace Ov
open PySem PySem.Spec PyProof.Rows L2
section
variable {C : Cf} {γ : Gh} {h : Hw} {H : Hp} {w : W} {x : V}
theorem deep_flat : ∀ (e : Nat) {w : W}, W.flat (deep h e w) = true → deep h e w = w
  | 0, _, _ => rfl
  | e + 1, w, f => by
    unfold deep at f ⊢
    cases hl : look h w with
    | tup _ => rw [hl] at f; cases f
    | lst _ => rw [hl] at f; cases f
    | dct _ _ => rw [hl] at f; cases f
    | obj _ _ _ => rw [hl] at f; cases f
    | ref _ => rw [hl] at f; cases f
    | any => rw [hl] at f; cases f
    | scr _ => rw [hl] at f; cases f
    | non => exact (look_flat hl trivial).symm
    | bl _ => exact (look_flat hl trivial).symm
    | int _ => exact (look_flat hl trivial).symm
    | str _ => exact (look_flat hl trivial).symm
theorem whole_flat (f : W.flat (whole h w) = true) : whole h w = w := by
  unfold whole at f ⊢
  split at f
  · rename_i u; rw [if_pos u]
  · rename_i u; rw [if_neg u]; exact deep_flat _ f
theorem whole_flatE {u : W} (e : whole h w = u) (f : W.flat u = true) : w = u := by
  rw [← e]; exact (whole_flat (by rw [e]; exact f)).symm
theorem whole_lst {xs : List W} (e : whole h w = .lst xs) : ∃ ws, look h w = .lst ws ∧ (xs.all W.flat = true → ws = xs) := by
  unfold whole at e
  split at e
  · subst e; exact ⟨xs, rfl, fun _ => rfl⟩
  · unfold deep at e
    cases hl : look h w with
    | lst ws =>
      rw [hl] at e
      cases e
      refine ⟨ws, rfl, fun f => ?_⟩
      have : ws.map (deep h 11) = ws.map id := List.map_congr_left fun y hy => by
        rw [List.all_eq_true] at f
        exact deep_flat _ (f _ (List.mem_map_of_mem hy))
      rw [this, List.map_id]
    | _ => rw [hl] at e; cases e
theorem whole_tup {xs : List W} (e : whole h w = .tup xs) : ∃ ws, look h w = .tup ws ∧ (xs.all W.flat = true → ws = xs) := by
  unfold whole at e
  split at e
  · subst e; exact ⟨xs, rfl, fun _ => rfl⟩
  · unfold deep at e
    cases hl : look h w with
    | tup ws =>
      rw [hl] at e
      cases e
      refine ⟨ws, rfl, fun f => ?_⟩
      have : ws.map (deep h 11) = ws.map id := List.map_congr_left fun y hy => by
        rw [List.all_eq_true] at f
        exact deep_flat _ (f _ (List.mem_map_of_mem hy))
      rw [this, List.map_id]
    | _ => rw [hl] at e; cases e
theorem flat_rw {u : W} (f : W.flat u = true) (r : RW C γ u x) : L2.flatV x = true := by
  cases u <;> first | (cases f; done) | (cases r; rfl)
theorem flats_rw : ∀ {ws : List W} {vs : List V}, ws.all W.flat = true → RWs C γ ws vs → vs.all L2.flatV = true
  | [], _, _, h => by cases h; rfl
  | w :: ws, _, f, ⟨v, r, e, a, b⟩ => by
    subst e
    rw [List.all_cons, Bool.and_eq_true] at f
    rw [List.all_cons, flat_rw f.1 a, flats_rw f.2 b]; rfl
theorem eqV_eq {a b : W} {x y : V} (fa : W.flat a = true) (fb : W.flat b = true) (ra : RW C γ a x) (rb : RW C γ b y) : L2.eqV x y = W.eq a b := by
  cases a <;> (try (cases fa; done)) <;> cases b <;> (try (cases fb; done)) <;> cases ra <;> cases rb <;> (try rfl) <;> (try exact str_beq _ _)
  · rename_i p q; cases p <;> rfl
  · rename_i q p; cases p <;> rfl
theorem inV_eq {a : W} {x : V} (fa : W.flat a = true) (ra : RW C γ a x) : ∀ {ws : List W} {vs : List V}, ws.all W.flat = true → RWs C γ ws vs → L2.inV x vs = ws.any fun y => W.eq y a
  | [], _, _, h => by cases h; rfl
  | w :: ws, _, f, ⟨v, r, e, q, b⟩ => by
    subst e
    rw [List.all_cons, Bool.and_eq_true] at f
    show (L2.eqV v x || L2.inV x r) = _
    rw [List.any_cons, eqV_eq f.1 fa q ra, inV_eq fa ra f.2 b]
theorem any_eqv {d e : Nat} {a : W} (la : W.lay e a = true) : ∀ {ws : List W}, ws.all (W.lay d) = true → ((pyds ws).any fun z => PyData.eqv z (pyd a)) = ws.any fun y => W.eq y a
  | [], _ => rfl
  | w :: ws, f => by
    rw [List.all_cons, Bool.and_eq_true] at f
    rw [pyds, List.any_cons, List.any_cons, eqv_eq d e w a f.1 la, any_eqv la f.2]
theorem any_code (t : List Nat) (c : Nat) : decide (c ∈ t) = t.any (Nat.beq c) := by
  induction t with
  | nil => rfl
  | cons b r ih =>
    rw [List.any_cons, ← ih]
    by_cases h : c = b
    · subst h; simp
    · have : Nat.beq c b = false := by
        cases e : Nat.beq c b with
        | false => rfl
        | true => exact absurd (Nat.eq_of_beq_eq_true e) h
      rw [this]
      simp [h]
end
def copOf : COp → CmpOp
  | .eq => .Eq | .ne => .NotEq | .lt => .Lt | .le => .LtE | .gt => .Gt | .ge => .GtE | .isin => .In | .notin => .NotIn
section
variable {X : Cx}
theorem op_eq2 (hu : X.A.units + 65 < cLine) {C : Cf} (hK : C.K = X.K) {pins : List (Addr × Obj)} {s : Shared} {σ : L2.St} {H : Hp} {x y : V} {v u : Value} {Q : VK} {γ : Gh} {h : Hw} {w1 w2 : W} (neg : Bool)
    (I : Inv X pins σ H s) (rx : RelV x v) (ry : RelV y u) (c : HC C γ h H) (r1 : RW C γ w1 x) (r2 : RW C γ w2 y) (ok : eqOk (whole h w1) (whole h w2) = true) (q : Q (.bl (if neg then !W.eq (whole h w1) (whole h w2) else W.eq (whole h w1) (whole h w2))) H) :
    wpAny (model X.prog X.w) X.A (compareOp (if neg then .NotEq else .Eq) v u) (EP X pins σ Q) X.xe s := by
  have deepway : W.lay 40 (whole h w1) = true → W.lay 40 (whole h w2) = true → wpAny (model X.prog X.w) X.A (compareOp (if neg then .NotEq else .Eq) v u) (EP X pins σ Q) X.xe s := fun l1 l2 => by
    have d1 := whole_dp c l1 r1
    have d2 := whole_dp c l2 r2
    have e := eqv_eq 40 40 _ _ l1 l2
    rw [hK] at d1 d2
    cases neg with
    | false => exact op_eqD (by omega) pins s σ H x y v u Q I rx ry ⟨_, _, d1.dp, d2.dp, shaped_of d1 (by omega), shaped_of d2 (by omega), by rw [e]; exact q⟩
    | true => exact op_neD (by omega) pins s σ H x y v u Q I rx ry ⟨_, _, d1.dp, d2.dp, shaped_of d1 (by omega), shaped_of d2 (by omega), by rw [e]; exact q⟩
  unfold eqOk at ok
  rcases Bool.or_eq_true_iff.mp ok with f | l
  · rw [Bool.and_eq_true] at f
    have e1 := whole_flat f.1
    have e2 := whole_flat f.2
    rw [e1, e2] at q f deepway
    by_cases sc : L2.scal x y = true
    · have hd : decide (x = y) = W.eq w1 w2 := by
        cases w1 <;> (try (cases f.1; done)) <;> cases w2 <;> (try (cases f.2; done)) <;> cases r1 <;> cases r2 <;> (try (cases sc; done)) <;> (try rfl)
        · rename_i m1 m2; cases m1 <;> cases m2 <;> rfl
        · simp only [V.int.injEq, W.eq]
        · rename_i m1 m2
          simp only [W.eq, seqNat_iff, strV]
          by_cases z : m1 = m2 <;> simp [z]
      cases neg with
      | false => exact op_eq pins s σ H x y v u Q I rx ry ⟨sc, by rw [hd]; exact q⟩
      | true => exact op_ne pins s σ H x y v u Q I rx ry ⟨sc, by rw [hd]; exact q⟩
    · refine deepway ?_ ?_
      · cases w1 <;> (try (cases f.1; done)) <;> (try rfl) <;> cases w2 <;> (try (cases f.2; done)) <;> cases r1 <;> cases r2 <;> exact absurd rfl sc
      · cases w2 <;> (try (cases f.2; done)) <;> (try rfl) <;> cases w1 <;> (try (cases f.1; done)) <;> cases r1 <;> cases r2 <;> exact absurd rfl sc
  · rw [Bool.and_eq_true] at l
    exact deepway l.1 l.2
theorem op_in2 (hu : X.A.units + 65 < cLine) {C : Cf} (hK : C.K = X.K) {pins : List (Addr × Obj)} {s : Shared} {σ : L2.St} {H : Hp} {x y : V} {v u : Value} {Q : VK} {γ : Gh} {h : Hw} {w1 w2 : W} {xs : List W} (neg : Bool)
    (I : Inv X pins σ H s) (rx : RelV x v) (ry : RelV y u) (c : HC C γ h H) (r1 : RW C γ w1 x) (r2 : RW C γ w2 y) (e2 : whole h w2 = .lst xs) (ok : inOk (whole h w1) xs = true) (q : Q (.bl (if neg then !(xs.any fun y => W.eq y (whole h w1)) else (xs.any fun y => W.eq y (whole h w1)))) H) :
    wpAny (model X.prog X.w) X.A (compareOp (if neg then .NotIn else .In) v u) (EP X pins σ Q) X.xe s := by
  unfold inOk at ok
  rcases Bool.or_eq_true_iff.mp ok with f | l
  · rw [Bool.and_eq_true] at f
    have e1 := whole_flat f.1
    rw [e1] at q f
    obtain ⟨ws, hl, hw⟩ := whole_lst e2
    cases hw f.2
    obtain ⟨a, vs, rfl, q1, q2⟩ := look_lst c r2 hl
    have e := inV_eq f.1 r1 f.2 q2
    cases neg with
    | false => exact op_in_seq pins s σ H x _ v u Q I rx ry ⟨a, vs, rfl, .inl (.inl q1), flat_rw f.1 r1, flats_rw f.2 q2, by rw [e]; exact q⟩
    | true => exact op_notIn_seq pins s σ H x _ v u Q I rx ry ⟨a, vs, rfl, .inl (.inl q1), flat_rw f.1 r1, flats_rw f.2 q2, by rw [e]; exact q⟩
  · rw [Bool.and_eq_true] at l
    have l2 : W.lay 40 (whole h w2) = true := by rw [e2]; exact l.2
    have d1 := whole_dp c l.1 r1
    have d2 := whole_dp c l2 r2
    rw [e2] at d2
    rw [hK] at d1 d2
    have e := any_eqv l.1 l.2
    cases neg with
    | false => exact op_inD hu pins s σ H x y v u Q I rx ry ⟨_, _, d1.dp, d2.dp, shaped_of d1 (by omega), shaped_of d2 (by omega), by rw [e]; exact q⟩
    | true => exact op_notInD hu pins s σ H x y v u Q I rx ry ⟨_, _, d1.dp, d2.dp, shaped_of d1 (by omega), shaped_of d2 (by omega), by rw [e]; exact q⟩
theorem op_inTD (hu : X.A.units + 65 < cLine) {C : Cf} (hK : C.K = X.K) {pins : List (Addr × Obj)} {s : Shared} {σ : L2.St} {H : Hp} {x y : V} {v u : Value} {Q : VK} {d : PyData} {ds : List PyData} (neg : Bool)
    (I : Inv X pins σ H s) (rx : RelV x v) (ry : RelV y u) (hd : Dp X.K H x d) (he : Dp X.K H y (.tuple ds)) (sd : SeqAt.shaped d = true) (se : SeqAt.shaped (.tuple ds) = true) (se2 : SeqAt.shaped (.list ds) = true) (q : Q (.bl (if neg then !(ds.any fun z => PyData.eqv z d) else ds.any fun z => PyData.eqv z d)) H) :
    wpAny (model X.prog X.w) X.A (compareOp (if neg then .NotIn else .In) v u) (EP X pins σ Q) X.xe s := by
  obtain ⟨as, r1⟩ := Dp.reads I d x v hd rx
  obtain ⟨bs, r2⟩ := Dp.reads I (.tuple ds) y u he ry
  cases neg with
  | false => exact SeqAt.in_tuple_reads r2 r1 (SeqAt.canLay_of_shaped se) (SeqAt.canLay_of_shaped sd) (room_in_shaped sd hu) ⟨.bl _, H, I, rfl, q⟩
  | true => exact SeqAt.notIn_tuple_reads r2 r1 (SeqAt.canLay_of_shaped se) (SeqAt.canLay_of_shaped sd) (room_in_shaped sd hu) ⟨.bl _, H, I, rfl, q⟩
theorem op_inT (hu : X.A.units + 65 < cLine) {C : Cf} (hK : C.K = X.K) {pins : List (Addr × Obj)} {s : Shared} {σ : L2.St} {H : Hp} {x y : V} {v u : Value} {Q : VK} {γ : Gh} {h : Hw} {w1 w2 : W} {xs : List W} (neg : Bool)
    (I : Inv X pins σ H s) (rx : RelV x v) (ry : RelV y u) (c : HC C γ h H) (r1 : RW C γ w1 x) (r2 : RW C γ w2 y) (e2 : whole h w2 = .tup xs) (ok : inOk (whole h w1) xs = true) (q : Q (.bl (if neg then !(xs.any fun y => W.eq y (whole h w1)) else (xs.any fun y => W.eq y (whole h w1)))) H) :
    wpAny (model X.prog X.w) X.A (compareOp (if neg then .NotIn else .In) v u) (EP X pins σ Q) X.xe s := by
  unfold inOk at ok
  rcases Bool.or_eq_true_iff.mp ok with ok | l
  · rw [Bool.and_eq_true] at ok
    have e1 := whole_flat ok.1
    rw [e1] at q ok
    obtain ⟨ws, hl, hw⟩ := whole_tup e2
    cases hw ok.2
    obtain ⟨a, vs, rfl, q1, q2⟩ := look_tup c r2 hl
    have e := inV_eq ok.1 r1 ok.2 q2
    cases neg with
    | false => exact op_in_seq pins s σ H x _ v u Q I rx ry ⟨a, vs, rfl, .inr (.inl q1), flat_rw ok.1 r1, flats_rw ok.2 q2, by rw [e]; exact q⟩
    | true => exact op_notIn_seq pins s σ H x _ v u Q I rx ry ⟨a, vs, rfl, .inr (.inl q1), flat_rw ok.1 r1, flats_rw ok.2 q2, by rw [e]; exact q⟩
  · rw [Bool.and_eq_true] at l
    have l2 : W.lay 40 (whole h w2) = true := by rw [e2]; exact l.2
    have d1 := whole_dp c l.1 r1
    have d2 := whole_dp c l2 r2
    rw [e2] at d2
    rw [hK] at d1 d2
    have e := any_eqv l.1 l.2
    exact op_inTD hu hK neg I rx ry d1.dp d2.dp (shaped_of d1 (by omega)) (shaped_of d2 (by omega)) (shaped_of d2 (by omega)) (by cases neg <;> (rw [e]; exact q))
theorem of_cmpO (hu : X.A.units + 65 < cLine) {C : Cf} (hK : C.K = X.K) (o : COp) : OpR X (compareOp (copOf o)) (fun x y H Q => ∃ E, rf2 C (fun a b h => R.of h (cmpop o (whole h a) (whole h b))) E x y H Q) := by
  intro pins s σ H x y v u Q I rx ry ⟨E, γ, h, w1, w2, c, r1, r2, p0⟩
  obtain ⟨w, eo, p⟩ := p0.ofSome
  clear p0
  cases o with
  | eq =>
    simp only [cmpop] at eo
    split at eo
    · rename_i ok; cases eo
      exact op_eq2 hu hK false I rx ry c r1 r2 ok (PoE.here p c rfl)
    · cases eo
  | ne =>
    simp only [cmpop] at eo
    split at eo
    · rename_i ok; cases eo
      exact op_eq2 hu hK true I rx ry c r1 r2 ok (PoE.here p c rfl)
    · cases eo
  | lt =>
    simp only [cmpop] at eo
    split at eo
    · rename_i i j e1 e2; cases eo
      cases whole_flatE e1 rfl; cases whole_flatE e2 rfl
      exact op_lt pins s σ H x y v u Q I rx ry ⟨i, j, r1, r2, PoE.here p c rfl⟩
    · cases eo
  | le =>
    simp only [cmpop] at eo
    split at eo
    · rename_i i j e1 e2; cases eo
      cases whole_flatE e1 rfl; cases whole_flatE e2 rfl
      exact op_le pins s σ H x y v u Q I rx ry ⟨i, j, r1, r2, PoE.here p c rfl⟩
    · cases eo
  | gt =>
    simp only [cmpop] at eo
    split at eo
    · rename_i i j e1 e2; cases eo
      cases whole_flatE e1 rfl; cases whole_flatE e2 rfl
      exact op_gt pins s σ H x y v u Q I rx ry ⟨i, j, r1, r2, PoE.here p c rfl⟩
    · cases eo
  | ge =>
    simp only [cmpop] at eo
    split at eo
    · rename_i i j e1 e2; cases eo
      cases whole_flatE e1 rfl; cases whole_flatE e2 rfl
      exact op_ge pins s σ H x y v u Q I rx ry ⟨i, j, r1, r2, PoE.here p c rfl⟩
    · cases eo
  | isin =>
    simp only [cmpop] at eo
    split at eo
    · rename_i t e2
      split at eo
      · rename_i k e1; cases eo
        cases whole_flatE e1 rfl; cases whole_flatE e2 rfl
        refine op_in_str pins s σ H x y v u Q I rx ry ⟨_, _, r1, r2, ?_⟩
        rw [show (([k].toArray : Array Nat)) = #[k] from rfl, StrLaws.found_one ⟨t.toArray⟩ k, show ((⟨t.toArray⟩ : Str).cps.toList) = t from rfl, any_code]
        exact PoE.here p c rfl
      · cases eo
    · rename_i xs e2
      split at eo
      · rename_i ok; cases eo
        exact op_in2 hu hK false I rx ry c r1 r2 e2 ok (PoE.here p c rfl)
      · cases eo
    · rename_i xs e2
      split at eo
      · rename_i ok; cases eo
        exact op_inT hu hK false I rx ry c r1 r2 e2 ok (PoE.here p c rfl)
      · cases eo
    · cases eo
  | notin =>
    simp only [cmpop] at eo
    split at eo
    · rename_i t e2
      split at eo
      · rename_i k e1; cases eo
        cases whole_flatE e1 rfl; cases whole_flatE e2 rfl
        refine op_notin_str pins s σ H x y v u Q I rx ry ⟨_, _, r1, r2, ?_⟩
        rw [show (([k].toArray : Array Nat)) = #[k] from rfl, StrLaws.found_one ⟨t.toArray⟩ k, show ((⟨t.toArray⟩ : Str).cps.toList) = t from rfl, any_code]
        exact PoE.here p c rfl
      · cases eo
    · rename_i xs e2
      split at eo
      · rename_i ok; cases eo
        exact op_in2 hu hK true I rx ry c r1 r2 e2 ok (PoE.here p c rfl)
      · cases eo
    · rename_i xs e2
      split at eo
      · rename_i ok; cases eo
        exact op_inT hu hK true I rx ry c r1 r2 e2 ok (PoE.here p c rfl)
      · cases eo
    · cases eo
theorem hitsW {C : Cf} {γ : Gh} {h : Hw} {H : Hp} {pins : List (Addr × Obj)} {s : Shared} {σ : L2.St} {A : Around} (I : Inv X pins σ H s) (hu : A.units + 40 < cLine) (hK : C.K = X.K) (c : HC C γ h H) {js us : List W} {zs : List V} {kb : List (Key × Value)} (fj : ∀ j ∈ js, W.kflat j = true) (ru : RWs C γ us zs) (lu : us.length = js.length)
    (kvb : KV ((js.map kK).zip zs) kb) (yu : ∀ u ∈ us, W.lay 39 u = true) : ∀ {ks ws : List W} {ys : List V} {ka : List (Key × Value)}, KV ((ks.map kK).zip ys) ka → RWs C γ ws ys → ws.length = ks.length → (∀ k ∈ ks, W.kflat k = true) → (∀ w ∈ ws, W.lay 39 w = true) →
    PySem.W.KeqHits A s kb ka (W.dle ws ks js us)
  | [], ws, ys, ka, kv, r, l, _, _ => by
    have : ws = [] := List.length_eq_zero_iff.mp l
    subst this
    cases r
    cases kv
    exact .nil
  | k :: ks, [], _, _, _, _, l, _, _ => by cases l
  | k :: ks, w :: ws, ys, ka, kv, ⟨y, t, e, a, b⟩, l, fk, yw => by
    subst e
    cases kv with
    | @cons _ q _ qs hh tt =>
      obtain ⟨q1, q2⟩ := q
      obtain ⟨h1, h2⟩ := hh
      dsimp only at h1 h2
      subst h1
      have ih := hitsW I hu hK c fj ru lu kvb yu tt b (by simpa using l) (fun x hx => fk x (List.mem_cons_of_mem _ hx)) (fun x hx => yw x (List.mem_cons_of_mem _ hx))
      have g := dget_flat (C := C) (γ := γ) (fk k List.mem_cons_self) fj ru lu
      have rv := kvb.val (kK k)
      rw [W.dle]
      cases gd : dget k js us with
      | none =>
        rw [gd] at g; rw [g] at rv
        simp only [Bool.false_and]
        exact .miss (RelO.none_of rv)
      | some u =>
        rw [gd] at g
        obtain ⟨z, z1, z2⟩ := g
        rw [z1] at rv
        obtain ⟨x, hx, rx⟩ := RelO.some_of rv
        have lw := yw w List.mem_cons_self
        have lu' : W.lay 39 u = true := by
          have key : ∀ (js us : List W), dget k js us = some u → u ∈ us := by
            intro js
            induction js with
            | nil => intro us e; cases us <;> simp [dget] at e
            | cons j js ih =>
              intro us e
              cases us with
              | nil => simp [dget] at e
              | cons v us =>
                rw [dget] at e
                split at e
                · cases e; exact List.mem_cons_self
                · exact List.mem_cons_of_mem _ (ih us e)
          exact yu u (key js us gd)
        have d1 := lay_dp c 39 w y lw a
        have d2 := lay_dp c 39 u z lu' z2
        rw [hK] at d1 d2
        obtain ⟨as, ra⟩ := Dp.reads I _ y q2 d1.dp h2
        obtain ⟨bs, rb⟩ := Dp.reads I _ z x d2.dp rx
        have e := eqv_eq 39 39 w u lw lu'
        refine .hit hx ?_ ih
        show SeqAt.EqAt A s q2 x (W.eq w u)
        rw [← e]
        exact SeqAt.eqAt_reads _ _ A s _ _ as bs ra rb d1.lay d2.lay (by have := d1.dep; omega)
theorem dget_mem {k u : W} : ∀ {js us : List W}, dget k js us = some u → u ∈ us
  | [], us, e => by cases us <;> simp [dget] at e
  | j :: js, [], e => by simp [dget] at e
  | j :: js, v :: us, e => by
    rw [dget] at e
    split at e
    · cases e; exact List.mem_cons_self
    · exact List.mem_cons_of_mem _ (dget_mem e)
theorem hitsT {C : Cf} {γ : Gh} {h : Hw} {H : Hp} {pins : List (Addr × Obj)} {s : Shared} {σ : L2.St} {A : Around} (I : Inv X pins σ H s) (hu : A.units + 40 < cLine) (hK : C.K = X.K) (c : HC C γ h H) {js us : List W} {zs : List V} {tb : List (NestedKey × Addr × Value)} (fj : ∀ j ∈ js, W.key j = true) (ru : RWs C γ us zs) (lu : us.length = js.length)
    (eb : tb.map (·.1) = js.map keyN) (qb : Paired RelV zs (tb.map (·.2.2))) (yu : ∀ u ∈ us, W.lay 39 u = true) : ∀ {ks ws : List W} {ys : List V} {ta : List (NestedKey × Addr × Value)}, ta.map (·.1) = ks.map keyN → Paired RelV ys (ta.map (·.2.2)) → RWs C γ ws ys → ws.length = ks.length → (∀ k ∈ ks, W.key k = true) → (∀ w ∈ ws, W.lay 39 w = true) →
    HitsH A s tb ta (W.dle ws ks js us)
  | [], ws, ys, ta, ea, qa, r, l, _, _ => by
    have : ws = [] := List.length_eq_zero_iff.mp l
    subst this
    have : ta = [] := by
      cases ta with
      | nil => rfl
      | cons _ _ => cases ea
    subst this
    exact .nil
  | k :: ks, [], _, _, _, _, _, l, _, _ => by cases l
  | k :: ks, w :: ws, ys, [], ea, _, _, _, _, _ => by cases ea
  | k :: ks, w :: ws, ys, (n, ad, v) :: ta, ea, qa, ⟨y, t, e, a, b⟩, l, fk, yw => by
    subst e
    have e1 : n = keyN k := by
      have := (List.cons.inj ea).1
      exact this
    have e2 : ta.map (·.1) = ks.map keyN := (List.cons.inj ea).2
    subst e1
    cases qa with
    | cons rv qt =>
      have ih := hitsT I hu hK c fj ru lu eb qb yu e2 qt b (by simpa using l) (fun x hx => fk x (List.mem_cons_of_mem _ hx)) (fun x hx => yw x (List.mem_cons_of_mem _ hx))
      have g := dget_tup (C := C) (γ := γ) (fk k List.mem_cons_self) fj eb qb ru lu
      rw [W.dle]
      cases gd : dget k js us with
      | none =>
        rw [gd] at g
        simp only [Bool.false_and]
        exact .miss g
      | some u =>
        rw [gd] at g
        obtain ⟨z, b', x, g1, rx, z2⟩ := g
        have lw := yw w List.mem_cons_self
        have lu' : W.lay 39 u = true := yu u (dget_mem gd)
        have d1 := lay_dp c 39 w y lw a
        have d2 := lay_dp c 39 u z lu' z2
        rw [hK] at d1 d2
        obtain ⟨as, ra⟩ := Dp.reads I _ y v d1.dp rv
        obtain ⟨bs, rb⟩ := Dp.reads I _ z x d2.dp rx
        have e := eqv_eq 39 39 w u lw lu'
        refine .hit (q := (b', x)) g1 ?_ ih
        show SeqAt.EqAt A s v x (W.eq w u)
        rw [← e]
        exact SeqAt.eqAt_reads _ _ A s _ _ as bs ra rb d1.lay d2.lay (by have := d1.dep; omega)
theorem dle_len {ks ws js us : List W} {n m : Nat} (hn : n = ks.length) (hm : m = js.length) : (n == m && W.dle ws ks js us) = W.eq (.dct ks ws) (.dct js us) := by
  rw [W.eq, hn, hm]
  have : (ks.length == js.length) = Nat.beq ks.length js.length := by
    rw [Bool.eq_iff_iff, Nat.beq_eq, beq_iff_eq]
  rw [this]
theorem w_eqD {C : Cf} {γ : Gh} {h : Hw} {H : Hp} {pins : List (Addr × Obj)} {s : Shared} {σ : L2.St} {a b : Addr} {ks ws js us : List W} {Q : VK} (neg : Bool) (hu : X.A.units + 65 < cLine) (hK : C.K = X.K) (hW : C.w = X.w) (c : HC C γ h H) (I : Inv X pins σ H s) (da : DAt C γ H a ks ws) (db : DAt C γ H b js us) (ok : eqD ks ws js us = true)
    (q : Q (.bl (if neg then !W.eq (.dct ks ws) (.dct js us) else W.eq (.dct ks ws) (.dct js us))) H) : wpAny (model X.prog X.w) X.A (compareOp (if neg then .NotEq else .Eq) (.ref a) (.ref b)) (EP X pins σ Q) X.xe s := by
  unfold eqD at ok
  simp only [Bool.and_eq_true, Bool.or_eq_true] at ok
  obtain ⟨so, va⟩ := ok
  have la := da.len
  have lb := db.len
  have ok1 := da.ok
  have ok2 := db.ok
  obtain ⟨oa, xs, ys, ha, dA, r1, r2⟩ := da
  obtain ⟨ob, xs', zs, hb, dB, r3, r4⟩ := db
  rw [hW] at dA dB
  have vals : ks.length = js.length → (∀ w ∈ ws, W.lay 39 w = true) ∧ ∀ u ∈ us, W.lay 39 u = true := fun e => by
    rcases va with va | va
    · rw [e] at va
      simp at va
    · exact ⟨fun w hw => List.all_eq_true.mp va.1 w hw, fun u hu => List.all_eq_true.mp va.2 u hu⟩
  rcases so with ⟨f1, f2⟩ | ⟨f1, f2⟩
  · have fk : ∀ k ∈ ks, W.kflat k = true := fun k hk => List.all_eq_true.mp f1 k hk
    have fj : ∀ k ∈ js, W.kflat k = true := fun k hk => List.all_eq_true.mp f2 k hk
    obtain ⟨ka, relA, ddA, _⟩ := do_flat (P := X.prog) dA fk r1 (pin_get I.hok ha)
    obtain ⟨kb, relB, ddB, _⟩ := do_flat (P := X.prog) dB fj r3 (pin_get I.hok hb)
    have ln : ka.length = ks.length := by
      have e := relA.length
      rw [List.length_zip, List.length_map] at e
      have := r2.length
      omega
    have ln2 : kb.length = js.length := by
      have e := relB.length
      rw [List.length_zip, List.length_map] at e
      have := r4.length
      omega
    have hits : ka.length = kb.length → PySem.W.KeqHits X.A.in1 s kb ka (W.dle ws ks js us) := fun e => by
      obtain ⟨y1, y2⟩ := vals (by omega)
      exact hitsW I (A := X.A.in1) (by rw [Around.in1_units]; omega) hK c fj r4 lb relB y2 relA r2 la fk y1
    cases neg with
    | false =>
      refine PySem.W.keq_eq (knd := mixKind X.prog X.w) dA.sys dB.sys ddA ddB (by omega) hits ?_
      rw [dle_len ln ln2]
      exact ⟨.bl _, H, I, rfl, q⟩
    | true =>
      refine PySem.W.keq_ne (knd := mixKind X.prog X.w) dA.sys dB.sys ddA ddB (by omega) hits ?_
      rw [dle_len ln ln2]
      exact ⟨.bl _, H, I, rfl, q⟩
  · have fk : ∀ k ∈ ks, W.isTup k = true := fun k hk => List.all_eq_true.mp f1 k hk
    have fj : ∀ k ∈ js, W.isTup k = true := fun k hk => List.all_eq_true.mp f2 k hk
    obtain ⟨ta, ddA, eA, _, qA, _⟩ := do_tup (P := X.prog) c I.hok dA fk r1 (pin_get I.hok ha)
    obtain ⟨tb, ddB, eB, _, qB, _⟩ := do_tup (P := X.prog) c I.hok dB fj r3 (pin_get I.hok hb)
    have ln : ta.length = ks.length := by have e := congrArg List.length eA; rw [List.length_map, List.length_map] at e; exact e
    have ln2 : tb.length = js.length := by have e := congrArg List.length eB; rw [List.length_map, List.length_map] at e; exact e
    have hits : ta.length = tb.length → HitsH X.A.in1 s tb ta (W.dle ws ks js us) := fun e => by
      obtain ⟨y1, y2⟩ := vals (by omega)
      exact hitsT I (A := X.A.in1) (by rw [Around.in1_units]; omega) hK c ok2.key r4 lb eB qB y2 eA qA r2 la ok1.key y1
    refine eq_heap (knd := nestedKind X.prog X.w) neg dA.sys dB.sys (nroom (by omega)) ddA ddB (by omega) hits ?_
    rw [dle_len ln ln2]
    exact ⟨.bl _, H, I, rfl, q⟩
theorem of_cmp (hu : X.A.units + 65 < cLine) {C : Cf} (hK : C.K = X.K) (hW : C.w = X.w) (o : COp) : OpR X (compareOp (copOf o)) (fun x y H Q => ∃ E, rf2 C (cmpW o) E x y H Q) := by
  intro pins s σ H x y v u Q I rx ry ⟨E, γ, h, w1, w2, c, r1, r2, p⟩
  unfold cmpW at p
  have old := of_cmpO hu hK o pins s σ H x y v u Q I rx ry
  split at p
  · rename_i ks ws e2
    obtain ⟨a, ob, xs, ys, rfl, dd⟩ := look_dct c r2 e2
    cases ry
    split at p
    · rename_i fit
      exact w_isin false hW (by omega) c I ⟨ob, xs, ys, dd⟩ fit r1 rx fun s' I' => ⟨.bl _, H, I', rfl, PoE.here p c rfl⟩
    · exact p.elim
  · rename_i ks ws e2
    obtain ⟨a, ob, xs, ys, rfl, dd⟩ := look_dct c r2 e2
    cases ry
    split at p
    · rename_i fit
      exact w_isin true hW (by omega) c I ⟨ob, xs, ys, dd⟩ fit r1 rx fun s' I' => ⟨.bl _, H, I', rfl, PoE.here p c rfl⟩
    · exact p.elim
  · rename_i js us e2
    obtain ⟨b, db⟩ := look_dct c r2 e2
    obtain ⟨ob, xs, ys, rfl, db⟩ := db
    split at p
    · rename_i ks ws e1
      obtain ⟨a, oa, xs', ys', rfl, da⟩ := look_dct c r1 e1
      cases rx; cases ry
      split at p
      · rename_i ok
        exact w_eqD false hu hK hW c I ⟨oa, xs', ys', da⟩ ⟨ob, xs, ys, db⟩ ok (PoE.here p c rfl)
      · exact p.elim
    · exact p.elim
  · rename_i js us e2
    obtain ⟨b, db⟩ := look_dct c r2 e2
    obtain ⟨ob, xs, ys, rfl, db⟩ := db
    split at p
    · rename_i ks ws e1
      obtain ⟨a, oa, xs', ys', rfl, da⟩ := look_dct c r1 e1
      cases rx; cases ry
      split at p
      · rename_i ok
        exact w_eqD true hu hK hW c I ⟨oa, xs', ys', da⟩ ⟨ob, xs, ys, db⟩ ok (PoE.here p c rfl)
      · exact p.elim
    · exact p.elim
  · exact old ⟨E, γ, h, w1, w2, c, r1, r2, p⟩
theorem pv_cmp (hu : X.A.units + 65 < cLine) {C : Cf} (hK : C.K = X.K) (hW : C.w = X.w) {a b : Expr} {cl : CL} {Wx : WX} {xa xb : Ex} {pos : Pos} {op : CmpOp} {o : COp} (ho : op = copOf o) (ha : PE X a (tev C cl Wx xa)) (hb : PE X b (tev C cl Wx xb)) (hm : behindInMarks op b = false) :
    PE X (.Compare a [op] [b] pos) (tev C cl Wx (xCmp o xa xb)) := by
  subst ho
  refine PE.imp (pe_cmpR (of_cmp hu hK hW o) ha hb hm) fun σ H Q t => ?_
  obtain ⟨γ, σw, h, sl, hc, p⟩ := tev2 (f := cmpW o) t
  refine ⟨γ, σw, h, sl, hc, PoE.imp p fun v H' q => ?_⟩
  obtain ⟨γ, σw, h, sl, hc, p⟩ := q
  exact ⟨γ, σw, h, sl, hc, PoE.imp p fun v' H'' q' => ⟨_, q'⟩⟩
end
end Ov
namespace Ov
open PySem PySem.Spec PyProof.Rows L2
section
variable {X : Cx} {C : Cf} {a b c : Expr} {cl : CL} {Wx : WX} {xa xb xc : Ex} {pos : Pos}
def rest1 (C : Cf) (f : W → Hw → R W) (E : XK) (Q : VK) : VK := fun x H1 => ∃ γ h w, HC C γ h H1 ∧ RW C γ w x ∧ PoE C γ H1 (f w h) Q E
theorem tev1' {f : W → Hw → R W} {σ : L2.St} {H : Hp} {Q : VK} (t : tev C cl Wx (fun cl σ h => (xa cl σ h).bind f) σ H Q) : tev C cl Wx xa σ H (rest1 C f (fun cls d H' => Wx cls d σ H') Q) := by
  obtain ⟨γ, σw, h, sl, hc, p⟩ := tev1 (f := f) t
  exact ⟨γ, σw, h, sl, hc, PoE.imp p fun v H' ⟨γ, σw, h, w, sl, hc, r, p⟩ => ⟨γ, h, w, hc, r, p⟩⟩
theorem tev.imp {σ : L2.St} {H : Hp} {Q Q' : VK} (t : tev C cl Wx xa σ H Q) (i : ∀ v H', Q v H' → Q' v H') : tev C cl Wx xa σ H Q' :=
  let ⟨γ, σw, h, sl, hc, p⟩ := t
  ⟨γ, σw, h, sl, hc, PoE.imp p i⟩
theorem pv_neg (ha : PE X a (tev C cl Wx xa)) : PE X (.UnaryOp .USub a pos) (tev C cl Wx (xNeg xa)) :=
  PE.imp (pe_un un_neg ha) fun σ H Q t => (tev1' t).imp fun x H1 ⟨γ, h, w, hc, r, p⟩ => by
    cases w with
    | int i => exact ⟨i, r, PoE.here p hc rfl⟩
    | _ => exact p.elim
theorem pv_not (ha : PE X a (tev C cl Wx xa)) : PE X (.UnaryOp .Not a pos) (tev C cl Wx (xNot xa)) :=
  PE.imp (pe_not ha) fun σ H Q t => (tev1' t).imp fun x H1 ⟨γ, h, w, hc, r, p⟩ => by
    cases w with
    | bl i => exact ⟨i, r, PoE.here p hc rfl⟩
    | _ => exact p.elim
def rest1s (C : Cf) (f : W → Sw → Hw → R W) (σ : L2.St) (E : XK) (Q : VK) : VK := fun x H1 => ∃ γ σw h w, SL C γ σw σ ∧ HC C γ h H1 ∧ RW C γ w x ∧ PoE C γ H1 (f w σw h) Q E
theorem tev1s {f : W → Sw → Hw → R W} {σ : L2.St} {H : Hp} {Q : VK} (t : tev C cl Wx (fun cl σ h => (xa cl σ h).bind fun x h1 => f x σ h1) σ H Q) :
    tev C cl Wx xa σ H (rest1s C f σ (fun cls d H' => Wx cls d σ H') Q) := by
  obtain ⟨γ, σw, h, sl, hc, p⟩ := t
  refine ⟨γ, σw, h, sl, hc, ?_⟩
  dsimp only at p
  cases ea : xa cl σw h with
  | ok w h1 =>
    rw [ea] at p
    intro γ1 v H1 e1 k1 c1 r1
    exact ⟨γ1, σw, h1, w, sl.ext e1, c1, r1, PoE.step p e1 k1⟩
  | exn c aa h1 => rw [ea] at p; exact p
  | no => rw [ea] at p; exact p
theorem pv_one {op} (ha : PE X a (tev C cl Wx xa)) : PE X (.BoolOp op [a] pos) (tev C cl Wx xa) := pe_one ha
theorem pv_and {r : List Expr} (ha : PE X a (tev C cl Wx xa)) (hb : PE X (.BoolOp .And (b :: r) pos) (tev C cl Wx xb)) : PE X (.BoolOp .And (a :: b :: r) pos) (tev C cl Wx (xAnd xa xb)) :=
  PE.imp (pe_and ha hb) fun σ H Q t => (tev1s (f := fun x σ h1 => match x with
    | .bl true => xb cl σ h1
    | .bl false => .ok (.bl false) h1
    | _ => .no) t).imp fun x H1 ⟨γ, σw, h, w, sl, hc, r, p⟩ => by
    cases w with
    | bl i =>
      refine ⟨i, r, ?_⟩
      cases i with
      | true => exact ⟨γ, σw, h, sl, hc, p⟩
      | false => exact PoE.here p hc rfl
    | _ => exact p.elim
theorem pv_or {r : List Expr} (ha : PE X a (tev C cl Wx xa)) (hb : PE X (.BoolOp .Or (b :: r) pos) (tev C cl Wx xb)) : PE X (.BoolOp .Or (a :: b :: r) pos) (tev C cl Wx (xOr xa xb)) :=
  PE.imp (pe_or ha hb) fun σ H Q t => (tev1s (f := fun x σ h1 => match x with
    | .bl false => xb cl σ h1
    | .bl true => .ok (.bl true) h1
    | _ => .no) t).imp fun x H1 ⟨γ, σw, h, w, sl, hc, r, p⟩ => by
    cases w with
    | bl i =>
      refine ⟨i, r, ?_⟩
      cases i with
      | true => exact PoE.here p hc rfl
      | false => exact ⟨γ, σw, h, sl, hc, p⟩
    | _ => exact p.elim

theorem asB_bind (r : R W) (f : W → Hw → R W) : asB (r.bind f) = r.bind fun x h => asB (f x h) := by
  cases r <;> rfl
theorem PoE.asB {γ : Gh} {H : Hp} {r : R W} {Q : Bool → Hp → Prop} {E : XK} (p : PoB C γ H (asB r) Q E) : PoE C γ H r (fun v H' => ∃ b, v = .bl b ∧ Q b H') E := by
  cases r with
  | ok w h =>
    cases w with
    | bl b => exact fun γ' v H' e k c r => ⟨b, r, p γ' H' e k c⟩
    | _ => exact p.elim
  | exn c a h => exact p
  | no => exact p
theorem ttv_tev {σ : L2.St} {H : Hp} {Q : Bool → Hp → Prop} (t : ttv C cl Wx xa σ H Q) : tev C cl Wx xa σ H (fun v H' => ∃ b, v = .bl b ∧ Q b H') :=
  let ⟨γ, σw, h, sl, hc, p⟩ := t
  ⟨γ, σw, h, sl, hc, PoE.asB p⟩
theorem pt_plain (ha : PE X a (tev C cl Wx xa)) (he : ∀ whole, isTrue a X.env whole = (do let v ← whole; standAt a.pos; holding [v] (truthy v))) : PT X a (ttv C cl Wx xa) :=
  PT.imp (pt_val ha he) fun σ H Q t => ttv_tev t
theorem ptv_cmp (hu : X.A.units + 65 < cLine) (hK : C.K = X.K) (hW : C.w = X.w) {op : CmpOp} {o : COp} (ho : op = copOf o) (ha : PE X a (tev C cl Wx xa)) (hb : PE X b (tev C cl Wx xb)) (hm : behindInMarks op b = false) :
    PT X (.Compare a [op] [b] pos) (ttv C cl Wx (xCmp o xa xb)) := by
  subst ho
  refine PT.imp (pt_cmpR (of_cmp hu hK hW o) ha hb hm) fun σ H Q t => ?_
  obtain ⟨γ, σw, h, sl, hc, p⟩ := tev2 (f := cmpW o) (ttv_tev t)
  refine ⟨γ, σw, h, sl, hc, PoE.imp p fun v H' q => ?_⟩
  obtain ⟨γ, σw, h, sl, hc, p⟩ := q
  exact ⟨γ, σw, h, sl, hc, PoE.imp p fun v' H'' q' => ⟨_, q'⟩⟩
theorem pt_notv (ha : PT X a (ttv C cl Wx xa)) : PT X (.UnaryOp .Not a pos) (ttv C cl Wx (xNot xa)) :=
  PT.imp (pt_not ha) fun σ H Q t => by
    obtain ⟨γ, σw, h, sl, hc, p⟩ := t
    refine ⟨γ, σw, h, sl, hc, ?_⟩
    unfold xNot at p
    rw [asB_bind] at p
    cases ea : xa cl σw h with
    | ok w h1 =>
      rw [ea] at p
      cases w with
      | bl b => exact p
      | _ => exact p.elim
    | exn c aa h1 => rw [ea] at p; exact p
    | no => rw [ea] at p; exact p
theorem pw_onev {op} (ha : PT X a (ttv C cl Wx xa)) : PW X (.BoolOp op [a] pos) (ttv C cl Wx xa) := by
  cases op
  · exact pw_and1 ha
  · exact pw_or1 ha
theorem PW.imp {e : Expr} {t t' : TT} (h : PW X e t) (i : ∀ σ H Q, t' σ H Q → t σ H Q) : PW X e t' := ⟨fun wh pins s σ H Q I hw => h.run wh pins s σ H Q I (i σ H Q hw)⟩
theorem pw_andv {r : List Expr} (ha : PT X a (ttv C cl Wx xa)) (hb : PW X (.BoolOp .And (b :: r) pos) (ttv C cl Wx xb)) : PW X (.BoolOp .And (a :: b :: r) pos) (ttv C cl Wx (xAnd xa xb)) :=
  PW.imp (pw_and ha hb) fun σ H Q t => by
    obtain ⟨γ, σw, h, sl, hc, p⟩ := t
    refine ⟨γ, σw, h, sl, hc, ?_⟩
    unfold xAnd at p
    rw [asB_bind] at p
    cases ea : xa cl σw h with
    | ok w h1 =>
      rw [ea] at p
      cases w with
      | bl b =>
        intro γ1 H1 e1 k1 c1
        cases b with
        | true => exact ⟨γ1, σw, h1, sl.ext e1, c1, PoB.step p e1 k1⟩
        | false => exact p γ1 H1 e1 k1 c1
      | _ => exact p.elim
    | exn c aa h1 => rw [ea] at p; exact p
    | no => rw [ea] at p; exact p
theorem pw_orv {r : List Expr} (ha : PT X a (ttv C cl Wx xa)) (hb : PW X (.BoolOp .Or (b :: r) pos) (ttv C cl Wx xb)) : PW X (.BoolOp .Or (a :: b :: r) pos) (ttv C cl Wx (xOr xa xb)) :=
  PW.imp (pw_or ha hb) fun σ H Q t => by
    obtain ⟨γ, σw, h, sl, hc, p⟩ := t
    refine ⟨γ, σw, h, sl, hc, ?_⟩
    unfold xOr at p
    rw [asB_bind] at p
    cases ea : xa cl σw h with
    | ok w h1 =>
      rw [ea] at p
      cases w with
      | bl b =>
        intro γ1 H1 e1 k1 c1
        cases b with
        | true => exact p γ1 H1 e1 k1 c1
        | false => exact ⟨γ1, σw, h1, sl.ext e1, c1, PoB.step p e1 k1⟩
      | _ => exact p.elim
    | exn c aa h1 => rw [ea] at p; exact p
    | no => rw [ea] at p; exact p
theorem pv_ite (hc : PT X c (ttv C cl Wx xc)) (ha : PE X a (tev C cl Wx xa)) (hb : PE X b (tev C cl Wx xb)) : PE X (.IfExp c a b pos) (tev C cl Wx (xIte xc xa xb)) :=
  PE.imp (pe_ifExp hc ha hb) fun σ H Q t => by
    obtain ⟨γ, σw, h, sl, hc, p⟩ := t
    refine ⟨γ, σw, h, sl, hc, ?_⟩
    unfold xIte at p
    cases ea : xc cl σw h with
    | ok w h1 =>
      rw [ea] at p
      cases w with
      | bl b =>
        intro γ1 H1 e1 k1 c1
        cases b with
        | true => exact ⟨γ1, σw, h1, sl.ext e1, c1, PoE.step p e1 k1⟩
        | false => exact ⟨γ1, σw, h1, sl.ext e1, c1, PoE.step p e1 k1⟩
      | _ => exact p.elim
    | exn c aa h1 => rw [ea] at p; exact p
    | no => rw [ea] at p; exact p
theorem isNon_rw {γ : Gh} {w : W} {x : V} (n : w ≠ .any) (r : RW C γ w x) : decide (x = .non) = isNon w := by
  cases w with
  | non => cases r; rfl
  | bl _ => cases r; rfl
  | int _ => cases r; rfl
  | str _ => cases r; rfl
  | tup _ => obtain ⟨a, vs, rfl, _⟩ := r; rfl
  | lst _ => obtain ⟨a, vs, rfl, _⟩ := r; rfl
  | dct _ _ => obtain ⟨a, o, xs, ys, rfl, _⟩ := r; rfl
  | obj _ _ _ => obtain ⟨a, dx, vs, rfl, _⟩ := r; rfl
  | ref _ => obtain ⟨a, rfl, _⟩ := r; rfl
  | any => exact absurd rfl n
  | scr _ => obtain ⟨a, vs, rfl, _⟩ := r; rfl
theorem gIsN_out {yes : Bool} {γ : Gh} {h : Hw} {H : Hp} {w : W} {x : V} {Q : VK} {E : XK} (hc : HC C γ h H) (r : RW C γ w x) (p : PoE C γ H (gIsN yes w h) Q E) : Q (.bl (if yes then decide (x = .non) else !decide (x = .non))) H := by
  have n : w ≠ .any := fun e => by subst e; exact p
  rw [isNon_rw n r]
  have e : gIsN yes w h = .ok (.bl (if yes then isNon w else !isNon w)) h := by
    cases w <;> first | rfl | exact absurd rfl n
  rw [e] at p
  exact PoE.here p hc rfl
theorem pv_isN {j pos'} (ha : PE X a (tev C cl Wx xa)) : PE X (.Compare a [.Is] [.Constant .none j pos'] pos) (tev C cl Wx (xIsN true xa)) :=
  PE.imp (pe_cmp (pc_isN ha)) fun σ H Q t => (tev1' (f := gIsN true) t).imp fun x H1 ⟨γ, h, w, hc, r, p⟩ => gIsN_out hc r p
theorem pv_notN {j pos'} (ha : PE X a (tev C cl Wx xa)) : PE X (.Compare a [.IsNot] [.Constant .none j pos'] pos) (tev C cl Wx (xIsN false xa)) :=
  PE.imp (pe_cmp (pc_notN ha)) fun σ H Q t => (tev1' (f := gIsN false) t).imp fun x H1 ⟨γ, h, w, hc, r, p⟩ => gIsN_out hc r p
theorem ptv_isN {j pos'} (ha : PE X a (tev C cl Wx xa)) : PT X (.Compare a [.Is] [.Constant .none j pos'] pos) (ttv C cl Wx (xIsN true xa)) :=
  PT.imp (pt_cmp (pc_isN ha)) fun σ H Q t => (tev1' (f := gIsN true) (ttv_tev t)).imp fun x H1 ⟨γ, h, w, hc, r, p⟩ => gIsN_out hc r p
theorem ptv_notN {j pos'} (ha : PE X a (tev C cl Wx xa)) : PT X (.Compare a [.IsNot] [.Constant .none j pos'] pos) (ttv C cl Wx (xIsN false xa)) :=
  PT.imp (pt_cmp (pc_notN ha)) fun σ H Q t => (tev1' (f := gIsN false) (ttv_tev t)).imp fun x H1 ⟨γ, h, w, hc, r, p⟩ => gIsN_out hc r p
end
end Ov
namespace Ov
open PySem PySem.Spec PyProof.Rows L2
section
variable {C : Cf} {γ : Gh} {h : Hw} {H : Hp}
theorem nodup_append_one {α : Type} {l : List α} {a : α} (n : l.Nodup) (h : a ∉ l) : (l ++ [a]).Nodup := by
  rw [List.nodup_append]
  refine ⟨n, by simp, fun x hx y hy => ?_⟩
  have : y = a := by simpa using hy
  subst this
  exact fun e => h (e ▸ hx)
theorem HC.cellL (c : HC C γ h H) {p : Addr} {ws : List W} {vs : List V} (n : H p = none) (r : RWs C γ ws vs) :
    ∃ γ', Ext γ γ' H ∧ Keep γ H (upd H p (.lst vs)) ∧ HC C γ' (h ++ [.lst ws]) (upd H p (.lst vs)) ∧ RW C γ' (.ref h.length) (.ref p) := by
  have ne : ∀ a o', H a = some o' → a ≠ p := fun a o' e z => by subst z; rw [n] at e; cases e
  have fp : γ.F p = none := by
    cases e : γ.F p with
    | none => rfl
    | some u => rw [c.frz _ _ e] at n; cases n
  have nι : p ∉ γ.ι := fun hp => c.there p hp n
  have E : Ext γ { γ with ι := γ.ι ++ [p] } H := ⟨⟨[p], rfl, fun a ha => (List.mem_singleton.mp ha) ▸ n⟩, fun _ _ e => e, rfl, rfl⟩
  refine ⟨{ γ with ι := γ.ι ++ [p] }, E, ⟨fun a u e _ => by rw [upd_ne (ne a u e)]; exact e, fun a e => ?_⟩, ⟨by simp [c.len], nodup_append_one c.nd nι, fun m a cc i hm => ?_, fun a i => ?_, fun a u e => ?_, fun a pa => ?_, fun d y e => ?_, fun a l q => by rw [upd_ne (ne a _ (c.lkd a l q))]; exact c.lkd a l q, c.prl⟩, p, rfl, ?_⟩
  · cases q : H a with
    | none => exact absurd q e
    | some u => rw [upd_ne (ne a u q), q]; simp
  · by_cases hlt : m < γ.ι.length
    · rw [List.getElem?_append_left hlt] at i
      rw [List.getElem?_append_left (by rw [c.len]; exact hlt)] at hm
      have hp : a ≠ p := fun z => by subst z; exact nι (List.mem_of_getElem? i)
      have q := c.cell m a cc i hm
      cases cc with
      | lst us =>
        obtain ⟨f, ys, hh, r'⟩ := q
        exact ⟨f, ys, by rw [upd_ne hp]; exact hh, E.rws r'⟩
      | dct _ _ =>
        obtain ⟨f, o, xs, ys, hh, d, r1, r2⟩ := q
        exact ⟨f, o, xs, ys, by rw [upd_ne hp]; exact hh, d, E.rws r1, E.rws r2⟩
      | lck _ _ =>
        obtain ⟨f, o, xs, ys, lo, hh, d, r1, r2⟩ := q
        exact ⟨f, o, xs, ys, lo, by rw [upd_ne hp]; exact hh, d, E.rws r1, E.rws r2⟩
      | obj k ns us =>
        obtain ⟨f, dx, ys, fd, hh, hd, l, r'⟩ := q
        exact ⟨f, dx, ys, fd, by rw [upd_ne hp]; exact hh, by rw [upd_ne (ne _ _ hd)]; exact hd, l, E.rws r'⟩
      | dead => trivial
    · have hm' : m = γ.ι.length := by
        have h1 : m < γ.ι.length + 1 := by simpa using (List.getElem?_eq_some_iff.mp i).1
        omega
      subst hm'
      have : a = p := by simpa using i.symm
      subst this
      have : cc = .lst ws := by
        rw [← c.len] at hm
        simpa using hm.symm
      subst this
      refine ⟨⟨fp, ?_⟩, vs, upd_same, E.rws r⟩
      cases q : γ.L a with
      | none => rfl
      | some l => rw [c.lkd a l q] at n; cases n
  · rcases List.mem_append.mp i with i | i
    · have := c.there a i
      have hp : a ≠ p := by intro z; subst z; exact this n
      rw [upd_ne hp]; exact this
    · have : a = p := by simpa using i
      subst this; rw [upd_same]; simp
  · have := c.frz a u e
    rw [upd_ne (ne _ _ this)]; exact this
  · obtain ⟨a1, a2, a3, a4⟩ := c.prot a pa
    have hp : a ≠ p := by intro z; subst z; exact a1 n
    refine ⟨by rw [upd_ne hp]; exact a1, a2, fun hm => ?_, fun b hb => ?_⟩
    · rcases List.mem_append.mp hm with hm | hm
      · exact a3 hm
      · exact hp (by simpa using hm)
    · rw [upd_ne hp]
      rcases List.mem_append.mp hb with hb | hb
      · exact a4 b hb
      · have : b = p := by simpa using hb
        subst this
        exact fun e => c.own a _ e n
  · by_cases z : d = p
    · subst z; rw [upd_same] at e; cases e
    · rw [upd_ne z] at e
      have := c.own d y e
      have hp : y ≠ p := by intro z; subst z; exact this n
      rw [upd_ne hp]; exact this
  · rw [c.len]; simp
theorem PoE.lstMade {m : Bool} {ws : List W} {vs : List V} {Q : VK} {E : XK} (p : PoE C γ H (made m h (.lst ws)) Q E) (c : HC C γ h H) (r : RWs C γ ws vs) {a : Addr} (n : H a = none) : Q (.ref a) (upd H a (.lst vs)) := by
  cases m with
  | false => exact PoE.lstNew p c r n
  | true =>
    obtain ⟨γ', e, k, c', r'⟩ := c.cellL n r
    exact p γ' _ _ e k c' r'
end
section
variable {X : Cx} {C : Cf} {a b c : Expr} {es : List Expr} {cl : CL} {Wx : WX} {xa xb xc : Ex} {xs : Exs} {pos : Pos}
theorem pas_nil : PA X [] (tes C cl Wx xsNil) := PA.imp pa_nil fun σ H Q ⟨γ, σw, h, sl, hc, p⟩ => p γ [] H (Ext.refl _ _) (Keep.refl _ _) hc rfl
theorem pas_cons (ha : PE X a (tev C cl Wx xa)) (hr : PA X es (tes C cl Wx xs)) (hs : starEach (a :: es) X.env = (false, eval a X.env) :: starEach es X.env) : PA X (a :: es) (tes C cl Wx (xsCons xa xs)) :=
  PA.imp (pa_cons ha hr hs) fun σ H Q ⟨γ, σw, h, sl, hc, p⟩ => by
    refine ⟨γ, σw, h, sl, hc, ?_⟩
    unfold xsCons at p
    cases ea : xa cl σw h with
    | ok w h1 =>
      rw [ea] at p
      intro γ1 v H1 e1 k1 c1 r1
      refine ⟨γ1, σw, h1, sl.ext e1, c1, ?_⟩
      have p1 := PoEs.step p e1 k1
      dsimp only [R.bind] at p1
      cases eb : xs cl σw h1 with
      | ok us h2 =>
        rw [eb] at p1
        intro γ2 vs H2 e2 k2 c2 r2
        exact p1 γ2 _ H2 e2 k2 c2 (RWs.cons (e2.rw r1) r2)
      | exn cc aa h2 => rw [eb] at p1; exact p1
      | no => rw [eb] at p1; exact p1
    | exn cc aa h1 => rw [ea] at p; exact p
    | no => rw [ea] at p; exact p
theorem tes1 {f : List W → Hw → R W} {σ : L2.St} {H : Hp} {Q : VK} (t : tev C cl Wx (fun cl σ h => (xs cl σ h).bind f) σ H Q) :
    tes C cl Wx xs σ H (fun vs H1 => ∃ γ h ws, HC C γ h H1 ∧ RWs C γ ws vs ∧ PoE C γ H1 (f ws h) Q (fun cls d H' => Wx cls d σ H')) := by
  obtain ⟨γ, σw, h, sl, hc, p⟩ := t
  refine ⟨γ, σw, h, sl, hc, ?_⟩
  dsimp only at p
  cases ea : xs cl σw h with
  | ok ws h1 =>
    rw [ea] at p
    intro γ1 vs H1 e1 k1 c1 r1
    exact ⟨γ1, h1, ws, c1, r1, PoE.step p e1 k1⟩
  | exn cc aa h1 => rw [ea] at p; exact p
  | no => rw [ea] at p; exact p
theorem tes.imp {σ : L2.St} {H : Hp} {Q Q' : List V → Hp → Prop} (t : tes C cl Wx xs σ H Q) (i : ∀ v H', Q v H' → Q' v H') : tes C cl Wx xs σ H Q' := by
  obtain ⟨γ, σw, h, sl, hc, p⟩ := t
  refine ⟨γ, σw, h, sl, hc, ?_⟩
  cases ea : xs cl σw h with
  | ok ws h1 => rw [ea] at p; exact fun γ' v H' e k c r => i _ _ (p γ' v H' e k c r)
  | exn cc aa h1 => rw [ea] at p; exact p
  | no => rw [ea] at p; exact p
theorem most_line {n : Nat} (h : Nat.blt n most = true) : n < sizeLine := by
  have : n < most := Nat.le_of_ble_eq_true h
  rw [sizeLine_eq]; unfold most at this; omega
theorem pv_tup {x1} (ha : PA X es (tes C cl Wx xs)) : PE X (.Tuple es x1 pos) (tev C cl Wx (xTup xs)) :=
  PE.imp (pe_tup ha) fun σ H Q t => (tes1 t).imp fun vs H1 ⟨γ, h, ws, c, r, p⟩ => by
    split at p
    · rename_i z
      exact ⟨by rw [← r.length]; exact Nat.le_of_lt (most_line z), fun a n => PoE.tupNew p c r n⟩
    · exact p.elim
theorem pv_lst {m : Bool} (ha : PA X es (tes C cl Wx xs)) : PE X (.List es pos) (tev C cl Wx (xLst m xs)) :=
  PE.imp (pe_lst ha) fun σ H Q t => (tes1 t).imp fun vs H1 ⟨γ, h, ws, c, r, p⟩ => by
    split at p
    · rename_i z
      exact ⟨by rw [← r.length]; exact Nat.le_of_lt (most_line z), fun a n => PoE.lstMade p c r n⟩
    · exact p.elim
theorem ixN_place {n : Nat} {i : Int} : ixN n i = place i n := by
  unfold ixN place
  by_cases h : 0 ≤ i
  · rw [if_pos h, if_pos h]
    by_cases h2 : i < n
    · rw [if_pos h2, if_pos (by omega)]
    · rw [if_neg h2, if_neg (by omega)]
  · rw [if_neg h, if_neg h]
theorem atI_get {γ : Gh} {ws : List W} {vs : List V} {i : Int} {w : W} (r : RWs C γ ws vs) (e : ((place i ws.length).bind fun n => ws[n]?) = some w) : ∃ v, atI vs i = some v ∧ RW C γ w v := by
  cases hp : place i ws.length with
  | none => rw [hp] at e; cases e
  | some n =>
    rw [hp] at e
    obtain ⟨v, q, rv⟩ := r.get (i := n) e
    refine ⟨v, ?_, rv⟩
    unfold atI
    rw [ixN_place, ← r.length, hp]
    exact q
theorem look_int {h : Hw} {w : W} {i : Int} (e : look h w = .int i) : w = .int i := look_flat e trivial
def gIdx : W → W → Hw → R W := fun x y h => .of h (itemW (look h x) y)
theorem ix_all (hu : X.A.units + 9 < cLine) (hW : C.w = X.w) (hK : C.K = X.K) : IxR X (fun x y H Q => ∃ E, rf2 C gIdx E x y H Q) := by
  intro value slice pins s σ H x y v u Q I rx ry ⟨E, γ, h, w1, w2, c, r1, r2, p0⟩ hs
  obtain ⟨w, eo, p⟩ := p0.ofSome
  clear p0
  cases e1 : look h w1 with
  | lst xs =>
    rw [e1] at eo
    cases w2 with
    | int i =>
      obtain ⟨a, vs, rfl, q1, q2⟩ := look_lst c r1 e1
      obtain ⟨v', ea, rv⟩ := atI_get q2 eo
      exact ix_list value slice pins s σ H _ y v u Q I rx ry ⟨a, vs, i, v', rfl, r2, .inl q1, ea, PoE.here p c rv⟩ hs
    | _ => simp [itemW] at eo
  | tup xs =>
    rw [e1] at eo
    cases w2 with
    | int i =>
      obtain ⟨a, vs, rfl, q1, q2⟩ := look_tup c r1 e1
      obtain ⟨v', ea, rv⟩ := atI_get q2 eo
      exact ix_tup value slice pins s σ H _ y v u Q I rx ry ⟨a, vs, i, v', rfl, r2, .inl q1, ea, PoE.here p c rv⟩ hs
    | _ => simp [itemW] at eo
  | str z =>
    rw [e1] at eo
    cases w2 with
    | int i =>
      have := look_flat e1 trivial
      subst this
      simp only [itemW] at eo
      split at eo
      · rename_i hz
        cases hp : place i z.length with
        | none => rw [hp] at eo; cases eo
        | some n =>
          rw [hp] at eo
          have eo' : (z[n]?).map (fun c => W.str [c]) = some w := eo
          cases hn : z[n]? with
          | none => rw [hn] at eo'; cases eo'
          | some k =>
            rw [hn] at eo'; cases eo'
            refine ix_str value slice pins s σ H x y v u Q I rx ry ⟨⟨z.toArray⟩, i, k, r1, r2, ?_, ?_, PoE.here p c rfl⟩ hs
            · show z.toArray.size ≤ sizeLine
              rw [List.size_toArray]; exact Nat.le_of_lt (most_line hz)
            · unfold atI
              rw [ixN_place, show ((⟨z.toArray⟩ : Str).cps.toList) = z from rfl, hp]
              exact hn
      · cases eo
    | _ => simp [itemW] at eo
  | dct ks ws =>
    rw [e1] at eo
    simp only [itemW] at eo
    split at eo
    · rename_i fit
      obtain ⟨a, ob, xs, ys, rfl, dd⟩ := look_dct c r1 e1
      cases rx
      obtain ⟨t1, t2, t3⟩ := w_type (ks := ks) (ws := ws) I ⟨ob, xs, ys, dd⟩
      refine dict_tail t1 hs ?_
      exact w_getItem hW hu c I ⟨ob, xs, ys, dd⟩ fit eo r2 ry fun y' v' s' I' ry' rw' => ⟨y', H, I', ry', PoE.here p c rw'⟩
    · cases eo
  | _ => rw [e1] at eo; simp [itemW] at eo
theorem pv_idx (hu : X.A.units + 9 < cLine) (hW : C.w = X.w) (hK : C.K = X.K) (ha : PE X a (tev C cl Wx xa)) (hb : PE X b (tev C cl Wx xb)) (hs : PlainIx b) : PE X (.Subscript a b pos) (tev C cl Wx (xIdx xa xb)) :=
  PE.imp (pe_ix (ix_all hu hW hK) ha hb hs) fun σ H Q t => by
    obtain ⟨γ, σw, h, sl, hc, p⟩ := tev2 (f := gIdx) t
    refine ⟨γ, σw, h, sl, hc, PoE.imp p fun v H' q => ?_⟩
    obtain ⟨γ, σw, h, sl, hc, p⟩ := q
    exact ⟨γ, σw, h, sl, hc, PoE.imp p fun v' H'' q' => ⟨_, q'⟩⟩
end
end Ov
namespace Ov
open PySem PySem.Spec PyProof.Rows L2
abbrev mkS (l : List Nat) : Str := ⟨l.toArray⟩
theorem mkS_toList (x : Str) : mkS x.cps.toList = x := by cases x; simp [mkS]
theorem mkS_inj {a b : List Nat} (h : mkS a = mkS b) : a = b := by
  have := congrArg Str.cps h
  simpa using this
theorem mkS_append (a b : List Nat) : mkS a ++ mkS b = mkS (a ++ b) := by
  show (⟨a.toArray ++ b.toArray⟩ : Str) = _
  rw [List.append_toArray]
theorem join_mkS (sep : List Nat) : ∀ xs : List (List Nat), Str.join (mkS sep) (xs.map mkS) = mkS (joinBy sep xs)
  | [] => rfl
  | [x] => rfl
  | x :: y :: r => by
    have ih := join_mkS sep (y :: r)
    rw [List.map_cons] at ih
    show mkS x ++ mkS sep ++ Str.join (mkS sep) (mkS y :: r.map mkS) = _
    rw [ih, mkS_append, mkS_append]
    rfl
theorem glued_fold (sep : Str) : ∀ (r : List Str) (acc : Array Nat), (⟨r.foldl (fun acc p => acc ++ sep.cps ++ p.cps) acc⟩ : Str) = (match r with | [] => ⟨acc⟩ | _ :: _ => (⟨acc⟩ : Str) ++ sep ++ Str.join sep r)
  | [], acc => rfl
  | [p], acc => rfl
  | p :: q :: r, acc => by
    rw [List.foldl_cons, glued_fold sep (q :: r)]
    show (⟨acc ++ sep.cps ++ p.cps⟩ : Str) ++ sep ++ Str.join sep (q :: r) = ⟨acc⟩ ++ sep ++ (p ++ sep ++ Str.join sep (q :: r))
    generalize Str.join sep (q :: r) = z
    show (⟨acc ++ sep.cps ++ p.cps ++ sep.cps ++ z.cps⟩ : Str) = ⟨acc ++ sep.cps ++ (p.cps ++ sep.cps ++ z.cps)⟩
    simp [Array.append_assoc]
theorem glued_join (sep : Str) (xs : List Str) : Txt.join sep xs = Str.join sep xs := by
  unfold Txt.join Builtin.Str.glued
  cases xs with
  | nil => rfl
  | cons x r =>
    cases r with
    | nil => rfl
    | cons y r =>
      show (⟨(y :: r).foldl (fun acc p => acc ++ sep.cps ++ p.cps) x.cps⟩ : Str) = _
      rw [glued_fold]
      rfl
theorem splitGo_join (c : Nat) : ∀ s : List Nat, joinBy [c] ((splitGo c s).1 :: (splitGo c s).2) = s
  | [] => rfl
  | a :: r => by
    have ih := splitGo_join c r
    by_cases h : Nat.beq a c = true
    · have e : a = c := Nat.eq_of_beq_eq_true h
      subst e
      show joinBy [a] ((if Nat.beq a a then ([], (splitGo a r).1 :: (splitGo a r).2) else (a :: (splitGo a r).1, (splitGo a r).2)).1 :: (if Nat.beq a a then ([], (splitGo a r).1 :: (splitGo a r).2) else (a :: (splitGo a r).1, (splitGo a r).2)).2) = _
      rw [if_pos h]
      show [] ++ [a] ++ joinBy [a] ((splitGo a r).1 :: (splitGo a r).2) = _
      rw [ih]; rfl
    · show joinBy [c] ((if Nat.beq a c then ([], (splitGo c r).1 :: (splitGo c r).2) else (a :: (splitGo c r).1, (splitGo c r).2)).1 :: (if Nat.beq a c then ([], (splitGo c r).1 :: (splitGo c r).2) else (a :: (splitGo c r).1, (splitGo c r).2)).2) = _
      rw [if_neg h]
      cases e : (splitGo c r).2 with
      | nil =>
        rw [e] at ih
        show a :: (splitGo c r).1 = _
        have : (splitGo c r).1 = r := ih
        rw [this]
      | cons y t =>
        rw [e] at ih
        show a :: (splitGo c r).1 ++ [c] ++ joinBy [c] (y :: t) = _
        rw [List.cons_append, List.cons_append]
        exact congrArg (List.cons a) ih
theorem splitBy_uniq (c : Nat) : ∀ (xs : List (List Nat)) (x : List Nat), (∀ p ∈ x :: xs, c ∉ p) → splitGo c (joinBy [c] (x :: xs)) = (x, xs)
  | [], [], _ => rfl
  | [], a :: r, h => by
    have ha : ¬ Nat.beq a c = true := fun e => by
      have := Nat.eq_of_beq_eq_true e
      exact h (a :: r) List.mem_cons_self (this ▸ List.mem_cons_self)
    have ih := splitBy_uniq c [] r (fun p hp => by
      have : p = r := by simpa using hp
      subst this
      exact fun hm => h (a :: p) List.mem_cons_self (List.mem_cons_of_mem _ hm))
    show (let (x, xs) := splitGo c r; if Nat.beq a c then ([], x :: xs) else (a :: x, xs)) = _
    have ih' : splitGo c r = (r, []) := ih
    rw [ih']
    exact if_neg ha
  | y :: ys, [], h => by
    have ih := splitBy_uniq c ys y fun p hp => h p (List.mem_cons_of_mem _ hp)
    show (let (x, xs) := splitGo c (joinBy [c] (y :: ys)); if Nat.beq c c then ([], x :: xs) else (c :: x, xs)) = _
    rw [ih]
    exact if_pos (Nat.beq_refl c)
  | y :: ys, a :: r, h => by
    have ha : ¬ Nat.beq a c = true := fun e => by
      have := Nat.eq_of_beq_eq_true e
      exact h (a :: r) List.mem_cons_self (this ▸ List.mem_cons_self)
    have ih := splitBy_uniq c (y :: ys) r (fun p hp => by
      rcases List.mem_cons.mp hp with e | hp
      · subst e; exact fun hm => h (a :: p) List.mem_cons_self (List.mem_cons_of_mem _ hm)
      · exact h p (List.mem_cons_of_mem _ hp))
    show (let (x, xs) := splitGo c (joinBy [c] (r :: y :: ys)); if Nat.beq a c then ([], x :: xs) else (a :: x, xs)) = _
    rw [ih]
    exact if_neg ha
theorem map_codes (xs : List Str) : (xs.map fun x => x.cps.toList).map mkS = xs := by
  rw [List.map_map]
  conv => rhs; rw [← List.map_id xs]
  exact List.map_congr_left fun x _ => mkS_toList x
theorem split_mkS (s : List Nat) (c : Nat) : Txt.split (mkS s) (mkS [c]) = (splitBy c s).map mkS := by
  have hj := StrLaws.join_split (mkS s) (mkS [c])
  have hf := StrLaws.split_free (mkS s) c
  have hp := split_pos (mkS s) (mkS [c])
  have e : (⟨#[c]⟩ : Str) = mkS [c] := rfl
  rw [e] at hf
  generalize Txt.split (mkS s) (mkS [c]) = ps at hj hf hp
  cases ps with
  | nil => simp at hp
  | cons p r =>
    have hu := splitBy_uniq c (r.map fun x => x.cps.toList) p.cps.toList (fun q hq => by
      rcases List.mem_cons.mp hq with e | hq
      · subst e; exact hf p List.mem_cons_self
      · obtain ⟨x, hx, rfl⟩ := List.mem_map.mp hq
        exact hf x (List.mem_cons_of_mem _ hx))
    have hs : joinBy [c] (p.cps.toList :: r.map fun x => x.cps.toList) = s := by
      apply mkS_inj
      rw [← join_mkS, List.map_cons, mkS_toList, map_codes]
      exact hj
    rw [hs] at hu
    show _ = (let (x, xs) := splitGo c s; x :: xs).map mkS
    rw [hu]
    show _ = List.map mkS (p.cps.toList :: r.map fun x => x.cps.toList)
    rw [List.map_cons, mkS_toList, map_codes]
theorem splitBy_len (c : Nat) (s : List Nat) : (splitBy c s).length ≤ s.length + 1 := by
  unfold splitBy
  show (splitGo c s).2.length + 1 ≤ _
  have : ∀ s : List Nat, (splitGo c s).2.length ≤ s.length := by
    intro s
    induction s with
    | nil => exact Nat.le_refl _
    | cons a r ih =>
      show (if Nat.beq a c then (([] : List Nat), (splitGo c r).1 :: (splitGo c r).2) else (a :: (splitGo c r).1, (splitGo c r).2)).2.length ≤ r.length + 1
      split
      · show (splitGo c r).2.length + 1 ≤ _; omega
      · show (splitGo c r).2.length ≤ _; omega
  have := this s
  omega
theorem int_mkS (i : Int) : Str.ofString (toString i) = mkS (intText i) := by
  cases i with
  | ofNat m =>
    rw [← mkS_toList (Str.ofString _)]
    congr 1
    have := PySem.W.KIN.signs_num m
    exact this
  | negSucc m =>
    rw [← mkS_toList (Str.ofString _)]
    congr 1
    rw [Str.ofString_eq_toList]
    show (("-" ++ Nat.repr (m + 1)).toList.map Char.toNat).toArray.toList = 45 :: natText (m + 1)
    rw [String.toList_append, List.map_append, Nat.toList_repr]
    rfl
end Ov
namespace Ov
open PySem PySem.Spec PyProof.Rows L2

structure FnG (P : Program) (w : World) (K : PySem.W.Frag) (mg : Str → Option Value) (base : Heap) (k : Nat) (f : Addr) (fd : FuncData) (ps : List Str) (sp : Sp) : Prop where
  len : ∀ vs H Q E, sp vs H Q E → vs.length = ps.length
  run : ∀ (A : Around) (outer : List Env) (s : Shared) (H : Hp) (args : Args) (us : List Value) (vs : List V) (Q : VK) (E : XK), Room k A → A.guards = some [] → Env0 P w K mg base A outer s H →
    BindsTo s fd args (ps.zip us) → Vals vs us → sp vs H Q E → codeAny (model P w) A (.call (.ref f) args) (CR (L2.CX P w) outer P w H s Q E) s
section
variable {P : Program} {w : World} {K : PySem.W.Frag} {mg : Str → Option Value} {base : Heap} {k j : Nat} {f : Addr} {fd : FuncData} {ps : List Str} {sp sp' : Sp}
theorem FnG.mono (F : FnG P w K mg base j f fd ps sp) (h : j ≤ k) : FnG P w K mg base k f fd ps sp :=
  ⟨F.len, fun A o s H a us vs Q E r g => F.run A o s H a us vs Q E (r.mono h) g⟩
theorem FnG.imp (F : FnG P w K mg base k f fd ps sp) (h : ∀ vs H Q E, sp' vs H Q E → sp vs H Q E) : FnG P w K mg base k f fd ps sp' :=
  ⟨fun vs H Q E q => F.len vs H Q E (h _ _ _ _ q), fun A o s H a us vs Q E r g e b v q => F.run A o s H a us vs Q E r g e b v (h _ _ _ _ q)⟩
theorem FnG.none (h : ∀ vs H Q E, ¬ sp vs H Q E) : FnG P w K mg base k f fd ps sp := ⟨fun _ _ _ _ q => (h _ _ _ _ q).elim, fun _ _ _ _ _ _ _ _ _ _ _ _ _ _ q => (h _ _ _ _ q).elim⟩
end
theorem deeper_guards (A : Around) (env : Env) : (A.deeper env).guards = A.guards := rfl
section
variable {X : Cx} {k : Nat} {f c : Addr} {fd : FuncData} {ps : List Str} {sp : Sp} {Wx : WX} {pins : List (Addr × Obj)} {σ : L2.St} {H : Hp} {s : Shared} {Q : VK} {us : List Value} {vs : List V}
def EndIs (X : Cx) (pins : List (Addr × Obj)) (σ : L2.St) (Q : VK) (r : Result) (s' : Shared) : Prop :=
  match r with | .ok (.ret v) => EP X pins σ Q v s' | .ok _ => False | .error e => X.xe e s'
theorem end_of (I : Inv X pins σ H s) (tk : Takes X Wx) {r : Result} {s' : Shared} (h : CR (L2.CX X.prog X.w) X.stack X.prog X.w H s Q (WE Wx σ) r s') : EndIs X pins σ Q r s' := by
  cases r with
  | error e => exact passAt tk σ pins H s e s' I h
  | ok fl => cases fl <;> first | exact I.after h | exact False.elim h
theorem goG (F : FnG X.prog X.w X.K X.mg X.base k f fd ps sp) (hr : Room k X.A) (hg : X.A.guards = some []) (hb : Binds X.K fd ps []) (tk : Takes X Wx)
    (I : Inv X pins σ H s) (r : Vals vs us) (h : sp vs H Q (WE Wx σ)) : wpAny (model X.prog X.w) X.A (call (.ref f) us) (EP X pins σ Q) X.xe s := by
  have l : (us ++ []).length = ps.length := by rw [List.append_nil, ← r.length]; exact F.len _ _ _ _ h
  have b := hb s us I.kIn l
  rw [List.append_nil] at b
  exact wpAny_call (codeAny_mono (F.run X.A X.stack s H ⟨us, []⟩ us vs Q _ hr hg I.env0 b r h) fun _ _ q => end_of I tk q)
theorem makeG (M : Mk X.K c f) (F : FnG X.prog X.w X.K X.mg X.base k f fd ps sp) (hr : Room (k + 1) X.A) (hg : X.A.guards = some []) (hb : Binds X.K fd ps []) (tk : Takes X Wx) (I : Inv X pins σ H s) (r : Vals vs us)
    (h : ∀ x dx, H x = none → H dx = none → dx ≠ x → sp (.ref x :: vs) (upd (upd H dx (.own x)) x (.ins c dx [])) (fun v H2 => v = .non ∧ Q (.ref x) H2) (WE Wx σ)) :
    wpAny (model X.prog X.w) X.A (call (.ref c) us) (EP X pins σ Q) X.xe s := by
  have z := h (s.heap.objs.size + 1) s.heap.objs.size (I.hok.fresh (Nat.le_succ _)) (I.hok.fresh (Nat.le_refl _)) (Nat.ne_of_lt (Nat.lt_succ_self _))
  have J := Inv.made (C := c) I
  have rr : Vals (V.ref (s.heap.objs.size + 1) :: vs) (Value.ref (s.heap.objs.size + 1) :: us) := .cons rfl r
  have l : (Value.ref (s.heap.objs.size + 1) :: us ++ []).length = ps.length := by
    rw [List.append_nil, ← rr.length]; exact F.len _ _ _ _ z
  have b := hb _ (Value.ref (s.heap.objs.size + 1) :: us) J.kIn l
  rw [List.append_nil] at b
  have gg : (X.A.under (.builtin "type.__call__" ⟨.ref c :: us, []⟩)).guards = some [] := by
    rw [← hg]; rfl
  refine wpAny_call (make_map (f := f) I.kIn M.makes M.init (beq_iff_eq.mp M.fn) (codeAny_mono (F.run _ X.stack _ _ _ _ _ _ _ (hr.make c us []) gg (J.env0.make c us []) b rr z) fun q s' e => ?_))
  have e' := end_of J tk e
  cases q with
  | error x => exact e'
  | ok fl =>
    cases fl with
    | ret u =>
      obtain ⟨v, H', J', rv, ev, q3⟩ := e'
      subst ev
      exact ⟨rv, V.ref (s.heap.objs.size + 1), H', J', rfl, q3⟩
    | next => exact e'
    | brk => exact e'
    | cont => exact e'
end
theorem fnG_of {P : Program} {w : World} {K : PySem.W.Frag} {mg : Str → Option Value} {base : Heap} {k : Nat} {f : Addr} {name qual : Str} {params : Arguments} {body : List Stmt} {scope : Scope} {dV kV doc pm cdv ct oc : Value} {an od : Option Addr}
    {osl : Array (Option Value)} {N ps : List Str} {sp : Sp} (lk : K.lookup f = some ⟨oc, od, .func (PySem.W.fnOf name qual params body scope dV kV doc pm an cdv ct), osl⟩) (hcd : PySem.W.codeIn K cdv qual = true) (S : FnScope N ps scope)
    (len : ∀ vs H Q E, sp vs H Q E → vs.length = ps.length)
    (hbody : ∀ (A : Around) (outer : List Env) (s : Shared) (H : Hp) (vs : List V) (Q : VK) (E : XK), Room k (A.deeper (envOfC qual scope s.heap.objs.size f cdv)) → A.guards = some [] → sp vs H Q E →
      ∃ t, PSs (cxOf (L2.CX P w) P w K mg base N qual scope f cdv A outer s H E) body t ∧ t { nx := fun _ H' => Q .non H', rt := Q } (L2.start N vs) H) :
    FnG P w K mg base (k + 1) f (PySem.W.fnOf name qual params body scope dV kV doc pm an cdv ct) ps sp := by
  refine ⟨len, fun A outer s H args us vs Q E hr hg e0 hb r hsp => ?_⟩
  have old : ∀ b o, base.get? b = some o → s.heap.get? b = some o := fun b o e => (e0.bs b o e).1
  have KX : K.In s.heap := e0.mod.kin.keeps old
  have kinds : ∀ y ∈ ps.zip us, scope.names.lookup y.1 = some .local ∨ (scope.names.lookup y.1 = some .cell ∧ ((cellsFrom (s.heap.objs.size + 1) scope.names []).lookup y.1).isSome = true) := fun y hy => by
    obtain ⟨n, v⟩ := y
    exact (S.par n (List.of_mem_zip hy).1).imp id fun q => ⟨q, PySem.W.cellsFrom_some _ _ _ (.inl q)⟩
  refine codeAny_call_function hr.depth (KX _ _ lk) rfl S.co S.gen rfl (PySem.W.codeRec_of KX hcd) (hb _ _ _ _ (wpAny_newFunctionEnv_cells S.kind kinds fun env he s1 x => ?_))
  subst he
  refine ⟨(e0.mod.nolimit.keeps old).keeps x.toInCall.keep, codeAny_func ?_⟩
  obtain ⟨t, ht, hq⟩ := hbody A outer s H vs Q E (hr.deeper _) hg hsp
  have J := inv_start (CX := L2.CX P w) (E := E) S hr.hd e0 (len _ _ _ _ hsp) r x
  refine wpAny_mono (ht.run [] s1 _ H _ J hq) (fun fl s' z => ?_) fun _ _ z => z
  cases fl with
  | ret u => obtain ⟨v, _, H', I, rv, q⟩ := z; exact ⟨v, H', I.os, I.bare, I.base, I.hok, rv, q⟩
  | next => obtain ⟨_, H', I, q⟩ := z; exact ⟨V.non, H', I.os, I.bare, I.base, I.hok, rfl, q⟩
  | brk => obtain ⟨_, _, _, q⟩ := z; exact q.elim
  | cont => obtain ⟨_, _, _, q⟩ := z; exact q.elim
end Ov
namespace Ov
open PySem PySem.Spec PyProof.Rows L2
theorem plain_ok : ∀ c : Nat, plainSign c = true → Unicode.isPrintable c = true ∧ c ≠ 39 ∧ c ≠ 92 ∧ c ≠ 10 ∧ c ≠ 13 ∧ c ≠ 9 := by
  have h : ∀ c : Fin 127, plainSign c.val = true → Unicode.isPrintable c.val = true ∧ c.val ≠ 39 ∧ c.val ≠ 92 ∧ c.val ≠ 10 ∧ c.val ≠ 13 ∧ c.val ≠ 9 := by decide +kernel
  intro c p
  have lt : c < 127 := by
    unfold plainSign at p
    simp only [Bool.and_eq_true] at p
    have := Nat.le_of_ble_eq_true p.1.1.2
    omega
  exact h ⟨c, lt⟩ p
theorem reprChar_plain {c : Nat} (h : plainSign c = true) : Builtin.Str.reprChar 39 c = [c] := by
  obtain ⟨p, h1, h2, h3, h4, h5⟩ := plain_ok c h
  unfold Builtin.Str.reprChar
  simp [p, h1, h2, h3, h4, h5]
theorem quote_plain {s : List Nat} (h : s.all plainSign = true) : reprQuote (mkS s) = 39 := by
  unfold reprQuote
  have n : (mkS s).cps.contains 39 = false := by
    rw [Bool.eq_false_iff]
    intro e
    have m : 39 ∈ s := by simpa using e
    rw [List.all_eq_true] at h
    exact (plain_ok 39 (h 39 m)).2.1 rfl
  first
    | (rw [n]; rfl)
    | simp [n]
theorem fold_plain : ∀ (s : List Nat) (acc : Array Nat), s.all plainSign = true → s.foldl (fun out c => out ++ (Builtin.Str.reprChar 39 c).toArray) acc = (acc.toList ++ s).toArray
  | [], acc, _ => by simp
  | c :: r, acc, h => by
    rw [List.all_cons, Bool.and_eq_true] at h
    rw [List.foldl_cons, fold_plain r _ h.2, reprChar_plain h.1]
    simp
theorem reprStr_eq {s t : List Nat} (h : reprStr s = some t) : reprText (mkS s) = mkS t := by
  unfold reprStr at h
  split at h
  · rename_i p
    cases h
    unfold reprText
    rw [quote_plain p]
    show (⟨((s.toArray.foldl (fun out c => out ++ (Builtin.Str.reprChar 39 c).toArray) #[39]).push 39)⟩ : Str) = _
    rw [← Array.foldl_toList, fold_plain _ _ p]
    simp [mkS]
  · cases h
theorem textFrom_more (k : Nat) : ∀ (ts : List (List Nat)) (acc : List Nat), textFrom (k + 1) (mkS acc) (ts.map mkS) = mkS (acc ++ (ts.map fun t => 44 :: 32 :: t).flatten)
  | [], acc => by simp [textFrom]
  | t :: r, acc => by
    rw [List.map_cons, textFrom, if_pos (Nat.succ_pos k)]
    have e : (Str.ofString ", ") = mkS [44, 32] := by decide +kernel
    rw [e, mkS_append, mkS_append, textFrom_more]
    simp
theorem comma_flat : ∀ (t : List Nat) (ts : List (List Nat)), commaJoin (t :: ts) = t ++ (ts.map fun t => 44 :: 32 :: t).flatten
  | t, [] => by simp [commaJoin]
  | t, u :: r => by
    show t ++ 44 :: 32 :: commaJoin (u :: r) = _
    rw [comma_flat u r]
    simp
theorem listText_eq (ts : List (List Nat)) : listText (ts.map mkS) = mkS (91 :: commaJoin ts ++ [93]) := by
  unfold listText
  have e1 : (Str.ofString "[") = mkS [91] := by decide +kernel
  have e2 : (Str.ofString "]") = mkS [93] := by decide +kernel
  rw [e1, e2]
  cases ts with
  | nil => rw [List.map_nil, textFrom, mkS_append]; rfl
  | cons t r =>
    rw [List.map_cons, textFrom, if_neg (by omega), comma_flat]
    have e3 : (Str.ofString "") = mkS [] := by decide +kernel
    rw [e3, mkS_append, mkS_append, textFrom_more, mkS_append]
    simp
theorem joinComma : ∀ ts : List (List Nat), joinBy [44, 32] ts = commaJoin ts
  | [] => rfl
  | [_] => rfl
  | t :: u :: r => by
    show t ++ [44, 32] ++ joinBy [44, 32] (u :: r) = _
    rw [joinComma (u :: r)]
    simp [commaJoin]
theorem tupleText_eq (ts : List (List Nat)) : tupleText (ts.map mkS) = mkS (40 :: commaJoin ts ++ (if ts.length == 1 then [44, 41] else [41])) := by
  unfold tupleText
  have e1 : (Str.ofString "(") = mkS [40] := by decide +kernel
  have e2 : (Str.ofString ", ") = mkS [44, 32] := by decide +kernel
  have e3 : (Str.ofString (if (ts.map mkS).length == 1 then ",)" else ")")) = mkS (if ts.length == 1 then [44, 41] else [41]) := by
    rw [List.length_map]
    split
    · decide +kernel
    · decide +kernel
  rw [e1, e2, e3, join_mkS, mkS_append, mkS_append, joinComma]
  rfl
structure Shown (d : PyData) (t : List Nat) : Prop where
  txt : d.shown = mkS t
  ok : d.showable = true
  nd : d.hasDict = false
structure ShownS (ds : List PyData) (ts : List (List Nat)) : Prop where
  txt : PyData.shownAll ds = ts.map mkS
  ok : PyData.showableAll ds = true
  nd : PyData.hasDictAll ds = false
mutual
theorem repr_shown : ∀ (w : W) (t : List Nat), W.repr w = some t → Shown (pyd w) t
  | .non, t, h => by cases h; exact ⟨by decide +kernel, rfl, rfl⟩
  | .bl true, t, h => by cases h; exact ⟨by decide +kernel, rfl, rfl⟩
  | .bl false, t, h => by cases h; exact ⟨by decide +kernel, rfl, rfl⟩
  | .int i, t, h => by
    simp only [W.repr] at h
    split at h
    · rename_i z; cases h
      have : i.natAbs.log2 < 1900 := Nat.le_of_ble_eq_true z
      exact ⟨int_mkS i, decide_eq_true (by omega), rfl⟩
    · cases h
  | .str s, t, h => ⟨reprStr_eq h, rfl, rfl⟩
  | .tup [], t, h => by cases h; exact ⟨tupleText_eq [], rfl, rfl⟩
  | .tup [x], t, h => by
    simp only [W.repr] at h
    cases e : W.repr x with
    | none => rw [e] at h; cases h
    | some u =>
      rw [e] at h; cases h
      have i := repr_shown x u e
      refine ⟨?_, ?_, ?_⟩
      · show tupleText (PyData.shownAll [pyd x]) = _
        rw [PyData.shownAll, PyData.shownAll, i.txt]
        exact tupleText_eq [u]
      · show PyData.showableAll [pyd x] = true
        rw [PyData.showableAll, i.ok]; rfl
      · show PyData.hasDictAll [pyd x] = false
        rw [PyData.hasDictAll, i.nd]; rfl
  | .tup (x :: y :: r), t, h => by
    simp only [W.repr] at h
    cases e : W.repr x with
    | none => rw [e] at h; cases h
    | some u =>
      rw [e] at h
      cases e2 : W.reprs (y :: r) with
      | none => rw [e2] at h; cases h
      | some us =>
        rw [e2] at h; cases h
        have i := repr_shown x u e
        have j := reprs_shown (y :: r) us e2
        have l : us.length = (y :: r).length := by
          have := congrArg List.length j.txt
          rw [List.length_map] at this
          rw [← this]
          have : ∀ ds : List PyData, (PyData.shownAll ds).length = ds.length := by
            intro ds
            induction ds with
            | nil => rfl
            | cons a b ih => rw [PyData.shownAll, List.length_cons, List.length_cons, ih]
          rw [this, pyds_map, List.length_map]
        refine ⟨?_, ?_, ?_⟩
        · show tupleText (PyData.shownAll (pyd x :: pyds (y :: r))) = _
          rw [PyData.shownAll, i.txt, j.txt]
          have := tupleText_eq (u :: us)
          rw [List.map_cons] at this
          rw [this, if_neg]
          rw [List.length_cons, l]
          simp
        · show PyData.showableAll (pyd x :: pyds (y :: r)) = true
          rw [PyData.showableAll, i.ok, j.ok]; rfl
        · show PyData.hasDictAll (pyd x :: pyds (y :: r)) = false
          rw [PyData.hasDictAll, i.nd, j.nd]; rfl
  | .lst xs, t, h => by
    simp only [W.repr] at h
    cases e2 : W.reprs xs with
    | none => rw [e2] at h; cases h
    | some us =>
      rw [e2] at h; cases h
      have j := reprs_shown xs us e2
      refine ⟨?_, j.ok, j.nd⟩
      show listText (PyData.shownAll (pyds xs)) = _
      rw [j.txt]
      exact listText_eq us
  | .dct _ _, _, h => by simp [W.repr] at h
  | .obj _ _ _, _, h => by simp [W.repr] at h
  | .ref _, _, h => by simp [W.repr] at h
theorem reprs_shown : ∀ (ws : List W) (ts : List (List Nat)), W.reprs ws = some ts → ShownS (pyds ws) ts
  | [], ts, h => by cases h; exact ⟨rfl, rfl, rfl⟩
  | x :: r, ts, h => by
    simp only [W.reprs] at h
    cases e : W.repr x with
    | none => rw [e] at h; cases h
    | some u =>
      rw [e] at h
      cases e2 : W.reprs r with
      | none => rw [e2] at h; cases h
      | some us =>
        rw [e2] at h; cases h
        have i := repr_shown x u e
        have j := reprs_shown r us e2
        exact ⟨by rw [pyds, PyData.shownAll, i.txt, j.txt, List.map_cons], by rw [pyds, PyData.showableAll, i.ok, j.ok]; rfl, by rw [pyds, PyData.hasDictAll, i.nd, j.nd]; rfl⟩
end
end Ov
namespace Ov
open PySem PySem.Spec PyProof.Rows L2
section
variable {C : Cf} {γ : Gh} {h : Hw} {H : Hp}
theorem strs_rw : ∀ {xs : List W} {ss : List (List Nat)} {vs : List V}, strsOf xs = some ss → RWs C γ xs vs → vs = (ss.map mkS).map V.str
  | [], _, _, e, r => by cases e; cases r; rfl
  | .str s :: xs, ss, vs, e, ⟨v, r, e1, a, b⟩ => by
    simp only [strsOf] at e
    cases e2 : strsOf xs with
    | none => rw [e2] at e; cases e
    | some us =>
      rw [e2] at e; cases e
      subst e1
      cases a
      rw [strs_rw e2 b]; rfl
  | .non :: _, _, _, e, _ => by cases e
  | .bl _ :: _, _, _, e, _ => by cases e
  | .int _ :: _, _, _, e, _ => by cases e
  | .tup _ :: _, _, _, e, _ => by cases e
  | .lst _ :: _, _, _, e, _ => by cases e
  | .dct _ _ :: _, _, _, e, _ => by cases e
  | .obj _ _ _ :: _, _, _, e, _ => by cases e
  | .ref _ :: _, _, _, e, _ => by cases e
  | .any :: _, _, _, e, _ => by cases e
  | .scr _ :: _, _, _, e, _ => by cases e
theorem bls_rw : ∀ {xs : List W} {ss : List Bool} {vs : List V}, blsOf xs = some ss → RWs C γ xs vs → vs = ss.map V.bl
  | [], _, _, e, r => by cases e; cases r; rfl
  | .bl s :: xs, ss, vs, e, ⟨v, r, e1, a, b⟩ => by
    simp only [blsOf] at e
    cases e2 : blsOf xs with
    | none => rw [e2] at e; cases e
    | some us =>
      rw [e2] at e; cases e
      subst e1
      cases a
      rw [bls_rw e2 b]; rfl
  | .non :: _, _, _, e, _ => by cases e
  | .str _ :: _, _, _, e, _ => by cases e
  | .int _ :: _, _, _, e, _ => by cases e
  | .tup _ :: _, _, _, e, _ => by cases e
  | .lst _ :: _, _, _, e, _ => by cases e
  | .dct _ _ :: _, _, _, e, _ => by cases e
  | .obj _ _ _ :: _, _, _, e, _ => by cases e
  | .ref _ :: _, _, _, e, _ => by cases e
  | .any :: _, _, _, e, _ => by cases e
  | .scr _ :: _, _, _, e, _ => by cases e
theorem strs_made : ∀ (ss : List (List Nat)), RWs C γ (ss.map W.str) ((ss.map mkS).map V.str)
  | [] => rfl
  | s :: r => ⟨_, _, rfl, rfl, strs_made r⟩
end
def rG (C : Cf) (g : Gf) : List V → Hp → VK → Prop := fun vs H Q => ∃ E γ h ws, HC C γ h H ∧ RWs C γ ws vs ∧ PoE C γ H (g ws h) Q E
section
variable {X : Cx} {C : Cf} {a : Expr} {es : List Expr} {cl : CL} {Wx : WX} {xa : Ex} {xs : Exs} {pos p : Pos} {id T : String} {x : Str} {g : Gf}
theorem pv_B (hc : CallR X (.builtin id) (rG C g)) (hg : Gl X x) (hm : X.mg x = none) (hv : bootBuiltins x = some (.builtin id)) (ha : PA X (a :: es) (tes C cl Wx xs)) (hn : x ≠ "__name__") (hdb : (x == ("__debug__" : Str)) = false)
    (he : starEach (a :: es) X.env = (false, eval a X.env) :: starEach es X.env) (hpl : (backTo pos (starEach es X.env)).any (·.1) = false) : PE X (.Call (.Name x p) (a :: es) [] pos) (tev C cl Wx (xF g xs)) :=
  PE.imp (pe_callB hc hg hm hv ha hn hdb he hpl) fun σ H Q t => (tes1 (f := g) t).imp fun vs H1 ⟨γ, h, ws, c, r, q⟩ => ⟨_, γ, h, ws, c, r, q⟩
theorem pv_T (hc : CallR X (.type T) (rG C g)) (hg : Gl X x) (hm : X.mg x = none) (hv : bootBuiltins x = some (.type T)) (ha : PA X (a :: es) (tes C cl Wx xs)) (hn : x ≠ "__name__") (hdb : (x == ("__debug__" : Str)) = false)
    (he : starEach (a :: es) X.env = (false, eval a X.env) :: starEach es X.env) (hpl : (backTo pos (starEach es X.env)).any (·.1) = false) : PE X (.Call (.Name x p) (a :: es) [] pos) (tev C cl Wx (xF g xs)) :=
  PE.imp (pe_callTy hc hg hm hv ha hn hdb he hpl) fun σ H Q t => (tes1 (f := g) t).imp fun vs H1 ⟨γ, h, ws, c, r, q⟩ => ⟨_, γ, h, ws, c, r, q⟩
theorem one_rw {γ : Gh} {w : W} {vs : List V} (r : RWs C γ [w] vs) : ∃ v, vs = [v] ∧ RW C γ w v := by
  obtain ⟨v, q, e, r1, r2⟩ := r
  cases r2
  exact ⟨v, e, r1⟩
theorem two_rw {γ : Gh} {w u : W} {vs : List V} (r : RWs C γ [w, u] vs) : ∃ v v2, vs = [v, v2] ∧ RW C γ w v ∧ RW C γ u v2 := by
  obtain ⟨v, q, e, r1, r2⟩ := r
  obtain ⟨v2, e2, r3⟩ := one_rw r2
  exact ⟨v, v2, by rw [e, e2], r1, r3⟩
theorem c_len (hK : C.K = X.K) : CallR X (.builtin "len") (rG C gLen) := by
  intro pins s σ H vs us Q I rv ⟨E, γ, h, ws, c, r, q⟩
  unfold gLen at q
  split at q
  · obtain ⟨v, rfl, r1⟩ := one_rw r
    split at q
    · rename_i w z e
      split at q
      · rename_i hz
        have := look_flat e trivial
        subst this
        refine call_len pins s σ H _ us Q I rv ⟨v, z.length, rfl, ?_, PoE.here q c rfl⟩
        cases r1
        exact ⟨by show z.toArray.size ≤ sizeLine; rw [List.size_toArray]; exact Nat.le_of_lt (most_line hz), rfl⟩
      · exact q.elim
    · rename_i xs e
      obtain ⟨a, vs, rfl, q1, q2⟩ := look_lst c r1 e
      exact call_len pins s σ H _ us Q I rv ⟨.ref a, vs.length, rfl, .inl ⟨vs, .inl q1, rfl⟩, by rw [← q2.length]; exact PoE.here q c rfl⟩
    · rename_i xs e
      obtain ⟨a, vs, rfl, q1, q2⟩ := look_tup c r1 e
      exact call_len pins s σ H _ us Q I rv ⟨.ref a, vs.length, rfl, .inr ⟨vs, .inl q1, rfl⟩, by rw [← q2.length]; exact PoE.here q c rfl⟩
    · rename_i xs e
      obtain ⟨_, a, vs, rfl, q1, q2⟩ := look_scr c r1 e
      exact call_len pins s σ H _ us Q I rv ⟨.ref a, vs.length, rfl, .inl ⟨vs, by rw [← hK]; exact q1, rfl⟩, by rw [← q2.length]; exact PoE.here q c rfl⟩
    · rename_i ks ws e
      obtain ⟨a, dd⟩ := look_dct c r1 e
      obtain ⟨ob, xs, ys, rfl, dd⟩ := dd
      obtain ⟨u, rfl, ru⟩ := vals1 rv
      cases ru
      exact w_len (ks := ks) (ws := ws) I ⟨ob, xs, ys, dd⟩ fun t s' I' => ⟨.int ks.length, H, I', ⟨t, rfl⟩, PoE.here q c rfl⟩
    · exact q.elim
  · exact q.elim
theorem c_str : CallR X (.type "str") (rG C gStr) := by
  intro pins s σ H vs us Q I rv ⟨E, γ, h, ws, c, r, q⟩
  unfold gStr at q
  split at q
  · rename_i i
    obtain ⟨v, rfl, r1⟩ := one_rw r
    split at q
    · rename_i hz
      cases r1
      have : i.natAbs.log2 < 1900 := Nat.le_of_ble_eq_true hz
      exact call_str_int pins s σ H _ us Q I rv ⟨i, rfl, by omega, by rw [int_mkS]; exact PoE.here q c rfl⟩
    · exact q.elim
  · exact q.elim
theorem digits_val : ∀ (s : List Nat) (acc n : Nat), readGo acc s = some n → (∀ c ∈ s, 48 ≤ c ∧ c ≤ 57) ∧ s.foldl (fun a c => a * 10 + (c - 48)) acc = n
  | [], acc, n, e => by cases e; exact ⟨fun c h => (by simp at h), rfl⟩
  | c :: r, acc, n, e => by
    simp only [readGo] at e
    split at e
    · rename_i hd
      obtain ⟨i1, i2⟩ := digits_val r _ n e
      simp only [isDigit, Bool.and_eq_true] at hd
      have h1 := Nat.le_of_ble_eq_true hd.1
      have h2 := Nat.le_of_ble_eq_true hd.2
      refine ⟨fun d hdm => ?_, i2⟩
      rcases List.mem_cons.mp hdm with rfl | hdm
      · exact ⟨h1, h2⟩
      · exact i1 d hdm
    · cases e
theorem c_int : CallR X (.type "int") (rG C gInt) := by
  intro pins s σ H vs us Q I rv ⟨E, γ, h, ws, c, r, q⟩
  unfold gInt at q
  split at q
  · rename_i i
    obtain ⟨v, rfl, r1⟩ := one_rw r
    cases r1
    exact call_int1 pins s σ H _ us Q I rv (.inl ⟨i, rfl, PoE.here q c rfl⟩)
  · rename_i b
    obtain ⟨v, rfl, r1⟩ := one_rw r
    cases r1
    exact call_int1 pins s σ H _ us Q I rv (.inr ⟨b, rfl, by
      have := PoE.here q c (v := .int (b2i b)) rfl
      cases b <;> exact this⟩)
  · rename_i z
    obtain ⟨v, rfl, r1⟩ := one_rw r
    cases r1
    split at q
    · rename_i hz
      split at q
      · rename_i n hn
        unfold readNat at hn
        split at hn
        · cases hn
        · rename_i hne
          obtain ⟨d1, d2⟩ := digits_val z 0 n hn
          have hl : z.length ≤ 600 := Nat.le_of_ble_eq_true hz
          have hls : (mkS z).length ≤ 640 := by show z.toArray.size ≤ 640; rw [List.size_toArray]; omega
          refine call_int_str pins s σ H _ us Q I rv ⟨mkS z, n, rfl, ?_, hls, PoE.here q c rfl⟩
          have e := PySem.intText_digits (x := mkS z) (fun k hk => by
            have := d1 k hk
            exact this) (by intro e; exact hne (by simpa using e)) (by omega)
          rw [e, ← d2]
          rfl
      · exact q.elim
    · exact q.elim
  · exact q.elim
theorem c_abs : CallR X (.builtin "abs") (rG C gAbs) := by
  intro pins s σ H vs us Q I rv ⟨E, γ, h, ws, c, r, q⟩
  unfold gAbs at q
  split at q
  · rename_i i
    obtain ⟨v, rfl, r1⟩ := one_rw r
    cases r1
    exact call_abs pins s σ H _ us Q I rv ⟨i, rfl, PoE.here q c rfl⟩
  · exact q.elim
theorem c_max2 (hc : X.calm = true) : CallR X (.builtin "max") (rG C gMax2) := by
  intro pins s σ H vs us Q I rv ⟨E, γ, h, ws, c, r, q⟩
  unfold gMax2 at q
  split at q
  · rename_i i j
    obtain ⟨v, u, rfl, r1, r2⟩ := two_rw r
    cases r1; cases r2
    exact call_max2 hc pins s σ H _ us Q I rv ⟨i, j, rfl, PoE.here q c rfl⟩
  · exact q.elim
theorem c_min2 (hc : X.calm = true) : CallR X (.builtin "min") (rG C gMin2) := by
  intro pins s σ H vs us Q I rv ⟨E, γ, h, ws, c, r, q⟩
  unfold gMin2 at q
  split at q
  · rename_i i j
    obtain ⟨v, u, rfl, r1, r2⟩ := two_rw r
    cases r1; cases r2
    exact call_min2 hc pins s σ H _ us Q I rv ⟨i, j, rfl, PoE.here q c rfl⟩
  · exact q.elim
theorem c_all (hc : X.calm = true) (hK : C.K = X.K) : CallR X (.builtin "all") (rG C gAll) := by
  intro pins s σ H vs us Q I rv ⟨E, γ, h, ws, c, r, q⟩
  unfold gAll at q
  split at q
  · obtain ⟨v, rfl, r1⟩ := one_rw r
    split at q
    · rename_i xs e
      split at q
      · rename_i bs eb
        obtain ⟨a, vs, rfl, q1, q2⟩ := look_lst c r1 e
        exact cr_all hc pins s σ H _ us Q I rv ⟨a, bs, rfl, by rw [← bls_rw eb q2]; exact .inl q1, PoE.here q c rfl⟩
      · exact q.elim
    · exact q.elim
  · exact q.elim
theorem c_any (hc : X.calm = true) (hK : C.K = X.K) : CallR X (.builtin "any") (rG C gAny) := by
  intro pins s σ H vs us Q I rv ⟨E, γ, h, ws, c, r, q⟩
  unfold gAny at q
  split at q
  · obtain ⟨v, rfl, r1⟩ := one_rw r
    split at q
    · rename_i xs e
      split at q
      · rename_i bs eb
        obtain ⟨a, vs, rfl, q1, q2⟩ := look_lst c r1 e
        exact cr_any hc pins s σ H _ us Q I rv ⟨a, bs, rfl, by rw [← bls_rw eb q2]; exact .inl q1, PoE.here q c rfl⟩
      · exact q.elim
    · exact q.elim
  · exact q.elim
theorem c_list {m : Bool} (hK : C.K = X.K) : CallR X (.type "list") (rG C (gList m)) := by
  intro pins s σ H vs us Q I rv ⟨E, γ, h, ws, c, r, q⟩
  unfold gList at q
  split at q
  · obtain ⟨v, rfl, r1⟩ := one_rw r
    split at q
    · rename_i xs e
      obtain ⟨a, vs, rfl, q1, q2⟩ := look_lst c r1 e
      exact call_list_of pins s σ H _ us Q I rv ⟨a, vs, rfl, .inl (.inl q1), fun l n => PoE.lstMade q c q2 n⟩
    · rename_i xs e
      obtain ⟨a, vs, rfl, q1, q2⟩ := look_tup c r1 e
      exact call_list_of pins s σ H _ us Q I rv ⟨a, vs, rfl, .inr (.inl q1), fun l n => PoE.lstMade q c q2 n⟩
    · exact q.elim
  · exact q.elim
theorem c_tuple (hK : C.K = X.K) : CallR X (.type "tuple") (rG C gTuple) := by
  intro pins s σ H vs us Q I rv ⟨E, γ, h, ws, c, r, q⟩
  unfold gTuple at q
  split at q
  · obtain ⟨v, rfl, r1⟩ := one_rw r
    split at q
    · rename_i xs e
      obtain ⟨a, vs, rfl, q1, q2⟩ := look_lst c r1 e
      exact call_tuple_of pins s σ H _ us Q I rv ⟨a, vs, rfl, .inl ⟨.inl q1, fun l n => PoE.tupNew q c q2 n⟩⟩
    · rename_i w xs e
      obtain ⟨a, vs, rfl, q1, q2⟩ := look_tup c r1 e
      have := look_tupE e
      subst this
      exact call_tuple_of pins s σ H _ us Q I rv ⟨a, vs, rfl, .inr ⟨.inl q1, PoE.here q c r1⟩⟩
    · exact q.elim
  · exact q.elim
theorem c_repr (hu : X.A.units + 65 < cLine) (hgd : X.A.guards = some []) (hK : C.K = X.K) : CallR X (.builtin "repr") (rG C gRepr) := by
  intro pins s σ H vs us Q I rv ⟨E, γ, h, ws, c, r, q⟩
  unfold gRepr at q
  split at q
  · rename_i w
    obtain ⟨v, rfl, r1⟩ := one_rw r
    split at q
    · rename_i t et
      split at q
      · rename_i hz
        rw [Bool.and_eq_true] at hz
        have d := whole_dp c hz.1 r1
        rw [hK] at d
        have sh := repr_shown _ t et
        have ht : (mkS t).length ≤ sizeLine := by
          show t.toArray.size ≤ sizeLine
          rw [List.size_toArray]; exact Nat.le_of_lt (most_line hz.2)
        obtain ⟨u, rfl, ru⟩ := vals1 rv
        have done : ∀ (k : Tok) (h' : Heap) (tk : Nat), (∀ b o, s.heap.get? b = some o → h'.get? b = some o) → EP X pins σ Q (.str (mkS t) k) { s with heap := h', toks := tk } := fun k h' tk kp =>
          ⟨strV t, H, I.kept kp, ⟨k, rfl⟩, PoE.here q c rfl⟩
        have atRef : ∀ a, u = Value.ref a → wpAny (model X.prog X.w) X.A (call (.builtin "repr") [u]) (EP X pins σ Q) X.xe s := fun a e => by
          subst e
          obtain ⟨as, rd⟩ := Dp.reads I _ v _ d.dp ru
          refine PySem.repr_of_reads' rd sh.ok (fun e => by rw [sh.nd] at e; cases e) hgd ?_ (fun _ _ e => e) (fun h' k tk kp => ?_) (by rw [sh.txt]; exact ht)
          · have := d.dep; omega
          · rw [sh.txt]; exact done k h' tk kp
        have st := sh.txt
        cases hw : whole h w with
        | int i =>
          rw [hw] at et st
          cases whole_flatE hw rfl
          cases r1
          obtain ⟨k, rfl⟩ := ru
          have ok := sh.ok
          rw [hw] at ok
          refine PySem.P.repr_of_int (of_decide_eq_true ok) ?_
          rw [show (Str.ofString (toString i)) = mkS t from st]
          exact done _ _ _ fun _ _ e => e
        | str z =>
          rw [hw] at et st
          cases whole_flatE hw rfl
          cases r1
          obtain ⟨k, rfl⟩ := ru
          have st' : reprText (mkS z) = mkS t := st
          refine call_repr_gives (typeIs_str _ _ _) F.slot_str_repr F.entry_str_repr (F.args_str_repr_1 _) (gives_str_repr _ _) ?_ rfl (by rw [st']; exact ht)
          rw [st']
          exact done _ _ _ fun _ _ e => e
        | bl b =>
          rw [hw] at et st
          cases whole_flatE hw rfl
          cases r1
          cases ru
          have st' : (if b then Str.ofString "True" else Str.ofString "False") = mkS t := by
            rw [← st]; cases b <;> rfl
          refine call_repr_gives (x := if b then Str.ofString "True" else Str.ofString "False") rfl F.slot_bool_repr F.entry_bool_repr (F.args_bool_repr_1 _) (gives_bool_repr b) ?_ rfl (by rw [st']; exact ht)
          rw [st']
          exact done _ _ _ fun _ _ e => e
        | non =>
          rw [hw] at et st
          cases whole_flatE hw rfl
          cases r1
          cases ru
          have st' : (Str.ofString "None") = mkS t := st
          refine call_repr_gives (x := Str.ofString "None") rfl F.slot_NoneType_repr F.entry_NoneType_repr (F.args_NoneType_repr_1 _) gives_none_repr ?_ rfl (by rw [st']; exact ht)
          rw [st']
          exact done _ _ _ fun _ _ e => e
        | tup ws =>
          obtain ⟨us, hl, _⟩ := whole_tup hw
          obtain ⟨a, vs, rfl, _⟩ := look_tup c r1 hl
          exact atRef a ru
        | lst ws =>
          obtain ⟨us, hl, _⟩ := whole_lst hw
          obtain ⟨a, vs, rfl, _⟩ := look_lst c r1 hl
          exact atRef a ru
        | dct _ _ => rw [hw] at et; simp [W.repr] at et
        | obj _ _ _ => rw [hw] at et; simp [W.repr] at et
        | ref _ => rw [hw] at et; simp [W.repr] at et
        | any => rw [hw] at et; simp [W.repr] at et
        | scr _ => rw [hw] at et; simp [W.repr] at et
      · exact q.elim
    · exact q.elim
  · exact q.elim
end
end Ov
namespace Ov
open PySem PySem.Spec PyProof.Rows L2
section
variable {C : Cf} {γ : Gh} {h : Hw} {H : Hp}
theorem nodup_get {l : List Addr} (nd : l.Nodup) {i j : Nat} {a : Addr} (h1 : l[i]? = some a) (h2 : l[j]? = some a) : i = j := by
  obtain ⟨l1, e1⟩ := List.getElem?_eq_some_iff.mp h1
  obtain ⟨l2, e2⟩ := List.getElem?_eq_some_iff.mp h2
  exact (List.getElem_inj nd).mp (e1.trans e2.symm)
theorem HC.setL (c : HC C γ h H) {n : Nat} {a : Addr} {ws us : List W} {vs : List V} (i : γ.ι[n]? = some a) (hn : h[n]? = some (.lst ws)) (r : RWs C γ us vs) :
    Keep γ H (upd H a (.lst vs)) ∧ HC C γ (h.set n (.lst us)) (upd H a (.lst vs)) := by
  obtain ⟨fa, xs, ha, _⟩ := c.cell n a _ i hn
  have mem : a ∈ γ.ι := List.mem_of_getElem? i
  refine ⟨⟨fun b o e k => ?_, fun b e => ?_⟩, ⟨by rw [List.length_set]; exact c.len, c.nd, fun m b cc im hm => ?_, fun b ib => ?_, fun b o e => ?_, fun b pb => ?_, fun d y e => ?_, fun b l q => ?_, c.prl⟩⟩
  · by_cases z : b = a
    · subst z
      rcases k mem with q | q
      · rw [fa.1] at q; cases q
      · exact absurd fa.2 q
    · rw [upd_ne z]; exact e
  · by_cases z : b = a
    · subst z; rw [upd_same]; simp
    · rw [upd_ne z]; exact e
  · by_cases z : m = n
    · subst z
      rw [i] at im; cases im
      have hl : m < h.length := (List.getElem?_eq_some_iff.mp hn).1
      rw [List.getElem?_set_self hl] at hm
      cases hm
      exact ⟨fa, vs, upd_same, r⟩
    · rw [List.getElem?_set_ne (Ne.symm z)] at hm
      have za : b ≠ a := fun e => by subst e; exact z (nodup_get c.nd im i)
      have q := c.cell m b cc im hm
      cases cc with
      | lst us => obtain ⟨f, ys, hh, r'⟩ := q; exact ⟨f, ys, by rw [upd_ne za]; exact hh, r'⟩
      | dct _ _ => obtain ⟨f, o, xs, ys, hh, d, r1, r2⟩ := q; exact ⟨f, o, xs, ys, by rw [upd_ne za]; exact hh, d, r1, r2⟩
      | lck _ _ => obtain ⟨f, o, xs, ys, lo, hh, d, r1, r2⟩ := q; exact ⟨f, o, xs, ys, lo, by rw [upd_ne za]; exact hh, d, r1, r2⟩
      | obj k ns us =>
        obtain ⟨f, dx, ys, fd, hh, hd, l, r'⟩ := q
        have zd : dx ≠ a := fun e => by subst e; rw [ha] at hd; cases hd
        exact ⟨f, dx, ys, fd, by rw [upd_ne za]; exact hh, by rw [upd_ne zd]; exact hd, l, r'⟩
      | dead => trivial
  · by_cases z : b = a
    · subst z; rw [upd_same]; simp
    · rw [upd_ne z]; exact c.there b ib
  · by_cases z : b = a
    · subst z; rw [fa.1] at e; cases e
    · rw [upd_ne z]; exact c.frz b o e
  · obtain ⟨p1, p2, p3, p4⟩ := c.prot b pb
    have z : b ≠ a := fun e => by subst e; exact p3 mem
    exact ⟨by rw [upd_ne z]; exact p1, p2, p3, fun d hd => by rw [upd_ne z]; exact p4 d hd⟩
  · have e' : H d = some (.own y) := by
      by_cases z : d = a
      · subst z; rw [upd_same] at e; cases e
      · rw [upd_ne z] at e; exact e
    have := c.own d y e'
    by_cases z : y = a
    · subst z; rw [upd_same]; simp
    · rw [upd_ne z]; exact this
  · have z : b ≠ a := fun e => by subst e; rw [fa.2] at q; cases q
    rw [upd_ne z]; exact c.lkd b l q
end
def tyName : Ty → String
  | .int => "int" | .bool => "bool" | .str => "str" | .tuple => "tuple" | .list => "list" | .dict => "dict"
section
variable {X : Cx} {C : Cf} {a b o e : Expr} {es : List Expr} {cl : CL} {Wx : WX} {xa xb xo : Ex} {xs : Exs} {pos p : Pos}
def TyW (K : PySem.W.Frag) (H : Hp) (x : V) (t : Value) : Prop := TyX K H x t ∨ ∃ a o, x = .ref a ∧ H a = some (pin a o) ∧ o.ExactDict ∧ t = .type "dict"
theorem call_isiW {X : Cx} : CallR X (.builtin "isinstance") (fun xs H Q => ∃ (x k : V) (t u : Value) (b : Bool), xs = [x, k] ∧ ClsV k u ∧ TyW X.K H x t ∧ PySem.W.kitOne X.K t u = some b ∧ Q (.bl b) H) := by
  intro pins s σ H xs us Q I r ⟨x, k, t, u, b, ex, kc, ty, e, q⟩
  subst ex
  rcases ty with ty | ⟨a, o, ex, ho, xd, et⟩
  · exact call_isi pins s σ H _ us Q I r ⟨x, k, t, u, b, rfl, kc, ty, e, q⟩
  · subst ex et
    obtain ⟨u1, u2, eu, r1, r2⟩ := vals2 r
    subst eu
    have e2 := kc.eq r2
    subst e2
    cases r1
    exact PySem.W.kia_one PySem.W.kitx_dict I.kIn ⟨o, pin_get I.hok ho, xd.1⟩ e (fun z => nomatch z) fun tk => ⟨.bl b, H, I.tok tk, rfl, q⟩
theorem isi_ty {γ : Gh} {h : Hw} {H : Hp} {w : W} {v : V} {t : Ty} {b : Bool} (hK : C.K = X.K) (c : HC C γ h H) (r : RW C γ w v) (e : gIsTy t [w] h = .ok (.bl b) h) : ∃ tv, TyW X.K H v tv ∧ PySem.W.kitOne X.K tv (.type (tyName t)) = some b := by
  have tab : ∀ s : String, s ∈ ["NoneType", "bool", "int", "str", "tuple", "list", "dict"] → ∀ t : Ty, kitB s (tyName t) = some (match s, t with
      | "bool", .bool => true | "bool", .int => true | "int", .int => true | "str", .str => true | "tuple", .tuple => true | "list", .list => true | "dict", .dict => true | _, _ => false) := by
    intro s hs t
    simp only [List.mem_cons, List.mem_nil_iff, or_false] at hs
    rcases hs with rfl | rfl | rfl | rfl | rfl | rfl | rfl <;> cases t <;> decide +kernel
  unfold gIsTy at e
  dsimp only at e
  cases hl : look h w with
  | non =>
    rw [hl] at e; have := look_flat hl trivial; subst this; cases r
    refine ⟨_, .inl (.base .non), kit_ty ((tab "NoneType" (by simp) t).trans ?_)⟩
    cases t <;> cases e <;> rfl
  | bl x =>
    rw [hl] at e; have := look_flat hl trivial; subst this; cases r
    refine ⟨_, .inl (.base (.bl _)), kit_ty ((tab "bool" (by simp) t).trans ?_)⟩
    cases t <;> cases e <;> rfl
  | int x =>
    rw [hl] at e; have := look_flat hl trivial; subst this; cases r
    refine ⟨_, .inl (.base (.int _)), kit_ty ((tab "int" (by simp) t).trans ?_)⟩
    cases t <;> cases e <;> rfl
  | str x =>
    rw [hl] at e; have := look_flat hl trivial; subst this; cases r
    refine ⟨_, .inl (.base (.str _)), kit_ty ((tab "str" (by simp) t).trans ?_)⟩
    cases t <;> cases e <;> rfl
  | tup xs =>
    rw [hl] at e
    obtain ⟨a, vs, rfl, q1, q2⟩ := look_tup c r hl
    have ty : TyX X.K H (.ref a) (.type "tuple") := by
      rcases q1 with q | ⟨ob, q⟩
      · exact .base (.tup q)
      · exact .fTuple q
    refine ⟨_, .inl ty, kit_ty ((tab "tuple" (by simp) t).trans ?_)⟩
    cases t <;> cases e <;> rfl
  | lst xs =>
    rw [hl] at e
    obtain ⟨a, vs, rfl, q1, q2⟩ := look_lst c r hl
    have ty : TyX X.K H (.ref a) (.type "list") := by
      rcases q1 with q | ⟨ob, q⟩
      · exact .base (.lst q)
      · exact .base (.frz q)
    refine ⟨_, .inl ty, kit_ty ((tab "list" (by simp) t).trans ?_)⟩
    cases t <;> cases e <;> rfl
  | dct ks ws =>
    rw [hl] at e
    obtain ⟨a, o, xs, ys, rfl, q1, d, _⟩ := look_dct c r hl
    refine ⟨_, .inr ⟨a, o, rfl, q1, d.ex, rfl⟩, kit_ty ((tab "dict" (by simp) t).trans ?_)⟩
    cases t <;> cases e <;> rfl
  | obj _ _ _ => rw [hl] at e; cases e
  | ref _ => rw [hl] at e; cases e
  | any => rw [hl] at e; cases e
  | scr _ => rw [hl] at e; cases e
theorem gIsTy_out {t : Ty} {w : W} {h : Hw} : gIsTy t [w] h = .no ∨ ∃ b, gIsTy t [w] h = .ok (.bl b) h := by
  unfold gIsTy
  dsimp only
  split <;> first | exact .inl rfl | exact .inr ⟨_, rfl⟩
theorem pv_isTy (hK : C.K = X.K) {ty : Str} {t : Ty} {p2 : Pos} (hg : Gl X "isinstance") (hm : X.mg "isinstance" = none) (hg2 : Gl X ty) (hm2 : X.mg ty = none) (hv2 : bootBuiltins ty = some (.type (tyName t))) (hn2 : ty ≠ "__name__") (hd2 : (ty == ("__debug__" : Str)) = false)
    (ha : PE X a (tev C cl Wx xa)) (he : starEach [a, .Name ty p2] X.env = (false, eval a X.env) :: starEach [.Name ty p2] X.env) (he2 : starEach [.Name ty p2] X.env = (false, eval (.Name ty p2) X.env) :: starEach [] X.env) (hpl : (backTo pos (starEach [.Name ty p2] X.env)).any (·.1) = false) :
    PE X (.Call (.Name "isinstance" p) [a, .Name ty p2] [] pos) (tev C cl Wx (xF (gIsTy t) (xsCons xa xsNil))) := by
  have hv : bootBuiltins "isinstance" = some (.builtin "isinstance") := by decide +kernel
  refine PE.imp (pe_callB call_isiW hg hm hv (pa_cons ha (pa_cons (pe_bltn (v := .ty (tyName t)) hg2 hm2 hv2 rfl hn2 hd2) pa_nil he2) he) (by decide) (by decide) he hpl) fun σ H Q tt => ?_
  obtain ⟨γ, σw, h, sl, hc, q⟩ := tt
  refine ⟨γ, σw, h, sl, hc, ?_⟩
  unfold xF xsCons xsNil at q
  cases ea : xa cl σw h with
  | ok w h1 =>
    rw [ea] at q
    intro γ1 v H1 e1 k1 c1 r1
    have q1 := PoE.step q e1 k1
    dsimp only [R.bind] at q1
    rcases gIsTy_out (t := t) (w := w) (h := h1) with z | ⟨bb, z⟩
    · rw [z] at q1; exact q1.elim
    · rw [z] at q1
      obtain ⟨tv, y1, y2⟩ := isi_ty hK c1 r1 z
      exact ⟨v, .ty (tyName t), tv, .type (tyName t), bb, rfl, .ty _, y1, y2, PoE.here q1 c1 rfl⟩
  | exn c aa h1 => rw [ea] at q; exact q
  | no => rw [ea] at q; exact q
def rM (C : Cf) (g : Gm) : V → List V → Hp → VK → Prop := fun x vs H Q => ∃ E γ h w ws, HC C γ h H ∧ RW C γ w x ∧ RWs C γ ws vs ∧ PoE C γ H (g w ws h) Q E
def kdT : Kd → String
  | .str => "str" | .list => "list" | .dict => "dict"
theorem kd_ty {γ : Gh} {h : Hw} {H : Hp} {w : W} {x : V} {k : Kd} (hK : C.K = X.K) (c : HC C γ h H) (r : RW C γ w x) (e : isKd k (look h w) = true) : tyV X.K (kdT k) x H ∨ (k = .dict ∧ ∃ a o, x = .ref a ∧ H a = some (pin a o) ∧ o.ExactDict) := by
  cases hl : look h w with
  | str s => rw [hl] at e; have := look_flat hl trivial; subst this; cases r; cases k <;> first | (cases e; done) | exact .inl rfl
  | dct ks ws =>
    rw [hl] at e
    obtain ⟨a, o, xs, ys, rfl, q1, d, _⟩ := look_dct c r hl
    cases k with
    | dict => exact .inr ⟨rfl, a, o, rfl, q1, d.ex⟩
    | _ => cases e
  | lst xs =>
    rw [hl] at e
    obtain ⟨a, vs, rfl, q1, q2⟩ := look_lst c r hl
    cases k with
    | list => exact .inl (.inl ⟨rfl, vs, .inl q1⟩)
    | _ => cases e
  | _ => rw [hl] at e; cases k <;> cases e
theorem pv_M {k : Kd} {g : Gm} {name : Str} {id : String} {apos cpos : Pos} (hK : C.K = X.K) (pa : PlainAttrs (kdT k)) (slot : Slot (kdT k) name id) (hty : typeOf (.builtin id) = pure (.type "method_descriptor")) (hm : MtR X id (rM C g)) (ho : PE X o (tev C cl Wx xo)) (ha : PA X (e :: es) (tes C cl Wx xs))
    (hbase : attributeBase o name X.env (eval o X.env) = eval o X.env)
    (hfew : ((backTo cpos (starEach (e :: es) X.env)).all (fun x => !x.1) && (backToKw cpos (keywordEach [] X.env)).all (fun x => x.1.isSome)
      && decide ((e :: es).length + ([] : List Keyword).length + (if ([] : List Keyword).isEmpty then 0 else 1) < 30)) = true)
    (hline : (apos.endLine == cpos.line) = true) (hs : starEach (e :: es) X.env = (false, eval e X.env) :: starEach es X.env) (hplain : (backTo cpos (starEach es X.env)).any (·.1) = false) :
    PE X (.Call (.Attribute o name apos) (e :: es) [] cpos) (tev C cl Wx (xM k g xo xs)) := by
  refine ⟨fun pins s σ H Q I t => ?_⟩
  refine wpAny_Call_method_late hbase hfew hline rfl (thn (ho.run pins s σ H _ I (tev1s (f := fun x σ h1 => if isKd k (look h1 x) then (xs cl σ h1).bind fun ws h2 => g x ws h2 else .no) t)) fun v s1 ⟨x, H1, I1, r1, γ, σw, h, w, sl, hc, r, q⟩ => ?_)
  dsimp only at q
  split at q
  case isFalse => exact q.elim
  rename_i z
  have ty : s1.TypeIs v (kdT k) ∧ ∀ a, v = .ref a → ∃ ob, s1.heap.get? a = some ob ∧ ob.dict = none := by
    rcases kd_ty hK hc r z with ty | ⟨rfl, a, o, rfl, q1, d⟩
    · exact tyV_is I1 r1 ty
    · cases r1
      have e' := pin_get I1.hok q1
      exact ⟨⟨o, e', d.1⟩, fun b e => by cases e; exact ⟨o, e', d.2.1⟩⟩
  refine ⟨kdT k, id, pa, slot, hty, ty.1, ty.2, ?_⟩
  have q2 : tes C cl Wx xs σ H1 (fun vs H2 => rM C g x vs H2 Q) := by
    refine ⟨γ, σw, h, sl, hc, ?_⟩
    cases ea : xs cl σw h with
    | ok ws h1 =>
      rw [ea] at q
      intro γ1 vs H2 e1 k1 c1 r1
      exact ⟨_, γ1, h1, w, ws, c1, e1.rw r, r1, PoE.step q e1 k1⟩
    | exn c aa h1 => rw [ea] at q; exact q
    | no => rw [ea] at q; exact q
  have args := ha.run cpos pins s1 σ H1 _ I1 q2
  rw [hs] at args ⊢
  refine Calls.callWith_builtin (by show (false || (backTo cpos (starEach es X.env)).any (·.1)) = false; rw [hplain]; rfl) (Calls.evalArgs_plain ?_)
  exact thn args fun us s2 ⟨vs, H2, I2, rv, q3⟩ => hm pins s2 σ H2 x vs v us Q I2 r1 rv q3
theorem m_append : MtR X "list.append" (rM C mAppend) := by
  intro pins s σ H x vs v us Q I rx rv ⟨E, γ, h, w, ws, c, r, rs, q⟩
  unfold mAppend at q
  split at q
  · rename_i n y
    split at q
    · rename_i xs hn
      split at q
      · rename_i hz
        obtain ⟨a, rfl, i⟩ := r
        obtain ⟨u, rfl, r1⟩ := one_rw rs
        obtain ⟨fa, ys, ha, rys⟩ := c.cell n a _ i hn
        obtain ⟨k, c'⟩ := c.setL i hn (rys.append (RWs.cons r1 RWs.nil))
        refine mt_append pins s σ H _ _ v us Q I rx rv ⟨a, ys, u, rfl, rfl, ha, by rw [← rys.length]; exact most_line hz, ?_⟩
        exact q γ _ _ (Ext.refl _ _) k c' rfl
      · exact q.elim
    · exact q.elim
  · exact q.elim
theorem m_split {m : Bool} : MtR X "str.split" (rM C (mSplit m)) := by
  intro pins s σ H x vs v us Q I rx rv ⟨E, γ, h, w, ws, c, r, rs, q⟩
  unfold mSplit at q
  split at q
  · rename_i z k
    split at q
    · rename_i hz
      cases r
      obtain ⟨u, rfl, r1⟩ := one_rw rs
      cases r1
      refine mt_split pins s σ H _ _ v us Q I rx rv ⟨mkS z, mkS [k], rfl, rfl, rfl, ?_, fun p n => ?_⟩
      · have : z.length < most := Nat.le_of_ble_eq_true hz
        show z.toArray.size + 2 ≤ sizeLine
        rw [List.size_toArray, sizeLine_eq]; unfold most at this; omega
      · rw [split_mkS]
        exact PoE.lstMade q c (strs_made _) n
    · exact q.elim
  · exact q.elim
theorem sum_len (ss : List (List Nat)) : ((ss.map mkS).map (·.length)).sum = (ss.map (·.length)).sum := by
  rw [List.map_map]
  congr 1
theorem m_join : MtR X "str.join" (rM C mJoin) := by
  intro pins s σ H x vs v us Q I rx rv ⟨E, γ, h, w, ws, c, r, rs, q⟩
  unfold mJoin at q
  split at q
  · rename_i z y
    split at q
    · rename_i xs e
      split at q
      · rename_i ss es
        split at q
        · rename_i hz
          cases r
          obtain ⟨u, rfl, r1⟩ := one_rw rs
          obtain ⟨a, vs, rfl, q1, q2⟩ := look_lst c r1 e
          have ev := strs_rw es q2
          subst ev
          refine mt_join pins s σ H _ _ v us Q I rx rv ⟨mkS z, a, ss.map mkS, rfl, rfl, .inl (.inl q1), ?_, ?_⟩
          · have hz' : (ss.map (·.length)).sum + ss.length * z.length < most := Nat.le_of_ble_eq_true hz
            rw [sum_len, List.length_map]
            show _ + ss.length * z.toArray.size ≤ _
            rw [List.size_toArray]; unfold most at hz'; omega
          · rw [glued_join, join_mkS]
            exact PoE.here q c rfl
        · exact q.elim
      · exact q.elim
    · exact q.elim
  · exact q.elim
end
end Ov
namespace Ov
open PySem PySem.Spec PyProof.Rows L2
structure Mor (γ γ' : Gh) : Prop where
  ix : ∀ (n : Nat) (a : Addr), γ.ι[n]? = some a → γ'.ι[n]? = some a
  frz : ∀ a o, γ.F a = some o → γ'.F a = some o
  lk : ∀ a o, γ.L a = some o → γ'.L a = some o
theorem Mor.refl (γ : Gh) : Mor γ γ := ⟨fun _ _ h => h, fun _ _ h => h, fun _ _ h => h⟩
theorem Mor.trans {γ γ1 γ2 : Gh} (a : Mor γ γ1) (b : Mor γ1 γ2) : Mor γ γ2 := ⟨fun n x h => b.ix n x (a.ix n x h), fun x o h => b.frz x o (a.frz x o h), fun x o h => b.lk x o (a.lk x o h)⟩
theorem Ext.mor {γ γ' : Gh} {H : Hp} (e : Ext γ γ' H) : Mor γ γ' := ⟨e.ix, e.frz, fun a o h => by rw [e.lk]; exact h⟩
section
variable {C : Cf} {γ γ' : Gh}
theorem Mor.rw (m : Mor γ γ') {w : W} {v : V} (r : RW C γ w v) : RW C γ' w v := RW.mono m.ix m.frz w v r
theorem Mor.rws (m : Mor γ γ') {w : List W} {v : List V} (r : RWs C γ w v) : RWs C γ' w v := RWs.mono m.ix m.frz w v r
theorem Mor.sl (m : Mor γ γ') {w : Sw} {v : L2.St} (r : SL C γ w v) : SL C γ' w v := ⟨r.1, fun i w h => let ⟨v, a, b⟩ := r.2 i w h; ⟨v, a, m.rw b⟩⟩
end
structure Wk (C : Cf) (γ0 : Gh) (J : It) (xs : List W) (chk : Hw → Bool) : Prop where
  goes : ∀ γ h H i, Mor γ0 γ → HC C γ h H → chk h = true → i < xs.length → J.go i H
  stops : ∀ γ h H, Mor γ0 γ → HC C γ h H → chk h = true → J.stop xs.length H
  yields : ∀ γ h H i w x H', Mor γ0 γ → HC C γ h H → chk h = true → xs[i]? = some w → J.yld i H x H' → ∃ γ', Ext γ γ' H ∧ Keep γ H H' ∧ HC C γ' h H' ∧ RW C γ' w x
theorem Wk.mor {C : Cf} {γ0 γ1 : Gh} {J : It} {xs : List W} {chk : Hw → Bool} (w : Wk C γ0 J xs chk) (m : Mor γ0 γ1) : Wk C γ1 J xs chk :=
  ⟨fun γ h H i a => w.goes γ h H i (m.trans a), fun γ h H a => w.stops γ h H (m.trans a), fun γ h H i u x H' a => w.yields γ h H i u x H' (m.trans a)⟩
mutual
theorem same_eq : ∀ (a b : W), W.same a b = true → a = b
  | .non, b, h => by cases b <;> first | rfl | cases h
  | .bl x, b, h => by
    cases b <;> first | (cases h; done) | skip
    rw [show x = _ from by simpa [W.same] using h]
  | .int x, b, h => by
    cases b <;> first | (cases h; done) | skip
    rw [show x = _ from by simpa [W.same] using h]
  | .str x, b, h => by
    cases b <;> first | (cases h; done) | skip
    rw [show x = _ from by simpa [W.same, seqNat_iff] using h]
  | .tup xs, b, h => by
    cases b <;> first | (cases h; done) | skip
    rw [sames_eq xs _ h]
  | .lst xs, b, h => by
    cases b <;> first | (cases h; done) | skip
    rw [sames_eq xs _ h]
  | .dct ks xs, b, h => by
    cases b <;> first | (cases h; done) | skip
    simp only [W.same, Bool.and_eq_true] at h
    rw [sames_eq ks _ h.1, sames_eq xs _ h.2]
  | .obj c ns xs, b, h => by
    cases b <;> first | (cases h; done) | skip
    simp only [W.same, Bool.and_eq_true, seqNat_iff, decide_eq_true_eq] at h
    obtain ⟨⟨h1, h2⟩, h3⟩ := h
    have e : c = _ := Nat.eq_of_beq_eq_true h1
    rw [sames_eq xs _ h3, h2, e]
  | .ref n, b, h => by
    cases b <;> first | (cases h; done) | skip
    have e : n = _ := Nat.eq_of_beq_eq_true h
    rw [e]
  | .any, b, h => by cases b <;> cases h
  | .scr _, b, h => by cases b <;> cases h
theorem sames_eq : ∀ (a b : List W), W.sames a b = true → a = b
  | [], [], _ => rfl
  | [], _ :: _, h => by cases h
  | _ :: _, [], h => by cases h
  | x :: xs, y :: ys, h => by
    simp only [W.sames, Bool.and_eq_true] at h
    rw [same_eq x y h.1, sames_eq xs ys h.2]
end
theorem cell_same {c d : Cell} (h : Cell.same c d = true) : c = d := by
  cases c <;> cases d <;> first | (cases h; done) | skip
  · rw [sames_eq _ _ h]
  · simp only [Cell.same, Bool.and_eq_true] at h
    rw [sames_eq _ _ h.1, sames_eq _ _ h.2]
  · simp only [Cell.same, Bool.and_eq_true] at h
    rw [sames_eq _ _ h.1, sames_eq _ _ h.2]
  · simp only [Cell.same, Bool.and_eq_true, seqNat_iff, decide_eq_true_eq] at h
    obtain ⟨⟨h1, h2⟩, h3⟩ := h
    rw [sames_eq _ _ h3, h2, Nat.eq_of_beq_eq_true h1]
theorem stands_get {h0 h : Hw} : ∀ {ws : List W} {n : Nat} {c : Cell}, stands h0 h ws = true → .ref n ∈ ws → h0[n]? = some c → h[n]? = some c
  | [], _, _, _, m, _ => by cases m
  | w :: ws, n, c, s, m, e => by
    rcases List.mem_cons.mp m with m | m
    · subst m
      simp only [stands, Bool.and_eq_true] at s
      have s1 := s.1
      rw [e] at s1
      cases e2 : h[n]? with
      | none => rw [e2] at s1; cases s1
      | some d => rw [e2] at s1; rw [cell_same s1]
    · have : stands h0 h ws = true := by
        cases w <;> first | exact s | skip
        simp only [stands, Bool.and_eq_true] at s
        exact s.2
      exact stands_get this m e
section
variable {C : Cf} {γ0 : Gh} {h0 : Hw} {H0 : Hp} {w : W} {v : V} {ws : List W}
theorem lst_at {xs : List W} (c : HC C γ0 h0 H0) (r : RW C γ0 w v) (e : look h0 w = .lst xs) (m : w ∈ ws) : ∃ a, v = .ref a ∧ ∀ γ h H, Mor γ0 γ → HC C γ h H → stands h0 h ws = true → ∃ vs, Rd H a (.lst vs) ∧ RWs C γ xs vs := by
  cases w with
  | lst us =>
    cases e
    obtain ⟨a, vs, rfl, q1, q2⟩ := r
    exact ⟨a, rfl, fun γ h H mo hc _ => ⟨vs, RdM hc.frz (RdM mo.frz q1), mo.rws q2⟩⟩
  | ref n =>
    obtain ⟨a, rfl, i⟩ := r
    simp only [look] at e
    cases hn : h0[n]? with
    | none => rw [hn] at e; cases e
    | some cc =>
      rw [hn] at e
      cases cc with
      | lst us =>
        cases e
        refine ⟨a, rfl, fun γ h H mo hc st => ?_⟩
        obtain ⟨_, vs, q, rr⟩ := hc.cell n a _ (mo.ix _ _ i) (stands_get st m hn)
        exact ⟨vs, .inl q, rr⟩
      | _ => cases e
  | _ => simp [look] at e
theorem tup_at {xs : List W} (r : RW C γ0 w v) (e : look h0 w = .tup xs) : ∃ a, v = .ref a ∧ ∀ γ h H, Mor γ0 γ → HC C γ h H → ∃ vs, Rd H a (.tup vs) ∧ RWs C γ xs vs := by
  have := look_tupE e
  subst this
  obtain ⟨a, vs, rfl, q1, q2⟩ := r
  exact ⟨a, rfl, fun γ h H mo hc => ⟨vs, RdM hc.frz (RdM mo.frz q1), mo.rws q2⟩⟩
end
section
variable {C : Cf} {γ0 : Gh} {K : PySem.W.Frag} {a b : Addr} {xs ys : List W} {chk : Hw → Bool}
def LAt (C : Cf) (γ0 : Gh) (a : Addr) (xs : List W) (chk : Hw → Bool) : Prop := ∀ γ h H, Mor γ0 γ → HC C γ h H → chk h = true → ∃ vs, Rd H a (.lst vs) ∧ RWs C γ xs vs
def TAt (C : Cf) (γ0 : Gh) (a : Addr) (xs : List W) (chk : Hw → Bool) : Prop := ∀ γ h H, Mor γ0 γ → HC C γ h H → chk h = true → ∃ vs, Rd H a (.tup vs) ∧ RWs C γ xs vs
theorem get_lt {vs : List V} {i : Nat} (h : i < vs.length) : vs[i]? = some vs[i] := by simp [h]
theorem wk_list (l : LAt C γ0 a xs chk) : Wk C γ0 (Itl K a) xs chk := by
  refine ⟨fun γ h H i mo hc ck hi => ?_, fun γ h H mo hc ck => ?_, fun γ h H i w x H' mo hc ck e y => ?_⟩
  · obtain ⟨vs, q, r⟩ := l γ h H mo hc ck
    exact ⟨vs, vs[i]'(by rw [← r.length]; exact hi), .inl q, get_lt _⟩
  · obtain ⟨vs, q, r⟩ := l γ h H mo hc ck
    exact ⟨vs, .inl q, by rw [← r.length]; exact Nat.le_refl _⟩
  · obtain ⟨vs, q, r⟩ := l γ h H mo hc ck
    obtain ⟨v, e1, e2⟩ := r.get e
    obtain ⟨rfl, y⟩ := y
    have := y vs (.inl q)
    rw [e1] at this; cases this
    exact ⟨γ, Ext.refl _ _, Keep.refl _ _, hc, e2⟩
theorem wk_tup (l : TAt C γ0 a xs chk) : Wk C γ0 (Itt K a) xs chk := by
  refine ⟨fun γ h H i mo hc ck hi => ?_, fun γ h H mo hc ck => ?_, fun γ h H i w x H' mo hc ck e y => ?_⟩
  · obtain ⟨vs, q, r⟩ := l γ h H mo hc ck
    exact ⟨vs, vs[i]'(by rw [← r.length]; exact hi), .inl q, get_lt _⟩
  · obtain ⟨vs, q, r⟩ := l γ h H mo hc ck
    exact ⟨vs, .inl q, by rw [← r.length]; exact Nat.le_refl _⟩
  · obtain ⟨vs, q, r⟩ := l γ h H mo hc ck
    obtain ⟨v, e1, e2⟩ := r.get e
    obtain ⟨rfl, y⟩ := y
    have := y vs (.inl q)
    rw [e1] at this; cases this
    exact ⟨γ, Ext.refl _ _, Keep.refl _ _, hc, e2⟩
theorem range_len : ∀ (n : Nat) (lo : Int), (rangeGo lo n).length = n
  | 0, _ => rfl
  | n + 1, lo => by rw [rangeGo, List.length_cons, range_len n]
theorem range_get : ∀ (n : Nat) (lo : Int) (i : Nat) (w : W), (rangeGo lo n)[i]? = some w → w = .int (lo + i)
  | 0, _, _, _, e => by simp [rangeGo] at e
  | n + 1, lo, 0, w, e => by simp [rangeGo] at e; subst e; simp
  | n + 1, lo, i + 1, w, e => by
    have := range_get n (lo + 1) i w (by simpa [rangeGo] using e)
    subst this
    congr 1
    omega
theorem wk_range {lo : Int} {n : Nat} : Wk C γ0 (Itr lo n) (rangeGo lo n) chk := by
  refine ⟨fun γ h H i mo hc ck hi => by rw [range_len] at hi; exact hi, fun γ h H mo hc ck => by rw [range_len]; exact Nat.le_refl _, fun γ h H i w x H' mo hc ck e y => ?_⟩
  obtain ⟨rfl, rfl⟩ := y
  have := range_get n lo i w e
  subst this
  exact ⟨γ, Ext.refl _ _, Keep.refl _ _, hc, rfl⟩
theorem wk_str {s : List Nat} : Wk C γ0 (Its (mkS s)) (signs s) chk := by
  have sz : (mkS s).cps.size = (signs s).length := by simp [mkS, signs]
  refine ⟨fun γ h H i mo hc ck hi => by show i < (mkS s).cps.size; rw [sz]; exact hi, fun γ h H mo hc ck => by show (mkS s).cps.size ≤ _; rw [sz]; exact Nat.le_refl _, fun γ h H i w x H' mo hc ck e y => ?_⟩
  obtain ⟨rfl, c, e1, rfl⟩ := y
  have e1' : s[i]? = some c := by simpa [mkS] using e1
  have : w = .str [c] := by
    simp only [signs, List.getElem?_map, e1', Option.map_some, Option.some.injEq] at e
    exact e.symm
  subst this
  exact ⟨γ, Ext.refl _ _, Keep.refl _ _, hc, rfl⟩
theorem num_len : ∀ (xs : List W) (k : Int), (numFrom k xs).length = xs.length
  | [], _ => rfl
  | x :: r, k => by rw [numFrom, List.length_cons, num_len r, List.length_cons]
theorem num_get : ∀ (xs : List W) (k : Int) (i : Nat) (w : W), (numFrom k xs)[i]? = some w → ∃ u, xs[i]? = some u ∧ w = .tup [.int (k + i), u]
  | [], _, _, _, e => by simp [numFrom] at e
  | x :: r, k, 0, w, e => by simp [numFrom] at e; subst e; exact ⟨x, rfl, by simp⟩
  | x :: r, k, i + 1, w, e => by
    obtain ⟨u, e1, e2⟩ := num_get r (k + 1) i w (by simpa [numFrom] using e)
    subst e2
    refine ⟨u, by simpa using e1, ?_⟩
    congr 3
    omega
theorem wk_enum (l : LAt C γ0 a xs chk) : Wk C γ0 (Ite K a) (numFrom 0 xs) chk := by
  refine ⟨fun γ h H i mo hc ck hi => ?_, fun γ h H mo hc ck => ?_, fun γ h H i w x H' mo hc ck e y => ?_⟩
  · obtain ⟨vs, q, r⟩ := l γ h H mo hc ck
    rw [num_len] at hi
    exact ⟨vs, vs[i]'(by rw [← r.length]; exact hi), .inl q, get_lt _⟩
  · obtain ⟨vs, q, r⟩ := l γ h H mo hc ck
    exact ⟨vs, .inl q, by rw [← r.length, num_len]; exact Nat.le_refl _⟩
  · obtain ⟨vs, q, r⟩ := l γ h H mo hc ck
    obtain ⟨u, e1, rfl⟩ := num_get xs 0 i w e
    obtain ⟨v, e2, rv⟩ := r.get e1
    obtain ⟨T, z, rfl, n, rfl, y⟩ := y
    have := y vs (.inl q)
    rw [e2] at this; cases this
    refine hc.layT n (RWs.cons ?_ (RWs.cons rv RWs.nil))
    show V.int (i : Nat) = V.int (0 + (i : Nat))
    rw [Int.zero_add]
theorem zip_len : ∀ (xs ys : List W), (zipW xs ys).length = min xs.length ys.length
  | [], _ => by simp [zipW]
  | _ :: _, [] => by simp [zipW]
  | x :: r, y :: t => by
    rw [zipW, List.length_cons, zip_len r t, List.length_cons, List.length_cons]
    omega
theorem zip_get : ∀ (xs ys : List W) (i : Nat) (w : W), (zipW xs ys)[i]? = some w → ∃ u v, xs[i]? = some u ∧ ys[i]? = some v ∧ w = .tup [u, v]
  | [], _, _, _, e => by simp [zipW] at e
  | _ :: _, [], _, _, e => by simp [zipW] at e
  | x :: r, y :: t, 0, w, e => by simp [zipW] at e; subst e; exact ⟨x, y, rfl, rfl, rfl⟩
  | x :: r, y :: t, i + 1, w, e => by
    obtain ⟨u, v, e1, e2, e3⟩ := zip_get r t i w (by simpa [zipW] using e)
    exact ⟨u, v, by simpa using e1, by simpa using e2, e3⟩
theorem wk_zip (l : LAt C γ0 a xs chk) (l2 : LAt C γ0 b ys chk) : Wk C γ0 (Itz K a b) (zipW xs ys) chk := by
  refine ⟨fun γ h H i mo hc ck hi => ?_, fun γ h H mo hc ck => ?_, fun γ h H i w x H' mo hc ck e y => ?_⟩
  · obtain ⟨vs, q, r⟩ := l γ h H mo hc ck
    obtain ⟨us, q2, r2⟩ := l2 γ h H mo hc ck
    rw [zip_len] at hi
    have h1 : i < vs.length := by rw [← r.length]; omega
    have h2 : i < us.length := by rw [← r2.length]; omega
    exact ⟨vs, us, vs[i], us[i], .inl q, .inl q2, get_lt h1, get_lt h2⟩
  · obtain ⟨vs, q, r⟩ := l γ h H mo hc ck
    obtain ⟨us, q2, r2⟩ := l2 γ h H mo hc ck
    exact ⟨vs, us, .inl q, .inl q2, by rw [← r.length, ← r2.length, zip_len]; omega⟩
  · obtain ⟨vs, q, r⟩ := l γ h H mo hc ck
    obtain ⟨us, q2, r2⟩ := l2 γ h H mo hc ck
    obtain ⟨u, v, e1, e2, rfl⟩ := zip_get xs ys i w e
    obtain ⟨p1, f1, g1⟩ := r.get e1
    obtain ⟨p2, f2, g2⟩ := r2.get e2
    obtain ⟨T, z, z2, rfl, n, rfl, y1, y2⟩ := y
    have := y1 vs (.inl q)
    rw [f1] at this; cases this
    have := y2 us (.inl q2)
    rw [f2] at this; cases this
    exact hc.layT n (RWs.cons g1 (RWs.cons g2 RWs.nil))
theorem wk_zipT (l : TAt C γ0 a xs chk) (l2 : TAt C γ0 b ys chk) : Wk C γ0 (RZ.ItzT K a b) (zipW xs ys) chk := by
  refine ⟨fun γ h H i mo hc ck hi => ?_, fun γ h H mo hc ck => ?_, fun γ h H i w x H' mo hc ck e y => ?_⟩
  · obtain ⟨vs, q, r⟩ := l γ h H mo hc ck
    obtain ⟨us, q2, r2⟩ := l2 γ h H mo hc ck
    rw [zip_len] at hi
    have h1 : i < vs.length := by rw [← r.length]; omega
    have h2 : i < us.length := by rw [← r2.length]; omega
    exact ⟨vs, us, vs[i], us[i], .inl q, .inl q2, get_lt h1, get_lt h2⟩
  · obtain ⟨vs, q, r⟩ := l γ h H mo hc ck
    obtain ⟨us, q2, r2⟩ := l2 γ h H mo hc ck
    exact ⟨vs, us, .inl q, .inl q2, by rw [← r.length, ← r2.length, zip_len]; omega⟩
  · obtain ⟨vs, q, r⟩ := l γ h H mo hc ck
    obtain ⟨us, q2, r2⟩ := l2 γ h H mo hc ck
    obtain ⟨u, v, e1, e2, rfl⟩ := zip_get xs ys i w e
    obtain ⟨p1, f1, g1⟩ := r.get e1
    obtain ⟨p2, f2, g2⟩ := r2.get e2
    obtain ⟨T, z, z2, rfl, n, rfl, y1, y2⟩ := y
    have := y1 vs (.inl q)
    rw [f1] at this; cases this
    have := y2 us (.inl q2)
    rw [f2] at this; cases this
    exact hc.layT n (RWs.cons g1 (RWs.cons g2 RWs.nil))
end
def PoI (C : Cf) (γ : Gh) (H : Hp) (r : R (List W × List W)) (Rr : It → Hp → Prop) (E : XK) : Prop :=
  match r with
  | .ok p h => ∀ γ' J H', Ext γ γ' H → Keep γ H H' → HC C γ' h H' → Wk C γ' J p.2 (fun h' => stands h h' p.1) → Rr J H'
  | .exn c a h => ∀ γ' H' cls d, Ext γ γ' H → Keep γ H H' → HC C γ' h H' → RX C γ' H' c a cls d → E cls d H'
  | .no => False
def tit (C : Cf) (cl : CL) (Wx : WX) (k : IK) (its : Exs) : TI := fun σ H Rr => ∃ γ σw h, SL C γ σw σ ∧ HC C γ h H ∧ PoI C γ H (src k its cl σw h) Rr (fun cls d H' => Wx cls d σ H')
section
variable {X : Cx} {C : Cf} {cl : CL} {Wx : WX} {tg e e2 : Expr} {xe : Ex} {xs : Exs} {p pos tpos : Pos} {elts : List Expr} {kk : Nat}
theorem PI.imp {e : Expr} {t t' : TI} (h : PI X tg e t) (i : ∀ σ H Q, t' σ H Q → t σ H Q) : PI X tg e t' := ⟨fun pins s σ H Q I hw => h.run pins s σ H Q I (i σ H Q hw)⟩
theorem src_inv {k : IK} {γ : Gh} {σw : Sw} {h : Hw} {H : Hp} {Rr : It → Hp → Prop} {E : XK} (q : PoI C γ H (src k xs cl σw h) Rr E) :
    (∃ ws h1 us, xs cl σw h = .ok ws h1 ∧ walked k (ws.map (lookS h1)) = some us ∧ Nat.blt us.length most = true ∧ ∀ γ' J H', Ext γ γ' H → Keep γ H H' → HC C γ' h1 H' → Wk C γ' J us (fun h' => stands h1 h' ws) → Rr J H') ∨
    (∃ c a h1, xs cl σw h = .exn c a h1 ∧ ∀ γ' H' cls d, Ext γ γ' H → Keep γ H H' → HC C γ' h1 H' → RX C γ' H' c a cls d → E cls d H') := by
  unfold src at q
  cases ea : xs cl σw h with
  | ok ws h1 =>
    rw [ea] at q
    dsimp only [R.bind] at q
    cases hw : walked k (ws.map (lookS h1)) with
    | none => rw [hw] at q; exact q.elim
    | some us =>
      rw [hw] at q
      dsimp only at q
      cases hb : Nat.blt us.length most with
      | false => rw [hb] at q; exact q.elim
      | true => rw [hb] at q; exact .inl ⟨ws, h1, us, rfl, hw, hb, q⟩
  | exn c a h1 => rw [ea] at q; exact .inr ⟨c, a, h1, rfl, q⟩
  | no => rw [ea] at q; exact q.elim
theorem one_inv {σw : Sw} {h h1 : Hw} {ws : List W} (e : xsCons xe xsNil cl σw h = .ok ws h1) : ∃ w, xe cl σw h = .ok w h1 ∧ ws = [w] := by
  unfold xsCons xsNil at e
  cases ea : xe cl σw h with
  | ok w h2 => rw [ea] at e; cases e; exact ⟨w, rfl, rfl⟩
  | exn c a h2 => rw [ea] at e; cases e
  | no => rw [ea] at e; cases e
theorem one_invX {σw : Sw} {h h1 : Hw} {c : Nat} {a : Option W} (e : xsCons xe xsNil cl σw h = .exn c a h1) : xe cl σw h = .exn c a h1 := by
  unfold xsCons xsNil at e
  cases ea : xe cl σw h with
  | ok w h2 => rw [ea] at e; cases e
  | exn c a h2 => rw [ea] at e; cases e; rfl
  | no => rw [ea] at e; cases e
end
end Ov
namespace Ov
open PySem PySem.Spec PyProof.Rows L2
def toV : Value → Option V
  | .none => some .non
  | .bool b => some (.bl b)
  | .int i _ => some (.int i)
  | .str x _ => some (.str x)
  | .bytes b _ => some (.byt b)
  | .float b _ => some (.flt b)
  | .ref a => some (.ref a)
  | .type n => some (.ty n)
  | _ => none
theorem toV_of {a : V} {u : Value} (h : L2.RelV a u) : toV u = some a := by
  cases a with
  | non => cases h; rfl
  | bl _ => cases h; rfl
  | int _ => obtain ⟨t, rfl⟩ := h; rfl
  | str _ => obtain ⟨t, rfl⟩ := h; rfl
  | byt _ => obtain ⟨t, rfl⟩ := h; rfl
  | flt _ => obtain ⟨t, rfl⟩ := h; rfl
  | ref _ => cases h; rfl
  | ty _ => cases h; rfl
theorem relV_inj {a b : V} {u : Value} (ha : L2.RelV a u) (hb : L2.RelV b u) : a = b := by
  have := (toV_of ha).symm.trans (toV_of hb)
  exact Option.some.inj this
def ItDK (d : Addr) (o : Obj) (es : Array DictEntry) : It :=
  ⟨fun i H => H d = some (pin d o) ∧ ∃ en x, es[i]? = some en ∧ RelV x en.key, fun i H x H' => H' = H ∧ ∃ en, es[i]? = some en ∧ RelV x en.key, fun i H => H d = some (pin d o) ∧ es.size ≤ i⟩
def ItDV (d : Addr) (o : Obj) (es : Array DictEntry) : It :=
  ⟨fun i H => H d = some (pin d o) ∧ ∃ en x, es[i]? = some en ∧ RelV x en.val, fun i H x H' => H' = H ∧ ∃ en, es[i]? = some en ∧ RelV x en.val, fun i H => H d = some (pin d o) ∧ es.size ≤ i⟩
def ItDI (d : Addr) (o : Obj) (es : Array DictEntry) : It :=
  ⟨fun i H => H d = some (pin d o) ∧ ∃ en x y, es[i]? = some en ∧ RelV x en.key ∧ RelV y en.val, fun i H z H' => ∃ T en x y, es[i]? = some en ∧ RelV x en.key ∧ RelV y en.val ∧ z = .ref T ∧ H T = none ∧ H' = upd H T (.tup [x, y]), fun i H => H d = some (pin d o) ∧ es.size ≤ i⟩
section
variable {P : Program} {w : World} {K : PySem.W.Frag} {tg : Expr} {d : Addr} {o : Obj} {es : Array DictEntry} {ep : Nat}
theorem raw_at {P : Program} {w : World} {H : Hp} {h : Heap} (ok : HOk P w H h) (xd : o.ExactDict) (dt : o.data = .dict es ep) (e : H d = some (pin d o)) : h.DictRaw d es ep := ⟨o, pin_get ok e, xd, dt⟩
theorem turnDK (it : Addr) (xd : o.ExactDict) (dt : o.data = .dict es ep) : Turn P w K tg (ItDK d o es) [it] it (fun i h => h.IsKeyIter it d i es.size ep) where
  mem := List.mem_singleton.mpr rfl
  obj := fun i h st b hb => by
    obtain rfl := List.mem_singleton.mp hb
    obtain ⟨u, e1, e2, e3⟩ := st
    exact ⟨u, e1, fun v q => by rw [e3] at q; cases q⟩
  keep := fun i h h' st k => st.at fun u e => k it (List.mem_singleton.mpr rfl) u e
  item := by
    intro X hP hw hK hc i pins s σ H E I hf st ⟨hd, en, x, hi, rx⟩
    subst hP hw hK
    obtain ⟨f0, f1, f2, f3, f4, f5⟩ := hf it (List.mem_singleton.mpr rfl)
    have lt : i < es.size := (Array.getElem?_eq_some_iff.mp hi).1
    have ee : es[i] = en := (Array.getElem?_eq_some_iff.mp hi).2
    refine wpAny_pyNext_keys_item_raw st (raw_at I.hok xd dt hd) lt fun h' st' sb => ?_
    have J : Inv X pins σ H { s with heap := h' } := I.turned (t' := s.toks) (fun b ob hb q => (sb.2 b hb).trans q) f0 f1 f3 f4 f5
    obtain ⟨u, e1, e2, e3⟩ := id st'
    exact ⟨_, rfl, go_of (s := { s with heap := h' }) e1 e2 e3 (by decide) ⟨x, H, J, by rw [ee]; exact rx, ⟨rfl, en, hi, rx⟩, st', fun b hb => (hf b hb).1⟩⟩
  done := by
    intro X hP hw hK hc i pins s σ H E I hf st ⟨hd, hi⟩
    subst hP hw hK
    obtain ⟨f0, f1, f2, f3, f4, f5⟩ := hf it (List.mem_singleton.mpr rfl)
    exact wpAny_pyNext_keys_end_raw (I.ok.hd hc) st (raw_at I.hok xd dt hd) hi fun h' eb => ⟨rfl, I.turned (t' := s.toks) (fun b ob hb q => eb b ob hb q) f0 f1 f3 f4 f5⟩
  self := fun A i s Q E st h => by
    refine wpAny_pyIter_slot st.typeIs F.slot_dict_keyiterator_iter (wpAny_call_entry F.slot_dict_keyiterator_iter st.typeIs F.entry_dict_keyiterator_iter (wpAny_pure ⟨_, rfl, "dict_keyiterator", _, st.typeIs, F.slot_dict_keyiterator_next.lookup, h⟩) (F.args_dict_keyiterator_iter_1 _))
theorem turnDV (it : Addr) (xd : o.ExactDict) (dt : o.data = .dict es ep) : Turn P w K tg (ItDV d o es) [it] it (fun i h => h.IsValIter it d i es.size ep) where
  mem := List.mem_singleton.mpr rfl
  obj := fun i h st b hb => by
    obtain rfl := List.mem_singleton.mp hb
    obtain ⟨u, e1, e2, e3⟩ := st
    exact ⟨u, e1, fun v q => by rw [e3] at q; cases q⟩
  keep := fun i h h' st k => st.at fun u e => k it (List.mem_singleton.mpr rfl) u e
  item := by
    intro X hP hw hK hc i pins s σ H E I hf st ⟨hd, en, x, hi, rx⟩
    subst hP hw hK
    obtain ⟨f0, f1, f2, f3, f4, f5⟩ := hf it (List.mem_singleton.mpr rfl)
    have lt : i < es.size := (Array.getElem?_eq_some_iff.mp hi).1
    have ee : es[i] = en := (Array.getElem?_eq_some_iff.mp hi).2
    refine wpAny_pyNext_values_item_raw st (raw_at I.hok xd dt hd) lt fun h' st' sb => ?_
    have J : Inv X pins σ H { s with heap := h' } := I.turned (t' := s.toks) (fun b ob hb q => (sb.2 b hb).trans q) f0 f1 f3 f4 f5
    obtain ⟨u, e1, e2, e3⟩ := id st'
    exact ⟨_, rfl, go_of (s := { s with heap := h' }) e1 e2 e3 (by decide) ⟨x, H, J, by rw [ee]; exact rx, ⟨rfl, en, hi, rx⟩, st', fun b hb => (hf b hb).1⟩⟩
  done := by
    intro X hP hw hK hc i pins s σ H E I hf st ⟨hd, hi⟩
    subst hP hw hK
    obtain ⟨f0, f1, f2, f3, f4, f5⟩ := hf it (List.mem_singleton.mpr rfl)
    exact wpAny_pyNext_values_end_raw (I.ok.hd hc) st (raw_at I.hok xd dt hd) hi fun h' eb => ⟨rfl, I.turned (t' := s.toks) (fun b ob hb q => eb b ob hb q) f0 f1 f3 f4 f5⟩
  self := fun A i s Q E st h => wpAny_pyIter_valiter st h
theorem turnDI {elts : List Expr} {kk : Nat} {tpos : Pos} (it : Addr) (xd : o.ExactDict) (dt : o.data = .dict es ep) : Turn P w K (.Tuple elts kk tpos) (ItDI d o es) [it] it (fun i h => ∃ ok ov, IsItemIter h it d i es.size ep ok ov) where
  mem := List.mem_singleton.mpr rfl
  obj := fun i h st b hb => by
    obtain rfl := List.mem_singleton.mp hb
    obtain ⟨ok, ov, e⟩ := st
    exact ⟨_, e, fun v z => nomatch z⟩
  keep := fun i h h' st k => let ⟨ok, ov, e⟩ := st; ⟨ok, ov, k it (List.mem_singleton.mpr rfl) _ e⟩
  item := by
    intro X hP hw hK hc i pins s σ H E I hf st ⟨hd, en, x, y, hi, rx, ry⟩
    subst hP hw hK
    have lt : i < es.size := (Array.getElem?_eq_some_iff.mp hi).1
    have ee : es[i] = en := (Array.getElem?_eq_some_iff.mp hi).2
    obtain ⟨ok, ov, he⟩ := st
    have hl : it < s.heap.objs.size := Heap.lt_size he
    refine wpAny_pyNext_items_item_raw he (raw_at I.hok xd dt hd) lt fun h' ho hT hz hk => ?_
    rw [ee] at ho hT
    refine ⟨_, rfl, wpAny_letOwnedTupleGo_items (s := { s with heap := h' }) ho fun h2 he2 sb => ?_⟩
    have hT2 : h2.get? s.heap.objs.size = some { cls := .type "tuple", data := .seq #[en.key, en.val] } := (sb.2 _ (Nat.ne_of_gt hl)).trans hT
    have new : ObjOk X.prog X.w (upd H s.heap.objs.size (.tup [x, y])) h2 s.heap.objs.size (.tup [x, y]) := ⟨by show 2 ≤ sizeLine; decide, [en.key, en.val], .cons rx (.cons ry .nil), ⟨_, hT2, rfl, _, rfl⟩⟩
    have J : Inv X pins σ (upd H s.heap.objs.size (.tup [x, y])) { s with heap := h2 } :=
      I.turnedNew (t' := s.toks) (ch := [it]) (fun b ob hb q => (sb.2 b (by simpa using hb)).trans (hk b ob (by simpa using hb) q)) hf (Nat.le_refl _) new
    refine ⟨.ref s.heap.objs.size, _, J, rfl, ⟨_, en, x, y, hi, rx, ry, rfl, I.hok.fresh (Nat.le_refl _), rfl⟩, ⟨_, _, he2⟩, fun b hb => ?_⟩
    obtain rfl := List.mem_singleton.mp hb
    rw [upd_ne (Nat.ne_of_lt hl)]
    exact (hf _ hb).1
  done := by
    intro X hP hw hK hc i pins s σ H E I hf st ⟨hd, hi⟩
    subst hP hw hK
    obtain ⟨f0, f1, f2, f3, f4, f5⟩ := hf it (List.mem_singleton.mpr rfl)
    obtain ⟨ok, ov, he⟩ := st
    exact wpAny_pyNext_items_end_raw (I.ok.hd hc) he (raw_at I.hok xd dt hd) hi fun h' eb => ⟨rfl, I.turned (t' := s.toks) (fun b ob hb q => eb b ob hb q) f0 f1 f3 f4 f5⟩
  self := fun A i s Q E st h => let ⟨_, _, e⟩ := st; PySem.W.kcp_self e h
end
theorem Ents.get {w : World} : ∀ {ks : List W} {xs ys : List V} {ds : List DictEntry}, Ents w ks xs ys ds → ∀ (i : Nat) {x y : V}, xs[i]? = some x → ys[i]? = some y → ∃ d, ds[i]? = some d ∧ RelV x d.key ∧ RelV y d.val
  | _, _, _, _, .nil, i, x, y, h, _ => by simp at h
  | _, _, _, _, .cons a b c e, 0, x, y, h1, h2 => by simp at h1 h2; subst h1 h2; exact ⟨_, rfl, a, b⟩
  | _, _, _, _, .cons a b c e, i + 1, x, y, h1, h2 => by simpa using e.get i (by simpa using h1) (by simpa using h2)
section
variable {C : Cf} {γ0 : Gh} {a : Addr} {o : Obj} {ks ws : List W} {chk : Hw → Bool} {es : Array DictEntry} {ep : Nat}
def PAt (C : Cf) (γ0 : Gh) (a : Addr) (o : Obj) : Prop := ∀ γ h H, Mor γ0 γ → HC C γ h H → H a = some (pin a o)
theorem pin_frz (f : γ0.F a = some (pin a o)) : PAt C γ0 a o := fun γ h H mo hc => hc.frz _ _ (mo.frz _ _ f)
theorem pin_lck (f : γ0.L a = some o) : PAt C γ0 a o := fun γ h H mo hc => hc.lkd _ _ (mo.lk _ _ f)
theorem arr_get {l : List DictEntry} {i : Nat} {en : DictEntry} (e : es.toList = l) (h : l[i]? = some en) : es[i]? = some en := by
  rw [← Array.getElem?_toList, e]; exact h
variable {xs ys : List V}
theorem wk_dkeys (p : PAt C γ0 a o) (en : Ents C.w ks xs ys es.toList) (r1 : RWs C γ0 ks xs) : Wk C γ0 (ItDK a o es) ks chk := by
  obtain ⟨l1, l2, l3⟩ := en.len
  have at_ : ∀ i, i < ks.length → ∃ e x, es[i]? = some e ∧ RelV x e.key ∧ xs[i]? = some x := fun i hi => by
    have h1 : i < xs.length := by omega
    have h2 : i < ys.length := by omega
    obtain ⟨e, q1, q2, _⟩ := en.get i (List.getElem?_eq_getElem h1) (List.getElem?_eq_getElem h2)
    exact ⟨e, _, arr_get rfl q1, q2, List.getElem?_eq_getElem h1⟩
  refine ⟨fun γ h H i mo hc ck hi => ?_, fun γ h H mo hc ck => ⟨p γ h H mo hc, by rw [← Array.length_toList, l3]; exact Nat.le_refl _⟩, fun γ h H i w x H' mo hc ck e y => ?_⟩
  · obtain ⟨e, x, q1, q2, _⟩ := at_ i hi
    exact ⟨p γ h H mo hc, e, x, q1, q2⟩
  · obtain ⟨rfl, en', q1, q2⟩ := y
    obtain ⟨e2, x2, z1, z2, z3⟩ := at_ i (List.getElem?_eq_some_iff.mp e).1
    rw [q1] at z1; cases z1
    obtain ⟨v, b1, b2⟩ := r1.get e
    rw [z3] at b1; cases b1
    exact ⟨γ, Ext.refl _ _, Keep.refl _ _, hc, by rw [relV_inj q2 z2]; exact mo.rw b2⟩
theorem wk_dvals (p : PAt C γ0 a o) (en : Ents C.w ks xs ys es.toList) (r2 : RWs C γ0 ws ys) : Wk C γ0 (ItDV a o es) ws chk := by
  obtain ⟨l1, l2, l3⟩ := en.len
  have lw := r2.length
  have at_ : ∀ i, i < ws.length → ∃ e x, es[i]? = some e ∧ RelV x e.val ∧ ys[i]? = some x := fun i hi => by
    have h1 : i < xs.length := by omega
    have h2 : i < ys.length := by omega
    obtain ⟨e, q1, _, q2⟩ := en.get i (List.getElem?_eq_getElem h1) (List.getElem?_eq_getElem h2)
    exact ⟨e, _, arr_get rfl q1, q2, List.getElem?_eq_getElem h2⟩
  refine ⟨fun γ h H i mo hc ck hi => ?_, fun γ h H mo hc ck => ⟨p γ h H mo hc, by rw [← Array.length_toList, l3]; omega⟩, fun γ h H i w x H' mo hc ck e y => ?_⟩
  · obtain ⟨e, x, q1, q2, _⟩ := at_ i hi
    exact ⟨p γ h H mo hc, e, x, q1, q2⟩
  · obtain ⟨rfl, en', q1, q2⟩ := y
    obtain ⟨e2, x2, z1, z2, z3⟩ := at_ i (List.getElem?_eq_some_iff.mp e).1
    rw [q1] at z1; cases z1
    obtain ⟨v, b1, b2⟩ := r2.get e
    rw [z3] at b1; cases b1
    exact ⟨γ, Ext.refl _ _, Keep.refl _ _, hc, by rw [relV_inj q2 z2]; exact mo.rw b2⟩
theorem wk_ditems (p : PAt C γ0 a o) (en : Ents C.w ks xs ys es.toList) (r1 : RWs C γ0 ks xs) (r2 : RWs C γ0 ws ys) : Wk C γ0 (ItDI a o es) (zipW ks ws) chk := by
  obtain ⟨l1, l2, l3⟩ := en.len
  have lw := r2.length
  have at_ : ∀ i, i < ks.length → ∃ e x y, es[i]? = some e ∧ RelV x e.key ∧ RelV y e.val ∧ xs[i]? = some x ∧ ys[i]? = some y := fun i hi => by
    have h1 : i < xs.length := by omega
    have h2 : i < ys.length := by omega
    obtain ⟨e, q1, q2, q3⟩ := en.get i (List.getElem?_eq_getElem h1) (List.getElem?_eq_getElem h2)
    exact ⟨e, _, _, arr_get rfl q1, q2, q3, List.getElem?_eq_getElem h1, List.getElem?_eq_getElem h2⟩
  refine ⟨fun γ h H i mo hc ck hi => ?_, fun γ h H mo hc ck => ⟨p γ h H mo hc, by rw [← Array.length_toList, l3, zip_len]; omega⟩, fun γ h H i w x H' mo hc ck e y => ?_⟩
  · rw [zip_len] at hi
    obtain ⟨e, x, y, q1, q2, q3, _⟩ := at_ i (by omega)
    exact ⟨p γ h H mo hc, e, x, y, q1, q2, q3⟩
  · obtain ⟨T, en', x1, y1, q1, q2, q3, rfl, n, rfl⟩ := y
    obtain ⟨u, v, e1, e2, rfl⟩ := zip_get ks ws i w e
    obtain ⟨e3, x3, y3, z1, z2, z3, z4, z5⟩ := at_ i (List.getElem?_eq_some_iff.mp e1).1
    rw [q1] at z1; cases z1
    obtain ⟨p1, f1, g1⟩ := r1.get e1
    obtain ⟨p2, f2, g2⟩ := r2.get e2
    rw [z4] at f1; cases f1
    rw [z5] at f2; cases f2
    exact hc.layT n (RWs.cons (by rw [relV_inj q2 z2]; exact mo.rw g1) (RWs.cons (by rw [relV_inj q3 z3]; exact mo.rw g2) RWs.nil))
end
end Ov
namespace Ov
open PySem PySem.Spec PyProof.Rows L2
open Sem (wp)
open AutoSeq1 (wpAny_loadPart')
theorem itAt {h h' : Heap} {a t : Addr} {i : Nat} (x : IsTupIter h a t i) (e : ∀ o, h.get? a = some o → h'.get? a = some o) : IsTupIter h' a t i := let ⟨o, ho, r⟩ := x; ⟨o, e _ ho, r⟩
theorem meets_enumT (l : Addr) (items : Array Value) (n : Nat) (dct : Option Addr) (sl : Array (Option Value)) :
    Meets (Builtin.«enumerate.__new__» ⟨[.type "enumerate", .ref l], []⟩) (fun _ R s => s.heap.get? l = some { cls := .type "tuple", dict := dct, data := .seq items n, slots := sl } ∧
      R (.ok (.ret (.ref (s.heap.push { cls := .type "tuple_iterator", data := .fields #[.ref l, .int 0 0] }).objs.size)))
        { s with heap := (s.heap.push { cls := .type "tuple_iterator", data := .fields #[.ref l, .int 0 0] }).push { cls := .type "enumerate", data := .fields #[.none, .bool false, .ref s.heap.objs.size, rawInt 0, .none, .none] } }) :=
  .of_wp fun prog w A R s h => by
    obtain ⟨hp, g, d, tk, os⟩ := s; obtain ⟨hl, h⟩ := h
    have hsub := sub_enumerate
    have hL : IsTup (Shared.heap ⟨hp, g, d, tk, os⟩) l items := ⟨_, hl, rfl, n, rfl⟩
    wp_walk using wpAny_loadPart' hl
    refine wpAny_stack_any fun st => wpAny_pure ?_
    split
    · rename_i c _ _ _ _ _
      cases (c == Value.type "enumerate")
      · wp_walk using wpAny_loadPart' hl, iter_tuple hL
        exact ⟨_, rfl, h⟩
      · wp_walk using wpAny_loadPart' hl, iter_tuple hL
        exact ⟨_, rfl, h⟩
    · wp_walk using wpAny_loadPart' hl, iter_tuple hL
      exact ⟨_, rfl, h⟩

section
variable {prog : Program} {w : World} {A : Around} {E : Value → Shared → Prop} {s : Shared}
theorem nextTI {it l : Addr} {i : Nat} {items} {x : Value} {Q : Value → Shared → Prop} (hit : IsTupIter s.heap it l i)
    (hl : IsTup s.heap l items) (hx : items[i]? = some x)
    (hQ : ∀ h', IsTupIter h' it l (i + 1) → Heap.SameBut it s.heap h' → Q x { s with heap := h' }) :
    wpAny (model prog w) A (Builtin.SmallTypes.nextOf (.ref it)) Q E s := by
  obtain ⟨o, ho, hc, hd⟩ := id hit
  obtain ⟨ol, hol, _, nl, hdl⟩ := hl
  unfold Builtin.SmallTypes.nextOf
  refine wpAny_bind (wpAny_callSpecial?_slot (name := Str.ofString "__next__") hit.typeIs slot_tupleiter_next
    (wpAny_call_entry slot_tupleiter_next hit.typeIs entry_tupleiter_next ?_ (args_tupleiter_next _)))
  show wpAny _ _ (field (.ref it) 0 >>= _) _ _ s
  refine wpAny_bind (wpAny_field ho hd (x := .ref l) rfl ?_)
  show wpAny _ _ (if (Value.ref l == Value.none) = true then _ else _) _ _ s
  rw [if_neg (show ¬ ((Value.ref l == Value.none) = true) from Bool.false_ne_true)]
  show wpAny _ _ (field (.ref it) 1 >>= _) _ _ s
  refine wpAny_bind (wpAny_field ho hd (x := .int i 0) rfl ?_)
  show wpAny _ _ (seqItems? (.ref l) >>= _) _ _ s
  refine wpAny_bind (wpAny_seqItems hol hdl ?_)
  simp only [Int.toNat_natCast, hx]
  refine wpAny_bind (wpAny_setField ho hd (by simp) (wpAny_pure ⟨x, rfl, wpAny_pure (hQ _ ?_ (Heap.SameBut.update ..))⟩))
  exact ⟨_, Heap.get?_update_self _ ho (Obj.isFreed_of_fields (Obj.data_mapFields hd _)), (Obj.cls_mapFields ..).trans hc, by
    rw [Obj.data_mapFields hd]; simp [rawInt]⟩

theorem nextTE {it l : Addr} {i : Nat} {items} {Q : Value → Shared → Prop} (hh : A.handled = none)
    (hit : IsTupIter s.heap it l i) (hl : IsTup s.heap l items) (hx : items[i]? = none)
    (hE : ∀ h' e, Heap.ExtBut it s.heap h' → (∃ o, h'.get? e = some o ∧ o.cls = .type "StopIteration") → E (.ref e) { s with heap := h' }) :
    wpAny (model prog w) A (Builtin.SmallTypes.nextOf (.ref it)) Q E s := by
  obtain ⟨o, ho, hc, hd⟩ := id hit
  obtain ⟨ol, hol, _, nl, hdl⟩ := hl
  unfold Builtin.SmallTypes.nextOf
  refine wpAny_bind (wpAny_callSpecial?_slot (name := Str.ofString "__next__") hit.typeIs slot_tupleiter_next
    (wpAny_call_entry slot_tupleiter_next hit.typeIs entry_tupleiter_next ?_ (args_tupleiter_next _)))
  show wpAny _ _ (field (.ref it) 0 >>= _) _ _ s
  refine wpAny_bind (wpAny_field ho hd (x := .ref l) rfl ?_)
  show wpAny _ _ (if (Value.ref l == Value.none) = true then _ else _) _ _ s
  rw [if_neg (show ¬ ((Value.ref l == Value.none) = true) from Bool.false_ne_true)]
  show wpAny _ _ (field (.ref it) 1 >>= _) _ _ s
  refine wpAny_bind (wpAny_field ho hd (x := .int i 0) rfl ?_)
  show wpAny _ _ (seqItems? (.ref l) >>= _) _ _ s
  refine wpAny_bind (wpAny_seqItems hol hdl ?_)
  simp only [Int.toNat_natCast, hx]
  refine wpAny_bind (wpAny_rule (wpAny_bind (wpAny_setField ho hd (by simp) ?_)))
  show wpAny _ _ (newExc (.type "StopIteration") [] >>= _) _ _ _
  refine wpAny_bind ?_
  simp only [newExc, newTuple]
  refine wpAny_bind (wpAny_newObj_type ?_ (by size_fits))
  refine wpAny_bind (m := firstArgMember _ _) (wpAny_of_eq (a := Value.none) (by first | rfl | (simp only [firstArgMember]; rfl)) ?_)
  refine wpAny_newObj_type ?_ (by size_fits)
  simp only [raiseNew]
  refine wpAny_bind (wpAny_handled ?_)
  first | rw [show A.in1.handled = none from hh] | rw [hh]
  refine wpAny_bind (wpAny_pure (wpAny_throw ?_))
  exact hE _ _ (((Heap.SameBut.update ..).extBut.push _).push _) ⟨_, Heap.get?_push_size _ rfl, rfl⟩

theorem enumTI {e it l : Addr} {i : Nat} {items : Array Value} {x old : Value} {Q : Value → Shared → Prop}
    (he : IsEnum s.heap e it i old) (hit : IsTupIter s.heap it l i) (hl : IsTup s.heap l items) (hx : items[i]? = some x) (hne : e ≠ it)
    (hQ : ∀ h', IsEnumOut h' e it ((i : Int) + 1) x s.heap.objs.size → IsTupIter h' it l (i + 1) →
      h'.get? s.heap.objs.size = some { cls := .type "tuple", data := .seq #[.int i s.toks, x] } → h'.objs.size = s.heap.objs.size + 1 →
      (∀ b o, b ≠ e → b ≠ it → s.heap.get? b = some o → h'.get? b = some o) → Q (.ref s.heap.objs.size) { s with heap := h', toks := s.toks + 1 }) :
    wpAny (model prog w) A (Builtin.«enumerate.__next__» ⟨[.ref e], []⟩) (fun fin s' => ∃ v, fin = .done (.ret v) ∧ Q v s') E s := by
  obtain ⟨hp, g, d, tk, os⟩ := s
  show wpAny _ _ (field (.ref e) 2 >>= _) _ _ _
  refine wpAny_bind (wpAny_field he rfl (x := .ref it) rfl ?_)
  refine wpAny_bind (nextTI hit hl hx fun h₁ hit₁ hs₁ => ?_)
  replace hs₁ : Heap.SameBut it hp h₁ := hs₁
  have he₁ : IsEnum h₁ e it i old := (hs₁.2 e hne).trans he
  show wpAny _ _ (field (.ref e) 3 >>= _) _ _ ⟨h₁, g, d, tk, os⟩
  refine wpAny_bind (wpAny_field he₁ rfl (x := rawInt i) rfl ?_)
  show wpAny _ _ (field (.ref e) 4 >>= _) _ _ ⟨h₁, g, d, tk, os⟩
  refine wpAny_bind (wpAny_field he₁ rfl (x := .none) rfl ?_)
  show wpAny _ _ (mkInt i >>= _) _ _ ⟨h₁, g, d, tk, os⟩
  refine wpAny_bind (wpAny_mkInt ?_)
  show wpAny _ _ (setField (.ref e) 3 (rawInt ((i : Int) + 1)) >>= _) _ _ ⟨h₁, g, d, tk + 1, os⟩
  refine wpAny_bind (wpAny_setField_rec he₁ (by simp) fun h₂ he₂ hs₂ => ?_)
  replace hs₂ : Heap.SameBut e h₁ h₂ := hs₂
  replace he₂ : IsEnum h₂ e it ((i : Int) + 1) old := he₂
  show wpAny _ _ (setField (.ref e) 4 .none >>= _) _ _ ⟨h₂, g, d, tk + 1, os⟩
  refine wpAny_bind (wpAny_setField_rec he₂ (by simp) fun h₃ he₃ hs₃ => ?_)
  replace hs₃ : Heap.SameBut e h₂ h₃ := hs₃
  replace he₃ : IsEnum h₃ e it ((i : Int) + 1) old := he₃
  show wpAny _ _ (newTuple [.int i tk, x] >>= _) _ _ ⟨h₃, g, d, tk + 1, os⟩
  refine wpAny_bind (wpAny_newTuple ?_)
  have he₄ : IsEnum (h₃.push { cls := .type "tuple", data := .seq #[.int i tk, x] }) e it ((i : Int) + 1) old := Heap.get?_push_of_some _ he₃
  generalize hh₄ : h₃.push { cls := .type "tuple", data := .seq #[.int i tk, x] } = h₄ at he₄
  have hsz : h₃.objs.size = hp.objs.size := by rw [hs₃.1, hs₂.1, hs₁.1]
  have hel : e < hp.objs.size := Heap.lt_size he
  have ht₄ : h₄.get? hp.objs.size = some { cls := .type "tuple", data := .seq #[.int i tk, x] } := by rw [← hh₄, ← hsz]; exact Heap.get?_push_size _ rfl
  have hz₄ : h₄.objs.size = hp.objs.size + 1 := by rw [← hh₄, Heap.size_push, hsz]
  have hk₄ : ∀ b o, b ≠ e → b ≠ it → hp.get? b = some o → h₄.get? b = some o := fun b o hbe hbi hb => by
    rw [← hh₄]; exact Heap.get?_push_of_some _ (hs₃.extBut b o hbe (hs₂.extBut b o hbe (hs₁.extBut b o hbi hb)))
  have hit₄ : IsTupIter h₄ it l (i + 1) := by
    rw [← hh₄]; obtain ⟨o, ho, r⟩ := (hit₁.extBut hs₂.extBut (Ne.symm hne)).extBut hs₃.extBut (Ne.symm hne); exact ⟨o, Heap.get?_push_of_some _ ho, r⟩
  show wpAny _ _ (Builtin.SmallTypes.ownedTupleIsFree (.ref e) >>= _) _ _ ⟨h₄, g, d, tk + 1, os⟩
  rw [hsz]
  clear hh₄ he₃ hs₃ he₂ hs₂ he₁ hs₁ hit₁ hsz h₃ h₂ h₁
  refine wpAny_bind ?_
  · unfold Builtin.SmallTypes.ownedTupleIsFree
    refine wpAny_bind (wpAny_field he₄ rfl (x := .none) rfl (wpAny_pure ?_))
    simp only [if_true]
    refine wpAny_bind (wpAny_rule ?_)
    refine wpAny_bind (wpAny_field he₄ rfl (x := old) rfl ?_)
    refine wpAny_bind (wpAny_setField_rec he₄ (by simp) fun h₅ he₅ hs₅ => ?_)
    replace hs₅ : Heap.SameBut e h₄ h₅ := hs₅
    replace he₅ : IsEnum h₅ e it ((i : Int) + 1) x := he₅
    show wpAny _ _ (Builtin.SmallTypes.ownedTupleHandOut (.ref e) (.ref hp.objs.size) >>= _) _ _ ⟨h₅, g, d, tk + 1, os⟩
    refine wpAny_bind ?_
    · unfold Builtin.SmallTypes.ownedTupleHandOut
      refine wpAny_bind (wpAny_setField_rec he₅ (by simp) fun h₆ he₆ hs₆ => ?_)
      replace hs₆ : Heap.SameBut e h₅ h₆ := hs₆
      replace he₆ : IsEnumOut h₆ e it ((i : Int) + 1) x hp.objs.size := he₆
      refine wpAny_setField_rec he₆ (by simp) fun h₇ he₇ hs₇ => ?_
      replace hs₇ : Heap.SameBut e h₆ h₇ := hs₇
      replace he₇ : IsEnumOut h₇ e it ((i : Int) + 1) x hp.objs.size := he₇
      refine wpAny_bind (wpAny_letGo (wpAny_pure ⟨_, rfl, hQ h₇ he₇ ?_ ?_ ?_ ?_⟩))
      · exact ((hit₄.extBut hs₅.extBut (Ne.symm hne)).extBut hs₆.extBut (Ne.symm hne)).extBut hs₇.extBut (Ne.symm hne)
      · exact hs₇.extBut _ _ (Nat.ne_of_gt hel) (hs₆.extBut _ _ (Nat.ne_of_gt hel) (hs₅.extBut _ _ (Nat.ne_of_gt hel) ht₄))
      · rw [hs₇.1, hs₆.1, hs₅.1, hz₄]
      · exact fun b o hbe hbi hb => hs₇.extBut b o hbe (hs₆.extBut b o hbe (hs₅.extBut b o hbe (hk₄ b o hbe hbi hb)))

theorem pyNextTI {e it l : Addr} {i : Nat} {items : Array Value} {x old : Value} {Q : Option Value → Shared → Prop}
    (he : IsEnum s.heap e it i old) (hit : IsTupIter s.heap it l i) (hl : IsTup s.heap l items) (hx : items[i]? = some x) (hne : e ≠ it)
    (hQ : ∀ h', IsEnumOut h' e it ((i : Int) + 1) x s.heap.objs.size → IsTupIter h' it l (i + 1) →
      h'.get? s.heap.objs.size = some { cls := .type "tuple", data := .seq #[.int i s.toks, x] } → h'.objs.size = s.heap.objs.size + 1 →
      (∀ b o, b ≠ e → b ≠ it → s.heap.get? b = some o → h'.get? b = some o) → Q (some (.ref s.heap.objs.size)) { s with heap := h', toks := s.toks + 1 }) :
    wpAny (model prog w) A (pyNext (.ref e)) Q E s := by
  have hT : s.TypeIs (.ref e) "enumerate" := ⟨_, he, rfl⟩
  unfold pyNext
  exact wpAny_bind (wpAny_attempt (wpAny_callSpecial?_slot (name := Str.ofString "__next__") hT F.slot_enumerate_next
    (wpAny_call_entry F.slot_enumerate_next hT F.entry_enumerate_next
      (enumTI he hit hl hx hne fun h' a b c d k => wpAny_pure (hQ h' a b c d k)) (F.args_enumerate_next_1 _))))

theorem pyNextTE {e it l : Addr} {i : Nat} {items : Array Value} {old : Value} {Q : Option Value → Shared → Prop} (hh : A.handled = none)
    (he : IsEnum s.heap e it i old) (hit : IsTupIter s.heap it l i) (hl : IsTup s.heap l items) (hx : items[i]? = none)
    (hQ : ∀ h', Heap.ExtBut it s.heap h' → Q none { s with heap := h' }) : wpAny (model prog w) A (pyNext (.ref e)) Q E s := by
  have hT : s.TypeIs (.ref e) "enumerate" := ⟨_, he, rfl⟩
  unfold pyNext
  refine wpAny_bind (wpAny_attempt (wpAny_callSpecial?_slot (name := Str.ofString "__next__") hT F.slot_enumerate_next
    (wpAny_call_entry F.slot_enumerate_next hT F.entry_enumerate_next ?_ (F.args_enumerate_next_1 _))))
  show wpAny _ _ (field (.ref e) 2 >>= _) _ _ _
  refine wpAny_bind (wpAny_field he rfl (x := .ref it) rfl ?_)
  refine wpAny_bind (nextTE hh hit hl hx fun h' x he' hx' => ?_)
  obtain ⟨o, ho, hc⟩ := hx'
  refine wpAny_bind (wpAny_isInstance (T := "StopIteration") (b := true) ⟨o, ho, hc⟩ isSubtype_stop ?_)
  exact wpAny_pure (hQ _ he')
theorem call_enumT {l : Addr} {items : Array Value} {Q : Value → Shared → Prop} (hL : IsTup s.heap l items)
    (h : ∀ h', IsEnum h' (s.heap.objs.size + 1) s.heap.objs.size 0 .none → IsTupIter h' s.heap.objs.size l 0 → h'.objs.size = s.heap.objs.size + 2 →
      (∀ b o, s.heap.get? b = some o → h'.get? b = some o) → Q (.ref (s.heap.objs.size + 1)) { s with heap := h' }) :
    wpAny (model prog w) A (call (.type "enumerate") [.ref l]) Q E s := by
  obtain ⟨⟨c, dct, dt, sl⟩, hl, hc, n, hd⟩ := hL
  replace hc : c = .type "tuple" := hc
  replace hd : dt = .seq items n := hd
  subst hc hd
  refine callType_new F.called_enumerate (by decide) (F.typeCall_enumerate_1 _) (F.newCall_enumerate_1 _) (fun obj => F.args_object_init_2 obj _) F.entry_enumerate_new
    (meets_enumT l items n dct sl) ⟨hl, ?_⟩
  have hz : (s.heap.push { cls := .type "tuple_iterator", data := .fields #[.ref l, .int 0 0] }).objs.size = s.heap.objs.size + 1 := Heap.size_push ..
  show _ ∧ _
  rw [hz]
  have he : IsEnum ((s.heap.push { cls := .type "tuple_iterator", data := .fields #[.ref l, .int 0 0] }).push
      { cls := .type "enumerate", data := .fields #[.none, .bool false, .ref s.heap.objs.size, rawInt 0, .none, .none] }) (s.heap.objs.size + 1) s.heap.objs.size 0 .none := by
    have := Heap.get?_push_size (s.heap.push { cls := .type "tuple_iterator", data := .fields #[.ref l, .int 0 0] })
      (o := { cls := .type "enumerate", data := .fields #[.none, .bool false, .ref s.heap.objs.size, rawInt 0, .none, .none] }) rfl
    rw [hz] at this; exact this
  refine ⟨⟨_, he, rfl⟩, h _ he ⟨_, Heap.get?_push_of_some _ (Heap.get?_push_size _ rfl), rfl, rfl⟩ (by rw [Heap.size_push, hz]) fun b o x => Heap.get?_push_of_some _ (Heap.get?_push_of_some _ x)⟩

end
def IteT (K : PySem.W.Frag) (a : Addr) : It :=
  ⟨fun i H => ∃ (xs : List V) (x : V), SqT K H a xs ∧ xs[i]? = some x, fun i H v H' => ∃ T x, v = .ref T ∧ H T = none ∧ H' = upd H T (.tup [.int (i : Nat), x]) ∧ ∀ xs, SqT K H a xs → xs[i]? = some x, fun i H => ∃ xs : List V, SqT K H a xs ∧ xs.length ≤ i⟩
theorem turn_enumT {P : Program} {w : World} {K : PySem.W.Frag} {elts : List Expr} {kk : Nat} {tpos : Pos} (a e it : Addr) :
    Turn P w K (.Tuple elts kk tpos) (IteT K a) [e, it] e (fun i h => (∃ old, IsEnum h e it ((i : Nat) : Int) old) ∧ IsTupIter h it a i ∧ e ≠ it) where
  mem := by simp
  obj := fun i h st b hb => by
    obtain ⟨⟨old, he⟩, ⟨o, ho, hc, hd⟩, _⟩ := st
    have e' : b = e ∨ b = it := by simpa using hb
    rcases e' with z | z
    · rw [z]; exact ⟨_, he, fun v q => nomatch q⟩
    · rw [z]; exact ⟨o, ho, fun v q => by rw [hd] at q; cases q⟩
  keep := fun i h h' st k => let ⟨⟨old, he⟩, hi, hne⟩ := st; ⟨⟨old, k e (by simp) _ he⟩, itAt hi fun o q => k it (by simp) o q, hne⟩
  item := by
    intro X hP hw hK hc i pins s σ H E I hf st hg
    subst hP hw hK
    obtain ⟨⟨old, he⟩, hit, hne⟩ := st
    obtain ⟨xs, x, hq, hx⟩ := hg
    obtain ⟨its, rv, p, hz⟩ := I.tuple hq
    obtain ⟨u, hu, ru⟩ := rv.get hx
    have hel : e < s.heap.objs.size := Heap.lt_size he
    have hil : it < s.heap.objs.size := by obtain ⟨_, q, _⟩ := hit; exact Heap.lt_size q
    refine pyNextTI he hit p (x := u) (by simpa using hu) hne fun h' ho hit' hT hsz hk => ?_
    refine ⟨_, rfl, wpAny_letOwnedTupleGo_enum (s := { s with heap := h', toks := s.toks + 1 }) ho fun h'' he' sb => ?_⟩
    have hT2 : h''.get? s.heap.objs.size = some { cls := .type "tuple", data := .seq #[.int i s.toks, u] } := (sb.2 _ (Nat.ne_of_gt hel)).trans hT
    have new : ObjOk X.prog X.w (upd H s.heap.objs.size (.tup [.int (i : Nat), x])) h'' s.heap.objs.size (.tup [.int (i : Nat), x]) :=
      ⟨by show 2 ≤ sizeLine; decide, [.int i s.toks, u], .cons ⟨_, rfl⟩ (.cons ru .nil), ⟨_, hT2, rfl, _, rfl⟩⟩
    have I1 : Inv X pins σ (upd H s.heap.objs.size (.tup [.int (i : Nat), x])) { s with heap := h'', toks := s.toks + 1 } :=
      I.turnedNew (ch := [e, it]) (fun b ob hb q => (sb.2 b (fun z => hb (by simp [z]))).trans (hk b ob (fun z => hb (by simp [z])) (fun z => hb (by simp [z])) q)) hf (Nat.le_refl _) new
    refine ⟨.ref s.heap.objs.size, _, I1, rfl, ⟨_, x, rfl, I.hok.fresh (Nat.le_refl _), rfl, fun ys hy => by rw [I.tuple_inj hy hq]; exact hx⟩, ⟨⟨u, ?_⟩, itAt hit' fun o q => (sb.2 it (Ne.symm hne)).trans q, hne⟩, fun b hb => ?_⟩
    · have e1 : ((i + 1 : Nat) : Int) = (i : Int) + 1 := by omega
      rw [e1]; exact he'
    · have hb' : b < s.heap.objs.size := by
        have e' : b = e ∨ b = it := by simpa using hb
        rcases e' with z | z
        · rw [z]; exact hel
        · rw [z]; exact hil
      rw [upd_ne (Nat.ne_of_lt hb')]
      exact (hf b hb).1
  done := by
    intro X hP hw hK hc i pins s σ H E I hf st hg
    subst hP hw hK
    obtain ⟨⟨old, he⟩, hit, hne⟩ := st
    obtain ⟨xs, hq, hx⟩ := hg
    obtain ⟨its, rv, p, hz⟩ := I.tuple hq
    obtain ⟨f0, f1, f2, f3, f4, f5⟩ := hf it (by simp)
    have hl := rv.length
    exact pyNextTE (I.ok.hd hc) he hit p (by simp; omega) fun h' eb => ⟨rfl, I.turned (t' := s.toks) (fun b o hb q => eb b o hb q) f0 f1 f3 f4 f5⟩
  self := fun A i s Q E st h => let ⟨⟨_, he⟩, _⟩ := st; wpAny_pyIter_enum he h
def iEnum2 (K : PySem.W.Frag) (ta : TA) : TI := fun σ H R => ta σ H fun vs H1 => ∃ a xs, vs = [V.ref a] ∧ ((SqL K H1 a xs ∧ R (Ite K a) H1) ∨ (SqT K H1 a xs ∧ R (IteT K a) H1))
theorem pi_enum2 {X : Cx} {e : Expr} {ta : TA} {p pos tpos : Pos} {elts : List Expr} {kk : Nat} (hg : Gl X "enumerate") (hm : X.mg "enumerate" = none) (ha : PA X [e] ta) (hs : starEach [e] X.env = [(false, eval e X.env)]) :
    PI X (.Tuple elts kk tpos) (.Call (.Name "enumerate" p) [e] [] pos) (iEnum2 X.K ta) := by
  refine ⟨fun pins s σ H R I h => ?_⟩
  refine Call_ (ld_blt I hg hm boot_enumerate (PyProof.Rows.callWith_type1 (thn (ha.run pos pins s σ H _ I h) fun us s1 ⟨vs, H1, I1, r1, q1⟩ => ?_) hs rfl))
  obtain ⟨a, xs, ex, hq⟩ := q1
  subst ex
  cases r1 with
  | cons r rr =>
    cases rr
    cases r
    have stat : ∀ b ∈ [s1.heap.objs.size + 1, s1.heap.objs.size], FpOk X pins H1 b := fun b hb => by
      have e' : b = s1.heap.objs.size + 1 ∨ b = s1.heap.objs.size := by simpa using hb
      have hle : s1.heap.objs.size ≤ b := by
        rcases e' with z | z
        · rw [z]; exact Nat.le_add_right _ _
        · rw [z]; exact Nat.le_refl _
      exact I1.fpOk hle (I1.hok.fresh hle)
    rcases hq with ⟨hq, q⟩ | ⟨hq, q⟩
    · obtain ⟨its, rv, p', hz⟩ := I1.list hq
      refine call_enumerate_list p'.isList fun h' he hit hsz hk => wpAny_pyIter_enum he ?_
      have I2 : Inv X pins σ H1 { s1 with heap := h' } := I1.kept (t' := s1.toks) hk
      exact ⟨s1.heap.objs.size + 1, [s1.heap.objs.size + 1, s1.heap.objs.size], _, _, H1, rfl, I2, turn_enum a (s1.heap.objs.size + 1) s1.heap.objs.size, ⟨⟨.none, he⟩, hit, Nat.succ_ne_self _⟩, stat, q⟩
    · obtain ⟨its, rv, p', hz⟩ := I1.tuple hq
      refine call_enumT p' fun h' he hit hsz hk => wpAny_pyIter_enum he ?_
      have I2 : Inv X pins σ H1 { s1 with heap := h' } := I1.kept (t' := s1.toks) hk
      exact ⟨s1.heap.objs.size + 1, [s1.heap.objs.size + 1, s1.heap.objs.size], _, _, H1, rfl, I2, turn_enumT a (s1.heap.objs.size + 1) s1.heap.objs.size, ⟨⟨.none, he⟩, hit, Nat.succ_ne_self _⟩, stat, q⟩
section
variable {C : Cf} {K : PySem.W.Frag} {γ0 : Gh} {a : Addr} {xs : List W} {chk : Hw → Bool}
theorem wk_enumT (l : TAt C γ0 a xs chk) : Wk C γ0 (IteT K a) (numFrom 0 xs) chk := by
  refine ⟨fun γ h H i mo hc ck hi => ?_, fun γ h H mo hc ck => ?_, fun γ h H i w x H' mo hc ck e y => ?_⟩
  · obtain ⟨vs, q, r⟩ := l γ h H mo hc ck
    rw [num_len] at hi
    exact ⟨vs, vs[i]'(by rw [← r.length]; exact hi), .inl q, get_lt _⟩
  · obtain ⟨vs, q, r⟩ := l γ h H mo hc ck
    exact ⟨vs, .inl q, by rw [← r.length, num_len]; exact Nat.le_refl _⟩
  · obtain ⟨vs, q, r⟩ := l γ h H mo hc ck
    obtain ⟨u, e1, rfl⟩ := num_get xs 0 i w e
    obtain ⟨v, e2, rv⟩ := r.get e1
    obtain ⟨T, z, rfl, n, rfl, y⟩ := y
    have := y vs (.inl q)
    rw [e2] at this; cases this
    refine hc.layT n (RWs.cons ?_ (RWs.cons rv RWs.nil))
    show V.int (i : Nat) = V.int (0 + (i : Nat))
    rw [Int.zero_add]
theorem dn_len : ∀ (n : Nat) (i : Int), (rangeDn i n).length = n
  | 0, _ => rfl
  | n + 1, i => by rw [rangeDn, List.length_cons, dn_len n]
theorem dn_get : ∀ (n : Nat) (lo : Int) (i : Nat) (w : W), (rangeDn lo n)[i]? = some w → w = .int (lo + (i : Nat) * (-1))
  | 0, _, _, _, e => by simp [rangeDn] at e
  | n + 1, lo, 0, w, e => by simp [rangeDn] at e; rw [← e]; simp
  | n + 1, lo, i + 1, w, e => by
    have := dn_get n (lo - 1) i w (by simpa [rangeDn] using e)
    rw [this]; congr 1; omega
theorem wk_dn {lo : Int} {n : Nat} : Wk C γ0 (Itc lo (-1) n) (rangeDn lo n) chk := by
  refine ⟨fun γ h H i mo hc ck hi => by rw [dn_len] at hi; exact hi, fun γ h H mo hc ck => by rw [dn_len]; exact Nat.le_refl _, fun γ h H i w x H' mo hc ck e y => ?_⟩
  obtain ⟨rfl, rfl⟩ := y
  have := dn_get n lo i w e
  subst this
  exact ⟨γ, Ext.refl _ _, Keep.refl _ _, hc, rfl⟩
end
end Ov
namespace Ov
open PySem PySem.Spec PyProof.Rows L2
section
variable {X : Cx} {C : Cf} {cl : CL} {Wx : WX} {tg e e2 : Expr} {xe : Ex} {xs : Exs} {p pos tpos : Pos} {elts : List Expr} {kk : Nat}
theorem lookS_look {h : Hw} {w u : W} (e : lookS h w = u) (n : ∀ m, u ≠ .ref m := by intro m z; cases z) : look h w = u := by
  cases w with
  | ref k =>
    simp only [lookS] at e
    simp only [look]
    cases hn : h[k]? with
    | none => rw [hn] at e; exact absurd e.symm (n k)
    | some cc =>
      rw [hn] at e
      cases cc <;> first | exact e | exact absurd e.symm (n k)
  | _ => exact e
theorem dct_at {γ : Gh} {h : Hw} {H : Hp} {w : W} {v : V} {ks ws : List W} (c : HC C γ h H) (r : RW C γ w v) (e : lookS h w = .dct ks ws) :
    ∃ a o xs ys, v = .ref a ∧ PAt C γ a o ∧ H a = some (pin a o) ∧ DO C.w a o ks xs ys ∧ RWs C γ ks xs ∧ RWs C γ ws ys := by
  cases w with
  | dct js us =>
    simp only [lookS] at e; cases e
    obtain ⟨a, o, xs, ys, e, f, d, r1, r2⟩ := r
    exact ⟨a, o, xs, ys, e, pin_frz f, c.frz _ _ f, d, r1, r2⟩
  | ref k =>
    obtain ⟨a, e1, i⟩ := r
    simp only [lookS] at e
    cases hn : h[k]? with
    | none => rw [hn] at e; cases e
    | some cc =>
      rw [hn] at e
      cases cc with
      | lck js us =>
        cases e
        obtain ⟨_, o, xs, ys, lo, hh, d, r1, r2⟩ := c.cell k a _ i hn
        exact ⟨a, o, xs, ys, e1, pin_lck lo, hh, d, r1, r2⟩
      | _ => cases e
  | _ => simp only [lookS] at e; cases e
theorem piv_seq (ha : PE X e (tev C cl Wx xe)) : PI X tg e (tit C cl Wx .seq (xsCons xe xsNil)) := by
  refine ⟨fun pins s σ H Rr I ⟨γ, σw, h, sl, hc, q⟩ => ?_⟩
  rcases src_inv q with ⟨ws, h1, us, ex, ew, _, z⟩ | ⟨c, a, h1, ex, z⟩
  · obtain ⟨w, ea, rfl⟩ := one_inv ex
    cases hl : lookS h1 w with
    | lst ys =>
      simp only [List.map, hl, walked] at ew
      cases ew
      refine (pi_list (tg := tg) ha).run pins s σ H Rr I ⟨γ, σw, h, sl, hc, ?_⟩
      rw [ea]
      intro γ1 v H1 e1 k1 c1 r1
      obtain ⟨a, rfl, l⟩ := lst_at (ws := [w]) c1 r1 (lookS_look hl) (List.mem_singleton.mpr rfl)
      obtain ⟨a', vs, e', q1, q2⟩ := look_lst c1 r1 (lookS_look hl)
      cases e'
      exact ⟨a, rfl, ⟨vs, .inl q1⟩, z γ1 _ _ e1 k1 c1 (wk_list l)⟩
    | tup ys =>
      simp only [List.map, hl, walked] at ew
      cases ew
      refine (pi_tup (tg := tg) ha).run pins s σ H Rr I ⟨γ, σw, h, sl, hc, ?_⟩
      rw [ea]
      intro γ1 v H1 e1 k1 c1 r1
      obtain ⟨a, rfl, l⟩ := tup_at r1 (lookS_look hl)
      obtain ⟨a', vs, e', q1, q2⟩ := look_tup c1 r1 (lookS_look hl)
      cases e'
      exact ⟨a, rfl, ⟨vs, .inl q1⟩, z γ1 _ _ e1 k1 c1 (wk_tup fun γ h H mo hc _ => l γ h H mo hc)⟩
    | str ys =>
      simp only [List.map, hl, walked] at ew
      cases ew
      refine (pi_str (tg := tg) ha).run pins s σ H Rr I ⟨γ, σw, h, sl, hc, ?_⟩
      rw [ea]
      intro γ1 v H1 e1 k1 c1 r1
      have := look_flat (lookS_look hl) trivial
      subst this
      cases r1
      exact ⟨mkS ys, rfl, z γ1 _ _ e1 k1 c1 wk_str⟩
    | dct ks us =>
      simp only [List.map, hl, walked] at ew
      cases ew
      refine thn (ha.run pins s σ H (fun v H1 => ∃ a o es, v = .ref a ∧ (a == sysModules) = false ∧ (∃ ep, o.ExactDict ∧ o.data = .dict es ep) ∧ H1 a = some (pin a o) ∧ Rr (ItDK a o es) H1) I ⟨γ, σw, h, sl, hc, ?_⟩) fun u s1 ⟨x, H1, I1, rx, a, o, es, ex, sys, ⟨ep, xd, dt⟩, hp, q⟩ => ?_
      · rw [ea]
        intro γ1 v H1 e1 k1 c1 r1
        obtain ⟨a, o, xs, ys, rfl, pa, hp, d, q1, q2⟩ := dct_at c1 r1 hl
        obtain ⟨es, ep, dt, en⟩ := d.data
        exact ⟨a, o, es, rfl, d.sys, ⟨ep, d.ex, dt⟩, hp, z γ1 _ _ e1 k1 c1 (wk_dkeys pa en q1)⟩
      · subst ex
        cases rx
        exact wpAny_pyIter_dict_raw sys (raw_at I1.hok xd dt hp) (pi_one (tk := s1.toks) I1 _ (turnDK _ xd dt) ⟨_, Heap.get?_push_size _ rfl, rfl, rfl⟩ q)
    | _ => simp [hl, walked] at ew
  · refine (pi_list (tg := tg) ha).run pins s σ H Rr I ⟨γ, σw, h, sl, hc, ?_⟩
    rw [one_invX ex]
    exact z
theorem piv_items {apos cpos : Pos} (ha : PE X e (tev C cl Wx xe)) (hbase : attributeBase e "items" X.env (eval e X.env) = eval e X.env) (hline : (apos.endLine == cpos.line) = true) :
    PI X (.Tuple elts kk tpos) (.Call (.Attribute e "items" apos) [] [] cpos) (tit C cl Wx .items (xsCons xe xsNil)) := by
  refine ⟨fun pins s σ H Rr I ⟨γ, σw, h, sl, hc, q⟩ => ?_⟩
  refine wpAny_Call_method (T := "dict") (id := "dict.items") hbase rfl hline F.plainAttrs_dict F.slot_dict_items F.type_dict_items (thn (ha.run pins s σ H (fun v H1 => ∃ a o es, v = .ref a ∧ (a == sysModules) = false ∧ (∃ ep, o.ExactDict ∧ o.data = .dict es ep) ∧ H1 a = some (pin a o) ∧ Rr (ItDI a o es) H1) I ⟨γ, σw, h, sl, hc, ?_⟩) fun u s1 ⟨x, H1, I1, rx, a, o, es, ex, sys, ⟨ep, xd, dt⟩, hp, q⟩ => ?_)
  · rcases src_inv q with ⟨ws, h1, us, ex, ew, _, z⟩ | ⟨c, a, h1, ex, z⟩
    · obtain ⟨w, ea, rfl⟩ := one_inv ex
      rw [ea]
      cases hl : lookS h1 w with
      | dct ks vs =>
        simp only [List.map, hl, walked] at ew
        cases ew
        intro γ1 v H1 e1 k1 c1 r1
        obtain ⟨a, o, xs, ys, rfl, pa, hp, d, q1, q2⟩ := dct_at c1 r1 hl
        obtain ⟨es, ep, dt, en⟩ := d.data
        exact ⟨a, o, es, rfl, d.sys, ⟨ep, d.ex, dt⟩, hp, z γ1 _ _ e1 k1 c1 (wk_ditems pa en q1 q2)⟩
      | _ => simp [hl, walked] at ew
    · rw [one_invX ex]; exact z
  · subst ex
    cases rx
    have raw := raw_at I1.hok xd dt hp
    refine ⟨raw.typeIs, fun b eb => by cases eb; exact ⟨o, pin_get I1.hok hp, xd.2.1⟩, ?_⟩
    have I2 : Inv X pins σ H1 { s1 with heap := s1.heap.push { cls := .type "dict_items", data := .fields #[.ref a] } } := I1.kept (t' := s1.toks) fun b ob q => Heap.get?_push_of_some _ q
    have fin : wpAny (model X.prog X.w) X.A (pyIter (.ref s1.heap.objs.size)) (PIE X pins σ (.Tuple elts kk tpos) Rr) X.xe { s1 with heap := s1.heap.push { cls := .type "dict_items", data := .fields #[.ref a] } } :=
      wpAny_pyIter_items_raw (d := a) ⟨_, Heap.get?_push_size _ rfl, rfl, rfl⟩ (raw_at I2.hok xd dt hp) (pi_one (tk := s1.toks) I2 _ (turnDI _ xd dt) ⟨.none, .none, Heap.get?_push_size _ rfl⟩ q)
    show wpAny _ _ (callWith cpos (.builtin "dict.items") [.ref a] [] []) _ X.xe s1
    exact method_meetsIn F.slot_dict_items F.entry_dict_items rfl (PySem.evalArgs_none ⟨rfl, raw.typeIs, F.args_dict_items_1 _, _, meets_dict_items_raw a sys, ⟨⟨es, ep, raw⟩, fin⟩⟩)
theorem piv_values {apos cpos : Pos} (ha : PE X e (tev C cl Wx xe)) (hbase : attributeBase e "values" X.env (eval e X.env) = eval e X.env) (hline : (apos.endLine == cpos.line) = true) :
    PI X tg (.Call (.Attribute e "values" apos) [] [] cpos) (tit C cl Wx .values (xsCons xe xsNil)) := by
  refine ⟨fun pins s σ H Rr I ⟨γ, σw, h, sl, hc, q⟩ => ?_⟩
  refine wpAny_Call_method (T := "dict") (id := "dict.values") hbase rfl hline F.plainAttrs_dict F.slot_dict_values F.type_dict_values (thn (ha.run pins s σ H (fun v H1 => ∃ a o es, v = .ref a ∧ (a == sysModules) = false ∧ (∃ ep, o.ExactDict ∧ o.data = .dict es ep) ∧ H1 a = some (pin a o) ∧ Rr (ItDV a o es) H1) I ⟨γ, σw, h, sl, hc, ?_⟩) fun u s1 ⟨x, H1, I1, rx, a, o, es, ex, sys, ⟨ep, xd, dt⟩, hp, q⟩ => ?_)
  · rcases src_inv q with ⟨ws, h1, us, ex, ew, _, z⟩ | ⟨c, a, h1, ex, z⟩
    · obtain ⟨w, ea, rfl⟩ := one_inv ex
      rw [ea]
      cases hl : lookS h1 w with
      | dct ks vs =>
        simp only [List.map, hl, walked] at ew
        cases ew
        intro γ1 v H1 e1 k1 c1 r1
        obtain ⟨a, o, xs, ys, rfl, pa, hp, d, q1, q2⟩ := dct_at c1 r1 hl
        obtain ⟨es, ep, dt, en⟩ := d.data
        exact ⟨a, o, es, rfl, d.sys, ⟨ep, d.ex, dt⟩, hp, z γ1 _ _ e1 k1 c1 (wk_dvals pa en q2)⟩
      | _ => simp [hl, walked] at ew
    · rw [one_invX ex]; exact z
  · subst ex
    cases rx
    have raw := raw_at I1.hok xd dt hp
    refine ⟨raw.typeIs, fun b eb => by cases eb; exact ⟨o, pin_get I1.hok hp, xd.2.1⟩, ?_⟩
    have I2 : Inv X pins σ H1 { s1 with heap := s1.heap.push { cls := .type "dict_values", data := .fields #[.ref a] } } := I1.kept (t' := s1.toks) fun b ob q => Heap.get?_push_of_some _ q
    have fin : wpAny (model X.prog X.w) X.A (pyIter (.ref s1.heap.objs.size)) (PIE X pins σ tg Rr) X.xe { s1 with heap := s1.heap.push { cls := .type "dict_values", data := .fields #[.ref a] } } :=
      wpAny_pyIter_values_raw (d := a) ⟨_, Heap.get?_push_size _ rfl, rfl, rfl⟩ (raw_at I2.hok xd dt hp) (pi_one (tk := s1.toks) I2 _ (turnDV _ xd dt) ⟨_, Heap.get?_push_size _ rfl, rfl, rfl⟩ q)
    show wpAny _ _ (callWith cpos (.builtin "dict.values") [.ref a] [] []) _ X.xe s1
    exact method_meetsIn F.slot_dict_values F.entry_dict_values rfl (PySem.evalArgs_none ⟨rfl, raw.typeIs, F.args_dict_values_1 _, _, meets_dict_values_raw a sys, ⟨⟨es, ep, raw⟩, fin⟩⟩)
theorem piv_enum (hg : Gl X "enumerate") (hm : X.mg "enumerate" = none) (ha : PA X [e] (tes C cl Wx xs)) (hs : starEach [e] X.env = [(false, eval e X.env)]) :
    PI X (.Tuple elts kk tpos) (.Call (.Name "enumerate" p) [e] [] pos) (tit C cl Wx .enum xs) := by
  refine PI.imp (pi_enum2 hg hm ha hs) fun σ H Rr ⟨γ, σw, h, sl, hc, q⟩ => ⟨γ, σw, h, sl, hc, ?_⟩
  rcases src_inv q with ⟨ws, h1, us, ex, ew, _, z⟩ | ⟨c, a, h1, ex, z⟩
  · rw [ex]
    intro γ1 vs H1 e1 k1 c1 r1
    match ws, ew with
    | [w], ew =>
      cases hl : lookS h1 w with
      | lst ys =>
        simp only [List.map, hl, walked] at ew
        cases ew
        obtain ⟨v, rfl, rv⟩ := one_rw r1
        obtain ⟨a, rfl, l⟩ := lst_at (ws := [w]) c1 rv (lookS_look hl) (List.mem_singleton.mpr rfl)
        obtain ⟨a', vs, e', q1, q2⟩ := look_lst c1 rv (lookS_look hl)
        cases e'
        exact ⟨a, vs, rfl, .inl ⟨.inl q1, z γ1 _ _ e1 k1 c1 (wk_enum l)⟩⟩
      | tup ys =>
        simp only [List.map, hl, walked] at ew
        cases ew
        obtain ⟨v, rfl, rv⟩ := one_rw r1
        obtain ⟨a, rfl, l⟩ := tup_at rv (lookS_look hl)
        obtain ⟨a', vs, e', q1, q2⟩ := look_tup c1 rv (lookS_look hl)
        cases e'
        exact ⟨a, vs, rfl, .inr ⟨.inl q1, z γ1 _ _ e1 k1 c1 (wk_enumT fun γ h H mo hc _ => l γ h H mo hc)⟩⟩
      | _ => simp [hl, walked] at ew
    | [], ew => simp [walked] at ew
    | _ :: _ :: _, ew => simp [walked] at ew
  · rw [ex]; exact z
theorem piv_zip (hg : Gl X "zip") (hm : X.mg "zip" = none) (ha : PA X [e, e2] (tes C cl Wx xs)) (hs : starEach [e, e2] X.env = (false, eval e X.env) :: starEach [e2] X.env) (hpl : (backTo pos (starEach [e2] X.env)).any (·.1) = false) :
    PI X (.Tuple elts kk tpos) (.Call (.Name "zip" p) [e, e2] [] pos) (tit C cl Wx .zip xs) := by
  refine PI.imp (RZ.pi_zipA hg hm ha hs hpl) fun σ H Rr ⟨γ, σw, h, sl, hc, q⟩ => ⟨γ, σw, h, sl, hc, ?_⟩
  rcases src_inv q with ⟨ws, h1, us, ex, ew, _, z⟩ | ⟨c, a, h1, ex, z⟩
  · rw [ex]
    intro γ1 vs H1 e1 k1 c1 r1
    match ws, ew with
    | [w, w2], ew =>
      obtain ⟨v, v2, rfl, r1, r2⟩ := two_rw r1
      cases hl : lookS h1 w with
      | lst ys =>
        cases hl2 : lookS h1 w2 with
        | lst zs =>
          simp only [List.map, hl, hl2, walked] at ew
          cases ew
          obtain ⟨a, rfl, l⟩ := lst_at (ws := [w, w2]) c1 r1 (lookS_look hl) (by simp)
          obtain ⟨a', vs, e', q1, q2⟩ := look_lst c1 r1 (lookS_look hl)
          cases e'
          obtain ⟨b, rfl, l2⟩ := lst_at (ws := [w, w2]) c1 r2 (lookS_look hl2) (by simp)
          obtain ⟨a', us, e', q3, q4⟩ := look_lst c1 r2 (lookS_look hl2)
          cases e'
          exact ⟨a, b, vs, us, rfl, .inl ⟨.inl q1, .inl q3, z γ1 _ _ e1 k1 c1 (wk_zip l l2)⟩⟩
        | _ => simp [hl, hl2, walked] at ew
      | tup ys =>
        cases hl2 : lookS h1 w2 with
        | tup zs =>
          simp only [List.map, hl, hl2, walked] at ew
          cases ew
          obtain ⟨a, rfl, l⟩ := tup_at r1 (lookS_look hl)
          obtain ⟨a', vs, e', q1, q2⟩ := look_tup c1 r1 (lookS_look hl)
          cases e'
          obtain ⟨b, rfl, l2⟩ := tup_at r2 (lookS_look hl2)
          obtain ⟨a', us, e', q3, q4⟩ := look_tup c1 r2 (lookS_look hl2)
          cases e'
          exact ⟨a, b, vs, us, rfl, .inr ⟨.inl q1, .inl q3, z γ1 _ _ e1 k1 c1 (wk_zipT (fun γ h H mo hc _ => l γ h H mo hc) (fun γ h H mo hc _ => l2 γ h H mo hc))⟩⟩
        | _ => simp [hl, hl2, walked] at ew
      | _ => simp [hl, walked] at ew
    | [], ew => simp [walked] at ew
    | [_], ew => simp [walked] at ew
    | _ :: _ :: _ :: _, ew => simp [walked] at ew
  · rw [ex]; exact z
theorem int_rw {γ : Gh} {i : Int} {h : Hw} {w : W} {v : V} (e : look h w = .int i) (r : RW C γ w v) : v = .int i := by
  have := look_flat e trivial
  subst this
  exact r
theorem piv_range1 (hg : Gl X "range") (hm : X.mg "range" = none) (ha : PA X [e] (tes C cl Wx xs)) (hs : starEach [e] X.env = [(false, eval e X.env)]) :
    PI X tg (.Call (.Name "range" p) [e] [] pos) (tit C cl Wx .range xs) := by
  refine PI.imp (pi_range1 hg hm ha hs) fun σ H Rr ⟨γ, σw, h, sl, hc, q⟩ => ⟨γ, σw, h, sl, hc, ?_⟩
  rcases src_inv q with ⟨ws, h1, us, ex, ew, _, z⟩ | ⟨c, a, h1, ex, z⟩
  · rw [ex]
    intro γ1 vs H1 e1 k1 c1 r1
    match ws, ew with
    | [w], ew =>
      cases hl : lookS h1 w with
      | int i =>
        simp only [List.map, hl, walked] at ew
        split at ew
        · rename_i hb
          simp only [Bool.and_eq_true, decide_eq_true_eq] at hb
          cases ew
          obtain ⟨v, rfl, rv⟩ := one_rw r1
          refine ⟨i, by rw [int_rw (lookS_look hl) rv], by omega, by omega, z γ1 _ _ e1 k1 c1 wk_range⟩
        · cases ew
      | _ => simp [hl, walked] at ew
    | [], ew => simp [walked] at ew
    | _ :: _ :: _, ew => simp [walked] at ew
  · rw [ex]; exact z
theorem piv_range2 (hg : Gl X "range") (hm : X.mg "range" = none) (ha : PA X [e, e2] (tes C cl Wx xs)) (hs : starEach [e, e2] X.env = [(false, eval e X.env), (false, eval e2 X.env)]) (hs2 : starEach [e2] X.env = [(false, eval e2 X.env)]) :
    PI X tg (.Call (.Name "range" p) [e, e2] [] pos) (tit C cl Wx .range2 xs) := by
  refine PI.imp (pi_range2 hg hm ha hs hs2) fun σ H Rr ⟨γ, σw, h, sl, hc, q⟩ => ⟨γ, σw, h, sl, hc, ?_⟩
  rcases src_inv q with ⟨ws, h1, us, ex, ew, _, z⟩ | ⟨c, a, h1, ex, z⟩
  · rw [ex]
    intro γ1 vs H1 e1 k1 c1 r1
    match ws, ew with
    | [w, w2], ew =>
      cases hl : lookS h1 w with
      | int i =>
        cases hl2 : lookS h1 w2 with
        | int j =>
          simp only [List.map, hl, hl2, walked] at ew
          split at ew
          · rename_i hb
            simp only [Bool.and_eq_true, decide_eq_true_eq] at hb
            cases ew
            obtain ⟨v, v2, rfl, rv, rv2⟩ := two_rw r1
            refine ⟨i, j, by rw [int_rw (lookS_look hl) rv, int_rw (lookS_look hl2) rv2], by omega, z γ1 _ _ e1 k1 c1 wk_range⟩
          · cases ew
        | _ => simp [hl, hl2, walked] at ew
      | _ => simp [hl, walked] at ew
    | [], ew => simp [walked] at ew
    | [_], ew => simp [walked] at ew
    | _ :: _ :: _ :: _, ew => simp [walked] at ew
  · rw [ex]; exact z
theorem piv_range3 {e3 : Expr} (hg : Gl X "range") (hm : X.mg "range" = none) (ha : PA X [e, e2, e3] (tes C cl Wx xs)) (hs : starEach [e, e2, e3] X.env = (false, eval e X.env) :: starEach [e2, e3] X.env) (hpl : (backTo pos (starEach [e2, e3] X.env)).any (·.1) = false) :
    PI X tg (.Call (.Name "range" p) [e, e2, e3] [] pos) (tit C cl Wx .range3 xs) := by
  refine PI.imp (pi_range3 hg hm ha hs hpl) fun σ H Rr ⟨γ, σw, h, sl, hc, q⟩ => ⟨γ, σw, h, sl, hc, ?_⟩
  rcases src_inv q with ⟨ws, h1, us, ex, ew, _, z⟩ | ⟨c, a, h1, ex, z⟩
  · rw [ex]
    intro γ1 vs H1 e1 k1 c1 r1
    match ws, ew with
    | [w, w2, w3], ew =>
      cases hl : lookS h1 w with
      | int i =>
        cases hl2 : lookS h1 w2 with
        | int j =>
          cases hl3 : lookS h1 w3 with
          | int c =>
            simp only [List.map, hl, hl2, hl3, walked] at ew
            split at ew
            · rename_i hb
              simp only [Bool.and_eq_true, decide_eq_true_eq] at hb
              cases ew
              obtain ⟨⟨⟨⟨hc1, b1⟩, b2⟩, b3⟩, b4⟩ := hb
              subst hc1
              obtain ⟨v, rest, rfl, rv, rest2⟩ := r1
              obtain ⟨v2, v3, rfl, rv2, rv3⟩ := two_rw rest2
              refine ⟨i, j, -1, (i - j).toNat, by rw [int_rw (lookS_look hl) rv, int_rw (lookS_look hl2) rv2, int_rw (lookS_look hl3) rv3], RgC.neg (by omega) (by omega) (by omega) (by omega), z γ1 _ _ e1 k1 c1 wk_dn⟩
            · cases ew
          | _ => simp [hl, hl2, hl3, walked] at ew
        | _ => simp [hl, hl2, walked] at ew
      | _ => simp [hl, walked] at ew
    | [], ew => simp [walked] at ew
    | [_], ew => simp [walked] at ew
    | [_, _], ew => simp [walked] at ew
    | _ :: _ :: _ :: _ :: _, ew => simp [walked] at ew
  · rw [ex]; exact z
end
theorem wipe_get (σ : L2.St) : ∀ (vs : List Nat) (j : Nat), (L2.wipe σ vs)[j]? = if j ∈ vs then (σ[j]?).map (fun _ => none) else σ[j]?
  | [], j => by simp [L2.wipe]
  | v :: vs, j => by
    unfold L2.wipe
    by_cases e : v = j
    · subst e
      rw [List.getElem?_set, if_pos rfl, L2.wipe_length]
      simp only [List.mem_cons, true_or, if_true]
      by_cases l : v < σ.length
      · simp [l]
      · simp [l, List.getElem?_eq_none (Nat.le_of_not_lt l)]
    · rw [List.getElem?_set_ne e, wipe_get σ vs j]
      have : j ∈ v :: vs ↔ j ∈ vs := by simp [Ne.symm e]
      simp only [this]
theorem wipe_idem (σ : L2.St) (vs : List Nat) : L2.wipe (L2.wipe σ vs) vs = L2.wipe σ vs := by
  apply List.ext_getElem?
  intro j
  rw [wipe_get, wipe_get]
  by_cases h : j ∈ vs
  · simp [h]; cases σ[j]? <;> rfl
  · simp [h]
theorem wipe_set {σ : L2.St} {vs : List Nat} {i : Nat} {x : Option V} (h : i ∈ vs) : L2.wipe (σ.set i x) vs = L2.wipe σ vs := by
  apply List.ext_getElem?
  intro j
  rw [wipe_get, wipe_get]
  by_cases hj : j ∈ vs
  · simp only [hj, if_true]
    by_cases e : i = j
    · subst e
      rw [List.getElem?_set, if_pos rfl]
      by_cases l : i < σ.length
      · simp [l]
      · simp [l]
    · rw [List.getElem?_set_ne e]
  · simp only [hj, if_false]
    rw [List.getElem?_set_ne (fun (e : i = j) => hj (e ▸ h))]
def ttg' (C : Cf) (cl : CL) (vs : List Nat) (t : Tx) : TG := fun v σ H Q => ∃ γ σw h w, SL C γ σw σ ∧ HC C γ h H ∧ RW C γ w v ∧ PoT C γ H (t cl w σw h) (fun σ' H' => L2.wipe σ' vs = L2.wipe σ vs → Q σ' H')
def ttgs (C : Cf) (cl : CL) (vs : List Nat) (t : Txs) : TGs := fun us σ H Q => ∃ γ σw h ws, SL C γ σw σ ∧ HC C γ h H ∧ RWs C γ ws us ∧ PoT C γ H (t cl ws σw h) (fun σ' H' => L2.wipe σ' vs = L2.wipe σ vs → Q σ' H')
theorem PoT.imp {C : Cf} {γ : Gh} {H : Hp} {r : R Sw} {Q Q' : L2.St → Hp → Prop} (p : PoT C γ H r Q) (i : ∀ σ H, Q σ H → Q' σ H) : PoT C γ H r Q' := by
  cases r with
  | ok σw h => exact fun γ' σ H' e k c s => i _ _ (p γ' σ H' e k c s)
  | exn c a h => exact p
  | no => exact p
section
variable {X : Cx} {C : Cf} {cl : CL} {vs : List Nat} {t : Tx} {ts : Txs} {e : Expr} {es : List Expr} {pos : Pos}
theorem PG.imp {t t' : TG} (h : PG X e t) (i : ∀ v σ H Q, t' v σ H Q → t v σ H Q) : PG X e t' := ⟨fun pins s σ H v u Q I r hw => h.run pins s σ H v u Q I r (i v σ H Q hw)⟩
theorem PGs.imp {t t' : TGs} (h : PGs X es t) (i : ∀ v σ H Q, t' v σ H Q → t v σ H Q) : PGs X es t' := ⟨fun pins s σ H v u Q I r hw => h.run pins s σ H v u Q I r (i v σ H Q hw)⟩
theorem pgv_name {i : Nat} {x : Str} (hN : X.N.Nodup) (hi : X.N[i]? = some x) (hx : Loc X.env.scope x) (hf : X.fn x = true ∨ X.env.scope.names.lookup x = some .local) (hv : i ∈ vs) : PG X (.Name x pos) (ttg' C cl vs (tName i)) :=
  PG.imp (pg_name hN hi hx hf) fun v σ H Q ⟨γ, σw, h, w, sl, hc, r, p⟩ => by
    unfold tName at p
    split at p
    · exact p γ _ H (Ext.refl _ _) (Keep.refl _ _) hc (sl.set r) (wipe_set hv)
    · exact p.elim
theorem pgvs_nil : PGs X [] (ttgs C cl vs tsNil) :=
  PGs.imp pgs_nil fun v σ H Q ⟨γ, σw, h, ws, sl, hc, r, p⟩ => by
    unfold tsNil at p
    cases ws with
    | nil => cases r; exact ⟨rfl, p γ _ H (Ext.refl _ _) (Keep.refl _ _) hc sl rfl⟩
    | cons _ _ => exact p.elim
theorem pgvs_cons (h1 : PG X e (ttg' C cl vs t)) (h2 : PGs X es (ttgs C cl vs ts)) (hs : (assignEach (e :: es) X.env).map (·.2) = assign e X.env :: (assignEach es X.env).map (·.2)) : PGs X (e :: es) (ttgs C cl vs (tsCons t ts)) :=
  PGs.imp (pgs_cons h1 h2 hs) fun v σ H Q ⟨γ, σw, h, ws, sl, hc, r, p⟩ => by
    unfold tsCons at p
    cases ws with
    | nil => exact p.elim
    | cons w wr =>
      obtain ⟨u, ur, rfl, r1, r2⟩ := r
      refine ⟨u, ur, rfl, γ, σw, h, w, sl, hc, r1, ?_⟩
      dsimp only at p
      cases ea : t cl w σw h with
      | ok σ1 h1 =>
        rw [ea] at p
        intro γ1 σ' H1 e1 k1 c1 s1 w1
        exact ⟨γ1, σ1, h1, wr, s1, c1, e1.rws r2, PoT.imp (PoT.step p e1 k1) fun σ2 H2 q z => q (z.trans w1)⟩
      | exn c a h1 => rw [ea] at p; exact p
      | no => rw [ea] at p; exact p
theorem draw_list {prog : Program} {w : World} {A : Around} {E : Value → Shared → Prop} {it t : Addr} {items : Array Value} (hne : t ≠ it) : ∀ (n i : Nat) (s : Shared) (Q : List Value → Shared → Prop), s.heap.IsListIter it t i → s.heap.IsList t items → i + n ≤ items.size →
    (∀ h', h'.IsListIter it t (i + n) → Heap.SameBut it s.heap h' → Q ((items.toList.drop i).take n) { s with heap := h' }) → wpAny (model prog w) A (draw (.ref it) n) Q E s
  | 0, i, s, Q, hit, _, _, hQ => by
    show wpAny _ _ (pure []) Q E s
    exact wpAny_pure (by simpa using hQ s.heap hit (Heap.SameBut.refl ..))
  | n + 1, i, s, Q, hit, ht, hle, hQ => by
    have hlt : i < items.size := by omega
    show wpAny _ _ (pyNext (.ref it) >>= _) Q E s
    refine wpAny_bind (wpAny_pyNext_list_item hit ht (x := items[i]) (by simp [hlt]) fun h₁ hit₁ hs₁ => ?_)
    refine wpAny_bind (wpAny_holding (draw_list hne n (i + 1) _ _ hit₁ (ht.extBut hs₁.extBut hne) (by omega) fun h₂ hit₂ hs₂ => wpAny_pure ?_))
    have hd : items.toList.drop i = items[i] :: items.toList.drop (i + 1) := by simp [List.drop_eq_getElem_cons, hlt]
    have := hQ h₂ (by rw [show i + (n + 1) = i + 1 + n by omega]; exact hit₂) (hs₁.trans hs₂)
    rw [hd, List.take_succ_cons] at this
    exact this
theorem assign_Tuple_list {prog : Program} {w : World} {A : Around} {E : Value → Shared → Prop} {s : Shared} {env : Env} {elts : List Expr} {x1} {pos : Pos} {t : Addr} {items : Array Value} {Q : Unit → Shared → Prop} (hh : A.handled = none) (ht : s.heap.IsList t items)
    (hn : (assignEach elts env).length = items.size) (hstar : (assignEach elts env).findIdx? (·.1) = none)
    (h : ∀ h', Heap.ExtBut s.heap.objs.size s.heap h' → wpAny (model prog w) A (assignInOrder ((assignEach elts env).map (·.2)) items.toList) Q E { s with heap := h' }) :
    wpAny (model prog w) A (assign (.Tuple elts x1 pos) env (.ref t)) Q E s := by
  rw [assign_Tuple]
  refine wpAny_bind (wpAny_standAt ?_)
  unfold unpack
  rw [hn, hstar]
  refine wpAny_bind (wpAny_holding ?_)
  have hlt : t ≠ s.heap.objs.size := by obtain ⟨o, ho, _⟩ := ht; exact Nat.ne_of_lt (Heap.lt_size ho)
  unfold unpackItems
  refine wpAny_bind ?_
  unfold notIterableAtAll
  refine wpAny_bind (wpAny_specialOf ht.typeIs slot_list_iter.lookup ?_)
  refine wpAny_pure ?_
  simp only [Bool.false_eq_true, if_false]
  refine wpAny_bind (wpAny_holding (wpAny_pyIter_list ht ?_))
  refine wpAny_bind (wpAny_holding (draw_list hlt items.size 0 _ _ ⟨_, Heap.get?_push_size _ rfl, rfl, rfl⟩ (ht.push _) (by omega) fun h₁ hit₁ hs₁ => ?_))
  have hall : List.take items.size (List.drop 0 items.toList) = items.toList := by
    rw [List.drop_zero]; exact List.take_of_length_le (by simp)
  rw [hall]
  rw [if_neg (by simp)]
  have ht₁ : h₁.IsList t items := (ht.push _).extBut hs₁.extBut hlt
  refine wpAny_bind (wpAny_holding (wpAny_pyNext_list_end hh hit₁ ht₁ (by simp) fun h₂ he₂ => ?_))
  simp only [Option.isSome_none, Bool.false_eq_true, if_false]
  exact wpAny_pure (h h₂ fun b o hb e => he₂ b o hb (hs₁.extBut b o hb (Heap.get?_push_of_some _ e)))
theorem pg_tupL {t : TGs} {n k : Nat} (hc : X.calm = true) (h : PGs X es t) (hn : (assignEach es X.env).length = n) (hst : (assignEach es X.env).findIdx? (·.1) = none) :
    PG X (.Tuple es k pos) (fun v σ H Q => ∃ a xs, v = V.ref a ∧ (SqT X.K H a xs ∨ SqL X.K H a xs) ∧ xs.length = n ∧ t xs σ H Q) := by
  refine ⟨fun pins s σ H v u Q I r hw => ?_⟩
  obtain ⟨a, xs, e1, hq, hl, hw⟩ := hw
  subst e1
  rcases hq with hq | hq
  · exact (pg_tup hc h hn hst).run pins s σ H _ u Q I r ⟨a, xs, rfl, hq, hl, hw⟩
  · cases r
    obtain ⟨its, rv, ht, hz⟩ := I.list hq
    refine assign_Tuple_list (I.ok.hd hc) ht.isList (by simp [hn, ← hl, rv.length]) hst fun h' hx => ?_
    have I1 : Inv X pins σ H { s with heap := h' } := I.kept (t' := s.toks) fun b o e => hx b o (Nat.ne_of_lt (Heap.lt_size e)) e
    exact h.run pins _ σ H xs _ Q I1 (by simpa using rv) hw
theorem pgv_tup {n k : Nat} (hc : X.calm = true) (h : PGs X es (ttgs C cl vs ts)) (hn : (assignEach es X.env).length = n) (hst : (assignEach es X.env).findIdx? (·.1) = none) : PG X (.Tuple es k pos) (ttg' C cl vs (tTup n ts)) :=
  PG.imp (pg_tupL hc h hn hst) fun v σ H Q ⟨γ, σw, h, w, sl, hc, r, p⟩ => by
    unfold tTup at p
    cases hl : look h w with
    | tup ws =>
      rw [hl] at p
      dsimp only at p
      cases hb : Nat.beq ws.length n with
      | false => rw [hb] at p; exact p.elim
      | true =>
        rw [hb] at p
        obtain ⟨a, us, rfl, q1, q2⟩ := look_tup hc r hl
        exact ⟨a, us, rfl, .inl (.inl q1), by rw [← q2.length]; exact Nat.eq_of_beq_eq_true hb, γ, σw, h, ws, sl, hc, q2, p⟩
    | lst ws =>
      rw [hl] at p
      dsimp only at p
      cases hb : Nat.beq ws.length n with
      | false => rw [hb] at p; exact p.elim
      | true =>
        rw [hb] at p
        obtain ⟨a, us, rfl, q1, q2⟩ := look_lst hc r hl
        exact ⟨a, us, rfl, .inr (.inl q1), by rw [← q2.length]; exact Nat.eq_of_beq_eq_true hb, γ, σw, h, ws, sl, hc, q2, p⟩
    | _ => rw [hl] at p; exact p.elim
end
end Ov
namespace Ov
open PySem PySem.Spec PyProof.Rows L2
section
variable {C : Cf} {γ γ' γ1 : Gh} {h h1 : Hw} {H H' H1 : Hp} {D : Addr}
def Gh.add (γ : Gh) (D : Addr) : Gh := { γ with P := fun a => γ.P a ∨ a = D }
theorem HC.add (c : HC C γ h H) (n : H D = none) {vs : List V} : HC C (γ.add D) h (upd H D (.lst vs)) := by
  have ne : ∀ a o', H a = some o' → a ≠ D := fun a o' e z => by subst z; rw [n] at e; cases e
  have nn : ∀ a, H a ≠ none → a ≠ D := fun a e z => by subst z; exact e n
  have fD : γ.F D = none := by
    cases e : γ.F D with
    | none => rfl
    | some u => rw [c.frz _ _ e] at n; cases n
  have nι : D ∉ γ.ι := fun hp => c.there D hp n
  refine ⟨c.len, c.nd, fun m a cc i hm => ?_, fun a i => by rw [upd_ne (nn a (c.there a i))]; exact c.there a i, fun a u e => by rw [upd_ne (ne a u (c.frz a u e))]; exact c.frz a u e, fun a pa => ?_, fun d y e => ?_, fun a l q => by rw [upd_ne (ne a _ (c.lkd a l q))]; exact c.lkd a l q, fun a pa => ?_⟩
  · have q := c.cell m a cc i hm
    have ha := nn a (c.there a (List.mem_of_getElem? i))
    cases cc with
    | lst us => obtain ⟨f, ys, hh, r'⟩ := q; exact ⟨f, ys, by rw [upd_ne ha]; exact hh, (⟨fun _ _ z => z, fun _ _ z => z, fun _ _ z => z⟩ : Mor γ (γ.add D)).rws r'⟩
    | dct _ _ => obtain ⟨f, o, xs, ys, hh, d, r1, r2⟩ := q; exact ⟨f, o, xs, ys, by rw [upd_ne ha]; exact hh, d, (⟨fun _ _ z => z, fun _ _ z => z, fun _ _ z => z⟩ : Mor γ (γ.add D)).rws r1, (⟨fun _ _ z => z, fun _ _ z => z, fun _ _ z => z⟩ : Mor γ (γ.add D)).rws r2⟩
    | lck _ _ => obtain ⟨f, o, xs, ys, lo, hh, d, r1, r2⟩ := q; exact ⟨f, o, xs, ys, lo, by rw [upd_ne ha]; exact hh, d, (⟨fun _ _ z => z, fun _ _ z => z, fun _ _ z => z⟩ : Mor γ (γ.add D)).rws r1, (⟨fun _ _ z => z, fun _ _ z => z, fun _ _ z => z⟩ : Mor γ (γ.add D)).rws r2⟩
    | obj k ns us =>
      obtain ⟨f, dx, ys, fd, hh, hd, l, r'⟩ := q
      exact ⟨f, dx, ys, fd, by rw [upd_ne ha]; exact hh, by rw [upd_ne (ne _ _ hd)]; exact hd, l, (⟨fun _ _ z => z, fun _ _ z => z, fun _ _ z => z⟩ : Mor γ (γ.add D)).rws r'⟩
    | dead => trivial
  · rcases pa with pa | rfl
    · obtain ⟨a1, a2, a3, a4⟩ := c.prot a pa
      exact ⟨by rw [upd_ne (nn a a1)]; exact a1, a2, a3, fun b hb => by rw [upd_ne (nn a a1)]; exact a4 b hb⟩
    · exact ⟨by rw [upd_same]; simp, fD, nι, fun b hb => by rw [upd_same]; simp⟩
  · by_cases z : d = D
    · subst z; rw [upd_same] at e; cases e
    · rw [upd_ne z] at e
      have := c.own d y e
      rw [upd_ne (nn y this)]; exact this
  · rcases pa with pa | rfl
    · exact c.prl a pa
    · cases q : γ.L a with
      | none => exact q
      | some l => rw [c.lkd a l q] at n; cases n
theorem HC.write (c : HC C γ h H) (p : γ.P D) {vs : List V} : HC C γ h (upd H D (.lst vs)) := by
  obtain ⟨p1, p2, p3, p4⟩ := c.prot D p
  have key : ∀ a, H a ≠ none → upd H D (.lst vs) a ≠ none := fun a e => by
    by_cases z : a = D
    · subst z; rw [upd_same]; simp
    · rw [upd_ne z]; exact e
  refine ⟨c.len, c.nd, fun m a cc i hm => ?_, fun a i => key a (c.there a i), fun a u e => ?_, fun a pa => ?_, fun d y e => ?_, fun a l q => ?_, c.prl⟩
  · have q := c.cell m a cc i hm
    have mem := List.mem_of_getElem? i
    have ha : a ≠ D := fun z => by subst z; exact p3 mem
    cases cc with
    | lst us => obtain ⟨f, ys, hh, r'⟩ := q; exact ⟨f, ys, by rw [upd_ne ha]; exact hh, r'⟩
    | dct _ _ => obtain ⟨f, o, xs, ys, hh, d, r1, r2⟩ := q; exact ⟨f, o, xs, ys, by rw [upd_ne ha]; exact hh, d, r1, r2⟩
    | lck _ _ => obtain ⟨f, o, xs, ys, lo, hh, d, r1, r2⟩ := q; exact ⟨f, o, xs, ys, lo, by rw [upd_ne ha]; exact hh, d, r1, r2⟩
    | obj k ns us =>
      obtain ⟨f, dx, ys, fd, hh, hd, l, r'⟩ := q
      have hx : dx ≠ D := fun z => by subst z; exact p4 a mem hd
      exact ⟨f, dx, ys, fd, by rw [upd_ne ha]; exact hh, by rw [upd_ne hx]; exact hd, l, r'⟩
    | dead => trivial
  · have : a ≠ D := fun z => by subst z; rw [p2] at e; cases e
    rw [upd_ne this]; exact c.frz a u e
  · obtain ⟨a1, a2, a3, a4⟩ := c.prot a pa
    refine ⟨key a a1, a2, a3, fun b hb => ?_⟩
    by_cases z : a = D
    · subst z; rw [upd_same]; simp
    · rw [upd_ne z]; exact a4 b hb
  · by_cases z : d = D
    · subst z; rw [upd_same] at e; cases e
    · rw [upd_ne z] at e
      exact key y (c.own d y e)
  · have z : a ≠ D := fun z => by subst z; rw [c.prl a p] at q; cases q
    rw [upd_ne z]; exact c.lkd a l q
theorem HC.settle (c : HC C γ h H) (p : γ.P D) {vs : List V} (d : H D = some (.lst vs)) {P' : Addr → Prop} (hP : ∀ a, P' a → γ.P a ∧ a ≠ D) : HC C { γ with P := P', F := upd γ.F D (.lst vs) } h H := by
  obtain ⟨p1, p2, p3, p4⟩ := c.prot D p
  have fz : ∀ a o, γ.F a = some o → upd γ.F D (.lst vs) a = some o := fun a o e => by
    have : a ≠ D := fun z => by subst z; rw [p2] at e; cases e
    rw [upd_ne this]; exact e
  refine ⟨c.len, c.nd, fun m a cc i hm => ?_, c.there, fun a u e => ?_, fun a pa => ?_, c.own, c.lkd, fun a pa => c.prl a (hP a pa).1⟩
  · have q := c.cell m a cc i hm
    have mem := List.mem_of_getElem? i
    have ha : a ≠ D := fun z => by subst z; exact p3 mem
    cases cc with
    | lst us => obtain ⟨f, ys, hh, r'⟩ := q; exact ⟨⟨by show upd γ.F D _ a = none; rw [upd_ne ha]; exact f.1, f.2⟩, ys, hh, (⟨fun _ _ z => z, fz, fun _ _ z => z⟩ : Mor γ { γ with P := P', F := upd γ.F D (.lst vs) }).rws r'⟩
    | dct _ _ => obtain ⟨f, o, xs, ys, hh, d, r1, r2⟩ := q; exact ⟨⟨by show upd γ.F D _ a = none; rw [upd_ne ha]; exact f.1, f.2⟩, o, xs, ys, hh, d, (⟨fun _ _ z => z, fz, fun _ _ z => z⟩ : Mor γ { γ with P := P', F := upd γ.F D (.lst vs) }).rws r1, (⟨fun _ _ z => z, fz, fun _ _ z => z⟩ : Mor γ { γ with P := P', F := upd γ.F D (.lst vs) }).rws r2⟩
    | lck _ _ => obtain ⟨f, o, xs, ys, lo, hh, d, r1, r2⟩ := q; exact ⟨by show upd γ.F D _ a = none; rw [upd_ne ha]; exact f, o, xs, ys, lo, hh, d, (⟨fun _ _ z => z, fz, fun _ _ z => z⟩ : Mor γ { γ with P := P', F := upd γ.F D (.lst vs) }).rws r1, (⟨fun _ _ z => z, fz, fun _ _ z => z⟩ : Mor γ { γ with P := P', F := upd γ.F D (.lst vs) }).rws r2⟩
    | obj k ns us =>
      obtain ⟨f, dx, ys, fd, hh, hd, l, r'⟩ := q
      have hx : dx ≠ D := fun z => by subst z; rw [d] at hd; cases hd
      exact ⟨⟨by show upd γ.F D _ a = none; rw [upd_ne ha]; exact f.1, f.2⟩, dx, ys, by show upd γ.F D _ dx = none; rw [upd_ne hx]; exact fd, hh, hd, l, (⟨fun _ _ z => z, fz, fun _ _ z => z⟩ : Mor γ { γ with P := P', F := upd γ.F D (.lst vs) }).rws r'⟩
    | dead => trivial
  · by_cases z : a = D
    · subst z
      have e' : upd γ.F a (.lst vs) a = some u := e
      rw [upd_same] at e'; cases e'; exact d
    · have e' : upd γ.F D (.lst vs) a = some u := e
      rw [upd_ne z] at e'; exact c.frz a u e'
  · obtain ⟨q1, q2⟩ := hP a pa
    obtain ⟨a1, a2, a3, a4⟩ := c.prot a q1
    exact ⟨a1, by show upd γ.F D _ a = none; rw [upd_ne q2]; exact a2, a3, a4⟩
theorem HC.settleC (c : HC C γ h H) (p : γ.P D) {ws : List W} {vs : List V} (d : H D = some (.lst vs)) (r : RWs C γ ws vs) {P' : Addr → Prop} (hP : ∀ a, P' a → γ.P a ∧ a ≠ D ∧ H a ≠ some (.own D)) : HC C { γ with P := P', ι := γ.ι ++ [D] } (h ++ [.lst ws]) H := by
  obtain ⟨p1, p2, p3, p4⟩ := c.prot D p
  have ix : ∀ (n : Nat) (a : Addr), γ.ι[n]? = some a → (γ.ι ++ [D])[n]? = some a := fun n a e => by
    rw [List.getElem?_append_left (List.getElem?_eq_some_iff.mp e).1]; exact e
  have mo : ∀ {ws : List W} {vs : List V}, RWs C γ ws vs → RWs C { γ with P := P', ι := γ.ι ++ [D] } ws vs := fun r => (⟨ix, fun _ _ z => z, fun _ _ z => z⟩ : Mor γ { γ with P := P', ι := γ.ι ++ [D] }).rws r
  refine ⟨by simp [c.len], nodup_append_one c.nd p3, fun m a cc i hm => ?_, fun a i => ?_, c.frz, fun a pa => ?_, c.own, c.lkd, fun a pa => c.prl a (hP a pa).1⟩
  · by_cases hlt : m < γ.ι.length
    · have i : (γ.ι ++ [D])[m]? = some a := i
      rw [List.getElem?_append_left hlt] at i
      rw [List.getElem?_append_left (by rw [c.len]; exact hlt)] at hm
      have q := c.cell m a cc i hm
      cases cc with
      | lst us => obtain ⟨f, ys, hh, r'⟩ := q; exact ⟨f, ys, hh, mo r'⟩
      | dct _ _ => obtain ⟨f, o, xs, ys, hh, d, r1, r2⟩ := q; exact ⟨f, o, xs, ys, hh, d, mo r1, mo r2⟩
      | lck _ _ => obtain ⟨f, o, xs, ys, lo, hh, d, r1, r2⟩ := q; exact ⟨f, o, xs, ys, lo, hh, d, mo r1, mo r2⟩
      | obj k ns us => obtain ⟨f, dx, ys, fd, hh, hd, l, r'⟩ := q; exact ⟨f, dx, ys, fd, hh, hd, l, mo r'⟩
      | dead => trivial
    · have hm' : m = γ.ι.length := by
        have h1 : m < γ.ι.length + 1 := by simpa using (List.getElem?_eq_some_iff.mp i).1
        omega
      subst hm'
      have : a = D := by simpa using i.symm
      subst this
      have : cc = .lst ws := by
        rw [← c.len] at hm
        simpa using hm.symm
      subst this
      exact ⟨⟨p2, c.prl _ p⟩, vs, d, mo r⟩
  · rcases List.mem_append.mp i with i | i
    · exact c.there a i
    · have : a = D := by simpa using i
      subst this; exact p1
  · obtain ⟨q1, q2, q3⟩ := hP a pa
    obtain ⟨a1, a2, a3, a4⟩ := c.prot a q1
    refine ⟨a1, a2, fun hm => ?_, fun b hb => ?_⟩
    · rcases List.mem_append.mp hm with hm | hm
      · exact a3 hm
      · exact q2 (by simpa using hm)
    · rcases List.mem_append.mp hb with hb | hb
      · exact a4 b hb
      · have : b = D := by simpa using hb
        subst this
        exact q3
structure Bld (γ1 : Gh) (H1 : Hp) (D : Addr) (γ : Gh) (H : Hp) (acc : List V) : Prop where
  ex : Ext γ1 { γ with P := γ1.P } H1
  eP : γ.P = fun a => γ1.P a ∨ a = D
  kp : Keep γ1 H1 H
  d : H D = some (.lst acc)
variable {acc : List V}
theorem Bld.mor (b : Bld γ1 H1 D γ H acc) : Mor γ1 γ := ⟨b.ex.mor.ix, b.ex.mor.frz, b.ex.mor.lk⟩
theorem Bld.pD (b : Bld γ1 H1 D γ H acc) : γ.P D := by rw [b.eP]; exact .inr rfl
theorem Bld.start (n : H1 D = none) : Bld γ1 H1 D (γ1.add D) (upd H1 D (.lst acc)) acc :=
  ⟨⟨⟨[], by simp [Gh.add], fun _ h => nomatch h⟩, fun _ _ h => h, rfl, rfl⟩, rfl,
    ⟨fun a o e _ => by rw [upd_ne (fun z => by subst z; rw [n] at e; cases e)]; exact e, fun a e => by rw [upd_ne (fun z => by subst z; exact e n)]; exact e⟩, upd_same⟩
theorem Bld.step (b : Bld γ1 H1 D γ H acc) (c : HC C γ h H) (e : Ext γ γ' H) (k : Keep γ H H') : Bld γ1 H1 D γ' H' acc := by
  have e' : Ext { γ with P := γ1.P } { γ' with P := γ1.P } H := ⟨e.pre, e.frz, rfl, e.lk⟩
  have k' : Keep { γ with P := γ1.P } H H' := ⟨k.same, k.there⟩
  exact ⟨b.ex.trans b.kp e', e.prot.trans b.eP, b.kp.trans b.ex k', k.same D _ b.d fun m => absurd m (c.prot D b.pD).2.2.1⟩
theorem Bld.write (b : Bld γ1 H1 D γ H acc) (n : H1 D = none) {acc' : List V} : Bld γ1 H1 D γ (upd H D (.lst acc')) acc' :=
  ⟨b.ex, b.eP, ⟨fun a o e m => by rw [upd_ne (fun z => by subst z; rw [n] at e; cases e)]; exact b.kp.same a o e m, fun a e => by rw [upd_ne (fun z => by subst z; exact e n)]; exact b.kp.there a e⟩, upd_same⟩
theorem Bld.done {m : Bool} {ws : List W} {Q : VK} {E : XK} (b : Bld γ1 H1 D γ H acc) (n : H1 D = none) (c1 : HC C γ1 h1 H1) (c : HC C γ h H) (r : RWs C γ ws acc) (p : PoE C γ1 H1 (made m h (.lst ws)) Q E) : Q (.ref D) H := by
  have nP : ∀ a, γ1.P a → γ.P a ∧ a ≠ D ∧ H a ≠ some (.own D) := fun a pa => by
    obtain ⟨a1, a2, a3, a4⟩ := c1.prot a pa
    refine ⟨by rw [b.eP]; exact .inl pa, fun z => by subst z; exact a1 n, fun e => ?_⟩
    cases q : H1 a with
    | none => exact a1 q
    | some o =>
      have := b.kp.same a o q fun m => absurd m a3
      rw [e] at this; cases this
      exact c1.own a D q n
  cases m with
  | false =>
    have fz : ∀ a o, γ.F a = some o → upd γ.F D (.lst acc) a = some o := fun a o e => by
      have : a ≠ D := fun z => by subst z; rw [(c.prot a b.pD).2.1] at e; cases e
      rw [upd_ne this]; exact e
    refine p { γ with P := γ1.P, F := upd γ.F D (.lst acc) } (.ref D) H ⟨b.ex.pre, fun a o e => fz a o (b.ex.frz a o e), rfl, b.ex.lk⟩ b.kp (c.settle b.pD b.d fun a pa => ⟨(nP a pa).1, (nP a pa).2.1⟩) ⟨D, acc, rfl, .inl upd_same, ?_⟩
    exact (⟨fun _ _ z => z, fz, fun _ _ z => z⟩ : Mor γ { γ with P := γ1.P, F := upd γ.F D (.lst acc) }).rws r
  | true =>
    obtain ⟨l, e1, e2⟩ := b.ex.pre
    refine p { γ with P := γ1.P, ι := γ.ι ++ [D] } (.ref D) H ⟨⟨l ++ [D], ?_, fun a ha => ?_⟩, b.ex.frz, rfl, b.ex.lk⟩ b.kp (c.settleC b.pD b.d r nP) ⟨D, rfl, ?_⟩
    · have : γ.ι = γ1.ι ++ l := e1
      show γ.ι ++ [D] = _
      rw [this, List.append_assoc]
    · rcases List.mem_append.mp ha with ha | ha
      · exact e2 a ha
      · have : a = D := by simpa using ha
        subst this; exact n
    · show (γ.ι ++ [D])[h.length]? = some D
      rw [c.len]; simp
end
def WF : WX := fun _ _ _ _ => False
def tfs (C : Cf) (cl : CL) (Wx : WX) (ifs : Exb) : TT := fun σ H Q => ∃ γ σw h, SL C γ σw σ ∧ HC C γ h H ∧ PoB C γ H (ifs cl σw h) Q (fun cls d H' => Wx cls d σ H')
section
variable {X : Cx} {C : Cf} {cl : CL} {Wx : WX} {k : IK} {its : Exs} {own : List Nat} {t : Tx} {ifs : Exb} {e : Ex} {m : Bool}
theorem pfs_nil : PTs X [] (tfs C cl Wx ifNil) := ⟨fun pins s σ H Q I ⟨γ, σw, h, sl, hc, p⟩ => (pts_nil (X := X)).run pins s σ H Q I (p γ H (Ext.refl _ _) (Keep.refl _ _) hc)⟩
theorem pfs_one {c : Expr} {xc : Ex} (hc : PT X c (ttv C cl Wx xc)) : PTs X [c] (tfs C cl Wx (ifCons xc ifNil)) := ⟨fun pins s σ H Q I ⟨γ, σw, h, sl, hcc, p⟩ => by
  refine (pts_one hc).run pins s σ H Q I ⟨γ, σw, h, sl, hcc, ?_⟩
  unfold ifCons ifNil at p
  cases ea : xc cl σw h with
  | ok w h1 =>
    rw [ea] at p
    cases w with
    | bl b => cases b <;> exact p
    | _ => exact p.elim
  | exn c aa h1 => rw [ea] at p; exact p
  | no => rw [ea] at p; exact p⟩
theorem lc_sem {σ : L2.St} {H : Hp} {Q : VK} (tt : tev C cl Wx (xComp m own t k its ifs e) σ H Q) : tLc (tit C cl Wx k its) (ttg' C cl own t) (tfs C cl WF ifs) (tev C cl WF e) own σ H Q := by
  obtain ⟨γ0, σw, h, sl, hc, p⟩ := tt
  refine ⟨γ0, σw, h, sl, hc, ?_⟩
  unfold xComp at p
  cases es : src k its cl σw h with
  | no => rw [es] at p; exact p
  | exn c a h1 => rw [es] at p; exact p
  | ok pr h1 =>
    have hlen : pr.2.length < most := by
      unfold src at es
      cases ea : its cl σw h with
      | no => rw [ea] at es; cases es
      | exn c a h1 => rw [ea] at es; cases es
      | ok ws h2 =>
        rw [ea] at es
        dsimp only [R.bind] at es
        cases hw : walked k (ws.map (lookS h2)) with
        | none => rw [hw] at es; cases es
        | some us =>
          rw [hw] at es
          dsimp only at es
          cases hb : Nat.blt us.length most with
          | false => rw [hb] at es; cases es
          | true => rw [hb] at es; cases es; exact Nat.le_of_ble_eq_true hb
    rw [es] at p
    obtain ⟨ws, xs⟩ := pr
    dsimp only at hlen
    intro γ1 J H1 e1 k1 c1 wk D hD
    have p1 := PoE.step p e1 k1
    dsimp only [R.bind] at p1
    generalize hch : (fun h' => stands h1 h' ws) = chk at p1 wk
    clear hch p
    refine ⟨fun i n Hi => n = xs.length - i ∧ i ≤ xs.length ∧ ∃ γ hh acc accw, Bld γ1 H1 D γ Hi acc ∧ HC C γ hh Hi ∧ RWs C γ accw acc ∧ accw.length + (xs.length - i) < most ∧
      PoE C γ1 H1 ((compGo chk (turn own t ifs e cl σw) (xs.drop i) hh).bind fun ys h3 => made m h3 (.lst (accw ++ ys))) Q (fun cls d H' => Wx cls d σ H'), ⟨xs.length, rfl, Nat.zero_le _, γ1.add D, h1, [], [], Bld.start hD, c1.add hD, rfl, by simpa using hlen, p1⟩, ?_⟩
    rintro i n Hi ⟨rfl, hi, γ, hh, acc, accw, bd, hcc, ra, lt, pp⟩
    by_cases hlt : i < xs.length
    · right
      rw [List.drop_eq_getElem_cons hlt] at pp
      unfold compGo at pp
      cases hk : chk hh with
      | false => rw [hk] at pp; exact pp.elim
      | true =>
        rw [hk] at pp
        dsimp only at pp
        refine ⟨wk.goes γ hh Hi i bd.mor hcc hk hlt, fun H' => ∃ γ hh acc accw, Bld γ1 H1 D γ H' acc ∧ HC C γ hh H' ∧ RWs C γ accw acc ∧ accw.length + (xs.length - (i + 1)) < most ∧
          PoE C γ1 H1 ((compGo chk (turn own t ifs e cl σw) (xs.drop (i + 1)) hh).bind fun ys h3 => made m h3 (.lst (accw ++ ys))) Q (fun cls d H' => Wx cls d σ H'), fun H' p' => ⟨xs.length - (i + 1), by omega, rfl, hlt, p'⟩, fun x H' y => ?_⟩
        obtain ⟨γ2, e2, k2, c2, r2⟩ := wk.yields γ hh Hi i xs[i] x H' bd.mor hcc hk (by simp [hlt]) y
        have b2 := bd.step hcc e2 k2
        refine ⟨γ2, wipeW σw own, hh, xs[i], (((sl.ext e1).wipe own) |> b2.mor.sl), c2, r2, ?_⟩
        unfold turn at pp
        cases et : t cl xs[i] (wipeW σw own) hh with
        | no => rw [et] at pp; exact pp.elim
        | exn c a h2 => rw [et] at pp; exact pp.elim
        | ok σ1 h2 =>
          rw [et] at pp
          dsimp only [R.calm, R.bind] at pp
          intro γ3 σ3 H3 e3 k3 c3 s3 w3
          have b3 := b2.step c2 e3 k3
          refine ⟨w3.trans (wipe_idem _ _), γ3, σ1, h2, s3, c3, ?_⟩
          cases ei : ifs cl σ1 h2 with
          | no => rw [ei] at pp; exact pp.elim
          | exn c a h2 => rw [ei] at pp; exact pp.elim
          | ok b h4 =>
            rw [ei] at pp
            dsimp only [R.calm, R.bind] at pp
            intro γ4 H4 e4 k4 c4
            have b4 := b3.step c3 e4 k4
            have r4 := (e4.rws (e3.rws (e2.rws ra)))
            cases b with
            | false =>
              rw [if_neg (by decide)]
              refine ⟨γ4, h4, acc, accw, b4, c4, r4, by omega, ?_⟩
              have q : ((compGo chk (turn own t ifs e cl σw) (xs.drop (i + 1)) h4).bind fun ys h2 => R.ok ys h2) = compGo chk (turn own t ifs e cl σw) (xs.drop (i + 1)) h4 := by
                cases compGo chk (turn own t ifs e cl σw) (xs.drop (i + 1)) h4 <;> rfl
              have pp' : PoE C γ1 H1 (((compGo chk (turn own t ifs e cl σw) (xs.drop (i + 1)) h4).bind fun ys h2 => R.ok ys h2).bind fun ys h3 => made m h3 (.lst (accw ++ ys))) Q (fun cls d H' => Wx cls d σ H') := pp
              rw [q] at pp'
              exact pp'
            | true =>
              rw [if_pos rfl]
              refine ⟨γ4, σ1, h4, s3.ext e4, c4, ?_⟩
              simp only [if_true] at pp
              cases ee : e cl σ1 h4 with
              | no => rw [ee] at pp; exact pp.elim
              | exn c a h2 => rw [ee] at pp; exact pp.elim
              | ok w h5 =>
                rw [ee] at pp
                dsimp only [R.calm, R.bind] at pp
                intro γ5 v H5 e5 k5 c5 r5
                have b5 := b4.step c4 e5 k5
                have lt' : acc.length < sizeLine := by
                  rw [← ra.length]
                  exact most_line (Nat.ble_eq_true_of_le (show accw.length < most by omega))
                refine ⟨acc, b5.d, lt', γ5, h5, acc ++ [v], accw ++ [w], b5.write hD, c5.write b5.pD, (e5.rws r4).append (RWs.cons r5 RWs.nil), by rw [List.length_append]; simp; omega, ?_⟩
                have q : (((compGo chk (turn own t ifs e cl σw) (xs.drop (i + 1)) h5).bind fun ys h2 => R.ok (w :: ys) h2).bind fun ys h3 => made m h3 (.lst (accw ++ ys))) = (compGo chk (turn own t ifs e cl σw) (xs.drop (i + 1)) h5).bind fun ys h3 => made m h3 (.lst (accw ++ [w] ++ ys)) := by
                  cases compGo chk (turn own t ifs e cl σw) (xs.drop (i + 1)) h5 with
                  | ok ys h6 => show made m h6 (.lst (accw ++ (w :: ys))) = made m h6 (.lst (accw ++ [w] ++ ys)); rw [List.append_assoc]; rfl
                  | _ => rfl
                have pp' : PoE C γ1 H1 (((compGo chk (turn own t ifs e cl σw) (xs.drop (i + 1)) h5).bind fun ys h2 => R.ok (w :: ys) h2).bind fun ys h3 => made m h3 (.lst (accw ++ ys))) Q (fun cls d H' => Wx cls d σ H') := pp
                rw [q] at pp'
                exact pp'
    · left
      have e : i = xs.length := by omega
      subst e
      rw [List.drop_length] at pp
      unfold compGo at pp
      cases hk : chk hh with
      | false => rw [hk] at pp; exact pp.elim
      | true =>
        rw [hk] at pp
        have pp' : PoE C γ1 H1 (made m hh (.lst (accw ++ []))) Q (fun cls d H' => Wx cls d σ H') := pp
        rw [List.append_nil] at pp'
        exact ⟨wk.stops γ hh Hi bd.mor hcc hk, bd.done hD c1 hcc ra pp'⟩
end
section
variable {X : Cx} {C : Cf} {cl : CL} {Wx : WX} {k : IK} {its : Exs} {vs : List Nat} {t : Tx} {b : Sx} {pos : Pos}
theorem for_sem {D : Ends} {σ : L2.St} {H : Hp} (tt : tst C cl Wx (sFor t k its b) D σ H) : tFor (tit C cl Wx k its) (ttg' C cl vs t) (tst C cl Wx b) D σ H := by
  obtain ⟨γ0, σw, h, sl, hc, p⟩ := tt
  refine ⟨γ0, σw, h, sl, hc, ?_⟩
  unfold sFor at p
  cases es : src k its cl σw h with
  | no => rw [es] at p; exact p
  | exn c a h1 =>
    rw [es] at p
    exact fun γ' H' cls d e k c x => p γ' σ H' cls d e k c (sl.ext e) x
  | ok pr h1 =>
    rw [es] at p
    obtain ⟨ws, xs⟩ := pr
    intro γ1 J H1 e1 k1 c1 wk
    have p1 := PoS.step p e1 k1
    dsimp only [R.st] at p1
    generalize hch : (fun h' => stands h1 h' ws) = chk at p1 wk
    clear hch p
    refine ⟨fun i n σi Hi => n = xs.length - i ∧ i ≤ xs.length ∧ ∃ γ σv hh, Mor γ1 γ ∧ SL C γ σv σi ∧ HC C γ hh Hi ∧
      PoS C γ Hi (forGo chk (fun x σ h => (t cl x σ h).calm.st σ fun σ1 h3 => b cl σ1 h3) (xs.drop i) σv hh) D Wx, ⟨xs.length, rfl, Nat.zero_le _, γ1, σw, h1, Mor.refl _, sl.ext e1, c1, p1⟩, ?_⟩
    rintro i n σi Hi ⟨rfl, hi, γ, σv, hh, mo, si, hcc, pp⟩
    by_cases hlt : i < xs.length
    · right
      rw [List.drop_eq_getElem_cons hlt] at pp
      unfold forGo at pp
      cases hk : chk hh with
      | false => rw [hk] at pp; exact pp.elim
      | true =>
        rw [hk] at pp
        dsimp only at pp
        refine ⟨wk.goes γ hh Hi i mo hcc hk hlt, fun σ' H' => ∃ γ σv hh, Mor γ1 γ ∧ SL C γ σv σ' ∧ HC C γ hh H' ∧
          PoS C γ H' (forGo chk (fun x σ h => (t cl x σ h).calm.st σ fun σ1 h3 => b cl σ1 h3) (xs.drop (i + 1)) σv hh) D Wx, fun σ' H' p' => ⟨xs.length - (i + 1), by omega, rfl, hlt, p'⟩, fun x H' y => ?_⟩
        obtain ⟨γ2, e2, k2, c2, r2⟩ := wk.yields γ hh Hi i xs[i] x H' mo hcc hk (by simp [hlt]) y
        refine ⟨γ2, σv, hh, xs[i], si.ext e2, c2, r2, ?_⟩
        have pp2 := PoS.step pp e2 k2
        cases et : t cl xs[i] σv hh with
        | no => rw [et] at pp2; exact pp2.elim
        | exn c a h2 => rw [et] at pp2; exact pp2.elim
        | ok σ1 h2 =>
          rw [et] at pp2
          intro γ3 σ3 H3 e3 k3 c3 s3 w3
          have pp3 := PoS.step pp2 e3 k3
          refine ⟨γ3, σ1, h2, s3, c3, ?_⟩
          dsimp only [R.calm, R.st] at pp3
          have mo3 := (mo.trans e2.mor).trans e3.mor
          cases eb : b cl σ1 h2 with
          | no => rw [eb] at pp3; exact pp3
          | exn c a σ4 h4 => rw [eb] at pp3; exact pp3
          | ok fl h4 =>
            rw [eb] at pp3
            cases fl with
            | nx σ4 => exact fun γ4 σ5 H4 e4 k4 c4 s4 => ⟨γ4, σ4, h4, mo3.trans e4.mor, s4, c4, PoS.step pp3 e4 k4⟩
            | brk σ4 => exact pp3
            | ret w => exact pp3
    · left
      have e : i = xs.length := by omega
      subst e
      rw [List.drop_length] at pp
      unfold forGo at pp
      cases hk : chk hh with
      | false => rw [hk] at pp; exact pp.elim
      | true =>
        rw [hk] at pp
        exact ⟨wk.stops γ hh Hi mo hcc hk, pp γ σi Hi (Ext.refl _ _) (Keep.refl _ _) hcc si⟩
theorem psv_for {tg iter : Expr} {body : List Stmt} (hp : PassesOwn (model X.prog X.w) X.A X.env X.xe) (hc : X.calm = true) (hi : PI X tg iter (tit C cl Wx k its)) (hg : PG X tg (ttg' C cl vs t)) (hb : PSs X body (tst C cl Wx b)) (hs : ∀ x, foldedSetIterable iter X.env x = pure x) :
    PS X (.For tg iter body [] pos) (tst C cl Wx (sFor t k its b)) := PS.imp (ps_for hp hc hi hg hb hs) fun D σ H q => for_sem q
end
end Ov
namespace Ov
open PySem PySem.Spec PyProof.Rows L2
theorem clip_sIx (i : Int) (n : Nat) (d : Nat) : clip i n = HT.sIx n d (some i) := rfl
theorem slice_cut {α : Type} (xs : List α) (lo hi : Option Int) : slice xs lo hi = (xs.drop (HT.sIx xs.length 0 lo)).take (HT.sIx xs.length xs.length hi - HT.sIx xs.length 0 lo) := by
  have e : slice xs lo hi = (xs.take (HT.sIx xs.length xs.length hi)).drop (HT.sIx xs.length 0 lo) := by
    unfold slice
    cases lo <;> cases hi <;> rfl
  rw [e, List.drop_take]
section
variable {C : Cf} {γ : Gh}
theorem RWs.drop : ∀ {ws : List W} {vs : List V} (n : Nat), RWs C γ ws vs → RWs C γ (ws.drop n) (vs.drop n)
  | ws, vs, 0, r => r
  | [], _, n + 1, r => by cases r; exact rfl
  | w :: ws, _, n + 1, ⟨v, q, e, a, b⟩ => by subst e; exact RWs.drop n b
theorem RWs.take : ∀ {ws : List W} {vs : List V} (n : Nat), RWs C γ ws vs → RWs C γ (ws.take n) (vs.take n)
  | ws, vs, 0, r => by simp [RWs]
  | [], _, n + 1, r => by cases r; exact rfl
  | w :: ws, _, n + 1, ⟨v, q, e, a, b⟩ => by subst e; exact ⟨v, _, rfl, a, RWs.take n b⟩
theorem RWs.cutV {ws : List W} {vs : List V} (lo hi : Option Int) (r : RWs C γ ws vs) : RWs C γ (slice ws lo hi) (L2.cutV vs lo hi) := by
  rw [slice_cut, r.length]
  exact RWs.take _ (RWs.drop _ r)
end
def PoO (C : Cf) (γ : Gh) (H : Hp) (r : R (Option Int)) (Q : Option Int → Hp → Prop) (E : XK) : Prop :=
  match r with
  | .ok o h => ∀ γ' H', Ext γ γ' H → Keep γ H H' → HC C γ' h H' → Q o H'
  | .exn c a h => ∀ γ' H' cls d, Ext γ γ' H → Keep γ H H' → HC C γ' h H' → RX C γ' H' c a cls d → E cls d H'
  | .no => False
def teo (C : Cf) (cl : CL) (Wx : WX) (x : Exo) : TO := fun σ H Q => ∃ γ σw h, SL C γ σw σ ∧ HC C γ h H ∧ PoO C γ H (x cl σw h) Q (fun cls d H' => Wx cls d σ H')
def rSl3 (C : Cf) (m : Bool) : V → Option Int → Option Int → Hp → VK → Prop := fun x lo hi H Q => ∃ E γ h w, HC C γ h H ∧ RW C γ w x ∧ PoE C γ H ((R.of h (sliceW (look h w) lo hi)).bind fun w h4 => match w with
  | .lst xs => made m h4 (.lst xs)
  | w => .ok w h4) Q E
section
variable {X : Cx} {C : Cf} {a b c : Expr} {lo hi : Option Expr} {cl : CL} {Wx : WX} {xa xb xc : Ex} {xl xh : Exo} {pos p2 : Pos} {m : Bool}
theorem PO.imp {e : Option Expr} {t t' : TO} (h : PO X e t) (i : ∀ σ H Q, t' σ H Q → t σ H Q) : PO X e t' := ⟨fun pins s σ H Q I hw => h.run pins s σ H Q I (i σ H Q hw)⟩
theorem pov_none : PO X none (teo C cl Wx oNone) := PO.imp po_none fun σ H Q ⟨γ, σw, h, sl, hc, p⟩ => p γ H (Ext.refl _ _) (Keep.refl _ _) hc
theorem pov_some (ha : PE X a (tev C cl Wx xa)) : PO X (some a) (teo C cl Wx (oSome xa)) := PO.imp (po_some ha) fun σ H Q ⟨γ, σw, h, sl, hc, p⟩ => by
  refine ⟨γ, σw, h, sl, hc, ?_⟩
  unfold oSome at p
  cases ea : xa cl σw h with
  | ok w h1 =>
    rw [ea] at p
    intro γ1 v H1 e1 k1 c1 r1
    cases w with
    | int i => cases r1; exact ⟨i, rfl, p γ1 H1 e1 k1 c1⟩
    | _ => exact p.elim
  | exn cc aa h1 => rw [ea] at p; exact p
  | no => rw [ea] at p; exact p
theorem sl_all (hK : C.K = X.K) : SlR X (rSl3 C m) := by
  intro pins s σ H x v vl vu lo hi sl Q I rx hs pl pu ⟨E, γ, h, w, hc, r, p⟩
  cases hl : look h w with
  | str z =>
    have := look_flat hl trivial
    subst this
    cases r
    rw [show look h (.str z) = .str z from rfl] at p
    simp only [sliceW] at p
    split at p
    · rename_i hz
      refine sl_str pins s σ H _ v vl vu lo hi sl Q I rx hs pl pu ⟨mkS z, rfl, ?_, ?_⟩
      · show z.toArray.size ≤ sizeLine
        rw [List.size_toArray]; exact Nat.le_of_lt (most_line hz)
      · have e : cutS (mkS z) lo hi = mkS (slice z lo hi) := by
          rw [slice_cut]
          show (⟨_⟩ : Str) = ⟨_⟩
          have : (mkS z).length = z.length := by show z.toArray.size = _; rw [List.size_toArray]
          rw [this]
        rw [e]
        exact PoE.here p hc rfl
    · exact p.elim
  | lst xs =>
    rw [hl] at p
    obtain ⟨a, vs, rfl, q1, q2⟩ := look_lst hc r hl
    exact sl_list pins s σ H _ v vl vu lo hi sl Q I rx hs pl pu ⟨a, vs, rfl, .inl q1, fun p' n => PoE.lstMade p hc (q2.cutV lo hi) n⟩
  | scr xs =>
    rw [hl] at p
    obtain ⟨_, a, vs, rfl, q1, q2⟩ := look_scr hc r hl
    exact sl_list pins s σ H _ v vl vu lo hi sl Q I rx hs pl pu ⟨a, vs, rfl, by rw [← hK]; exact q1, fun p' n => PoE.lstMade p hc (q2.cutV lo hi) n⟩
  | tup xs =>
    rw [hl] at p
    obtain ⟨a, vs, rfl, q1, q2⟩ := look_tup hc r hl
    refine sl_tupA pins s σ H _ v vl vu lo hi sl Q I rx hs pl pu ⟨a, vs, rfl, .inl q1, fun ⟨z1, z2⟩ => ?_, fun _ p' n => PoE.tupNew p hc (q2.cutV lo hi) n⟩
    have e : slice xs lo hi = xs := by
      rw [slice_cut, q2.length, z1, z2]
      simp [← q2.length]
    have p' : PoE C γ H (.ok (.tup (slice xs lo hi)) h) Q E := p
    rw [e] at p'
    have := look_tupE hl
    subst this
    exact PoE.here p' hc r
  | _ => rw [hl] at p; exact p.elim
theorem pv_slc (hK : C.K = X.K) (ha : PE X a (tev C cl Wx xa)) (hl : PO X lo (teo C cl Wx xl)) (hu : PO X hi (teo C cl Wx xh)) : PE X (.Subscript a (.Slice lo hi none p2) pos) (tev C cl Wx (xSlc m xa xl xh)) :=
  PE.imp (pe_slice (sl_all (m := m) hK) ha hl hu) fun σ H Q t => by
    obtain ⟨γ, σw, h, sl, hc, p⟩ := t
    refine ⟨γ, σw, h, sl, hc, ?_⟩
    unfold xSlc at p
    cases ea : xa cl σw h with
    | exn cc aa h1 => rw [ea] at p; exact p
    | no => rw [ea] at p; exact p
    | ok w h1 =>
      rw [ea] at p
      intro γ1 v H1 e1 k1 c1 r1
      have p1 := PoE.step p e1 k1
      refine ⟨γ1, σw, h1, sl.ext e1, c1, ?_⟩
      dsimp only [R.bind] at p1
      cases el : xl cl σw h1 with
      | exn cc aa h1 => rw [el] at p1; exact p1
      | no => rw [el] at p1; exact p1
      | ok l h2 =>
        rw [el] at p1
        intro γ2 H2 e2 k2 c2
        have p2 := PoE.step p1 e2 k2
        refine ⟨γ2, σw, h2, (sl.ext e1).ext e2, c2, ?_⟩
        dsimp only [R.bind] at p2
        cases eu : xh cl σw h2 with
        | exn cc aa h1 => rw [eu] at p2; exact p2
        | no => rw [eu] at p2; exact p2
        | ok u h3 =>
          rw [eu] at p2
          intro γ3 H3 e3 k3 c3
          exact ⟨_, γ3, h3, w, c3, (e3.rw (e2.rw r1)), PoE.step p2 e3 k3⟩
theorem chain_sem (hu : X.A.units + 65 < cLine) {o o' : COp} {σ : L2.St} {H : Hp} {Q : VK} (t : tev C cl Wx (xChain o o' xa xb xc) σ H Q) :
    tChain (fun x y H Q => ∃ E, rf2 C (cmpW o) E x y H Q) (fun x y H Q => ∃ E, rf2 C (cmpW o') E x y H Q) (tev C cl Wx xa) (tev C cl Wx xb) (tev C cl Wx xc) σ H Q := by
  obtain ⟨γ, σw, h, sl, hc, p⟩ := t
  refine ⟨γ, σw, h, sl, hc, ?_⟩
  unfold xChain at p
  cases ea : xa cl σw h with
  | exn cc aa h1 => rw [ea] at p; exact p
  | no => rw [ea] at p; exact p
  | ok w h1 =>
    rw [ea] at p
    intro γ1 v H1 e1 k1 c1 r1
    have p1 := PoE.step p e1 k1
    refine ⟨γ1, σw, h1, sl.ext e1, c1, ?_⟩
    dsimp only [R.bind] at p1
    cases eb : xb cl σw h1 with
    | exn cc aa h1 => rw [eb] at p1; exact p1
    | no => rw [eb] at p1; exact p1
    | ok u h2 =>
      rw [eb] at p1
      intro γ2 v2 H2 e2 k2 c2 r2
      have p2 := PoE.step p1 e2 k2
      dsimp only [R.bind] at p2
      refine ⟨fun _ _ _ => True, γ2, h2, w, u, c2, e2.rw r1, r2, ?_⟩
      cases ec : cmpW o w u h2 with
      | exn cc aa h1 => exact fun _ _ _ _ _ _ _ _ => trivial
      | no => rw [ec] at p2; exact p2
      | ok z h3 =>
        rw [ec] at p2
        intro γ3 v3 H3 e3 k3 c3 r3
        have p3 := PoE.step p2 e3 k3
        dsimp only [R.bind] at p3
        cases z with
        | bl k =>
          cases r3
          refine ⟨k, rfl, ?_⟩
          cases k with
          | false => rw [if_neg (by decide)]; exact PoE.here p3 c3 rfl
          | true =>
            rw [if_pos rfl]
            refine ⟨γ3, σw, h3, ((sl.ext e1).ext e2).ext e3, c3, ?_⟩
            dsimp only at p3
            cases ed : xc cl σw h3 with
            | exn cc aa h1 => rw [ed] at p3; exact p3
            | no => rw [ed] at p3; exact p3
            | ok y h4 =>
              rw [ed] at p3
              intro γ4 v4 H4 e4 k4 c4 r4
              exact ⟨_, γ4, h4, u, y, c4, e4.rw (e3.rw r2), r4, PoE.step p3 e4 k4⟩
        | _ => exact p3.elim
theorem pv_chain (hu : X.A.units + 65 < cLine) (hK : C.K = X.K) (hW : C.w = X.w) {op op' : CmpOp} {o o' : COp} (ho : op = copOf o) (ho' : op' = copOf o') (ha : PE X a (tev C cl Wx xa)) (hb : PE X b (tev C cl Wx xb)) (hc : PE X c (tev C cl Wx xc)) (hm : lastMarks [op, op'] [b, c] = false) :
    PE X (.Compare a [op, op'] [b, c] pos) (tev C cl Wx (xChain o o' xa xb xc)) := by
  subst ho; subst ho'
  exact PE.imp (pe_chain (of_cmp hu hK hW o) (of_cmp hu hK hW o') ha hb hc hm) fun σ H Q t => chain_sem hu t
theorem ptv_chain (hu : X.A.units + 65 < cLine) (hK : C.K = X.K) (hW : C.w = X.w) {op op' : CmpOp} {o o' : COp} (ho : op = copOf o) (ho' : op' = copOf o') (ha : PE X a (tev C cl Wx xa)) (hb : PE X b (tev C cl Wx xb)) (hc : PE X c (tev C cl Wx xc)) (hm : lastMarks [op, op'] [b, c] = false) :
    PT X (.Compare a [op, op'] [b, c] pos) (ttv C cl Wx (xChain o o' xa xb xc)) := by
  subst ho; subst ho'
  exact PT.imp (pt_chain (of_cmp hu hK hW o) (of_cmp hu hK hW o') ha hb hc hm) fun σ H Q t => chain_sem hu (ttv_tev t)
theorem lookup_rw {γ : Gh} {nm : Nat} {w : W} (inj : ∀ i j, C.nm i = C.nm j → i = j) : ∀ {ns : List Nat} {ws : List W} {vs : List V}, RWs C γ ws vs → (ns.zip ws).lookup nm = some w → ∃ v, ((ns.map C.nm).zip vs).lookup (C.nm nm) = some v ∧ RW C γ w v
  | [], _, _, _, e => by simp at e
  | _ :: _, [], _, _, e => by simp at e
  | n :: ns, u :: us, _, ⟨v, r, e1, a, b⟩, e => by
    subst e1
    by_cases z : nm = n
    · subst z
      simp at e
      subst e
      exact ⟨v, by simp, a⟩
    · have z' : C.nm nm ≠ C.nm n := fun q => z (inj _ _ q)
      have e' : (ns.zip us).lookup nm = some w := by
        have : (nm == n) = false := by simpa using z
        simpa [List.lookup, this] using e
      obtain ⟨v', q1, q2⟩ := lookup_rw inj b e'
      refine ⟨v', ?_, q2⟩
      have : (C.nm nm == C.nm n) = false := by simpa using z'
      simpa [List.lookup, this] using q1
theorem look_obj {γ : Gh} {h : Hw} {H : Hp} {w : W} {x : V} {k : Nat} {ns : List Nat} {ws : List W} (c : HC C γ h H) (r : RW C γ w x) (e : look h w = .obj k ns ws) : ∃ a dx vs, x = .ref a ∧ H a = some (.ins (C.ca k) dx ((ns.map C.nm).zip vs)) ∧ ns.length = vs.length ∧ RWs C γ ws vs := by
  cases w with
  | obj k' ns' us =>
    cases e
    obtain ⟨a, dx, vs, rfl, f1, f2, l, r'⟩ := r
    exact ⟨a, dx, vs, rfl, c.frz _ _ f1, l, r'⟩
  | ref n =>
    obtain ⟨a, rfl, i⟩ := r
    simp only [look] at e
    cases hn : h[n]? with
    | none => rw [hn] at e; cases e
    | some cc =>
      rw [hn] at e
      cases cc with
      | obj k' ns' us =>
        cases e
        obtain ⟨_, dx, vs, _, hh, _, l, r'⟩ := c.cell n a _ i hn
        exact ⟨a, dx, vs, rfl, hh, l, r'⟩
      | _ => cases e
  | _ => simp [look] at e
theorem pv_attr {cs : List Nat} {nm : Nat} {f : Str} {e : Expr} {xe : Ex} (hK : C.K = X.K) (inj : ∀ i j, C.nm i = C.nm j → i = j) (hf : C.nm nm = f) (hcs : ∀ k ∈ cs, Cls X.K (C.ca k) ∧ NoAttr X.K (C.ca k) f) (he : PE X e (tev C cl Wx xe)) (hb : attributeBase e f X.env (eval e X.env) = eval e X.env) :
    PE X (.Attribute e f pos) (tev C cl Wx (xAttr cs nm xe)) := by
  subst hf
  refine PE.imp (pe_fld he hb) fun σ H Q t => (tev1' t).imp fun x H1 ⟨γ, h, w, hc, r, p⟩ => ?_
  dsimp only at p
  cases hl : look h w with
  | obj k ns ws =>
    rw [hl] at p
    dsimp only at p
    cases ha : cs.any (Nat.beq k) with
    | false => rw [ha] at p; exact p.elim
    | true =>
      rw [ha] at p
      dsimp only at p
      obtain ⟨w', e1, p'⟩ := PoE.ofSome p
      obtain ⟨a, dx, vs, rfl, hh, l, r'⟩ := look_obj hc r hl
      obtain ⟨v, q1, q2⟩ := lookup_rw inj r' e1
      have mem : k ∈ cs := by
        obtain ⟨y, y1, y2⟩ := List.any_eq_true.mp ha
        rw [Nat.eq_of_beq_eq_true y2]; exact y1
      exact ⟨a, C.ca k, dx, _, v, rfl, hh, (hcs k mem).1, (hcs k mem).2, q1, PoE.here p' hc q2⟩
  | _ => rw [hl] at p; exact p.elim
end
end Ov
namespace Ov
open PySem PySem.Spec PyProof.Rows L2
section
variable {X : Cx} {C : Cf} {cl : CL} {Wx : WX} {st : Stmt} {rest body : List Stmt} {a b : Sx} {e c : Expr} {xe xc : Ex} {xs : Exs} {pos : Pos} {t : Tx} {vs : List Nat}
theorem st_cases {α : Type} {r : R α} {f : α → Hw → RS} {γ : Gh} {σw : Sw} {σ : L2.St} {H : Hp} {D : Ends} (sl : SL C γ σw σ) (p : PoS C γ H (r.st σw f) D Wx) :
    (∃ a h1, r = .ok a h1 ∧ PoS C γ H (f a h1) D Wx) ∨ (∃ c a h1, r = .exn c a h1 ∧ ∀ γ' H' cls d, Ext γ γ' H → Keep γ H H' → HC C γ' h1 H' → RX C γ' H' c a cls d → Wx cls d σ H') := by
  cases r with
  | ok a h1 => exact .inl ⟨a, h1, rfl, p⟩
  | exn c a h1 => exact .inr ⟨c, a, h1, rfl, fun γ' H' cls d e k cc x => p γ' σ H' cls d e k cc (sl.ext e) x⟩
  | no => exact p.elim
theorem pss_nilv : PSs X [] (tst C cl Wx sPass) := PSs.imp pss_nil fun D σ H ⟨γ, σw, h, sl, hc, p⟩ => p γ σ H (Ext.refl _ _) (Keep.refl _ _) hc sl
theorem psv_pass : PS X (.Pass pos) (tst C cl Wx sPass) := PS.imp ps_pass fun D σ H ⟨γ, σw, h, sl, hc, p⟩ => p γ σ H (Ext.refl _ _) (Keep.refl _ _) hc sl
theorem psv_doc {x j pos pos'} : PS X (.Expr (.Constant (.str x) j pos) pos') (tst C cl Wx sPass) := PS.imp ps_doc fun D σ H ⟨γ, σw, h, sl, hc, p⟩ => p γ σ H (Ext.refl _ _) (Keep.refl _ _) hc sl
theorem psv_brk : PS X (.Break pos) (tst C cl Wx sBrk) := PS.imp ps_break fun D σ H ⟨γ, σw, h, sl, hc, p⟩ => p γ σ H (Ext.refl _ _) (Keep.refl _ _) hc sl
theorem pss_consv (h1 : PS X st (tst C cl Wx a)) (h2 : PSs X rest (tst C cl Wx b)) : PSs X (st :: rest) (tst C cl Wx (sSeq a b)) :=
  PSs.imp (pss_cons h1 h2) fun D σ H ⟨γ, σw, h, sl, hc, p⟩ => by
    refine ⟨γ, σw, h, sl, hc, ?_⟩
    unfold sSeq at p
    cases ea : a cl σw h with
    | no => rw [ea] at p; exact p
    | exn cc aa σ1 h1 => rw [ea] at p; exact p
    | ok fl h1 =>
      rw [ea] at p
      cases fl with
      | nx σ1 => exact fun γ' σ' H' e k c s => ⟨γ', σ1, h1, s, c, PoS.step p e k⟩
      | brk σ1 => exact p
      | ret w => exact p
theorem pss_onev (h1 : PS X st (tst C cl Wx a)) : PSs X [st] (tst C cl Wx a) := pss_one h1
theorem psv_ret (he : PE X e (tev C cl Wx xe)) : PS X (.Return (some e) pos) (tst C cl Wx (sRet xe)) := PS.imp (ps_ret he) fun D σ H ⟨γ, σw, h, sl, hc, p⟩ => by
  refine ⟨γ, σw, h, sl, hc, ?_⟩
  rcases st_cases sl p with ⟨w, h1, ea, q⟩ | ⟨cc, aa, h1, ea, q⟩ <;> rw [ea] <;> exact q
theorem psv_retN : PS X (.Return none pos) (tst C cl Wx sRetn) := PS.imp ps_retN fun D σ H ⟨γ, σw, h, sl, hc, p⟩ => p γ .non H (Ext.refl _ _) (Keep.refl _ _) hc rfl
theorem psv_expr (he : PE X e (tev C cl Wx xe)) (hs : swapsWith e none pos.line X.env = pure false) : PS X (.Expr e pos) (tst C cl Wx (sEx xe)) := PS.imp (ps_expr he hs) fun D σ H ⟨γ, σw, h, sl, hc, p⟩ => by
  refine ⟨γ, σw, h, sl, hc, ?_⟩
  rcases st_cases sl p with ⟨w, h1, ea, q⟩ | ⟨cc, aa, h1, ea, q⟩
  · rw [ea]; exact fun γ' v H' e k c r => q γ' σ H' e k c (sl.ext e)
  · rw [ea]; exact q
theorem psv_if {p q : List Stmt} (hc : PT X c (ttv C cl Wx xc)) (ha : PSs X p (tst C cl Wx a)) (hb : PSs X q (tst C cl Wx b)) : PS X (.If c p q pos) (tst C cl Wx (sIf xc a b)) := PS.imp (ps_if hc ha hb) fun D σ H ⟨γ, σw, h, sl, hcc, p⟩ => by
  refine ⟨γ, σw, h, sl, hcc, ?_⟩
  unfold sIf at p
  rcases st_cases sl p with ⟨w, h1, ea, q⟩ | ⟨cc, aa, h1, ea, q⟩
  · rw [ea]
    cases w with
    | bl b =>
      intro γ1 H1 e1 k1 c1
      cases b with
      | true => rw [if_pos rfl]; exact ⟨γ1, σw, h1, sl.ext e1, c1, PoS.step q e1 k1⟩
      | false => rw [if_neg (by decide)]; exact ⟨γ1, σw, h1, sl.ext e1, c1, PoS.step q e1 k1⟩
    | _ => exact q.elim
  · rw [ea]; exact q
theorem asg_sem {D : Ends} {σ : L2.St} {H : Hp} (tt : tst C cl Wx (sAsg t xe) D σ H) : tAsg (tev C cl Wx xe) (ttg' C cl vs t) D σ H := by
  obtain ⟨γ, σw, h, sl, hc, p⟩ := tt
  refine ⟨γ, σw, h, sl, hc, ?_⟩
  unfold sAsg at p
  rcases st_cases sl p with ⟨w, h1, ea, q⟩ | ⟨cc, aa, h1, ea, q⟩
  · rw [ea]
    intro γ1 v H1 e1 k1 c1 r1
    have q1 := PoS.step q e1 k1
    refine ⟨γ1, σw, h1, w, sl.ext e1, c1, r1, ?_⟩
    cases et : t cl w σw h1 with
    | no => rw [et] at q1; exact q1.elim
    | exn c a h2 => rw [et] at q1; exact q1.elim
    | ok σ1 h2 => rw [et] at q1; exact fun γ2 σ2 H2 e2 k2 c2 s2 _ => q1 γ2 σ2 H2 e2 k2 c2 s2
  · rw [ea]; exact q
theorem psv_asg {tg : Expr} (he : PE X e (tev C cl Wx xe)) (hg : PG X tg (ttg' C cl vs t)) (hs : swapsWithSole [tg] e pos.line X.env = pure false) (hw : swappedStores [tg] e X.env = pure none) (h1 : (assignEach [tg] X.env).map (·.2) = [assign tg X.env]) :
    PS X (.Assign [tg] e pos) (tst C cl Wx (sAsg t xe)) := PS.imp (ps_asg he hg hs hw h1) fun D σ H q => asg_sem q
theorem name_sem {i : Nat} {te : TE} {D : Ends} {σ : L2.St} {H : Hp} (q : tAsg te (ttg' C cl [i] (tName i)) D σ H) (hi : ∀ v H1, ttg' C cl [i] (tName i) v σ H1 D.nx → gName i v σ H1 D.nx) (mono : ∀ Q Q' : VK, (∀ v H, Q v H → Q' v H) → te σ H Q → te σ H Q') : tAsg te (gName i) D σ H := mono _ _ hi q
theorem gname_of {i : Nat} {v : V} {σ : L2.St} {H : Hp} {Q : L2.St → Hp → Prop} (q : ttg' C cl [i] (tName i) v σ H Q) : gName i v σ H Q := by
  obtain ⟨γ, σw, h, w, sl, hc, r, p⟩ := q
  unfold tName at p
  split at p
  · exact p γ _ H (Ext.refl _ _) (Keep.refl _ _) hc (sl.set r) (wipe_set List.mem_cons_self)
  · exact p.elim
theorem psv_set {i : Nat} {x : Str} {pos' : Pos} (hN : X.N.Nodup) (hi : X.N[i]? = some x) (hx : Loc X.env.scope x) (he : PE X e (tev C cl Wx xe)) (hs : swapsWith e (some (.Name x pos')) pos.line X.env = pure false) (hf : X.fn x = true ∨ X.env.scope.names.lookup x = some .local) :
    PS X (.Assign [.Name x pos'] e pos) (tst C cl Wx (sAsg (tName i) xe)) := PS.imp (ps_set hN hi hx he hs hf) fun D σ H q => by
  have z : tAsg (tev C cl Wx xe) (ttg' C cl [i] (tName i)) D σ H := asg_sem q
  exact tev.imp z fun v H' y => gname_of y
theorem psv_setLc {i : Nat} {y : Str} {py : Pos} {elt tg iter : Expr} {ifs : List Expr} {scope : Scope} {own : List (Str × Nat)} {pos spos : Pos} {k : IK} {its : Exs} {xi : Exb} {m : Bool} (hc : X.calm = true) (hN : X.N.Nodup) (hy : X.N[i]? = some y) (hyl : X.env.scope.names.lookup y = some .local)
    (hsw : swapsWith (.ListComp elt [⟨tg, iter, ifs, 0⟩] scope pos) (some (.Name y py)) spos.line X.env = pure true) (hi : PI X tg iter (tit C cl Wx k its)) (ok : BlkOk X.N X.env.scope scope own)
    (hg : ∀ (s : Shared) (H : Hp) (C' : Addr) (cls : List (Str × Addr)) (fp : List Addr), PG (X.blk s H scope (compEnvC scope cls C' X.env) fp) tg (ttg' C cl (own.map (·.2)) t)) (ht : ∀ (s : Shared) (H : Hp) (C' : Addr) (cls : List (Str × Addr)) (fp : List Addr), PTs (X.blk s H scope (compEnvC scope cls C' X.env) fp) ifs (tfs C cl WF xi))
    (he : ∀ (s : Shared) (H : Hp) (C' : Addr) (cls : List (Str × Addr)) (fp : List Addr), PE (X.blk s H scope (compEnvC scope cls C' X.env) fp) elt (tev C cl WF xe)) (hs : ∀ x, foldedSetIterable iter X.env x = pure x) :
    PS X (.Assign [.Name y py] (.ListComp elt [⟨tg, iter, ifs, 0⟩] scope pos) spos) (tst C cl Wx (sAsg (tName i) (xComp m (own.map (·.2)) t k its xi xe))) :=
  PS.imp (ps_setLc hc hN hy hyl hsw hi ok hg ht he hs) fun D σ H q => by
    have z : tAsg (tev C cl Wx (xComp m (own.map (·.2)) t k its xi xe)) (ttg' C cl [i] (tName i)) D σ H := asg_sem q
    exact lc_sem (tev.imp z fun v H' y => gname_of y)
theorem pv_lc {elt tg iter : Expr} {ifs : List Expr} {scope : Scope} {own : List (Str × Nat)} {pos : Pos} {k : IK} {its : Exs} {xi : Exb} {m : Bool} (hc : X.calm = true) (hN : X.N.Nodup) (hi : PI X tg iter (tit C cl Wx k its)) (ok : BlkOk X.N X.env.scope scope own)
    (hg : ∀ (s : Shared) (H : Hp) (C' : Addr) (cls : List (Str × Addr)) (fp : List Addr), PG (X.blk s H scope (compEnvC scope cls C' X.env) fp) tg (ttg' C cl (own.map (·.2)) t)) (ht : ∀ (s : Shared) (H : Hp) (C' : Addr) (cls : List (Str × Addr)) (fp : List Addr), PTs (X.blk s H scope (compEnvC scope cls C' X.env) fp) ifs (tfs C cl WF xi))
    (he : ∀ (s : Shared) (H : Hp) (C' : Addr) (cls : List (Str × Addr)) (fp : List Addr), PE (X.blk s H scope (compEnvC scope cls C' X.env) fp) elt (tev C cl WF xe)) (hs : ∀ x, foldedSetIterable iter X.env x = pure x) :
    PE X (.ListComp elt [⟨tg, iter, ifs, 0⟩] scope pos) (tev C cl Wx (xComp m (own.map (·.2)) t k its xi xe)) :=
  PE.imp (pe_lc hc hN hi ok hg ht he hs) fun σ H Q q => lc_sem q
theorem psv_par {i j : Nat} {x y : Str} {a b : Expr} {px py pt : Pos} {kt k2 pt2} (hc : X.calm = true) (hN : X.N.Nodup) (hi : X.N[i]? = some x) (hj : X.N[j]? = some y) (hij : i ≠ j)
    (hx : X.env.scope.names.lookup x = some .local) (hy : X.env.scope.names.lookup y = some .local) (ha : PA X [a, b] (tes C cl Wx xs))
    (hw : swappedStores [.Tuple [.Name x px, .Name y py] kt pt] (.Tuple [a, b] k2 pt2) X.env = pure (some [x, y]))
    (hs : swapsWithSole [.Tuple [.Name x px, .Name y py] kt pt] (.Tuple [a, b] k2 pt2) pos.line X.env = pure false) :
    PS X (.Assign [.Tuple [.Name x px, .Name y py] kt pt] (.Tuple [a, b] k2 pt2) pos) (tst C cl Wx (sPar i j xs)) := PS.imp (ps_par hc hN hi hj hij hx hy ha hw hs) fun D σ H ⟨γ, σw, h, sl, hcc, p⟩ => by
  refine ⟨γ, σw, h, sl, hcc, ?_⟩
  unfold sPar at p
  rcases st_cases sl p with ⟨ws, h1, ea, q⟩ | ⟨cc, aa, h1, ea, q⟩
  · rw [ea]
    intro γ1 us H1 e1 k1 c1 r1
    match ws, q with
    | [w1, w2], q =>
      obtain ⟨v1, v2, rfl, g1, g2⟩ := two_rw r1
      exact ⟨v1, v2, rfl, q γ1 _ H1 e1 k1 c1 (((sl.ext e1).set g1).set g2)⟩
    | [], q => exact q.elim
    | [_], q => exact q.elim
    | _ :: _ :: _ :: _, q => exact q.elim
  · rw [ea]; exact q
theorem three_rw {γ : Gh} {w u z : W} {vs : List V} (r : RWs C γ [w, u, z] vs) : ∃ v v2 v3, vs = [v, v2, v3] ∧ RW C γ w v ∧ RW C γ u v2 ∧ RW C γ z v3 := by
  obtain ⟨v, r1, rfl, a1, v2, r2, rfl, a2, v3, r3, rfl, a3, rfl⟩ := r
  exact ⟨v, v2, v3, rfl, a1, a2, a3⟩
theorem psv_par3 {i j l : Nat} {x y z : Str} {a b c : Expr} {px py pz pt pos : Pos} {kt k2 pt2} (hc : X.calm = true) (hN : X.N.Nodup) (hi : X.N[i]? = some x) (hj : X.N[j]? = some y) (hl : X.N[l]? = some z) (hij : i ≠ j) (hil : i ≠ l) (hjl : j ≠ l)
    (hx : X.env.scope.names.lookup x = some .local) (hy : X.env.scope.names.lookup y = some .local) (hz : X.env.scope.names.lookup z = some .local) (ha : PA X [a, b, c] (tes C cl Wx xs))
    (hw : swappedStores [.Tuple [.Name x px, .Name y py, .Name z pz] kt pt] (.Tuple [a, b, c] k2 pt2) X.env = pure (some [x, y, z]))
    (hs : swapsWithSole [.Tuple [.Name x px, .Name y py, .Name z pz] kt pt] (.Tuple [a, b, c] k2 pt2) pos.line X.env = pure false) :
    PS X (.Assign [.Tuple [.Name x px, .Name y py, .Name z pz] kt pt] (.Tuple [a, b, c] k2 pt2) pos) (tst C cl Wx (sPar3 i j l xs)) := PS.imp (ps_par3 hc hN hi hj hl hij hil hjl hx hy hz ha hw hs) fun D σ H ⟨γ, σw, h, sl, hcc, p⟩ => by
  refine ⟨γ, σw, h, sl, hcc, ?_⟩
  unfold sPar3 at p
  rcases st_cases sl p with ⟨ws, h1, ea, q⟩ | ⟨cc, aa, h1, ea, q⟩
  · rw [ea]
    intro γ1 us H1 e1 k1 c1 r1
    match ws, q with
    | [w1, w2, w3], q =>
      obtain ⟨v1, v2, v3, rfl, g1, g2, g3⟩ := three_rw r1
      exact ⟨v1, v2, v3, rfl, q γ1 _ H1 e1 k1 c1 ((((sl.ext e1).set g1).set g2).set g3)⟩
    | [], q => exact q.elim
    | [_], q => exact q.elim
    | [_, _], q => exact q.elim
    | _ :: _ :: _ :: _ :: _, q => exact q.elim
  · rw [ea]; exact q
theorem psv_while (hp : PassesOwn (model X.prog X.w) X.A X.env X.xe) (hc : PT X c (ttv C cl Wx xc)) (hb : PSs X body (tst C cl Wx b)) : PS X (.While c body [] pos) (tst C cl Wx (sWh xc b)) := PS.imp (ps_while hp hc hb) fun D σ H ⟨γ, σw, h, sl, hcc, p⟩ => by
  refine ⟨fun m σ H => ∃ γ σw h, SL C γ σw σ ∧ HC C γ h H ∧ PoS C γ H (whGo (xc cl) (b cl) m σw h) D Wx, ⟨wfuel, γ, σw, h, sl, hcc, p⟩, ?_⟩
  rintro m σ H ⟨γ, σw, h, sl, hcc, p⟩
  cases m with
  | zero => exact p.elim
  | succ m =>
    unfold whGo at p
    refine ⟨γ, σw, h, sl, hcc, ?_⟩
    rcases st_cases sl p with ⟨w, h1, ea, q⟩ | ⟨cc, aa, h1, ea, q⟩
    · rw [ea]
      cases w with
      | bl k =>
        intro γ1 H1 e1 k1 c1
        have q1 := PoS.step q e1 k1
        cases k with
        | false => rw [if_neg (by decide)]; exact q1 γ1 σ H1 (Ext.refl _ _) (Keep.refl _ _) c1 (sl.ext e1)
        | true =>
          rw [if_pos rfl]
          refine ⟨fun σ' H' => ∃ γ σw h, SL C γ σw σ' ∧ HC C γ h H' ∧ PoS C γ H' (whGo (xc cl) (b cl) m σw h) D Wx, fun σ' H' n => ⟨m, Nat.lt_succ_self m, n⟩, γ1, σw, h1, sl.ext e1, c1, ?_⟩
          dsimp only at q1
          cases eb : b cl σw h1 with
          | no => rw [eb] at q1; exact q1
          | exn cc aa σ2 h2 => rw [eb] at q1; exact q1
          | ok fl h2 =>
            rw [eb] at q1
            cases fl with
            | nx σ2 => exact fun γ2 σ3 H2 e2 k2 c2 s2 => ⟨γ2, σ2, h2, s2, c2, PoS.step q1 e2 k2⟩
            | brk σ2 => exact q1
            | ret w => exact q1
      | _ => exact q.elim
    · rw [ea]; exact q
end
end Ov
namespace Ov
open PySem PySem.Spec PyProof.Rows L2
def spC (C : Cf) (cl : CL) (f : Nat) : Sp := fun vs H Q E => ∃ γ h ws, HC C γ h H ∧ RWs C γ ws vs ∧ PoE C γ H (cl f ws h) Q E
section
variable {C : Cf} {γ γ' : Gh} {h : Hw} {H H' : Hp} {Q : VK} {E : XK}
theorem unders_rw {n : Nat} {γ2 : Gh} (hi : ∀ (m : Nat) (a : Addr), m < n → γ.ι[m]? = some a → γ2.ι[m]? = some a) (hf : ∀ a o, γ.F a = some o → γ2.F a = some o) {c : Cell} {a : Addr} (u : Cell.under n c = true) (q : CellIs C γ H a c) (hF : γ2.F = γ.F) (hL : γ2.L = γ.L) : CellIs C γ2 H a c := by
  cases c with
  | lst us => obtain ⟨f, ys, hh, r⟩ := q; exact ⟨⟨by rw [hF]; exact f.1, by rw [hL]; exact f.2⟩, ys, hh, RWs.cut hi hf _ _ u r⟩
  | dct ks us =>
    obtain ⟨f, o, xs, ys, hh, d, r1, r2⟩ := q
    simp only [Cell.under, Bool.and_eq_true] at u
    exact ⟨⟨by rw [hF]; exact f.1, by rw [hL]; exact f.2⟩, o, xs, ys, hh, d, RWs.cut hi hf _ _ u.1 r1, RWs.cut hi hf _ _ u.2 r2⟩
  | lck ks us =>
    obtain ⟨f, o, xs, ys, lo, hh, d, r1, r2⟩ := q
    simp only [Cell.under, Bool.and_eq_true] at u
    exact ⟨by rw [hF]; exact f, o, xs, ys, by rw [hL]; exact lo, hh, d, RWs.cut hi hf _ _ u.1 r1, RWs.cut hi hf _ _ u.2 r2⟩
  | obj k ns us => obtain ⟨f, dx, ys, fd, hh, hd, l, r⟩ := q; exact ⟨⟨by rw [hF]; exact f.1, by rw [hL]; exact f.2⟩, dx, ys, by rw [hF]; exact fd, hh, hd, l, RWs.cut hi hf _ _ u r⟩
  | dead => trivial
theorem HC.trim (c : HC C γ h H) {h1 : Hw} {H1 : Hp} (e : Ext γ γ' H) (c1 : HC C γ' h1 H1) {w : W} (u : (W.under h.length w && (h1.take h.length).all (Cell.under h.length)) = true) :
    HC C { γ' with ι := γ.ι } (h1.take h.length) H1 ∧ ∀ v, RW C γ' w v → RW C { γ' with ι := γ.ι } w v := by
  rw [Bool.and_eq_true] at u
  obtain ⟨l, q, ln⟩ := e.pre
  have ll : h.length ≤ h1.length := by rw [c1.len, q, List.length_append, c.len]; omega
  have ix : ∀ (m : Nat) (a : Addr), m < h.length → γ'.ι[m]? = some a → γ.ι[m]? = some a := fun m a hm i => by
    rw [q, List.getElem?_append_left (by rw [← c.len]; exact hm)] at i
    exact i
  refine ⟨⟨by rw [List.length_take, Nat.min_eq_left ll, c.len], c.nd, fun m a cc i hm => ?_, fun a i => c1.there a (by rw [q]; exact List.mem_append_left _ i), c1.frz, fun a pa => ?_, c1.own, c1.lkd, c1.prl⟩, fun v r => RW.cut (γ' := { γ' with ι := γ.ι }) ix (fun _ _ z => z) w v u.1 r⟩
  · have hml : m < h.length := by rw [c.len]; exact (List.getElem?_eq_some_iff.mp i).1
    have hm' : h1[m]? = some cc := by rw [List.getElem?_take_of_lt hml] at hm; exact hm
    refine unders_rw (γ := γ') (γ2 := { γ' with ι := γ.ι }) ix (fun _ _ z => z) ?_ (c1.cell m a cc ?_ hm') rfl rfl
    · exact List.all_eq_true.mp u.2 cc (List.mem_of_getElem? hm)
    · rw [q, List.getElem?_append_left (by rw [← c.len]; exact hml)]; exact i
  · obtain ⟨p1, p2, p3, p4⟩ := c1.prot a pa
    exact ⟨p1, p2, fun m => p3 (by rw [q]; exact List.mem_append_left _ m), fun b hb => p4 b (by rw [q]; exact List.mem_append_left _ hb)⟩
theorem PoE.trim {r : R W} (c : HC C γ h H) (p : PoE C γ H (trimR h.length r) Q E) : PoE C γ H r Q E := by
  cases r with
  | no => exact p
  | ok w h1 =>
    intro γ' v H' e k c1 rw'
    unfold trimR Ov.trim at p
    dsimp only at p
    split at p
    · rename_i u
      obtain ⟨c2, r2⟩ := c.trim e c1 u
      exact p { γ' with ι := γ.ι } v H' ⟨⟨[], by simp, fun _ z => nomatch z⟩, e.frz, e.prot, e.lk⟩ k c2 (r2 v rw')
    · exact p γ' v H' e k c1 rw'
  | exn cc a h1 =>
    intro γ' H' cls d e k c1 x
    unfold trimR Ov.trim at p
    dsimp only at p
    split at p
    · rename_i u
      obtain ⟨c2, r2⟩ := c.trim e c1 u
      refine p { γ' with ι := γ.ι } H' cls d ⟨⟨[], by simp, fun _ z => nomatch z⟩, e.frz, e.prot, e.lk⟩ k c2 ⟨x.1, ?_⟩
      cases a with
      | none => trivial
      | some w =>
        obtain ⟨dd, v, e1, e2, e3⟩ := x.2
        exact ⟨dd, v, e1, e2, r2 v e3⟩
    · exact p γ' H' cls d e k c1 x
theorem PoS.back {r : RS} (p : PoE C γ H r.back Q E) : PoS C γ H r { nx := fun _ H' => Q .non H', rt := Q } (fun cls d _ H' => E cls d H') := by
  cases r with
  | no => exact p
  | exn c a σ h => exact fun γ' σ H' cls d e k cc _ x => p γ' H' cls d e k cc x
  | ok fl h =>
    cases fl with
    | nx σ => exact fun γ' σ H' e k c _ => p γ' .non H' e k c rfl
    | brk σ => exact p.elim
    | ret w => exact p
theorem HC.bare (c : HC C γ h H) : HC C { ι := [], F := γ.F, P := fun a => H a ≠ none ∧ γ.F a = none, L := fun _ => none } [] H :=
  ⟨rfl, .nil, fun m a cc i _ => by simp at i, fun a i => (by simp at i), c.frz, fun a p => ⟨p.1, p.2, by simp, fun b i => (by simp at i)⟩, c.own, (fun a l q => nomatch q), fun _ _ => rfl⟩
theorem HC.clothe (c : HC C γ h H) {h1 : Hw} (e : Ext { ι := [], F := γ.F, P := fun a => H a ≠ none ∧ γ.F a = none, L := fun _ => none } γ' H) (k : Keep { ι := [], F := γ.F, P := fun a => H a ≠ none ∧ γ.F a = none, L := fun _ => none } H H') (c1 : HC C γ' h1 H') :
    HC C { ι := γ.ι, F := γ'.F, P := γ.P, L := γ.L } h H' ∧ Ext γ { ι := γ.ι, F := γ'.F, P := γ.P, L := γ.L } H ∧ Keep γ H H' := by
  have st : ∀ a o, H a = some o → H' a = some o := fun a o q => k.same a o q fun m => by simp at m
  have nf : ∀ a, H a ≠ none → γ.F a = none → γ'.F a = none := fun a q f => by
    have pr := c1.prot a
    rw [e.prot] at pr
    exact (pr ⟨q, f⟩).2.1
  have mo : ∀ {ws vs}, RWs C γ ws vs → RWs C { ι := γ.ι, F := γ'.F, P := γ.P, L := γ.L } ws vs := fun r => (⟨fun _ _ z => z, e.frz, fun _ _ z => z⟩ : Mor γ { ι := γ.ι, F := γ'.F, P := γ.P, L := γ.L }).rws r
  refine ⟨⟨c.len, c.nd, fun m a cc i hm => ?_, fun a i => k.there a (c.there a i), c1.frz, fun a p => ?_, c1.own, fun a l q => st _ _ (c.lkd a l q), c.prl⟩, ⟨⟨[], by simp, fun _ z => nomatch z⟩, e.frz, rfl, rfl⟩, ⟨fun a o q _ => st a o q, k.there⟩⟩
  · have q := c.cell m a cc i hm
    cases cc with
    | lst us => obtain ⟨f, ys, hh, r⟩ := q; exact ⟨⟨nf a (by rw [hh]; simp) f.1, f.2⟩, ys, st _ _ hh, mo r⟩
    | dct _ _ => obtain ⟨f, o, xs, ys, hh, d, r1, r2⟩ := q; exact ⟨⟨nf a (by rw [hh]; simp) f.1, f.2⟩, o, xs, ys, st _ _ hh, d, mo r1, mo r2⟩
    | lck _ _ => obtain ⟨f, o, xs, ys, lo, hh, d, r1, r2⟩ := q; exact ⟨nf a (by rw [hh]; simp) f, o, xs, ys, lo, st _ _ hh, d, mo r1, mo r2⟩
    | obj k ns us => obtain ⟨f, dx, ys, fd, hh, hd, l, r⟩ := q; exact ⟨⟨nf a (by rw [hh]; simp) f.1, f.2⟩, dx, ys, nf dx (by rw [hd]; simp) fd, st _ _ hh, st _ _ hd, l, mo r⟩
    | dead => trivial
  · obtain ⟨p1, p2, p3, p4⟩ := c.prot a p
    refine ⟨k.there a p1, nf a p1 p2, p3, fun b hb => ?_⟩
    cases q : H a with
    | none => exact absurd q p1
    | some o => rw [st a o q]; exact fun z => p4 b hb (q.trans z)
theorem PoE.pure {r : R W} (c : HC C γ h H) (p : PoE C γ H (runPure r h) Q E) : PoE C { ι := [], F := γ.F, P := fun a => H a ≠ none ∧ γ.F a = none, L := fun _ => none } H r Q E := by
  cases r with
  | no => exact p
  | ok w h1 =>
    intro γ' v H' e k c1 r
    unfold runPure at p
    dsimp only at p
    split at p
    · rename_i u
      obtain ⟨c2, e2, k2⟩ := c.clothe e k c1
      exact p { ι := γ.ι, F := γ'.F, P := γ.P, L := γ.L } v H' e2 k2 c2 (RW.pure (γ := γ') (γ' := { ι := γ.ι, F := γ'.F, P := γ.P, L := γ.L }) (fun _ _ z => z) w v u r)
    · exact p.elim
  | exn cc a h1 =>
    intro γ' H' cls d e k c1 x
    unfold runPure at p
    dsimp only at p
    split at p
    · rename_i u
      obtain ⟨c2, e2, k2⟩ := c.clothe e k c1
      refine p { ι := γ.ι, F := γ'.F, P := γ.P, L := γ.L } H' cls d e2 k2 c2 ⟨x.1, ?_⟩
      cases a with
      | none => trivial
      | some w =>
        obtain ⟨dd, v, e1, e2, e3⟩ := x.2
        exact ⟨dd, v, e1, e2, RW.pure (γ := γ') (γ' := { ι := γ.ι, F := γ'.F, P := γ.P, L := γ.L }) (fun _ _ z => z) w v u e3⟩
    · exact p.elim
theorem sl_start : ∀ {N : List Str} {ws : List W} {vs : List V}, RWs C γ ws vs → SL C γ (enter N.length ws) (L2.start N vs) := by
  intro N ws vs r
  have l := r.length
  refine ⟨by simp [enter, L2.start, l], fun i w e => ?_⟩
  unfold enter at e
  by_cases hi : i < ws.length
  · rw [List.getElem?_append_left (by simpa using hi), List.getElem?_map] at e
    cases e2 : ws[i]? with
    | none => rw [e2] at e; cases e
    | some u =>
      rw [e2] at e; cases e
      obtain ⟨v, q1, q2⟩ := r.get e2
      refine ⟨v, ?_, q2⟩
      unfold L2.start
      rw [List.getElem?_append_left (by simpa [← l] using hi), List.getElem?_map, q1]
      rfl
  · rw [List.getElem?_append_right (by simpa using Nat.le_of_not_lt hi), List.getElem?_replicate] at e
    split at e <;> cases e
end
theorem def_ok {P : Program} {w : World} {C : Cf} {mg : Str → Option Value} {base : Heap} {fns : List Fn} {k f : Nat} {fn : Fn} {x qual : Str} {st : Stmt} {fa : Addr} {fd : FuncData} {N ps : List Str}
    (hf : fns[f]? = some fn) (F : L2.Fun C.K x qual st fa fd) (S : FnScope N ps (defScope st)) (hnp : fn.np = ps.length) (hnl : fn.nl = N.length)
    (hbody : ∀ (cdv : Value) (A : Around) (outer : List Env) (s : Shared) (H : Hp) (E : XK), Room (2 * k + 2) (A.deeper (envOfC qual (defScope st) s.heap.objs.size fa cdv)) → A.guards = some [] →
      PSs (cxOf (L2.CX P w) P w C.K mg base N qual (defScope st) fa cdv A outer s H E) (defBody st) (tst C (callF fns k) (fun cls d _ H => E cls d H) fn.body)) :
    FnG P w C.K mg base (2 * (k + 1) + 1) fa fd ps (spC C (callF fns (k + 1)) f) := by
  obtain ⟨oc, od, kV, doc, pm, an, cdv, ct, osl, rfl, lk, hcd⟩ := F.ex
  have one : ∀ ws h, callF fns (k + 1) f ws h = runF fn (callF fns k) ws h := fun ws h => by simp only [callF, hf]
  refine fnG_of (k := 2 * k + 2) lk hcd S (fun vs H Q E q => ?_) fun A outer s H vs Q E hr hg q => ?_
  · obtain ⟨γ, h, ws, hc, r, p⟩ := q
    rw [one] at p
    unfold runF at p
    split at p
    · rename_i z
      rw [← r.length, Nat.eq_of_beq_eq_true z, hnp]
    · exact p.elim
  · obtain ⟨γ, h, ws, hc, r, p⟩ := q
    rw [one] at p
    refine ⟨_, hbody cdv A outer s H E hr hg, ?_⟩
    unfold runF at p
    split at p
    · split at p
      · split at p
        · rename_i u
          rw [hnl] at p
          exact ⟨{ ι := [], F := γ.F, P := fun a => H a ≠ none ∧ γ.F a = none, L := fun _ => none }, enter N.length ws, [], sl_start (RWs.pure (γ := γ) (γ' := { ι := [], F := γ.F, P := fun a => H a ≠ none ∧ γ.F a = none, L := fun _ => none }) (fun _ _ z => z) ws vs u r), hc.bare, PoS.back (PoE.pure hc p)⟩
        · exact p.elim
      · rw [hnl] at p
        exact ⟨γ, enter N.length ws, h, sl_start r, hc, PoS.back (PoE.trim hc p)⟩
    · exact p.elim
theorem def_zero {P : Program} {w : World} {C : Cf} {mg : Str → Option Value} {base : Heap} {fns : List Fn} {j f : Nat} {fa : Addr} {fd : FuncData} {ps : List Str} : FnG P w C.K mg base j fa fd ps (spC C (callF fns 0) f) :=
  .none fun vs H Q E ⟨γ, h, ws, hc, r, p⟩ => p
section
variable {X : Cx} {C : Cf} {cl : CL} {Wx : WX} {k : Nat} {f : Nat} {fa : Addr} {fd : FuncData} {ps : List Str} {x : Str} {p pos apos : Pos} {a o : Expr} {es : List Expr} {xs : Exs} {xo : Ex}
theorem pv_call (F : FnG X.prog X.w X.K X.mg X.base k fa fd ps (spC C cl f)) (hr : Room k X.A) (hgd : X.A.guards = some []) (hb : Binds X.K fd ps []) (tk : Takes X Wx) (hg : Gl X x) (hm : X.mg x = some (.ref fa)) (hk : PySem.W.keepIn X.K (.ref fa) = true)
    (ha : PA X (a :: es) (tes C cl Wx xs)) (hdb : (x == ("__debug__" : Str)) = false) (he : starEach (a :: es) X.env = (false, eval a X.env) :: starEach es X.env) (hpl : (backTo pos (starEach es X.env)).any (·.1) = false) :
    PE X (.Call (.Name x p) (a :: es) [] pos) (tev C cl Wx (xCall f xs)) := by
  refine ⟨fun pins s σ H Q I h => ?_⟩
  refine wpAny_Call_Name_kw (ld_glob I hg hm ?_ hdb)
  refine PySem.W.callWith_K (h₀ := X.base) I.ok.mod.kin hk (thn (ha.run pos pins s σ H _ I (tes1 (f := cl f) h)) fun us s1 ⟨vs, H1, I1, r, q⟩ => ⟨I1.kIn, ?_⟩) he hpl
  exact goG F hr hgd hb tk I1 r q
theorem pv_call0 (F : FnG X.prog X.w X.K X.mg X.base k fa fd ps (spC C cl f)) (hr : Room k X.A) (hgd : X.A.guards = some []) (hb : Binds X.K fd ps []) (tk : Takes X Wx) (hg : Gl X x) (hm : X.mg x = some (.ref fa)) (hk : PySem.W.keepIn X.K (.ref fa) = true)
    (hdb : (x == ("__debug__" : Str)) = false) : PE X (.Call (.Name x p) [] [] pos) (tev C cl Wx (xCall f xsNil)) := by
  refine ⟨fun pins s σ H Q I h => ?_⟩
  refine wpAny_Call_Name_kw (ld_glob I hg hm ?_ hdb)
  obtain ⟨γ, σw, h0, sl, hc, p⟩ := h
  exact PySem.W.callWith_K0 I.kIn hk (goG F hr hgd hb tk I .nil ⟨γ, h0, [], hc, rfl, p⟩)
end
end Ov
namespace Ov
open PySem PySem.Spec PyProof.Rows L2
section
variable {C : Cf} {γ γ' : Gh} {h : Hw} {H H' : Hp} {Q : VK} {E : XK}
theorem HC.cellO (c : HC C γ h H) {x dx : Addr} {k : Nat} (nx : H x = none) (nd : H dx = none) (ne : dx ≠ x) :
    ∃ γ', Ext γ γ' H ∧ Keep γ H (upd (upd H dx (.own x)) x (.ins (C.ca k) dx [])) ∧ HC C γ' (h ++ [.obj k [] []]) (upd (upd H dx (.own x)) x (.ins (C.ca k) dx [])) ∧ γ'.ι[h.length]? = some x := by
  have old : ∀ a, H a ≠ none → upd (upd H dx (.own x)) x (.ins (C.ca k) dx []) a = H a := fun a q => by
    rw [upd_ne (fun z => by subst z; exact q nx), upd_ne (fun z => by subst z; exact q nd)]
  have old' : ∀ a o, H a = some o → upd (upd H dx (.own x)) x (.ins (C.ca k) dx []) a = some o := fun a o q => by
    rw [old a (by rw [q]; simp)]; exact q
  have fn : ∀ a, H a = none → γ.F a = none := fun a n => by
    cases e : γ.F a with
    | none => rfl
    | some u => rw [c.frz _ _ e] at n; cases n
  have nι : x ∉ γ.ι := fun hp => c.there x hp nx
  have E : Ext γ { γ with ι := γ.ι ++ [x] } H := ⟨⟨[x], rfl, fun a ha => (List.mem_singleton.mp ha) ▸ nx⟩, fun _ _ e => e, rfl, rfl⟩
  refine ⟨{ γ with ι := γ.ι ++ [x] }, E, ⟨fun a u e _ => old' a u e, fun a e => by rw [old a e]; exact e⟩, ⟨by simp [c.len], nodup_append_one c.nd nι, fun m a cc i hm => ?_, fun a i => ?_, fun a u e => old' a u (c.frz a u e), fun a pa => ?_, fun d y e => ?_, fun a l q => old' _ _ (c.lkd a l q), c.prl⟩, ?_⟩
  · by_cases hlt : m < γ.ι.length
    · have i : (γ.ι ++ [x])[m]? = some a := i
      rw [List.getElem?_append_left hlt] at i
      rw [List.getElem?_append_left (by rw [c.len]; exact hlt)] at hm
      have q := c.cell m a cc i hm
      cases cc with
      | lst us =>
        obtain ⟨f, ys, hh, r'⟩ := q
        exact ⟨f, ys, old' _ _ hh, E.rws r'⟩
      | dct _ _ => obtain ⟨f, o, xs, ys, hh, d, r1, r2⟩ := q; exact ⟨f, o, xs, ys, old' _ _ hh, d, E.rws r1, E.rws r2⟩
      | lck _ _ => obtain ⟨f, o, xs, ys, lo, hh, d, r1, r2⟩ := q; exact ⟨f, o, xs, ys, lo, old' _ _ hh, d, E.rws r1, E.rws r2⟩
      | obj k ns us =>
        obtain ⟨f, dx, ys, fd, hh, hd, l, r'⟩ := q
        exact ⟨f, dx, ys, fd, old' _ _ hh, old' _ _ hd, l, E.rws r'⟩
      | dead => trivial
    · have hm' : m = γ.ι.length := by
        have h1 : m < γ.ι.length + 1 := by simpa using (List.getElem?_eq_some_iff.mp i).1
        omega
      subst hm'
      have : a = x := by simpa using i.symm
      subst this
      have : cc = .obj k [] [] := by
        rw [← c.len] at hm
        simpa using hm.symm
      subst this
      have lx : γ.L a = none := by
        cases q : γ.L a with
        | none => rfl
        | some l => rw [c.lkd a l q] at nx; cases nx
      exact ⟨⟨fn _ nx, lx⟩, dx, [], fn _ nd, upd_same, by rw [upd_ne ne, upd_same], rfl, rfl⟩
  · rcases List.mem_append.mp i with i | i
    · rw [old a (c.there a i)]; exact c.there a i
    · have : a = x := by simpa using i
      subst this; rw [upd_same]; simp
  · obtain ⟨a1, a2, a3, a4⟩ := c.prot a pa
    refine ⟨by rw [old a a1]; exact a1, a2, fun hm => ?_, fun b hb => ?_⟩
    · rcases List.mem_append.mp hm with hm | hm
      · exact a3 hm
      · exact a1 (by rw [show a = x by simpa using hm]; exact nx)
    · rw [old a a1]
      rcases List.mem_append.mp hb with hb | hb
      · exact a4 b hb
      · have : b = x := by simpa using hb
        subst this
        exact fun e => c.own a _ e nx
  · by_cases z : d = x
    · subst z; rw [upd_same] at e; cases e
    · rw [upd_ne z] at e
      by_cases z2 : d = dx
      · subst z2; rw [upd_same] at e; cases e; rw [upd_same]; simp
      · rw [upd_ne z2] at e
        have := c.own d y e
        rw [old y this]; exact this
  · rw [c.len]; simp
theorem HC.setO (c : HC C γ h H) {n : Nat} {a dx : Addr} {k : Nat} {ns ms : List Nat} {ws us : List W} {vs : List V} {xs' : List (Str × V)} (i : γ.ι[n]? = some a) (hn : h[n]? = some (.obj k ns ws)) (ha : H a = some (.ins (C.ca k) dx xs')) (l : ms.length = vs.length) (r : RWs C γ us vs) :
    Keep γ H (upd H a (.ins (C.ca k) dx ((ms.map C.nm).zip vs))) ∧ HC C γ (h.set n (.obj k ms us)) (upd H a (.ins (C.ca k) dx ((ms.map C.nm).zip vs))) := by
  obtain ⟨fa, dx', xs, fd, ha', hd', _⟩ := c.cell n a _ i hn
  rw [ha] at ha'; cases ha'
  have mem : a ∈ γ.ι := List.mem_of_getElem? i
  have nda : dx ≠ a := fun z => by subst z; rw [ha] at hd'; cases hd'
  have key : ∀ b, H b ≠ none → upd H a (.ins (C.ca k) dx ((ms.map C.nm).zip vs)) b ≠ none := fun b e => by
    by_cases z : b = a
    · subst z; rw [upd_same]; simp
    · rw [upd_ne z]; exact e
  refine ⟨⟨fun b o e q => ?_, key⟩, ⟨by rw [List.length_set]; exact c.len, c.nd, fun m b cc im hm => ?_, fun b ib => key b (c.there b ib), fun b o e => ?_, fun b pb => ?_, fun d y e => ?_, fun b l q => ?_, c.prl⟩⟩
  · by_cases z : b = a
    · subst z
      rcases q mem with q | q
      · rw [fa.1] at q; cases q
      · exact absurd fa.2 q
    · rw [upd_ne z]; exact e
  · by_cases z : m = n
    · subst z
      rw [i] at im; cases im
      have hl : m < h.length := (List.getElem?_eq_some_iff.mp hn).1
      rw [List.getElem?_set_self hl] at hm
      cases hm
      exact ⟨fa, dx, vs, fd, upd_same, by rw [upd_ne nda]; exact hd', l, r⟩
    · rw [List.getElem?_set_ne (Ne.symm z)] at hm
      have za : b ≠ a := fun e => by subst e; exact z (nodup_get c.nd im i)
      have q := c.cell m b cc im hm
      cases cc with
      | lst us => obtain ⟨f, ys, hh, r'⟩ := q; exact ⟨f, ys, by rw [upd_ne za]; exact hh, r'⟩
      | dct _ _ => obtain ⟨f, o, xs, ys, hh, d, r1, r2⟩ := q; exact ⟨f, o, xs, ys, by rw [upd_ne za]; exact hh, d, r1, r2⟩
      | lck _ _ => obtain ⟨f, o, xs, ys, lo, hh, d, r1, r2⟩ := q; exact ⟨f, o, xs, ys, lo, by rw [upd_ne za]; exact hh, d, r1, r2⟩
      | obj k ns us =>
        obtain ⟨f, dx, ys, fd, hh, hd, l, r'⟩ := q
        have zd : dx ≠ a := fun e => by subst e; rw [ha] at hd; cases hd
        exact ⟨f, dx, ys, fd, by rw [upd_ne za]; exact hh, by rw [upd_ne zd]; exact hd, l, r'⟩
      | dead => trivial
  · by_cases z : b = a
    · subst z; rw [fa.1] at e; cases e
    · rw [upd_ne z]; exact c.frz b o e
  · obtain ⟨p1, p2, p3, p4⟩ := c.prot b pb
    have z : b ≠ a := fun e => by subst e; exact p3 mem
    exact ⟨key b p1, p2, p3, fun d hd => by rw [upd_ne z]; exact p4 d hd⟩
  · by_cases z : d = a
    · subst z; rw [upd_same] at e; cases e
    · rw [upd_ne z] at e
      exact key y (c.own d y e)
  · have z : b ≠ a := fun e => by subst e; rw [fa.2] at q; cases q
    rw [upd_ne z]; exact c.lkd b l q
theorem HC.frzG (c : HC C γ h H) {n : Nat} {a : Addr} (i : γ.ι[n]? = some a) (ho : ∀ y, H a ≠ some (.own y)) (F' : Hp) (fz : ∀ b o, γ.F b = some o → F' b = some o) (fh : ∀ b o, F' b = some o → H b = some o)
    (ff : ∀ b, b ≠ a → (H b ≠ some (.own a)) → F' b = γ.F b) : Ext γ { γ with F := F' } H ∧ HC C { γ with F := F' } (h.set n .dead) H := by
  have mo : Mor γ { γ with F := F' } := ⟨fun _ _ z => z, fz, fun _ _ z => z⟩
  have mem : a ∈ γ.ι := List.mem_of_getElem? i
  refine ⟨⟨⟨[], by simp, fun _ z => nomatch z⟩, fz, rfl, rfl⟩, ⟨by rw [List.length_set]; exact c.len, c.nd, fun m b cc im hm => ?_, c.there, fh, fun b pb => ?_, c.own, c.lkd, c.prl⟩⟩
  · by_cases z : m = n
    · subst z
      by_cases hl : m < h.length
      · rw [List.getElem?_set_self hl] at hm
        cases hm
        trivial
      · rw [List.getElem?_eq_none (by rw [List.length_set]; omega)] at hm; cases hm
    · rw [List.getElem?_set_ne (Ne.symm z)] at hm
      have za : b ≠ a := fun e => by subst e; exact z (nodup_get c.nd im i)
      have q := c.cell m b cc im hm
      cases cc with
      | lst us =>
        obtain ⟨f, ys, hh, r'⟩ := q
        exact ⟨⟨(ff b za (by rw [hh]; simp)).trans f.1, f.2⟩, ys, hh, mo.rws r'⟩
      | dct _ _ =>
        obtain ⟨f, o, xs, ys, hh, d, r1, r2⟩ := q
        exact ⟨⟨(ff b za (by rw [hh]; simp)).trans f.1, f.2⟩, o, xs, ys, hh, d, mo.rws r1, mo.rws r2⟩
      | lck _ _ =>
        obtain ⟨f, o, xs, ys, lo, hh, d, r1, r2⟩ := q
        exact ⟨(ff b za (by rw [hh]; simp)).trans f, o, xs, ys, lo, hh, d, mo.rws r1, mo.rws r2⟩
      | obj k' ns' us =>
        obtain ⟨f, dx', ys, fd', hh, hd', l', r'⟩ := q
        have ne : dx' ≠ a := fun e => by subst e; exact ho _ hd'
        exact ⟨⟨(ff b za (by rw [hh]; simp)).trans f.1, f.2⟩, dx', ys, (ff dx' ne (by rw [hd']; simp [za])).trans fd', hh, hd', l', mo.rws r'⟩
      | dead => trivial
  · obtain ⟨p1, p2, p3, p4⟩ := c.prot b pb
    exact ⟨p1, (ff b (fun z => by subst z; exact p3 mem) (p4 a mem)).trans p2, p3, p4⟩
theorem HC.frz1 (c : HC C γ h H) {n : Nat} {a : Addr} {o : HO} (i : γ.ι[n]? = some a) (f : γ.F a = none) (ha : H a = some o) (no : ∀ y, o ≠ .own y) :
    Ext γ { γ with F := upd γ.F a o } H ∧ HC C { γ with F := upd γ.F a o } (h.set n .dead) H := by
  refine c.frzG i (fun y e => no y (by rw [ha] at e; cases e; rfl)) _ (fun b u e => ?_) (fun b u e => ?_) fun b z _ => upd_ne z
  · have : b ≠ a := fun z => by subst z; rw [f] at e; cases e
    rw [upd_ne this]; exact e
  · by_cases z : b = a
    · subst z; rw [upd_same] at e; cases e; exact ha
    · rw [upd_ne z] at e; exact c.frz b u e
theorem HC.frzO (c : HC C γ h H) {n : Nat} {a : Addr} {k : Nat} {ns : List Nat} {ws : List W} (i : γ.ι[n]? = some a) (hn : h[n]? = some (.obj k ns ws)) :
    ∃ γ', Ext γ γ' H ∧ γ'.ι = γ.ι ∧ HC C γ' (h.set n .dead) H ∧ RW C γ' (.obj k ns ws) (.ref a) := by
  obtain ⟨fa, dx, xs, fd, ha, hd, l, r⟩ := c.cell n a _ i hn
  have nda : dx ≠ a := fun z => by subst z; rw [ha] at hd; cases hd
  have fz : ∀ b o, γ.F b = some o → upd (upd γ.F a (.ins (C.ca k) dx ((ns.map C.nm).zip xs))) dx (.own a) b = some o := fun b o e => by
    have z1 : b ≠ a := fun z => by subst z; rw [fa.1] at e; cases e
    have z2 : b ≠ dx := fun z => by subst z; rw [fd] at e; cases e
    rw [upd_ne z2, upd_ne z1]; exact e
  obtain ⟨e1, c1⟩ := c.frzG i (fun y e => by rw [ha] at e; cases e) (upd (upd γ.F a (.ins (C.ca k) dx ((ns.map C.nm).zip xs))) dx (.own a)) fz (fun b o e => by
    by_cases z2 : b = dx
    · subst z2; rw [upd_same] at e; cases e; exact hd
    · rw [upd_ne z2] at e
      by_cases z1 : b = a
      · subst z1; rw [upd_same] at e; cases e; exact ha
      · rw [upd_ne z1] at e; exact c.frz b o e) (fun b z1 z2 => by
    have z3 : b ≠ dx := fun z => by subst z; exact z2 hd
    rw [upd_ne z3, upd_ne z1])
  exact ⟨_, e1, rfl, c1, a, dx, xs, rfl, by show upd _ dx _ a = _; rw [upd_ne (Ne.symm nda), upd_same], upd_same, l, e1.rws r⟩
theorem HC.frzL (c : HC C γ h H) {n : Nat} {a : Addr} {ws : List W} (i : γ.ι[n]? = some a) (hn : h[n]? = some (.lst ws)) :
    ∃ γ', Ext γ γ' H ∧ γ'.ι = γ.ι ∧ HC C γ' (h.set n .dead) H ∧ RW C γ' (.lst ws) (.ref a) := by
  obtain ⟨fa, xs, ha, r⟩ := c.cell n a _ i hn
  obtain ⟨e1, c1⟩ := c.frz1 i fa.1 ha (fun y z => nomatch z)
  exact ⟨_, e1, rfl, c1, a, xs, rfl, .inl upd_same, e1.rws r⟩
theorem HC.frzD (c : HC C γ h H) {n : Nat} {a : Addr} {ks ws : List W} (i : γ.ι[n]? = some a) (hn : h[n]? = some (.dct ks ws)) :
    ∃ γ', Ext γ γ' H ∧ γ'.ι = γ.ι ∧ HC C γ' (h.set n .dead) H ∧ RW C γ' (.dct ks ws) (.ref a) := by
  obtain ⟨fa, o, xs, ys, ha, d, r1, r2⟩ := c.cell n a _ i hn
  obtain ⟨e1, c1⟩ := c.frz1 i fa.1 ha (fun y z => nomatch z)
  exact ⟨_, e1, rfl, c1, a, o, xs, ys, rfl, upd_same, d, e1.rws r1, e1.rws r2⟩
def FzOk (C : Cf) (H : Hp) (γ : Gh) (w' : W) (v : V) (h' : Hw) : Prop := ∃ γ', Ext γ γ' H ∧ γ'.ι = γ.ι ∧ HC C γ' h' H ∧ RW C γ' w' v
def FzOks (C : Cf) (H : Hp) (γ : Gh) (ws' : List W) (vs : List V) (h' : Hw) : Prop := ∃ γ', Ext γ γ' H ∧ γ'.ι = γ.ι ∧ HC C γ' h' H ∧ RWs C γ' ws' vs
theorem mapFz_ok {f : W → Hw → Option (W × Hw)} (ok : ∀ γ h w v w' h', HC C γ h H → RW C γ w v → f w h = some (w', h') → FzOk C H γ w' v h') : ∀ (ws : List W) (vs : List V) (γ : Gh) (h : Hw) (ws' : List W) (h' : Hw),
    HC C γ h H → RWs C γ ws vs → mapFz f ws h = some (ws', h') → FzOks C H γ ws' vs h'
  | [], vs, γ, h, ws', h', c, r, e => by
    simp only [mapFz, Option.some.injEq, Prod.mk.injEq] at e
    obtain ⟨rfl, rfl⟩ := e
    exact ⟨γ, Ext.refl _ _, rfl, c, r⟩
  | w :: ws, vs, γ, h, ws', h', c, ⟨v, vr, ev, r1, r2⟩, e => by
    subst ev
    simp only [mapFz] at e
    cases e1 : f w h with
    | none => rw [e1] at e; cases e
    | some p =>
      rw [e1] at e
      dsimp only at e
      cases e2 : mapFz f ws p.2 with
      | none => rw [e2] at e; cases e
      | some q =>
        rw [e2] at e
        simp only [Option.some.injEq, Prod.mk.injEq] at e
        obtain ⟨rfl, rfl⟩ := e
        obtain ⟨γ1, x1, i1, c1, q1⟩ := ok γ h w v p.1 p.2 c r1 e1
        obtain ⟨γ2, x2, i2, c2, q2⟩ := mapFz_ok ok ws vr γ1 p.2 q.1 q.2 c1 (x1.rws r2) e2
        exact ⟨γ2, x1.trans (Keep.refl _ _) x2, i2.trans i1, c2, v, vr, rfl, x2.rw q1, q2⟩
theorem FzOks.step {γ1 : Gh} {ws : List W} {vs : List V} {h' : Hw} (e : Ext γ γ1 H) (i : γ1.ι = γ.ι) (q : FzOks C H γ1 ws vs h') : FzOks C H γ ws vs h' :=
  let ⟨γ2, e2, i2, c2, r2⟩ := q
  ⟨γ2, e.trans (Keep.refl _ _) e2, i2.trans i, c2, r2⟩
theorem fz_ok : ∀ (d : Nat) (γ : Gh) (h : Hw) (w : W) (v : V) (w' : W) (h' : Hw), HC C γ h H → RW C γ w v → fzV d w h = some (w', h') → FzOk C H γ w' v h'
  | 0, _, _, _, _, _, _, _, _, e => by simp [fzV] at e
  | d + 1, γ, h, w, v, w', h', c, r, e => by
    have same : ∀ {w'' : W} {h'' : Hw}, some (w, h) = some (w'', h'') → FzOk C H γ w'' v h'' := fun e => by
      cases e; exact ⟨γ, Ext.refl _ _, rfl, c, r⟩
    have many := mapFz_ok (C := C) (H := H) (f := fzV d) (fun γ h w v w' h' => fz_ok d γ h w v w' h')
    unfold fzV at e
    cases w with
    | ref n =>
      dsimp only at e
      obtain ⟨a, rfl, i⟩ := r
      cases hn : h[n]? with
      | none => rw [hn] at e; cases e
      | some cc =>
        rw [hn] at e
        cases cc with
        | lst xs =>
          obtain ⟨γ1, e1, i1, c1, b, vs, eb, q1, q2⟩ := c.frzL i hn
          dsimp only at e
          cases em : mapFz (fzV d) xs (h.set n .dead) with
          | none => rw [em] at e; cases e
          | some p =>
            rw [em] at e; cases e
            obtain ⟨γ3, e3, i3, c3, r3⟩ := many xs vs γ1 _ p.1 p.2 c1 q2 em
            exact ⟨γ3, e1.trans (Keep.refl _ _) e3, i3.trans i1, c3, b, vs, eb, RdM e3.frz q1, r3⟩
        | dct ks xs =>
          obtain ⟨γ1, e1, i1, c1, b, o, us, vs, eb, f, dd, q1, q2⟩ := c.frzD i hn
          dsimp only at e
          cases em : mapFz (fzV d) xs (h.set n .dead) with
          | none => rw [em] at e; cases e
          | some p =>
            rw [em] at e; cases e
            obtain ⟨γ3, e3, i3, c3, r3⟩ := many xs vs γ1 _ p.1 p.2 c1 q2 em
            exact ⟨γ3, e1.trans (Keep.refl _ _) e3, i3.trans i1, c3, b, o, us, vs, eb, e3.frz _ _ f, dd, e3.rws q1, r3⟩
        | obj k ns xs =>
          obtain ⟨γ1, e1, i1, c1, b, dx, vs, eb, f1, f2, l, q2⟩ := c.frzO i hn
          dsimp only at e
          cases em : mapFz (fzV d) xs (h.set n .dead) with
          | none => rw [em] at e; cases e
          | some p =>
            rw [em] at e; cases e
            obtain ⟨γ3, e3, i3, c3, r3⟩ := many xs vs γ1 _ p.1 p.2 c1 q2 em
            exact ⟨γ3, e1.trans (Keep.refl _ _) e3, i3.trans i1, c3, b, dx, vs, eb, e3.frz _ _ f1, e3.frz _ _ f2, l, r3⟩
        | lck _ _ => cases e
        | dead => cases e
    | tup xs =>
      dsimp only at e
      split at e
      · exact same e
      · obtain ⟨a, vs, ea, q1, q2⟩ := r
        cases em : mapFz (fzV d) xs h with
        | none => rw [em] at e; cases e
        | some p =>
          rw [em] at e; cases e
          obtain ⟨γ3, e3, i3, c3, r3⟩ := many xs vs γ _ p.1 p.2 c q2 em
          exact ⟨γ3, e3, i3, c3, a, vs, ea, RdM e3.frz q1, r3⟩
    | lst xs =>
      dsimp only at e
      split at e
      · exact same e
      · obtain ⟨a, vs, ea, q1, q2⟩ := r
        cases em : mapFz (fzV d) xs h with
        | none => rw [em] at e; cases e
        | some p =>
          rw [em] at e; cases e
          obtain ⟨γ3, e3, i3, c3, r3⟩ := many xs vs γ _ p.1 p.2 c q2 em
          exact ⟨γ3, e3, i3, c3, a, vs, ea, RdM e3.frz q1, r3⟩
    | dct ks xs =>
      dsimp only at e
      split at e
      · exact same e
      · obtain ⟨a, o, us, vs, ea, f, dd, q1, q2⟩ := r
        cases em : mapFz (fzV d) xs h with
        | none => rw [em] at e; cases e
        | some p =>
          rw [em] at e; cases e
          obtain ⟨γ3, e3, i3, c3, r3⟩ := many xs vs γ _ p.1 p.2 c q2 em
          exact ⟨γ3, e3, i3, c3, a, o, us, vs, ea, e3.frz _ _ f, dd, e3.rws q1, r3⟩
    | obj k ns xs =>
      dsimp only at e
      split at e
      · exact same e
      · obtain ⟨a, dx, vs, ea, f1, f2, l, q2⟩ := r
        cases em : mapFz (fzV d) xs h with
        | none => rw [em] at e; cases e
        | some p =>
          rw [em] at e; cases e
          obtain ⟨γ3, e3, i3, c3, r3⟩ := many xs vs γ _ p.1 p.2 c q2 em
          exact ⟨γ3, e3, i3, c3, a, dx, vs, ea, e3.frz _ _ f1, e3.frz _ _ f2, l, r3⟩
    | non => exact same e
    | bl _ => exact same e
    | int _ => exact same e
    | str _ => exact same e
    | any => exact same e
    | scr _ => exact same e
theorem put_rw (inj : ∀ i j, C.nm i = C.nm j → i = j) {nm : Nat} {w : W} {y : V} (ry : RW C γ w y) : ∀ {ns : List Nat} {ws : List W} {vs : List V}, ns.length = vs.length → RWs C γ ws vs →
    ∃ us, putF (C.nm nm) y ((ns.map C.nm).zip vs) = ((putAttr nm w ns ws).1.map C.nm).zip us ∧ (putAttr nm w ns ws).1.length = us.length ∧ RWs C γ (putAttr nm w ns ws).2 us
  | [], ws, vs, l, r => by
    have : vs = [] := List.length_eq_zero_iff.mp l.symm
    subst this
    have : ws = [] := by cases ws with | nil => rfl | cons _ _ => obtain ⟨_, _, e, _⟩ := r; cases e
    subst this
    exact ⟨[y], rfl, rfl, RWs.cons ry RWs.nil⟩
  | n :: ns, ws, vs, l, r => by
    cases ws with
    | nil => cases r; cases l
    | cons u ws =>
      obtain ⟨v, vr, rfl, a, b⟩ := r
      by_cases z : Nat.beq n nm = true
      · have e := Nat.eq_of_beq_eq_true z
        subst e
        refine ⟨y :: vr, ?_, ?_, ?_⟩
        · show (if C.nm n = C.nm n then _ else _) = _
          rw [if_pos rfl]
          simp only [putAttr, z, if_true]
          rfl
        · simp only [putAttr, z, if_true]; exact l
        · simp only [putAttr, z, if_true]; exact RWs.cons ry b
      · have ne : C.nm n ≠ C.nm nm := fun e => z (by rw [inj _ _ e]; exact Nat.beq_refl nm)
        obtain ⟨us, e1, e2, e3⟩ := put_rw inj ry (nm := nm) (ns := ns) (Nat.succ.inj l) b
        refine ⟨v :: us, ?_, ?_, ?_⟩
        · show (if C.nm n = C.nm nm then _ else _) = _
          rw [if_neg ne]
          show (C.nm n, v) :: putF (C.nm nm) y ((ns.map C.nm).zip vr) = _
          rw [e1]
          simp only [putAttr, z]
          rfl
        · simp only [putAttr, z]; simp [e2]
        · simp only [putAttr, z]; exact RWs.cons a e3
end
section
variable {X : Cx} {C : Cf} {cl : CL} {Wx : WX} {k c : Nat} {f : Nat} {fz : Bool} {fa : Addr} {fd : FuncData} {ps : List Str} {x m : Str} {p pos apos : Pos} {a o value : Expr} {es : List Expr} {xs : Exs} {xo xe : Ex}
theorem new_sem {γ : Gh} {h : Hw} {H : Hp} {ws : List W} {vs : List V} {Q : VK} {E : XK} (hc : HC C γ h H) (r : RWs C γ ws vs) (p : PoE C γ H (newObj cl c f fz ws h) Q E) {y dx : Addr} (ny : H y = none) (nd : H dx = none) (ne : dx ≠ y) :
    spC C cl f (.ref y :: vs) (upd (upd H dx (.own y)) y (.ins (C.ca c) dx [])) (fun v H2 => v = .non ∧ Q (.ref y) H2) E := by
  obtain ⟨γ1, e1, k1, c1, ix⟩ := hc.cellO (k := c) ny nd ne
  refine ⟨γ1, h ++ [.obj c [] []], .ref h.length :: ws, c1, ⟨_, _, rfl, ⟨y, rfl, ix⟩, e1.rws r⟩, ?_⟩
  unfold newObj at p
  cases ec : cl f (.ref h.length :: ws) (h ++ [.obj c [] []]) with
  | no => rw [ec] at p; exact p
  | exn cc aa h1 =>
    rw [ec] at p
    have p' : PoE C γ H (.exn cc aa h1) Q E := PoE.trim hc p
    exact PoE.step p' e1 k1
  | ok w h1 =>
    rw [ec] at p
    cases w with
    | non =>
      intro γ2 v H2 e2 k2 c2 r2
      refine ⟨r2, ?_⟩
      have i2 := e2.ix _ _ ix
      cases fz with
      | false => exact p γ2 (.ref y) H2 (e1.trans k1 e2) (k1.trans e1 k2) c2 ⟨y, rfl, i2⟩
      | true =>
        have p' : PoE C γ H ((freeze h1 (.ref h.length)).bind fun w h2 => .ok w (trim h.length w h2)) Q E := p
        unfold freeze at p'
        cases em : fzV 9 (.ref h.length) h1 with
        | none => rw [em] at p'; exact p'.elim
        | some q =>
          rw [em] at p'
          have p2 : PoE C γ H (.ok q.1 q.2) Q E := PoE.trim hc p'
          obtain ⟨γ3, e3, i3, c3, r3⟩ := fz_ok 9 γ2 h1 (.ref h.length) (.ref y) q.1 q.2 c2 ⟨y, rfl, i2⟩ em
          exact p2 γ3 (.ref y) H2 ((e1.trans k1 e2).trans (k1.trans e1 k2) e3) (k1.trans e1 k2) c3 r3
    | _ => exact p.elim
theorem pv_frz {e : Expr} (ha : PE X e (tev C cl Wx xe)) : PE X e (tev C cl Wx (xFrz xe)) :=
  PE.imp ha fun σ H Q t => (tev1' (f := fun x h1 => freeze h1 x) t).imp fun v H1 ⟨γ, h, w, hc, r, p⟩ => by
    unfold freeze at p
    dsimp only at p
    cases em : fzV 9 w h with
    | none => rw [em] at p; exact p.elim
    | some q =>
      rw [em] at p
      obtain ⟨γ3, e3, i3, c3, r3⟩ := fz_ok 9 γ h w v q.1 q.2 hc r em
      exact p γ3 v H1 e3 (Keep.refl _ _) c3 r3
theorem pv_new (M : Mk X.K (C.ca c) fa) (F : FnG X.prog X.w X.K X.mg X.base k fa fd ps (spC C cl f)) (hr : Room (k + 1) X.A) (hgd : X.A.guards = some []) (hb : Binds X.K fd ps []) (tk : Takes X Wx) (hg : Gl X x) (hm : X.mg x = some (.ref (C.ca c)))
    (ha : PA X (a :: es) (tes C cl Wx xs)) (hdb : (x == ("__debug__" : Str)) = false) (he : starEach (a :: es) X.env = (false, eval a X.env) :: starEach es X.env) (hpl : (backTo pos (starEach es X.env)).any (·.1) = false) :
    PE X (.Call (.Name x p) (a :: es) [] pos) (tev C cl Wx (xNew c f fz xs)) := by
  refine ⟨fun pins s σ H Q I h => ?_⟩
  refine wpAny_Call_Name_kw (ld_glob I hg hm ?_ hdb)
  refine PySem.W.callWith_K (h₀ := X.base) I.ok.mod.kin M.kp (thn (ha.run pos pins s σ H _ I (tes1 (f := newObj cl c f fz) h)) fun us s1 ⟨vs, H1, I1, r, γ, h0, ws, hc, rw', q⟩ => ⟨I1.kIn, ?_⟩) he hpl
  exact makeG M F hr hgd hb tk I1 r fun y dx ny nd ne => new_sem hc rw' q ny nd ne
structure SMet (K : PySem.W.Frag) (D : Addr) (m : Str) (q g : Addr) : Prop where
  rd : PySem.W.readsIn K D (.type "type") = true
  ga : PySem.W.specialIn K (.ref D) "__getattribute__" = some (some (.builtin "type.__getattribute__"))
  at_ : PySem.W.findCls K (.ref D) (.type "type") m = some (.get (.builtin "staticmethod.__get__") (.ref q) .none (.ref D))
  rc : ∃ rest, PySem.W.recIn K q "staticmethod" = some (.ref g :: rest)
  kp : PySem.W.keepIn K (.ref g) = true
theorem pv_static {D q : Addr} {pl : Sem Bool} (S : SMet X.K D m q fa) (F : FnG X.prog X.w X.K X.mg X.base k fa fd ps (spC C cl f)) (hr : Room k X.A) (hgd : X.A.guards = some []) (hb : Binds X.K fd ps []) (tk : Takes X Wx) (hg : Gl X x) (hm : X.mg x = some (.ref D))
    (ha : PA X (a :: es) (tes C cl Wx xs)) (hdb : (x == ("__debug__" : Str)) = false) (he : starEach (a :: es) X.env = (false, eval a X.env) :: starEach es X.env) (hpl : (backTo pos (starEach es X.env)).any (·.1) = false)
    (ht : eval (.Call (.Attribute (.Name x p) m apos) (a :: es) [] pos) X.env = (do
      let ov ← eval (.Name x p) X.env
      standAt apos.atName
      let (f, first) ← holding [ov] (getMethod ov m pl)
      callWith pos f first (backTo pos (starEach (a :: es) X.env)) (backToKw pos (keywordEach [] X.env)))) :
    PE X (.Call (.Attribute (.Name x p) m apos) (a :: es) [] pos) (tev C cl Wx (xCall f xs)) := by
  refine ⟨fun pins s σ H Q I h => ?_⟩
  refine PySem.W.methodCall_KW (pl := pl) (ld_glob I hg hm ?_ hdb) ht
  obtain ⟨rest, hp⟩ := S.rc
  refine PySem.W.method_cls I.kIn S.ga (PySem.W.cls_bind I.kIn S.rd S.at_ (wpAny_call (PySem.W.sm_get (s := { s with toks := s.toks + 1 }) I.kIn hp (PySem.W.handed_on rfl ?_))))
  have J : Inv X pins σ H { s with toks := s.toks + 1 } := I.tok _
  refine PySem.W.callWith_K (h₀ := X.base) J.ok.mod.kin S.kp (thn (ha.run pos pins _ σ H _ J (tes1 (f := cl f) h)) fun us s1 ⟨vs, H1, I1, r, q⟩ => ⟨I1.kIn, ?_⟩) he hpl
  exact goG F hr hgd hb tk I1 r q
theorem um_sem {tab : List (Nat × Nat)} {nm : Nat} {σ : L2.St} {H : Hp} {Q : VK} (t : tev C cl Wx (xUm tab nm xo xs) σ H Q) (inj : ∀ i j, C.nm i = C.nm j → i = j) :
    tev C cl Wx xo σ H (fun v H1 => ∃ a k f dx fs, v = .ref a ∧ tab.lookup k = some f ∧ H1 a = some (.ins (C.ca k) dx fs) ∧ fs.lookup (C.nm nm) = none ∧
      tes C cl Wx xs σ H1 (fun vs H2 => spC C cl f (.ref a :: vs) H2 Q (fun cls d H' => Wx cls d σ H'))) := by
  refine (tev1s (f := fun x σ h1 => match look h1 x with
    | .obj c ns _ => if ns.any (Nat.beq nm) then .no else (match tab.lookup c with
      | some f => (xs cl σ h1).bind fun ws h2 => cl f (x :: ws) h2
      | none => .no)
    | _ => .no) t).imp fun v H1 ⟨γ, σw, h, w, sl, hc, r, p⟩ => ?_
  dsimp only at p
  cases hl : look h w with
  | obj k ns us =>
    rw [hl] at p
    dsimp only at p
    cases hn : ns.any (Nat.beq nm) with
    | true => rw [hn] at p; exact p.elim
    | false =>
      rw [hn] at p
      cases ht : tab.lookup k with
      | none => rw [ht] at p; exact p.elim
      | some f =>
        rw [ht] at p
        dsimp only at p
        rw [if_neg (by decide)] at p
        obtain ⟨a, dx, vs, rfl, hh, l, r'⟩ := look_obj hc r hl
        refine ⟨a, k, f, dx, _, rfl, ht, hh, ?_, γ, σw, h, sl, hc, ?_⟩
        · have nf : ∀ (ns : List Nat) (vs : List V), ns.any (Nat.beq nm) = false → ((ns.map C.nm).zip vs).lookup (C.nm nm) = none := by
            intro ns
            induction ns with
            | nil => intro vs _; rfl
            | cons n ns ih =>
              intro vs e
              rw [List.any_cons, Bool.or_eq_false_iff] at e
              cases vs with
              | nil => rfl
              | cons v vs =>
                have ne : C.nm nm ≠ C.nm n := fun q => by
                  have := inj _ _ q
                  subst this
                  rw [Nat.beq_refl] at e; exact absurd e.1 (by decide)
                have b : (C.nm nm == C.nm n) = false := by simpa using ne
                simp [List.lookup, b, ih vs e.2]
          exact nf ns vs hn
        · cases ex : xs cl σw h with
          | no => rw [ex] at p; exact p
          | exn c aa h1 => rw [ex] at p; exact p
          | ok ws h1 =>
            rw [ex] at p
            intro γ1 us' H2 e2 k2 c2 r2
            exact ⟨γ1, h1, w :: ws, c2, ⟨_, _, rfl, e2.rw r, r2⟩, PoE.step p e2 k2⟩
  | _ => rw [hl] at p; exact p.elim
def UmOk (X : Cx) (C : Cf) (cl : CL) (k : Nat) (m : Str) (tab : List (Nat × Nat)) : Prop := ∀ c f, tab.lookup c = some f → ∃ g fd ps, Cls X.K (C.ca c) ∧ Meth X.K (C.ca c) m g ∧ FnG X.prog X.w X.K X.mg X.base k g fd ps (spC C cl f) ∧ Binds X.K fd ps []
theorem pv_um {tab : List (Nat × Nat)} {nm : Nat} {pl : Sem Bool} (hK : C.K = X.K) (inj : ∀ i j, C.nm i = C.nm j → i = j) (hf : C.nm nm = m) (U : UmOk X C cl k m tab) (hr : Room k X.A) (hgd : X.A.guards = some []) (tk : Takes X Wx)
    (ho : PE X o (tev C cl Wx xo)) (ha : PA X (a :: es) (tes C cl Wx xs)) (he : starEach (a :: es) X.env = (false, eval a X.env) :: starEach es X.env) (hpl : (backTo pos (starEach es X.env)).any (·.1) = false)
    (ht : eval (.Call (.Attribute o m apos) (a :: es) [] pos) X.env = (do
      let ov ← eval o X.env
      standAt apos.atName
      let (f, first) ← holding [ov] (getMethod ov m pl)
      callWith pos f first (backTo pos (starEach (a :: es) X.env)) (backToKw pos (keywordEach [] X.env)))) :
    PE X (.Call (.Attribute o m apos) (a :: es) [] pos) (tev C cl Wx (xUm tab nm xo xs)) := by
  subst hf
  refine ⟨fun pins s σ H Q I h => ?_⟩
  refine PySem.W.methodCall_KW (pl := pl) (thn (ho.run pins s σ H _ I (um_sem h inj)) fun u s1 ⟨x, H1, I1, rx, b, c, f, dx, fs, ex, et, eb, l, q⟩ => ?_) ht
  subst ex
  obtain rfl : u = Value.ref b := rx
  obtain ⟨g, fd, ps, c1, c2, F, hb⟩ := U c f et
  refine getmeth_ok I1 eb c1 c2 l ?_
  refine PySem.W.callWith_K (h₀ := X.base) I1.ok.mod.kin c2.kp (thn (ha.run pos pins s1 σ H1 _ I1 q) fun us s2 ⟨vs, H2, I2, r, q2⟩ => ⟨I2.kIn, ?_⟩) he hpl
  exact goG F hr hgd hb tk I2 (show Vals (V.ref b :: vs) (Value.ref b :: us) from .cons rfl r) q2
theorem pv_um0 {tab : List (Nat × Nat)} {nm : Nat} {pl : Sem Bool} (hK : C.K = X.K) (inj : ∀ i j, C.nm i = C.nm j → i = j) (hf : C.nm nm = m) (U : UmOk X C cl k m tab) (hr : Room k X.A) (hgd : X.A.guards = some []) (tk : Takes X Wx)
    (ho : PE X o (tev C cl Wx xo))
    (ht : eval (.Call (.Attribute o m apos) [] [] pos) X.env = (do
      let ov ← eval o X.env
      standAt apos.atName
      let (f, first) ← holding [ov] (getMethod ov m pl)
      callWith pos f first (backTo pos (starEach [] X.env)) (backToKw pos (keywordEach [] X.env)))) :
    PE X (.Call (.Attribute o m apos) [] [] pos) (tev C cl Wx (xUm tab nm xo xsNil)) := by
  subst hf
  refine ⟨fun pins s σ H Q I h => ?_⟩
  refine PySem.W.methodCall_KW (pl := pl) (thn (ho.run pins s σ H _ I (um_sem h inj)) fun u s1 ⟨x, H1, I1, rx, b, c, f, dx, fs, ex, et, eb, l, q⟩ => ?_) ht
  subst ex
  obtain rfl : u = Value.ref b := rx
  obtain ⟨g, fd, ps, c1, c2, F, hb⟩ := U c f et
  refine getmeth_ok I1 eb c1 c2 l ?_
  obtain ⟨γ, σw, h0, sl, hc, q⟩ := q
  exact PySem.W.callWith_K0 I1.kIn c2.kp (goG F hr hgd hb tk I1 (show Vals [V.ref b] [Value.ref b] from .cons rfl .nil) (q γ [] H1 (Ext.refl _ _) (Keep.refl _ _) hc rfl))
theorem psv_fld {cs : List Nat} {nm : Nat} {ff : Str} {pos' : Pos} (hK : C.K = X.K) (inj : ∀ i j, C.nm i = C.nm j → i = j) (hf : C.nm nm = ff) (hcs : ∀ c ∈ cs, Cls X.K (C.ca c) ∧ NoAttr X.K (C.ca c) ff) (ho : PE X o (tev C cl Wx xo)) (he : PE X value (tev C cl Wx xe))
    (hs : swapsWith value (some (.Attribute o ff pos')) pos.line X.env = pure false) : PS X (.Assign [.Attribute o ff pos'] value pos) (tst C cl Wx (sAsg (tAttr cs nm xo) xe)) := by
  subst hf
  refine PS.imp (ps_fld ho he hs) fun D σ H q => ?_
  have z : tAsg (tev C cl Wx xe) (ttg' C cl [] (tAttr cs nm xo)) D σ H := asg_sem q
  refine tev.imp z fun y H1 ⟨γ, σw, h, w, sl, hc, r, p⟩ => ?_
  unfold tAttr at p
  refine ⟨γ, σw, h, sl, hc, ?_⟩
  cases eo : xo cl σw h with
  | no => rw [eo] at p; exact p.elim
  | exn cc aa h1 => rw [eo] at p; exact p.elim
  | ok u h1 =>
    rw [eo] at p
    intro γ1 v H2 e1 k1 c1 r1
    have p1 := PoT.step p e1 k1
    dsimp only [R.bind] at p1
    unfold setAttr at p1
    cases u with
    | ref n =>
      dsimp only at p1
      cases hn : h1[n]? with
      | none => rw [hn] at p1; exact p1.elim
      | some cc =>
        rw [hn] at p1
        cases cc with
        | obj c ns vs =>
          dsimp only at p1
          by_cases hb : (cs.any (Nat.beq c) && Nat.blt ns.length 1000) = true
          · rw [if_pos hb] at p1
            rw [Bool.and_eq_true] at hb
            obtain ⟨b, rfl, i⟩ := r1
            obtain ⟨fa, dx, ys, fd, hh, hd, l, ry⟩ := c1.cell n b _ i hn
            have mem : c ∈ cs := by
              obtain ⟨y, y1, y2⟩ := List.any_eq_true.mp hb.1
              rw [Nat.eq_of_beq_eq_true y2]; exact y1
            have lt : ns.length < 1000 := Nat.le_of_ble_eq_true hb.2
            obtain ⟨us, q1, q2, q3⟩ := put_rw inj (nm := nm) (e1.rw r) l ry
            refine ⟨b, C.ca c, dx, _, rfl, hh, (hcs c mem).1, (hcs c mem).2, by rw [List.length_zip, List.length_map]; omega, ?_⟩
            rw [q1]
            obtain ⟨k2, c2⟩ := c1.setO (ms := (putAttr nm w ns vs).1) (us := (putAttr nm w ns vs).2) (vs := us) i hn hh q2 q3
            exact p1 γ1 σ _ (Ext.refl _ _) k2 c2 (sl.ext e1) rfl
          · rw [if_neg hb] at p1; exact p1.elim
        | _ => exact p1.elim
    | _ => exact p1.elim
end
end Ov
namespace Ov
open PySem PySem.Spec PyProof.Rows L2
def spXi (K : PySem.W.Frag) (f : Str) : Sp := fun vs H Q _ => ∃ (e D : Addr) (y : V), vs = [.ref e, y] ∧ OexC K D ∧ PySem.W.findIn K (.ref D) f = some none ∧ H e = some (exo e D none) ∧
  ∀ dx, H dx = none → dx ≠ e → Q .non (upd (upd H dx (exd dx [(f, y)])) e (exo e D (some dx)))
theorem xi_ok {P : Program} {w : World} {K : PySem.W.Frag} {mg : Str → Option Value} {base : Heap} {qual f arg : Str} {st : Stmt} {fI : Addr} {fd : FuncData} {k : Nat} {q1 q2 q3 q4 : Pos} (F : L2.Fun K "__init__" qual st fI fd) (S : FnScope ["self", arg] ["self", arg] (defScope st))
    (hb : defBody st = [.Assign [.Attribute (.Name "self" q1) f q2] (.Name arg q3) q4]) (hl1 : (defScope st).names.lookup ("self" : Str) = some .local) (hl2 : (defScope st).names.lookup arg = some .local) (hd : (arg == ("__debug__" : Str)) = false) (hcd : (arg == ("__classdict__" : Str)) = false) :
    FnOk P w K mg base CX0 (k + 1) fI fd ["self", arg] (spXi K f) := by
  refine F.ok S (fun vs H Q E ⟨e, D, y, h, _⟩ => by rw [h]; rfl) fun cdv A outer s H vs Q E hr ⟨e, D, y, ev, T, no, he, q⟩ => ?_
  subst ev
  rw [hb]
  refine ⟨_, pss_one (ps_ost (pe_var (i := 0) rfl (.inl hl1) (by decide) (by decide)) (pe_var (i := 1) rfl (.inl hl2) hd hcd)), ?_⟩
  exact ⟨y, rfl, .ref e, rfl, e, D, rfl, T, no, .inl ⟨he, fun dx n ne => q dx n ne⟩⟩
theorem raised_eq {H : Hp} {a dx D : Addr} {f : Str} {y : V} (na : H a = none) (ne : dx ≠ a) :
    upd (L2.del (upd (upd (upd H a (exo a D none)) dx (exd dx [(f, y)])) a (exo a D (some dx))) a) dx (.xd [(f, y)]) = upd H dx (.xd [(f, y)]) := by
  funext b
  by_cases h1 : b = dx
  · subst h1; rw [upd_same, upd_same]
  · rw [upd_ne h1, upd_ne h1]
    by_cases h2 : b = a
    · subst h2; rw [del_same, na]
    · rw [del_ne h2, upd_ne h2, upd_ne h1, upd_ne h2]
section
variable {X : Cx} {C : Cf} {cl : CL} {Wx : WX} {k c : Nat} {fa : Addr} {fd : FuncData} {x arg : Str} {p pos pos2 : Pos} {e : Expr} {xe : Ex} {b : Sx}
theorem psv_rai (hK : C.K = X.K) (hc : X.calm = true) (tk : Takes X Wx) (T : OexC X.K (C.ca c)) (iC : PySem.W.findIn X.K (.ref (C.ca c)) "__init__" = some (some (.ref fa))) (tI : PySem.W.typeIn X.K (.ref fa) = some (.type "function"))
    (F : FnOk X.prog X.w X.K X.mg X.base CX0 k fa fd ["self", arg] (spXi X.K (C.xf c))) (hno : PySem.W.findIn X.K (.ref (C.ca c)) (C.xf c) = some none) (hr : Room (k + 1) X.A) (hb : Binds X.K fd ["self", arg] []) (hg : Gl X x) (hm : X.mg x = some (.ref (C.ca c)))
    (he : PE X e (tev C cl Wx xe)) (hdb : (x == ("__debug__" : Str)) = false) (hs : starEach [e] X.env = (false, eval e X.env) :: starEach [] X.env) (hpl : (backTo pos (starEach [] X.env)).any (·.1) = false) :
    PS X (.Raise (some (.Call (.Name x p) [e] [] pos)) none pos2) (tst C cl Wx (sRai c xe)) := by
  have ha : PA X [e] (tes C cl Wx (xsCons xe xsNil)) := pas_cons he pas_nil hs
  refine PS.imp (ps_raise hc tk (pmk_oex (ds := []) (dvs := []) T iC tI F hr hb .nil pass0 hg hm ha hdb hs hpl)) fun D σ H ⟨γ, σw, h, sl, hcc, q⟩ => ⟨γ, σw, h, sl, hcc, ?_⟩
  unfold sRai at q
  unfold xsCons xsNil
  rcases st_cases sl q with ⟨w, h1, ea, q⟩ | ⟨cc, aa, h1, ea, q⟩
  · rw [ea]
    intro γ1 vs H1 e1 k1 c1 r1
    obtain ⟨v, rfl, rv⟩ := one_rw r1
    refine ⟨by simp, fun a na => ⟨a, C.ca c, v, rfl, T, hno, upd_same, fun dx nd ne => ⟨rfl, dx, _, upd_same, by rw [upd_ne ne, upd_same], ?_, ?_⟩⟩⟩
    · rw [upd_ne ne] at nd; exact nd
    · rw [raised_eq na ne]
      have nd' : H1 dx = none := by rw [upd_ne ne] at nd; exact nd
      obtain ⟨e2, k2, c2, _⟩ := c1.lay (o := .xd [(C.xf c, v)]) nd' (fun y z => by cases z)
      exact q _ σ _ _ _ (e1.trans k1 e2) (k1.trans e1 k2) c2 (sl.ext (e1.trans k1 e2)) ⟨rfl, dx, v, rfl, upd_same, e2.rw rv⟩
  · rw [ea]; exact q
def tevX (C : Cf) (cl : CL) (i : Nat) (tab : List (Nat × Bool)) (a : Addr) (cls : Value) (d : Option Addr) (x : Option W → Ex) : TE := fun σ H Q => ∃ γ σw h c' ao, SL C γ σw σ ∧ HC C γ h H ∧ tab.lookup c' = some true ∧ σ[i]? = some (some (.ref a)) ∧ RX C γ H c' ao cls d ∧ PoE C γ H (x ao cl σw h) Q (fun _ _ _ => False)
def tesX (C : Cf) (cl : CL) (i : Nat) (tab : List (Nat × Bool)) (a : Addr) (cls : Value) (d : Option Addr) (x : Option W → Exs) : TA := fun σ H Q => ∃ γ σw h c' ao, SL C γ σw σ ∧ HC C γ h H ∧ tab.lookup c' = some true ∧ σ[i]? = some (some (.ref a)) ∧ RX C γ H c' ao cls d ∧ PoEs C γ H (x ao cl σw h) Q (fun _ _ _ => False)
def tstX (C : Cf) (cl : CL) (i : Nat) (tab : List (Nat × Bool)) (x : Option W → Sx) (a : Addr) (cls : Value) (d : Option Addr) : TS := fun D σ H => ∃ γ σw h c' ao, SL C γ σw σ ∧ HC C γ h H ∧ tab.lookup c' = some true ∧ σ[i]? = some (some (.ref a)) ∧ RX C γ H c' ao cls d ∧ PoS C γ H (x ao cl σw h) D WF
section
variable {X' : Cx} {i : Nat} {tab : List (Nat × Bool)} {a : Addr} {cls : Value} {d : Option Addr} {oe : Obj} {pn : List (Addr × Obj)} {f n : Str} {es : List Expr} {xX : Option W → Ex} {xsX : Option W → Exs}
theorem pvX_of (h : PE X' e (tev C cl WF xe)) : PE X' e (tevX C cl i tab a cls d (fun _ => xe)) := PE.imp h fun σ H Q ⟨γ, σw, h, c', ao, sl, hc, _, _, _, p⟩ => ⟨γ, σw, h, sl, hc, p⟩
theorem psX_of {l : List Stmt} (h : PSs X' l (tst C cl WF b)) : PSs X' l (tstX C cl i tab (fun _ => b) a cls d) := PSs.imp h fun D σ H ⟨γ, σw, h, c', ao, sl, hc, _, _, _, p⟩ => ⟨γ, σw, h, sl, hc, p⟩
theorem pvX_attr (hK : C.K = X.K) (T : ∀ c', tab.lookup c' = some true → XfC X.K (C.ca c') ∧ PySem.W.findIn X.K (.ref (C.ca c')) f = some none ∧ C.xf c' = f) (hz : Zc cls d oe) (hf : ∃ vs, oe.data = .fields vs)
    (hn : PE (X.suite a ((a, oe) :: pn)) (.Name n p) (tVar i)) (hb : attributeBase (.Name n p) f X.env (eval (.Name n p) X.env) = eval (.Name n p) X.env) :
    PE (X.suite a ((a, oe) :: pn)) (.Attribute (.Name n p) f pos) (tevX C cl i tab a cls d xExc) := ⟨fun pins s σ H Q I ⟨γ, σw, h, c', ao, sl, hc, ht, hi, rx, q⟩ => by
  obtain ⟨t1, t2, t3⟩ := T c' ht
  refine (pe_xf t1 t2 hz hf hn hb).run pins s σ H Q I ⟨.ref a, hi, rfl, rx.1, ?_⟩
  have r2 := rx.2
  unfold xExc at q
  cases ao with
  | none => exact q.elim
  | some w =>
    obtain ⟨dd, v, e1, e2, e3⟩ := r2
    rw [t3] at e2
    exact ⟨dd, _, v, e1, e2, by simp, PoE.here q hc e3⟩⟩
theorem psX_set {j : Nat} {y : Str} {pos' : Pos} (hN : X'.N.Nodup) (hj : X'.N[j]? = some y) (hy : Loc X'.env.scope y) (he : PE X' e (tevX C cl i tab a cls d xX)) (hs : swapsWith e (some (.Name y pos')) pos.line X'.env = pure false) (hf : X'.fn y = true ∨ X'.env.scope.names.lookup y = some .local) :
    PSs X' [.Assign [.Name y pos'] e pos] (tstX C cl i tab (fun o => sAsg (tName j) (xX o)) a cls d) := PSs.imp (pss_one (ps_set hN hj hy he hs hf)) fun D σ H ⟨γ, σw, h, c', ao, sl, hc, ht, hi, rx, q⟩ => by
  refine ⟨γ, σw, h, c', ao, sl, hc, ht, hi, rx, ?_⟩
  unfold sAsg at q
  rcases st_cases sl q with ⟨w, h1, ea, q⟩ | ⟨cc, aa, h1, ea, q⟩
  · rw [ea]
    intro γ1 v H1 e1 k1 c1 r1
    have q1 := PoS.step q e1 k1
    refine gname_of (C := C) (cl := cl) ⟨γ1, σw, h1, w, sl.ext e1, c1, r1, ?_⟩
    cases et : tName j cl w σw h1 with
    | no => rw [et] at q1; exact q1.elim
    | exn c a h2 => rw [et] at q1; exact q1.elim
    | ok σ1 h2 => rw [et] at q1; exact fun γ2 σ2 H2 e2 k2 c2 s2 _ => q1 γ2 σ2 H2 e2 k2 c2 s2
  · rw [ea]; exact q
theorem psX_ret (he : PE X' e (tevX C cl i tab a cls d xX)) : PSs X' [.Return (some e) pos] (tstX C cl i tab (fun o => sRet (xX o)) a cls d) := PSs.imp (pss_one (ps_ret he)) fun D σ H ⟨γ, σw, h, c', ao, sl, hc, ht, hi, rx, q⟩ => by
  refine ⟨γ, σw, h, c', ao, sl, hc, ht, hi, rx, ?_⟩
  unfold sRet at q
  rcases st_cases sl q with ⟨w, h1, ea, q⟩ | ⟨cc, aa, h1, ea, q⟩ <;> rw [ea] <;> exact q
end
theorem psv_tryAs {i : Nat} {n : Str} {tab : List (Nat × Bool)} {cv : Value} {body suite : List Stmt} {b₀ : Stmt} {np pos pos' : Pos} {sx : Option W → Sx} (hs : X.stack = X.env :: X.outer) (hf : X.env.frame = some X.env.locals) (hN : X.N.Nodup) (hi : X.N[i]? = some n) (hln : X.env.kindOf n = some .local) (hc : Names X x cv) (tk : Takes X Wx)
    (htab : ∀ c' t, tab.lookup c' = some t → PySem.W.exmOne X.K (.ref (C.ca c')) cv = some t)
    (hb : ∀ (W : WX) (pn : List (Addr × Obj)) (xe : Value → Shared → Prop), Takes (X.tr pn xe) W → PassesOwn (model X.prog X.w) X.A X.env xe → PSs (X.tr pn xe) body (tst C cl W b))
    (hsu : ∀ (a : Addr) (oe : Obj) (cls : Value) (d : Option Addr) (pn : List (Addr × Obj)), Zc cls d oe → (∃ vs, oe.data = .fields vs) → PSs (X.suite a ((a, oe) :: pn)) (b₀ :: suite) (tstX C cl i tab sx a cls d)) :
    PS X (.Try body [.ExceptHandler (some (.Name x np)) (some n) (b₀ :: suite) pos'] [] [] pos) (tst C cl Wx (sTryAs tab i sx b)) := by
  refine PS.imp (ps_try_as hs hf hN hi hln hc tk hb hsu) fun D σ H ⟨γ, σw, h, sl, hcc, q⟩ => ⟨γ, σw, h, sl, hcc, ?_⟩
  unfold sTryAs at q
  cases eb : b cl σw h with
  | no => rw [eb] at q; exact q
  | ok fl h1 => rw [eb] at q; cases fl <;> exact q
  | exn c' ao σ1 h1 =>
    rw [eb] at q
    dsimp only at q
    intro γ1 σ' H1 cls d e1 k1 c1 s1 rx
    have q1 := PoS.step q e1 k1
    cases et : tab.lookup c' with
    | none => rw [et] at q1; exact q1.elim
    | some t =>
      rw [et] at q1
      refine ⟨t, by rw [rx.1]; exact htab c' t et, fun e a na => ?_, fun e => ?_⟩
      · subst e
        dsimp only at q1
        by_cases hlt : Nat.blt i σ1.length = true
        · rw [if_pos hlt] at q1
          have hl : i < σ'.length := by rw [← s1.1]; exact Nat.le_of_ble_eq_true hlt
          refine ⟨γ1, σ1.set i none, h1, c', ao, ?_, c1, et, by rw [List.getElem?_set_self hl], rx, ?_⟩
          · refine ⟨by simp [s1.1], fun j u e => ?_⟩
            have z := (s1.setN i).2 j u e
            by_cases hj : i = j
            · subst hj
              rw [List.getElem?_set_self (by rw [s1.1]; exact hl)] at e; cases e
            · rw [List.getElem?_set_ne hj] at z ⊢
              exact z
          · cases es : sx ao cl (σ1.set i none) h1 with
            | no => rw [es] at q1; exact q1.elim
            | exn c2 a2 σ2 h2 => rw [es] at q1; exact q1.elim
            | ok fl h2 =>
              rw [es] at q1
              cases fl with
              | nx σ2 => exact fun γ2 σ3 H2 e2 k2 c2 s2 => q1 γ2 _ H2 e2 k2 c2 (s2.setN i)
              | brk σ2 => exact fun γ2 σ3 H2 e2 k2 c2 s2 => q1 γ2 _ H2 e2 k2 c2 (s2.setN i)
              | ret w => exact q1
        · rw [if_neg hlt] at q1; exact q1.elim
      · subst e
        exact q1 γ1 σ' H1 cls d (Ext.refl _ _) (Keep.refl _ _) c1 s1 rx
theorem pmk0 {D : Addr} {bmB : List Value} {B newId initId : String} (F : ExcBaseFacts B newId initId bmB) (q : PySem.W.excIn X.K D bmB newId = true) (gC : X.mg x = some (.ref D)) (kC : PySem.W.keepIn X.K (.ref D) = true) (r : Raises X (.ref D)) (hg : Gl X x)
    (hdb : (x == ("__debug__" : Str)) = false) : PMk X (.Call (.Name x p) [] [] pos) (fun _ H Q => Q (.ref D) none H) := by
  intro pins s σ H Q I h
  refine wpAny_Call_Name_kw (ld_glob I hg gC ?_ hdb)
  refine PySem.W.callWith_K0 I.kIn kC ?_
  show wpAny _ _ (call (.ref D) []) _ _ _
  obtain ⟨bm, N, nm, qn, bs, hdct, sn, sub, ab, col, dd, k0, k1, k2, k3, k5, mN, hC, hN, hni, T⟩ := exc_obj I.kIn q
  exact wpAny_call_exc_subT F T hC hN hni (fun h' e hm => mk_of I hm r h (I.hok.gone hm.new)) (Nat.zero_le _)
theorem psv_rai0 {bmB : List Value} {B newId initId : String} (hc : X.calm = true) (tk : Takes X Wx) (F : ExcBaseFacts B newId initId bmB) (q : PySem.W.excIn X.K (C.ca c) bmB newId = true) (gC : X.mg x = some (.ref (C.ca c))) (kC : PySem.W.keepIn X.K (.ref (C.ca c)) = true)
    (r : Raises X (.ref (C.ca c))) (hg : Gl X x) (hdb : (x == ("__debug__" : Str)) = false) : PS X (.Raise (some (.Call (.Name x p) [] [] pos)) none pos2) (tst C cl Wx (sRai0 c)) :=
  PS.imp (ps_raise hc tk (pmk0 F q gC kC r hg hdb)) fun D σ H ⟨γ, σw, h, sl, hcc, q⟩ => q γ σ H _ _ (Ext.refl _ _) (Keep.refl _ _) hcc sl ⟨rfl, trivial⟩
theorem psv_try1 {tab : List (Nat × Bool)} {cv : Value} {body suite : List Stmt} {b₀ : Stmt} {np pos pos' : Pos} {sx : Sx} (hs : X.stack = X.env :: X.outer) (hf : X.env.frame = some X.env.locals) (hc : Names X x cv) (tk : Takes X Wx)
    (htab : ∀ c' t, tab.lookup c' = some t → PySem.W.exmOne X.K (.ref (C.ca c')) cv = some t)
    (hb : ∀ (W : WX) (pn : List (Addr × Obj)) (xe : Value → Shared → Prop), Takes (X.tr pn xe) W → PassesOwn (model X.prog X.w) X.A X.env xe → PSs (X.tr pn xe) body (tst C cl W b))
    (hsu : ∀ (a : Addr) (oe : Obj) (pn : List (Addr × Obj)), PSs (X.suite a ((a, oe) :: pn)) (b₀ :: suite) (tst C cl WF sx)) :
    PS X (.Try body [.ExceptHandler (some (.Name x np)) none (b₀ :: suite) pos'] [] [] pos) (tst C cl Wx (sTry1 tab sx b)) := by
  refine PS.imp (ps_try_only (ts := fun _ _ _ => tst C cl WF sx) hs hf hc tk hb fun a oe cls d pn _ _ => hsu a oe pn) fun D σ H ⟨γ, σw, h, sl, hcc, q⟩ => ⟨γ, σw, h, sl, hcc, ?_⟩
  unfold sTry1 at q
  cases eb : b cl σw h with
  | no => rw [eb] at q; exact q
  | ok fl h1 => rw [eb] at q; cases fl <;> exact q
  | exn c' ao σ1 h1 =>
    rw [eb] at q
    dsimp only at q
    intro γ1 σ' H1 cls d e1 k1 c1 s1 rx
    have q1 := PoS.step q e1 k1
    cases et : tab.lookup c' with
    | none => rw [et] at q1; exact q1.elim
    | some t =>
      rw [et] at q1
      refine ⟨t, by rw [rx.1]; exact htab c' t et, fun e a na => ?_, fun e => ?_⟩
      · subst e
        dsimp only at q1
        refine ⟨γ1, σ1, h1, s1, c1, ?_⟩
        cases es : sx cl σ1 h1 with
        | no => rw [es] at q1; exact q1.elim
        | exn c2 a2 σ2 h2 => rw [es] at q1; exact q1.elim
        | ok fl h2 => rw [es] at q1; cases fl <;> exact q1
      · subst e
        exact q1 γ1 σ' H1 cls d (Ext.refl _ _) (Keep.refl _ _) c1 s1 rx
end
end Ov
namespace Ov
open PySem PySem.Spec PyProof.Rows L2
def nil : Hp := fun _ => none
theorem callerA_guards : callerA.guards = some [] := by first | rfl | decide
theorem law_free {P : Program} {w : World} {K : PySem.W.Frag} {mg mb : Str → Option Value} {k : Nat} {fa : Addr} {fd : FuncData} {x : Str} {sp : Sp} {s : Shared} {u : Value} {v : V}
    (KX : K.In s.heap) (hns : s.heap.Ns mainGlobals mg) (hb : s.heap.Ns builtinsNs mb) (hbb : ∀ x : Str, x ≠ "__name__" → mb x = bootBuiltins x) (hlim : s.heap.NoLimit) (hg : s.gens = #[]) (hr : Room k callerA)
    (F : FnG P w K mg s.heap k fa fd [x] sp) (hbind : BindsTo s fd ⟨[u], []⟩ [(x, u)]) (r : RelV v u) (hsp : sp [v] nil (fun v _ => v = .bl true) fun _ _ _ => False) :
    codeAny (model P w) callerA (.call (.ref fa) ⟨[u], []⟩) (fun r s' => r = .ok (.ret (.bool true)) ∧ OldK s.heap s'.heap ∧ s'.os = s.os ∧ AllBare s'.gens) s := by
  have e0 : Env0 P w K mg s.heap callerA [] s nil := ⟨rfl, ⟨KX, hns, ⟨mb, hb, hbb⟩, hlim⟩, fun b o e => ⟨e, rfl⟩, Nat.le_refl _, trivial, fun _ _ => rfl, fun a o e => (by cases e), .of_eq hg⟩
  refine codeAny_mono (F.run callerA [] s nil ⟨[u], []⟩ [u] [v] _ _ hr callerA_guards e0 hbind (.cons r .nil) hsp) fun res s' h => ?_
  match res, h with
  | .ok (.ret z), h =>
    obtain ⟨y, H', os, bare, un, _, ry, ey⟩ := h
    have ey' : y = V.bl true := ey
    subst ey'
    have ez : z = Value.bool true := ry
    subst ez
    exact ⟨rfl, OldK.of_keep fun b o e => un.keep b o e rfl (fun m => by cases m) (fun m => by cases m), os, bare⟩
  | .error e, h =>
    obtain ⟨_, _, _, _, _, _, _, _, _, _, _, _, f⟩ := h
    exact f.elim
theorem walk_free {l : PySem.W.OpenLaw} {n k : Nat} {q : Program} {loose : List Str} {XP : (Str → Option Value) → Heap → Prop} {YP : World → Heap → Prop} {d : DefRec} {K : Params → PySem.W.Frag} {x : Str}
    (hn : l.most = some n) (hdf : d.params.defaults = []) (hr : Room k callerA) (hY : ∀ (w : World) (h : Heap), YP w h → (K w.params).In h)
    (F : ∀ (w : World) (mg : Str → Option Value) (fa : Addr) (h : Heap), (K w.params).In h → h.Ns mainGlobals mg → mg d.name = some (.ref fa) →
      ∃ fd : FuncData, (∀ (s : Shared) (u : Value), BindsTo s fd ⟨[u], []⟩ [(x, u)]) ∧ ∃ sp : Sp, (∀ v, sp [v] nil (fun v _ => v = .bl true) fun _ _ _ => False) ∧ FnG l.prog w (K w.params) mg h k fa fd [x] sp) :
    PySem.W.WalkO q loose XP YP l.row.toRowW d [] (fun f vs => PySem.call f vs) := by
  refine Att.attach_call hn hdf fun w s₀ s₁ mg mb fa o pm cd doc a vs ns G Y ho hd hcd hmg hobj hints hlen hg => ?_
  have KX := hY w _ Y
  obtain ⟨fd, hb, sp, hs, hF⟩ := F w mg fa _ KX G.T.g hmg
  exact law_free KX G.T.g G.T.b G.T.builtins G.T.nolimit hg hr hF (hb _ _) (v := .ref a) rfl (hs _)
end Ov
namespace Ov
open PySem PySem.Spec PyProof.Rows L2
def padS (i : Nat) : Str := ⟨Array.replicate (1000 + i) 0⟩
def nmOf (l : List Str) (i : Nat) : Str := match l[i]? with
  | some s => s
  | none => padS i
theorem nmOf_inj {l : List Str} (nd : l.Nodup) (sm : ∀ s ∈ l, s.length < 1000) : ∀ i j, nmOf l i = nmOf l j → i = j := by
  have pl : ∀ i, (padS i).length = 1000 + i := fun i => by show (Array.replicate (1000 + i) 0).size = _; simp
  intro i j e
  unfold nmOf at e
  cases hi : l[i]? with
  | some s =>
    cases hj : l[j]? with
    | some t =>
      rw [hi, hj] at e
      have e' : s = t := e
      subst e'
      obtain ⟨l1, e1⟩ := List.getElem?_eq_some_iff.mp hi
      obtain ⟨l2, e2⟩ := List.getElem?_eq_some_iff.mp hj
      exact (List.getElem_inj nd).mp (e1.trans e2.symm)
    | none =>
      rw [hi, hj] at e
      have e' : s = padS j := e
      have := sm s (List.mem_of_getElem? hi)
      rw [e', pl] at this; omega
  | none =>
    cases hj : l[j]? with
    | some t =>
      rw [hi, hj] at e
      have e' : padS i = t := e
      have := sm t (List.mem_of_getElem? hj)
      rw [← e', pl] at this; omega
    | none =>
      rw [hi, hj] at e
      have e' : padS i = padS j := e
      have := congrArg Str.length e'
      rw [pl, pl] at this; omega
structure Rk (X : Cx) (C : Cf) : Prop where
  hu : X.A.units + 65 < cLine
  gd : X.A.guards = some []
  K : C.K = X.K
  W : C.w = X.w
structure Rm (X : Cx) (C : Cf) (k : Nat) (Wx : WX) : Prop where
  room : Room (2 * k + 2) X.A
  gd : X.A.guards = some []
  K : C.K = X.K
  W : C.w = X.w
  tk : Takes X Wx
  ps : PassesOwn (model X.prog X.w) X.A X.env X.xe
section
variable {X : Cx} {C : Cf} {cl : CL} {k : Nat} {Wx : WX}
theorem Rm.hu (R : Rm X C k Wx) : X.A.units + 65 < cLine := by have := R.room.un; omega
theorem Rm.rk (R : Rm X C k Wx) : Rk X C := ⟨R.hu, R.gd, R.K, R.W⟩
theorem Rk.suite (R : Rk X C) {a : Addr} {pn : List (Addr × Obj)} : Rk (X.suite a pn) C := ⟨R.hu, R.gd, R.K, R.W⟩
theorem Rm.r0 (R : Rm X C k Wx) : Room (2 * k + 1) X.A := R.room.mono (Nat.le_succ _)
theorem Rm.blk (R : Rm X C k Wx) {s : Shared} {H : Hp} {scope : Scope} {ce : Env} {fp : List Addr} : Rm (X.blk s H scope ce fp) C k WF := ⟨R.room, R.gd, R.K, R.W, takes0, PassesOwn.never⟩
theorem Rm.tr (R : Rm X C k Wx) {pn : List (Addr × Obj)} {xe : Value → Shared → Prop} {W : WX} (tk : Takes (X.tr pn xe) W) (ps : PassesOwn (model X.prog X.w) X.A X.env xe) : Rm (X.tr pn xe) C k W := ⟨R.room, R.gd, R.K, R.W, tk, ps⟩
theorem Rm.start {P : Program} {w : World} {C : Cf} {mg : Str → Option Value} {base : Heap} {N : List Str} {qual : Str} {sc : Scope} {fa : Addr} {cdv : Value} {A : Around} {outer : List Env} {s : Shared} {H : Hp} {E : XK} {k : Nat}
    (hr : Room (2 * k + 2) (A.deeper (envOfC qual sc s.heap.objs.size fa cdv))) (hg : A.guards = some []) (hw : C.w = w := by rfl) : Rm (cxOf (L2.CX P w) P w C.K mg base N qual sc fa cdv A outer s H E) C k (fun cls d _ H => E cls d H) :=
  ⟨hr, hg, rfl, hw, takes_of rfl rfl rfl rfl, passes_of rfl⟩
variable {a b c e : Expr} {es : List Expr} {xa xb xc xe : Ex} {xs : Exs} {pos p p2 : Pos}
theorem q_var (i : Nat) {x : Str} (hN : X.N[i]? = some x := by rfl) (hv : Vis X.env.scope x := by first | exact Or.inl rfl | exact Or.inr (Or.inl rfl) | exact Or.inr (Or.inr rfl)) (hd : (x == ("__debug__" : Str)) = false := by decide) (hcd : (x == ("__classdict__" : Str)) = false := by decide) :
    PE X (.Name x pos) (tev C cl Wx (xVar i)) := pv_var hN hv hd hcd
theorem q_int {i : Int} {j} : PE X (.Constant (.int i) j pos) (tev C cl Wx (xCon (.int i))) := PE.imp pe_int fun σ H Q t => con_imp (w := .int i) (fun _ => rfl) t
theorem q_bl {b : Bool} {j} : PE X (.Constant (.bool b) j pos) (tev C cl Wx (xCon (.bl b))) := PE.imp pe_bl fun σ H Q t => con_imp (w := .bl b) (fun _ => rfl) t
theorem q_non {j} : PE X (.Constant .none j pos) (tev C cl Wx (xCon .non)) := PE.imp pe_non fun σ H Q t => con_imp (w := .non) (fun _ => rfl) t
theorem q_str {s : List Nat} {m : Str} {j} (h : m = mkS s := by kernel_rfl) : PE X (.Constant (.str m) j pos) (tev C cl Wx (xCon (.str s))) := by
  subst h
  exact PE.imp pe_str fun σ H Q t => con_imp (w := .str s) (fun _ => rfl) t
theorem q_gstr {s : List Nat} {x : Str} (hm : ∃ t, X.mg x = some (.str (mkS s) t)) (hg : Gl X x := by rfl) (hd : (x == ("__debug__" : Str)) = false := by decide) : PE X (.Name x pos) (tev C cl Wx (xCon (.str s))) := by
  obtain ⟨t, hm⟩ := hm
  exact PE.imp (pe_glob (v := strV s) hg hm ⟨t, rfl⟩ hd) fun σ H Q t => con_imp (w := .str s) (fun _ => rfl) t
theorem q_gint {i : Int} {x : Str} (hm : ∃ t, X.mg x = some (.int i t)) (hg : Gl X x := by rfl) (hd : (x == ("__debug__" : Str)) = false := by decide) : PE X (.Name x pos) (tev C cl Wx (xCon (.int i))) := by
  obtain ⟨t, hm⟩ := hm
  exact PE.imp (pe_glob (v := .int i) hg hm ⟨t, rfl⟩ hd) fun σ H Q t => con_imp (w := .int i) (fun _ => rfl) t
theorem q_bin (R : Rk X C) {o : BOp} {op : Operator} (ha : PE X a (tev C cl Wx xa)) (hb : PE X b (tev C cl Wx xb)) (ho : op = opOf o := by rfl) : PE X (.BinOp a op b pos) (tev C cl Wx (xBin o xa xb)) := pv_bin R.K ho ha hb
theorem q_cmp (R : Rk X C) {o : COp} {op : CmpOp} (ha : PE X a (tev C cl Wx xa)) (hb : PE X b (tev C cl Wx xb)) (ho : op = copOf o := by rfl) (hm : behindInMarks op b = false := by rfl) : PE X (.Compare a [op] [b] pos) (tev C cl Wx (xCmp o xa xb)) := pv_cmp R.hu R.K R.W ho ha hb hm
theorem q_cmpT (R : Rk X C) {o : COp} {op : CmpOp} (ha : PE X a (tev C cl Wx xa)) (hb : PE X b (tev C cl Wx xb)) (ho : op = copOf o := by rfl) (hm : behindInMarks op b = false := by rfl) : PT X (.Compare a [op] [b] pos) (ttv C cl Wx (xCmp o xa xb)) := ptv_cmp R.hu R.K R.W ho ha hb hm
theorem q_chain (R : Rk X C) {o o' : COp} {op op' : CmpOp} (ha : PE X a (tev C cl Wx xa)) (hb : PE X b (tev C cl Wx xb)) (hc : PE X c (tev C cl Wx xc)) (ho : op = copOf o := by rfl) (ho' : op' = copOf o' := by rfl) (hm : lastMarks [op, op'] [b, c] = false := by with_unfolding_all rfl) :
    PE X (.Compare a [op, op'] [b, c] pos) (tev C cl Wx (xChain o o' xa xb xc)) := pv_chain R.hu R.K R.W ho ho' ha hb hc hm
theorem q_chainT (R : Rk X C) {o o' : COp} {op op' : CmpOp} (ha : PE X a (tev C cl Wx xa)) (hb : PE X b (tev C cl Wx xb)) (hc : PE X c (tev C cl Wx xc)) (ho : op = copOf o := by rfl) (ho' : op' = copOf o' := by rfl) (hm : lastMarks [op, op'] [b, c] = false := by with_unfolding_all rfl) :
    PT X (.Compare a [op, op'] [b, c] pos) (ttv C cl Wx (xChain o o' xa xb xc)) := ptv_chain R.hu R.K R.W ho ho' ha hb hc hm
theorem q_T (ha : PE X a (tev C cl Wx xa)) (he : ∀ whole, isTrue a X.env whole = (do let v ← whole; standAt a.pos; holding [v] (truthy v)) := by intro _; rfl) : PT X a (ttv C cl Wx xa) := pt_plain ha he
theorem q_bool {t : Ex} (h : PW X (.BoolOp op es pos) (ttv C cl Wx t)) : PT X (.BoolOp op es pos) (ttv C cl Wx t) := h.pt
theorem q_cons (ha : PE X a (tev C cl Wx xa)) (hr : PA X es (tes C cl Wx xs)) (hs : starEach (a :: es) X.env = (false, eval a X.env) :: starEach es X.env := by rfl) : PA X (a :: es) (tes C cl Wx (xsCons xa xs)) := pas_cons ha hr hs
theorem q_idx (R : Rk X C) (ha : PE X a (tev C cl Wx xa)) (hb : PE X b (tev C cl Wx xb)) (hs : PlainIx b := by intro _ _; rfl) : PE X (.Subscript a b pos) (tev C cl Wx (xIdx xa xb)) := pv_idx (by have := R.hu; omega) R.W R.K ha hb hs
theorem q_slc (R : Rk X C) {m : Bool} {lo hi : Option Expr} {xl xh : Exo} (ha : PE X a (tev C cl Wx xa)) (hl : PO X lo (teo C cl Wx xl)) (hu : PO X hi (teo C cl Wx xh)) : PE X (.Subscript a (.Slice lo hi none p2) pos) (tev C cl Wx (xSlc m xa xl xh)) := pv_slc R.K ha hl hu
theorem q_attr (R : Rk X C) {cs : List Nat} {nm : Nat} {f : Str} (inj : ∀ i j, C.nm i = C.nm j → i = j) (hcs : ∀ k ∈ cs, Cls X.K (C.ca k) ∧ NoAttr X.K (C.ca k) f) (he : PE X e (tev C cl Wx xe)) (hf : C.nm nm = f := by rfl) (hb : attributeBase e f X.env (eval e X.env) = eval e X.env := by rfl) :
    PE X (.Attribute e f pos) (tev C cl Wx (xAttr cs nm xe)) := pv_attr R.K inj hf hcs he hb
theorem q_B (id : String) {g : Gf} {x : Str} (hc : CallR X (.builtin id) (rG C g)) (hm : X.mg x = none) (ha : PA X (a :: es) (tes C cl Wx xs)) (hv : bootBuiltins x = some (.builtin id) := by decide +kernel) (hg : Gl X x := by rfl) (hn : x ≠ "__name__" := by decide) (hdb : (x == ("__debug__" : Str)) = false := by decide)
    (he : starEach (a :: es) X.env = (false, eval a X.env) :: starEach es X.env := by rfl) (hpl : (backTo pos (starEach es X.env)).any (·.1) = false := by rfl) : PE X (.Call (.Name x p) (a :: es) [] pos) (tev C cl Wx (xF g xs)) := pv_B hc hg hm hv ha hn hdb he hpl
theorem q_Ty (T : String) {g : Gf} {x : Str} (hc : CallR X (.type T) (rG C g)) (hm : X.mg x = none) (ha : PA X (a :: es) (tes C cl Wx xs)) (hv : bootBuiltins x = some (.type T) := by decide +kernel) (hg : Gl X x := by rfl) (hn : x ≠ "__name__" := by decide) (hdb : (x == ("__debug__" : Str)) = false := by decide)
    (he : starEach (a :: es) X.env = (false, eval a X.env) :: starEach es X.env := by rfl) (hpl : (backTo pos (starEach es X.env)).any (·.1) = false := by rfl) : PE X (.Call (.Name x p) (a :: es) [] pos) (tev C cl Wx (xF g xs)) := pv_T hc hg hm hv ha hn hdb he hpl
theorem q_isTy (R : Rk X C) {ty : Str} (t : Ty) (hm : X.mg "isinstance" = none) (hm2 : X.mg ty = none) (ha : PE X a (tev C cl Wx xa)) (hg : Gl X "isinstance" := by rfl) (hg2 : Gl X ty := by rfl) (hv2 : bootBuiltins ty = some (.type (tyName t)) := by decide +kernel) (hn2 : ty ≠ "__name__" := by decide) (hd2 : (ty == ("__debug__" : Str)) = false := by decide)
    (he : starEach [a, .Name ty p2] X.env = (false, eval a X.env) :: starEach [.Name ty p2] X.env := by rfl) (he2 : starEach [.Name ty p2] X.env = (false, eval (.Name ty p2) X.env) :: starEach [] X.env := by rfl) (hpl : (backTo pos (starEach [.Name ty p2] X.env)).any (·.1) = false := by rfl) :
    PE X (.Call (.Name "isinstance" p) [a, .Name ty p2] [] pos) (tev C cl Wx (xF (gIsTy t) (xsCons xa xsNil))) := pv_isTy R.K hg hm hg2 hm2 hv2 hn2 hd2 ha he he2 hpl
theorem q_M (R : Rk X C) {kd : Kd} {g : Gm} {name : Str} {id : String} {apos : Pos} (pa : PlainAttrs (kdT kd)) (slot : Slot (kdT kd) name id) (hty : typeOf (.builtin id) = pure (.type "method_descriptor")) (hm : MtR X id (rM C g)) (ho : PE X a (tev C cl Wx xa)) (ha : PA X (e :: es) (tes C cl Wx xs))
    (hbase : attributeBase a name X.env (eval a X.env) = eval a X.env := by rfl)
    (hfew : ((backTo pos (starEach (e :: es) X.env)).all (fun x => !x.1) && (backToKw pos (keywordEach [] X.env)).all (fun x => x.1.isSome)
      && decide ((e :: es).length + ([] : List Keyword).length + (if ([] : List Keyword).isEmpty then 0 else 1) < 30)) = true := by rfl)
    (hline : (apos.endLine == pos.line) = true := by rfl) (hs : starEach (e :: es) X.env = (false, eval e X.env) :: starEach es X.env := by rfl) (hpl : (backTo pos (starEach es X.env)).any (·.1) = false := by rfl) :
    PE X (.Call (.Attribute a name apos) (e :: es) [] pos) (tev C cl Wx (xM kd g xa xs)) := pv_M R.K pa slot hty hm ho ha hbase hfew hline hs hpl
theorem q_call (R : Rm X C k Wx) {f : Nat} {fa : Addr} {fd : FuncData} {ps : List Str} {x : Str} (F : FnG X.prog X.w X.K X.mg X.base (2 * k + 1) fa fd ps (spC C cl f)) (hb : Binds X.K fd ps []) (hm : X.mg x = some (.ref fa)) (hk : PySem.W.keepIn X.K (.ref fa) = true)
    (ha : PA X (a :: es) (tes C cl Wx xs)) (hg : Gl X x := by rfl) (hdb : (x == ("__debug__" : Str)) = false := by decide) (he : starEach (a :: es) X.env = (false, eval a X.env) :: starEach es X.env := by rfl) (hpl : (backTo pos (starEach es X.env)).any (·.1) = false := by rfl) :
    PE X (.Call (.Name x p) (a :: es) [] pos) (tev C cl Wx (xCall f xs)) := pv_call F R.r0 R.gd hb R.tk hg hm hk ha hdb he hpl
theorem q_call0 (R : Rm X C k Wx) {f : Nat} {fa : Addr} {fd : FuncData} {ps : List Str} {x : Str} (F : FnG X.prog X.w X.K X.mg X.base (2 * k + 1) fa fd ps (spC C cl f)) (hb : Binds X.K fd ps []) (hm : X.mg x = some (.ref fa)) (hk : PySem.W.keepIn X.K (.ref fa) = true)
    (hg : Gl X x := by rfl) (hdb : (x == ("__debug__" : Str)) = false := by decide) : PE X (.Call (.Name x p) [] [] pos) (tev C cl Wx (xCall f xsNil)) := pv_call0 F R.r0 R.gd hb R.tk hg hm hk hdb
theorem q_new (R : Rm X C k Wx) {c f : Nat} {fz : Bool} {fa : Addr} {fd : FuncData} {ps : List Str} {x : Str} (M : Mk X.K (C.ca c) fa) (F : FnG X.prog X.w X.K X.mg X.base (2 * k + 1) fa fd ps (spC C cl f)) (hb : Binds X.K fd ps []) (hm : X.mg x = some (.ref (C.ca c)))
    (ha : PA X (a :: es) (tes C cl Wx xs)) (hg : Gl X x := by rfl) (hdb : (x == ("__debug__" : Str)) = false := by decide) (he : starEach (a :: es) X.env = (false, eval a X.env) :: starEach es X.env := by rfl) (hpl : (backTo pos (starEach es X.env)).any (·.1) = false := by rfl) :
    PE X (.Call (.Name x p) (a :: es) [] pos) (tev C cl Wx (xNew c f fz xs)) := pv_new M F R.room R.gd hb R.tk hg hm ha hdb he hpl
theorem q_static (R : Rm X C k Wx) {f : Nat} {D q fa : Addr} {fd : FuncData} {ps : List Str} {x m : Str} {apos : Pos} {pl : Sem Bool} (S : SMet X.K D m q fa) (F : FnG X.prog X.w X.K X.mg X.base (2 * k + 1) fa fd ps (spC C cl f)) (hb : Binds X.K fd ps []) (hm : X.mg x = some (.ref D))
    (ha : PA X (a :: es) (tes C cl Wx xs)) (hg : Gl X x := by rfl) (hdb : (x == ("__debug__" : Str)) = false := by decide) (he : starEach (a :: es) X.env = (false, eval a X.env) :: starEach es X.env := by rfl) (hpl : (backTo pos (starEach es X.env)).any (·.1) = false := by rfl)
    (ht : eval (.Call (.Attribute (.Name x p) m apos) (a :: es) [] pos) X.env = (do
      let ov ← eval (.Name x p) X.env
      standAt apos.atName
      let (f, first) ← holding [ov] (getMethod ov m pl)
      callWith pos f first (backTo pos (starEach (a :: es) X.env)) (backToKw pos (keywordEach [] X.env))) := by rfl) :
    PE X (.Call (.Attribute (.Name x p) m apos) (a :: es) [] pos) (tev C cl Wx (xCall f xs)) := pv_static S F R.r0 R.gd hb R.tk hg hm ha hdb he hpl ht
theorem q_um (R : Rm X C k Wx) {tab : List (Nat × Nat)} {nm : Nat} {m : Str} {apos : Pos} {pl : Sem Bool} (inj : ∀ i j, C.nm i = C.nm j → i = j) (U : UmOk X C cl (2 * k + 1) m tab) (ho : PE X b (tev C cl Wx xb)) (ha : PA X (a :: es) (tes C cl Wx xs)) (hf : C.nm nm = m := by rfl)
    (he : starEach (a :: es) X.env = (false, eval a X.env) :: starEach es X.env := by rfl) (hpl : (backTo pos (starEach es X.env)).any (·.1) = false := by rfl)
    (ht : eval (.Call (.Attribute b m apos) (a :: es) [] pos) X.env = (do
      let ov ← eval b X.env
      standAt apos.atName
      let (f, first) ← holding [ov] (getMethod ov m pl)
      callWith pos f first (backTo pos (starEach (a :: es) X.env)) (backToKw pos (keywordEach [] X.env))) := by rfl) :
    PE X (.Call (.Attribute b m apos) (a :: es) [] pos) (tev C cl Wx (xUm tab nm xb xs)) := pv_um R.K inj hf U R.r0 R.gd R.tk ho ha he hpl ht
theorem q_um0 (R : Rm X C k Wx) {tab : List (Nat × Nat)} {nm : Nat} {m : Str} {apos : Pos} {pl : Sem Bool} (inj : ∀ i j, C.nm i = C.nm j → i = j) (U : UmOk X C cl (2 * k + 1) m tab) (ho : PE X b (tev C cl Wx xb)) (hf : C.nm nm = m := by rfl)
    (ht : eval (.Call (.Attribute b m apos) [] [] pos) X.env = (do
      let ov ← eval b X.env
      standAt apos.atName
      let (f, first) ← holding [ov] (getMethod ov m pl)
      callWith pos f first (backTo pos (starEach [] X.env)) (backToKw pos (keywordEach [] X.env))) := by rfl) :
    PE X (.Call (.Attribute b m apos) [] [] pos) (tev C cl Wx (xUm tab nm xb xsNil)) := pv_um0 R.K inj hf U R.r0 R.gd R.tk ho ht
variable {tg : Expr} {elts : List Expr} {kk : Nat} {tpos : Pos} {vs : List Nat} {t : Tx} {ts : Txs}
theorem q_seq (ha : PE X e (tev C cl Wx xe)) : PI X tg e (tit C cl Wx .seq (xsCons xe xsNil)) := piv_seq ha
theorem q_enum (hm : X.mg "enumerate" = none) (ha : PE X e (tev C cl Wx xe)) (hg : Gl X "enumerate" := by rfl) (hs : starEach [e] X.env = [(false, eval e X.env)] := by rfl) :
    PI X (.Tuple elts kk tpos) (.Call (.Name "enumerate" p) [e] [] pos) (tit C cl Wx .enum (xsCons xe xsNil)) := piv_enum hg hm (pas_cons ha pas_nil hs) hs
theorem q_zip (hm : X.mg "zip" = none) (ha : PE X a (tev C cl Wx xa)) (hb : PE X b (tev C cl Wx xb)) (hg : Gl X "zip" := by rfl) (hs : starEach [a, b] X.env = (false, eval a X.env) :: starEach [b] X.env := by rfl) (hs2 : starEach [b] X.env = (false, eval b X.env) :: starEach [] X.env := by rfl) (hpl : (backTo pos (starEach [b] X.env)).any (·.1) = false := by rfl) :
    PI X (.Tuple elts kk tpos) (.Call (.Name "zip" p) [a, b] [] pos) (tit C cl Wx .zip (xsCons xa (xsCons xb xsNil))) := piv_zip hg hm (pas_cons ha (pas_cons hb pas_nil hs2) hs) hs hpl
theorem q_rng1 (hm : X.mg "range" = none) (ha : PE X e (tev C cl Wx xe)) (hg : Gl X "range" := by rfl) (hs : starEach [e] X.env = [(false, eval e X.env)] := by rfl) :
    PI X tg (.Call (.Name "range" p) [e] [] pos) (tit C cl Wx .range (xsCons xe xsNil)) := piv_range1 hg hm (pas_cons ha pas_nil hs) hs
theorem q_rng2 (hm : X.mg "range" = none) (ha : PE X a (tev C cl Wx xa)) (hb : PE X b (tev C cl Wx xb)) (hg : Gl X "range" := by rfl) (hs : starEach [a, b] X.env = [(false, eval a X.env), (false, eval b X.env)] := by rfl) (hs2 : starEach [b] X.env = [(false, eval b X.env)] := by rfl) :
    PI X tg (.Call (.Name "range" p) [a, b] [] pos) (tit C cl Wx .range2 (xsCons xa (xsCons xb xsNil))) := piv_range2 hg hm (pas_cons ha (pas_cons hb pas_nil hs2) (hs.trans (by rw [hs2]))) hs hs2
theorem g_name (i : Nat) {x : Str} (hN : X.N.Nodup) (hi : X.N[i]? = some x := by rfl) (hx : Loc X.env.scope x := by first | exact Or.inl rfl | exact Or.inr rfl) (hf : X.fn x = true ∨ X.env.scope.names.lookup x = some .local := by first | exact .inl rfl | exact .inr rfl) (hv : i ∈ vs := by decide) : PG X (.Name x pos) (ttg' C cl vs (tName i)) := pgv_name hN hi hx hf hv
theorem g_cons (h1 : PG X e (ttg' C cl vs t)) (h2 : PGs X es (ttgs C cl vs ts)) (hs : (assignEach (e :: es) X.env).map (·.2) = assign e X.env :: (assignEach es X.env).map (·.2) := by rfl) : PGs X (e :: es) (ttgs C cl vs (tsCons t ts)) := pgvs_cons h1 h2 hs
theorem g_tup {n kk : Nat} (h : PGs X es (ttgs C cl vs ts)) (hn : (assignEach es X.env).length = n := by rfl) (hst : (assignEach es X.env).findIdx? (·.1) = none := by rfl) (hc : X.calm = true := by rfl) : PG X (.Tuple es kk pos) (ttg' C cl vs (tTup n ts)) := pgv_tup hc h hn hst
variable {st : Stmt} {body rest : List Stmt} {sa sb : Sx}
theorem q_set (i : Nat) {x : Str} (hN : X.N.Nodup) (he : PE X e (tev C cl Wx xe)) (hi : X.N[i]? = some x := by rfl) (hx : Loc X.env.scope x := by first | exact Or.inl rfl | exact Or.inr rfl) (hs : swapsWith e (some (.Name x p)) pos.line X.env = pure false := by rfl) (hf : X.fn x = true ∨ X.env.scope.names.lookup x = some .local := by first | exact .inl rfl | exact .inr rfl) :
    PS X (.Assign [.Name x p] e pos) (tst C cl Wx (sAsg (tName i) xe)) := psv_set hN hi hx he hs hf
theorem q_asg (vs : List Nat) (he : PE X e (tev C cl Wx xe)) (hg : PG X tg (ttg' C cl vs t)) (hs : swapsWithSole [tg] e pos.line X.env = pure false := by rfl) (hw : swappedStores [tg] e X.env = pure none := by rfl) (h1 : (assignEach [tg] X.env).map (·.2) = [assign tg X.env] := by rfl) :
    PS X (.Assign [tg] e pos) (tst C cl Wx (sAsg t xe)) := psv_asg he hg hs hw h1
theorem q_fld (R : Rm X C k Wx) {cs : List Nat} {nm : Nat} {ff : Str} (inj : ∀ i j, C.nm i = C.nm j → i = j) (hcs : ∀ c ∈ cs, Cls X.K (C.ca c) ∧ NoAttr X.K (C.ca c) ff) (ho : PE X a (tev C cl Wx xa)) (he : PE X e (tev C cl Wx xe)) (hf : C.nm nm = ff := by rfl)
    (hs : swapsWith e (some (.Attribute a ff p)) pos.line X.env = pure false := by rfl) : PS X (.Assign [.Attribute a ff p] e pos) (tst C cl Wx (sAsg (tAttr cs nm xa) xe)) := psv_fld R.K inj hf hcs ho he hs
theorem q_par (i j : Nat) {x y : Str} {px py pt : Pos} {kt k2 pt2} (hN : X.N.Nodup) (ha : PA X [a, b] (tes C cl Wx xs)) (hij : i ≠ j := by decide) (hi : X.N[i]? = some x := by rfl) (hj : X.N[j]? = some y := by rfl) (hx : X.env.scope.names.lookup x = some .local := by rfl) (hy : X.env.scope.names.lookup y = some .local := by rfl)
    (hw : swappedStores [.Tuple [.Name x px, .Name y py] kt pt] (.Tuple [a, b] k2 pt2) X.env = pure (some [x, y]) := by rfl)
    (hs : swapsWithSole [.Tuple [.Name x px, .Name y py] kt pt] (.Tuple [a, b] k2 pt2) pos.line X.env = pure false := by rfl) (hcm : X.calm = true := by rfl) :
    PS X (.Assign [.Tuple [.Name x px, .Name y py] kt pt] (.Tuple [a, b] k2 pt2) pos) (tst C cl Wx (sPar i j xs)) := psv_par hcm hN hi hj hij hx hy ha hw hs
theorem q_ex (he : PE X e (tev C cl Wx xe)) (hs : swapsWith e none pos.line X.env = pure false := by rfl) : PS X (.Expr e pos) (tst C cl Wx (sEx xe)) := psv_expr he hs
theorem q_for (R : Rm X C k Wx) (vs : List Nat) {iter : Expr} {ik : IK} {its : Exs} (hi : PI X tg iter (tit C cl Wx ik its)) (hg : PG X tg (ttg' C cl vs t)) (hb : PSs X body (tst C cl Wx sb)) (hs : ∀ x, foldedSetIterable iter X.env x = pure x := by intro _; rfl) (hcm : X.calm = true := by rfl) :
    PS X (.For tg iter body [] pos) (tst C cl Wx (sFor t ik its sb)) := psv_for R.ps hcm hi hg hb hs
theorem q_while (R : Rm X C k Wx) (hc : PT X c (ttv C cl Wx xc)) (hb : PSs X body (tst C cl Wx sb)) : PS X (.While c body [] pos) (tst C cl Wx (sWh xc sb)) := psv_while R.ps hc hb
theorem q_lc (R : Rm X C k Wx) (own : List (Str × Nat)) {elt iter : Expr} {ifs : List Expr} {scope : Scope} {ik : IK} {its : Exs} {xi : Exb} {m : Bool} (hN : X.N.Nodup) (hi : PI X tg iter (tit C cl Wx ik its))
    (hg : ∀ (s : Shared) (H : Hp) (C' : Addr) (cls : List (Str × Addr)) (fp : List Addr), Rm (X.blk s H scope (compEnvC scope cls C' X.env) fp) C k WF → PG (X.blk s H scope (compEnvC scope cls C' X.env) fp) tg (ttg' C cl (own.map (·.2)) t)) (ht : ∀ (s : Shared) (H : Hp) (C' : Addr) (cls : List (Str × Addr)) (fp : List Addr), Rm (X.blk s H scope (compEnvC scope cls C' X.env) fp) C k WF → PTs (X.blk s H scope (compEnvC scope cls C' X.env) fp) ifs (tfs C cl WF xi))
    (he : ∀ (s : Shared) (H : Hp) (C' : Addr) (cls : List (Str × Addr)) (fp : List Addr), Rm (X.blk s H scope (compEnvC scope cls C' X.env) fp) C k WF → PE (X.blk s H scope (compEnvC scope cls C' X.env) fp) elt (tev C cl WF xe)) (ok : blkC X.N X.env.scope scope own = true := by rfl) (hs : ∀ x, foldedSetIterable iter X.env x = pure x := by intro _; rfl) (hcm : X.calm = true := by rfl) :
    PE X (.ListComp elt [⟨tg, iter, ifs, 0⟩] scope pos) (tev C cl Wx (xComp m (own.map (·.2)) t ik its xi xe)) := pv_lc hcm hN hi (blkOk_by ok) (fun s H C' cls fp => hg s H C' cls fp R.blk) (fun s H C' cls fp => ht s H C' cls fp R.blk) (fun s H C' cls fp => he s H C' cls fp R.blk) hs
theorem q_setLc (R : Rm X C k Wx) (i : Nat) (own : List (Str × Nat)) {y : Str} {py spos : Pos} {elt iter : Expr} {ifs : List Expr} {scope : Scope} {ik : IK} {its : Exs} {xi : Exb} {m : Bool} (hN : X.N.Nodup) (hi : PI X tg iter (tit C cl Wx ik its))
    (hg : ∀ (s : Shared) (H : Hp) (C' : Addr) (cls : List (Str × Addr)) (fp : List Addr), Rm (X.blk s H scope (compEnvC scope cls C' X.env) fp) C k WF → PG (X.blk s H scope (compEnvC scope cls C' X.env) fp) tg (ttg' C cl (own.map (·.2)) t)) (ht : ∀ (s : Shared) (H : Hp) (C' : Addr) (cls : List (Str × Addr)) (fp : List Addr), Rm (X.blk s H scope (compEnvC scope cls C' X.env) fp) C k WF → PTs (X.blk s H scope (compEnvC scope cls C' X.env) fp) ifs (tfs C cl WF xi))
    (he : ∀ (s : Shared) (H : Hp) (C' : Addr) (cls : List (Str × Addr)) (fp : List Addr), Rm (X.blk s H scope (compEnvC scope cls C' X.env) fp) C k WF → PE (X.blk s H scope (compEnvC scope cls C' X.env) fp) elt (tev C cl WF xe)) (ok : blkC X.N X.env.scope scope own = true := by rfl) (hs : ∀ x, foldedSetIterable iter X.env x = pure x := by intro _; rfl)
    (hy : X.N[i]? = some y := by rfl) (hyl : X.env.scope.names.lookup y = some .local := by rfl) (hsw : swapsWith (.ListComp elt [⟨tg, iter, ifs, 0⟩] scope pos) (some (.Name y py)) spos.line X.env = pure true := by rfl) (hcm : X.calm = true := by rfl) :
    PS X (.Assign [.Name y py] (.ListComp elt [⟨tg, iter, ifs, 0⟩] scope pos) spos) (tst C cl Wx (sAsg (tName i) (xComp m (own.map (·.2)) t ik its xi xe))) := psv_setLc hcm hN hy hyl hsw hi (blkOk_by ok) (fun s H C' cls fp => hg s H C' cls fp R.blk) (fun s H C' cls fp => ht s H C' cls fp R.blk) (fun s H C' cls fp => he s H C' cls fp R.blk) hs
theorem q_rai (R : Rm X C k Wx) {c : Nat} {fa : Addr} {fd : FuncData} {x arg : Str} {pos2 : Pos} (T : OexC X.K (C.ca c)) (iC : PySem.W.findIn X.K (.ref (C.ca c)) "__init__" = some (some (.ref fa))) (tI : PySem.W.typeIn X.K (.ref fa) = some (.type "function"))
    (F : FnOk X.prog X.w X.K X.mg X.base CX0 (2 * k + 1) fa fd ["self", arg] (spXi X.K (C.xf c))) (hno : PySem.W.findIn X.K (.ref (C.ca c)) (C.xf c) = some none) (hb : Binds X.K fd ["self", arg] []) (hm : X.mg x = some (.ref (C.ca c)))
    (he : PE X e (tev C cl Wx xe)) (hg : Gl X x := by rfl) (hdb : (x == ("__debug__" : Str)) = false := by decide) (hs : starEach [e] X.env = (false, eval e X.env) :: starEach [] X.env := by rfl) (hpl : (backTo pos (starEach [] X.env)).any (·.1) = false := by rfl) (hcm : X.calm = true := by rfl) :
    PS X (.Raise (some (.Call (.Name x p) [e] [] pos)) none pos2) (tst C cl Wx (sRai c xe)) := psv_rai R.K hcm R.tk T iC tI F hno R.room hb hg hm he hdb hs hpl
theorem q_tryAs (R : Rm X C k Wx) (i : Nat) {x n : Str} {tab : List (Nat × Bool)} {cv : Value} {suite : List Stmt} {b₀ : Stmt} {np pos' : Pos} {sx : Option W → Sx} (hN : X.N.Nodup) (hm : X.mg x = some cv)
    (htab : ∀ c' t, tab.lookup c' = some t → PySem.W.exmOne X.K (.ref (C.ca c')) cv = some t)
    (hb : ∀ (W : WX) (pn : List (Addr × Obj)) (xe : Value → Shared → Prop), Rm (X.tr pn xe) C k W → PSs (X.tr pn xe) body (tst C cl W sb))
    (hsu : ∀ (a : Addr) (oe : Obj) (cls : Value) (d : Option Addr) (pn : List (Addr × Obj)), Zc cls d oe → (∃ vs, oe.data = .fields vs) → PSs (X.suite a ((a, oe) :: pn)) (b₀ :: suite) (tstX C cl i tab sx a cls d))
    (hs : X.stack = X.env :: X.outer := by rfl) (hf : X.env.frame = some X.env.locals := by rfl) (hi : X.N[i]? = some n := by rfl) (hln : X.env.kindOf n = some .local := by rfl) (hg : Gl X x := by rfl) (hdb : (x == ("__debug__" : Str)) = false := by decide) :
    PS X (.Try body [.ExceptHandler (some (.Name x np)) (some n) (b₀ :: suite) pos'] [] [] pos) (tst C cl Wx (sTryAs tab i sx sb)) :=
  psv_tryAs hs hf hN hi hln ⟨hg, hdb, .inl hm⟩ R.tk htab (fun W pn xe tk ps => hb W pn xe (R.tr tk ps)) hsu
theorem q_xattr (R : Rk X C) {i : Nat} {tab : List (Nat × Bool)} {a : Addr} {cls : Value} {d : Option Addr} {oe : Obj} {pn : List (Addr × Obj)} {f n : Str} (T : ∀ c', tab.lookup c' = some true → XfC X.K (C.ca c') ∧ PySem.W.findIn X.K (.ref (C.ca c')) f = some none ∧ C.xf c' = f) (hz : Zc cls d oe) (hf : ∃ vs, oe.data = .fields vs)
    (hN : X.N[i]? = some n := by rfl) (hv : Vis X.env.scope n := by first | exact Or.inl rfl | exact Or.inr (Or.inl rfl) | exact Or.inr (Or.inr rfl)) (hd : (n == ("__debug__" : Str)) = false := by decide) (hcd : (n == ("__classdict__" : Str)) = false := by decide) (hb : attributeBase (.Name n p) f X.env (eval (.Name n p) X.env) = eval (.Name n p) X.env := by rfl) :
    PE (X.suite a ((a, oe) :: pn)) (.Attribute (.Name n p) f pos) (tevX C cl i tab a cls d xExc) := pvX_attr R.K T hz hf (pe_var (X := X.suite a ((a, oe) :: pn)) hN hv hd hcd) hb
theorem qX_set (j : Nat) {X' : Cx} {i : Nat} {tab : List (Nat × Bool)} {a : Addr} {cls : Value} {d : Option Addr} {y : Str} {xX : Option W → Ex} (hN : X'.N.Nodup) (he : PE X' e (tevX C cl i tab a cls d xX)) (hj : X'.N[j]? = some y := by rfl) (hy : Loc X'.env.scope y := by first | exact Or.inl rfl | exact Or.inr rfl)
    (hs : swapsWith e (some (.Name y p)) pos.line X'.env = pure false := by rfl) (hf : X'.fn y = true ∨ X'.env.scope.names.lookup y = some .local := by first | exact .inl rfl | exact .inr rfl) : PSs X' [.Assign [.Name y p] e pos] (tstX C cl i tab (fun o => sAsg (tName j) (xX o)) a cls d) := psX_set hN hj hy he hs hf
end
theorem tab_nil {β : Type} {Pr : Nat → β → Prop} : ∀ c' t', List.lookup c' ([] : List (Nat × β)) = some t' → Pr c' t' := fun _ _ h => by cases h
theorem tab_cons {β : Type} {Pr : Nat → β → Prop} {c : Nat} {t : β} {l : List (Nat × β)} (h : Pr c t) (r : ∀ c' t', List.lookup c' l = some t' → Pr c' t') : ∀ c' t', List.lookup c' ((c, t) :: l) = some t' → Pr c' t' := fun c' t' e => by
  by_cases z : c' = c
  · subst z
    simp at e
    subst e; exact h
  · have : (c' == c) = false := by simpa using z
    simp only [List.lookup, this] at e
    exact r c' t' e
theorem mem_one {Pr : Nat → Prop} {c : Nat} (h : Pr c) : ∀ k ∈ [c], Pr k := fun k m => by rw [List.mem_singleton.mp m]; exact h
theorem mem_more {Pr : Nat → Prop} {c : Nat} {l : List Nat} (h : Pr c) (r : ∀ k ∈ l, Pr k) : ∀ k ∈ c :: l, Pr k := fun k m => by
  rcases List.mem_cons.mp m with e | m
  · rw [e]; exact h
  · exact r k m
theorem exm_of {K : PySem.W.Frag} {S D : Addr} {b : Bool} (h1 : PySem.W.subIn K (.ref D) (.type "BaseException") = some true) (h2 : PySem.W.isClsIn K D = true) (h3 : PySem.W.typeIn K (.ref D) = some (.type "type")) (h4 : PySem.W.subIn K (.ref S) (.ref D) = some b) : PySem.W.exmOne K (.ref S) (.ref D) = some b := by
  have h2' : (PySem.W.clsIn K D).isSome = true := h2
  unfold PySem.W.exmOne
  simp [h1, PySem.W.kitCls, h2', h3, h4]
def isTrueR : R W → Bool
  | .ok (.bl true) _ => true
  | _ => false
theorem law_sp {C : Cf} {cl : CL} {f : Nat} (g : isTrueR (cl f [.any] []) = true) (v : V) : spC C cl f [v] nil (fun v _ => v = .bl true) fun _ _ _ => False := by
  refine ⟨⟨[], fun _ => none, fun _ => False, fun _ => none⟩, [], [.any], ⟨rfl, .nil, fun n a c i => by simp at i, fun a i => (by simp at i), fun a o e => (by cases e), fun a p => p.elim, fun d x e => (by cases e), fun a o e => (by cases e), fun a p => p.elim⟩, ⟨v, [], rfl, trivial, rfl⟩, ?_⟩
  cases e : cl f [.any] [] with
  | no => rw [e] at g; cases g
  | exn c a h => rw [e] at g; cases g
  | ok w h =>
    rw [e] at g
    cases w with
    | bl b =>
      cases b with
      | true => exact fun γ' v H' _ _ _ r => r
      | false => cases g
    | _ => cases g
end Ov
namespace Ov
open PySem PySem.Spec PyProof.Rows L2
def onlyAt (a : Addr) (o : Obj) (xs : List V) : Hp := fun b => if b = a then some (.frz o (.lst xs)) else none
theorem onlyAt_some {a b : Addr} {o : Obj} {xs : List V} {u : HO} (e : onlyAt a o xs b = some u) : b = a ∧ u = .frz o (.lst xs) := by
  unfold onlyAt at e
  split at e
  · rename_i z; cases e; exact ⟨z, rfl⟩
  · cases e
theorem enter_scr {P : Program} {w : World} {K : PySem.W.Frag} {mg mb : Str → Option Value} {k : Nat} {fa a : Addr} {fd : FuncData} {x : Str} {sp : Sp} {s : Shared} {H : Hp} {o : Obj} {xs : List V}
    (KX : K.In s.heap) (hns : s.heap.Ns mainGlobals mg) (hb : s.heap.Ns builtinsNs mb) (hbb : ∀ x : Str, x ≠ "__name__" → mb x = bootBuiltins x) (hlim : s.heap.NoLimit) (hg : s.gens = #[]) (hr : Room k callerA)
    (F : ∀ base : Heap, K.In base → base.Ns mainGlobals mg → FnG P w K mg base k fa fd [x] sp) (hbind : BindsTo s fd ⟨[.ref a], []⟩ [(x, .ref a)]) (hsp : sp [.ref a] H (fun v _ => v = .bl true) fun _ _ _ => False)
    (hH : ∀ b u, H b = some u → b = a ∧ u = .frz o (.lst xs) ∧ K.lookup a = none) (hok : HOk P w H s.heap) (ha : s.heap.get? a = some o) (hd : ∃ its n, o.data = .seq its n) :
    codeAny (model P w) callerA (.call (.ref fa) ⟨[.ref a], []⟩) (fun r s' => r = .ok (.ret (.bool true)) ∧ OldK s.heap s'.heap ∧ s'.os = s.os ∧ AllBare s'.gens) s := by
  -- what is no list is not tracked
  have off : ∀ {b : Addr} {ob : Obj}, s.heap.get? b = some ob → (∀ its n, ob.data ≠ .seq its n) → H b = none := fun {b ob} e ne => by
    cases q : H b with
    | none => rfl
    | some u =>
      obtain ⟨rfl, _⟩ := hH b u q
      rw [ha] at e; cases e
      obtain ⟨its, n, d⟩ := hd
      exact absurd d (ne its n)
  have ns : ∀ {b : Addr} {m : Str → Option Value}, s.heap.Ns b m → (hidT s.heap H).Ns b m := fun {b m} ⟨ob, es, ep, e, d, r⟩ =>
    ⟨ob, es, ep, hidT_get e (off e fun its n z => by rw [d] at z; cases z), d, r⟩
  have KB : K.In (hidT s.heap H) := fun b ob e => hidT_get (KX b ob e) (by
    cases q : H b with
    | none => rfl
    | some u =>
      obtain ⟨rfl, _, hk⟩ := hH b u q
      rw [hk] at e; cases e)
  obtain ⟨mc, l1, l2⟩ := hlim
  have e0 : Env0 P w K mg (hidT s.heap H) callerA [] s H := ⟨rfl, ⟨KB, ns hns, ⟨mb, ns hb, hbb⟩, mc, ns l1, l2⟩, fun b ob e => of_hidT e, Nat.le_of_eq (hidT_size _ _), trivial, fun b m => (by cases m), hok, .of_eq hg⟩
  refine codeAny_mono ((F _ KB (ns hns)).run callerA [] s H ⟨[.ref a], []⟩ [.ref a] [.ref a] _ _ hr callerA_guards e0 hbind (.cons rfl .nil) hsp) fun res s' h => ?_
  match res, h with
  | .ok (.ret z), h =>
    obtain ⟨y, H', os, bare, un, hok', ry, ey⟩ := h
    have ey' : y = V.bl true := ey
    subst ey'
    have ez : z = Value.bool true := ry
    subst ez
    refine ⟨rfl, OldK.of_keep fun b ob e => ?_, os, bare⟩
    cases q : H b with
    | none => exact un.keep b ob e q (fun m => by cases m) (fun m => by cases m)
    | some u =>
      obtain ⟨rfl, rfl, _⟩ := hH b u q
      rw [ha] at e; cases e
      exact (hok' b _ (un.frzs b _ _ q)).1
  | .error e, h =>
    obtain ⟨_, _, _, _, _, _, _, _, _, _, _, _, f⟩ := h
    exact f.elim
theorem walk_scr {l : PySem.W.OpenLaw} {n k : Nat} {q : Program} {loose : List Str} {XP : (Str → Option Value) → Heap → Prop} {YP : World → Heap → Prop} {d : DefRec} {K : Params → PySem.W.Frag} {x : Str}
    (hn : l.most = some n) (hn2 : n ≤ sizeLine) (hdf : d.params.defaults = []) (hr : Room k callerA) (hY : ∀ (w : World) (h : Heap), YP w h → (K w.params).In h)
    (F : ∀ (w : World) (mg : Str → Option Value) (fa : Addr) (h : Heap), (K w.params).In h → h.Ns mainGlobals mg → mg d.name = some (.ref fa) →
      ∃ fd : FuncData, (∀ (s : Shared) (u : Value), BindsTo s fd ⟨[u], []⟩ [(x, u)]) ∧ ∃ sp : Sp,
        (∀ (H : Hp) (a : Addr) (ns : List Int), ns.length ≤ n → (∀ i ∈ ns, Builtin.Int.intBits i ≤ 1048576) → (∀ b u, H b = some u → ∃ o xs, u = .frz o (.lst xs)) → SqL (K w.params) H a (ns.map V.int) → sp [.ref a] H (fun v _ => v = .bl true) fun _ _ _ => False) ∧
        ∀ base : Heap, (K w.params).In base → base.Ns mainGlobals mg → FnG l.prog w (K w.params) mg base k fa fd [x] sp) :
    PySem.W.WalkO q loose XP YP l.row.toRowW d [] (fun f vs => PySem.call f vs) := by
  refine Att.attach_callB hn hdf fun w s₀ s₁ mg mb fa o pm cd doc a vs ns G Y ho hd hcd hmg hobj hints hlen hbits hg => ?_
  have KX := hY w _ Y
  obtain ⟨fd, hb, sp, hs, hF⟩ := F w mg fa _ KX G.T.g hmg
  have rv := vals_ints hints
  have hsz : (ns.map V.int).length ≤ sizeLine := by rw [List.length_map]; exact Nat.le_trans hlen hn2
  cases hk : (K w.params).lookup a with
  | some ob =>
    have e := KX a ob hk
    rw [hobj] at e
    cases e
    refine enter_scr (H := nil) (o := _) (xs := []) KX G.T.g G.T.b G.T.builtins G.T.nolimit hg hr hF (hb _ _) (hs nil a ns hlen hbits (fun b u e => by cases e) (.inr ⟨_, vs.toArray, _, hk, rfl, rfl, rfl, ?_, by simpa using rv⟩)) (fun b u e => by cases e) (fun b u e => by cases e) hobj ⟨_, _, rfl⟩
    rw [List.size_toArray, ← rv.length]; exact hsz
  | none =>
    refine enter_scr (H := onlyAt a { cls := .type "list", data := .seq vs.toArray } (ns.map V.int)) (o := { cls := .type "list", data := .seq vs.toArray }) (xs := ns.map V.int) KX G.T.g G.T.b G.T.builtins G.T.nolimit hg hr hF (hb _ _) (hs _ a ns hlen hbits (fun b u e => ?_) (.inl (.inr ⟨_, if_pos rfl⟩))) (fun b u e => ?_) (fun b u e => ?_) hobj ⟨_, _, rfl⟩
    · obtain ⟨_, rfl⟩ := onlyAt_some e; exact ⟨_, _, rfl⟩
    · obtain ⟨rfl, rfl⟩ := onlyAt_some e; exact ⟨rfl, rfl, hk⟩
    · obtain ⟨rfl, rfl⟩ := onlyAt_some e
      exact ⟨hobj, hsz, vs, _, rv, hobj⟩
theorem scr_sp {C : Cf} {cl : CL} {f n : Nat} (g : ∀ ns : List Int, ns.length ≤ n → (∀ i ∈ ns, Builtin.Int.intBits i ≤ 1048576) → isTrueR (cl f [.scr (ns.map W.int)] []) = true) (H : Hp) (a : Addr) (ns : List Int) (hl : ns.length ≤ n) (hb : ∀ i ∈ ns, Builtin.Int.intBits i ≤ 1048576)
    (hH : ∀ b u, H b = some u → ∃ o xs, u = .frz o (.lst xs)) (hS : SqL C.K H a (ns.map V.int)) : spC C cl f [.ref a] H (fun v _ => v = .bl true) fun _ _ _ => False := by
  have ri : ∀ (γ : Gh) (l : List Int), RWs C γ (l.map W.int) (l.map V.int) := fun γ l => by
    induction l with
    | nil => rfl
    | cons i r ih => exact ⟨_, _, rfl, rfl, ih⟩
  refine ⟨⟨[], H, fun _ => False, fun _ => none⟩, [], [.scr (ns.map W.int)], ⟨rfl, .nil, fun n a c i => by simp at i, fun a i => (by simp at i), fun a o e => e, fun a p => p.elim, fun d x e => ?_, fun a o e => (by cases e), fun a p => p.elim⟩, ⟨.ref a, [], rfl, ⟨a, _, rfl, hS, ri _ ns⟩, rfl⟩, ?_⟩
  · obtain ⟨o, xs, z⟩ := hH d _ e; cases z
  · have g' := g ns hl hb
    cases e : cl f [.scr (ns.map W.int)] [] with
    | no => rw [e] at g'; cases g'
    | exn c a h => rw [e] at g'; cases g'
    | ok w h =>
      rw [e] at g'
      cases w with
      | bl b =>
        cases b with
        | true => exact fun γ' v H' _ _ _ r => r
        | false => cases g'
      | _ => cases g'
end Ov
namespace Ov
open PySem PySem.Spec PyProof.Rows L2
section
variable {C : Cf} {γ : Gh} {h : Hw} {H : Hp}
theorem HC.setX (c : HC C γ h H) {n : Nat} {a : Addr} {c0 cc : Cell} {o' : HO} (i : γ.ι[n]? = some a) (hn : h[n]? = some c0) (fr : Fr γ a) (ho : ∀ y, H a ≠ some (.own y)) (no : ∀ y, o' ≠ .own y) (new : CellIs C γ (upd H a o') a cc) :
    Keep γ H (upd H a o') ∧ HC C γ (h.set n cc) (upd H a o') := by
  have mem : a ∈ γ.ι := List.mem_of_getElem? i
  have key : ∀ b, H b ≠ none → upd H a o' b ≠ none := fun b e => upd_some e
  refine ⟨⟨fun b o e q => ?_, key⟩, ⟨by rw [List.length_set]; exact c.len, c.nd, fun m b cc' im hm => ?_, fun b ib => key b (c.there b ib), fun b o e => ?_, fun b pb => ?_, fun d y e => ?_, fun b l q => ?_, c.prl⟩⟩
  · by_cases z : b = a
    · subst z
      rcases q mem with q | q
      · rw [fr.1] at q; cases q
      · exact absurd fr.2 q
    · rw [upd_ne z]; exact e
  · by_cases z : m = n
    · subst z
      rw [i] at im; cases im
      have hl : m < h.length := (List.getElem?_eq_some_iff.mp hn).1
      rw [List.getElem?_set_self hl] at hm
      cases hm
      exact new
    · rw [List.getElem?_set_ne (Ne.symm z)] at hm
      have za : b ≠ a := fun e => by subst e; exact z (nodup_get c.nd im i)
      have q := c.cell m b cc' im hm
      cases cc' with
      | lst us => obtain ⟨f, ys, hh, r'⟩ := q; exact ⟨f, ys, by rw [upd_ne za]; exact hh, r'⟩
      | dct _ _ => obtain ⟨f, o, xs, ys, hh, d, r1, r2⟩ := q; exact ⟨f, o, xs, ys, by rw [upd_ne za]; exact hh, d, r1, r2⟩
      | lck _ _ => obtain ⟨f, o, xs, ys, lo, hh, d, r1, r2⟩ := q; exact ⟨f, o, xs, ys, lo, by rw [upd_ne za]; exact hh, d, r1, r2⟩
      | obj k ns us =>
        obtain ⟨f, dx, ys, fd, hh, hd, l, r'⟩ := q
        have zd : dx ≠ a := fun e => by subst e; exact ho _ hd
        exact ⟨f, dx, ys, fd, by rw [upd_ne za]; exact hh, by rw [upd_ne zd]; exact hd, l, r'⟩
      | dead => trivial
  · by_cases z : b = a
    · subst z; rw [fr.1] at e; cases e
    · rw [upd_ne z]; exact c.frz b o e
  · obtain ⟨p1, p2, p3, p4⟩ := c.prot b pb
    have z : b ≠ a := fun e => by subst e; exact p3 mem
    exact ⟨key b p1, p2, p3, fun d hd => by rw [upd_ne z]; exact p4 d hd⟩
  · by_cases z : d = a
    · subst z; rw [upd_same] at e; cases e; exact absurd rfl (no y)
    · rw [upd_ne z] at e
      exact key y (c.own d y e)
  · have z : b ≠ a := fun e => by subst e; rw [fr.2] at q; cases q
    rw [upd_ne z]; exact c.lkd b l q
theorem HC.setD (c : HC C γ h H) {n : Nat} {a : Addr} {o' : Obj} {ks ws js us : List W} {xs ys : List V} (i : γ.ι[n]? = some a) (hn : h[n]? = some (.dct ks ws)) (d : DO C.w a o' js xs ys) (r1 : RWs C γ js xs) (r2 : RWs C γ us ys) :
    Keep γ H (upd H a (pin a o')) ∧ HC C γ (h.set n (.dct js us)) (upd H a (pin a o')) := by
  obtain ⟨f, o, _, _, hh, _⟩ := c.cell n a _ i hn
  exact c.setX i hn f (fun y e => by rw [hh] at e; cases e) (fun y z => nomatch z) ⟨f, o', xs, ys, upd_same, d, r1, r2⟩
theorem HC.cellX (c : HC C γ h H) {p : Addr} {o : HO} {cc : Cell} (n : H p = none) (no : ∀ y, o ≠ .own y) (new : ∀ γ', Ext γ γ' H → Fr γ' p → CellIs C γ' (upd H p o) p cc) :
    ∃ γ', Ext γ γ' H ∧ Keep γ H (upd H p o) ∧ HC C γ' (h ++ [cc]) (upd H p o) ∧ RW C γ' (.ref h.length) (.ref p) := by
  have ne : ∀ a o', H a = some o' → a ≠ p := fun a o' e z => by subst z; rw [n] at e; cases e
  have nn : ∀ a, H a ≠ none → a ≠ p := fun a e z => by subst z; exact e n
  have fp : γ.F p = none := by
    cases e : γ.F p with
    | none => rfl
    | some u => rw [c.frz _ _ e] at n; cases n
  have lp : γ.L p = none := by
    cases q : γ.L p with
    | none => rfl
    | some l => rw [c.lkd p l q] at n; cases n
  have nι : p ∉ γ.ι := fun hp => c.there p hp n
  have E : Ext γ { γ with ι := γ.ι ++ [p] } H := ⟨⟨[p], rfl, fun a ha => (List.mem_singleton.mp ha) ▸ n⟩, fun _ _ e => e, rfl, rfl⟩
  refine ⟨{ γ with ι := γ.ι ++ [p] }, E, ⟨fun a u e _ => by rw [upd_ne (ne a u e)]; exact e, fun a e => upd_some e⟩, ⟨by simp [c.len], nodup_append_one c.nd nι, fun m a cc' i hm => ?_, fun a i => ?_, fun a u e => by rw [upd_ne (ne _ _ (c.frz a u e))]; exact c.frz a u e, fun a pa => ?_, fun d y e => ?_, fun a l q => by rw [upd_ne (ne a _ (c.lkd a l q))]; exact c.lkd a l q, c.prl⟩, p, rfl, by rw [c.len]; simp⟩
  · by_cases hlt : m < γ.ι.length
    · have i2 : γ.ι[m]? = some a := by
        have i3 : (γ.ι ++ [p])[m]? = some a := i
        rw [List.getElem?_append_left hlt] at i3
        exact i3
      rw [List.getElem?_append_left (by rw [c.len]; exact hlt)] at hm
      have hp : a ≠ p := fun z => by subst z; exact nι (List.mem_of_getElem? i2)
      have q := c.cell m a cc' i2 hm
      cases cc' with
      | lst us => obtain ⟨f, ys, hh, r'⟩ := q; exact ⟨f, ys, by rw [upd_ne hp]; exact hh, E.rws r'⟩
      | dct _ _ => obtain ⟨f, o, xs, ys, hh, d, r1, r2⟩ := q; exact ⟨f, o, xs, ys, by rw [upd_ne hp]; exact hh, d, E.rws r1, E.rws r2⟩
      | lck _ _ => obtain ⟨f, o, xs, ys, lo, hh, d, r1, r2⟩ := q; exact ⟨f, o, xs, ys, lo, by rw [upd_ne hp]; exact hh, d, E.rws r1, E.rws r2⟩
      | obj k ns us => obtain ⟨f, dx, ys, fd, hh, hd, l, r'⟩ := q; exact ⟨f, dx, ys, fd, by rw [upd_ne hp]; exact hh, by rw [upd_ne (ne _ _ hd)]; exact hd, l, E.rws r'⟩
      | dead => trivial
    · have hm' : m = γ.ι.length := by
        have h1 : m < γ.ι.length + 1 := by simpa using (List.getElem?_eq_some_iff.mp i).1
        omega
      subst hm'
      have : a = p := by simpa using i.symm
      subst this
      have : cc' = cc := by
        rw [← c.len] at hm
        simpa using hm.symm
      subst this
      exact new _ E ⟨fp, lp⟩
  · rcases List.mem_append.mp i with i | i
    · exact upd_some (c.there a i)
    · have : a = p := by simpa using i
      subst this; rw [upd_same]; simp
  · obtain ⟨a1, a2, a3, a4⟩ := c.prot a pa
    have hp := nn a a1
    refine ⟨upd_some a1, a2, fun hm => ?_, fun b hb => ?_⟩
    · rcases List.mem_append.mp hm with hm | hm
      · exact a3 hm
      · exact hp (by simpa using hm)
    · rw [upd_ne hp]
      rcases List.mem_append.mp hb with hb | hb
      · exact a4 b hb
      · have : b = p := by simpa using hb
        subst this
        exact fun e => c.own a _ e n
  · by_cases z : d = p
    · subst z; rw [upd_same] at e; cases e; exact absurd rfl (no y)
    · rw [upd_ne z] at e
      have := c.own d y e
      rw [upd_ne (nn y this)]; exact this
theorem HC.cellD (c : HC C γ h H) {p : Addr} {o : Obj} {ks ws : List W} {xs ys : List V} (n : H p = none) (d : DO C.w p o ks xs ys) (r1 : RWs C γ ks xs) (r2 : RWs C γ ws ys) :
    ∃ γ', Ext γ γ' H ∧ Keep γ H (upd H p (pin p o)) ∧ HC C γ' (h ++ [.dct ks ws]) (upd H p (pin p o)) ∧ RW C γ' (.ref h.length) (.ref p) :=
  c.cellX n (fun y z => nomatch z) fun γ' e f => ⟨f, o, xs, ys, upd_same, d, e.rws r1, e.rws r2⟩
theorem PoE.dctMade {m : Bool} {ks ws : List W} {xs ys : List V} {Q : VK} {E : XK} (p : PoE C γ H (made m h (.dct ks ws)) Q E) (c : HC C γ h H) {a : Addr} {o : Obj} (d : DO C.w a o ks xs ys) (r1 : RWs C γ ks xs) (r2 : RWs C γ ws ys) (n : H a = none) : Q (.ref a) (upd H a (pin a o)) := by
  cases m with
  | false =>
    obtain ⟨γ', e, k, c', r'⟩ := c.layD n d r1 r2
    exact p γ' _ _ e k c' r'
  | true =>
    obtain ⟨γ', e, k, c', r'⟩ := c.cellD n d r1 r2
    exact p γ' _ _ e k c' r'
end
def rSetW (C : Cf) : V → V → V → Hp → (Hp → Prop) → Prop := fun o i v H Q => ∃ γ h wo wi wv, HC C γ h H ∧ RW C γ wo o ∧ RW C γ wi i ∧ RW C γ wv v ∧ match Ov.setItem wo wi wv h with
  | .ok _ h' => ∀ H', Keep γ H H' → HC C γ h' H' → Q H'
  | _ => False
theorem RWs.setAt {C : Cf} {γ : Gh} : ∀ {ws : List W} {vs : List V} (k : Nat) {w : W} {v : V}, RWs C γ ws vs → RW C γ w v → RWs C γ (ws.set k w) (vs.set k v)
  | [], _, _, _, _, r, _ => by cases r; exact rfl
  | u :: ws, _, 0, w, v, ⟨x, q, e, a, b⟩, rv => by subst e; exact ⟨v, q, rfl, rv, b⟩
  | u :: ws, _, k + 1, w, v, ⟨x, q, e, a, b⟩, rv => by subst e; exact ⟨x, _, rfl, a, RWs.setAt k b rv⟩
theorem set_any {X : Cx} {C : Cf} (hW : C.w = X.w) (hu : X.A.units + 9 < cLine) : PSet X (rSetW C) := by
  intro pins s σ H o i v ov iv u Q I ro ri rv ⟨γ, h, wo, wi, wv, c, r1, r2, r3, q⟩
  unfold Ov.setItem at q
  cases wo with
  | ref n =>
    obtain ⟨a, rfl, ix⟩ := r1
    dsimp only at q
    cases hn : h[n]? with
    | none => rw [hn] at q; exact q.elim
    | some cc =>
      rw [hn] at q
      cases cc with
      | lst xs =>
        cases wi with
        | int j =>
          dsimp only at q
          cases hp : place j xs.length with
          | none => rw [hp] at q; exact q.elim
          | some k =>
            rw [hp] at q
            cases r2
            obtain ⟨fa, us, ha', ru⟩ := c.cell n a _ ix hn
            obtain ⟨k3, c3⟩ := c.setL ix hn (RWs.setAt k ru r3)
            exact set_list pins s σ H _ _ v ov iv u Q I ro ri rv ⟨a, us, j, k, rfl, rfl, ha', by rw [ixN_place, ← ru.length]; exact hp, q _ k3 c3⟩
        | _ => exact q.elim
      | dct ks ws =>
        dsimp only at q
        split at q
        case h_2 => rename_i nn; split at nn <;> first | (rename_i z; cases z) | skip
                    all_goals exact q.elim
        rename_i h' e
        split at e
        · rename_i z
          cases e
          rw [Bool.and_eq_true] at z
          obtain ⟨f, o, xs, ys, hh, d, q1, q2⟩ := c.cell n a _ ix hn
          cases ro
          exact w_setItem hW hu c I ⟨o, xs, ys, hh, d, q1, q2⟩ z.1 (most_line z.2) r2 ri r3 rv fun o' s' I' ⟨xs', ys', d', q1', q2'⟩ => by
            obtain ⟨k3, c3⟩ := c.setD ix hn d' q1' q2'
            exact ⟨_, I', q _ k3 c3⟩
        · cases e
      | _ => exact q.elim
  | _ => exact q.elim
end Ov
namespace Ov
open PySem PySem.Spec PyProof.Rows L2
section
variable {C : Cf} {γ : Gh}
theorem RWs.set : ∀ {ws : List W} {vs : List V} (k : Nat) {w : W} {v : V}, RWs C γ ws vs → RW C γ w v → RWs C γ (ws.set k w) (vs.set k v)
  | [], _, _, _, _, r, _ => by cases r; exact rfl
  | u :: ws, _, 0, w, v, ⟨x, q, e, a, b⟩, rv => by subst e; exact ⟨v, q, rfl, rv, b⟩
  | u :: ws, _, k + 1, w, v, ⟨x, q, e, a, b⟩, rv => by subst e; exact ⟨x, _, rfl, a, RWs.set k b rv⟩
theorem ints_rw : ∀ {xs : List W} {ns : List Int} {vs : List V}, intsOf xs = some ns → RWs C γ xs vs → vs = ns.map V.int
  | [], _, _, e, r => by cases e; cases r; rfl
  | x :: xs, ns, vs, e, ⟨v, r, e1, a, b⟩ => by
    cases x with
    | int i =>
      simp only [intsOf] at e
      cases e2 : intsOf xs with
      | none => rw [e2] at e; cases e
      | some us =>
        rw [e2] at e; cases e
        subst e1
        cases a
        rw [ints_rw e2 b]; rfl
    | _ => cases e
end
section
variable {X : Cx} {C : Cf} {cl : CL} {Wx : WX} {vs : List Nat} {o i : Expr} {xo xi : Ex} {pos : Pos}
theorem pgv_sub (hW : C.w = X.w) (hu : X.A.units + 9 < cLine) (ho : PE X o (tev C cl Wx xo)) (hi : PE X i (tev C cl Wx xi))
    (ha : ∀ v, assign (.Subscript o i pos) X.env v = (do
      let ov ← holding [v] (eval o X.env)
      let iv ← holding [v, ov] (eval i X.env)
      standAt pos
      holding [v, ov, iv] (PySem.setItem ov iv v)
      release [v, ov, iv] [])) : PG X (.Subscript o i pos) (ttg' C cl vs (tSub xo xi)) :=
  PG.imp (pg_sub ho hi (set_any hW hu) ha) fun v σ H Q ⟨γ, σw, h, w, sl, hc, r, p⟩ => by
    unfold tSub at p
    refine ⟨γ, σw, h, sl, hc, ?_⟩
    cases eo : xo cl σw h with
    | no => rw [eo] at p; exact p.elim
    | exn c a h1 => rw [eo] at p; exact p.elim
    | ok u h1 =>
      rw [eo] at p
      intro γ1 ov H1 e1 k1 c1 r1
      have p1 := PoT.step p e1 k1
      dsimp only [R.bind] at p1
      refine ⟨γ1, σw, h1, sl.ext e1, c1, ?_⟩
      cases ei : xi cl σw h1 with
      | no => rw [ei] at p1; exact p1.elim
      | exn c a h1 => rw [ei] at p1; exact p1.elim
      | ok y h2 =>
        rw [ei] at p1
        intro γ2 iv H2 e2 k2 c2 r2
        have p2 := PoT.step p1 e2 k2
        dsimp only [R.bind] at p2
        refine ⟨γ2, h2, u, y, w, c2, e2.rw r1, r2, e2.rw (e1.rw r), ?_⟩
        cases es : Ov.setItem u y w h2 with
        | ok z h3 =>
          rw [es] at p2
          exact fun H' k3 c3 => p2 γ2 σ H' (Ext.refl _ _) k3 c3 ((sl.ext e1).ext e2) rfl
        | exn _ _ _ => rw [es] at p2; exact p2.elim
        | no => rw [es] at p2; exact p2.elim
def gSum : Gf := fun ws h => match ws with
  | [w] => match look h w with
    | .lst xs => match intsOf xs with
      | some ns => .ok (.int ns.sum) h
      | none => .no
    | _ => .no
  | _ => .no
def gMaxL : Gf := fun ws h => match ws with
  | [w] => match look h w with
    | .lst xs => match intsOf xs with
      | some (n :: ns) => .ok (.int (ns.foldl max n)) h
      | _ => .no
    | _ => .no
  | _ => .no
def gMinL : Gf := fun ws h => match ws with
  | [w] => match look h w with
    | .lst xs => match intsOf xs with
      | some (n :: ns) => .ok (.int (ns.foldl min n)) h
      | _ => .no
    | _ => .no
  | _ => .no
theorem fold_max : ∀ (ns : List Int) (n m : Int), m ∈ n :: ns → (∀ y, y ∈ n :: ns → y ≤ m) → ns.foldl max n = m
  | [], n, m, h, _ => by
    have : m = n := by simpa using h
    rw [this]; rfl
  | a :: r, n, m, h, u => by
    rw [List.foldl_cons]
    refine fold_max r (max n a) m ?_ fun y hy => ?_
    · rcases List.mem_cons.mp h with e | h
      · subst e
        have : max m a = m := Int.max_eq_left (u a (by simp))
        rw [this]; exact List.mem_cons_self
      · rcases List.mem_cons.mp h with e | h
        · subst e
          have : max n m = m := Int.max_eq_right (u n (by simp))
          rw [this]; exact List.mem_cons_self
        · exact List.mem_cons_of_mem _ h
    · rcases List.mem_cons.mp hy with e | hy
      · subst e; exact Int.max_le.mpr ⟨u n (by simp), u a (by simp)⟩
      · exact u y (by simp [hy])
theorem fold_min : ∀ (ns : List Int) (n m : Int), m ∈ n :: ns → (∀ y, y ∈ n :: ns → m ≤ y) → ns.foldl min n = m
  | [], n, m, h, _ => by
    have : m = n := by simpa using h
    rw [this]; rfl
  | a :: r, n, m, h, u => by
    rw [List.foldl_cons]
    refine fold_min r (min n a) m ?_ fun y hy => ?_
    · rcases List.mem_cons.mp h with e | h
      · subst e
        have : min m a = m := Int.min_eq_left (u a (by simp))
        rw [this]; exact List.mem_cons_self
      · rcases List.mem_cons.mp h with e | h
        · subst e
          have : min n m = m := Int.min_eq_right (u n (by simp))
          rw [this]; exact List.mem_cons_self
        · exact List.mem_cons_of_mem _ h
    · rcases List.mem_cons.mp hy with e | hy
      · subst e; exact Int.le_min.mpr ⟨u n (by simp), u a (by simp)⟩
      · exact u y (by simp [hy])
theorem c_sum (hc : X.calm = true) (hK : C.K = X.K) : CallR X (.builtin "sum") (rG C gSum) := by
  intro pins s σ H vs us Q I rv ⟨E, γ, h, ws, c, r, q⟩
  unfold gSum at q
  split at q
  · obtain ⟨v, rfl, r1⟩ := one_rw r
    split at q
    · rename_i xs e
      split at q
      · rename_i ns en
        obtain ⟨a, vs, rfl, q1, q2⟩ := look_lst c r1 e
        have ev := ints_rw en q2
        subst ev
        exact cr_sum hc pins s σ H _ us Q I rv ⟨a, ns, rfl, .inl q1, PoE.here q c rfl⟩
      · exact q.elim
    · exact q.elim
  · exact q.elim
theorem c_maxL (hc : X.calm = true) (hK : C.K = X.K) : CallR X (.builtin "max") (rG C gMaxL) := by
  intro pins s σ H vs us Q I rv ⟨E, γ, h, ws, c, r, q⟩
  unfold gMaxL at q
  split at q
  · obtain ⟨v, rfl, r1⟩ := one_rw r
    split at q
    · rename_i xs e
      split at q
      · rename_i n ns en
        obtain ⟨a, vs, rfl, q1, q2⟩ := look_lst c r1 e
        have ev := ints_rw en q2
        subst ev
        refine cr_max hc pins s σ H _ us Q I rv ⟨a, n :: ns, rfl, .inl q1, Nat.succ_pos _, fun m hm hu => ?_⟩
        rw [fold_max ns n m hm hu] at q
        exact PoE.here q c rfl
      · exact q.elim
    · exact q.elim
  · exact q.elim
theorem c_minL (hc : X.calm = true) (hK : C.K = X.K) : CallR X (.builtin "min") (rG C gMinL) := by
  intro pins s σ H vs us Q I rv ⟨E, γ, h, ws, c, r, q⟩
  unfold gMinL at q
  split at q
  · obtain ⟨v, rfl, r1⟩ := one_rw r
    split at q
    · rename_i xs e
      split at q
      · rename_i n ns en
        obtain ⟨a, vs, rfl, q1, q2⟩ := look_lst c r1 e
        have ev := ints_rw en q2
        subst ev
        refine cr_min hc pins s σ H _ us Q I rv ⟨a, n :: ns, rfl, .inl q1, Nat.succ_pos _, fun m hm hu => ?_⟩
        rw [fold_min ns n m hm hu] at q
        exact PoE.here q c rfl
      · exact q.elim
    · exact q.elim
  · exact q.elim
end
section
variable {X : Cx} {C : Cf} {cl : CL} {k : Nat} {Wx : WX} {o i e : Expr} {xo xi xe : Ex} {pos p : Pos} {vs : List Nat}
theorem g_sub (R : Rk X C) (ho : PE X o (tev C cl Wx xo)) (hi : PE X i (tev C cl Wx xi))
    (ha : ∀ v, assign (.Subscript o i pos) X.env v = (do
      let ov ← holding [v] (eval o X.env)
      let iv ← holding [v, ov] (eval i X.env)
      standAt pos
      holding [v, ov, iv] (PySem.setItem ov iv v)
      release [v, ov, iv] []) := by intro _; rfl) : PG X (.Subscript o i pos) (ttg' C cl vs (tSub xo xi)) := pgv_sub R.W (by have := R.hu; omega) ho hi ha
theorem q_rai0 (R : Rm X C k Wx) {c : Nat} {x : Str} {pos2 : Pos} (q : PySem.W.excIn X.K (C.ca c) [.type "ValueError", .type "Exception", .type "BaseException", .type "object"] "ValueError.__new__" = true) (hm : X.mg x = some (.ref (C.ca c))) (kC : PySem.W.keepIn X.K (.ref (C.ca c)) = true)
    (r1 : PySem.W.subIn X.K (.ref (C.ca c)) (.type "BaseException") = some true) (r2 : PySem.W.typeIn X.K (.ref (C.ca c)) = some (.type "type")) (hg : Gl X x := by rfl) (hdb : (x == ("__debug__" : Str)) = false := by decide) (hcm : X.calm = true := by rfl) :
    PS X (.Raise (some (.Call (.Name x p) [] [] pos)) none pos2) (tst C cl Wx (sRai0 c)) := psv_rai0 hcm R.tk PySem.F.excBase_ValueError q hm kC (raises_own r1 r2) hg hdb
theorem q_try1 (R : Rm X C k Wx) {x : Str} {tab : List (Nat × Bool)} {cv : Value} {body suite : List Stmt} {b₀ : Stmt} {np pos' : Pos} {sx sb : Sx} (hm : X.mg x = some cv)
    (htab : ∀ c' t, tab.lookup c' = some t → PySem.W.exmOne X.K (.ref (C.ca c')) cv = some t)
    (hb : ∀ (W : WX) (pn : List (Addr × Obj)) (xe : Value → Shared → Prop), Rm (X.tr pn xe) C k W → PSs (X.tr pn xe) body (tst C cl W sb))
    (hsu : ∀ (a : Addr) (oe : Obj) (pn : List (Addr × Obj)), Rk (X.suite a ((a, oe) :: pn)) C → PSs (X.suite a ((a, oe) :: pn)) (b₀ :: suite) (tst C cl WF sx))
    (hs : X.stack = X.env :: X.outer := by rfl) (hf : X.env.frame = some X.env.locals := by rfl) (hg : Gl X x := by rfl) (hdb : (x == ("__debug__" : Str)) = false := by decide) :
    PS X (.Try body [.ExceptHandler (some (.Name x np)) none (b₀ :: suite) pos'] [] [] pos) (tst C cl Wx (sTry1 tab sx sb)) :=
  psv_try1 hs hf ⟨hg, hdb, .inl hm⟩ R.tk htab (fun W pn xe tk ps => hb W pn xe (R.tr tk ps)) (fun a oe pn => hsu a oe pn R.rk.suite)
end
end Ov
namespace Ov
open PySem PySem.Spec PyProof.Rows L2
def insI (x : Int) : List Int → List Int
  | [] => [x]
  | y :: r => if x ≤ y then x :: y :: r else y :: insI x r
def sortI : List Int → List Int
  | [] => []
  | x :: r => insI x (sortI r)
theorem insI_perm (x : Int) : ∀ l : List Int, (insI x l).Perm (x :: l)
  | [] => .refl _
  | y :: r => by
    unfold insI
    split
    · exact .refl _
    · exact ((insI_perm x r).cons y).trans (.swap x y r)
theorem sortI_perm : ∀ l : List Int, (sortI l).Perm l
  | [] => .refl _
  | x :: r => (insI_perm x _).trans ((sortI_perm r).cons x)
theorem insI_sorted (x : Int) : ∀ l : List Int, l.Pairwise (· ≤ ·) → (insI x l).Pairwise (· ≤ ·)
  | [], _ => List.pairwise_singleton _ _
  | y :: r, h => by
    unfold insI
    rw [List.pairwise_cons] at h
    split
    · rename_i le
      refine List.pairwise_cons.mpr ⟨fun z hz => ?_, List.pairwise_cons.mpr h⟩
      rcases List.mem_cons.mp hz with e | hz
      · rw [e]; exact le
      · exact Int.le_trans le (h.1 z hz)
    · rename_i nle
      refine List.pairwise_cons.mpr ⟨fun z hz => ?_, insI_sorted x r h.2⟩
      rcases List.mem_cons.mp ((insI_perm x r).mem_iff.mp hz) with e | hz
      · rw [e]; omega
      · exact h.1 z hz
theorem sortI_sorted : ∀ l : List Int, (sortI l).Pairwise (· ≤ ·)
  | [] => List.Pairwise.nil
  | x :: r => insI_sorted x _ (sortI_sorted r)
theorem sorted_one : ∀ {a b : List Int}, a.Perm b → a.Pairwise (· ≤ ·) → b.Pairwise (· ≤ ·) → a = b
  | [], b, p, _, _ => (List.nil_perm.mp p).symm
  | x :: r, [], p, _, _ => by have := p.length_eq; cases this
  | x :: r, y :: t, p, h, k => by
    rw [List.pairwise_cons] at h k
    have e : x = y := by
      have hx : x ∈ y :: t := p.mem_iff.mp List.mem_cons_self
      have hy : y ∈ x :: r := p.mem_iff.mpr List.mem_cons_self
      rcases List.mem_cons.mp hx with e | hx
      · exact e
      · rcases List.mem_cons.mp hy with e | hy
        · exact e.symm
        · have := k.1 x hx; have := h.1 y hy; omega
    subst e
    rw [sorted_one ((List.perm_cons x).mp p) h.2 k.2]
def gSortI : Gf := fun ws h => match ws with
  | [w] => match look h w with
    | .lst xs => match intsOf xs with
      | some ns => if Nat.blt ns.length 64 then .ok (.lst ((sortI ns).map .int)) h else .no
      | none => .no
    | _ => .no
  | _ => .no
section
variable {X : Cx} {C : Cf}
theorem ints_made {γ : Gh} : ∀ ns : List Int, RWs C γ (ns.map W.int) (ns.map V.int)
  | [] => rfl
  | i :: r => ⟨_, _, rfl, rfl, ints_made r⟩
theorem c_sortI (hK : C.K = X.K) : CallR X (.builtin "sorted") (rG C gSortI) := by
  intro pins s σ H vs us Q I rv ⟨E, γ, h, ws, c, r, q⟩
  unfold gSortI at q
  split at q
  · obtain ⟨v, rfl, r1⟩ := one_rw r
    split at q
    · rename_i xs e
      split at q
      · rename_i ns en
        split at q
        · rename_i hz
          obtain ⟨a, vs, rfl, q1, q2⟩ := look_lst c r1 e
          have ev := ints_rw en q2
          subst ev
          refine cr_sorted pins s σ H _ us Q I rv ⟨a, ns, rfl, .inl q1, Nat.le_of_ble_eq_true hz, fun ns' p pm sd n => ?_⟩
          have : ns' = sortI ns := sorted_one (pm.trans (sortI_perm ns).symm) sd (sortI_sorted ns)
          subst this
          exact PoE.lstNew q c (ints_made _) n
        · exact q.elim
      · exact q.elim
    · exact q.elim
  · exact q.elim
end
end Ov
namespace Ov
open PySem PySem.Spec PyProof.Rows L2
def gStp (m : Bool) : W → W → Hw → R W := fun x c h => match look h x, c with
  | .lst xs, .int i => if i = 1 then made m h (.lst xs) else if i = -1 then made m h (.lst xs.reverse) else .no
  | _, _ => .no
def xStp (m : Bool) (o st : Ex) : Ex := fun cl σ h => (o cl σ h).bind fun x h1 => (st cl σ h1).bind fun c h2 => gStp m x c h2
section
variable {C : Cf} {γ : Gh}
theorem RWs.rev : ∀ {ws : List W} {vs : List V}, RWs C γ ws vs → RWs C γ ws.reverse vs.reverse
  | [], _, r => by cases r; exact rfl
  | w :: ws, _, ⟨v, q, e, a, b⟩ => by
    subst e
    rw [List.reverse_cons, List.reverse_cons]
    exact (RWs.rev b).append (RWs.cons a RWs.nil)
end
theorem pick_one (its : List Value) : slicePick its.toArray none none (some 1) = its.toArray := by
  have e : slicePick its.toArray none none (some 1) = slicePick its.toArray none none none := rfl
  rw [e, slicePick_cut]
  simp [HT.sIx_none]
section
variable {X : Cx} {C : Cf} {cl : CL} {Wx : WX} {e st : Expr} {xe xs : Ex} {pos p3 : Pos} {m : Bool}
theorem pv_stp (hK : C.K = X.K) (he : PE X e (tev C cl Wx xe)) (hst : PE X st (tev C cl Wx xs)) : PE X (.Subscript e (.Slice none none (some st) p3) pos) (tev C cl Wx (xStp m xe xs)) := by
  refine ⟨fun pins s σ H Q I t => ?_⟩
  have t' := tev2 (f := gStp m) t
  refine Subscript_ (thn (he.run pins s σ H _ I t') fun v s1 ⟨x, H1, I1, r1, q1⟩ => ?_)
  refine wpAny_Slice (thn (po_none.run pins s1 σ H1 (fun o H2 => o = none ∧ H2 = H1) I1 ⟨rfl, rfl⟩) fun vl s2 ⟨l, H2, I2, pl, el, e2⟩ => ?_)
  subst el e2
  refine thn (po_none.run pins s2 σ H2 (fun o H3 => o = none ∧ H3 = H2) I2 ⟨rfl, rfl⟩) fun vu s3 ⟨u, H3, I3, pu, eu, e3⟩ => ?_
  subst eu e3
  have ho : PO X (some st) (fun σ H Q => tev C cl Wx xs σ H fun y H' => ∃ i, y = .int i ∧ Q (some i) H') := po_some hst
  refine thn (ho.run pins s3 σ H3 (fun o H4 => ∃ y i, y = V.int i ∧ o = some i ∧ rf2 C (gStp m) (fun cls d H' => Wx cls d σ H') x y H4 Q) I3 (q1.imp fun y H4 q => ?_)) fun vs s4 ⟨o, H4, I4, ps, y, i, ey, eo, q4⟩ => ?_
  · obtain ⟨γ, h, w, c, hc, rw1, rw2, p⟩ := id q
    unfold gStp at p
    split at p
    · cases rw2; exact ⟨_, rfl, _, _, rfl, rfl, q⟩
    · exact p.elim
  · subst ey eo
    obtain ⟨γ, h, w, c, hc, rw1, rw2, p⟩ := q4
    unfold gStp at p
    split at p
    · rename_i us j el
      have ej : i = j := by cases rw2; rfl
      subst ej
      obtain ⟨a, zs, rfl, z1, z2⟩ := look_lst hc rw1 el
      cases r1
      have I5 : Inv X pins σ H4 { s4 with heap := s4.heap.push { cls := .type "slice", data := .fields #[vl, vu, vs] } } := I4.kept (t' := s4.toks) fun b ob q => Heap.get?_push_of_some _ q
      obtain ⟨its, r, ht, hz⟩ := I5.list (.inl z1)
      have hlen := r.length
      show wpAny (model X.prog X.w) X.A (subscriptTail e (.Slice none none (some st) p3) (.ref a) (.ref s4.heap.objs.size)) (EP X pins σ Q) X.xe { s4 with heap := s4.heap.push { cls := .type "slice", data := .fields #[vl, vu, vs] } }
      refine tail_any (ops := [.ref a, .ref s4.heap.objs.size]) ht.isList.typeIs (PySem.slot_list_getitem.lookup) ?_ (by with_unfolding_all rfl)
      split at p
      · rename_i e1
        subst e1
        refine wpAny_getItem_list_slice ht.isList (Heap.IsSliceOf.new _ vl vu vs) pl pu ps (by decide) ?_ (by rw [List.size_toArray]; omega)
        rw [pick_one]
        refine ⟨.ref _, _, I5.laid (t' := s4.toks) (o := .lst zs) (fun b ob q => Heap.get?_push_of_some _ q) (Nat.le_refl _) ?_, rfl, PoE.lstMade p hc z2 (I5.hok.fresh (Nat.le_refl _))⟩
        exact ⟨hz, _, 0, r, Heap.get?_push_size _ rfl⟩
      · split at p
        · rename_i e1
          subst e1
          refine wpAny_getItem_list_slice ht.isList (Heap.IsSliceOf.new _ vl vu vs) pl pu ps (by decide) ?_ (by rw [List.size_toArray]; omega)
          rw [PySem.W.krv_pick]
          refine ⟨.ref _, _, I5.laid (t' := s4.toks) (o := .lst zs.reverse) (fun b ob q => Heap.get?_push_of_some _ q) (Nat.le_refl _) ?_, rfl, PoE.lstMade p hc z2.rev (I5.hok.fresh (Nat.le_refl _))⟩
          exact ⟨by rw [List.length_reverse]; exact hz, _, 0, r.reverse, Heap.get?_push_size _ rfl⟩
        · exact p.elim
    · exact p.elim
end
end Ov
namespace Ov
open PySem PySem.Spec PyProof.Rows L2
def gListA (m : Bool) : Gf := fun ws h => match ws with
  | [.str s] => if Nat.blt s.length most then made m h (.lst (signs s)) else .no
  | ws => gList m ws h
section
variable {X : Cx} {C : Cf}
theorem signs_made {γ : Gh} : ∀ s : List Nat, RWs C γ (signs s) (s.map fun c => V.str ⟨#[c]⟩)
  | [] => rfl
  | c :: r => ⟨_, _, rfl, rfl, signs_made r⟩
theorem c_listA {m : Bool} (hc : X.calm = true) (hK : C.K = X.K) : CallR X (.type "list") (rG C (gListA m)) := by
  intro pins s σ H vs us Q I rv ⟨E, γ, h, ws, c, r, q⟩
  unfold gListA at q
  split at q
  · rename_i z
    split at q
    · rename_i hz
      obtain ⟨v, rfl, r1⟩ := one_rw r
      cases r1
      cases rv with
      | cons ru rn =>
        rename_i u us'
        cases rn
        obtain ⟨t, rfl⟩ := ru
        have hsz : (mkS z).cps.size ≤ sizeLine := by
          show z.toArray.size ≤ sizeLine
          rw [List.size_toArray]; exact Nat.le_of_lt (most_line hz)
        refine call_list_str (I.ok.hd hc) (mkS z) t (fun h' tk acc' c' kp hS hi => ?_) hsz
        have vv : Vals (z.map fun c => V.str ⟨#[c]⟩) acc'.toList := by
          refine vals_of_idx _ _ (by rw [Array.length_toList, hi.1, List.length_map]; show z.toArray.size = _; rw [List.size_toArray]) fun j u e => ?_
          obtain ⟨cp, tk', e1, e2⟩ := hi.2 j u (by simpa using e)
          have e1' : z[j]? = some cp := by simpa [mkS] using e1
          exact ⟨.str ⟨#[cp]⟩, by rw [List.getElem?_map, e1']; rfl, tk', e2⟩
        refine ⟨.ref s.heap.objs.size, _, I.laid (t' := tk) (o := .lst (z.map fun c => V.str ⟨#[c]⟩)) kp (Nat.le_refl _) ⟨?_, acc'.toList, c', vv, ?_⟩, rfl, PoE.lstMade q c (signs_made z) (I.hok.fresh (Nat.le_refl _))⟩
        · rw [List.length_map]; exact Nat.le_of_lt (most_line hz)
        · rw [hS]
    · exact q.elim
  · exact c_list hK pins s σ H vs us Q I rv ⟨E, γ, h, _, c, r, q⟩
end
end Ov
namespace Ov
open PySem PySem.Spec PyProof.Rows L2
section
variable {C : Cf} {γ γ' γ1 : Gh} {h h1 : Hw} {H H' H1 : Hp} {D : Addr} {o : HO}
theorem HC.addX (c : HC C γ h H) (n : H D = none) (no : ∀ y, o ≠ .own y) : HC C (γ.add D) h (upd H D o) := by
  have ne : ∀ a o', H a = some o' → a ≠ D := fun a o' e z => by subst z; rw [n] at e; cases e
  have nn : ∀ a, H a ≠ none → a ≠ D := fun a e z => by subst z; exact e n
  have fD : γ.F D = none := by
    cases e : γ.F D with
    | none => rfl
    | some u => rw [c.frz _ _ e] at n; cases n
  have nι : D ∉ γ.ι := fun hp => c.there D hp n
  have mo : Mor γ (γ.add D) := ⟨fun _ _ z => z, fun _ _ z => z, fun _ _ z => z⟩
  refine ⟨c.len, c.nd, fun m a cc i hm => ?_, fun a i => upd_some (c.there a i), fun a u e => by rw [upd_ne (ne a u (c.frz a u e))]; exact c.frz a u e, fun a pa => ?_, fun d y e => ?_, fun a l q => by rw [upd_ne (ne a _ (c.lkd a l q))]; exact c.lkd a l q, fun a pa => ?_⟩
  · have q := c.cell m a cc i hm
    have ha := nn a (c.there a (List.mem_of_getElem? i))
    cases cc with
    | lst us => obtain ⟨f, ys, hh, r'⟩ := q; exact ⟨f, ys, by rw [upd_ne ha]; exact hh, mo.rws r'⟩
    | dct _ _ => obtain ⟨f, o, xs, ys, hh, d, r1, r2⟩ := q; exact ⟨f, o, xs, ys, by rw [upd_ne ha]; exact hh, d, mo.rws r1, mo.rws r2⟩
    | lck _ _ => obtain ⟨f, o, xs, ys, lo, hh, d, r1, r2⟩ := q; exact ⟨f, o, xs, ys, lo, by rw [upd_ne ha]; exact hh, d, mo.rws r1, mo.rws r2⟩
    | obj k ns us => obtain ⟨f, dx, ys, fd, hh, hd, l, r'⟩ := q; exact ⟨f, dx, ys, fd, by rw [upd_ne ha]; exact hh, by rw [upd_ne (ne _ _ hd)]; exact hd, l, mo.rws r'⟩
    | dead => trivial
  · rcases pa with pa | rfl
    · obtain ⟨a1, a2, a3, a4⟩ := c.prot a pa
      exact ⟨upd_some a1, a2, a3, fun b hb => by rw [upd_ne (nn a a1)]; exact a4 b hb⟩
    · exact ⟨by rw [upd_same]; simp, fD, nι, fun b hb => by rw [upd_same]; simp [no b]⟩
  · by_cases z : d = D
    · subst z; rw [upd_same] at e; cases e; exact absurd rfl (no y)
    · rw [upd_ne z] at e
      exact upd_some (c.own d y e)
  · rcases pa with pa | rfl
    · exact c.prl a pa
    · cases q : γ.L a with
      | none => exact q
      | some l => rw [c.lkd a l q] at n; cases n
theorem HC.writeX (c : HC C γ h H) (p : γ.P D) (no : ∀ y, o ≠ .own y) : HC C γ h (upd H D o) := by
  obtain ⟨p1, p2, p3, p4⟩ := c.prot D p
  refine ⟨c.len, c.nd, fun m a cc i hm => ?_, fun a i => upd_some (c.there a i), fun a u e => ?_, fun a pa => ?_, fun d y e => ?_, fun a l q => ?_, c.prl⟩
  · have q := c.cell m a cc i hm
    have mem := List.mem_of_getElem? i
    have ha : a ≠ D := fun z => by subst z; exact p3 mem
    cases cc with
    | lst us => obtain ⟨f, ys, hh, r'⟩ := q; exact ⟨f, ys, by rw [upd_ne ha]; exact hh, r'⟩
    | dct _ _ => obtain ⟨f, o, xs, ys, hh, d, r1, r2⟩ := q; exact ⟨f, o, xs, ys, by rw [upd_ne ha]; exact hh, d, r1, r2⟩
    | lck _ _ => obtain ⟨f, o, xs, ys, lo, hh, d, r1, r2⟩ := q; exact ⟨f, o, xs, ys, lo, by rw [upd_ne ha]; exact hh, d, r1, r2⟩
    | obj k ns us =>
      obtain ⟨f, dx, ys, fd, hh, hd, l, r'⟩ := q
      have hx : dx ≠ D := fun z => by subst z; exact p4 a mem hd
      exact ⟨f, dx, ys, fd, by rw [upd_ne ha]; exact hh, by rw [upd_ne hx]; exact hd, l, r'⟩
    | dead => trivial
  · have : a ≠ D := fun z => by subst z; rw [p2] at e; cases e
    rw [upd_ne this]; exact c.frz a u e
  · obtain ⟨a1, a2, a3, a4⟩ := c.prot a pa
    refine ⟨upd_some a1, a2, a3, fun b hb => ?_⟩
    by_cases z : a = D
    · subst z; rw [upd_same]; simp [no b]
    · rw [upd_ne z]; exact a4 b hb
  · by_cases z : d = D
    · subst z; rw [upd_same] at e; cases e; exact absurd rfl (no y)
    · rw [upd_ne z] at e
      exact upd_some (c.own d y e)
  · have z : a ≠ D := fun z => by subst z; rw [c.prl a p] at q; cases q
    rw [upd_ne z]; exact c.lkd a l q
theorem HC.settleX (c : HC C γ h H) (p : γ.P D) (d : H D = some o) (no : ∀ y, o ≠ .own y) {P' : Addr → Prop} (hP : ∀ a, P' a → γ.P a ∧ a ≠ D) : HC C { γ with P := P', F := upd γ.F D o } h H := by
  obtain ⟨p1, p2, p3, p4⟩ := c.prot D p
  have fz : ∀ a u, γ.F a = some u → upd γ.F D o a = some u := fun a u e => by
    have : a ≠ D := fun z => by subst z; rw [p2] at e; cases e
    rw [upd_ne this]; exact e
  have mo : Mor γ { γ with P := P', F := upd γ.F D o } := ⟨fun _ _ z => z, fz, fun _ _ z => z⟩
  refine ⟨c.len, c.nd, fun m a cc i hm => ?_, c.there, fun a u e => ?_, fun a pa => ?_, c.own, c.lkd, fun a pa => c.prl a (hP a pa).1⟩
  · have q := c.cell m a cc i hm
    have mem := List.mem_of_getElem? i
    have ha : a ≠ D := fun z => by subst z; exact p3 mem
    have fr : γ.F a = none → upd γ.F D o a = none := fun e => by rw [upd_ne ha]; exact e
    cases cc with
    | lst us => obtain ⟨f, ys, hh, r'⟩ := q; exact ⟨⟨fr f.1, f.2⟩, ys, hh, mo.rws r'⟩
    | dct _ _ => obtain ⟨f, o, xs, ys, hh, d, r1, r2⟩ := q; exact ⟨⟨fr f.1, f.2⟩, o, xs, ys, hh, d, mo.rws r1, mo.rws r2⟩
    | lck _ _ => obtain ⟨f, o, xs, ys, lo, hh, d, r1, r2⟩ := q; exact ⟨fr f, o, xs, ys, lo, hh, d, mo.rws r1, mo.rws r2⟩
    | obj k ns us =>
      obtain ⟨f, dx, ys, fd, hh, hd, l, r'⟩ := q
      have hx : dx ≠ D := fun z => by subst z; rw [d] at hd; cases hd; exact absurd rfl (no a)
      exact ⟨⟨fr f.1, f.2⟩, dx, ys, by show upd γ.F D o dx = none; rw [upd_ne hx]; exact fd, hh, hd, l, mo.rws r'⟩
    | dead => trivial
  · by_cases z : a = D
    · subst z
      have e' : upd γ.F a o a = some u := e
      rw [upd_same] at e'; cases e'; exact d
    · have e' : upd γ.F D o a = some u := e
      rw [upd_ne z] at e'; exact c.frz a u e'
  · obtain ⟨q1, q2⟩ := hP a pa
    obtain ⟨a1, a2, a3, a4⟩ := c.prot a q1
    exact ⟨a1, by show upd γ.F D _ a = none; rw [upd_ne q2]; exact a2, a3, a4⟩
theorem HC.settleXC (c : HC C γ h H) (p : γ.P D) (d : H D = some o) (no : ∀ y, o ≠ .own y) {cc : Cell} {P' : Addr → Prop} (hP : ∀ a, P' a → γ.P a ∧ a ≠ D ∧ H a ≠ some (.own D))
    (new : ∀ γ', Mor γ γ' → Fr γ' D → CellIs C γ' H D cc) : HC C { γ with P := P', ι := γ.ι ++ [D] } (h ++ [cc]) H := by
  obtain ⟨p1, p2, p3, p4⟩ := c.prot D p
  have ix : ∀ (n : Nat) (a : Addr), γ.ι[n]? = some a → (γ.ι ++ [D])[n]? = some a := fun n a e => by
    rw [List.getElem?_append_left (List.getElem?_eq_some_iff.mp e).1]; exact e
  have mo : Mor γ { γ with P := P', ι := γ.ι ++ [D] } := ⟨ix, fun _ _ z => z, fun _ _ z => z⟩
  refine ⟨by simp [c.len], nodup_append_one c.nd p3, fun m a c' i hm => ?_, fun a i => ?_, c.frz, fun a pa => ?_, c.own, c.lkd, fun a pa => c.prl a (hP a pa).1⟩
  · by_cases hlt : m < γ.ι.length
    · have i2 : γ.ι[m]? = some a := by
        have i3 : (γ.ι ++ [D])[m]? = some a := i
        rw [List.getElem?_append_left hlt] at i3
        exact i3
      rw [List.getElem?_append_left (by rw [c.len]; exact hlt)] at hm
      have q := c.cell m a c' i2 hm
      cases c' with
      | lst us => obtain ⟨f, ys, hh, r'⟩ := q; exact ⟨f, ys, hh, mo.rws r'⟩
      | dct _ _ => obtain ⟨f, o, xs, ys, hh, d, r1, r2⟩ := q; exact ⟨f, o, xs, ys, hh, d, mo.rws r1, mo.rws r2⟩
      | lck _ _ => obtain ⟨f, o, xs, ys, lo, hh, d, r1, r2⟩ := q; exact ⟨f, o, xs, ys, lo, hh, d, mo.rws r1, mo.rws r2⟩
      | obj k ns us => obtain ⟨f, dx, ys, fd, hh, hd, l, r'⟩ := q; exact ⟨f, dx, ys, fd, hh, hd, l, mo.rws r'⟩
      | dead => trivial
    · have hm' : m = γ.ι.length := by
        have h1 : m < γ.ι.length + 1 := by simpa using (List.getElem?_eq_some_iff.mp i).1
        omega
      subst hm'
      have : a = D := by simpa using i.symm
      subst this
      have : c' = cc := by
        rw [← c.len] at hm
        simpa using hm.symm
      subst this
      exact new _ mo ⟨p2, c.prl _ p⟩
  · rcases List.mem_append.mp i with i | i
    · exact c.there a i
    · have : a = D := by simpa using i
      subst this; exact p1
  · obtain ⟨q1, q2, q3⟩ := hP a pa
    obtain ⟨a1, a2, a3, a4⟩ := c.prot a q1
    refine ⟨a1, a2, fun hm => ?_, fun b hb => ?_⟩
    · rcases List.mem_append.mp hm with hm | hm
      · exact a3 hm
      · exact q2 (by simpa using hm)
    · rcases List.mem_append.mp hb with hb | hb
      · exact a4 b hb
      · have : b = D := by simpa using hb
        subst this
        exact q3
structure BldX (γ1 : Gh) (H1 : Hp) (D : Addr) (γ : Gh) (H : Hp) (o : HO) : Prop where
  ex : Ext γ1 { γ with P := γ1.P } H1
  eP : γ.P = fun a => γ1.P a ∨ a = D
  kp : Keep γ1 H1 H
  d : H D = some o
theorem BldX.mor (b : BldX γ1 H1 D γ H o) : Mor γ1 γ := ⟨b.ex.mor.ix, b.ex.mor.frz, b.ex.mor.lk⟩
theorem BldX.pD (b : BldX γ1 H1 D γ H o) : γ.P D := by rw [b.eP]; exact .inr rfl
theorem BldX.start (n : H1 D = none) : BldX γ1 H1 D (γ1.add D) (upd H1 D o) o :=
  ⟨⟨⟨[], by simp [Gh.add], fun _ h => nomatch h⟩, fun _ _ h => h, rfl, rfl⟩, rfl,
    ⟨fun a o e _ => by rw [upd_ne (fun z => by subst z; rw [n] at e; cases e)]; exact e, fun a e => upd_some e⟩, upd_same⟩
theorem BldX.step (b : BldX γ1 H1 D γ H o) (c : HC C γ h H) (e : Ext γ γ' H) (k : Keep γ H H') : BldX γ1 H1 D γ' H' o := by
  have e' : Ext { γ with P := γ1.P } { γ' with P := γ1.P } H := ⟨e.pre, e.frz, rfl, e.lk⟩
  have k' : Keep { γ with P := γ1.P } H H' := ⟨k.same, k.there⟩
  exact ⟨b.ex.trans b.kp e', e.prot.trans b.eP, b.kp.trans b.ex k', k.same D _ b.d fun m => absurd m (c.prot D b.pD).2.2.1⟩
theorem BldX.write (b : BldX γ1 H1 D γ H o) (n : H1 D = none) {o' : HO} : BldX γ1 H1 D γ (upd H D o') o' :=
  ⟨b.ex, b.eP, ⟨fun a o e m => by rw [upd_ne (fun z => by subst z; rw [n] at e; cases e)]; exact b.kp.same a o e m, fun a e => by rw [upd_ne (fun z => by subst z; exact e n)]; exact b.kp.there a e⟩, upd_same⟩
theorem BldX.nP (b : BldX γ1 H1 D γ H o) (n : H1 D = none) (c1 : HC C γ1 h1 H1) : ∀ a, γ1.P a → γ.P a ∧ a ≠ D ∧ H a ≠ some (.own D) := fun a pa => by
  obtain ⟨a1, a2, a3, a4⟩ := c1.prot a pa
  refine ⟨by rw [b.eP]; exact .inl pa, fun z => by subst z; exact a1 n, fun e => ?_⟩
  cases q : H1 a with
  | none => exact a1 q
  | some o =>
    have := b.kp.same a o q fun m => absurd m a3
    rw [e] at this; cases this
    exact c1.own a D q n
theorem BldX.done {m : Bool} {ob : Obj} {ks ws : List W} {xs ys : List V} {Q : VK} {E : XK} (b : BldX γ1 H1 D γ H (pin D ob)) (n : H1 D = none) (c1 : HC C γ1 h1 H1) (c : HC C γ h H) (d : DO C.w D ob ks xs ys) (r1 : RWs C γ ks xs) (r2 : RWs C γ ws ys)
    (p : PoE C γ1 H1 (made m h (.dct ks ws)) Q E) : Q (.ref D) H := by
  have nP := b.nP n c1
  cases m with
  | false =>
    have fz : ∀ a o, γ.F a = some o → upd γ.F D (pin D ob) a = some o := fun a o e => by
      have : a ≠ D := fun z => by subst z; rw [(c.prot a b.pD).2.1] at e; cases e
      rw [upd_ne this]; exact e
    have mo : Mor γ { γ with P := γ1.P, F := upd γ.F D (pin D ob) } := ⟨fun _ _ z => z, fz, fun _ _ z => z⟩
    exact p { γ with P := γ1.P, F := upd γ.F D (pin D ob) } (.ref D) H ⟨b.ex.pre, fun a o e => fz a o (b.ex.frz a o e), rfl, b.ex.lk⟩ b.kp (c.settleX b.pD b.d (fun y z => nomatch z) fun a pa => ⟨(nP a pa).1, (nP a pa).2.1⟩) ⟨D, ob, xs, ys, rfl, upd_same, d, mo.rws r1, mo.rws r2⟩
  | true =>
    obtain ⟨l, e1, e2⟩ := b.ex.pre
    refine p { γ with P := γ1.P, ι := γ.ι ++ [D] } (.ref D) H ⟨⟨l ++ [D], ?_, fun a ha => ?_⟩, b.ex.frz, rfl, b.ex.lk⟩ b.kp (c.settleXC b.pD b.d (fun y z => nomatch z) nP fun γ' mo fr => ⟨fr, ob, xs, ys, b.d, d, mo.rws r1, mo.rws r2⟩) ⟨D, rfl, ?_⟩
    · have : γ.ι = γ1.ι ++ l := e1
      show γ.ι ++ [D] = _
      rw [this, List.append_assoc]
    · rcases List.mem_append.mp ha with ha | ha
      · exact e2 a ha
      · have : a = D := by simpa using ha
        subst this; exact n
    · show (γ.ι ++ [D])[h.length]? = some D
      rw [c.len]; simp
end
section
variable {C : Cf} {γ : Gh} {P : Program} {w : World} {g : Heap}
structure FlatD (C : Cf) (γ : Gh) (ks ws : List W) (ys : List V) (kvs : List (Key × Value)) : Prop where
  ok : KeysOk ks
  fl : ∀ k ∈ ks, W.kflat k = true
  r : RWs C γ ws ys
  kv : KV ((ks.map kK).zip ys) kvs
  len : ws.length = ks.length
structure TupD (C : Cf) (γ : Gh) (ks ws : List W) (ys : List V) (ts : List (NestedKey × Addr × Value)) : Prop where
  ok : KeysOk ks
  tp : ∀ k ∈ ks, W.isTup k = true
  e : ts.map (·.1) = ks.map keyN
  rk : RWs C γ ks (ts.map fun t => V.ref t.2.1)
  q : Paired L2.RelV ys (ts.map (·.2.2))
  r : RWs C γ ws ys
  len : ws.length = ks.length
theorem keysOk_nil : KeysOk [] := ⟨(fun _ h => nomatch h), .inl (fun _ h => nomatch h), List.nodup_nil, Nat.zero_le _⟩
theorem FlatD.nil : FlatD C γ [] [] [] [] := ⟨keysOk_nil, (fun _ h => nomatch h), rfl, .nil, rfl⟩
theorem TupD.nil : TupD C γ [] [] [] [] := ⟨keysOk_nil, (fun _ h => nomatch h), rfl, rfl, .nil, rfl, rfl⟩
theorem fl_dset {k v : W} {ks ws : List W} (ok : KeysOk ks) (fk : W.kflat k = true) (fl : ∀ j ∈ ks, W.kflat j = true) (fit : kfit k ks = true) (l : ws.length = ks.length) : ∀ j ∈ (dset k v ks ws).1, W.kflat j = true := by
  obtain ⟨fk', _⟩ := kfit_of ok fit
  rcases dset_keys (v := v) fk' ok.key l with ⟨_, b⟩ | ⟨_, b, _⟩
  · rw [b]; exact fl
  · rw [b]; intro j hj
    rcases List.mem_append.mp hj with hj | hj
    · exact fl j hj
    · rw [List.mem_singleton.mp hj]; exact fk
theorem FlatD.step {k v : W} {y : V} {u : Value} {ks ws : List W} {ys : List V} {kvs : List (Key × Value)} (d : FlatD C γ ks ws ys kvs) (fit : kfit k ks = true) (t : W.isTup k = false) (z : ks.length < sizeLine) (rv : RW C γ v y) (ry : L2.RelV y u) :
    ∃ ys', FlatD C γ (dset k v ks ws).1 (dset k v ks ws).2 ys' (stored kvs (kK k) u) := by
  obtain ⟨fk, fs⟩ := flat_all d.ok fit t
  obtain ⟨us, q1, q2⟩ := dset_flat fk rv fs (keysOk_kK d.ok fs) d.r d.len
  have kv := d.kv.put (kK k) ry
  rw [← q2] at kv
  exact ⟨us, keysOk_dset d.ok fit d.len z, fl_dset d.ok fk fs fit d.len, q1, kv, dset_len k v ks ws d.len⟩
theorem FlatD.toDO {a : Addr} {ks ws : List W} {ys : List V} {kvs : List (Key × Value)} (d : FlatD C γ ks ws ys kvs) (sys : (a == sysModules) = false) (dd : g.DictOf (mixKind P w) a kvs) : ∃ o, g.get? a = some o ∧ DO w a o ks (ks.map kX) ys ∧ RWs C γ ks (ks.map kX) :=
  let ⟨o, e, x⟩ := flat_do (P := P) (w := w) sys d.ok d.fl (by rw [← d.r.length, d.len]) d.kv dd
  ⟨o, e, x, rws_kX d.fl⟩
theorem tup_dset {k v : W} {ks ws : List W} (ok : KeysOk ks) (t : W.isTup k = true) (tp : ∀ j ∈ ks, W.isTup j = true) (fit : kfit k ks = true) (l : ws.length = ks.length) : ∀ j ∈ (dset k v ks ws).1, W.isTup j = true := by
  obtain ⟨fk', _⟩ := kfit_of ok fit
  rcases dset_keys (v := v) fk' ok.key l with ⟨_, b⟩ | ⟨_, b, _⟩
  · rw [b]; exact tp
  · rw [b]; intro j hj
    rcases List.mem_append.mp hj with hj | hj
    · exact tp j hj
    · rw [List.mem_singleton.mp hj]; exact t
theorem TupD.step {k v : W} {b : Addr} {y : V} {u : Value} {ks ws : List W} {ys : List V} {ts : List (NestedKey × Addr × Value)} (d : TupD C γ ks ws ys ts) (fit : kfit k ks = true) (t : W.isTup k = true) (z : ks.length < sizeLine) (rk : RW C γ k (.ref b)) (rv : RW C γ v y) (ry : L2.RelV y u) :
    ∃ ys', TupD C γ (dset k v ks ws).1 (dset k v ks ws).2 ys' (storedH ts (keyN k) b u) := by
  obtain ⟨fk, fs⟩ := tup_all d.ok fit t
  obtain ⟨us, q1, q2, q3, q4⟩ := dset_tup fk rk rv ry d.ok.key d.ok.nd d.e d.rk d.q d.r d.len
  exact ⟨us, keysOk_dset d.ok fit d.len z, tup_dset d.ok t fs fit d.len, q2, q3, q4, q1, dset_len k v ks ws d.len⟩
theorem TupD.toDO {a : Addr} {ks ws : List W} {ys : List V} {ts : List (NestedKey × Addr × Value)} (d : TupD C γ ks ws ys ts) (sys : (a == sysModules) = false) (dd : g.DictOfH (nestedKind P w) a ts) : ∃ o, g.get? a = some o ∧ DO w a o ks (ts.map fun t => V.ref t.2.1) ys ∧ RWs C γ ks (ts.map fun t => V.ref t.2.1) :=
  let ⟨o, e, x⟩ := tup_do (P := P) (w := w) sys d.ok d.e d.q dd
  ⟨o, e, x, d.rk⟩
end
def dict0 : Obj := { cls := .type "dict", data := .dict #[] }
theorem do_nil {w : World} {a : Addr} (sys : (a == sysModules) = false) : DO w a dict0 [] [] [] := ⟨⟨rfl, rfl, rfl⟩, sys, ⟨#[], 0, rfl, .nil⟩, keysOk_nil⟩
end Ov
namespace Ov
open PySem PySem.Spec PyProof.Rows L2
theorem dcLoop {prog : Program} {w : World} {A : Around} {R : Result → Shared → Prop} {s : Shared} {kx vx tg it0 : Expr} {ifs : List Expr} {scope : Scope} {pos : Pos} {itv : Value} {D : Addr} {env : Env} (J : Nat → Shared → Prop)
    (one : ∀ n s, J n s → wpAny (model prog w) A (pyNext itv) (fun r g1 => match r with
      | none => R (.ok .next) g1
      | some v => wpAny (model prog w) A (letOwnedTupleGo tg itv v) (fun _ g2 => wpAny (model prog w) A (assign tg env v) (fun _ g3 =>
          wpAny (model prog w) A (forIn ifs true fun c r => if r = true then do let ok ← isTrue c env (eval c env); pure (ForInStep.yield ok) else pure (ForInStep.yield r)) (fun ok g4 =>
            if ok = true then wpAny (model prog w) A (eval kx env) (fun a g5 => wpAny (model prog w) A (eval vx env) (fun b g6 =>
              wpAny (model prog w) A (dictSet D a b) (fun _ g7 => ∃ m, m < n ∧ J m g7) (notedBy (model prog w) A env fun e g => R (.error e) g) g6) (notedBy (model prog w) A env fun e g => R (.error e) g) g5) (notedBy (model prog w) A env fun e g => R (.error e) g) g4
            else ∃ m, m < n ∧ J m g4) (notedBy (model prog w) A env fun e g => R (.error e) g) g3) (notedBy (model prog w) A env fun e g => R (.error e) g) g2) (notedBy (model prog w) A env fun e g => R (.error e) g) g1) (notedBy (model prog w) A env fun e g => R (.error e) g) s)
    (n : Nat) (h : J n s) : codeAny (model prog w) A (.compLoop (.DictComp kx vx [⟨tg, it0, ifs, 0⟩] scope pos) 0 itv (.ref D) env) R s := by
  refine codeAny_loop rfl J (fun n g hJ => ?_) n h
  show wpAny _ A ((compTurn (.DictComp kx vx [⟨tg, it0, ifs, 0⟩] scope pos) 0 itv (.ref D) env).onRaise (fun x => do noteFrame x env; theTreesLotGoes x)) _ _ g
  refine wpAny_noted ?_
  rw [compTurn_dict]
  refine wpAny_bind (wpAny_standAt (wpAny_bind (wpAny_mono (one n g hJ) (fun r g1 q1 => ?_) fun _ _ q => q)))
  cases r with
  | none => exact wpAny_pure q1
  | some v =>
    refine wpAny_bind (wpAny_mono q1 (fun _ g2 q2 => ?_) fun _ _ q => q)
    refine wpAny_bind (wpAny_mono q2 (fun _ g3 q3 => wpAny_bind (wpAny_mono q3 (fun ok g4 q4 => ?_) fun _ _ q => q)) fun _ _ q => q)
    cases ok with
    | false => exact wpAny_pure ⟨rfl, q4⟩
    | true =>
      exact wpAny_bind (wpAny_bind (wpAny_mono q4 (fun a g5 q5 => wpAny_bind (wpAny_holding (wpAny_mono q5 (fun b g6 q6 => wpAny_bind (wpAny_standAt (wpAny_holding (wpAny_mono q6 (fun _ g7 q7 => wpAny_pure ⟨rfl, q7⟩) fun _ _ q => q)))) fun _ _ q => q))) fun _ _ q => q))
def PutW (C : Cf) (D : Addr) (y z : V) (H : Hp) (Nx : Hp → Prop) : Prop := ∃ γ hw k v ks ws, HC C γ hw H ∧ RW C γ k y ∧ RW C γ v z ∧ DAt C γ H D ks ws ∧ kfit k ks = true ∧ ks.length < sizeLine ∧
  ∀ o', (∃ xs ys, DO C.w D o' (dset k v ks ws).1 xs ys ∧ RWs C γ (dset k v ks ws).1 xs ∧ RWs C γ (dset k v ks ws).2 ys) → Nx (upd H D (pin D o'))
def tDcW (C : Cf) (wi : TI) (g : TG) (tt : TT) (tk tv : TE) (vs : List Nat) : TE := fun σ H Q => wi σ H fun J H1 => ∀ D, H1 D = none → (D == sysModules) = false → ∃ W : Nat → Nat → Hp → Prop, (∃ m, W 0 m (upd H1 D (pin D dict0))) ∧ ∀ i m H, W i m H →
  (J.stop i H ∧ Q (.ref D) H) ∨ (J.go i H ∧ ∃ Nx : Hp → Prop, (∀ H', Nx H' → ∃ m', m' < m ∧ W (i + 1) m' H') ∧ ∀ x H', J.yld i H x H' → g x (L2.wipe σ vs) H' fun σ2 H2 => L2.wipe σ2 vs = L2.wipe σ vs ∧ tt σ2 H2 fun b H3 =>
    if b = true then tk σ2 H3 fun y H4 => tv σ2 H4 fun z H5 => PutW C D y z H5 Nx else Nx H3)
section
variable {X : Cx} {C : Cf}
theorem dc_all {pins : List (Addr × Obj)} {s : Shared} {σ : L2.St} {H : Hp} {Q : VK} {kx vx tg it0 : Expr} {ifs : List Expr} {scope : Scope} {own : List (Str × Nat)} {pos pos' : Pos} {wi : TI} {g : TG} {tt : TT} {tk tv : TE} {use : Option (Value → Sem Unit)} {Qf : Value → Shared → Prop}
    (hW : C.w = X.w) (hu : X.A.units + 9 < cLine) (hc : X.calm = true) (hN : X.N.Nodup) (I : Inv X pins σ H s) (hi : PI X tg it0 wi) (ok : BlkOk X.N X.env.scope scope own)
    (hg : ∀ (s : Shared) (H : Hp) (B : Addr) (cl : List (Str × Addr)) (fp : List Addr), PG (X.blk s H scope (compEnvC scope cl B X.env) fp) tg g) (ht : ∀ (s : Shared) (H : Hp) (B : Addr) (cl : List (Str × Addr)) (fp : List Addr), PTs (X.blk s H scope (compEnvC scope cl B X.env) fp) ifs tt)
    (hk : ∀ (s : Shared) (H : Hp) (B : Addr) (cl : List (Str × Addr)) (fp : List Addr), PE (X.blk s H scope (compEnvC scope cl B X.env) fp) kx tk)
    (he : ∀ (s : Shared) (H : Hp) (B : Addr) (cl : List (Str × Addr)) (fp : List Addr), PE (X.blk s H scope (compEnvC scope cl B X.env) fp) vx tv) (hs : ∀ x, foldedSetIterable it0 X.env x = pure x)
    (h : tDcW C wi g tt tk tv (own.map (·.2)) σ H Q)
    (last : ∀ D B s' m H', Inv X pins σ H' s' → Q (.ref D) H' → s'.heap.Ns B m → FpOk X pins H' B → compPost (model X.prog X.w) X.A X.xe use Qf (.ref D) B (.ok .next) s') :
    wpAny (model X.prog X.w) X.A (comprehension (.DictComp kx vx [⟨tg, it0, ifs, 0⟩] scope pos) scope X.env pos' newDict false (eval it0 X.env) use) Qf X.xe s := by
  have fr : ∀ y ∈ scope.names, y.2 = .free → ∃ c, X.env.cells.lookup y.1 = some c := fun y hy e => by
    rcases ok.free y hy e with k | k
    · exact I.ok.has _ (.inl k)
    · exact I.ok.has _ (.inr k)
  refine wpAny_comprehension_free (use := use) rfl hs (closure_ok fr) ok.kind (fun y hy e => by rw [ok.uniq y hy, e]) (thn (hi.run pins s σ H _ I h) fun xv g1 hx => thn hx fun itv g2 h2 => ?_)
  obtain ⟨it, fp, tn, J, K2, e, I2, T, st2, f2, q⟩ := h2
  subst e
  refine wpAny_newObj_type (newEnv_comp ?_)
  generalize hD : g2.heap.objs.size = D
  have nD : K2 D = none := I2.hok.fresh (Nat.le_of_eq hD)
  have sD : (D == sysModules) = false := beq_eq_false_iff_ne.mpr (Ne.symm (by rw [← hD]; exact Nat.ne_of_lt I2.big))
  obtain ⟨W, ⟨m0, w0⟩, turn⟩ := q D nD sD
  generalize h3 : ({ g2 with heap := g2.heap.push { cls := .type "dict", data := .dict #[] } } : Shared) = g3
  have I3 : Inv X pins σ (upd K2 D (pin D dict0)) g3 := by
    rw [← h3]
    refine I2.laid (t' := g2.toks) (fun b o e => Heap.get?_push_of_some _ e) (Nat.le_of_eq hD) ?_
    rw [← hD]
    exact pin_ok (Heap.get?_push_size _ rfl)
  have e3 : g3.heap = g2.heap.push { cls := .type "dict", data := .dict #[] } := by rw [← h3]
  have f3 : ∀ b ∈ fp, FpOk X pins (upd K2 D (pin D dict0)) b ∧ b < g3.heap.objs.size := fun b hb => by
    obtain ⟨ob, eb, _⟩ := T.obj _ _ st2 b hb
    have lt : b < g2.heap.objs.size := Heap.lt_size eb
    refine ⟨⟨?_, (f2 b hb).2⟩, by rw [e3, Heap.size_push]; exact Nat.lt_succ_of_lt lt⟩
    rw [upd_ne (by rw [← hD]; exact Nat.ne_of_lt lt)]
    exact (f2 b hb).1
  have st3 : tn 0 g3.heap := T.keep _ _ _ st2 fun b _ ob eb => by rw [e3]; exact Heap.get?_push_of_some _ eb
  have I4 := block_start I3 ok hN f3
  have pg := hg g3 (upd K2 D (pin D dict0)) g3.heap.objs.size (cellsFrom (g3.heap.objs.size + 1) scope.names (cloFrom X.env.cells scope.names [])) fp
  have pt := ht g3 (upd K2 D (pin D dict0)) g3.heap.objs.size (cellsFrom (g3.heap.objs.size + 1) scope.names (cloFrom X.env.cells scope.names [])) fp
  have pk := hk g3 (upd K2 D (pin D dict0)) g3.heap.objs.size (cellsFrom (g3.heap.objs.size + 1) scope.names (cloFrom X.env.cells scope.names [])) fp
  have pv := he g3 (upd K2 D (pin D dict0)) g3.heap.objs.size (cellsFrom (g3.heap.objs.size + 1) scope.names (cloFrom X.env.cells scope.names [])) fp
  show codeAny _ _ (.compStart (.DictComp kx vx [⟨tg, it0, ifs, 0⟩] scope pos) 0 (.ref it) (.ref D) (compEnvC scope (cellsFrom (g3.heap.objs.size + 1) scope.names (cloFrom X.env.cells scope.names [])) g3.heap.objs.size X.env)) (compPost (model X.prog X.w) X.A X.xe use Qf (.ref D) g3.heap.objs.size) { g3 with heap := pushCells (g3.heap.push { cls := .type "dict", data := .dict #[] }) scope.names }
  have none3 : ∀ b ∈ fp, (upd K2 D (pin D dict0)) b = none := fun b hb => (f3 b hb).1.1
  generalize hce : compEnvC scope (cellsFrom (g3.heap.objs.size + 1) scope.names (cloFrom X.env.cells scope.names [])) g3.heap.objs.size X.env = ce at I4 pg pt pk pv ⊢
  have cL : ce.locals = g3.heap.objs.size := by subst hce; rfl
  generalize hK3 : upd K2 D (pin D dict0) = K3 at I3 I4 pg pt pk pv w0 none3 f3
  generalize h4 : ({ g3 with heap := pushCells (g3.heap.push { cls := .type "dict", data := .dict #[] }) scope.names } : Shared) = g4 at I4 ⊢
  have st4 : tn 0 g4.heap := T.keep _ _ _ st3 fun b _ ob eb => by rw [← h4]; exact pushCells_keeps _ _ _ _ (Heap.get?_push_of_some _ eb)
  have stat : ∀ {σ' : L2.St} {H' : Hp} {s' : Shared}, Inv (X.blk g3 K3 scope ce fp) [] σ' H' s' → (∀ b ∈ fp, H' b = none) → ∀ b ∈ fp, FpOk (X.blk g3 K3 scope ce fp) [] H' b := fun {σ' H' s'} Ib hn b hb =>
    ⟨hn b hb, (Ib.ok.exf b hb).1, Ib.ok.exfs b hb, .inl hb, fun x c e => (Ib.ok.exf b hb).2 x c e, fun p hp => absurd (show p ∈ ([] : List (Addr × Obj)) ++ [] from hp) (by simp)⟩
  have loop : codeAny (model X.prog X.w) X.A (.compLoop (.DictComp kx vx [⟨tg, it0, ifs, 0⟩] scope pos) 0 (.ref it) (.ref D) ce) (compPost (model X.prog X.w) X.A X.xe use Qf (.ref D) g3.heap.objs.size) g4 := by
    refine dcLoop (fun n s' => ∃ i H', Inv (X.blk g3 K3 scope ce fp) [] (L2.wipe σ (own.map (·.2))) H' s' ∧ tn i s'.heap ∧ (∀ b ∈ fp, H' b = none) ∧ W i n H') ?_ m0 ⟨0, K3, I4, st4, none3, w0⟩
    rintro n g5 ⟨i, K5, I5, st5, n5, w5⟩
    rcases turn i n K5 w5 with ⟨stop, qq⟩ | ⟨go, Nx, hNx, step⟩
    · refine thnF (T.done (X.blk g3 K3 scope ce fp) rfl rfl rfl hc i [] g5 _ K5 (fun _ _ => False) I5 (stat I5 n5) st5 stop) fun r g6 ⟨hr, I6⟩ => ?_
      subst hr
      have I7 : Inv X pins σ K5 g6 := I3.call' (ch := fp) I6.os I6.base I6.hok I6.bare fun b hb => ⟨(f3 b hb).1.2.2.2.1, (f3 b hb).1.2.1, (f3 b hb).1.2.2.2.2.1, (f3 b hb).1.2.2.2.2.2⟩
      have nB : K5 g3.heap.objs.size = none := by
        have z : K5 ce.locals = none := I6.free
        rw [cL] at z
        exact z
      obtain ⟨m, hn, _⟩ := I6.loc
      have hn : g6.heap.Ns ce.locals m := hn
      rw [cL] at hn
      exact last D g3.heap.objs.size g6 m K5 I7 qq hn (I3.fpOk (Nat.le_refl _) nB)
    · refine thnF (T.item (X.blk g3 K3 scope ce fp) rfl rfl rfl hc i [] g5 _ K5 (fun _ _ => False) I5 (stat I5 n5) st5 go) fun r g6 ⟨u, hr, q6⟩ => ?_
      subst hr
      refine thnF q6 fun _ g7 ⟨x, K7, I7, r7, y7, st7, n7⟩ => ?_
      refine thnF (pg.run _ g7 _ K7 x u _ (I7.pinned (stat I7 n7) (T.obj _ _ st7)) r7 (step x K7 y7)) fun _ g8 ⟨σ8, K8, I8, hw8, q8⟩ => ?_
      refine thnF (pt.run _ g8 σ8 K8 _ I8 q8) fun b g9 ⟨K9, I9, q9⟩ => ?_
      have fin : ∀ {s' : Shared} {H' : Hp}, Inv (X.blk g3 K3 scope ce fp) ([] ++ pinsAt fp g7.heap) σ8 H' s' → Nx H' → ∃ m, m < n ∧ ∃ i H', Inv (X.blk g3 K3 scope ce fp) [] (L2.wipe σ (own.map (·.2))) H' s' ∧ tn i s'.heap ∧ (∀ b ∈ fp, H' b = none) ∧ W i m H' := fun {s' H'} Ib nx => by
        obtain ⟨m', hm, w'⟩ := hNx H' nx
        have kept : ∀ b ∈ fp, ∀ ob, g7.heap.get? b = some ob → s'.heap.get? b = some ob ∧ H' b = none := fun b hb ob eb =>
          let z := Ib.pin (b, ob) (List.mem_append_right _ (List.mem_append_right _ (mem_pinsAt hb eb)))
          ⟨z.1, z.2.1⟩
        have hl : (L2.wipe σ (own.map (·.2))).length = σ8.length := by rw [← hw8, L2.wipe_length]
        refine ⟨m', hm, i + 1, H', (Ib.unpinned (pins := [])).weak hl (fun j v e => ?_), T.keep _ _ _ st7 fun b hb ob eb => (kept b hb ob eb).1, fun b hb => ?_, w'⟩
        · rw [← hw8] at e
          exact (wipe_some e).1
        · obtain ⟨ob, eb, _⟩ := T.obj _ _ st7 b hb
          exact (kept b hb ob eb).2
      cases b with
      | false =>
        simp only [Bool.false_eq_true, if_false] at q9 ⊢
        exact fin I9 q9
      | true =>
        simp only [if_true] at q9 ⊢
        refine thnF (pk.run _ g9 σ8 K9 _ I9 q9) fun z g10 ⟨yk, K10, I10, r10, q10⟩ => ?_
        refine thnF (pv.run _ g10 σ8 K10 _ I10 q10) fun z2 g11 ⟨yv, K11, I11, r11, γ, hw, k, v, ks, ws, c11, rk, rv, d11, fit, lt, nx⟩ => ?_
        exact w_dictSet (X := X.blk g3 K3 scope ce fp) hW hu c11 I11 d11 fit lt rk r10 rv r11 fun o' g12 I12 dd => fin I12 (nx o' dd)
  exact codeAny_compStart_dict loop (T.self X.A 0 _ _ _ st4 loop)
theorem pe_dcW {kx vx tg it0 : Expr} {ifs : List Expr} {scope : Scope} {own : List (Str × Nat)} {pos : Pos} {wi : TI} {g : TG} {tt : TT} {tk tv : TE} (hW : C.w = X.w) (hu : X.A.units + 9 < cLine) (hc : X.calm = true) (hN : X.N.Nodup) (hi : PI X tg it0 wi) (ok : BlkOk X.N X.env.scope scope own)
    (hg : ∀ (s : Shared) (H : Hp) (B : Addr) (cl : List (Str × Addr)) (fp : List Addr), PG (X.blk s H scope (compEnvC scope cl B X.env) fp) tg g) (ht : ∀ (s : Shared) (H : Hp) (B : Addr) (cl : List (Str × Addr)) (fp : List Addr), PTs (X.blk s H scope (compEnvC scope cl B X.env) fp) ifs tt)
    (hk : ∀ (s : Shared) (H : Hp) (B : Addr) (cl : List (Str × Addr)) (fp : List Addr), PE (X.blk s H scope (compEnvC scope cl B X.env) fp) kx tk)
    (he : ∀ (s : Shared) (H : Hp) (B : Addr) (cl : List (Str × Addr)) (fp : List Addr), PE (X.blk s H scope (compEnvC scope cl B X.env) fp) vx tv) (hs : ∀ x, foldedSetIterable it0 X.env x = pure x) :
    PE X (.DictComp kx vx [⟨tg, it0, ifs, 0⟩] scope pos) (tDcW C wi g tt tk tv (own.map (·.2))) := by
  refine ⟨fun pins s σ H Q I h => ?_⟩
  rw [arm_eval_DictComp]
  refine dc_all hW hu hc hN I hi ok hg ht hk he hs h fun D B s' m H' Ib q hn f => ⟨m, hn, fun h'' sb => ?_⟩
  obtain ⟨f0, f1, f2, f3, f4, f5⟩ := f
  exact ⟨.ref D, H', Ib.turned (t' := s'.toks) (fun b ob hb e => (sb.2 b hb).trans e) f0 f1 f3 f4 f5, rfl, q⟩
end
section
variable {X : Cx} {C : Cf} {cl : CL} {Wx : WX} {k : IK} {its : Exs} {own : List Nat} {t : Tx} {ifs : Exb} {e v : Ex} {m : Bool}
theorem src_len {k : IK} {its : Exs} {cl : CL} {σw : Sw} {h h1 : Hw} {pr : List W × List W} (es : src k its cl σw h = .ok pr h1) : pr.2.length < most := by
  unfold src at es
  cases ea : its cl σw h with
  | no => rw [ea] at es; cases es
  | exn c a h1 => rw [ea] at es; cases es
  | ok ws h2 =>
    rw [ea] at es
    dsimp only [R.bind] at es
    cases hw : walked k (ws.map (lookS h2)) with
    | none => rw [hw] at es; cases es
    | some us =>
      rw [hw] at es
      dsimp only at es
      cases hb : Nat.blt us.length most with
      | false => rw [hb] at es; cases es
      | true => rw [hb] at es; cases es; exact Nat.le_of_ble_eq_true hb
theorem dc_sem {σ : L2.St} {H : Hp} {Q : VK} (tt : tev C cl Wx (xDcomp m own t k its ifs e v) σ H Q) : tDcW C (tit C cl Wx k its) (ttg' C cl own t) (tfs C cl WF ifs) (tev C cl WF e) (tev C cl WF v) own σ H Q := by
  obtain ⟨γ0, σw, h, sl, hc, p⟩ := tt
  refine ⟨γ0, σw, h, sl, hc, ?_⟩
  unfold xDcomp at p
  cases es : src k its cl σw h with
  | no => rw [es] at p; exact p
  | exn c a h1 => rw [es] at p; exact p
  | ok pr h1 =>
    rw [es] at p
    obtain ⟨ws, xs⟩ := pr
    intro γ1 J H1 e1 k1 c1 wk D hD sD
    have p1 := PoE.step p e1 k1
    dsimp only [R.bind] at p1
    generalize hch : (fun h' => stands h1 h' ws) = chk at p1 wk
    clear hch p
    refine ⟨fun i n Hi => n = xs.length - i ∧ i ≤ xs.length ∧ ∃ γ hh ob ks us as bs, BldX γ1 H1 D γ Hi (pin D ob) ∧ HC C γ hh Hi ∧ DO C.w D ob ks as bs ∧ RWs C γ ks as ∧ RWs C γ us bs ∧
      PoE C γ1 H1 ((dcGo chk (turnD own t ifs e v cl σw) (xs.drop i) ks us hh).bind fun kv h3 => made m h3 (.dct kv.1 kv.2)) Q (fun cls d H' => Wx cls d σ H'),
      ⟨xs.length, rfl, Nat.zero_le _, γ1.add D, h1, dict0, [], [], [], [], BldX.start hD, c1.addX hD (fun y z => nomatch z), do_nil sD, rfl, rfl, p1⟩, ?_⟩
    rintro i n Hi ⟨rfl, hi, γ, hh, ob, ks, us, as, bs, bd, hcc, dd, ra, rb, pp⟩
    by_cases hlt : i < xs.length
    · right
      rw [List.drop_eq_getElem_cons hlt] at pp
      unfold dcGo at pp
      cases hk : chk hh with
      | false => rw [hk] at pp; exact pp.elim
      | true =>
        rw [hk] at pp
        dsimp only at pp
        refine ⟨wk.goes γ hh Hi i bd.mor hcc hk hlt, fun H' => ∃ γ hh ob ks us as bs, BldX γ1 H1 D γ H' (pin D ob) ∧ HC C γ hh H' ∧ DO C.w D ob ks as bs ∧ RWs C γ ks as ∧ RWs C γ us bs ∧
          PoE C γ1 H1 ((dcGo chk (turnD own t ifs e v cl σw) (xs.drop (i + 1)) ks us hh).bind fun kv h3 => made m h3 (.dct kv.1 kv.2)) Q (fun cls d H' => Wx cls d σ H'), fun H' p' => ⟨xs.length - (i + 1), by omega, rfl, hlt, p'⟩, fun x H' y => ?_⟩
        obtain ⟨γ2, e2, k2, c2, r2⟩ := wk.yields γ hh Hi i xs[i] x H' bd.mor hcc hk (by simp [hlt]) y
        have b2 := bd.step hcc e2 k2
        refine ⟨γ2, wipeW σw own, hh, xs[i], (((sl.ext e1).wipe own) |> b2.mor.sl), c2, r2, ?_⟩
        unfold turnD at pp
        cases et : t cl xs[i] (wipeW σw own) hh with
        | no => rw [et] at pp; exact pp.elim
        | exn c a h2 => rw [et] at pp; exact pp.elim
        | ok σ1 h2 =>
          rw [et] at pp
          dsimp only [R.calm, R.bind] at pp
          intro γ3 σ3 H3 e3 k3 c3 s3 w3
          have b3 := b2.step c2 e3 k3
          refine ⟨w3.trans (wipe_idem _ _), γ3, σ1, h2, s3, c3, ?_⟩
          cases ei : ifs cl σ1 h2 with
          | no => rw [ei] at pp; exact pp.elim
          | exn c a h2 => rw [ei] at pp; exact pp.elim
          | ok b h4 =>
            rw [ei] at pp
            dsimp only [R.calm, R.bind] at pp
            intro γ4 H4 e4 k4 c4
            have b4 := b3.step c3 e4 k4
            have a4 := e4.rws (e3.rws (e2.rws ra))
            have d4 := e4.rws (e3.rws (e2.rws rb))
            cases b with
            | false =>
              rw [if_neg (by decide)]
              exact ⟨γ4, h4, ob, ks, us, as, bs, b4, c4, dd, a4, d4, pp⟩
            | true =>
              rw [if_pos rfl]
              refine ⟨γ4, σ1, h4, s3.ext e4, c4, ?_⟩
              simp only [if_true] at pp
              cases ee : e cl σ1 h4 with
              | no => rw [ee] at pp; exact pp.elim
              | exn c a h2 => rw [ee] at pp; exact pp.elim
              | ok w h5 =>
                rw [ee] at pp
                dsimp only [R.calm, R.bind] at pp
                intro γ5 u5 H5 e5 k5 c5 r5
                refine ⟨γ5, σ1, h5, (s3.ext e4).ext e5, c5, ?_⟩
                cases ev : v cl σ1 h5 with
                | no => rw [ev] at pp; exact pp.elim
                | exn c a h2 => rw [ev] at pp; exact pp.elim
                | ok z h6 =>
                  rw [ev] at pp
                  dsimp only [R.calm, R.bind] at pp
                  intro γ6 u6 H6 e6 k6 c6 r6
                  have b6 := (b4.step c4 e5 k5).step c5 e6 k6
                  have a6 := e6.rws (e5.rws a4)
                  have d6 := e6.rws (e5.rws d4)
                  by_cases hz : (kfit w ks && Nat.blt ks.length most) = true
                  · rw [if_pos hz] at pp
                    rw [Bool.and_eq_true] at hz
                    refine ⟨γ6, h6, w, z, ks, us, c6, e6.rw r5, r6, ⟨ob, as, bs, b6.d, dd, a6, d6⟩, hz.1, most_line hz.2, fun o' ⟨as', bs', dd', q1, q2⟩ => ?_⟩
                    exact ⟨γ6, h6, o', _, _, as', bs', b6.write hD, c6.writeX b6.pD (fun y z => nomatch z), dd', q1, q2, pp⟩
                  · rw [if_neg hz] at pp; exact pp.elim
    · left
      have e : i = xs.length := by omega
      subst e
      rw [List.drop_length] at pp
      unfold dcGo at pp
      cases hk : chk hh with
      | false => rw [hk] at pp; exact pp.elim
      | true =>
        rw [hk] at pp
        exact ⟨wk.stops γ hh Hi bd.mor hcc hk, bd.done hD c1 hcc dd ra rb pp⟩
theorem pv_dc {kx vx tg iter : Expr} {ifs : List Expr} {scope : Scope} {own : List (Str × Nat)} {pos : Pos} {k : IK} {its : Exs} {xi : Exb} {m : Bool} (hW : C.w = X.w) (hu : X.A.units + 9 < cLine) (hc : X.calm = true) (hN : X.N.Nodup) (hi : PI X tg iter (tit C cl Wx k its)) (ok : BlkOk X.N X.env.scope scope own)
    (hg : ∀ (s : Shared) (H : Hp) (B : Addr) (cls : List (Str × Addr)) (fp : List Addr), PG (X.blk s H scope (compEnvC scope cls B X.env) fp) tg (ttg' C cl (own.map (·.2)) t)) (ht : ∀ (s : Shared) (H : Hp) (B : Addr) (cls : List (Str × Addr)) (fp : List Addr), PTs (X.blk s H scope (compEnvC scope cls B X.env) fp) ifs (tfs C cl WF xi))
    (hk : ∀ (s : Shared) (H : Hp) (B : Addr) (cls : List (Str × Addr)) (fp : List Addr), PE (X.blk s H scope (compEnvC scope cls B X.env) fp) kx (tev C cl WF e))
    (he : ∀ (s : Shared) (H : Hp) (B : Addr) (cls : List (Str × Addr)) (fp : List Addr), PE (X.blk s H scope (compEnvC scope cls B X.env) fp) vx (tev C cl WF v)) (hs : ∀ x, foldedSetIterable iter X.env x = pure x) :
    PE X (.DictComp kx vx [⟨tg, iter, ifs, 0⟩] scope pos) (tev C cl Wx (xDcomp m (own.map (·.2)) t k its xi e v)) :=
  PE.imp (pe_dcW hW hu hc hN hi ok hg ht hk he hs) fun σ H Q q => dc_sem q
end
end Ov
namespace Ov
open PySem PySem.Spec PyProof.Rows L2
def mPop : Gm := fun o ws h => match o with
  | .ref n => (match h[n]?, ws with
    | some (.lst xs), [] => (match xs[xs.length - 1]? with
      | some w => .ok w (h.set n (.lst xs.dropLast))
      | none => .no)
    | some (.lst xs), [.int i] => if decide (-1000000 < i) && decide (i < 1000000) then (match place i xs.length with
      | some k => (match xs[k]? with
        | some w => .ok w (h.set n (.lst (xs.eraseIdx k)))
        | none => .no)
      | none => .no) else .no
    | _, _ => .no)
  | _ => .no
def mExtend : Gm := fun o ws h => match o, ws with
  | .ref n, [w] => (match h[n]?, look h w with
    | some (.lst xs), .lst ys => if Nat.blt (xs.length + ys.length) most then .ok .non (h.set n (.lst (xs ++ ys))) else .no
    | _, _ => .no)
  | _, _ => .no
def mClear : Gm := fun o ws h => match o, ws with
  | .ref n, [] => (match h[n]? with
    | some (.lst _) => .ok .non (h.set n (.lst []))
    | _ => .no)
  | _, _ => .no
def mGet : Gm := fun o ws h => match look h o with
  | .dct ks vs => (match ws with
    | [k] => if kfit k ks then .ok ((dget k ks vs).getD .non) h else .no
    | [k, v] => if kfit k ks then .ok ((dget k ks vs).getD v) h else .no
    | _ => .no)
  | _ => .no
def mSetdefault : Gm := fun o ws h => match o, ws with
  | .ref n, [k, v] => (match h[n]? with
    | some (.dct ks vs) => if kfit k ks && Nat.blt ks.length most then (match dget k ks vs with
      | some w => .ok w h
      | none => .ok v (h.set n (.dct (dset k v ks vs).1 (dset k v ks vs).2))) else .no
    | _ => .no)
  | _, _ => .no
def mCount : Gm := fun o ws h => match ws with
  | [w] => (match whole h o with
    | .lst xs => if W.lay 39 (whole h w) && xs.all (W.lay 39) then .ok (.int ((xs.countP fun y => W.eq y (whole h w) : Nat) : Int)) h else .no
    | _ => .no)
  | _ => .no
def firstEq (w : W) : List W → Option Nat
  | [] => none
  | x :: r => if W.eq x w then some 0 else (firstEq w r).map (· + 1)
def mIndex : Gm := fun o ws h => match ws with
  | [w] => (match whole h o with
    | .lst xs => if W.lay 39 (whole h w) && xs.all (W.lay 39) then (match firstEq (whole h w) xs with
      | some j => .ok (.int (j : Nat)) h
      | none => .no) else .no
    | _ => .no)
  | _ => .no
section
variable {C : Cf} {γ : Gh}
theorem RWs.dropLast : ∀ {ws : List W} {vs : List V}, RWs C γ ws vs → RWs C γ ws.dropLast vs.dropLast
  | [], _, r => by cases r; exact rfl
  | [w], _, ⟨v, q, e, a, b⟩ => by subst e; cases b; exact rfl
  | w :: u :: ws, _, ⟨v, q, e, a, ⟨v2, q2, e2, a2, b2⟩⟩ => by
    subst e e2
    exact ⟨v, _, rfl, a, RWs.dropLast (ws := u :: ws) ⟨v2, q2, rfl, a2, b2⟩⟩
theorem RWs.eraseIdx : ∀ {ws : List W} {vs : List V} (k : Nat), RWs C γ ws vs → RWs C γ (ws.eraseIdx k) (vs.eraseIdx k)
  | [], _, _, r => by cases r; exact rfl
  | w :: ws, _, 0, ⟨v, q, e, a, b⟩ => by subst e; exact b
  | w :: ws, _, k + 1, ⟨v, q, e, a, b⟩ => by subst e; exact ⟨v, _, rfl, a, RWs.eraseIdx k b⟩
theorem zero_rw {vs : List V} (r : RWs C γ [] vs) : vs = [] := r
end
theorem firstEq_at : ∀ {w : W} {xs : List W} {j : Nat}, firstEq w xs = some j → ∃ x, xs[j]? = some x ∧ W.eq x w = true ∧ ∀ m z, m < j → xs[m]? = some z → W.eq z w = false
  | _, [], _, e => by cases e
  | w, x :: r, j, e => by
    unfold firstEq at e
    split at e
    · rename_i h
      cases e
      exact ⟨x, rfl, h, fun m z hm => absurd hm (Nat.not_lt_zero _)⟩
    · rename_i h
      cases e2 : firstEq w r with
      | none => rw [e2] at e; cases e
      | some i =>
        rw [e2] at e; cases e
        obtain ⟨y, a, b, c⟩ := firstEq_at e2
        refine ⟨y, a, b, fun m z hm hz => ?_⟩
        cases m with
        | zero => cases hz; simpa using h
        | succ m => exact c m z (Nat.lt_of_succ_lt_succ hm) hz
theorem seqIx_place (i : Int) (n : Nat) : seqIndex? i n = place i n := by
  unfold seqIndex? place
  by_cases h0 : 0 ≤ i
  · by_cases h1 : i.toNat < n
    · simp [h0, h1]; omega
    · simp [h0, h1]; omega
  · by_cases h2 : -(n : Int) ≤ i
    · simp [h0, h2]; omega
    · simp [h0, h2]; omega
section
variable {X : Cx} {C : Cf} {o : Expr} {cl : CL} {Wx : WX} {xo : Ex}
theorem pv_M0 {k : Kd} {g : Gm} {name : Str} {id : String} {apos cpos : Pos} (hK : C.K = X.K) (pa : PlainAttrs (kdT k)) (slot : Slot (kdT k) name id) (hty : typeOf (.builtin id) = pure (.type "method_descriptor")) (hm : MtR X id (rM C g)) (ho : PE X o (tev C cl Wx xo))
    (hbase : attributeBase o name X.env (eval o X.env) = eval o X.env) (hline : (apos.endLine == cpos.line) = true) :
    PE X (.Call (.Attribute o name apos) [] [] cpos) (tev C cl Wx (xM k g xo xsNil)) := by
  refine ⟨fun pins s σ H Q I t => ?_⟩
  refine wpAny_Call_method0_late hbase hline (thn (ho.run pins s σ H _ I (tev1s (f := fun x σ h1 => if isKd k (look h1 x) then (xsNil cl σ h1).bind fun ws h2 => g x ws h2 else .no) t)) fun v s1 ⟨x, H1, I1, r1, γ, σw, h, w, sl, hc, r, q⟩ => ?_)
  dsimp only at q
  split at q
  case isFalse => exact q.elim
  rename_i z
  have ty : s1.TypeIs v (kdT k) ∧ ∀ a, v = .ref a → ∃ ob, s1.heap.get? a = some ob ∧ ob.dict = none := by
    rcases kd_ty hK hc r z with ty | ⟨rfl, a, o, rfl, q1, d⟩
    · exact tyV_is I1 r1 ty
    · cases r1
      have e' := pin_get I1.hok q1
      exact ⟨⟨o, e', d.1⟩, fun b e => by cases e; exact ⟨o, e', d.2.1⟩⟩
  exact ⟨kdT k, id, pa, slot, hty, ty.1, ty.2, Calls.callWith_builtin rfl (PySem.evalArgs_none (hm pins s1 σ H1 x [] v [] Q I1 r1 .nil ⟨_, γ, h, w, [], hc, r, rfl, q⟩))⟩
theorem m_pop : MtR X "list.pop" (rM C mPop) := by
  intro pins s σ H x vs v us Q I rx rv ⟨E, γ, h, w, ws, c, r, rs, q⟩
  unfold mPop at q
  split at q
  · rename_i n
    obtain ⟨a, rfl, i⟩ := r
    split at q
    · rename_i xs hn
      cases rs
      split at q
      · rename_i y hy
        obtain ⟨fa, ys, ha, rys⟩ := c.cell n a _ i hn
        obtain ⟨z, hz, rz⟩ := rys.get hy
        obtain ⟨k, c'⟩ := c.setL i hn rys.dropLast
        refine mt_pop pins s σ H _ _ v us Q I rx rv ⟨a, ys, z, rfl, rfl, ha, by rw [← rys.length]; exact hz, ?_⟩
        exact q γ _ _ (Ext.refl _ _) k c' rz
      · exact q.elim
    · rename_i xs j hn
      split at q
      · rename_i hb
        rw [Bool.and_eq_true] at hb
        have b1 := of_decide_eq_true hb.1
        have b2 := of_decide_eq_true hb.2
        split at q
        · rename_i k hp
          split at q
          · rename_i y hy
            obtain ⟨u, rfl, ru⟩ := one_rw rs
            cases ru
            obtain ⟨fa, ys, ha, rys⟩ := c.cell n a _ i hn
            obtain ⟨z, hz, rz⟩ := rys.get hy
            obtain ⟨kk, c'⟩ := c.setL i hn (rys.eraseIdx k)
            refine mt_popAt pins s σ H _ _ v us Q I rx rv ⟨a, ys, j, k, z, rfl, rfl, ha, by omega, by omega, ?_, hz, ?_⟩
            · rw [← rys.length]; exact (seqIx_place j xs.length).trans hp
            · exact q γ _ _ (Ext.refl _ _) kk c' rz
          · exact q.elim
        · exact q.elim
      · exact q.elim
    · exact q.elim
  · exact q.elim
theorem m_clear : MtR X "list.clear" (rM C mClear) := by
  intro pins s σ H x vs v us Q I rx rv ⟨E, γ, h, w, ws, c, r, rs, q⟩
  unfold mClear at q
  split at q
  · rename_i n
    obtain ⟨a, rfl, i⟩ := r
    split at q
    · rename_i xs hn
      cases rs
      obtain ⟨fa, ys, ha, rys⟩ := c.cell n a _ i hn
      obtain ⟨k, c'⟩ := c.setL i hn (us := []) (vs := []) rfl
      exact mt_clear pins s σ H _ _ v us Q I rx rv ⟨a, ys, rfl, rfl, ha, q γ _ _ (Ext.refl _ _) k c' rfl⟩
    · exact q.elim
  · exact q.elim
theorem m_get (hW : C.w = X.w) (hu : X.A.units + 9 < cLine) : MtR X "dict.get" (rM C mGet) := by
  intro pins s σ H x vs v us Q I rx rv ⟨E, γ, h, w, ws, c, r, rs, q⟩
  unfold mGet at q
  split at q
  · rename_i ks vs e
    obtain ⟨a, o, xs, ys, rfl, d⟩ := look_dct c r e
    cases rx
    split at q
    · rename_i k
      split at q
      · rename_i fit
        obtain ⟨u, rfl, r1⟩ := one_rw rs
        obtain ⟨u1, rfl, q1⟩ := vals1 rv
        exact w_get hW hu c I ⟨o, xs, ys, d⟩ fit r1 q1 (v := .non) (y := .non) rfl (r := .none) rfl (.inl ⟨rfl, rfl⟩) fun y' v' s' I' ry rw' => ⟨y', H, I', ry, PoE.here q c rw'⟩
      · exact q.elim
    · rename_i k d0
      split at q
      · rename_i fit
        obtain ⟨u, u2, rfl, r1, r2⟩ := two_rw rs
        obtain ⟨v1, v2, rfl, q1, q2⟩ := vals2 rv
        exact w_get hW hu c I ⟨o, xs, ys, d⟩ fit r1 q1 r2 q2 (.inr rfl) fun y' v' s' I' ry rw' => ⟨y', H, I', ry, PoE.here q c rw'⟩
      · exact q.elim
    · exact q.elim
  · exact q.elim
theorem m_setdefault (hW : C.w = X.w) (hu : X.A.units + 9 < cLine) : MtR X "dict.setdefault" (rM C mSetdefault) := by
  intro pins s σ H x vs v us Q I rx rv ⟨E, γ, h, w, ws, c, r, rs, q⟩
  unfold mSetdefault at q
  split at q
  · rename_i n k d0
    obtain ⟨a, rfl, i⟩ := r
    split at q
    · rename_i ks ws hn
      split at q
      · rename_i hz
        rw [Bool.and_eq_true] at hz
        obtain ⟨f, o, xs, ys, hh, d⟩ := c.cell n a _ i hn
        cases rx
        obtain ⟨u, u2, rfl, r1, r2⟩ := two_rw rs
        obtain ⟨v1, v2, rfl, q1, q2⟩ := vals2 rv
        refine w_setdefault hW hu c I ⟨o, xs, ys, hh, d⟩ hz.1 (most_line hz.2) r1 q1 r2 q2 (fun w y' v' s' g I' ry rw' => ?_) fun o' s' g I' ⟨xs', ys', d', z1, z2⟩ => ?_
        · rw [g] at q
          exact ⟨y', H, I', ry, PoE.here q c rw'⟩
        · rw [g] at q
          obtain ⟨k3, c3⟩ := c.setD i hn d' z1 z2
          exact ⟨u2, _, I', q2, q γ _ _ (Ext.refl _ _) k3 c3 r2⟩
      · exact q.elim
    · exact q.elim
  · exact q.elim
theorem m_index (hu : X.A.units + 65 < cLine) (hK : C.K = X.K) : MtR X "list.index" (rM C mIndex) := by
  intro pins s σ H x vs v us Q I rx rv ⟨E, γ, h, w, ws, c, r, rs, q⟩
  unfold mIndex at q
  split at q
  · rename_i w1
    split at q
    · rename_i xs e
      split at q
      · rename_i hl
        rw [Bool.and_eq_true] at hl
        split at q
        · rename_i j hj
          obtain ⟨u, rfl, r1⟩ := one_rw rs
          have l2 : W.lay 40 (whole h w) = true := by rw [e]; exact hl.2
          obtain ⟨us', hlk, _⟩ := whole_lst e
          obtain ⟨a, ys, rfl, _, _⟩ := look_lst c r hlk
          have d1 := whole_dp c hl.1 r1
          have d2 := whole_dp c l2 r
          rw [hK] at d1 d2
          have e2 : pyd (whole h w) = .list (xs.map pyd) := by rw [e, ← pyds_map]; rfl
          have hx : ∀ y ∈ xs, W.lay 39 y = true := fun y hy => List.all_eq_true.mp hl.2 y hy
          have key : ∀ y ∈ xs, PyData.eqv (pyd y) (pyd (whole h w1)) = W.eq y (whole h w1) := fun y hy => eqv_eq 39 39 _ _ (hx y hy) hl.1
          obtain ⟨y, y1, y2, y3⟩ := firstEq_at hj
          refine mt_indexD hu pins s σ H _ _ v us Q I rx rv ⟨a, u, pyd (whole h w1), xs.map pyd, j, pyd y, rfl, rfl, by rw [← e2]; exact d2.dp, d1.dp, by rw [← e2]; exact shaped_of d2 (by omega), shaped_of d1 (by omega), by rw [List.getElem?_map, y1]; rfl, ?_, fun m z' hm hz => ?_, PoE.here q c rfl⟩
          · rw [key y (List.mem_of_getElem? y1)]; exact y2
          · rw [List.getElem?_map] at hz
            cases hz2 : xs[m]? with
            | none => rw [hz2] at hz; cases hz
            | some z =>
              rw [hz2] at hz; cases hz
              rw [key z (List.mem_of_getElem? hz2)]
              exact y3 m z hm hz2
        · exact q.elim
      · exact q.elim
    · exact q.elim
  · exact q.elim
theorem m_count (hu : X.A.units + 65 < cLine) (hK : C.K = X.K) : MtR X "list.count" (rM C mCount) := by
  intro pins s σ H x vs v us Q I rx rv ⟨E, γ, h, w, ws, c, r, rs, q⟩
  unfold mCount at q
  split at q
  · rename_i w1
    split at q
    · rename_i xs e
      split at q
      · rename_i hl
        rw [Bool.and_eq_true] at hl
        obtain ⟨u, rfl, r1⟩ := one_rw rs
        have l2 : W.lay 40 (whole h w) = true := by rw [e]; exact hl.2
        obtain ⟨us', hlk, _⟩ := whole_lst e
        obtain ⟨a, ys, rfl, _, _⟩ := look_lst c r hlk
        have d1 := whole_dp c hl.1 r1
        have d2 := whole_dp c l2 r
        rw [hK] at d1 d2
        have e2 : pyd (whole h w) = .list (xs.map pyd) := by rw [e, ← pyds_map]; rfl
        have hx : ∀ y ∈ xs, W.lay 39 y = true := fun y hy => List.all_eq_true.mp hl.2 y hy
        have key : ∀ y ∈ xs, PyData.eqv (pyd y) (pyd (whole h w1)) = W.eq y (whole h w1) := fun y hy => eqv_eq 39 39 _ _ (hx y hy) hl.1
        obtain ⟨uy, rfl, ry⟩ := vals1 rv
        have hl1 := d1.dp
        have hl2 := d2.dp
        have sl := shaped_of d2 (by omega)
        have sd := shaped_of d1 (by omega)
        rw [e2] at hl2 sl
        cases rx
        obtain ⟨bs, rd1⟩ := Dp.reads I _ u uy hl1 ry
        have hxs : PyData.canLayAll0 (xs.map pyd) = true := SeqAt.canLay_of_shaped sl
        have hroom : X.A.units + 1 + min (PyData.depthAll (xs.map pyd)) (pyd (whole h w1)).depth < cLine := room_in_shaped sd hu
        generalize hds : xs.map pyd = ds at hl2 hxs hroom
        cases hl2 with
        | lst hs ha =>
          obtain ⟨its, rvv, ⟨⟨cls, dd, data, sls⟩, n, ho, hc', hdn, hdt⟩, hlen⟩ := I.list hs
          simp only at hc' hdt
          subst hc' hdt
          obtain ⟨as, h4⟩ := Dp.readsAll I ds _ its ha rvv
          have hmap : its.map (SeqAt.readOf s.heap) = ds := SeqAt.readsAll_map ds its as hxs h4
          refine call_meets PySem.F.slot_list_count ⟨_, ho, rfl⟩ PySem.F.entry_list_count (PySem.F.args_list_count_2 _ _)
            (SeqAt.list_countAt a its.toArray n dd sls uy (fun u => PyData.eqv (SeqAt.readOf s.heap u) (pyd (whole h w1)))) ⟨ho, SeqAt.items_eqAt (vs := its.toArray) (show ReadsAll s.heap its.toArray.toList ds as from h4) rd1 hxs (SeqAt.canLay_of_shaped sd) hroom, ?_⟩
          have ec : its.toArray.toList.countP (fun u => PyData.eqv (SeqAt.readOf s.heap u) (pyd (whole h w1))) = xs.countP fun y => W.eq y (whole h w1) := by
            have : its.countP (fun u => PyData.eqv (SeqAt.readOf s.heap u) (pyd (whole h w1))) = (its.map (SeqAt.readOf s.heap)).countP fun z => PyData.eqv z (pyd (whole h w1)) := by rw [List.countP_map]; rfl
            show its.countP _ = _
            rw [this, hmap, ← hds, List.countP_map]
            exact List.countP_congr fun y hy => by show (PyData.eqv (pyd y) _ = true) ↔ _; rw [key y hy]
          rw [ec]
          exact ⟨.int ((xs.countP fun y => W.eq y (whole h w1) : Nat) : Int), H, I.tok _, ⟨s.toks, rfl⟩, PoE.here q c rfl⟩
      · exact q.elim
    · exact q.elim
  · exact q.elim
theorem m_extend : MtR X "list.extend" (rM C mExtend) := by
  intro pins s σ H x vs v us Q I rx rv ⟨E, γ, h, w, ws, c, r, rs, q⟩
  unfold mExtend at q
  split at q
  · rename_i n y
    split at q
    · rename_i xs zs hn hl
      split at q
      · rename_i hz
        obtain ⟨a, rfl, i⟩ := r
        obtain ⟨u, rfl, r1⟩ := one_rw rs
        obtain ⟨b, bs, rfl, q1, q2⟩ := look_lst c r1 hl
        obtain ⟨fa, ys, ha, rys⟩ := c.cell n a _ i hn
        obtain ⟨k, c'⟩ := c.setL i hn (rys.append q2)
        cases rx
        obtain ⟨u', rfl, ru⟩ := vals1 rv
        cases ru
        have hz' := most_line hz
        rw [rys.length, q2.length] at hz'
        obtain ⟨z, its, nn, rr, hll, e⟩ := I.lstM ha
        obtain ⟨z2, its2, n2, rr2, hl2, e2⟩ := Ov.Inv.lstR I q1
        have hsz : its.toArray.size + its2.toArray.size ≤ sizeLine := by rw [List.size_toArray, List.size_toArray]; omega
        have hlong : ¬ (!its.toArray.isEmpty && Builtin.List.listTooLong (its.toArray.size + its2.toArray.size)) = true := by
          rw [notLongL hsz, Bool.and_false]
          exact Bool.false_ne_true
        refine call_meets PySem.F.slot_list_extend ⟨_, e, rfl⟩ PySem.F.entry_list_extend (PySem.F.args_list_extend_2 _ _)
          (PySem.AutoSeq1.list_extend_list_list_0 a its.toArray nn b its2.toArray n2 hlong (by rw [List.size_toArray]; omega) (by omega)) ⟨e, e2, ?_⟩
        refine ⟨.non, _, I.lset (its' := its ++ its2) ha e (by simp) (rr.append rr2) ?_, rfl, q γ _ _ (Ext.refl _ _) k c' rfl⟩
        rw [List.length_append]
        omega
      · exact q.elim
    · exact q.elim
  · exact q.elim
end
end Ov
namespace Ov
open PySem PySem.Spec PyProof.Rows L2
abbrev Exd := CL → Sw → Hw → R (List (W × W))
def xdNil : Exd := fun _ _ h => .ok [] h
def xdCons (a b : Ex) (r : Exd) : Exd := fun cl σ h => (a cl σ h).calm.bind fun x h1 => (b cl σ h1).calm.bind fun y h2 => (r cl σ h2).calm.bind fun ps h3 => .ok ((x, y) :: ps) h3
def dispGo : List (W × W) → List W → List W → Option (List W × List W)
  | [], ks, vs => some (ks, vs)
  | p :: r, ks, vs => if kfit p.1 ks && Nat.blt ks.length most then dispGo r (dset p.1 p.2 ks vs).1 (dset p.1 p.2 ks vs).2 else none
def xDisp (m : Bool) (es : Exd) : Ex := fun cl σ h => (es cl σ h).calm.bind fun ps h1 => match (ps.all fun p => W.isTup p.1) || (ps.all fun p => !W.isTup p.1) with
  | true => (match dispGo ps [] [] with
    | some kv => made m h1 (.dct kv.1 kv.2)
    | none => .no)
  | false => .no
def xD0 (m : Bool) : Ex := fun _ _ h => made m h (.dct [] [])
def pairsW : List W → Option (List (W × W))
  | [] => some []
  | .tup [k, v] :: r => (pairsW r).map ((k, v) :: ·)
  | _ :: _ => none
def gDict (m : Bool) : Gf := fun ws h => match ws with
  | [w] => (match look h w with
    | .dct ks vs => if ks.all W.kflat then made m h (.dct ks vs) else .no
    | .lst xs => (match pairsW xs with
      | some ps => if ps.all fun p => W.kflat p.1 then (match dispGo ps [] [] with
        | some kv => made m h (.dct kv.1 kv.2)
        | none => .no) else .no
      | none => .no)
    | _ => .no)
  | _ => .no
def gListK (m : Bool) : Gf := fun ws h => match ws with
  | [w] => (match look h w with
    | .dct ks _ => made m h (.lst ks)
    | _ => gListA m ws h)
  | _ => .no
def gListV (m : Bool) : Gf := fun ws h => match ws with
  | [w] => (match look h w with
    | .dct _ vs => made m h (.lst vs)
    | _ => .no)
  | _ => .no
section
variable {X : Cx} {C : Cf} {cl : CL} {Wx : WX} {pos : Pos}
structure PD (X : Cx) (C : Cf) (cl : CL) (pos : Pos) (keys : List (Option Expr)) (values : List Expr) (xd : Exd) : Prop where
  run : ∀ (pins : List (Addr × Obj)) (s : Shared) (σ : L2.St) (H : Hp) (γ : Gh) (σw : Sw) (h : Hw) (ps : List (W × W)) (h1 : Hw), Inv X pins σ H s → SL C γ σw σ → HC C γ h H → xd cl σw h = .ok ps h1 →
    wpAny (model X.prog X.w) X.A (evalPairs (pairTrees keys values X.env pos)) (fun vs s' => ∃ γ' vps H', Inv X pins σ H' s' ∧ VV vps vs ∧ Ext γ γ' H ∧ Keep γ H H' ∧ HC C γ' h1 H' ∧ RWs C γ' (ps.map (·.1)) (vps.map (·.1)) ∧ RWs C γ' (ps.map (·.2)) (vps.map (·.2))) X.xe s
theorem calm_ok {α : Type} {r : R α} {f : α → Hw → R β} {b : β} {h : Hw} (e : r.calm.bind f = .ok b h) : ∃ a h1, r = .ok a h1 ∧ f a h1 = .ok b h := by
  cases r with
  | ok a h1 => exact ⟨a, h1, rfl, e⟩
  | exn _ _ _ => cases e
  | no => cases e
theorem tev_ok {a : Expr} {xa : Ex} (ha : PE X a (tev C cl Wx xa)) {pins : List (Addr × Obj)} {s : Shared} {σ : L2.St} {H : Hp} {γ : Gh} {σw : Sw} {h h1 : Hw} {w : W} (I : Inv X pins σ H s) (sl : SL C γ σw σ) (c : HC C γ h H) (e : xa cl σw h = .ok w h1) :
    wpAny (model X.prog X.w) X.A (eval a X.env) (EP X pins σ fun v H' => ∃ γ', Ext γ γ' H ∧ Keep γ H H' ∧ HC C γ' h1 H' ∧ RW C γ' w v) X.xe s := by
  refine ha.run pins s σ H _ I ⟨γ, σw, h, sl, c, ?_⟩
  rw [e]
  exact fun γ' v H' e k c r => ⟨γ', e, k, c, r⟩
theorem pd_nil : PD X C cl pos [] [] xdNil := ⟨fun pins s σ H γ σw h ps h1 I sl c e => by
  cases e
  exact pairTrees_nil_walk ⟨γ, [], H, I, .nil, Ext.refl _ _, Keep.refl _ _, c, rfl, rfl⟩⟩
theorem pd_cons {k v : Expr} {ks : List (Option Expr)} {vs : List Expr} {xa xb : Ex} {xd : Exd} (ha : PE X k (tev C cl Wx xa)) (hb : PE X v (tev C cl Wx xb)) (hr : PD X C cl pos ks vs xd) : PD X C cl pos (some k :: ks) (v :: vs) (xdCons xa xb xd) :=
  ⟨fun pins s σ H γ σw h ps h1 I sl c e => by
    obtain ⟨x, ha1, ea, e⟩ := calm_ok e
    obtain ⟨y, hb1, eb, e⟩ := calm_ok e
    obtain ⟨qs, hc1, ec, e⟩ := calm_ok e
    cases e
    refine pairTrees_cons_walk (thn (tev_ok ha I sl c ea) fun u s1 ⟨z1, H1, I1, r1, γ1, e1, k1, c1, w1⟩ => thn (tev_ok hb I1 (sl.ext e1) c1 eb) fun u2 s2 ⟨z2, H2, I2, r2, γ2, e2, k2, c2, w2⟩ =>
      thn (hr.run pins s2 σ H2 γ2 σw _ qs _ I2 ((sl.ext e1).ext e2) c2 ec) fun ws s3 ⟨γ3, vps, H3, I3, vv, e3, k3, c3, q1, q2⟩ => ?_)
    refine ⟨γ3, (z1, z2) :: vps, H3, I3, .cons ⟨r1, r2⟩ vv, e1.trans k1 (e2.trans k2 e3), Keep.trans e1 k1 (Keep.trans e2 k2 k3), c3, RWs.cons (e3.rw (e2.rw w1)) q1, RWs.cons (e3.rw w2) q2⟩⟩
end
section
variable {C : Cf} {γ : Gh} {P : Program} {w : World}
theorem disp_flat : ∀ {ps : List (W × W)} {vps : List (V × V)} {vs : List (Value × Value)} {ks ws ks' ws' : List W} {ys : List V} {kvs : List (Key × Value)}, VV vps vs → RWs C γ (ps.map (·.1)) (vps.map (·.1)) → RWs C γ (ps.map (·.2)) (vps.map (·.2)) →
    (∀ p ∈ ps, W.isTup p.1 = false) → FlatD C γ ks ws ys kvs → dispGo ps ks ws = some (ks', ws') → ∃ rs ys', Carries (mixKind P w) vs rs ∧ KV ((ps.map fun p => kK p.1).zip (vps.map (·.2))) rs ∧ FlatD C γ ks' ws' ys' (merged kvs rs)
  | [], vps, vs, ks, ws, ks', ws', ys, kvs, vv, r1, r2, nt, d, e => by
    cases e
    have : vps = [] := by
      cases vps with
      | nil => rfl
      | cons p r => cases r1
    subst this
    cases vv
    exact ⟨[], ys, True.intro, .nil, d⟩
  | p :: ps, vps, vs, ks, ws, ks', ws', ys, kvs, vv, r1, r2, nt, d, e => by
    cases vps with
    | nil => obtain ⟨v, r, e1, _⟩ := r1; cases e1
    | cons q vps =>
      obtain ⟨v1, t1, e1, a1, b1⟩ := r1
      obtain ⟨v2, t2, e2, a2, b2⟩ := r2
      cases e1; cases e2
      cases vv with
      | @cons _ b _ bs hh tt =>
        unfold dispGo at e
        split at e
        · rename_i hz
          rw [Bool.and_eq_true] at hz
          have nt0 := nt p List.mem_cons_self
          obtain ⟨us, d'⟩ := d.step hz.1 nt0 (most_line hz.2) a2 hh.2
          obtain ⟨rs, ys', c, kv, dd⟩ := disp_flat tt b1 b2 (fun x hx => nt x (List.mem_cons_of_mem _ hx)) d' e
          have fk := (flat_all d.ok hz.1 nt0).1
          exact ⟨(kK p.1, b.2) :: rs, ys', ⟨flat_is fk a1 hh.1, rfl, c⟩, .cons ⟨rfl, hh.2⟩ kv, dd⟩
        · cases e
theorem disp_tup {h : Hw} {H : Hp} {g : Heap} (c : HC C γ h H) (ok : HOk P w H g) : ∀ {ps : List (W × W)} {vps : List (V × V)} {vs : List (Value × Value)} {ks ws ks' ws' : List W} {ys : List V} {ts : List (NestedKey × Addr × Value)}, VV vps vs → RWs C γ (ps.map (·.1)) (vps.map (·.1)) → RWs C γ (ps.map (·.2)) (vps.map (·.2)) →
    (∀ p ∈ ps, W.isTup p.1 = true) → TupD C γ ks ws ys ts → dispGo ps ks ws = some (ks', ws') → ∃ rs ys', CarriesH (nestedKind P w) g vs rs ∧ TupD C γ ks' ws' ys' (storedAllH ts rs)
  | [], vps, vs, ks, ws, ks', ws', ys, kvs, vv, r1, r2, nt, d, e => by
    cases e
    have : vps = [] := by
      cases vps with
      | nil => rfl
      | cons p r => cases r1
    subst this
    cases vv
    exact ⟨[], ys, True.intro, d⟩
  | p :: ps, vps, vs, ks, ws, ks', ws', ys, kvs, vv, r1, r2, nt, d, e => by
    cases vps with
    | nil => obtain ⟨v, r, e1, _⟩ := r1; cases e1
    | cons q vps =>
      obtain ⟨v1, t1, e1, a1, b1⟩ := r1
      obtain ⟨v2, t2, e2, a2, b2⟩ := r2
      cases e1; cases e2
      cases vv with
      | @cons _ b _ bs hh tt =>
        unfold dispGo at e
        split at e
        · rename_i hz
          rw [Bool.and_eq_true] at hz
          have nt0 := nt p List.mem_cons_self
          have fk := (tup_all d.ok hz.1 nt0).1
          obtain ⟨ad, q1, q2, i⟩ := tup_ref c ok fk nt0 a1 hh.1
          rw [q1] at a1
          obtain ⟨us, d'⟩ := d.step hz.1 nt0 (most_line hz.2) a1 a2 hh.2
          obtain ⟨rs, ys', cc, dd⟩ := disp_tup c ok tt b1 b2 (fun x hx => nt x (List.mem_cons_of_mem _ hx)) d' e
          exact ⟨(keyN p.1, ad, b.2) :: rs, ys', ⟨q2, rfl, i, cc⟩, dd⟩
        · cases e
end
section
variable {X : Cx} {C : Cf} {cl : CL} {Wx : WX} {pos : Pos} {m : Bool}
theorem new_sys {pins : List (Addr × Obj)} {s : Shared} {σ : L2.St} {H : Hp} (I : Inv X pins σ H s) : (s.heap.objs.size == sysModules) = false := beq_eq_false_iff_ne.mpr (Nat.ne_of_gt I.big)
theorem pv_d0 : PE X (.Dict [] [] pos) (tev C cl Wx (xD0 m)) := by
  refine ⟨fun pins s σ H Q I ⟨γ, σw, h, sl, hc, p⟩ => ?_⟩
  have hn := I.hok.fresh (Nat.le_refl s.heap.objs.size)
  refine wpAny_Dict_empty ⟨.ref s.heap.objs.size, _, I.laid (a := s.heap.objs.size) (o := pin s.heap.objs.size dict0) (t' := s.toks) (fun _ _ q => Heap.get?_push_of_some _ q) (Nat.le_refl _) (pin_ok (Heap.get?_push_size _ rfl)), rfl, ?_⟩
  exact PoE.dctMade p hc (do_nil (new_sys I)) rfl rfl hn
theorem pv_disp (hW : C.w = X.w) (hu : X.A.units + 9 < cLine) {keys : List (Option Expr)} {values : List Expr} {xd : Exd} (pd : PD X C cl pos keys values xd) (hall : keys.all (·.isSome) = true) (hl : keys.length = values.length) (h0 : keys ≠ []) (h15 : keys.length ≤ 15) :
    PE X (.Dict keys values pos) (tev C cl Wx (xDisp m xd)) := by
  refine ⟨fun pins s σ H Q I ⟨γ, σw, h, sl, hc, p⟩ => ?_⟩
  unfold xDisp at p
  cases er : xd cl σw h with
  | no => rw [er] at p; exact p.elim
  | exn _ _ _ => rw [er] at p; exact p.elim
  | ok ps h1 =>
    rw [er] at p
    dsimp only [R.calm, R.bind] at p
    split at p
    case h_2 => exact p.elim
    rename_i ht
    split at p
    case h_2 => exact p.elim
    rename_i kv ek
    generalize hD : s.heap.objs.size = D
    have hn : H D = none := by rw [← hD]; exact I.hok.fresh (Nat.le_refl _)
    have sD : (D == sysModules) = false := by rw [← hD]; exact new_sys I
    have I1 : Inv X pins σ (upd H D (pin D dict0)) { s with heap := s.heap.push { cls := .type "dict", data := .dict #[] } } := by
      have z := I.laid (a := s.heap.objs.size) (o := pin s.heap.objs.size dict0) (t' := s.toks) (fun _ _ q => Heap.get?_push_of_some _ q) (Nat.le_refl _) (pin_ok (Heap.get?_push_size _ rfl))
      rw [hD] at z
      exact z
    have b1 : BldX γ H D (γ.add D) (upd H D (pin D dict0)) (pin D dict0) := BldX.start hn
    have c1 : HC C (γ.add D) h (upd H D (pin D dict0)) := hc.addX hn (fun y z => nomatch z)
    have run := pd.run pins _ σ _ (γ.add D) σw h ps h1 I1 (b1.mor.sl sl) c1 er
    have hlen := pairTrees_length keys values X.env pos hall hl
    have hne : pairTrees keys values X.env pos ≠ [] := by
      intro he
      rw [he] at hlen
      exact h0 (List.length_eq_zero_iff.mp hlen.symm)
    rcases Bool.or_eq_true _ _ |>.mp ht with tt | tt
    · have nt : ∀ q ∈ ps, W.isTup q.1 = true := fun q hq => List.all_eq_true.mp tt q hq
      rw [arm_eval_Dict, zip_pairTrees keys values X.env pos hall hl, dictDisplay_pairs _ hne (by omega)]
      refine wpAny_bind (wpAny_standAt (wpAny_bind (wpAny_subDictH (knd := nestedKind X.prog X.w) (nroom0 hu) (by omega) (thn run fun vs s1 ⟨γ2, vps, H2, I2, vv, e2, k2, c2, q1, q2⟩ => ?_))))
      have b2 := b1.step c1 e2 k2
      obtain ⟨rs, ys', cr, dd⟩ := disp_tup c2 I2.hok vv q1 q2 nt TupD.nil ek
      have e2' := pin_get I2.hok b2.d
      rw [hD]
      refine ⟨rs, cr, ?_, fun h' tk hd' hs' => wpAny_pure ?_⟩
      · obtain ⟨ts, z1, z2, z3, _⟩ := do_tup (P := X.prog) c2 I2.hok (do_nil (w := X.w) sD) (fun _ h => nomatch h) (RWs.nil (C := C) (γ := γ2)) e2'
        have : ts = [] := by cases ts with | nil => rfl | cons _ _ => cases z2
        rw [this] at z1
        exact z1
      · rw [← hW] at hd'
        obtain ⟨o', w1, w2, w3⟩ := dd.toDO (P := X.prog) (w := C.w) (a := D) sD hd'
        exact ⟨.ref D, _, w_write I2 b2.d hs' w1, rfl, (b2.write hn).done hn hc (c2.writeX b2.pD (fun y z => nomatch z)) w2 w3 dd.r p⟩
    · have nt : ∀ q ∈ ps, W.isTup q.1 = false := fun q hq => by simpa using List.all_eq_true.mp tt q hq
      refine wpAny_Dict_walk (knd := mixKind X.prog X.w) hall hl h0 h15 (thn run fun vs s1 ⟨γ2, vps, H2, I2, vv, e2, k2, c2, q1, q2⟩ => ?_)
      have b2 := b1.step c1 e2 k2
      obtain ⟨rs, ys', cr, _, dd⟩ := disp_flat (P := X.prog) (w := X.w) vv q1 q2 nt FlatD.nil ek
      have e2' := pin_get I2.hok b2.d
      rw [hD]
      refine ⟨rs, cr, ?_, fun h' hd' hs' => ?_⟩
      · obtain ⟨kvs, rel, z1, _⟩ := do_flat (P := X.prog) (do_nil (w := X.w) sD) (fun _ h => nomatch h) (RWs.nil (C := C) (γ := γ2)) e2'
        cases rel
        exact z1
      · rw [← hW] at hd'
        obtain ⟨o', w1, w2, w3⟩ := dd.toDO (P := X.prog) (w := C.w) (a := D) sD hd'
        exact ⟨.ref D, _, w_write I2 b2.d hs' w1, rfl, (b2.write hn).done hn hc (c2.writeX b2.pD (fun y z => nomatch z)) w2 w3 dd.r p⟩
end
end Ov
namespace Ov
open PySem PySem.Spec PyProof.Rows L2
section
variable {X : Cx} {C : Cf} {cl : CL} {Wx : WX} {pos : Pos} {m : Bool}
theorem repin {pins : List (Addr × Obj)} {σ : L2.St} {H : Hp} {s : Shared} {a : Addr} {u : HO} {o : Obj} (I : Inv X pins σ (upd H a u) s) (mu : Mut (some u)) (e : s.heap.get? a = some o) : Inv X pins σ (upd H a (pin a o)) s := by
  have z : Inv X pins σ (upd (upd H a u) a (pin a o)) s := d_write (t' := s.toks) I (by rw [upd_same]; exact mu) (Heap.SameBut.refl _ _) ⟨_, e⟩ (pin_ok e)
  have : upd (upd H a u) a (pin a o) = upd H a (pin a o) := by
    funext b
    by_cases h : b = a
    · subst h; rw [upd_same, upd_same]
    · rw [upd_ne h, upd_ne h, upd_ne h]
  rw [this] at z
  exact z
theorem pairs_rw {γ : Gh} {F : Hp} : ∀ {xs : List W} {ps : List (W × W)} {vs : List V}, pairsW xs = some ps → RWs C γ xs vs → ∃ (as : List Addr) (qs : List (V × V)), vs = as.map V.ref ∧ Paired (fun a q => Rd γ.F a (.tup [q.1, q.2])) as qs ∧ RWs C γ (ps.map (·.1)) (qs.map (·.1)) ∧ RWs C γ (ps.map (·.2)) (qs.map (·.2))
  | [], ps, vs, e, r => by cases e; cases r; exact ⟨[], [], rfl, .nil, rfl, rfl⟩
  | .tup [k, v] :: r, ps, vs, e, ⟨x, q, e1, a, b⟩ => by
    simp only [pairsW] at e
    cases e2 : pairsW r with
    | none => rw [e2] at e; cases e
    | some qs =>
      rw [e2] at e; cases e
      subst e1
      obtain ⟨ad, us, rfl, rd, rr⟩ := a
      obtain ⟨v1, v2, rfl, r1, r2⟩ := two_rw rr
      obtain ⟨as, qs', z1, z2, z3, z4⟩ := pairs_rw (F := F) e2 b
      exact ⟨ad :: as, (v1, v2) :: qs', by rw [z1]; rfl, .cons rd z2, RWs.cons r1 z3, RWs.cons r2 z4⟩
  | .tup [] :: _, _, _, e, _ => by cases e
  | .tup [_] :: _, _, _, e, _ => by cases e
  | .tup (_ :: _ :: _ :: _) :: _, _, _, e, _ => by cases e
  | .non :: _, _, _, e, _ => by cases e
  | .bl _ :: _, _, _, e, _ => by cases e
  | .int _ :: _, _, _, e, _ => by cases e
  | .str _ :: _, _, _, e, _ => by cases e
  | .lst _ :: _, _, _, e, _ => by cases e
  | .dct _ _ :: _, _, _, e, _ => by cases e
  | .obj _ _ _ :: _, _, _, e, _ => by cases e
  | .ref _ :: _, _, _, e, _ => by cases e
  | .any :: _, _, _, e, _ => by cases e
  | .scr _ :: _, _, _, e, _ => by cases e
theorem kx_pairs {γ : Gh} : ∀ {ps : List (W × W)} {qs : List (V × V)}, (∀ p ∈ ps, W.kflat p.1 = true) → RWs C γ (ps.map (·.1)) (qs.map (·.1)) → ∃ kvs : List (Key × V), qs = kvs.map (fun kv => (kV kv.1, kv.2)) ∧ kvs = (ps.map fun p => kK p.1).zip (qs.map (·.2))
  | [], qs, _, r => by
    cases qs with
    | nil => exact ⟨[], rfl, rfl⟩
    | cons q r' => cases r
  | p :: ps, [], _, r => by obtain ⟨_, _, e, _⟩ := r; cases e
  | p :: ps, q :: qs, f, ⟨x, t, e, a, b⟩ => by
    cases e
    obtain ⟨kvs, e1, e2⟩ := kx_pairs (fun z hz => f z (List.mem_cons_of_mem _ hz)) b
    have : q.1 = kX p.1 := kX_rw (f p List.mem_cons_self) a
    refine ⟨(kK p.1, q.2) :: kvs, ?_, ?_⟩
    · rw [List.map_cons, ← e1]
      have : q = (kV (kK p.1), q.2) := by
        obtain ⟨q1, q2⟩ := q
        dsimp only at this ⊢
        rw [this]; rfl
      rw [← this]
    · rw [e2]; rfl
theorem kv_flat {γ : Gh} : ∀ {ps : List (W × W)} {ks ws ks' ws' : List W} {ys ys0 : List V} {kvs prs : List (Key × Value)}, KV ((ps.map fun p => kK p.1).zip ys) prs → RWs C γ (ps.map (·.2)) ys → (∀ p ∈ ps, W.kflat p.1 = true) → FlatD C γ ks ws ys0 kvs →
    dispGo ps ks ws = some (ks', ws') → ∃ ys', FlatD C γ ks' ws' ys' (merged kvs prs)
  | [], ks, ws, ks', ws', ys, ys0, kvs, prs, kv, r, f, d, e => by
    cases e
    cases r
    cases kv
    exact ⟨ys0, d⟩
  | p :: ps, ks, ws, ks', ws', ys, ys0, kvs, prs, kv, r, f, d, e => by
    obtain ⟨v, t, e1, a, b⟩ := r
    subst e1
    cases kv with
    | @cons _ q _ qs hh tt =>
      unfold dispGo at e
      split at e
      · rename_i hz
        rw [Bool.and_eq_true] at hz
        have fk := f p List.mem_cons_self
        have nt0 : W.isTup p.1 = false := by
          cases h : p.1 <;> rw [h] at fk <;> first | rfl | cases fk
        obtain ⟨us, d'⟩ := d.step hz.1 nt0 (most_line hz.2) a hh.2
        obtain ⟨ys', dd⟩ := kv_flat tt b (fun x hx => f x (List.mem_cons_of_mem _ hx)) d' e
        refine ⟨ys', ?_⟩
        have : merged kvs (q :: qs) = merged (stored kvs (kK p.1) q.2) qs := by
          show merged (stored kvs q.1 q.2) qs = _
          rw [← hh.1]
        rw [this]; exact dd
      · cases e
theorem paired_imp {α β : Type} {P Q : α → β → Prop} (i : ∀ a b, P a b → Q a b) : ∀ {xs : List α} {ys : List β}, Paired P xs ys → Paired Q xs ys
  | _, _, .nil => .nil
  | _, _, .cons h t => .cons (i _ _ h) (paired_imp i t)
theorem paired_map {α β γ : Type} {P : α → γ → Prop} (f : β → γ) : ∀ {xs : List α} {ys : List β}, Paired P xs (ys.map f) → Paired (fun a b => P a (f b)) xs ys
  | _, [], .nil => .nil
  | _, _ :: _, .cons h t => .cons h (paired_map f t)
theorem map_pair {α β : Type} : ∀ {as : List α} {bs : List β}, bs.length = as.length → (as.zip bs).map (·.2) = bs
  | [], [], _ => rfl
  | [], _ :: _, h => by cases h
  | _ :: _, [], h => by cases h
  | a :: as, b :: bs, h => by
    have := map_pair (as := as) (bs := bs) (by simpa using h)
    simp only [List.zip_cons_cons, List.map_cons, this]
theorem c_dict (hc : X.calm = true) (hW : C.w = X.w) (hK : C.K = X.K) : CallR X (.type "dict") (rG C (gDict m)) := by
  intro pins s σ H vs us Q I rv ⟨E, γ, h, ws, c, r, q⟩
  unfold gDict at q
  have hn := I.hok.fresh (Nat.le_refl s.heap.objs.size)
  have hs := new_sys I
  split at q
  · obtain ⟨v, rfl, r1⟩ := one_rw r
    obtain ⟨u, rfl, ru⟩ := vals1 rv
    split at q
    · rename_i ks ws e
      split at q
      · rename_i hf
        have fs : ∀ k ∈ ks, W.kflat k = true := fun k hk => List.all_eq_true.mp hf k hk
        obtain ⟨a, o, xs, ys, rfl, hp, d, q1, q2⟩ := look_dct c r1 e
        cases ru
        have e' := pin_get I.hok hp
        have ok := d.ok
        have l := (DAt.len (C := C) (γ := γ) (H := H) ⟨o, xs, ys, hp, d, q1, q2⟩)
        have sys := d.sys
        rw [hW] at d
        obtain ⟨kvs, rel, dd, z⟩ := do_flat (P := X.prog) d fs q1 e'
        refine kt_call_dict sys dd (Nat.le_of_lt_succ (by omega)) fun h' d' hs' => ?_
        have dn : FlatD C γ ks ws ys kvs := ⟨ok, fs, q2, rel, l⟩
        rw [← hW] at d'
        obtain ⟨o', w1, w2, w3⟩ := dn.toDO (P := X.prog) (w := C.w) hs d'
        exact ⟨.ref s.heap.objs.size, _, I.laid (t' := s.toks) (fun b u e => (hs'.2 b (Nat.ne_of_lt (Heap.lt_size e))).trans (Heap.get?_push_of_some _ e)) (Nat.le_refl _) (pin_ok w1), rfl, PoE.dctMade q c w2 w3 q2 hn⟩
      · exact q.elim
    · rename_i xs e
      split at q
      · rename_i ps ep
        split at q
        · rename_i hf
          split at q
          · rename_i kv ek
            have fs : ∀ p ∈ ps, W.kflat p.1 = true := fun k hk => List.all_eq_true.mp hf k hk
            obtain ⟨a, ys, rfl, hp, q1⟩ := look_lst c r1 e
            cases ru
            obtain ⟨as, qs, rfl, z2, z3, z4⟩ := pairs_rw (F := γ.F) ep q1
            obtain ⟨kvs, e1, e2⟩ := kx_pairs fs z3
            obtain ⟨its, rvv, pl, hz⟩ := I.list (.inl hp)
            have ei := refs_at rvv
            subst ei
            rw [List.length_map] at hz
            have z5 : Paired (fun p (kv : Key × V) => SqT X.K H p [kV kv.1, kv.2]) as kvs := by
              rw [e1] at z2
              exact paired_imp (fun p kv z => .inl (RdM c.frz z)) (paired_map (fun kv : Key × V => (kV kv.1, kv.2)) z2)
            obtain ⟨prs, rel, hl, hpr⟩ := pairs_of I z5
            obtain ⟨o, n, ho, hcc, hd, hdat⟩ := pl
            refine call_dict_pairs (prs := prs) (I.ok.hd hc) ho hcc hd hdat (by simp [hl]) (by rw [hl]; exact hz) (fun j q' e => ?_) fun h' tk hd' k => ?_
            · obtain ⟨b, u, e1, e2, e3⟩ := hpr j q' e
              exact ⟨b, u, by simp [e1], e2, e3⟩
            · rw [e2] at rel
              obtain ⟨ys', dn⟩ := kv_flat rel z4 fs FlatD.nil ek
              rw [← hW] at hd'
              obtain ⟨o', w1, w2, w3⟩ := dn.toDO (P := X.prog) (w := C.w) hs hd'
              exact ⟨.ref s.heap.objs.size, _, I.laid (t' := tk) k (Nat.le_refl _) (pin_ok w1), rfl, PoE.dctMade q c w2 w3 dn.r hn⟩
          · exact q.elim
        · exact q.elim
      · exact q.elim
    · exact q.elim
  · exact q.elim
theorem ents_vals {w : World} {ks : List W} {xs ys : List V} {es : Array DictEntry} {acc : List Value} (en : Ents w ks xs ys es.toList) (l : acc.length = es.size) (e : ∀ j u, acc[j]? = some u → ∃ hi : j < es.size, u = es[j].key) : Vals xs acc := by
  obtain ⟨l1, l2, l3⟩ := en.len
  rw [Array.length_toList] at l3
  refine vals_of_idx _ _ (by rw [l]; omega) fun j u h => ?_
  obtain ⟨hi, e2⟩ := e j u h
  obtain ⟨x, hx⟩ : ∃ x, xs[j]? = some x := ⟨_, List.getElem?_eq_getElem (by omega)⟩
  obtain ⟨y, hy⟩ : ∃ y, ys[j]? = some y := ⟨_, List.getElem?_eq_getElem (by omega)⟩
  obtain ⟨d, d1, d2, _⟩ := en.get j hx hy
  have : d = es[j] := by rw [Array.getElem?_toList, Array.getElem?_eq_getElem hi] at d1; exact (Option.some.inj d1).symm
  exact ⟨x, hx, by rw [e2, ← this]; exact d2⟩
theorem ents_valv {w : World} {ks : List W} {xs ys : List V} {es : Array DictEntry} {acc : List Value} (en : Ents w ks xs ys es.toList) (l : acc.length = es.size) (e : ∀ j u, acc[j]? = some u → ∃ hi : j < es.size, u = es[j].val) : Vals ys acc := by
  obtain ⟨l1, l2, l3⟩ := en.len
  rw [Array.length_toList] at l3
  refine vals_of_idx _ _ (by rw [l]; omega) fun j u h => ?_
  obtain ⟨hi, e2⟩ := e j u h
  obtain ⟨x, hx⟩ : ∃ x, xs[j]? = some x := ⟨_, List.getElem?_eq_getElem (by omega)⟩
  obtain ⟨y, hy⟩ : ∃ y, ys[j]? = some y := ⟨_, List.getElem?_eq_getElem (by omega)⟩
  obtain ⟨d, d1, _, d2⟩ := en.get j hx hy
  have : d = es[j] := by rw [Array.getElem?_toList, Array.getElem?_eq_getElem hi] at d1; exact (Option.some.inj d1).symm
  exact ⟨y, hy, by rw [e2, ← this]; exact d2⟩
theorem c_listK (hc : X.calm = true) (hK : C.K = X.K) : CallR X (.type "list") (rG C (gListK m)) := by
  intro pins s σ H vs us Q I rv ⟨E, γ, h, ws, c, r, q⟩
  unfold gListK at q
  split at q
  · split at q
    · rename_i ks ws e
      obtain ⟨v, rfl, r1⟩ := one_rw r
      obtain ⟨a, o, xs, ys, rfl, hp, d, q1, q2⟩ := look_dct c r1 e
      obtain ⟨u, rfl, ru⟩ := vals1 rv
      cases ru
      obtain ⟨es, ep, dt, en⟩ := d.data
      have lz := d.ok.size
      obtain ⟨l1, l2, l3⟩ := en.len
      rw [Array.length_toList] at l3
      have hsz : es.size ≤ sizeLine := by omega
      have hxz : xs.length ≤ sizeLine := by omega
      refine PySem.W.kdl_call (KdlSrc.rawDict (es := es) (ep := ep) d.sys) (I.ok.hd hc) (raw_at I.hok d.ex dt hp) hsz fun h' tk acc c' hk hD hacc => ?_
      have vv : Vals xs acc.toList := ents_vals en (by rw [Array.length_toList]; exact hacc.1) fun j u e => hacc.2 j u (by simpa using e)
      exact ⟨.ref s.heap.objs.size, _, I.laid (t' := tk) (o := .lst xs) hk (Nat.le_refl _) ⟨hxz, acc.toList, c', vv, by rw [Array.toArray_toList]; exact hD⟩, rfl, PoE.lstMade q c q1 (I.hok.fresh (Nat.le_refl _))⟩
    · exact c_listA hc hK pins s σ H vs us Q I rv ⟨E, γ, h, _, c, r, q⟩
  · exact q.elim
def valuesView (d : Addr) : Obj := { cls := .type "dict_values", data := .fields #[.ref d] }
def rLV (C : Cf) (m : Bool) : List V → Hp → VK → Prop := fun vs H Q => ∃ (p a : Addr) (γ : Gh) (h : Hw) (ks ws : List W) (E : XK), vs = [.ref p] ∧ H p = some (pin p (valuesView a)) ∧ HC C γ h H ∧ DAt C γ H a ks ws ∧ PoE C γ H (made m h (.lst ws)) Q E
theorem call_listV (hc : X.calm = true) : CallR X (.type "list") (rLV C m) := by
  intro pins s σ H vs us Q I rv qq
  obtain ⟨p, a, γ, h, ks, ws, E, rfl, hp, c, ⟨o, xs, ys, ha, d, q1, q2⟩, q⟩ := qq
  obtain ⟨u, rfl, ru⟩ := vals1 rv
  cases ru
  obtain ⟨es, ep, dt, en⟩ := d.data
  have lz := d.ok.size
  obtain ⟨l1, l2, l3⟩ := en.len
  rw [Array.length_toList] at l3
  have hsz : es.size ≤ sizeLine := by omega
  have hyz : ys.length ≤ sizeLine := by omega
  have view : s.heap.IsValuesView p a := ⟨_, pin_get I.hok hp, rfl, rfl⟩
  refine PySem.W.kdl_call (KdlSrc.rawValues (es := es) (ep := ep) (r := p) (d := a)) (I.ok.hd hc) ⟨view, raw_at I.hok d.ex dt ha⟩ hsz fun h' tk acc c' hk hD hacc => ?_
  have vv : Vals ys acc.toList := ents_valv en (by rw [Array.length_toList]; exact hacc.1) fun j u e => hacc.2 j u (by simpa using e)
  exact ⟨.ref s.heap.objs.size, _, I.laid (t' := tk) (o := .lst ys) hk (Nat.le_refl _) ⟨hyz, acc.toList, c', vv, by rw [Array.toArray_toList]; exact hD⟩, rfl, PoE.lstMade q c q2 (I.hok.fresh (Nat.le_refl _))⟩
theorem pv_listV {e : Expr} {xe : Ex} {apos cpos p2 pos : Pos} (hc : X.calm = true) (hg : Gl X "list") (hm : X.mg "list" = none) (ha : PE X e (tev C cl Wx xe)) (hbase : attributeBase e "values" X.env (eval e X.env) = eval e X.env) (hline : (apos.endLine == cpos.line) = true)
    (he : starEach [.Call (.Attribute e "values" apos) [] [] cpos] X.env = (false, eval (.Call (.Attribute e "values" apos) [] [] cpos) X.env) :: starEach [] X.env) (hpl : (backTo pos (starEach [] X.env)).any (·.1) = false) :
    PE X (.Call (.Name "list" p2) [.Call (.Attribute e "values" apos) [] [] cpos] [] pos) (tev C cl Wx (xF (gListV m) (xsCons xe xsNil))) := by
  have hv : bootBuiltins "list" = some (.type "list") := by decide +kernel
  have pv : PE X (.Call (.Attribute e "values" apos) [] [] cpos) (fun σ H Q => tev C cl Wx xe σ H fun v H1 => ∃ a o, v = .ref a ∧ (a == sysModules) = false ∧ (∃ es ep, o.ExactDict ∧ o.data = .dict es ep) ∧ H1 a = some (pin a o) ∧ ∀ p, H1 p = none → Q (.ref p) (upd H1 p (pin p (valuesView a)))) := by
    refine ⟨fun pins s σ H Q I q => ?_⟩
    refine wpAny_Call_method (T := "dict") (id := "dict.values") hbase rfl hline F.plainAttrs_dict F.slot_dict_values F.type_dict_values (thn (ha.run pins s σ H _ I q) fun u s1 ⟨x, H1, I1, rx, a, o, ex, sys, ⟨es, ep, xd, dt⟩, hp, q⟩ => ?_)
    subst ex
    cases rx
    have raw := raw_at I1.hok xd dt hp
    refine ⟨raw.typeIs, fun b eb => by cases eb; exact ⟨o, pin_get I1.hok hp, xd.2.1⟩, ?_⟩
    show wpAny _ _ (callWith cpos (.builtin "dict.values") [.ref a] [] []) _ X.xe s1
    refine method_meetsIn F.slot_dict_values F.entry_dict_values rfl (PySem.evalArgs_none ⟨rfl, raw.typeIs, F.args_dict_values_1 _, _, meets_dict_values_raw a sys, ⟨⟨es, ep, raw⟩, ?_⟩⟩)
    exact ⟨.ref s1.heap.objs.size, _, I1.laid (t' := s1.toks) (o := pin s1.heap.objs.size (valuesView a)) (fun b ob q => Heap.get?_push_of_some _ q) (Nat.le_refl _) (pin_ok (Heap.get?_push_size _ rfl)), rfl, q _ (I1.hok.fresh (Nat.le_refl _))⟩
  refine PE.imp (pe_callTy (call_listV (C := C) (m := m) hc) hg hm hv (pa_cons pv pa_nil he) (by decide) (by decide) he hpl) fun σ H Q ⟨γ, σw, h, sl, c, q⟩ => ⟨γ, σw, h, sl, c, ?_⟩
  unfold xF xsCons xsNil at q
  cases ea : xe cl σw h with
  | no => rw [ea] at q; exact q.elim
  | exn cc a h1 => rw [ea] at q; exact q
  | ok w h1 =>
    rw [ea] at q
    dsimp only [R.bind] at q
    intro γ1 v H1 e1 k1 c1 r1
    have q1 := PoE.step q e1 k1
    unfold gListV at q1
    dsimp only at q1
    split at q1
    · rename_i ks ws el
      obtain ⟨a, o, xs, ys, rfl, hp, d, q3, q4⟩ := look_dct c1 r1 el
      obtain ⟨es, ep, dt, en⟩ := d.data
      refine ⟨a, o, rfl, d.sys, ⟨es, ep, d.ex, dt⟩, hp, fun p n => ?_⟩
      obtain ⟨e2, k2, c2, f2⟩ := c1.lay (p := p) (o := pin p (valuesView a)) n (fun y z => by cases z)
      have hap : a ≠ p := fun z => by subst z; rw [n] at hp; cases hp
      exact ⟨p, a, _, h1, ks, ws, _, rfl, upd_same, c2, ⟨o, xs, ys, by rw [upd_ne hap]; exact hp, d, e2.rws q3, e2.rws q4⟩, PoE.step q1 e2 k2⟩
    · exact q1.elim
end
end Ov
namespace Ov
open PySem PySem.Spec PyProof.Rows L2
mutual
def W.fits : W → W → Bool
  | .non, .non => true
  | .bl _, .bl _ => true
  | .int _, .int _ => true
  | .str _, .str _ => true
  | .tup xs, .tup ys => W.fitss xs ys
  | .lst xs, .lst ys => W.fitss xs ys
  | _, _ => false
termination_by structural x => x
def W.fitss : List W → List W → Bool
  | [], _ => true
  | x :: xs, y :: ys => W.fits x y && W.fitss xs ys
  | _ :: _, [] => false
termination_by structural x => x
end
mutual
def W.form : W → W → W
  | .tup xs, .tup ys => .tup (W.forms xs ys)
  | .lst xs, .lst ys => .lst (W.forms xs ys)
  | x, _ => x
termination_by structural x => x
def W.forms : List W → List W → List W
  | [], ys => ys
  | xs, [] => xs
  | x :: xs, y :: ys => W.form x y :: W.forms xs ys
termination_by structural x => x
end
def formOf : List W → W
  | [] => .non
  | x :: r => r.foldl W.form x
def oneForm (xs : List W) : Bool := let f := formOf xs
  xs.all fun x => W.fits x f
def tup1 : W → Bool
  | .tup (_ :: _) => true
  | _ => false
def notTup : W → Bool
  | .tup _ => false
  | .non => false
  | _ => true
def canSort (xs : List W) : Bool := xs.all (W.lay 40) && oneForm xs && (xs.all tup1 || xs.all notTup)
def itemsOf : W → Option (List W)
  | .lst xs => some xs
  | .tup xs => some xs
  | .dct ks _ => some ks
  | _ => none
def gSort : Gf := fun ws h => match ws with
  | [w] => (match itemsOf (look h w) with
    | some xs => if canSort xs && Nat.blt xs.length most then .ok (.lst (sortW xs)) h else .no
    | none => .no)
  | _ => .no
mutual
theorem fits_alike : ∀ (a b s : W), W.fits a s = true → W.fits b s = true → PySem.W.alike (pyd a) (pyd b) = true
  | a, b, .non, ha, hb => by cases a <;> simp [W.fits] at ha; cases b <;> simp [W.fits] at hb; simp [pyd, PySem.W.alike]
  | a, b, .bl _, ha, hb => by cases a <;> simp [W.fits] at ha; cases b <;> simp [W.fits] at hb; simp [pyd, PySem.W.alike]
  | a, b, .int _, ha, hb => by cases a <;> simp [W.fits] at ha; cases b <;> simp [W.fits] at hb; simp [pyd, PySem.W.alike]
  | a, b, .str _, ha, hb => by cases a <;> simp [W.fits] at ha; cases b <;> simp [W.fits] at hb; simp [pyd, PySem.W.alike]
  | a, b, .tup ss, ha, hb => by
    cases a <;> simp [W.fits] at ha
    cases b <;> simp [W.fits] at hb
    simp only [pyd, PySem.W.alike]
    exact fitss_alike _ _ ss ha hb
  | a, b, .lst ss, ha, hb => by
    cases a <;> simp [W.fits] at ha
    cases b <;> simp [W.fits] at hb
    simp only [pyd, PySem.W.alike]
    exact fitss_alike _ _ ss ha hb
  | a, b, .dct _ _, ha, hb => by cases a <;> simp [W.fits] at ha
  | a, b, .obj _ _ _, ha, hb => by cases a <;> simp [W.fits] at ha
  | a, b, .ref _, ha, hb => by cases a <;> simp [W.fits] at ha
  | a, b, .any, ha, hb => by cases a <;> simp [W.fits] at ha
  | a, b, .scr _, ha, hb => by cases a <;> simp [W.fits] at ha
theorem fitss_alike : ∀ (as bs ss : List W), W.fitss as ss = true → W.fitss bs ss = true → PySem.W.alikeAll (pyds as) (pyds bs) = true
  | [], bs, ss, _, _ => by cases bs <;> simp [pyds, PySem.W.alikeAll]
  | a :: as, [], ss, _, _ => by simp [pyds, PySem.W.alikeAll]
  | a :: as, b :: bs, [], ha, _ => by simp [W.fitss] at ha
  | a :: as, b :: bs, s :: ss, ha, hb => by
    simp only [W.fitss, Bool.and_eq_true] at ha hb
    simp only [pyds, PySem.W.alikeAll, Bool.and_eq_true]
    exact ⟨fits_alike a b s ha.1 hb.1, fitss_alike as bs ss ha.2 hb.2⟩
end
theorem ltNat_iff : ∀ s t : List Nat, ltNat s t = decide (s < t)
  | [], [] => by simp [ltNat]
  | [], _ :: _ => by simp [ltNat]
  | _ :: _, [] => by simp [ltNat]
  | a :: r, b :: t => by
    rw [ltNat, ltNat_iff r t]
    rw [Bool.eq_iff_iff]
    simp only [Bool.or_eq_true, Bool.and_eq_true, decide_eq_true_eq, List.cons_lt_cons_iff]
    constructor
    · rintro (h | ⟨h, k⟩)
      · exact .inl (Nat.le_of_ble_eq_true h)
      · exact .inr ⟨Nat.eq_of_beq_eq_true h, k⟩
    · rintro (h | ⟨h, k⟩)
      · exact .inl (Nat.ble_eq_true_of_le h)
      · exact .inr ⟨by rw [h]; exact Nat.beq_refl b, k⟩
mutual
theorem lt_eq : ∀ (d e : Nat) (a b : W), W.lay d a = true → W.lay e b = true → PySem.W.alike (pyd a) (pyd b) = true → PySem.W.dataLt (pyd a) (pyd b) = W.lt a b
  | 0, _, a, b, la, _, _ => by simp [W.lay] at la
  | d + 1, e, a, b, la, lb, al => by
    cases e with
    | zero => simp [W.lay] at lb
    | succ e =>
      cases a with
      | non => cases b <;> simp [pyd, PySem.W.alike] at al <;> first | rfl | (simp [W.lay] at lb; done)
      | bl x =>
        cases b <;> simp [pyd, PySem.W.alike] at al
        rename_i y
        simp only [pyd]
        rw [PySem.W.dataLt_bool]
        cases x <;> cases y <;> rfl
      | int x =>
        cases b <;> simp [pyd, PySem.W.alike] at al
        simp only [pyd]
        rw [PySem.W.dataLt_int]; rfl
      | str x =>
        cases b <;> simp [pyd, PySem.W.alike] at al
        rename_i y
        simp only [pyd]
        rw [PySem.W.dataLt_str, W.lt, ltNat_iff]
      | tup xs =>
        cases b <;> simp [pyd, PySem.W.alike] at al
        rename_i ys
        simp only [pyd]
        rw [PySem.W.dataLt_tuple, W.lt]
        exact lts_eq d e xs ys (fun x hx => List.all_eq_true.mp (show xs.all (W.lay d) = true from la) x hx) (fun x hx => List.all_eq_true.mp (show ys.all (W.lay e) = true from lb) x hx) al
      | lst xs =>
        cases b <;> simp [pyd, PySem.W.alike] at al
        rename_i ys
        simp only [pyd]
        rw [PySem.W.dataLt_list, W.lt]
        exact lts_eq d e xs ys (fun x hx => List.all_eq_true.mp (show xs.all (W.lay d) = true from la) x hx) (fun x hx => List.all_eq_true.mp (show ys.all (W.lay e) = true from lb) x hx) al
      | dct _ _ => simp [W.lay] at la
      | obj _ _ _ => simp [W.lay] at la
      | ref _ => simp [W.lay] at la
      | any => simp [W.lay] at la
      | scr _ => simp [W.lay] at la
theorem lts_eq : ∀ (d e : Nat) (xs ys : List W), (∀ x ∈ xs, W.lay d x = true) → (∀ y ∈ ys, W.lay e y = true) → PySem.W.alikeAll (pyds xs) (pyds ys) = true →
    PyProof.Rows.lexLt itemOrd (PySem.W.keyToksAll (pyds xs)) (PySem.W.keyToksAll (pyds ys)) = W.lts xs ys
  | d, e, [], [], _, _, _ => by rw [W.lts]; exact lex_irrefl _
  | d, e, [], y :: ys, _, _, _ => by
    rw [pyds, pyds, PySem.W.toks_all_cons, PySem.W.keyToksAll, W.lts]
    rw [lex_diff (O := itemOrd) (by simp)]
    rfl
  | d, e, x :: xs, [], _, _, _ => by
    rw [pyds, pyds, PySem.W.toks_all_cons, PySem.W.keyToksAll, W.lts]
    rw [lex_diff (O := itemOrd) (by simp)]
    rfl
  | d, e, x :: xs, y :: ys, lx, ly, al => by
    simp only [pyds, PySem.W.alikeAll, Bool.and_eq_true] at al
    rw [pyds, pyds, PySem.W.dataLt_cons al.1, W.lts, eqv_eq d e x y (lx x List.mem_cons_self) (ly y List.mem_cons_self),
      lts_eq d e xs ys (fun z hz => lx z (List.mem_cons_of_mem _ hz)) (fun z hz => ly z (List.mem_cons_of_mem _ hz)) al.2,
      lt_eq d e x y (lx x List.mem_cons_self) (ly y List.mem_cons_self) al.1]
end
section
variable {α β : Type} {le : α → α → Bool} (trans : ∀ a b c, le a b = true → le b c = true → le a c = true) (total : ∀ a b, (le a b || le b a) = true)
theorem insBy_pre (x : α) : ∀ (l1 l2 : List α), (∀ b ∈ l1, (!le x b) = true) → (∀ b ∈ l2, le x b = true) → insBy le x (l1 ++ l2) = l1 ++ x :: l2
  | [], [], _, _ => rfl
  | [], y :: r, _, h => by
    show insBy le x (y :: r) = _
    rw [insBy, if_pos (h y List.mem_cons_self)]; rfl
  | b :: l1, l2, h1, h2 => by
    show insBy le x (b :: (l1 ++ l2)) = _
    have hb := h1 b List.mem_cons_self
    rw [insBy, if_neg (by simpa using hb), insBy_pre x l1 l2 (fun z hz => h1 z (List.mem_cons_of_mem _ hz)) h2]; rfl
include trans total in
theorem sortBy_merge : ∀ l : List α, sortBy le l = l.mergeSort le
  | [] => by rw [sortBy]; simp
  | x :: r => by
    obtain ⟨l1, l2, e1, e2, e3⟩ := List.mergeSort_cons (le := le) trans total x r
    rw [sortBy, sortBy_merge r, e2, e1]
    refine insBy_pre x l1 l2 e3 fun b hb => ?_
    have s := List.pairwise_mergeSort (le := le) trans total (x :: r)
    rw [e1] at s
    have := (List.pairwise_append.mp s).2.1
    exact (List.pairwise_cons.mp this).1 b hb
theorem insBy_mem (x : α) : ∀ {l : List α} {z : α}, z ∈ insBy le x l → z = x ∨ z ∈ l
  | [], z, h => by simp [insBy] at h; exact .inl h
  | y :: r, z, h => by
    unfold insBy at h
    split at h
    · rcases List.mem_cons.mp h with e | h
      · exact .inl e
      · exact .inr h
    · rcases List.mem_cons.mp h with e | h
      · exact .inr (by rw [e]; exact List.mem_cons_self)
      · exact (insBy_mem x h).imp id (List.mem_cons_of_mem _)
theorem sortBy_mem : ∀ {l : List α} {z : α}, z ∈ sortBy le l → z ∈ l
  | [], z, h => h
  | x :: r, z, h => by
    rcases insBy_mem x h with e | h
    · rw [e]; exact List.mem_cons_self
    · exact List.mem_cons_of_mem _ (sortBy_mem h)
variable {le' : β → β → Bool}
theorem insBy_map (f : α → β) (x : α) : ∀ {l : List α}, (∀ b ∈ l, le' (f x) (f b) = le x b) → (insBy le x l).map f = insBy le' (f x) (l.map f)
  | [], _ => rfl
  | y :: r, h => by
    rw [insBy, List.map_cons, insBy, h y List.mem_cons_self]
    split
    · rfl
    · rw [List.map_cons, insBy_map f x fun b hb => h b (List.mem_cons_of_mem _ hb)]
theorem sortBy_map (f : α → β) : ∀ {l : List α}, (∀ a ∈ l, ∀ b ∈ l, le' (f a) (f b) = le a b) → (sortBy le l).map f = sortBy le' (l.map f)
  | [], _ => rfl
  | x :: r, h => by
    rw [sortBy, List.map_cons, sortBy, insBy_map f x fun b hb => h x List.mem_cons_self b (List.mem_cons_of_mem _ (sortBy_mem hb)), sortBy_map f fun a ha b hb => h a (List.mem_cons_of_mem _ ha) b (List.mem_cons_of_mem _ hb)]
end
theorem dle_trans {β : Type} {k : β → PyData} (a b c : β) (h1 : PySem.W.dataLe false k a b = true) (h2 : PySem.W.dataLe false k b c = true) : PySem.W.dataLe false k a c = true := by
  rw [PySem.W.dataLe_eq] at h1 h2 ⊢
  simp only [cond_false, Bool.not_eq_true'] at h1 h2 ⊢
  cases e : PySem.W.dataLt (k c) (k a) with
  | false => rfl
  | true =>
    rcases lex_negTrans (O := itemOrd) _ (PySem.W.keyToks (k b)) _ e with h | h
    · have h' : PySem.W.dataLt (k c) (k b) = true := h
      rw [h2] at h'; cases h'
    · have h' : PySem.W.dataLt (k b) (k a) = true := h
      rw [h1] at h'; cases h'
theorem dle_total {β : Type} {k : β → PyData} (a b : β) : (PySem.W.dataLe false k a b || PySem.W.dataLe false k b a) = true := by
  rw [PySem.W.dataLe_eq]
  simp only [cond_false]
  cases e1 : PySem.W.dataLt (k b) (k a) with
  | false => rfl
  | true =>
    cases e2 : PySem.W.dataLt (k a) (k b) with
    | false => rfl
    | true =>
      have := lex_trans (O := itemOrd) _ _ _ e1 e2
      rw [lex_irrefl] at this; cases this
section
variable {X : Cx} {C : Cf} {m : Bool}
theorem vals_each {Pr : V → Value → Prop} : ∀ {ws : List W} {xs : List V} {us : List Value}, Vals xs us → ws.length = xs.length → PySem.W.EachIs (fun v (b : W × V) => RelV b.2 v) us (ws.zip xs)
  | [], _, _, .nil, _ => .nil
  | _ :: _, _, _, .nil, h => by cases h
  | [], _, _, .cons _ _, h => by cases h
  | w :: ws, _, _, .cons r t, h => .cons r (vals_each (Pr := Pr) t (by simpa using h))
theorem each_vals : ∀ {bs : List (W × V)} {us : List Value}, PySem.W.EachIs (fun v (b : W × V) => RelV b.2 v) us bs → Vals (bs.map (·.2)) us
  | _, _, .nil => .nil
  | _, _, .cons r t => .cons r (each_vals t)
theorem rws_zip {γ : Gh} : ∀ {ws : List W} {xs : List V}, RWs C γ ws xs → ∀ b ∈ ws.zip xs, RW C γ b.1 b.2
  | [], _, _, b, hb => by simp at hb
  | w :: ws, _, ⟨v, r, e, a, t⟩, b, hb => by
    subst e
    rcases List.mem_cons.mp hb with e | hb
    · subst e; exact a
    · exact rws_zip t b hb
theorem rws_unzip {γ : Gh} : ∀ {bs : List (W × V)}, (∀ b ∈ bs, RW C γ b.1 b.2) → RWs C γ (bs.map (·.1)) (bs.map (·.2))
  | [], _ => rfl
  | b :: bs, h => RWs.cons (h b List.mem_cons_self) (rws_unzip fun x hx => h x (List.mem_cons_of_mem _ hx))
theorem sorted_any {pins : List (Addr × Obj)} {s : Shared} {σ : L2.St} {H : Hp} {u : Value} {Q : VK} {γ : Gh} {h : Hw} {xs : List W} {vs : List V} {E : XK} (I : Inv X pins σ H s) (c : HC C γ h H) (hK : C.K = X.K) (hu : X.A.units + 65 < cLine) (r : RWs C γ xs vs) (ok : canSort xs = true) (hz : xs.length ≤ sizeLine)
    (args : argsOk "sorted" ⟨[u], []⟩) (coll : ∀ (R : List Value → Shared → Prop) (E' : Value → Shared → Prop), (∀ h' tk acc, (∀ b o, s.heap.get? b = some o → h'.get? b = some o) → Vals vs acc → R acc { s with heap := h', toks := tk }) → wpAny (model X.prog X.w) X.A.in1 (collect u) R E' s)
    (p : PoE C γ H (.ok (.lst (sortW xs)) h) Q E) : wpAny (model X.prog X.w) X.A (call (.builtin "sorted") [u]) (EP X pins σ Q) X.xe s := by
  unfold canSort at ok
  simp only [Bool.and_eq_true, Bool.or_eq_true] at ok
  obtain ⟨⟨la, fm⟩, sh⟩ := ok
  have lay : ∀ w ∈ xs, W.lay 40 w = true := fun w hw => List.all_eq_true.mp la w hw
  have ft : ∀ w ∈ xs, W.fits w (formOf xs) = true := fun w hw => List.all_eq_true.mp (show xs.all (fun x => W.fits x (formOf xs)) = true from fm) w hw
  have hl := r.length
  have zm : (xs.zip vs).map (·.1) = xs := zip_fst (by omega)
  have zm2 : (xs.zip vs).map (·.2) = vs := map_pair (by omega)
  have zr := rws_zip r
  have ml : ∀ b ∈ xs.zip vs, b.1 ∈ xs := fun b hb => by rw [← zm]; exact List.mem_map_of_mem hb
  have dp : ∀ b ∈ xs.zip vs, LayP X.K H b.2 40 b.1 := fun b hb => by have := lay_dp c 40 b.1 b.2 (lay _ (ml b hb)) (zr b hb); rw [hK] at this; exact this
  have al : ∀ a ∈ xs.zip vs, ∀ b ∈ xs.zip vs, PySem.W.alike (pyd a.1) (pyd b.1) = true := fun a ha b hb => fits_alike _ _ _ (ft _ (ml a ha)) (ft _ (ml b hb))
  have hal : PySem.W.AllAlike ((xs.zip vs).map fun b => pyd b.1) := by
    intro d hd d' hd'
    obtain ⟨a, ha, rfl⟩ := List.mem_map.mp hd
    obtain ⟨b, hb, rfl⟩ := List.mem_map.mp hd'
    exact al a ha b hb
  have hso : PySem.W.Sortable ((xs.zip vs).map fun b => pyd b.1) := by
    rcases sh with sh | sh
    · left
      intro d hd
      obtain ⟨a, ha, rfl⟩ := List.mem_map.mp hd
      have := List.all_eq_true.mp sh a.1 (ml a ha)
      cases e : a.1 with
      | tup ys =>
        cases ys with
        | nil => rw [e] at this; cases this
        | cons y ys => exact ⟨pyd y, pyds ys, by rw [pyd, pyds]⟩
      | _ => rw [e] at this; cases this
    · right
      intro d hd
      obtain ⟨a, ha, rfl⟩ := List.mem_map.mp hd
      have := List.all_eq_true.mp sh a.1 (ml a ha)
      have l := lay a.1 (ml a ha)
      cases e : a.1 <;> rw [e] at this l <;> first | (cases this; done) | (simp [W.lay] at l; done) | exact ⟨by simp [pyd], by simp [pyd]⟩
  refine Calls.call_function_entry PyProof.Rows.kind_sorted PyProof.Rows.plain_sorted PyProof.Rows.entry_sorted args ?_
  unfold Builtin.«sorted»
  refine wpAny_bind (m := checkCount "sorted" 1 1 _) (wpAny_pure ?_)
  refine wpAny_bind (coll _ _ fun h' tk acc hk hacc => ?_)
  have I1 : Inv X pins σ H { s with heap := h', toks := tk } := I.kept hk
  have hal2 : acc.length = vs.length := hacc.length.symm
  refine wpAny_bind (wpAny_newList ?_ (by omega))
  have hoL : (h'.push (PyProof.Rows.seqObj "list" acc.toArray 0)).get? h'.objs.size = some (PyProof.Rows.seqObj "list" acc.toArray 0) := Heap.get?_push_size _ rfl
  have ev := vals_each (Pr := fun _ _ => True) hacc hl
  have er : PySem.W.EachIs (fun v (b : W × V) => ∃ as, Reads h' v (pyd b.1) as) acc (xs.zip vs) := by
    have key : ∀ (bs : List (W × V)) (us : List Value), PySem.W.EachIs (fun v (b : W × V) => RelV b.2 v) us bs → (∀ b ∈ bs, LayP X.K H b.2 40 b.1) → PySem.W.EachIs (fun v (b : W × V) => ∃ as, Reads h' v (pyd b.1) as) us bs := by
      intro bs us e
      induction e with
      | nil => intro _; exact .nil
      | cons r t ih => intro hb; exact .cons (Dp.reads I1 _ _ _ (hb _ List.mem_cons_self).dp r) (ih fun x hx => hb x (List.mem_cons_of_mem _ hx))
    exact key _ _ ev dp
  have hb : ∀ b o, h'.get? b = some o → (PySem.W.sortingHeap (h'.push (PyProof.Rows.seqObj "list" acc.toArray 0)) h'.objs.size acc).get? b = some o := fun b o e => PySem.W.sortingHeap_old (Nat.ne_of_lt (Heap.lt_size e)) (Heap.get?_push_of_some _ e)
  have er' : PySem.W.EachIs (fun v (b : W × V) => ∃ as, Reads (PySem.W.sortingHeap (h'.push (PyProof.Rows.seqObj "list" acc.toArray 0)) h'.objs.size acc) v (pyd b.1) as) acc (xs.zip vs) := er.mono fun _ _ ⟨as, r⟩ => ⟨as, PyProof.Rows.Reads.keeps hb r⟩
  show wpAny _ _ _ _ _ { s with heap := h'.push (PyProof.Rows.seqObj "list" acc.toArray 0), toks := tk }
  refine wpAny_bind (wpAny_holding (wpAny_call_entry PyProof.Rows.slot_list_sort ⟨_, hoL, rfl⟩ PyProof.Rows.entry_list_sort
    (PySem.W.list_sort_vals (s := { s with heap := h'.push (PyProof.Rows.seqObj "list" acc.toArray 0), toks := tk }) (κ := PySem.W.dataKind (PySem.W.sortingHeap (h'.push (PyProof.Rows.seqObj "list" acc.toArray 0)) h'.objs.size acc) ((xs.zip vs).map fun b => pyd b.1)) hoL
      (PySem.W.SortsAt.data (s := { s with heap := PySem.W.sortingHeap (h'.push (PyProof.Rows.seqObj "list" acc.toArray 0)) h'.objs.size acc, toks := tk }) (PySem.W.each_map (R := fun v d => ∃ as, Reads (PySem.W.sortingHeap (h'.push (PyProof.Rows.seqObj "list" acc.toArray 0)) h'.objs.size acc) v d as) (fun b : W × V => pyd b.1) er') hal hso fun d hd => ?_) (by omega) ⟨_, rfl, ?_⟩)
    (PyProof.Rows.args_list_sort _)))
  · obtain ⟨b, hb, rfl⟩ := List.mem_map.mp hd
    have := (dp b hb).dep
    simp only [Around.in1_units]
    omega
  have out := PySem.W.sortVals_data (R := fun v (b : W × V) => RelV b.2 v) (enc := fun b : W × V => pyd b.1) false ev er' hal
  rw [← sortBy_merge dle_trans dle_total] at out
  have vv := each_vals out
  have em : (sortBy (PySem.W.dataLe false fun b : W × V => pyd b.1) (xs.zip vs)).map (·.1) = sortW xs := by
    unfold sortW
    rw [sortBy_map (le' := fun x y => !W.lt y x) (fun b : W × V => b.1) (fun a ha b hb => ?_), zm]
    rw [PySem.W.dataLe_eq]
    simp only [cond_false]
    rw [lt_eq 40 40 _ _ (lay _ (ml b hb)) (lay _ (ml a ha)) (al b hb a ha)]
  have rr : RWs C γ (sortW xs) ((sortBy (PySem.W.dataLe false fun b : W × V => pyd b.1) (xs.zip vs)).map (·.2)) := by
    rw [← em]
    exact rws_unzip fun b hb => zr b (sortBy_mem hb)
  generalize hos : PySem.W.sortVals (PySem.W.dataKind (PySem.W.sortingHeap (h'.push (PyProof.Rows.seqObj "list" acc.toArray 0)) h'.objs.size acc) ((xs.zip vs).map fun b => pyd b.1)) false acc acc = os at out vv ⊢
  obtain ⟨e', he'⟩ := PyProof.Rows.sortedHeap_at (vs := acc) (out := os.toArray) hoL
  have hlen : ((sortBy (PySem.W.dataLe false fun b : W × V => pyd b.1) (xs.zip vs)).map (·.2)).length ≤ sizeLine := by
    have := rr.length
    have l2 := congrArg List.length em
    rw [List.length_map] at l2
    have l3 := vv.length
    have l4 : os.length = acc.length := by rw [← hos]; exact PySem.W.sortVals_length false rfl
    omega
  refine wpAny_pure ⟨_, rfl, .ref h'.objs.size, upd H h'.objs.size (.lst ((sortBy (PySem.W.dataLe false fun b : W × V => pyd b.1) (xs.zip vs)).map (·.2))), I1.laid (t' := tk) (fun b u e => ?_) (Nat.le_refl _)
    ⟨hlen, os, e', vv, he'⟩, rfl, PoE.lstNew p c rr (I1.hok.fresh (Nat.le_refl _))⟩
  have hb : b < h'.objs.size := Heap.lt_size e
  rw [PyProof.Rows.sortedHeap_old (Nat.ne_of_lt hb) (by rw [size_push']; exact Nat.lt_succ_of_lt hb)]
  exact Heap.get?_push_of_some _ e
theorem c_sort (hc : X.calm = true) (hu : X.A.units + 65 < cLine) (hK : C.K = X.K) : CallR X (.builtin "sorted") (rG C gSort) := by
  intro pins s σ H vs us Q I rv ⟨E, γ, h, ws, c, r, q⟩
  unfold gSort at q
  split at q
  · obtain ⟨v, rfl, r1⟩ := one_rw r
    split at q
    · rename_i xs ei
      split at q
      · rename_i hz
        rw [Bool.and_eq_true] at hz
        have hlen := Nat.le_of_lt (most_line hz.2)
        obtain ⟨u, rfl, ru⟩ := vals1 rv
        cases hl : look h _ with
        | lst ys =>
          rw [hl] at ei; cases ei
          obtain ⟨a, vs, rfl, q1, q2⟩ := look_lst c r1 hl
          cases ru
          obtain ⟨its, rvv, ⟨o, n, ho, hcc, hd, hdat⟩, hsz⟩ := I.list (.inl q1)
          refine sorted_any I c hK hu q2 hz.1 hlen (PyProof.Rows.args_sorted1 _) (fun R E' hR => ?_) q
          exact wpAny_collect_seq a (.inl rfl) ho hcc hdat (fun h' hk => hR h' s.toks _ hk (by simpa using rvv)) (by rw [List.size_toArray, ← rvv.length]; exact hsz)
        | tup ys =>
          rw [hl] at ei; cases ei
          obtain ⟨a, vs, rfl, q1, q2⟩ := look_tup c r1 hl
          cases ru
          obtain ⟨its, rvv, ⟨o, ho, hcc, n, hdat⟩, hsz⟩ := I.tuple (.inl q1)
          refine sorted_any I c hK hu q2 hz.1 hlen (PyProof.Rows.args_sorted1 _) (fun R E' hR => ?_) q
          exact wpAny_collect_seq a (.inr rfl) ho hcc hdat (fun h' hk => hR h' s.toks _ hk (by simpa using rvv)) (by rw [List.size_toArray, ← rvv.length]; exact hsz)
        | dct ks us =>
          rw [hl] at ei; cases ei
          obtain ⟨a, o, xs', ys', rfl, hp, d, q1, q2⟩ := look_dct c r1 hl
          cases ru
          obtain ⟨es, ep, dt, en⟩ := d.data
          obtain ⟨l1, l2, l3⟩ := en.len
          rw [Array.length_toList] at l3
          have lz := d.ok.size
          refine sorted_any I c hK hu q1 hz.1 hlen (PyProof.Rows.args_sorted1 _) (fun R E' hR => ?_) q
          refine PySem.W.kdu_collect (KdlSrc.rawDict (es := es) (ep := ep) d.sys) (I.ok.hd hc) (raw_at I.hok d.ex dt hp) (by omega) fun h' tk acc hk hacc => ?_
          exact hR h' tk _ hk (ents_vals en (by rw [Array.length_toList]; exact hacc.1) fun j u e => hacc.2 j u (by simpa using e))
        | _ => rw [hl] at ei; cases ei
      · exact q.elim
    · exact q.elim
  · exact q.elim
end
end Ov
namespace Ov
open PySem PySem.Spec PyProof.Rows L2
def turn2 (own : List Nat) (t : Tx) (ifs1 : Exb) (own2 : List Nat) (t2 : Tx) (k2 : IK) (its2 : Exs) (ifs : Exb) (e : Ex) (cl : CL) (σ : Sw) : W → Hw → R (List W) := fun x h =>
  (t cl x (wipeW σ own) h).calm.bind fun σ1 h1 => (ifs1 cl σ1 h1).calm.bind fun b h2 => if b then (src k2 its2 cl σ1 h2).calm.bind fun q h3 => compGo (fun h' => stands h3 h' q.1) (turn own2 t2 ifs e cl σ1) q.2 h3 else .ok [] h2
def fin2 (m : Bool) (acc ys : List W) (h : Hw) : R W := if Nat.blt (acc ++ ys).length most then made m h (.lst (acc ++ ys)) else .no
def xLc2 (m : Bool) (own : List Nat) (t : Tx) (k : IK) (its : Exs) (ifs1 : Exb) (own2 : List Nat) (t2 : Tx) (k2 : IK) (its2 : Exs) (ifs : Exb) (e : Ex) : Ex := fun cl σ h =>
  (src k its cl σ h).bind fun p h2 => (concatGo (fun h' => stands h2 h' p.1) (turn2 own t ifs1 own2 t2 k2 its2 ifs e cl σ) p.2 h2).calm.bind fun ys h3 => fin2 m [] ys h3
section
variable {X : Cx} {C : Cf} {cl : CL} {Wx : WX} {k k2 : IK} {its its2 : Exs} {own own2 : List Nat} {t t2 : Tx} {ifs ifs1 : Exb} {e : Ex} {m : Bool}
theorem kk_shift {m : Bool} {γ1 : Gh} {H1 : Hp} {Q : VK} {E : XK} {accw : List W} {w : W} {r : R (List W)} (p : PoE C γ1 H1 ((r.bind fun zs h => R.ok (w :: zs) h).calm.bind fun ys h3 => fin2 m accw ys h3) Q E) : PoE C γ1 H1 (r.calm.bind fun ys h3 => fin2 m (accw ++ [w]) ys h3) Q E := by
  cases r with
  | ok zs h =>
    have e : fin2 m (accw ++ [w]) zs h = fin2 m accw (w :: zs) h := by unfold fin2; rw [List.append_assoc]; rfl
    show PoE C γ1 H1 (fin2 m (accw ++ [w]) zs h) Q E
    rw [e]; exact p
  | exn _ _ _ => exact p
  | no => exact p
theorem kk_bound {m : Bool} {γ1 : Gh} {H1 : Hp} {Q : VK} {E : XK} {accw : List W} {r : R (List W)} (p : PoE C γ1 H1 (r.calm.bind fun ys h3 => fin2 m accw ys h3) Q E) : accw.length < most := by
  cases r with
  | ok zs h =>
    have p' : PoE C γ1 H1 (fin2 m accw zs h) Q E := p
    unfold fin2 at p'
    split at p'
    · rename_i z
      have := Nat.le_of_ble_eq_true z
      rw [List.length_append] at this
      omega
    · exact p'.elim
  | exn _ _ _ => exact p.elim
  | no => exact p.elim
theorem cc_some {r : R (List W)} {f : Hw → R (List W)} {w : W} : ((r.bind fun ys h2 => R.ok (w :: ys) h2).bind fun zs h => (f h).bind fun rest h3 => R.ok (zs ++ rest) h3) = (r.bind fun zs h => (f h).bind fun rest h3 => R.ok (zs ++ rest) h3).bind fun zs h => R.ok (w :: zs) h := by
  cases r with
  | ok ys h2 =>
    show ((f h2).bind fun rest h3 => R.ok (w :: ys ++ rest) h3) = ((f h2).bind fun rest h3 => R.ok (ys ++ rest) h3).bind fun zs h => R.ok (w :: zs) h
    cases f h2 <;> rfl
  | exn _ _ _ => rfl
  | no => rfl
theorem cc_none {r : R (List W)} {f : Hw → R (List W)} : ((r.bind fun ys h2 => R.ok ys h2).bind fun zs h => (f h).bind fun rest h3 => R.ok (zs ++ rest) h3) = r.bind fun zs h => (f h).bind fun rest h3 => R.ok (zs ++ rest) h3 := by
  cases r <;> rfl
theorem cc_nil {r : R (List W)} : (r.bind fun rest h3 => R.ok ([] ++ rest) h3) = r := by
  cases r <;> rfl
theorem lc2_sem {σ : L2.St} {H : Hp} {Q : VK} (tt : tev C cl Wx (xLc2 m own t k its ifs1 own2 t2 k2 its2 ifs e) σ H Q) :
    tLc2 (tit C cl Wx k its) (ttg' C cl own t) (tfs C cl WF ifs1) (tit C cl WF k2 its2) (ttg' C cl own2 t2) (tfs C cl WF ifs) (tev C cl WF e) own own2 σ H Q := by
  obtain ⟨γ0, σw, h, sl, hc, p⟩ := tt
  refine ⟨γ0, σw, h, sl, hc, ?_⟩
  unfold xLc2 at p
  cases es : src k its cl σw h with
  | no => rw [es] at p; exact p
  | exn c a h1 => rw [es] at p; exact p
  | ok pr h1 =>
    rw [es] at p
    obtain ⟨ws, xs⟩ := pr
    intro γ1 J H1 e1 k1 c1 wk D hD
    have p1 := PoE.step p e1 k1
    dsimp only [R.bind] at p1
    generalize hch : (fun h' => stands h1 h' ws) = chk at p1 wk
    clear hch p
    refine ⟨fun i n Hi => n = xs.length - i ∧ i ≤ xs.length ∧ ∃ γ hh acc accw, Bld γ1 H1 D γ Hi acc ∧ HC C γ hh Hi ∧ RWs C γ accw acc ∧
      PoE C γ1 H1 ((concatGo chk (turn2 own t ifs1 own2 t2 k2 its2 ifs e cl σw) (xs.drop i) hh).calm.bind fun ys h3 => fin2 m accw ys h3) Q (fun cls d H' => Wx cls d σ H'), ⟨xs.length, rfl, Nat.zero_le _, γ1.add D, h1, [], [], Bld.start hD, c1.add hD, rfl, p1⟩, ?_⟩
    rintro i n Hi ⟨rfl, hi, γ, hh, acc, accw, bd, hcc, ra, pp⟩
    by_cases hlt : i < xs.length
    · right
      rw [List.drop_eq_getElem_cons hlt] at pp
      unfold concatGo at pp
      cases hk : chk hh with
      | false => rw [hk] at pp; exact pp.elim
      | true =>
        rw [hk] at pp
        dsimp only at pp
        refine ⟨wk.goes γ hh Hi i bd.mor hcc hk hlt, fun H' => ∃ γ hh acc accw, Bld γ1 H1 D γ H' acc ∧ HC C γ hh H' ∧ RWs C γ accw acc ∧
          PoE C γ1 H1 ((concatGo chk (turn2 own t ifs1 own2 t2 k2 its2 ifs e cl σw) (xs.drop (i + 1)) hh).calm.bind fun ys h3 => fin2 m accw ys h3) Q (fun cls d H' => Wx cls d σ H'), fun H' p' => ⟨xs.length - (i + 1), by omega, rfl, hlt, p'⟩, fun x H' y => ?_⟩
        obtain ⟨γ2, e2, k2', c2, r2⟩ := wk.yields γ hh Hi i xs[i] x H' bd.mor hcc hk (by simp [hlt]) y
        have b2 := bd.step hcc e2 k2'
        refine ⟨γ2, wipeW σw own, hh, xs[i], (((sl.ext e1).wipe own) |> b2.mor.sl), c2, r2, ?_⟩
        generalize hG : concatGo chk (turn2 own t ifs1 own2 t2 k2 its2 ifs e cl σw) (xs.drop (i + 1)) = G at pp ⊢
        unfold turn2 at pp
        cases et : t cl xs[i] (wipeW σw own) hh with
        | no => rw [et] at pp; exact pp.elim
        | exn c a h2 => rw [et] at pp; exact pp.elim
        | ok σ1 h2 =>
          rw [et] at pp
          dsimp only [R.calm, R.bind] at pp
          intro γ3 σ3 H3 e3 k3 c3 s3 w3
          have b3 := b2.step c2 e3 k3
          refine ⟨w3.trans (wipe_idem _ _), γ3, σ1, h2, s3, c3, ?_⟩
          cases ei : ifs1 cl σ1 h2 with
          | no => rw [ei] at pp; exact pp.elim
          | exn c a h2 => rw [ei] at pp; exact pp.elim
          | ok b h4 =>
            rw [ei] at pp
            dsimp only [R.calm, R.bind] at pp
            intro γ4 H4 e4 k4 c4
            have b4 := b3.step c3 e4 k4
            have r4 := (e4.rws (e3.rws (e2.rws ra)))
            cases b with
            | false =>
              rw [if_neg (by decide)]
              refine ⟨γ4, h4, acc, accw, b4, c4, r4, ?_⟩
              have pp' : PoE C γ1 H1 (((G h4).bind fun rest h3 => R.ok ([] ++ rest) h3).calm.bind fun ys h3 => fin2 m accw ys h3) Q (fun cls d H' => Wx cls d σ H') := pp
              rw [cc_nil] at pp'
              exact pp'
            | true =>
              rw [if_pos rfl]
              refine ⟨γ4, σ1, h4, s3.ext e4, c4, ?_⟩
              simp only [if_true] at pp
              cases es2 : src k2 its2 cl σ1 h4 with
              | no => rw [es2] at pp; exact pp.elim
              | exn c a h2 => rw [es2] at pp; exact pp.elim
              | ok pr2 h5 =>
                obtain ⟨ws2, xs2⟩ := pr2
                rw [es2] at pp
                intro γ5 J1 H5 e5 k5 c5 wk2
                have b5 := b4.step c4 e5 k5
                have r5 := e5.rws r4
                have pp2 : PoE C γ1 H1 (((compGo (fun h' => stands h5 h' ws2) (turn own2 t2 ifs e cl σ1) xs2 h5).bind fun zs h => (G h).bind fun rest h3 => R.ok (zs ++ rest) h3).calm.bind fun ys h3 => fin2 m accw ys h3) Q (fun cls d H' => Wx cls d σ H') := pp
                generalize hch : (fun h' => stands h5 h' ws2) = chk2 at pp2 wk2
                clear hch pp
                refine ⟨fun j n Hj => n = xs2.length - j ∧ j ≤ xs2.length ∧ ∃ γ hh acc accw, Bld γ1 H1 D γ Hj acc ∧ Mor γ5 γ ∧ HC C γ hh Hj ∧ RWs C γ accw acc ∧
                  PoE C γ1 H1 (((compGo chk2 (turn own2 t2 ifs e cl σ1) (xs2.drop j) hh).bind fun zs h => (G h).bind fun rest h3 => R.ok (zs ++ rest) h3).calm.bind fun ys h3 => fin2 m accw ys h3) Q (fun cls d H' => Wx cls d σ H'),
                  ⟨xs2.length, rfl, Nat.zero_le _, γ5, h5, acc, accw, b5, Mor.refl _, c5, r5, pp2⟩, ?_⟩
                rintro j n Hj ⟨rfl, hj, γj, hhj, accj, accwj, bj, mj, cj, rj, pj⟩
                by_cases hlt2 : j < xs2.length
                · right
                  rw [List.drop_eq_getElem_cons hlt2] at pj
                  unfold compGo at pj
                  cases hk2 : chk2 hhj with
                  | false => rw [hk2] at pj; exact pj.elim
                  | true =>
                    rw [hk2] at pj
                    dsimp only at pj
                    refine ⟨wk2.goes γj hhj Hj j mj cj hk2 hlt2, fun H' => ∃ γ hh acc accw, Bld γ1 H1 D γ H' acc ∧ Mor γ5 γ ∧ HC C γ hh H' ∧ RWs C γ accw acc ∧
                      PoE C γ1 H1 (((compGo chk2 (turn own2 t2 ifs e cl σ1) (xs2.drop (j + 1)) hh).bind fun zs h => (G h).bind fun rest h3 => R.ok (zs ++ rest) h3).calm.bind fun ys h3 => fin2 m accw ys h3) Q (fun cls d H' => Wx cls d σ H'),
                      fun H' p' => ⟨xs2.length - (j + 1), by omega, rfl, hlt2, p'⟩, fun x2 H' y2 => ?_⟩
                    obtain ⟨γ6, e6, k6, c6, r6⟩ := wk2.yields γj hhj Hj j xs2[j] x2 H' mj cj hk2 (by simp [hlt2]) y2
                    have b6 := bj.step cj e6 k6
                    refine ⟨γ6, wipeW σ1 own2, hhj, xs2[j], ((((s3.ext e4).ext e5).wipe own2) |> (mj.trans e6.mor).sl), c6, r6, ?_⟩
                    unfold turn at pj
                    cases et2 : t2 cl xs2[j] (wipeW σ1 own2) hhj with
                    | no => rw [et2] at pj; exact pj.elim
                    | exn c a h2 => rw [et2] at pj; exact pj.elim
                    | ok σ7 h7 =>
                      rw [et2] at pj
                      dsimp only [R.calm, R.bind] at pj
                      intro γ7 σ7' H7 e7 k7 c7 s7 w7
                      have b7 := b6.step c6 e7 k7
                      refine ⟨w7.trans (wipe_idem _ _), γ7, σ7, h7, s7, c7, ?_⟩
                      cases ei2 : ifs cl σ7 h7 with
                      | no => rw [ei2] at pj; exact pj.elim
                      | exn c a h2 => rw [ei2] at pj; exact pj.elim
                      | ok b2' h8 =>
                        rw [ei2] at pj
                        dsimp only [R.calm, R.bind] at pj
                        intro γ8 H8 e8 k8 c8
                        have b8 := b7.step c7 e8 k8
                        have r8 := e8.rws (e7.rws (e6.rws rj))
                        have m8 := ((mj.trans e6.mor).trans e7.mor).trans e8.mor
                        cases b2' with
                        | false =>
                          rw [if_neg (by decide)]
                          refine ⟨γ8, h8, accj, accwj, b8, m8, c8, r8, ?_⟩
                          have pj' : PoE C γ1 H1 ((((compGo chk2 (turn own2 t2 ifs e cl σ1) (xs2.drop (j + 1)) h8).bind fun ys h2 => R.ok ys h2).bind fun zs h => (G h).bind fun rest h3 => R.ok (zs ++ rest) h3).calm.bind fun ys h3 => fin2 m accwj ys h3) Q (fun cls d H' => Wx cls d σ H') := pj
                          rw [cc_none] at pj'
                          exact pj'
                        | true =>
                          rw [if_pos rfl]
                          refine ⟨γ8, σ7, h8, s7.ext e8, c8, ?_⟩
                          simp only [if_true] at pj
                          cases ee : e cl σ7 h8 with
                          | no => rw [ee] at pj; exact pj.elim
                          | exn c a h2 => rw [ee] at pj; exact pj.elim
                          | ok w h9 =>
                            rw [ee] at pj
                            dsimp only [R.calm, R.bind] at pj
                            intro γ9 v H9 e9 k9 c9 r9
                            have b9 := b8.step c8 e9 k9
                            have pj' : PoE C γ1 H1 ((((compGo chk2 (turn own2 t2 ifs e cl σ1) (xs2.drop (j + 1)) h9).bind fun ys h2 => R.ok (w :: ys) h2).bind fun zs h => (G h).bind fun rest h3 => R.ok (zs ++ rest) h3).calm.bind fun ys h3 => fin2 m accwj ys h3) Q (fun cls d H' => Wx cls d σ H') := pj
                            have lt' : accj.length < sizeLine := by
                              rw [← rj.length]
                              exact most_line (Nat.ble_eq_true_of_le (kk_bound pj'))
                            rw [cc_some] at pj'
                            exact ⟨accj, b9.d, lt', γ9, h9, accj ++ [v], accwj ++ [w], b9.write hD, m8.trans e9.mor, c9.write b9.pD, (e9.rws r8).append (RWs.cons r9 RWs.nil), kk_shift pj'⟩
                · left
                  have e : j = xs2.length := by omega
                  subst e
                  rw [List.drop_length] at pj
                  unfold compGo at pj
                  cases hk2 : chk2 hhj with
                  | false => rw [hk2] at pj; exact pj.elim
                  | true =>
                    rw [hk2] at pj
                    have pj' : PoE C γ1 H1 (((G hhj).bind fun rest h3 => R.ok ([] ++ rest) h3).calm.bind fun ys h3 => fin2 m accwj ys h3) Q (fun cls d H' => Wx cls d σ H') := pj
                    rw [cc_nil] at pj'
                    exact ⟨wk2.stops γj hhj Hj mj cj hk2, γj, hhj, accj, accwj, bj, cj, rj, pj'⟩
    · left
      have e : i = xs.length := by omega
      subst e
      rw [List.drop_length] at pp
      unfold concatGo at pp
      cases hk : chk hh with
      | false => rw [hk] at pp; exact pp.elim
      | true =>
        rw [hk] at pp
        have pp' : PoE C γ1 H1 (fin2 m accw [] hh) Q (fun cls d H' => Wx cls d σ H') := pp
        unfold fin2 at pp'
        rw [List.append_nil] at pp'
        split at pp'
        · exact ⟨wk.stops γ hh Hi bd.mor hcc hk, bd.done hD c1 hcc ra pp'⟩
        · exact pp'.elim
theorem pv_lc2 {elt tg iter tg1 iter1 : Expr} {ifs ifs1 : List Expr} {scope : Scope} {own : List (Str × Nat)} {vs1 : List Nat} {pos : Pos} {xi xi1 : Exb} {xe : Ex} (hc : X.calm = true) (hN : X.N.Nodup) (hi : PI X tg iter (tit C cl Wx k its)) (ok : BlkOk X.N X.env.scope scope own) (hv : ∀ i ∈ vs1, i ∈ own.map (·.2))
    (hg : ∀ (s : Shared) (H : Hp) (C' : Addr) (cls : List (Str × Addr)) (fp : List Addr), PG (X.blk s H scope (compEnvC scope cls C' X.env) fp) tg (ttg' C cl (own.map (·.2)) t)) (ht : ∀ (s : Shared) (H : Hp) (C' : Addr) (cls : List (Str × Addr)) (fp : List Addr), PTs (X.blk s H scope (compEnvC scope cls C' X.env) fp) ifs (tfs C cl WF xi1))
    (hi1 : ∀ (s : Shared) (H : Hp) (C' : Addr) (cls : List (Str × Addr)) (fp : List Addr), PI (X.blk s H scope (compEnvC scope cls C' X.env) fp) tg1 iter1 (tit C cl WF k2 its2))
    (hg1 : ∀ (s : Shared) (H : Hp) (C' : Addr) (cls : List (Str × Addr)) (fp : List Addr), PG (X.blk s H scope (compEnvC scope cls C' X.env) fp) tg1 (ttg' C cl vs1 t2)) (ht1 : ∀ (s : Shared) (H : Hp) (C' : Addr) (cls : List (Str × Addr)) (fp : List Addr), PTs (X.blk s H scope (compEnvC scope cls C' X.env) fp) ifs1 (tfs C cl WF xi))
    (he : ∀ (s : Shared) (H : Hp) (C' : Addr) (cls : List (Str × Addr)) (fp : List Addr), PE (X.blk s H scope (compEnvC scope cls C' X.env) fp) elt (tev C cl WF xe)) (hs : ∀ x, foldedSetIterable iter X.env x = pure x) (hs1 : ∀ env x, foldedSetIterable iter1 env x = pure x) :
    PE X (.ListComp elt [⟨tg, iter, ifs, 0⟩, ⟨tg1, iter1, ifs1, 0⟩] scope pos) (tev C cl Wx (xLc2 m (own.map (·.2)) t k its xi1 vs1 t2 k2 its2 xi xe)) :=
  PE.imp (pe_lc2 hc hN hi ok hv hg ht hi1 hg1 ht1 he hs hs1) fun σ H Q q => lc2_sem q
theorem psv_setLc2 {i : Nat} {y : Str} {py : Pos} {elt tg iter tg1 iter1 : Expr} {ifs ifs1 : List Expr} {scope : Scope} {own : List (Str × Nat)} {vs1 : List Nat} {pos spos : Pos} {xi xi1 : Exb} {xe : Ex} (hc : X.calm = true) (hN : X.N.Nodup) (hy : X.N[i]? = some y) (hyl : X.env.scope.names.lookup y = some .local)
    (hsw : swapsWith (.ListComp elt [⟨tg, iter, ifs, 0⟩, ⟨tg1, iter1, ifs1, 0⟩] scope pos) (some (.Name y py)) spos.line X.env = pure true) (hi : PI X tg iter (tit C cl Wx k its)) (ok : BlkOk X.N X.env.scope scope own) (hv : ∀ i ∈ vs1, i ∈ own.map (·.2))
    (hg : ∀ (s : Shared) (H : Hp) (C' : Addr) (cls : List (Str × Addr)) (fp : List Addr), PG (X.blk s H scope (compEnvC scope cls C' X.env) fp) tg (ttg' C cl (own.map (·.2)) t)) (ht : ∀ (s : Shared) (H : Hp) (C' : Addr) (cls : List (Str × Addr)) (fp : List Addr), PTs (X.blk s H scope (compEnvC scope cls C' X.env) fp) ifs (tfs C cl WF xi1))
    (hi1 : ∀ (s : Shared) (H : Hp) (C' : Addr) (cls : List (Str × Addr)) (fp : List Addr), PI (X.blk s H scope (compEnvC scope cls C' X.env) fp) tg1 iter1 (tit C cl WF k2 its2))
    (hg1 : ∀ (s : Shared) (H : Hp) (C' : Addr) (cls : List (Str × Addr)) (fp : List Addr), PG (X.blk s H scope (compEnvC scope cls C' X.env) fp) tg1 (ttg' C cl vs1 t2)) (ht1 : ∀ (s : Shared) (H : Hp) (C' : Addr) (cls : List (Str × Addr)) (fp : List Addr), PTs (X.blk s H scope (compEnvC scope cls C' X.env) fp) ifs1 (tfs C cl WF xi))
    (he : ∀ (s : Shared) (H : Hp) (C' : Addr) (cls : List (Str × Addr)) (fp : List Addr), PE (X.blk s H scope (compEnvC scope cls C' X.env) fp) elt (tev C cl WF xe)) (hs : ∀ x, foldedSetIterable iter X.env x = pure x) (hs1 : ∀ env x, foldedSetIterable iter1 env x = pure x) :
    PS X (.Assign [.Name y py] (.ListComp elt [⟨tg, iter, ifs, 0⟩, ⟨tg1, iter1, ifs1, 0⟩] scope pos) spos) (tst C cl Wx (sAsg (tName i) (xLc2 m (own.map (·.2)) t k its xi1 vs1 t2 k2 its2 xi xe))) :=
  PS.imp (ps_setLc2 hc hN hy hyl hsw hi ok hv hg ht hi1 hg1 ht1 he hs hs1) fun D σ H q => by
    have z : tAsg (tev C cl Wx (xLc2 m (own.map (·.2)) t k its xi1 vs1 t2 k2 its2 xi xe)) (ttg' C cl [i] (tName i)) D σ H := asg_sem q
    exact lc2_sem (tev.imp z fun v H' y => gname_of y)
theorem psv_setDc {i : Nat} {y : Str} {py : Pos} {kx vx tg iter : Expr} {ifs : List Expr} {scope : Scope} {own : List (Str × Nat)} {pos spos : Pos} {xi : Exb} {xe v : Ex} (hW : C.w = X.w) (hu : X.A.units + 9 < cLine) (hc : X.calm = true) (hN : X.N.Nodup) (hy : X.N[i]? = some y) (hyl : X.env.scope.names.lookup y = some .local)
    (hsw : swapsWith (.DictComp kx vx [⟨tg, iter, ifs, 0⟩] scope pos) (some (.Name y py)) spos.line X.env = pure true) (hi : PI X tg iter (tit C cl Wx k its)) (ok : BlkOk X.N X.env.scope scope own)
    (hg : ∀ (s : Shared) (H : Hp) (B : Addr) (cls : List (Str × Addr)) (fp : List Addr), PG (X.blk s H scope (compEnvC scope cls B X.env) fp) tg (ttg' C cl (own.map (·.2)) t)) (ht : ∀ (s : Shared) (H : Hp) (B : Addr) (cls : List (Str × Addr)) (fp : List Addr), PTs (X.blk s H scope (compEnvC scope cls B X.env) fp) ifs (tfs C cl WF xi))
    (hk : ∀ (s : Shared) (H : Hp) (B : Addr) (cls : List (Str × Addr)) (fp : List Addr), PE (X.blk s H scope (compEnvC scope cls B X.env) fp) kx (tev C cl WF xe))
    (he : ∀ (s : Shared) (H : Hp) (B : Addr) (cls : List (Str × Addr)) (fp : List Addr), PE (X.blk s H scope (compEnvC scope cls B X.env) fp) vx (tev C cl WF v)) (hs : ∀ x, foldedSetIterable iter X.env x = pure x) :
    PS X (.Assign [.Name y py] (.DictComp kx vx [⟨tg, iter, ifs, 0⟩] scope pos) spos) (tst C cl Wx (sAsg (tName i) (xDcomp m (own.map (·.2)) t k its xi xe v))) := by
  refine ⟨fun pins s σ H D I hh => ?_⟩
  have h : tDcW C (tit C cl Wx k its) (ttg' C cl (own.map (·.2)) t) (tfs C cl WF xi) (tev C cl WF xe) (tev C cl WF v) (own.map (·.2)) σ H (fun x H1 => gName i x σ H1 D.nx) := by
    have z : tAsg (tev C cl Wx (xDcomp m (own.map (·.2)) t k its xi xe v)) (ttg' C cl [i] (tName i)) D σ H := asg_sem hh
    exact dc_sem (tev.imp z fun v H' y => gname_of y)
  rw [exec_Assign_Name_used _ _ _ _ hsw]
  refine wpAny_bind (wpAny_standAt (wpAny_bind ?_))
  show wpAny _ X.A (do let _ ← comprehension (.DictComp kx vx [⟨tg, iter, ifs, 0⟩] scope pos) scope X.env (firstIterPos [⟨tg, iter, ifs, 0⟩] pos) newDict false (eval iter X.env) (some (assign (.Name y py) X.env))) _ _ s
  refine wpAny_bind (thn (dc_all (Qf := fun _ s' => SP X pins D .next s') hW hu hc hN I hi ok hg ht hk he hs h fun L B s' m H' I' q hn f => ?_) fun _ s' hq => wpAny_pure (wpAny_pure hq))
  show wpAny _ _ (assign (.Name y py) X.env (.ref L)) _ _ _
  refine wpAny_assign_Name (store_ok2 (v := V.ref L) I' hN hy (.inl hyl) rfl (fun s2 I2 ⟨a, sb, ha⟩ => ?_) (.inr hyl))
  obtain ⟨f0, f1, f2, f3, f4, f5⟩ := f
  have haC : B ≠ a := by
    rcases ha with z | z
    · rw [z]; exact f1
    · exact fun e => f4 y a z e.symm
  refine ⟨m, hn.sameBut sb haC, fun h3 sb3 => ?_⟩
  exact ⟨_, H', I2.turned (t' := s2.toks) (fun b o hb e => (sb3.2 b hb).trans e) f0 f1 f3 f4 f5, q⟩
end
end Ov
namespace Ov
open PySem PySem.Spec PyProof.Rows L2
def augN (x y : W) (h : Hw) : R W :=
  match x, y with
  | .int i, .int j => .ok (.int (i + j)) h
  | .ref n, y => (match h[n]?, look h y with
    | some (.lst xs), .lst ys => if Nat.blt (xs.length + ys.length) most then .ok (.ref n) (h.set n (.lst (xs ++ ys))) else .no
    | _, _ => .no)
  | _, _ => .no
def sAugN (i : Nat) (e : Ex) : Sx := fun cl σ h => match σ[i]? with
  | some (some x) => (e cl σ h).st σ fun y h1 => (augN x y h1).calm.st σ fun z h2 => .ok (.nx (σ.set i (some z))) h2
  | _ => .no
section
variable {X : Cx} {C : Cf} {cl : CL} {Wx : WX}
def ipW (C : Cf) : TIp := fun x y H Q => ∃ γ h wx wy, HC C γ h H ∧ RW C γ wx x ∧ RW C γ wy y ∧ match augN wx wy h with
  | .ok z h' => ∀ v H', Keep γ H H' → HC C γ h' H' → RW C γ z v → Q v H'
  | _ => False
theorem ip_W : PIp X .Add (ipW C) := by
  intro pins s σ H x y v u Q I rx ry ⟨γ, h, wx, wy, c, r1, r2, q⟩
  unfold augN at q
  split at q
  case h_2 => exact q.elim
  rename_i z h' e
  split at e
  · cases e
    cases r1; cases r2
    exact ip_add pins s σ H _ _ v u Q I rx ry ⟨_, _, rfl, rfl, q _ H (Keep.refl _ _) c rfl⟩
  · rename_i n y
    split at e
    · rename_i xs ys hn hl
      split at e
      · rename_i hz
        cases e
        obtain ⟨a, rfl, i⟩ := r1
        obtain ⟨b, bs, rfl, q1, q2⟩ := look_lst c r2 hl
        obtain ⟨fa, zs, ha, rys⟩ := c.cell _ a _ i hn
        obtain ⟨k, c'⟩ := c.setL i hn (rys.append q2)
        have hz' := most_line hz
        rw [rys.length, q2.length] at hz'
        cases rx; cases ry
        obtain ⟨z, its, nn, rr, hll, e⟩ := I.lstM ha
        obtain ⟨z2, its2, n2, rr2, hl2, e2⟩ := Ov.Inv.lstR I q1
        have hsz : its.toArray.size + its2.toArray.size ≤ sizeLine := by rw [List.size_toArray, List.size_toArray]; omega
        have hlong : ¬ (!its.toArray.isEmpty && Builtin.List.listTooLong (its.toArray.size + its2.toArray.size)) = true := by
          rw [notLongL hsz, Bool.and_false]
          exact Bool.false_ne_true
        refine iadd_road ⟨_, e, rfl⟩ ⟨_, e2, rfl⟩ (call_meets PySem.F.slot_list_iadd ⟨_, e, rfl⟩ PySem.F.entry_list_iadd (PySem.F.args_list_iadd_2 _ _)
          (PySem.AutoSeq1.list___iadd___list_list_0 a its.toArray nn b its2.toArray n2 hlong (by rw [List.size_toArray]; omega) (by omega)) ⟨e, e2, ?_⟩)
        refine ⟨.ref a, _, I.lset (its' := its ++ its2) (t' := s.toks) ha e (by simp) (rr.append rr2) ?_, rfl, q _ _ k c' ⟨a, rfl, i⟩⟩
        rw [List.length_append]
        omega
      · cases e
    · cases e
  · cases e
theorem psv_augN {i : Nat} {x : Str} {e : Expr} {xe : Ex} {pos pos' : Pos} (hN : X.N.Nodup) (hi : X.N[i]? = some x) (hx : Loc X.env.scope x) (he : PE X e (tev C cl Wx xe)) (hf : X.fn x = true ∨ X.env.scope.names.lookup x = some .local) :
    PS X (.AugAssign (.Name x pos') .Add e pos) (tst C cl Wx (sAugN i xe)) := PS.imp (ps_aug hN hi hx he ip_W hf) fun D σ H tt => by
  obtain ⟨γ, σw, h, sl, hc, p⟩ := tt
  unfold sAugN at p
  split at p
  · rename_i wx hs
    obtain ⟨x, hx, rx⟩ := sl.2 i wx hs
    refine ⟨x, hx, γ, σw, h, sl, hc, ?_⟩
    rcases st_cases sl p with ⟨w, h1, ea, q⟩ | ⟨cc, aa, h1, ea, q⟩
    · rw [ea]
      intro γ1 y H1 e1 k1 c1 r1
      have q1 := PoS.step q e1 k1
      refine ⟨γ1, h1, wx, w, c1, e1.rw rx, r1, ?_⟩
      cases eg : augN wx w h1 with
      | no => rw [eg] at q1; exact q1.elim
      | exn _ _ _ => rw [eg] at q1; exact q1.elim
      | ok z h2 =>
        rw [eg] at q1
        exact fun v H' k c r => q1 γ1 _ H' (Ext.refl _ _) k c ((sl.ext e1).set r)
    · rw [ea]; exact q
  · exact p.elim
end
end Ov
namespace Ov
open PySem PySem.Spec PyProof.Rows L2
def xCat (a b : Ex) : Ex := fun cl σ h => (a cl σ h).bind fun x h1 => (b cl σ h1).bind fun y h2 => match look h2 x, look h2 y with
  | .lst s, .lst t => if Nat.blt (s.length + t.length) most then made true h2 (.lst (s ++ t)) else .no
  | _, _ => .no
def gCat : W → W → Hw → R W := fun x y h2 => match look h2 x, look h2 y with
  | .lst s, .lst t => if Nat.blt (s.length + t.length) most then made true h2 (.lst (s ++ t)) else .no
  | _, _ => .no
section
variable {X : Cx} {C : Cf} {cl : CL} {k : Nat} {Wx : WX} {a b e : Expr} {es : List Expr} {xa xb xe : Ex} {xs : Exs} {pos p p2 : Pos}
theorem Rk.hu9 (R : Rk X C) : X.A.units + 9 < cLine := by have := R.hu; omega
theorem pv_cat (ha : PE X a (tev C cl Wx xa)) (hb : PE X b (tev C cl Wx xb)) : PE X (.BinOp a .Add b pos) (tev C cl Wx (xCat xa xb)) := by
  have op : OpR X (binaryOp .Add) (fun x y H Q => ∃ E, rf2 C gCat E x y H Q) := by
    intro pins s σ H x y v u Q I rx ry ⟨E, γ, h, w1, w2, c, r1, r2, q⟩
    unfold gCat at q
    split at q
    · rename_i s1 t1 e1 e2
      split at q
      · rename_i hz
        obtain ⟨l, xs, rfl, q1, p1⟩ := look_lst c r1 e1
        obtain ⟨b, zs, rfl, q2, p2⟩ := look_lst c r2 e2
        have hz' := most_line hz
        rw [p1.length, p2.length] at hz'
        exact op_catL pins s σ H _ _ v u Q I rx ry ⟨l, b, xs, zs, rfl, rfl, q1, q2, Nat.le_of_lt hz', fun p n => PoE.lstMade (m := true) q c (p1.append p2) n⟩
      · exact q.elim
    · exact q.elim
  exact PE.imp (pe_op op ha hb) fun σ H Q t => (tev2 (f := gCat) t).imp fun x H1 q => q.imp fun y H2 z => ⟨_, z⟩
theorem q_M0 (R : Rk X C) {kd : Kd} {g : Gm} {name : Str} {id : String} {apos : Pos} (pa : PlainAttrs (kdT kd)) (slot : Slot (kdT kd) name id) (hty : typeOf (.builtin id) = pure (.type "method_descriptor")) (hm : MtR X id (rM C g)) (ho : PE X a (tev C cl Wx xa))
    (hbase : attributeBase a name X.env (eval a X.env) = eval a X.env := by rfl) (hline : (apos.endLine == pos.line) = true := by rfl) :
    PE X (.Call (.Attribute a name apos) [] [] pos) (tev C cl Wx (xM kd g xa xsNil)) := pv_M0 R.K pa slot hty hm ho hbase hline
theorem q_pd (R : Rm X C k Wx) {kx vx : Expr} {ks : List (Option Expr)} {vs : List Expr} {xd : Exd} (ha : PE X kx (tev C cl Wx xa)) (hb : PE X vx (tev C cl Wx xb)) (hr : PD X C cl pos ks vs xd) : PD X C cl pos (some kx :: ks) (vx :: vs) (xdCons xa xb xd) := pd_cons ha hb hr
theorem q_disp (R : Rk X C) {m : Bool} {keys : List (Option Expr)} {values : List Expr} {xd : Exd} (pd : PD X C cl pos keys values xd) (hall : keys.all (·.isSome) = true := by rfl) (hl : keys.length = values.length := by rfl) (h0 : keys ≠ [] := by simp) (h15 : keys.length ≤ 15 := by decide) :
    PE X (.Dict keys values pos) (tev C cl Wx (xDisp m xd)) := pv_disp R.W R.hu9 pd hall hl h0 h15
theorem q_items {elts : List Expr} {kk : Nat} {tpos apos : Pos} (ha : PE X e (tev C cl Wx xe)) (hbase : attributeBase e "items" X.env (eval e X.env) = eval e X.env := by rfl) (hline : (apos.endLine == pos.line) = true := by rfl) :
    PI X (.Tuple elts kk tpos) (.Call (.Attribute e "items" apos) [] [] pos) (tit C cl Wx .items (xsCons xe xsNil)) := piv_items ha hbase hline
theorem q_values {tg : Expr} {apos : Pos} (ha : PE X e (tev C cl Wx xe)) (hbase : attributeBase e "values" X.env (eval e X.env) = eval e X.env := by rfl) (hline : (apos.endLine == pos.line) = true := by rfl) :
    PI X tg (.Call (.Attribute e "values" apos) [] [] pos) (tit C cl Wx .values (xsCons xe xsNil)) := piv_values ha hbase hline
theorem q_rng3 {tg a b c : Expr} {xa xb xc : Ex} (hm : X.mg "range" = none) (ha : PE X a (tev C cl Wx xa)) (hb : PE X b (tev C cl Wx xb)) (hc : PE X c (tev C cl Wx xc)) (hg : Gl X "range" := by rfl)
    (hs : starEach [a, b, c] X.env = (false, eval a X.env) :: starEach [b, c] X.env := by rfl) (hs2 : starEach [b, c] X.env = (false, eval b X.env) :: starEach [c] X.env := by rfl) (hs3 : starEach [c] X.env = (false, eval c X.env) :: starEach [] X.env := by rfl) (hpl : (backTo pos (starEach [b, c] X.env)).any (·.1) = false := by rfl) :
    PI X tg (.Call (.Name "range" p) [a, b, c] [] pos) (tit C cl Wx .range3 (xsCons xa (xsCons xb (xsCons xc xsNil)))) := piv_range3 hg hm (pas_cons ha (pas_cons hb (pas_cons hc pas_nil hs3) hs2) hs) hs hpl
theorem q_par3 (i j l : Nat) {a b c : Expr} {x y z : Str} {px py pz pt : Pos} {kt k2 pt2} (hN : X.N.Nodup) (ha : PA X [a, b, c] (tes C cl Wx xs)) (hij : i ≠ j := by decide) (hil : i ≠ l := by decide) (hjl : j ≠ l := by decide) (hi : X.N[i]? = some x := by rfl) (hj : X.N[j]? = some y := by rfl) (hl : X.N[l]? = some z := by rfl)
    (hx : X.env.scope.names.lookup x = some .local := by rfl) (hy : X.env.scope.names.lookup y = some .local := by rfl) (hz : X.env.scope.names.lookup z = some .local := by rfl)
    (hw : swappedStores [.Tuple [.Name x px, .Name y py, .Name z pz] kt pt] (.Tuple [a, b, c] k2 pt2) X.env = pure (some [x, y, z]) := by rfl)
    (hs : swapsWithSole [.Tuple [.Name x px, .Name y py, .Name z pz] kt pt] (.Tuple [a, b, c] k2 pt2) pos.line X.env = pure false := by rfl) (hcm : X.calm = true := by rfl) :
    PS X (.Assign [.Tuple [.Name x px, .Name y py, .Name z pz] kt pt] (.Tuple [a, b, c] k2 pt2) pos) (tst C cl Wx (sPar3 i j l xs)) := psv_par3 hcm hN hi hj hl hij hil hjl hx hy hz ha hw hs
theorem q_listV {apos cpos : Pos} {m : Bool} (hm : X.mg "list" = none) (ha : PE X e (tev C cl Wx xe)) (hc : X.calm = true := by rfl) (hg : Gl X "list" := by rfl) (hbase : attributeBase e "values" X.env (eval e X.env) = eval e X.env := by rfl) (hline : (apos.endLine == cpos.line) = true := by rfl)
    (he : starEach [.Call (.Attribute e "values" apos) [] [] cpos] X.env = (false, eval (.Call (.Attribute e "values" apos) [] [] cpos) X.env) :: starEach [] X.env := by rfl) (hpl : (backTo pos (starEach [] X.env)).any (·.1) = false := by rfl) :
    PE X (.Call (.Name "list" p2) [.Call (.Attribute e "values" apos) [] [] cpos] [] pos) (tev C cl Wx (xF (gListV m) (xsCons xe xsNil))) := pv_listV hc hg hm ha hbase hline he hpl
theorem q_aug (i : Nat) {x : Str} (hN : X.N.Nodup) (he : PE X e (tev C cl Wx xe)) (hi : X.N[i]? = some x := by rfl) (hx : Loc X.env.scope x := by first | exact Or.inl rfl | exact Or.inr rfl) (hf : X.fn x = true ∨ X.env.scope.names.lookup x = some .local := by first | exact .inl rfl | exact .inr rfl) :
    PS X (.AugAssign (.Name x p) .Add e pos) (tst C cl Wx (sAugN i xe)) := psv_augN hN hi hx he hf
variable {elt tg iter tg1 iter1 kx vx : Expr} {ifs ifs1 : List Expr} {scope : Scope} {ik ik2 : IK} {its its2 : Exs} {t t2 : Tx} {xi xi1 : Exb} {xv : Ex} {m : Bool}
theorem q_lc2 (R : Rm X C k Wx) (own : List (Str × Nat)) (vs1 : List Nat) (hN : X.N.Nodup) (hi : PI X tg iter (tit C cl Wx ik its))
    (hg : ∀ (s : Shared) (H : Hp) (C' : Addr) (cls : List (Str × Addr)) (fp : List Addr), Rm (X.blk s H scope (compEnvC scope cls C' X.env) fp) C k WF → PG (X.blk s H scope (compEnvC scope cls C' X.env) fp) tg (ttg' C cl (own.map (·.2)) t)) (ht : ∀ (s : Shared) (H : Hp) (C' : Addr) (cls : List (Str × Addr)) (fp : List Addr), Rm (X.blk s H scope (compEnvC scope cls C' X.env) fp) C k WF → PTs (X.blk s H scope (compEnvC scope cls C' X.env) fp) ifs (tfs C cl WF xi1))
    (hi1 : ∀ (s : Shared) (H : Hp) (C' : Addr) (cls : List (Str × Addr)) (fp : List Addr), Rm (X.blk s H scope (compEnvC scope cls C' X.env) fp) C k WF → PI (X.blk s H scope (compEnvC scope cls C' X.env) fp) tg1 iter1 (tit C cl WF ik2 its2))
    (hg1 : ∀ (s : Shared) (H : Hp) (C' : Addr) (cls : List (Str × Addr)) (fp : List Addr), Rm (X.blk s H scope (compEnvC scope cls C' X.env) fp) C k WF → PG (X.blk s H scope (compEnvC scope cls C' X.env) fp) tg1 (ttg' C cl vs1 t2)) (ht1 : ∀ (s : Shared) (H : Hp) (C' : Addr) (cls : List (Str × Addr)) (fp : List Addr), Rm (X.blk s H scope (compEnvC scope cls C' X.env) fp) C k WF → PTs (X.blk s H scope (compEnvC scope cls C' X.env) fp) ifs1 (tfs C cl WF xi))
    (he : ∀ (s : Shared) (H : Hp) (C' : Addr) (cls : List (Str × Addr)) (fp : List Addr), Rm (X.blk s H scope (compEnvC scope cls C' X.env) fp) C k WF → PE (X.blk s H scope (compEnvC scope cls C' X.env) fp) elt (tev C cl WF xe)) (ok : blkC X.N X.env.scope scope own = true := by rfl) (hv : ∀ i ∈ vs1, i ∈ own.map (·.2) := by decide) (hs : ∀ x, foldedSetIterable iter X.env x = pure x := by intro _; rfl) (hs1 : ∀ env x, foldedSetIterable iter1 env x = pure x := by intro _ _; rfl) (hcm : X.calm = true := by rfl) :
    PE X (.ListComp elt [⟨tg, iter, ifs, 0⟩, ⟨tg1, iter1, ifs1, 0⟩] scope pos) (tev C cl Wx (xLc2 m (own.map (·.2)) t ik its xi1 vs1 t2 ik2 its2 xi xe)) :=
  pv_lc2 hcm hN hi (blkOk_by ok) hv (fun s H C' cls fp => hg s H C' cls fp R.blk) (fun s H C' cls fp => ht s H C' cls fp R.blk) (fun s H C' cls fp => hi1 s H C' cls fp R.blk) (fun s H C' cls fp => hg1 s H C' cls fp R.blk) (fun s H C' cls fp => ht1 s H C' cls fp R.blk) (fun s H C' cls fp => he s H C' cls fp R.blk) hs hs1
theorem q_setLc2 (R : Rm X C k Wx) (i : Nat) (own : List (Str × Nat)) (vs1 : List Nat) {y : Str} {py spos : Pos} (hN : X.N.Nodup) (hi : PI X tg iter (tit C cl Wx ik its))
    (hg : ∀ (s : Shared) (H : Hp) (C' : Addr) (cls : List (Str × Addr)) (fp : List Addr), Rm (X.blk s H scope (compEnvC scope cls C' X.env) fp) C k WF → PG (X.blk s H scope (compEnvC scope cls C' X.env) fp) tg (ttg' C cl (own.map (·.2)) t)) (ht : ∀ (s : Shared) (H : Hp) (C' : Addr) (cls : List (Str × Addr)) (fp : List Addr), Rm (X.blk s H scope (compEnvC scope cls C' X.env) fp) C k WF → PTs (X.blk s H scope (compEnvC scope cls C' X.env) fp) ifs (tfs C cl WF xi1))
    (hi1 : ∀ (s : Shared) (H : Hp) (C' : Addr) (cls : List (Str × Addr)) (fp : List Addr), Rm (X.blk s H scope (compEnvC scope cls C' X.env) fp) C k WF → PI (X.blk s H scope (compEnvC scope cls C' X.env) fp) tg1 iter1 (tit C cl WF ik2 its2))
    (hg1 : ∀ (s : Shared) (H : Hp) (C' : Addr) (cls : List (Str × Addr)) (fp : List Addr), Rm (X.blk s H scope (compEnvC scope cls C' X.env) fp) C k WF → PG (X.blk s H scope (compEnvC scope cls C' X.env) fp) tg1 (ttg' C cl vs1 t2)) (ht1 : ∀ (s : Shared) (H : Hp) (C' : Addr) (cls : List (Str × Addr)) (fp : List Addr), Rm (X.blk s H scope (compEnvC scope cls C' X.env) fp) C k WF → PTs (X.blk s H scope (compEnvC scope cls C' X.env) fp) ifs1 (tfs C cl WF xi))
    (he : ∀ (s : Shared) (H : Hp) (C' : Addr) (cls : List (Str × Addr)) (fp : List Addr), Rm (X.blk s H scope (compEnvC scope cls C' X.env) fp) C k WF → PE (X.blk s H scope (compEnvC scope cls C' X.env) fp) elt (tev C cl WF xe)) (ok : blkC X.N X.env.scope scope own = true := by rfl) (hv : ∀ i ∈ vs1, i ∈ own.map (·.2) := by decide) (hs : ∀ x, foldedSetIterable iter X.env x = pure x := by intro _; rfl) (hs1 : ∀ env x, foldedSetIterable iter1 env x = pure x := by intro _ _; rfl)
    (hy : X.N[i]? = some y := by rfl) (hyl : X.env.scope.names.lookup y = some .local := by rfl) (hsw : swapsWith (.ListComp elt [⟨tg, iter, ifs, 0⟩, ⟨tg1, iter1, ifs1, 0⟩] scope pos) (some (.Name y py)) spos.line X.env = pure true := by rfl) (hcm : X.calm = true := by rfl) :
    PS X (.Assign [.Name y py] (.ListComp elt [⟨tg, iter, ifs, 0⟩, ⟨tg1, iter1, ifs1, 0⟩] scope pos) spos) (tst C cl Wx (sAsg (tName i) (xLc2 m (own.map (·.2)) t ik its xi1 vs1 t2 ik2 its2 xi xe))) :=
  psv_setLc2 hcm hN hy hyl hsw hi (blkOk_by ok) hv (fun s H C' cls fp => hg s H C' cls fp R.blk) (fun s H C' cls fp => ht s H C' cls fp R.blk) (fun s H C' cls fp => hi1 s H C' cls fp R.blk) (fun s H C' cls fp => hg1 s H C' cls fp R.blk) (fun s H C' cls fp => ht1 s H C' cls fp R.blk) (fun s H C' cls fp => he s H C' cls fp R.blk) hs hs1
theorem q_dc (R : Rm X C k Wx) (own : List (Str × Nat)) (hN : X.N.Nodup) (hi : PI X tg iter (tit C cl Wx ik its))
    (hg : ∀ (s : Shared) (H : Hp) (C' : Addr) (cls : List (Str × Addr)) (fp : List Addr), Rm (X.blk s H scope (compEnvC scope cls C' X.env) fp) C k WF → PG (X.blk s H scope (compEnvC scope cls C' X.env) fp) tg (ttg' C cl (own.map (·.2)) t)) (ht : ∀ (s : Shared) (H : Hp) (C' : Addr) (cls : List (Str × Addr)) (fp : List Addr), Rm (X.blk s H scope (compEnvC scope cls C' X.env) fp) C k WF → PTs (X.blk s H scope (compEnvC scope cls C' X.env) fp) ifs (tfs C cl WF xi))
    (hk : ∀ (s : Shared) (H : Hp) (C' : Addr) (cls : List (Str × Addr)) (fp : List Addr), Rm (X.blk s H scope (compEnvC scope cls C' X.env) fp) C k WF → PE (X.blk s H scope (compEnvC scope cls C' X.env) fp) kx (tev C cl WF xe))
    (he : ∀ (s : Shared) (H : Hp) (C' : Addr) (cls : List (Str × Addr)) (fp : List Addr), Rm (X.blk s H scope (compEnvC scope cls C' X.env) fp) C k WF → PE (X.blk s H scope (compEnvC scope cls C' X.env) fp) vx (tev C cl WF xv)) (ok : blkC X.N X.env.scope scope own = true := by rfl) (hs : ∀ x, foldedSetIterable iter X.env x = pure x := by intro _; rfl) (hcm : X.calm = true := by rfl) :
    PE X (.DictComp kx vx [⟨tg, iter, ifs, 0⟩] scope pos) (tev C cl Wx (xDcomp m (own.map (·.2)) t ik its xi xe xv)) :=
  pv_dc R.W R.rk.hu9 hcm hN hi (blkOk_by ok) (fun s H C' cls fp => hg s H C' cls fp R.blk) (fun s H C' cls fp => ht s H C' cls fp R.blk) (fun s H C' cls fp => hk s H C' cls fp R.blk) (fun s H C' cls fp => he s H C' cls fp R.blk) hs
theorem q_setDc (R : Rm X C k Wx) (i : Nat) (own : List (Str × Nat)) {y : Str} {py spos : Pos} (hN : X.N.Nodup) (hi : PI X tg iter (tit C cl Wx ik its))
    (hg : ∀ (s : Shared) (H : Hp) (C' : Addr) (cls : List (Str × Addr)) (fp : List Addr), Rm (X.blk s H scope (compEnvC scope cls C' X.env) fp) C k WF → PG (X.blk s H scope (compEnvC scope cls C' X.env) fp) tg (ttg' C cl (own.map (·.2)) t)) (ht : ∀ (s : Shared) (H : Hp) (C' : Addr) (cls : List (Str × Addr)) (fp : List Addr), Rm (X.blk s H scope (compEnvC scope cls C' X.env) fp) C k WF → PTs (X.blk s H scope (compEnvC scope cls C' X.env) fp) ifs (tfs C cl WF xi))
    (hk : ∀ (s : Shared) (H : Hp) (C' : Addr) (cls : List (Str × Addr)) (fp : List Addr), Rm (X.blk s H scope (compEnvC scope cls C' X.env) fp) C k WF → PE (X.blk s H scope (compEnvC scope cls C' X.env) fp) kx (tev C cl WF xe))
    (he : ∀ (s : Shared) (H : Hp) (C' : Addr) (cls : List (Str × Addr)) (fp : List Addr), Rm (X.blk s H scope (compEnvC scope cls C' X.env) fp) C k WF → PE (X.blk s H scope (compEnvC scope cls C' X.env) fp) vx (tev C cl WF xv)) (ok : blkC X.N X.env.scope scope own = true := by rfl) (hs : ∀ x, foldedSetIterable iter X.env x = pure x := by intro _; rfl)
    (hy : X.N[i]? = some y := by rfl) (hyl : X.env.scope.names.lookup y = some .local := by rfl) (hsw : swapsWith (.DictComp kx vx [⟨tg, iter, ifs, 0⟩] scope pos) (some (.Name y py)) spos.line X.env = pure true := by rfl) (hcm : X.calm = true := by rfl) :
    PS X (.Assign [.Name y py] (.DictComp kx vx [⟨tg, iter, ifs, 0⟩] scope pos) spos) (tst C cl Wx (sAsg (tName i) (xDcomp m (own.map (·.2)) t ik its xi xe xv))) :=
  psv_setDc R.W R.rk.hu9 hcm hN hy hyl hsw hi (blkOk_by ok) (fun s H C' cls fp => hg s H C' cls fp R.blk) (fun s H C' cls fp => ht s H C' cls fp R.blk) (fun s H C' cls fp => hk s H C' cls fp R.blk) (fun s H C' cls fp => he s H C' cls fp R.blk) hs
end
end Ov
namespace Ov
open PySem PySem.Spec PyProof.Rows L2
section
variable {C : Cf} {γ γ3 : Gh} {h h2 : Hw} {H H3 : Hp} {n : Nat} {a : Addr} {ks vs : List W}
def Gh.lock (γ : Gh) (a : Addr) (o : Obj) : Gh := { γ with L := fun b => if b = a then some o else γ.L b }
theorem lock_at {o : Obj} : (γ.lock a o).L a = some o := by show (if a = a then some o else _) = _; rw [if_pos rfl]
theorem lock_ne {o : Obj} {b : Addr} (e : b ≠ a) : (γ.lock a o).L b = γ.L b := by show (if b = a then some o else _) = _; rw [if_neg e]
theorem HC.lock (c : HC C γ h H) (i : γ.ι[n]? = some a) (hn : h[n]? = some (.dct ks vs)) : ∃ o xs ys, Fr γ a ∧ H a = some (pin a o) ∧ DO C.w a o ks xs ys ∧ RWs C γ ks xs ∧ RWs C γ vs ys ∧ HC C (γ.lock a o) (h.set n (.lck ks vs)) H := by
  obtain ⟨f, o, xs, ys, hh, d, r1, r2⟩ := c.cell n a _ i hn
  have mem := List.mem_of_getElem? i
  have rw' : ∀ {ws : List W} {us : List V}, RWs C γ ws us → RWs C (γ.lock a o) ws us := fun r => RWs.mono (γ := γ) (γ' := γ.lock a o) (fun _ _ z => z) (fun _ _ z => z) _ _ r
  refine ⟨o, xs, ys, f, hh, d, r1, r2, ⟨by rw [List.length_set]; exact c.len, c.nd, fun m b cc im hm => ?_, c.there, c.frz, c.prot, c.own, fun b l q => ?_, fun b pb => ?_⟩⟩
  · by_cases z : m = n
    · subst z
      have i' : (γ.lock a o).ι[m]? = some a := i
      rw [i'] at im; cases im
      have hl : m < h.length := (List.getElem?_eq_some_iff.mp hn).1
      rw [List.getElem?_set_self hl] at hm
      cases hm
      exact ⟨f.1, o, xs, ys, lock_at, hh, d, rw' r1, rw' r2⟩
    · rw [List.getElem?_set_ne (Ne.symm z)] at hm
      have im' : γ.ι[m]? = some b := im
      have za : b ≠ a := fun e => by subst e; exact z (nodup_get c.nd im' i)
      have q := c.cell m b cc im' hm
      cases cc with
      | lst us => obtain ⟨f, ys, hh, r'⟩ := q; exact ⟨⟨f.1, by rw [lock_ne za]; exact f.2⟩, ys, hh, rw' r'⟩
      | dct _ _ => obtain ⟨f, o, xs, ys, hh, d, r1, r2⟩ := q; exact ⟨⟨f.1, by rw [lock_ne za]; exact f.2⟩, o, xs, ys, hh, d, rw' r1, rw' r2⟩
      | lck _ _ => obtain ⟨f, o, xs, ys, lo, hh, d, r1, r2⟩ := q; exact ⟨f, o, xs, ys, by rw [lock_ne za]; exact lo, hh, d, rw' r1, rw' r2⟩
      | obj k ns us => obtain ⟨f, dx, ys, fd, hh, hd, l, r'⟩ := q; exact ⟨⟨f.1, by rw [lock_ne za]; exact f.2⟩, dx, ys, fd, hh, hd, l, rw' r'⟩
      | dead => trivial
  · by_cases z : b = a
    · subst z; rw [lock_at] at q; cases q; exact hh
    · rw [lock_ne z] at q; exact c.lkd b l q
  · have z : b ≠ a := fun e => by subst e; exact (c.prot b pb).2.2.1 mem
    rw [lock_ne z]; exact c.prl b pb
theorem HC.unlock {o : Obj} {xs ys : List V} {ks2 vs2 : List W} (c : HC C γ h H) (i : γ.ι[n]? = some a) (f : Fr γ a) (d : DO C.w a o ks xs ys) (r1 : RWs C γ ks xs) (r2 : RWs C γ vs ys) (e : Ext (γ.lock a o) γ3 H) (k : Keep (γ.lock a o) H H3) (c3 : HC C γ3 h2 H3) (hn : h2[n]? = some (.lck ks2 vs2)) :
    Ext γ { γ3 with L := γ.L } H ∧ Keep γ H H3 ∧ HC C { γ3 with L := γ.L } (h2.set n (.dct ks vs)) H3 := by
  have lk : γ3.L = (γ.lock a o).L := e.lk
  have i3 : γ3.ι[n]? = some a := e.ix n a i
  have rw' : ∀ {ws : List W} {us : List V}, RWs C γ3 ws us → RWs C { γ3 with L := γ.L } ws us := fun r => RWs.mono (γ := γ3) (γ' := { γ3 with L := γ.L }) (fun _ _ z => z) (fun _ _ z => z) _ _ r
  have rw2 : ∀ {ws : List W} {us : List V}, RWs C γ ws us → RWs C { γ3 with L := γ.L } ws us := fun r => rw' (RWs.mono (γ := γ) (γ' := γ3) e.ix e.frz _ _ r)
  have frb : ∀ b, Fr γ3 b → Fr { γ3 with L := γ.L } b := fun b q => by
    refine ⟨q.1, ?_⟩
    have := q.2
    rw [lk] at this
    by_cases z : b = a
    · subst z; exact f.2
    · rw [lock_ne z] at this; exact this
  have fa : γ3.F a = none ∧ H3 a = some (pin a o) := by
    obtain ⟨f3, _⟩ := c3.cell n a _ i3 hn
    exact ⟨f3, c3.lkd a o (by rw [lk]; exact lock_at)⟩
  refine ⟨⟨e.pre, e.frz, e.prot, rfl⟩, ⟨fun b u q z => k.same b u q fun m => (z m).imp id fun nz => ?_, k.there⟩, ⟨by rw [List.length_set]; exact c3.len, c3.nd, fun m b cc im hm => ?_, c3.there, c3.frz, c3.prot, c3.own, fun b l q => ?_, fun b pb => ?_⟩⟩
  · by_cases z : b = a
    · subst z; rw [lock_at]; simp
    · rw [lock_ne z]; exact nz
  · by_cases z : m = n
    · subst z
      have im' : γ3.ι[m]? = some b := im
      rw [i3] at im'; cases im'
      have hl : m < h2.length := (List.getElem?_eq_some_iff.mp hn).1
      rw [List.getElem?_set_self hl] at hm
      cases hm
      exact ⟨⟨fa.1, f.2⟩, o, xs, ys, fa.2, d, rw2 r1, rw2 r2⟩
    · rw [List.getElem?_set_ne (Ne.symm z)] at hm
      have im' : γ3.ι[m]? = some b := im
      have za : b ≠ a := fun e => by subst e; exact z (nodup_get c3.nd im' i3)
      have q := c3.cell m b cc im' hm
      cases cc with
      | lst us => obtain ⟨f, ys, hh, r'⟩ := q; exact ⟨frb _ f, ys, hh, rw' r'⟩
      | dct _ _ => obtain ⟨f, o, xs, ys, hh, d, r1, r2⟩ := q; exact ⟨frb _ f, o, xs, ys, hh, d, rw' r1, rw' r2⟩
      | lck _ _ => obtain ⟨f, o, xs, ys, lo, hh, d, r1, r2⟩ := q; exact ⟨f, o, xs, ys, by rw [lk, lock_ne za] at lo; exact lo, hh, d, rw' r1, rw' r2⟩
      | obj k ns us => obtain ⟨f, dx, ys, fd, hh, hd, l, r'⟩ := q; exact ⟨frb _ f, dx, ys, fd, hh, hd, l, rw' r'⟩
      | dead => trivial
  · have q' : γ.L b = some l := q
    have z : b ≠ a := fun e => by subst e; rw [f.2] at q'; cases q'
    exact c3.lkd b l (by rw [lk, lock_ne z]; exact q')
  · have := c3.prl b pb
    rw [lk] at this
    by_cases z : b = a
    · subst z; exact f.2
    · rw [lock_ne z] at this; exact this
end
section
variable {X : Cx} {C : Cf} {cl : CL} {Wx : WX}
theorem psv_lock {st : Stmt} {s : Sx} {j : Nat} (hs : PS X st (tst C cl Wx s)) : PS X st (tst C cl Wx (sLock j s)) := PS.imp hs fun D σ H ⟨γ, σw, h, sl, c, p⟩ => by
  unfold sLock at p
  split at p
  · rename_i n hj
    split at p
    · rename_i ks vs hn
      obtain ⟨v, _, a, rfl, i⟩ := sl.2 j _ hj
      obtain ⟨o, xs, ys, f, hh, d, r1, r2, c'⟩ := c.lock i hn
      refine ⟨γ.lock a o, σw, h.set n (.lck ks vs), ⟨sl.1, fun j w e => let ⟨v, q1, q2⟩ := sl.2 j w e; ⟨v, q1, RW.mono (γ := γ) (γ' := γ.lock a o) (fun _ _ z => z) (fun _ _ z => z) _ _ q2⟩⟩, c', ?_⟩
      cases er : s cl σw (h.set n (.lck ks vs)) with
      | no => rw [er] at p; exact p.elim
      | exn _ _ _ _ => rw [er] at p; exact p.elim
      | ok fl h2 =>
        rw [er] at p
        unfold unlock at p
        dsimp only at p
        split at p
        · rename_i ks2 vs2 hn2
          cases fl with
          | nx σ2 =>
            intro γ3 σ3 H3 e k c3 s3
            obtain ⟨e', k', c4⟩ := HC.unlock c i f d r1 r2 e k c3 hn2
            exact p { γ3 with L := γ.L } σ3 H3 e' k' c4 ⟨s3.1, fun j w e => let ⟨v, q1, q2⟩ := s3.2 j w e; ⟨v, q1, RW.mono (γ := γ3) (γ' := { γ3 with L := γ.L }) (fun _ _ z => z) (fun _ _ z => z) _ _ q2⟩⟩
          | brk σ2 =>
            intro γ3 σ3 H3 e k c3 s3
            obtain ⟨e', k', c4⟩ := HC.unlock c i f d r1 r2 e k c3 hn2
            exact p { γ3 with L := γ.L } σ3 H3 e' k' c4 ⟨s3.1, fun j w e => let ⟨v, q1, q2⟩ := s3.2 j w e; ⟨v, q1, RW.mono (γ := γ3) (γ' := { γ3 with L := γ.L }) (fun _ _ z => z) (fun _ _ z => z) _ _ q2⟩⟩
          | ret w =>
            intro γ3 v H3 e k c3 r
            obtain ⟨e', k', c4⟩ := HC.unlock c i f d r1 r2 e k c3 hn2
            exact p { γ3 with L := γ.L } v H3 e' k' c4 (RW.mono (γ := γ3) (γ' := { γ3 with L := γ.L }) (fun _ _ z => z) (fun _ _ z => z) _ _ r)
        · exact p.elim
    · exact ⟨γ, σw, h, sl, c, p⟩
  · exact ⟨γ, σw, h, sl, c, p⟩
theorem pv_lock {e : Expr} {xe : Ex} {j : Nat} (hs : PE X e (tev C cl Wx xe)) : PE X e (tev C cl Wx (xLock j xe)) := PE.imp hs fun σ H Q ⟨γ, σw, h, sl, c, p⟩ => by
  unfold xLock at p
  split at p
  · rename_i n hj
    split at p
    · rename_i ks vs hn
      obtain ⟨v, _, a, rfl, i⟩ := sl.2 j _ hj
      obtain ⟨o, xs, ys, f, hh, d, r1, r2, c'⟩ := c.lock i hn
      refine ⟨γ.lock a o, σw, h.set n (.lck ks vs), ⟨sl.1, fun j w e => let ⟨v, q1, q2⟩ := sl.2 j w e; ⟨v, q1, RW.mono (γ := γ) (γ' := γ.lock a o) (fun _ _ z => z) (fun _ _ z => z) _ _ q2⟩⟩, c', ?_⟩
      cases er : xe cl σw (h.set n (.lck ks vs)) with
      | no => rw [er] at p; exact p.elim
      | exn _ _ _ => rw [er] at p; exact p.elim
      | ok w h2 =>
        rw [er] at p
        unfold unlockE at p
        dsimp only at p
        split at p
        · rename_i ks2 vs2 hn2
          intro γ3 v H3 e k c3 r
          obtain ⟨e', k', c4⟩ := HC.unlock c i f d r1 r2 e k c3 hn2
          exact p { γ3 with L := γ.L } v H3 e' k' c4 (RW.mono (γ := γ3) (γ' := { γ3 with L := γ.L }) (fun _ _ z => z) (fun _ _ z => z) _ _ r)
        · exact p.elim
    · exact ⟨γ, σw, h, sl, c, p⟩
  · exact ⟨γ, σw, h, sl, c, p⟩
theorem ptv_lock {e : Expr} {xe : Ex} {j : Nat} (hs : PT X e (ttv C cl Wx xe)) : PT X e (ttv C cl Wx xe) := hs
end
end Ov
namespace Ov
open PySem PySem.Spec PyProof.Rows L2
def gIsC (tab : List (Nat × Bool)) : Gf := fun ws h => match ws with
  | [w] => (match look h w with
    | .ref _ => .no
    | .any => .no
    | .scr _ => .no
    | .obj c _ _ => (match tab.lookup c with
      | some b => .ok (.bl b) h
      | none => .no)
    | _ => .ok (.bl false) h)
  | _ => .no
structure InC (K : PySem.W.Frag) (C D : Addr) (b : Bool) : Prop where
  cl : Cls K C
  ha : PySem.W.findIn K (.ref C) "__class__" = some (some (.builtin "object.__class__"))
  hn : PySem.W.specialIn K (.builtin "object.__class__") "__get__" = some (some (.builtin "getset_descriptor.__get__"))
  htk : PySem.W.takesIn K (.builtin "object.__class__") = some true
  hm : PySem.W.mroIn K C (.type "object") = some true
  one : PySem.W.kitOne K (.ref C) (.ref D) = some b
structure BasC (K : PySem.W.Frag) (D : Addr) : Prop where
  non : PySem.W.kitOne K (.type "NoneType") (.ref D) = some false
  bl : PySem.W.kitOne K (.type "bool") (.ref D) = some false
  int : PySem.W.kitOne K (.type "int") (.ref D) = some false
  str : PySem.W.kitOne K (.type "str") (.ref D) = some false
  tup : PySem.W.kitOne K (.type "tuple") (.ref D) = some false
  lst : PySem.W.kitOne K (.type "list") (.ref D) = some false
  dct : PySem.W.kitOne K (.type "dict") (.ref D) = some false
section
variable {X : Cx} {C : Cf} {a : Expr} {cl : CL} {Wx : WX} {xa : Ex} {pos p : Pos} {tab : List (Nat × Bool)} {D : Addr}
theorem isi_own {γ : Gh} {h : Hw} {H : Hp} {w : W} {v : V} {b : Bool} (hK : C.K = X.K) (B : BasC X.K D) (T : ∀ c' b', tab.lookup c' = some b' → InC X.K (C.ca c') D b') (c : HC C γ h H) (r : RW C γ w v) (e : gIsC tab [w] h = .ok (.bl b) h) : ∃ tv, TyW X.K H v tv ∧ PySem.W.kitOne X.K tv (.ref D) = some b := by
  unfold gIsC at e
  dsimp only at e
  cases hl : look h w with
  | non => rw [hl] at e; have := look_flat hl trivial; subst this; cases r; cases e; exact ⟨_, .inl (.base .non), B.non⟩
  | bl x => rw [hl] at e; have := look_flat hl trivial; subst this; cases r; cases e; exact ⟨_, .inl (.base (.bl _)), B.bl⟩
  | int x => rw [hl] at e; have := look_flat hl trivial; subst this; cases r; cases e; exact ⟨_, .inl (.base (.int _)), B.int⟩
  | str x => rw [hl] at e; have := look_flat hl trivial; subst this; cases r; cases e; exact ⟨_, .inl (.base (.str _)), B.str⟩
  | tup xs =>
    rw [hl] at e; cases e
    obtain ⟨a, vs, rfl, q1, q2⟩ := look_tup c r hl
    have ty : TyX X.K H (.ref a) (.type "tuple") := by
      rcases q1 with q | ⟨ob, q⟩
      · exact .base (.tup q)
      · exact .fTuple q
    exact ⟨_, .inl ty, B.tup⟩
  | lst xs =>
    rw [hl] at e; cases e
    obtain ⟨a, vs, rfl, q1, q2⟩ := look_lst c r hl
    have ty : TyX X.K H (.ref a) (.type "list") := by
      rcases q1 with q | ⟨ob, q⟩
      · exact .base (.lst q)
      · exact .base (.frz q)
    exact ⟨_, .inl ty, B.lst⟩
  | dct ks ws =>
    rw [hl] at e; cases e
    obtain ⟨a, o, xs, ys, rfl, q1, d, _⟩ := look_dct c r hl
    exact ⟨_, .inr ⟨a, o, rfl, q1, d.ex, rfl⟩, B.dct⟩
  | obj k ns vs =>
    rw [hl] at e
    dsimp only at e
    cases ht : tab.lookup k with
    | none => rw [ht] at e; cases e
    | some b' =>
      rw [ht] at e; cases e
      have I := T k b ht
      obtain ⟨a, dx, us, rfl, q, _⟩ := look_obj c r hl
      exact ⟨_, .inl (.base (.ins q I.cl I.ha I.hn I.htk I.hm)), I.one⟩
  | ref _ => rw [hl] at e; cases e
  | any => rw [hl] at e; cases e
  | scr _ => rw [hl] at e; cases e
theorem gIsC_out {w : W} {h : Hw} : gIsC tab [w] h = .no ∨ ∃ b, gIsC tab [w] h = .ok (.bl b) h := by
  unfold gIsC
  dsimp only
  split <;> first | exact .inl rfl | exact .inr ⟨_, rfl⟩ | skip
  split
  · exact .inr ⟨_, rfl⟩
  · exact .inl rfl
theorem q_isC (RR : Rk X C) {ty : Str} {p2 : Pos} (B : BasC X.K D) (T : ∀ c' b', tab.lookup c' = some b' → InC X.K (C.ca c') D b') (hm : X.mg "isinstance" = none) (hm2 : X.mg ty = some (.ref D)) (ha : PE X a (tev C cl Wx xa)) (hg : Gl X "isinstance" := by rfl) (hg2 : Gl X ty := by rfl) (hd2 : (ty == ("__debug__" : Str)) = false := by decide)
    (he : starEach [a, .Name ty p2] X.env = (false, eval a X.env) :: starEach [.Name ty p2] X.env := by rfl) (he2 : starEach [.Name ty p2] X.env = (false, eval (.Name ty p2) X.env) :: starEach [] X.env := by rfl) (hpl : (backTo pos (starEach [.Name ty p2] X.env)).any (·.1) = false := by rfl) :
    PE X (.Call (.Name "isinstance" p) [a, .Name ty p2] [] pos) (tev C cl Wx (xF (gIsC tab) (xsCons xa xsNil))) := by
  have hv : bootBuiltins "isinstance" = some (.builtin "isinstance") := by decide +kernel
  have ec : PE X (.Name ty p2) (tC (V.ref D)) := pe_glob (v := V.ref D) hg2 hm2 rfl hd2
  refine PE.imp (pe_callB call_isiW hg hm hv (pa_cons ha (pa_cons ec pa_nil he2) he) (by decide) (by decide) he hpl) fun σ H Q tt => ?_
  obtain ⟨γ, σw, h, sl, hc, q⟩ := tt
  refine ⟨γ, σw, h, sl, hc, ?_⟩
  unfold xF xsCons xsNil at q
  cases ea : xa cl σw h with
  | ok w h1 =>
    rw [ea] at q
    intro γ1 v H1 e1 k1 c1 r1
    have q1 := PoE.step q e1 k1
    dsimp only [R.bind] at q1
    rcases gIsC_out (tab := tab) (w := w) (h := h1) with z | ⟨bb, z⟩
    · rw [z] at q1; exact q1.elim
    · rw [z] at q1
      obtain ⟨tv, y1, y2⟩ := isi_own RR.K B T c1 r1 z
      exact ⟨v, .ref D, tv, .ref D, bb, rfl, .own _, y1, y2, PoE.here q1 c1 rfl⟩
  | exn c aa h1 => rw [ea] at q; exact q
  | no => rw [ea] at q; exact q
end
end Ov
namespace Ov
open PySem PySem.Spec PyProof.Rows L2
def xTupR (a : Ex) : Ex := fun cl σ h => (a cl σ h).bind fun x h1 => match x with
  | .int n => if decide (-1000000 < n) && decide (n < 1000000) then .ok (.tup (rangeGo 0 n.toNat)) h1 else .no
  | _ => .no
section
variable {X : Cx} {C : Cf} {cl : CL} {Wx : WX} {a : Expr} {xa : Ex} {p p2 pos pos2 : Pos}
theorem rws_range {γ : Gh} : ∀ (k : Nat) (i : Int), RWs C γ (rangeGo i k) ((List.range k).map fun j => V.int (i + (j : Nat)))
  | 0, _ => rfl
  | k + 1, i => by
    have ih := rws_range (γ := γ) k (i + 1)
    rw [List.range_succ_eq_map, List.map_cons, List.map_map]
    have e : ((List.range k).map fun j => V.int (i + 1 + (j : Nat))) = (List.range k).map ((fun j => V.int (i + (j : Nat))) ∘ Nat.succ) := by
      refine List.map_congr_left fun j _ => ?_
      show V.int (i + 1 + (j : Nat)) = V.int (i + ((j + 1 : Nat) : Int))
      congr 1; omega
    rw [← e]
    exact ⟨_, _, rfl, by show V.int (i + ((0 : Nat) : Int)) = V.int i; congr 1; omega, ih⟩
theorem pv_tupR (hc : X.calm = true) (hg : Gl X "tuple") (hm : X.mg "tuple" = none) (hg2 : Gl X "range") (hm2 : X.mg "range" = none) (ha : PE X a (tev C cl Wx xa))
    (na : starEach [a] X.env = (false, eval a X.env) :: starEach [] X.env := by rfl) (nb : starEach [Expr.Call (.Name "range" p2) [a] [] pos2] X.env = (false, eval (.Call (.Name "range" p2) [a] [] pos2) X.env) :: starEach [] X.env := by rfl) :
    PE X (.Call (.Name "tuple" p) [.Call (.Name "range" p2) [a] [] pos2] [] pos) (tev C cl Wx (xTupR xa)) :=
  PE.imp (pe_tupRg hc hg hm (prg_1 hg2 hm2 ha na) nb) fun σ H Q t => (tev1' t).imp fun x H1 ⟨γ, h, w, hh, r, q⟩ => by
    cases w with
    | int n =>
      cases r
      dsimp only at q
      split at q
      · rename_i z
        have z := Bool.and_eq_true_iff.mp z
        have z1 := of_decide_eq_true z.1
        have z2 := of_decide_eq_true z.2
        refine ⟨n, rfl, ⟨by omega, by omega, by omega, by omega, by omega⟩, fun b hb => ?_⟩
        have hr := rws_range (C := C) (γ := γ) n.toNat 0
        have e : rgV 0 n = (List.range n.toNat).map fun j => V.int (0 + (j : Nat)) := by unfold rgV; rw [Int.sub_zero]
        rw [e]
        exact PoE.tupNew q hh hr hb
      · exact q.elim
    | _ => exact q.elim
end
end Ov
namespace Ov
open PySem PySem.Spec PyProof.Rows L2
def sIncA (cs : List Nat) (nm : Nat) (o : Ex) (j : Int) : Sx := fun cl σ h => (o cl σ h).st σ fun x h1 => match x with
  | .ref n => (match h1[n]? with
    | some (.obj c ns vs) => if cs.any (Nat.beq c) && Nat.blt ns.length 1000 then (match (ns.zip vs).lookup nm with
      | some (.int i) => .ok (.nx σ) (h1.set n (.obj c (putAttr nm (.int (i + j)) ns vs).1 (putAttr nm (.int (i + j)) ns vs).2))
      | _ => .no) else .no
    | _ => .no)
  | _ => .no
section
variable {X : Cx} {C : Cf} {cl : CL} {Wx : WX} {o value : Expr} {xo : Ex} {pos tpos : Pos} {j : Int}
theorem psv_inc {cs : List Nat} {nm : Nat} {ff : Str} (inj : ∀ i j, C.nm i = C.nm j → i = j) (hf : C.nm nm = ff) (hcs : ∀ c ∈ cs, Cls X.K (C.ca c) ∧ NoAttr X.K (C.ca c) ff) (ho : PE X o (tev C cl Wx xo)) (he : PE X value (tev C cl Wx (xCon (.int j)))) :
    PS X (.AugAssign (.Attribute o ff tpos) .Add value pos) (tst C cl Wx (sIncA cs nm xo j)) := by
  subst hf
  refine PS.imp (ps_fldaug ho he in_add) fun D σ H ⟨γ, σw, h, sl, hc, p⟩ => ?_
  refine ⟨γ, σw, h, sl, hc, ?_⟩
  unfold sIncA at p
  rcases st_cases sl p with ⟨w, h1, ea, q⟩ | ⟨cc, aa, h1, ea, q⟩
  · rw [ea]
    intro γ1 v H1 e1 k1 c1 r1
    have q1 := PoS.step q e1 k1
    cases w with
    | ref n =>
      dsimp only at q1
      cases hn : h1[n]? with
      | none => rw [hn] at q1; exact q1.elim
      | some cc =>
        rw [hn] at q1
        cases cc with
        | obj c ns vs =>
          dsimp only at q1
          by_cases hb : (cs.any (Nat.beq c) && Nat.blt ns.length 1000) = true
          · rw [if_pos hb] at q1
            rw [Bool.and_eq_true] at hb
            cases hl : (ns.zip vs).lookup nm with
            | none => rw [hl] at q1; exact q1.elim
            | some u =>
              rw [hl] at q1
              cases u with
              | int i =>
                obtain ⟨b, rfl, ib⟩ := r1
                obtain ⟨fa, dx, ys, fd, hh, hd, l, ry⟩ := c1.cell n b _ ib hn
                have mem : c ∈ cs := by
                  obtain ⟨y, y1, y2⟩ := List.any_eq_true.mp hb.1
                  rw [Nat.eq_of_beq_eq_true y2]; exact y1
                have lt : ns.length < 1000 := Nat.le_of_ble_eq_true hb.2
                obtain ⟨v', g1, g2⟩ := lookup_rw inj ry hl
                cases g2
                refine ⟨b, C.ca c, dx, _, _, rfl, hh, (hcs c mem).1, (hcs c mem).2, g1, ?_⟩
                refine ⟨γ1, σw, h1, sl.ext e1, c1, ?_⟩
                intro γ2 y H2 e2 k2 c2 r2
                cases r2
                have q2 := PoS.step q1 e2 k2
                have rb := e2.rw (show RW C γ1 (.ref n) (.ref b) from ⟨b, rfl, ib⟩)
                obtain ⟨b2, eb, ib2⟩ := rb
                cases eb
                obtain ⟨fa2, dx2, ys2, fd2, hh2, hd2, l2, ry2⟩ := c2.cell n b _ ib2 hn
                obtain ⟨us, z1, z2, z3⟩ := put_rw inj (nm := nm) (w := .int (i + j)) (y := .int (i + j)) (γ := γ2) rfl l2 ry2
                refine ⟨i, j, rfl, rfl, dx2, _, hh2, by rw [List.length_zip, List.length_map]; omega, ?_⟩
                rw [z1]
                obtain ⟨k3, c3⟩ := c2.setO (ms := (putAttr nm (.int (i + j)) ns vs).1) (us := (putAttr nm (.int (i + j)) ns vs).2) (vs := us) ib2 hn hh2 z2 z3
                exact q2 γ2 σ _ (Ext.refl _ _) k3 c3 ((sl.ext e1).ext e2)
              | _ => exact q1.elim
          · rw [if_neg hb] at q1; exact q1.elim
        | _ => exact q1.elim
    | _ => exact q1.elim
  · rw [ea]; exact q
theorem q_inc {k : Nat} (R : Rm X C k Wx) {cs : List Nat} {nm : Nat} {ff : Str} (inj : ∀ i j, C.nm i = C.nm j → i = j) (hcs : ∀ c ∈ cs, Cls X.K (C.ca c) ∧ NoAttr X.K (C.ca c) ff) (ho : PE X o (tev C cl Wx xo)) (he : PE X value (tev C cl Wx (xCon (.int j)))) (hf : C.nm nm = ff := by rfl) :
    PS X (.AugAssign (.Attribute o ff tpos) .Add value pos) (tst C cl Wx (sIncA cs nm xo j)) := psv_inc inj hf hcs ho he
theorem q_tupR {a : Expr} {xa : Ex} {p p2 pos2 : Pos} (hm : X.mg "tuple" = none) (hm2 : X.mg "range" = none) (ha : PE X a (tev C cl Wx xa)) (hc : X.calm = true := by rfl) (hg : Gl X "tuple" := by rfl) (hg2 : Gl X "range" := by rfl)
    (na : starEach [a] X.env = (false, eval a X.env) :: starEach [] X.env := by rfl) (nb : starEach [Expr.Call (.Name "range" p2) [a] [] pos2] X.env = (false, eval (.Call (.Name "range" p2) [a] [] pos2) X.env) :: starEach [] X.env := by rfl) :
    PE X (.Call (.Name "tuple" p) [.Call (.Name "range" p2) [a] [] pos2] [] pos) (tev C cl Wx (xTupR xa)) := pv_tupR hc hg hm hg2 hm2 ha na nb
end
end Ov
namespace Ov
open PySem PySem.Spec PyProof.Rows L2
open SeqAt
theorem entry_cit : entryFor table "proto.contains_iter" = some Builtin.«proto.contains_iter» := entryFor_of_fast (by kernel_rfl)
theorem plain_cit : plainId "proto.contains_iter" = true := by decide +kernel
theorem no_contains_values : typeLookup (.type "dict_values") "__contains__" = pure none := by kernel_rfl
def xVin (neg : Bool) (a e : Ex) : Ex := fun cl σ h => (a cl σ h).bind fun x h1 => (e cl σ h1).bind fun y h2 => match look h2 y with
  | .dct _ ws => if W.flat x && ws.all W.flat then .ok (.bl (if neg then !(ws.any fun y => W.eq y x) else ws.any fun y => W.eq y x)) h2 else .no
  | _ => .no
section
variable {prog : Program} {w : World} {A : Around} {E : Value → Shared → Prop} {s : Shared} {R : Result → Shared → Prop} {I : Addr} {fp wr : List Addr} {n : Nat} {P : Nat → Value → Prop} {St : Nat → Heap → Prop}
theorem loop_cit (Wk : Walks prog w A.in1 I fp wr n P St) (x : Value) (e : Nat → Bool) (hE : ∀ i v (s : Shared), P i v → EqAt A.in1 s v x (e i)) :
    ∀ (k i : Nat) (s : Shared), n - i = k → i ≤ n → St i s.heap →
    (∀ h' tk, (∀ b o, b ∉ wr → s.heap.get? b = some o → h'.get? b = some o) → R (.ok (.ret (.bool ((List.range k).any fun j => e (i + j))))) { s with heap := h', toks := tk }) →
    codeAny (model prog w) A (.builtin "proto.contains_iter" ⟨[.ref I, x], []⟩) R s := by
  intro k
  induction k with
  | zero =>
    intro i s hk hi hst hR
    have hin : i = n := by omega
    subst hin
    refine codeAny_builtin entry_cit ?_
    rw [Around.under_plainId plain_cit _]
    show wpAny _ A.in1 (pyNext (.ref I) >>= _) _ _ s
    refine wpAny_bind (Wk.done s _ _ hst fun h' tk hm => ?_)
    exact wpAny_bind (wpAny_rule (wpAny_pure (hR h' tk hm)))
  | succ k ih =>
    intro i s hk hi hst hR
    have hlt : i < n := by omega
    refine codeAny_builtin entry_cit ?_
    rw [Around.under_plainId plain_cit _]
    show wpAny _ A.in1 (pyNext (.ref I) >>= _) _ _ s
    refine wpAny_bind (Wk.item i s _ _ hlt hst fun v h' tk hP hst' hm => ?_)
    refine wpAny_bind (hE i v _ hP _ _ _ _ ?_)
    cases hb : e i with
    | true =>
      have := hR h' tk hm
      rw [List.range_succ_eq_map, List.any_cons, Nat.add_zero, hb, Bool.true_or] at this
      exact wpAny_bind (wpAny_rule (wpAny_pure this))
    | false =>
      refine wpAny_pure ⟨plainId_quiet plain_cit _, ih (i + 1) _ (by omega) hlt hst' fun h'' tk' hm' => ?_⟩
      have := hR h'' tk' fun b o hb q => hm' b o hb (hm b o hb q)
      rw [List.range_succ_eq_map, List.any_cons, Nat.add_zero, hb, Bool.false_or, List.any_map] at this
      have e' : ((fun j => e (i + j)) ∘ Nat.succ) = fun j => e (i + 1 + j) := by funext j; show e (i + (j + 1)) = _; congr 1; omega
      rw [e'] at this
      exact this
theorem contains_values {r d : Addr} {es : Array DictEntry} {ep : Nat} {x : Value} {Q : Bool → Shared → Prop} (hh : A.handled = none) (hv : s.heap.IsValuesView r d) (hm : s.heap.DictRaw d es ep) (e : Nat → Bool) (hE : ∀ i (hi : i < es.size) (s : Shared), EqAt A.in1 s es[i].val x (e i))
    (h : ∀ h' tk, (∀ b o, s.heap.get? b = some o → h'.get? b = some o) → Q ((List.range es.size).any e) { s with heap := h', toks := tk }) :
    wpAny (model prog w) A (contains (.ref r) x) Q E s := by
  have hT := hv.typeIs
  unfold contains
  refine wpAny_holding ?_
  rw [stdlibNamesSay?_of_typeIs hT]
  refine wpAny_bind (wpAny_specialOf hT no_contains_values ?_)
  show wpAny _ A (if ((none : Option Value) == some Value.none) = true then _ else _) Q E s
  rw [if_neg (by simp)]
  refine wpAny_bind (wpAny_callSpecialUnlessNone?_none hT no_contains_values ?_)
  refine wpAny_bind (wpAny_rule ?_)
  refine wpAny_bind (wpAny_tryCatch (wpAny_pyIter_values_raw hv hm ?_))
  refine wpAny_bind (wpAny_runValue ?_)
  refine loop_cit (Walks.rawValues (A := A.in1) (by exact hh) s.heap.objs.size d (Nat.ne_of_lt hm.lt_size) es ep) x e (fun i v s ⟨hi, ev⟩ => by subst ev; exact hE i hi s) es.size 0 _ rfl (Nat.zero_le _) ⟨⟨_, Heap.get?_push_size _ rfl, rfl, rfl⟩, hm.push _⟩ fun h' tk hk => ?_
  have hq := h h' tk fun b o q => hk b o (fun z => absurd (Heap.lt_size q) (by rw [List.mem_singleton.mp z]; exact Nat.lt_irrefl _)) (Heap.get?_push_of_some _ q)
  simp only [Nat.zero_add]
  exact wpAny_pure hq
end
theorem eqAt_flat {C : Cf} {γ : Gh} {A : Around} {s : Shared} {a b : W} {x y : V} {u v : Value} (fa : W.flat a = true) (fb : W.flat b = true) (ra : RW C γ a x) (rb : RW C γ b y) (rx : RelV x u) (ry : RelV y v) : EqAt A s u v (W.eq a b) := by
  cases a with
  | non =>
    cases ra; cases rx
    cases b with
    | non => cases rb; cases ry; exact EqAt.same _
    | bl q => cases rb; cases ry; exact EqAt.none_bool q
    | int j => cases rb; obtain ⟨t, rfl⟩ := ry; exact EqAt.none_int j t
    | str q => cases rb; obtain ⟨t, rfl⟩ := ry; exact EqAt.none_str _ t
    | _ => cases fb
  | bl p =>
    cases ra; cases rx
    cases b with
    | non => cases rb; cases ry; exact EqAt.bool_none p
    | bl q => cases rb; cases ry; exact EqAt.bool_bool p q
    | int j =>
      cases rb; obtain ⟨t, rfl⟩ := ry
      have e : W.eq (.bl p) (.int j) = ((if p then 1 else 0) == j) := by cases p <;> rfl
      rw [e]; exact EqAt.bool_int p j t
    | str q => cases rb; obtain ⟨t, rfl⟩ := ry; exact EqAt.bool_str p _ t
    | _ => cases fb
  | int i =>
    cases ra; obtain ⟨t, rfl⟩ := rx
    cases b with
    | non => cases rb; cases ry; exact EqAt.int_none i t
    | bl q =>
      cases rb; cases ry
      have e : W.eq (.int i) (.bl q) = (i == (if q then 1 else 0)) := by cases q <;> rfl
      rw [e]; exact EqAt.int_bool i t q
    | int j =>
      cases rb; obtain ⟨t2, rfl⟩ := ry
      have e : W.eq (.int i) (.int j) = (i == j) := by simp [W.eq, BEq.beq]
      rw [e]; exact EqAt.int_int i t j t2
    | str q => cases rb; obtain ⟨t2, rfl⟩ := ry; exact EqAt.int_str i t _ t2
    | _ => cases fb
  | str p =>
    cases ra; obtain ⟨t, rfl⟩ := rx
    cases b with
    | non => cases rb; cases ry; exact EqAt.str_none _ t
    | bl q => cases rb; cases ry; exact EqAt.str_bool _ t q
    | int j => cases rb; obtain ⟨t2, rfl⟩ := ry; exact EqAt.str_int _ t j t2
    | str q =>
      cases rb; obtain ⟨t2, rfl⟩ := ry
      have := @EqAt.str_str A s ⟨p.toArray⟩ t ⟨q.toArray⟩ t2
      have e : W.eq (.str p) (.str q) = ((⟨p.toArray⟩ : Str) == ⟨q.toArray⟩) := by
        simp only [W.eq, seqNat_iff]
        by_cases z : p = q
        · subst z; simp
        · simp [z, BEq.beq]
      rw [e]; exact this
    | _ => cases fb
  | _ => cases fa
section
variable {X : Cx} {C : Cf} {cl : CL} {Wx : WX} {pos : Pos}
theorem pe_viewV {e : Expr} {xe : Ex} {apos cpos : Pos} (ha : PE X e (tev C cl Wx xe)) (hbase : attributeBase e "values" X.env (eval e X.env) = eval e X.env) (hline : (apos.endLine == cpos.line) = true) :
    PE X (.Call (.Attribute e "values" apos) [] [] cpos) (fun σ H Q => tev C cl Wx xe σ H fun v H1 => ∃ a o, v = .ref a ∧ (a == sysModules) = false ∧ (∃ es ep, o.ExactDict ∧ o.data = .dict es ep) ∧ H1 a = some (pin a o) ∧ ∀ p, H1 p = none → Q (.ref p) (upd H1 p (pin p (valuesView a)))) := by
  refine ⟨fun pins s σ H Q I q => ?_⟩
  refine wpAny_Call_method (T := "dict") (id := "dict.values") hbase rfl hline F.plainAttrs_dict F.slot_dict_values F.type_dict_values (thn (ha.run pins s σ H _ I q) fun u s1 ⟨x, H1, I1, rx, a, o, ex, sys, ⟨es, ep, xd, dt⟩, hp, q⟩ => ?_)
  subst ex
  cases rx
  have raw := raw_at I1.hok xd dt hp
  refine ⟨raw.typeIs, fun b eb => by cases eb; exact ⟨o, pin_get I1.hok hp, xd.2.1⟩, ?_⟩
  show wpAny _ _ (callWith cpos (.builtin "dict.values") [.ref a] [] []) _ X.xe s1
  refine method_meetsIn F.slot_dict_values F.entry_dict_values rfl (PySem.evalArgs_none ⟨rfl, raw.typeIs, F.args_dict_values_1 _, _, meets_dict_values_raw a sys, ⟨⟨es, ep, raw⟩, ?_⟩⟩)
  exact ⟨.ref s1.heap.objs.size, _, I1.laid (t' := s1.toks) (o := pin s1.heap.objs.size (valuesView a)) (fun b ob q => Heap.get?_push_of_some _ q) (Nat.le_refl _) (pin_ok (Heap.get?_push_size _ rfl)), rfl, q _ (I1.hok.fresh (Nat.le_refl _))⟩
def rVin (C : Cf) (neg : Bool) : R2 := fun x y H Q => ∃ (p a : Addr) (γ : Gh) (h : Hw) (w0 : W) (ks ws : List W) (E : XK), y = .ref p ∧ H p = some (pin p (valuesView a)) ∧ HC C γ h H ∧ RW C γ w0 x ∧ DAt C γ H a ks ws ∧ (W.flat w0 && ws.all W.flat) = true ∧ PoE C γ H (.ok (.bl (if neg then !(ws.any fun y => W.eq y w0) else ws.any fun y => W.eq y w0)) h) Q E
theorem any_range {α : Type} (f : α → Bool) (g : Nat → Bool) : ∀ (l : List α) (i : Nat), (∀ j (hj : j < l.length), g (i + j) = f l[j]) → (List.range l.length).any (fun j => g (i + j)) = l.any f
  | [], _, _ => rfl
  | x :: l, i, h => by
    have h0 := h 0 (by simp)
    have ih := any_range f g l (i + 1) fun j hj => by
      have := h (j + 1) (by simpa using hj)
      rw [show i + 1 + j = i + (j + 1) by omega, this]; rfl
    rw [List.length_cons, List.range_succ_eq_map, List.any_cons, List.any_cons, List.any_map, h0]
    congr 1
    rw [← ih]
    congr 1
    funext j
    show g (i + (j + 1)) = _
    congr 1; omega
theorem op_vin (hc : X.calm = true) (neg : Bool) : OpR X (compareOp (if neg then .NotIn else .In)) (rVin C neg) := by
  intro pins s σ H x y v u Q I rx ry qq
  obtain ⟨p, a, γ, h, w0, ks, ws, E, rfl, hp, c, r0, ⟨o, xs, ys, ha, d, q1, q2⟩, fl, q⟩ := qq
  cases ry
  rw [Bool.and_eq_true] at fl
  obtain ⟨es, ep, dt, en⟩ := d.data
  obtain ⟨l1, l2, l3⟩ := en.len
  rw [Array.length_toList] at l3
  have view : s.heap.IsValuesView p a := ⟨_, pin_get I.hok hp, rfl, rfl⟩
  have raw := raw_at I.hok d.ex dt ha
  have lw : ws.length = es.size := by have := q2.length; omega
  have key : wpAny (model X.prog X.w) X.A (contains (.ref p) v) (fun b s' => b = (ws.any fun y => W.eq y w0) ∧ ∃ h' tk, s' = { s with heap := h', toks := tk } ∧ (∀ b o, s.heap.get? b = some o → h'.get? b = some o)) X.xe s := by
    refine contains_values (I.ok.hd hc) view raw (fun i => W.eq (ws[i]?.getD .non) w0) (fun i hi s' => ?_) fun h' tk hk => ⟨?_, h', tk, rfl, hk⟩
    · obtain ⟨x', hx⟩ : ∃ x, xs[i]? = some x := ⟨_, List.getElem?_eq_getElem (by omega)⟩
      obtain ⟨y', hy⟩ : ∃ y, ys[i]? = some y := ⟨_, List.getElem?_eq_getElem (by omega)⟩
      obtain ⟨w1, hw⟩ : ∃ y, ws[i]? = some y := ⟨_, List.getElem?_eq_getElem (by omega)⟩
      obtain ⟨de, d1, _, d2⟩ := en.get i hx hy
      have ed : de = es[i] := by rw [Array.getElem?_toList, Array.getElem?_eq_getElem hi] at d1; exact (Option.some.inj d1).symm
      obtain ⟨y2, e2, rv⟩ := q2.get hw
      rw [hy] at e2; cases e2
      rw [hw, ← ed]
      exact eqAt_flat (List.all_eq_true.mp fl.2 _ (List.mem_of_getElem? hw)) fl.1 rv r0 d2 rx
    · have := any_range (fun y => W.eq y w0) (fun i => W.eq (ws[i]?.getD .non) w0) ws 0 fun j hj => by rw [Nat.zero_add, List.getElem?_eq_getElem hj]; rfl
      rw [lw] at this
      simpa using this
  cases neg with
  | false =>
    show wpAny _ _ ((contains (.ref p) v) >>= fun r => pure (Value.bool r)) _ _ s
    refine wpAny_bind (wpAny_mono key (fun b s' ⟨e, h', tk, es', hk⟩ => ?_) fun _ _ e => e)
    subst e es'
    exact wpAny_pure ⟨.bl _, H, I.kept (t' := tk) hk, rfl, PoE.here q c rfl⟩
  | true =>
    show wpAny _ _ ((contains (.ref p) v) >>= fun r => pure (Value.bool (!r))) _ _ s
    refine wpAny_bind (wpAny_mono key (fun b s' ⟨e, h', tk, es', hk⟩ => ?_) fun _ _ e => e)
    subst e es'
    exact wpAny_pure ⟨.bl _, H, I.kept (t' := tk) hk, rfl, PoE.here q c rfl⟩
theorem pv_vin (hc : X.calm = true) (neg : Bool) {a e : Expr} {xa xe : Ex} {apos cpos : Pos} (hx : PE X a (tev C cl Wx xa)) (ha : PE X e (tev C cl Wx xe)) (hbase : attributeBase e "values" X.env (eval e X.env) = eval e X.env) (hline : (apos.endLine == cpos.line) = true)
    (hm : behindInMarks (if neg then .NotIn else .In) (.Call (.Attribute e "values" apos) [] [] cpos) = false) :
    PE X (.Compare a [if neg then .NotIn else .In] [.Call (.Attribute e "values" apos) [] [] cpos] pos) (tev C cl Wx (xVin neg xa xe)) := by
  refine PE.imp (pe_cmpR (op_vin (C := C) hc neg) hx (pe_viewV ha hbase hline) hm) fun σ H Q t => ?_
  have t2 := tev2 (f := fun x y h2 => match look h2 y with
    | .dct _ ws => if W.flat x && ws.all W.flat then .ok (.bl (if neg then !(ws.any fun y => W.eq y x) else ws.any fun y => W.eq y x)) h2 else .no
    | _ => .no) t
  refine t2.imp fun x H1 t3 => t3.imp fun y H2 ⟨γ, h, w0, u, c, r0, r1, p⟩ => ?_
  dsimp only at p
  split at p
  · rename_i ks ws el
    split at p
    · rename_i fl
      obtain ⟨a, o, xs, ys, rfl, hp, d, q3, q4⟩ := look_dct c r1 el
      obtain ⟨es, ep, dt, en⟩ := d.data
      refine ⟨a, o, rfl, d.sys, ⟨es, ep, d.ex, dt⟩, hp, fun p' n => ?_⟩
      obtain ⟨e2, k2, c2, f2⟩ := c.lay (p := p') (o := pin p' (valuesView a)) n (fun y z => by cases z)
      have hap : a ≠ p' := fun z => by subst z; rw [n] at hp; cases hp
      exact ⟨p', a, _, h, w0, ks, ws, _, rfl, upd_same, c2, e2.rw r0, ⟨o, xs, ys, by rw [upd_ne hap]; exact hp, d, e2.rws q3, e2.rws q4⟩, fl, PoE.step p e2 k2⟩
    · exact p.elim
  · exact p.elim
theorem q_vin (R : Rk X C) (neg : Bool) {a e : Expr} {xa xe : Ex} {apos cpos : Pos} (hx : PE X a (tev C cl Wx xa)) (ha : PE X e (tev C cl Wx xe)) (hc : X.calm = true := by rfl) (hbase : attributeBase e "values" X.env (eval e X.env) = eval e X.env := by rfl) (hline : (apos.endLine == cpos.line) = true := by rfl)
    (hm : behindInMarks (if neg then .NotIn else .In) (.Call (.Attribute e "values" apos) [] [] cpos) = false := by rfl) :
    PE X (.Compare a [if neg then .NotIn else .In] [.Call (.Attribute e "values" apos) [] [] cpos] pos) (tev C cl Wx (xVin neg xa xe)) := pv_vin hc neg hx ha hbase hline hm
end
end Ov
namespace Ov
open PySem PySem.Spec PyProof.Rows L2
def eqO (cl : CL) (tab : List (Nat × Nat)) (x y : W) (h : Hw) : R W := match look h x with
  | .obj c _ _ => (match tab.lookup c with
    | some f => (match look h y with
      | .obj d _ _ => (match tab.lookup d with
        | some _ => cl f [x, y] h
        | none => .no)
      | .any => .no
      | .scr _ => .no
      | .ref _ => .no
      | _ => cl f [x, y] h)
    | none => .no)
  | _ => cmpW .eq x y h
def xEqO (tab : List (Nat × Nat)) (a b : Ex) : Ex := fun cl σ h => (a cl σ h).bind fun x h1 => (b cl σ h1).bind fun y h2 => eqO cl tab x y h2
def dtys : List String := ["NoneType", "bool", "int", "str", "tuple", "list", "dict"]
def EqOk (X : Cx) (C : Cf) (cl : CL) (k : Nat) (tab : List (Nat × Nat)) : Prop := ∀ c f, tab.lookup c = some f → ∃ g fd ps, PySem.W.findIn X.K (.ref (C.ca c)) "__eq__" = some (some (.ref g)) ∧ PySem.W.isFn X.K (.ref g) = true ∧
  FnG X.prog X.w X.K X.mg X.base k g fd ps (spC C cl f) ∧ Binds X.K fd ps [] ∧ (∀ d f', tab.lookup d = some f' → PySem.W.notFirst X.K (C.ca c) (.ref (C.ca d)) = true) ∧ ∀ T ∈ dtys, PySem.W.notFirst X.K (C.ca c) (.type T) = true
section
variable {X : Cx} {C : Cf} {cl : CL} {Wx : WX} {k : Nat} {pos : Pos}
theorem looks_of_cls {M : Model} {h : Heap} {a : Addr} {o : Obj} {T : String} (e : h.get? a = some o) (hc : o.cls = .type T) : PySem.W.Looks M h (typeOf (.ref a)) (.type T) := by
  rw [← hc]; exact (PySem.W.Looks.ld (part := none) e).andThen .now
theorem looks_data {pins : List (Addr × Obj)} {s : Shared} {σ : L2.St} {H : Hp} {γ : Gh} {h : Hw} {w : W} {x : V} {u : Value} (I : Inv X pins σ H s) (c : HC C γ h H) (hK : C.K = X.K) (r : RW C γ w x) (rx : RelV x u)
    (nd : match look h w with | .obj .. => False | .any => False | .scr _ => False | .ref _ => False | _ => True) : ∃ T ∈ dtys, PySem.W.Looks (model X.prog X.w) s.heap (typeOf u) (.type T) := by
  cases hl : look h w with
  | non => have := look_flat hl trivial; subst this; cases r; cases rx; exact ⟨"NoneType", by decide, .now⟩
  | bl b => have := look_flat hl trivial; subst this; cases r; cases rx; exact ⟨"bool", by decide, .now⟩
  | int b => have := look_flat hl trivial; subst this; cases r; obtain ⟨t, rfl⟩ := rx; exact ⟨"int", by decide, .now⟩
  | str b => have := look_flat hl trivial; subst this; cases r; obtain ⟨t, rfl⟩ := rx; exact ⟨"str", by decide, .now⟩
  | tup xs =>
    obtain ⟨a, vs, rfl, q1, q2⟩ := look_tup c r hl
    cases rx
    obtain ⟨its, rv, ⟨o, ho, hc, _⟩, hz⟩ := I.tuple (.inl q1)
    exact ⟨"tuple", by decide, looks_of_cls ho hc⟩
  | lst xs =>
    obtain ⟨a, vs, rfl, q1, q2⟩ := look_lst c r hl
    cases rx
    obtain ⟨its, rv, ⟨o, n, ho, hc, _⟩, hz⟩ := I.list (.inl q1)
    exact ⟨"list", by decide, looks_of_cls ho hc⟩
  | dct ks ws =>
    obtain ⟨a, o, xs, ys, rfl, q1, d, _⟩ := look_dct c r hl
    cases rx
    exact ⟨"dict", by decide, looks_of_cls (pin_get I.hok q1) d.ex.1⟩
  | _ => rw [hl] at nd; exact nd.elim
theorem eqO_run {tab : List (Nat × Nat)} (U : EqOk X C cl k tab) (hu : X.A.units + 65 < cLine) (hK : C.K = X.K) (hW : C.w = X.w) (hr : Room k X.A) (hgd : X.A.guards = some []) (tk : Takes X Wx) {pins : List (Addr × Obj)} {s : Shared} {σ : L2.St} {H : Hp} {γ : Gh} {h : Hw} {w1 w2 : W} {x y : V} {v u : Value} {Q : VK}
    (I : Inv X pins σ H s) (rx : RelV x v) (ry : RelV y u) (c : HC C γ h H) (r1 : RW C γ w1 x) (r2 : RW C γ w2 y) (p : PoE C γ H (eqO cl tab w1 w2 h) Q (fun cls d H' => Wx cls d σ H')) :
    wpAny (model X.prog X.w) X.A (compareOp .Eq v u) (EP X pins σ Q) X.xe s := by
  unfold eqO at p
  split at p
  · rename_i cc ns us hl
    split at p
    · rename_i f hf
      obtain ⟨b, dx, vs, rfl, hb, _, _⟩ := look_obj c r1 hl
      cases rx
      obtain ⟨g, fd, ps, q1, q2, F, hbd, n1, n2⟩ := U _ _ hf
      obtain ⟨mA, J, _⟩ := ins_get I.hok hb
      obtain ⟨od, J, _⟩ := J.look
      obtain ⟨m, hF⟩ := I.fr
      have fin : ∀ tb, PySem.W.Looks (model X.prog X.w) s.heap (typeOf u) tb → PySem.W.notFirst X.K (C.ca cc) tb = true → PoE C γ H (cl f [w1, w2] h) Q (fun cls d H' => Wx cls d σ H') → wpAny (model X.prog X.w) X.A (compareOp .Eq (.ref b) u) (EP X pins σ Q) X.xe s := fun tb lk nf p => by
        refine PySem.W.cmp_K (op := .Eq) (tb := tb) (by omega) hF I.ok.mod.kin J lk nf q1 q2 ?_
        have hsp : spC C cl f [V.ref b, y] H Q (WE Wx σ) := ⟨γ, h, [w1, w2], c, ⟨_, _, rfl, r1, ⟨_, _, rfl, r2, rfl⟩⟩, p⟩
        refine thn (goG F hr hgd hbd tk I (show Vals [V.ref b, y] [Value.ref b, u] from .cons rfl (.cons ry .nil)) hsp) fun z s' ez => ?_
        cases z with
        | notImplemented =>
          obtain ⟨v', _, _, rv, _⟩ := ez
          cases v' <;> first | (cases rv; done) | (obtain ⟨_, e⟩ := rv; cases e)
        | _ => exact ez
      split at p
      · rename_i d _ _ hy
        split at p
        · rename_i f' hd
          obtain ⟨b', dx', vs', rfl, hb', _, _⟩ := look_obj c r2 hy
          cases ry
          obtain ⟨mB, J', _⟩ := ins_get I.hok hb'
          obtain ⟨od', J', _⟩ := J'.look
          exact fin _ J'.type (n1 _ _ hd) p
        · exact p.elim
      · exact p.elim
      · exact p.elim
      · exact p.elim
      · rename_i z1 z2 z3 z4
        obtain ⟨T, hT, lk⟩ := looks_data I c hK r2 ry (by
          split <;> first | trivial | (rename_i e; first | exact z1 _ _ _ e | exact z2 e | exact z3 _ e | exact z4 _ e))
        exact fin _ lk (n2 T hT) p
    · exact p.elim
  · exact of_cmp hu hK hW .eq pins s σ H x y v u Q I rx ry ⟨_, γ, h, w1, w2, c, r1, r2, p⟩
variable {a b : Expr} {xa xb : Ex}
theorem pv_eqO {tab : List (Nat × Nat)} (U : EqOk X C cl k tab) (hu : X.A.units + 65 < cLine) (hK : C.K = X.K) (hW : C.w = X.w) (hr : Room k X.A) (hgd : X.A.guards = some []) (tk : Takes X Wx) (ha : PE X a (tev C cl Wx xa)) (hb : PE X b (tev C cl Wx xb)) (hm : behindInMarks .Eq b = false) :
    PE X (.Compare a [.Eq] [b] pos) (tev C cl Wx (xEqO tab xa xb)) := by
  refine ⟨fun pins s σ H Q I h => ?_⟩
  exact wpAny_Compare1 (binT ha hb I (R := fun x y H2 => rf2 C (eqO cl tab) (fun cls d H' => Wx cls d σ H') x y H2 Q) (tev2 (f := eqO cl tab) h) fun v u s2 x y H2 I2 rx ry ⟨γ, h, w1, w2, c, r1, r2, p⟩ => eqO_run U hu hK hW hr hgd tk I2 rx ry c r1 r2 p) hm
theorem ptv_eqO {tab : List (Nat × Nat)} (U : EqOk X C cl k tab) (hu : X.A.units + 65 < cLine) (hK : C.K = X.K) (hW : C.w = X.w) (hr : Room k X.A) (hgd : X.A.guards = some []) (tk : Takes X Wx) (ha : PE X a (tev C cl Wx xa)) (hb : PE X b (tev C cl Wx xb)) (hm : behindInMarks .Eq b = false) :
    PT X (.Compare a [.Eq] [b] pos) (ttv C cl Wx (xEqO tab xa xb)) := by
  refine ⟨fun pins s σ H Q I h => ?_⟩
  have h2 := tev2 (f := eqO cl tab) (ttv_tev h)
  refine wpAny_isTrue_Compare1 (thn (ha.run pins s σ H _ I h2) fun v s1 ⟨x, H1, I1, r1, q1⟩ => thn (hb.run pins s1 σ H1 _ I1 q1) fun u s2 ⟨y, H2, I2, r2, ⟨γ, h, w1, w2, c, rr1, rr2, p⟩⟩ =>
    thn (eqO_run U hu hK hW hr hgd tk I2 r1 r2 c rr1 rr2 p) fun c s3 ⟨z, H3, I3, r3, k, e, q3⟩ => ?_) hm
  subst e
  cases r3
  exact wpAny_truthy_bool ⟨H3, I3, q3⟩
theorem q_eqO (R : Rm X C k Wx) {tab : List (Nat × Nat)} (U : EqOk X C cl (2 * k + 1) tab) (ha : PE X a (tev C cl Wx xa)) (hb : PE X b (tev C cl Wx xb)) (hm : behindInMarks .Eq b = false := by rfl) :
    PE X (.Compare a [.Eq] [b] pos) (tev C cl Wx (xEqO tab xa xb)) := pv_eqO U R.hu R.K R.W R.r0 R.gd R.tk ha hb hm
theorem q_eqOT (R : Rm X C k Wx) {tab : List (Nat × Nat)} (U : EqOk X C cl (2 * k + 1) tab) (ha : PE X a (tev C cl Wx xa)) (hb : PE X b (tev C cl Wx xb)) (hm : behindInMarks .Eq b = false := by rfl) :
    PT X (.Compare a [.Eq] [b] pos) (ttv C cl Wx (xEqO tab xa xb)) := ptv_eqO U R.hu R.K R.W R.r0 R.gd R.tk ha hb hm
end
theorem nf_of {K : PySem.W.Frag} {c : Addr} {t : Value} (h : PySem.W.subIn K t (.ref c) = some false) : PySem.W.notFirst K c t = true := by
  unfold PySem.W.notFirst; rw [h]; simp
theorem kit_of {K : PySem.W.Frag} {C : Addr} {t : Value} {b : Bool} (h1 : PySem.W.isClsIn K C = true) (h2 : PySem.W.typeIn K (.ref C) = some (.type "type")) (h3 : PySem.W.subIn K t (.ref C) = some b) (hn : (t == Value.ref C) = false) : PySem.W.kitOne K t (.ref C) = some b := by
  have h4 : (PySem.W.clsIn K C).isSome = true := h1
  unfold PySem.W.kitOne PySem.W.kitCls
  simp [hn, h4, h2, h3]
theorem kit_same {K : PySem.W.Frag} {C : Addr} : PySem.W.kitOne K (.ref C) (.ref C) = some true := by
  unfold PySem.W.kitOne; simp
theorem dtys_of {K : PySem.W.Frag} {c : Addr} (h1 : PySem.W.subIn K (.type "NoneType") (.ref c) = some false) (h2 : PySem.W.subIn K (.type "bool") (.ref c) = some false) (h3 : PySem.W.subIn K (.type "int") (.ref c) = some false) (h4 : PySem.W.subIn K (.type "str") (.ref c) = some false)
    (h5 : PySem.W.subIn K (.type "tuple") (.ref c) = some false) (h6 : PySem.W.subIn K (.type "list") (.ref c) = some false) (h7 : PySem.W.subIn K (.type "dict") (.ref c) = some false) : ∀ T ∈ dtys, PySem.W.notFirst K c (.type T) = true := by
  intro T hT
  simp only [dtys, List.mem_cons, List.mem_nil_iff, or_false] at hT
  rcases hT with rfl | rfl | rfl | rfl | rfl | rfl | rfl
  · exact nf_of h1
  · exact nf_of h2
  · exact nf_of h3
  · exact nf_of h4
  · exact nf_of h5
  · exact nf_of h6
  · exact nf_of h7
end Ov
namespace Ov
open PySem PySem.Spec PyProof.Rows L2
open SeqAt
def isE (ne : Bool) (x : W) (h : Hw) : R W := match look h x with
  | .lst xs => .ok (.bl (if ne then !xs.isEmpty else xs.isEmpty)) h
  | _ => cmpW (if ne then .ne else .eq) x (.lst []) h
def xIsE (ne : Bool) (a : Ex) : Ex := fun cl σ h => (a cl σ h).bind fun x h1 => isE ne x h1
section
variable {X : Cx} {C : Cf} {cl : CL} {Wx : WX} {pos pos2 : Pos}
def rIsE (C : Cf) (ne : Bool) : R2 := fun x y H Q => ∃ (E : XK) (γ : Gh) (h : Hw) (w1 : W), HC C γ h H ∧ RW C γ w1 x ∧ RW C γ (.lst []) y ∧ PoE C γ H (isE ne w1 h) Q E
theorem op_isE (hu : X.A.units + 65 < cLine) (hK : C.K = X.K) (hW : C.w = X.w) (ne : Bool) : OpR X (compareOp (copOf (if ne then .ne else .eq))) (rIsE C ne) := by
  intro pins s σ H x y v u Q I rx ry ⟨E, γ, h, w1, c, r1, r2, p⟩
  unfold isE at p
  split at p
  · rename_i xs hl
    obtain ⟨a, vs, rfl, q1, q2⟩ := look_lst c r1 hl
    obtain ⟨b, us, rfl, q3, q4⟩ := look_lst c r2 (show look h (.lst []) = .lst [] from rfl)
    cases q4
    cases rx
    cases ry
    obtain ⟨its, rv, pl, hz⟩ := I.list (.inl q1)
    obtain ⟨its2, rv2, pl2, hz2⟩ := I.list (.inl q3)
    cases rv2
    have hlen : its.length = xs.length := by rw [← rv.length, q2.length]
    cases ne with
    | false =>
      show wpAny (model X.prog X.w) X.A (compareOp .Eq (.ref a) (.ref b)) (EP X pins σ Q) X.xe s
      cases xs with
      | nil =>
        have : its = [] := List.length_eq_zero_iff.mp hlen
        subst this
        exact eq_listAt (e := fun _ => true) pl.isList pl2.isList rfl (by omega) (fun j h1 _ => absurd h1 (by simp)) ⟨.bl _, H, I, rfl, PoE.here p c rfl⟩
      | cons w ws =>
        exact eq_list_lengthsAt pl.isList pl2.isList (by simp [hlen]) (by omega) ⟨.bl _, H, I, rfl, PoE.here p c rfl⟩
    | true =>
      show wpAny (model X.prog X.w) X.A (richCompare .NotEq (.ref a) (.ref b)) (EP X pins σ Q) X.xe s
      cases xs with
      | nil =>
        have : its = [] := List.length_eq_zero_iff.mp hlen
        subst this
        exact RcNeAt.lists (e := fun _ => true) pl.isList pl2.isList rfl (by omega) (fun j h1 _ => absurd h1 (by simp)) _ _ _ _ ⟨.bl _, H, I, rfl, PoE.here p c rfl⟩
      | cons w ws =>
        exact RcNeAt.lists_lengths pl.isList pl2.isList (by simp [hlen]) (by omega) _ _ _ _ ⟨.bl _, H, I, rfl, PoE.here p c rfl⟩
  · exact of_cmp hu hK hW (if ne then .ne else .eq) pins s σ H x y v u Q I rx ry ⟨E, γ, h, w1, .lst [], c, r1, r2, p⟩
variable {a : Expr} {xa : Ex}
theorem isE_sem {ne : Bool} {σ : L2.St} {H : Hp} {Q : VK} (t : tev C cl Wx (xIsE ne xa) σ H Q) : tev C cl Wx xa σ H fun x H1 => tev C cl Wx (xLst false xsNil) σ H1 fun y H2 => rIsE C ne x y H2 Q := by
  refine tev.imp (tev2 (xb := xLst false xsNil) (f := fun x y h => match y with
    | .lst [] => isE ne x h
    | _ => .no) (Q := Q) ?_) fun x H1 t1 => tev.imp t1 fun y H2 ⟨γ, h, w, u, c, r1, r2, p⟩ => ?_
  · obtain ⟨γ, σw, h, sl, hc, p⟩ := t
    exact ⟨γ, σw, h, sl, hc, p⟩
  · dsimp only at p
    split at p
    · exact ⟨_, γ, h, w, c, r1, r2, p⟩
    · exact p.elim
theorem pv_isE (hu : X.A.units + 65 < cLine) (hK : C.K = X.K) (hW : C.w = X.w) (ne : Bool) (ha : PE X a (tev C cl Wx xa)) (hm : behindInMarks (copOf (if ne then .ne else .eq)) (.List [] pos2) = false) :
    PE X (.Compare a [copOf (if ne then .ne else .eq)] [.List [] pos2] pos) (tev C cl Wx (xIsE ne xa)) :=
  PE.imp (pe_cmpR (op_isE (C := C) hu hK hW ne) ha (pv_lst (m := false) (cl := cl) (Wx := Wx) pas_nil) hm) fun σ H Q t => isE_sem t
theorem ptv_isE (hu : X.A.units + 65 < cLine) (hK : C.K = X.K) (hW : C.w = X.w) (ne : Bool) (ha : PE X a (tev C cl Wx xa)) (hm : behindInMarks (copOf (if ne then .ne else .eq)) (.List [] pos2) = false) :
    PT X (.Compare a [copOf (if ne then .ne else .eq)] [.List [] pos2] pos) (ttv C cl Wx (xIsE ne xa)) :=
  PT.imp (pt_cmpR (op_isE (C := C) hu hK hW ne) ha (pv_lst (m := false) (cl := cl) (Wx := Wx) pas_nil) hm) fun σ H Q t => isE_sem (ttv_tev t)
theorem q_isE (R : Rk X C) (ne : Bool) (ha : PE X a (tev C cl Wx xa)) : PE X (.Compare a [copOf (if ne then .ne else .eq)] [.List [] pos2] pos) (tev C cl Wx (xIsE ne xa)) := pv_isE R.hu R.K R.W ne ha (by cases ne <;> rfl)
theorem q_isET (R : Rk X C) (ne : Bool) (ha : PE X a (tev C cl Wx xa)) : PT X (.Compare a [copOf (if ne then .ne else .eq)] [.List [] pos2] pos) (ttv C cl Wx (xIsE ne xa)) := ptv_isE R.hu R.K R.W ne ha (by cases ne <;> rfl)
end
end Ov
namespace Ov
open PySem PySem.Spec PyProof.Rows L2
abbrev Hdl := CL → Nat → Option W → Sw → Hw → RS
def hNil : Hdl := fun _ c a σ h => .exn c a σ h
def hOne (tab : List (Nat × Bool)) (s : Sx) (r : Hdl) : Hdl := fun cl c a σ h => match tab.lookup c with
  | some true => (match s cl σ h with
    | .ok fl h2 => .ok fl h2
    | _ => .no)
  | some false => r cl c a σ h
  | none => .no
def hAs (tab : List (Nat × Bool)) (i : Nat) (s : Option W → Sx) (r : Hdl) : Hdl := fun cl c a σ h => match tab.lookup c with
  | some true => if Nat.blt i σ.length then (match s a cl (σ.set i none) h with
    | .ok (.nx σ2) h2 => .ok (.nx (σ2.set i none)) h2
    | .ok (.brk σ2) h2 => .ok (.brk (σ2.set i none)) h2
    | .ok (.ret w) h2 => .ok (.ret w) h2
    | _ => .no) else .no
  | some false => r cl c a σ h
  | none => .no
def sTryM (hd : Hdl) (b : Sx) : Sx := fun cl σ h => match b cl σ h with
  | .exn c a σ1 h1 => hd cl c a σ1 h1
  | r => r
abbrev Cls1 := Value × Option Nat × (Addr → Value → Option Addr → TS)
def unI (i : Nat) (D : Ends) : Ends := { nx := fun τ G => D.nx (τ.set i none) G, rt := D.rt, bk := fun τ G => D.bk (τ.set i none) G, ct := fun τ G => D.ct (τ.set i none) G }
def wMix (K : PySem.W.Frag) (Wo : WX) (D : Ends) : List Cls1 → WX
  | [] => Wo
  | (c, none, ts) :: r => fun k d τ G => ∃ t, PySem.W.exmOne K k c = some t ∧ (t = true → ∀ a, G a = none → ts a k d D τ G) ∧ (t = false → wMix K Wo D r k d τ G)
  | (c, some i, ts) :: r => fun k d τ G => ∃ t, PySem.W.exmOne K k c = some t ∧ (t = true → ∀ a, G a = none → ts a k d (unI i D) (τ.set i (some (.ref a))) G) ∧ (t = false → wMix K Wo D r k d τ G)
inductive HdsM (X : Cx) : List ExceptHandler → List Cls1 → Prop
  | nil : HdsM X [] []
  | one {x : Str} {c : Value} {ts : Addr → Value → Option Addr → TS} {st : Stmt} {su : List Stmt} {p1 p2 : Pos} {hs : List ExceptHandler} {l : List Cls1} (nc : Names X x c)
      (hu : ∀ (a : Addr) (oe : Obj) (k : Value) (d : Option Addr) (pn : List (Addr × Obj)), Zc k d oe → (∃ vs, oe.data = .fields vs) → PSs (X.suite a ((a, oe) :: pn)) (st :: su) (ts a k d)) (r : HdsM X hs l) :
      HdsM X (.ExceptHandler (some (.Name x p1)) none (st :: su) p2 :: hs) ((c, none, ts) :: l)
  | as {x n : Str} {i : Nat} {c : Value} {ts : Addr → Value → Option Addr → TS} {st : Stmt} {su : List Stmt} {p1 p2 : Pos} {hs : List ExceptHandler} {l : List Cls1} (nc : Names X x c) (hi : X.N[i]? = some n) (hn : X.env.kindOf n = some .local)
      (hu : ∀ (a : Addr) (oe : Obj) (k : Value) (d : Option Addr) (pn : List (Addr × Obj)), Zc k d oe → (∃ vs, oe.data = .fields vs) → PSs (X.suite a ((a, oe) :: pn)) (st :: su) (ts a k d)) (r : HdsM X hs l) :
      HdsM X (.ExceptHandler (some (.Name x p1)) (some n) (st :: su) p2 :: hs) ((c, some i, ts) :: l)
section
variable {X : Cx} {body : List Stmt} {h1 : ExceptHandler} {hs : List ExceptHandler} {l : List Cls1} {pos : Pos} {tb : WX → TS} {Wo : WX}
theorem ps_mix (xs : X.stack = X.env :: X.outer) (xf : X.env.frame = some X.env.locals) (xN : X.N.Nodup) (tk : Takes X Wo)
    (hb : ∀ (V : WX) (pn : List (Addr × Obj)) (xe : Value → Shared → Prop), Takes (X.tr pn xe) V → PassesOwn (model X.prog X.w) X.A X.env xe → PSs (X.tr pn xe) body (tb V))
    (hh : HdsM X (h1 :: hs) l) : PS X (.Try body (h1 :: hs) [] [] pos) (fun D σ H => tb (wMix X.K Wo D l) D σ H) := by
  refine ⟨fun pins s σ H D I0 h => ?_⟩
  have okI := I0.ok
  have frI : X.A.frames = some (X.env :: X.outer) := by rw [okI.frames, xs]
  refine wpAny_Try_except (wpAny_mono ((hb (wMix X.K Wo D l) (X.pn ++ pins) (fun e u1 => wpAny (model X.prog X.w) X.A (noteFrame e X.env) (fun _ u2 => wpAny (model X.prog X.w) X.A (setFlight e none) (fun _ u3 =>
    wpAny (model X.prog X.w) X.A (handleBy e X.env (h1 :: hs)) (SP X pins D) X.xe u3) X.xe u2) X.xe u1) (fun u t1 xx => ?_) PassesOwn.looking).run [] s σ H D (I0.toTry _) h) (fun fl t1 q => ?_) fun e t1 he => he)
  · obtain ⟨a, B, sI, pins', τ, G, k, d, rfl, JT, nb, up, sky, na, os, ag, w⟩ := xx
    have J := JT.ofTry okI
    have skyB : Sky B (X.env :: X.outer) a (Zc k d) X.env.locals t1.heap := by rw [← xs]; exact sky
    show wpAny _ X.A (noteFrame (Value.ref a) X.env) _ _ _
    refine Sky.land Zc.steady frI xf skyB fun g3 fl3 up3 => ?_
    have J3 : Inv X pins τ G { t1 with heap := g3 } := J.landed nb fl3.1 (up.trans up3) os ag
    obtain ⟨oe3, vs3, o3, z3, d3⟩ := fl3.there
    have nofr : a ∉ frs (X.env :: X.outer) := fun hm => by
      obtain ⟨_, o', e', hnf⟩ := fl3.2.2.1.mem hm
      rw [o3] at e'; cases e'
      exact hnf _ d3
    have nlo : a ≠ X.env.locals := fun z => nofr (List.mem_filterMap.mpr ⟨X.env, .head _, by rw [xf, z]⟩)
    have nfs : a ∉ X.fs := fun hm => let ⟨e, he, q⟩ := List.mem_filterMap.mp hm; nofr (List.mem_filterMap.mpr ⟨e, .tail _ he, q⟩)
    have S3 := J3.suite o3 d3 na nlo nfs
    have lookT : PySem.W.Looks (model X.prog X.w) g3 (typeOf (.ref a)) k := fun A Q E s kk q => wpAny_typeOf_ref (kk _ _ o3) (by rw [z3.1]; exact q)
    have name1 : ∀ {x : Str} {c : Value} {p1 : Pos} {Q : Value → Shared → Prop} {E : Value → Shared → Prop}, Names X x c → Q c { t1 with heap := g3 } → wpAny (model X.prog X.w) (X.A.mark (some (.ref a))) (eval (.Name x p1) X.env) Q E { t1 with heap := g3 } := by
      intro x c p1 Q E nc q
      rcases nc with ⟨n1, n2, n3 | ⟨n3, n4, n5⟩⟩
      · exact ld_glob (X := X.suite a ((a, oe3) :: (X.pn ++ pins))) S3 n1 n3 q n2
      · exact ld_blt (X := X.suite a ((a, oe3) :: (X.pn ++ pins))) S3 n1 n3 n4 q n5 n2
    have go : ∀ {hs' : List ExceptHandler} {l' : List Cls1}, HdsM X hs' l' → wMix X.K Wo D l' k d τ G → wpAny (model X.prog X.w) X.A (handleBy (.ref a) X.env hs') (SP X pins D) X.xe { t1 with heap := g3 } := by
      intro hs' l' hk
      induction hk with
      | nil =>
        intro w
        refine wpAny_handleBy_nil ?_
        have fl3' := fl3
        obtain ⟨_, _, _, oe, vs, T, oT, tsv, y1, y2, y3, y4, y5⟩ := fl3'
        unfold PySem.passOn
        refine wpAny_bind (wpAny_field y1 y3 y4 ?_)
        rw [if_neg (by simp)]
        have fin : wpAny (model X.prog X.w) X.A (setFlight (.ref a) X.env.frame) (fun _ u4 => wpAny (model X.prog X.w) X.A (throw (.ref a) : Sem Flow) (SP X pins D) X.xe u4) X.xe { t1 with heap := g3 } := by
          rw [xf]
          exact HandSPX.setFlight_upZ fl3 fun g4 hh4 up4 => wpAny_throw (tk _ _ ⟨a, B, sI, pins, τ, G, k, d, rfl, J, nb, (up.trans up3).trans up4, .inr (.inr (by rw [xs]; exact hh4)), na, os, ag, w⟩)
        first
          | exact wpAny_bind (wpAny_pure (wpAny_bind fin))
          | exact wpAny_bind fin
      | @one x c ts st su p1 p2 hs2 l2 nc hu r ih =>
        intro w
        obtain ⟨t, m1, m2, m3⟩ := w
        refine wpAny_handleBy_cons (codeAny_handlers_test ?_) (by intro q; cases q)
        refine name1 nc ((PySem.W.exm_one (M := model X.prog X.w) J3.kIn lookT m1).here ?_)
        cases t with
        | false => exact ih (m3 rfl)
        | true =>
          refine codeAny_handlers_suite (HandSPX.lands_againZ fl3 fun g4 fl4 up4 => ?_)
          have J4 : Inv X pins τ G { t1 with heap := g4 } := J.landed nb fl4.1 ((up.trans up3).trans up4) os ag
          obtain ⟨oe4, vs4, o4, z4, d4⟩ := fl4.there
          refine wpAny_mono ((hu a oe4 k d (X.pn ++ pins) z4 ⟨_, d4⟩).run [] _ _ G _ (J4.suite o4 d4 na nlo nfs) (m2 rfl a na)) (fun f t6 q => ?_) (fun _ _ z => z.elim)
          cases f with
          | ret u => obtain ⟨v6, τ6, G6, S6, r6, q6⟩ := q; exact ⟨_, _, _, S6.unsuite okI, r6, q6⟩
          | _ => obtain ⟨τ6, G6, S6, q6⟩ := q; exact ⟨_, _, S6.unsuite okI, q6⟩
      | @as x n i c ts st su p1 p2 hs2 l2 nc hi hn hu r ih =>
        intro w
        obtain ⟨t, m1, m2, m3⟩ := w
        refine wpAny_handleBy_cons (codeAny_handlers_test ?_) (by intro q; cases q)
        refine name1 nc ((PySem.W.exm_one (M := model X.prog X.w) J3.kIn lookT m1).here ?_)
        cases t with
        | false => exact ih (m3 rfl)
        | true =>
          refine codeAny_handlers_suite_as (HandSPX.lands_againZ fl3 fun g4 fl4 up4 => ?_)
          have J4 : Inv X pins τ G { t1 with heap := g4 } := J.landed nb fl4.1 ((up.trans up3).trans up4) os ag
          obtain ⟨oe4, vs4, o4, z4, d4⟩ := fl4.there
          refine store_ok (X := X.suite a ((a, oe4) :: (X.pn ++ pins))) (v := .ref a) (J4.suite o4 d4 na nlo nfs) xN hi (.inl hn) rfl (fun t5 S5 => ?_) (.inr hn)
          refine wpAny_mono ((hu a oe4 k d (X.pn ++ pins) z4 ⟨_, d4⟩).run [] t5 _ G _ S5 (m2 rfl a na)) (fun f t6 q => ?_) (fun _ _ z => z.elim)
          have gone : ∀ {τ6 : L2.St} {G6 : Hp} {Q : Shared → Prop}, Inv (X.suite a ((a, oe4) :: (X.pn ++ pins))) [] τ6 G6 t6 → (∀ t7, Inv X pins (τ6.set i none) G6 t7 → Q t7) →
              wpAny (model X.prog X.w) X.A (do bindName X.env n .none; unbindBehindTheSuite X.env n p2) (fun _ t7 => Q t7) X.xe t6 := fun S6 hq => gone_ok (S6.unsuite okI) xN hi hn hq
          cases f with
          | ret u => obtain ⟨v6, τ6, G6, S6, r6, q6⟩ := q; exact gone S6 fun t7 J7 => ⟨_, _, _, J7, r6, q6⟩
          | next => obtain ⟨τ6, G6, S6, q6⟩ := q; exact gone S6 fun t7 J7 => ⟨_, _, J7, q6⟩
          | brk => obtain ⟨τ6, G6, S6, q6⟩ := q; exact gone S6 fun t7 J7 => ⟨_, _, J7, q6⟩
          | cont => obtain ⟨τ6, G6, S6, q6⟩ := q; exact gone S6 fun t7 J7 => ⟨_, _, J7, q6⟩
    exact go hh w
  · cases fl with
    | next => obtain ⟨τ, G, J, q⟩ := q; exact wpAny_execs_nil ⟨τ, G, J.ofTry okI, q⟩
    | ret u => obtain ⟨v, τ, G, J, r, q⟩ := q; exact ⟨v, τ, G, J.ofTry okI, r, q⟩
    | _ => obtain ⟨τ, G, J, q⟩ := q; exact ⟨τ, G, J.ofTry okI, q⟩
end
end Ov
namespace Ov
open PySem PySem.Spec PyProof.Rows L2
section
variable {X : Cx} {C : Cf} {cl : CL} {Wx : WX} {k : Nat} {pos : Pos}
def HdS (X : Cx) (C : Cf) (cl : CL) (Wx : WX) (l : List Cls1) (hd : Hdl) : Prop := ∀ (D : Ends) (γ : Gh) (σw : Sw) (τ : L2.St) (h : Hw) (G : Hp) (c : Nat) (ao : Option W) (cls : Value) (d : Option Addr),
  SL C γ σw τ → HC C γ h G → RX C γ G c ao cls d → PoS C γ G (hd cl c ao σw h) D Wx → wMix X.K Wx D l cls d τ G
def HM (X : Cx) (C : Cf) (cl : CL) (Wx : WX) (hs : List ExceptHandler) (hd : Hdl) : Prop := ∃ l, HdsM X hs l ∧ HdS X C cl Wx l hd
theorem hm_nil : HM X C cl Wx [] hNil := ⟨[], .nil, fun D γ σw τ h G c ao cls d sl hc rx p => p γ τ G cls d (Ext.refl _ _) (Keep.refl _ _) hc sl rx⟩
theorem hm_one {x : Str} {cv : Value} {tab : List (Nat × Bool)} {st : Stmt} {su : List Stmt} {p1 p2 : Pos} {hs : List ExceptHandler} {sx : Sx} {hd : Hdl} (nc : Names X x cv) (htab : ∀ c' t, tab.lookup c' = some t → PySem.W.exmOne X.K (.ref (C.ca c')) cv = some t)
    (hu : ∀ (a : Addr) (oe : Obj) (pn : List (Addr × Obj)), PSs (X.suite a ((a, oe) :: pn)) (st :: su) (tst C cl WF sx)) (r : HM X C cl Wx hs hd) :
    HM X C cl Wx (.ExceptHandler (some (.Name x p1)) none (st :: su) p2 :: hs) (hOne tab sx hd) := by
  obtain ⟨l, r1, r2⟩ := r
  refine ⟨(cv, none, fun _ _ _ => tst C cl WF sx) :: l, .one nc (fun a oe _ _ pn _ _ => hu a oe pn) r1, fun D γ σw τ h G c ao cls d sl hc rx p => ?_⟩
  unfold hOne at p
  cases et : tab.lookup c with
  | none => rw [et] at p; exact p.elim
  | some t =>
    rw [et] at p
    refine ⟨t, by rw [rx.1]; exact htab c t et, fun e a _ => ?_, fun e => ?_⟩
    · subst e
      dsimp only at p
      refine ⟨γ, σw, h, sl, hc, ?_⟩
      cases es : sx cl σw h with
      | no => rw [es] at p; exact p.elim
      | exn c2 a2 σ2 h2 => rw [es] at p; exact p.elim
      | ok fl h2 => rw [es] at p; cases fl <;> exact p
    · subst e; exact r2 D γ σw τ h G c ao cls d sl hc rx p
theorem hm_as {x n : Str} {i : Nat} {cv : Value} {tab : List (Nat × Bool)} {st : Stmt} {su : List Stmt} {p1 p2 : Pos} {hs : List ExceptHandler} {sx : Option W → Sx} {hd : Hdl} (nc : Names X x cv) (hi : X.N[i]? = some n) (hn : X.env.kindOf n = some .local) (htab : ∀ c' t, tab.lookup c' = some t → PySem.W.exmOne X.K (.ref (C.ca c')) cv = some t)
    (hu : ∀ (a : Addr) (oe : Obj) (cls : Value) (d : Option Addr) (pn : List (Addr × Obj)), Zc cls d oe → (∃ vs, oe.data = .fields vs) → PSs (X.suite a ((a, oe) :: pn)) (st :: su) (tstX C cl i tab sx a cls d)) (r : HM X C cl Wx hs hd) :
    HM X C cl Wx (.ExceptHandler (some (.Name x p1)) (some n) (st :: su) p2 :: hs) (hAs tab i sx hd) := by
  obtain ⟨l, r1, r2⟩ := r
  refine ⟨(cv, some i, fun a cls d => tstX C cl i tab sx a cls d) :: l, .as nc hi hn hu r1, fun D γ σw τ h G c ao cls d sl hc rx p => ?_⟩
  unfold hAs at p
  cases et : tab.lookup c with
  | none => rw [et] at p; exact p.elim
  | some t =>
    rw [et] at p
    refine ⟨t, by rw [rx.1]; exact htab c t et, fun e a _ => ?_, fun e => ?_⟩
    · subst e
      dsimp only at p
      by_cases hlt : Nat.blt i σw.length = true
      · rw [if_pos hlt] at p
        have hl : i < τ.length := by rw [← sl.1]; exact Nat.le_of_ble_eq_true hlt
        refine ⟨γ, σw.set i none, h, c, ao, ⟨by simp [sl.1], fun j u e => ?_⟩, hc, et, by rw [List.getElem?_set_self hl], rx, ?_⟩
        · have z := (sl.setN i).2 j u e
          by_cases hj : i = j
          · subst hj
            rw [List.getElem?_set_self (by rw [sl.1]; exact hl)] at e; cases e
          · rw [List.getElem?_set_ne hj] at z ⊢
            exact z
        · cases es : sx ao cl (σw.set i none) h with
          | no => rw [es] at p; exact p.elim
          | exn c2 a2 σ2 h2 => rw [es] at p; exact p.elim
          | ok fl h2 =>
            rw [es] at p
            cases fl with
            | ret w => exact p
            | nx σ2 => exact fun γ2 σ3 H2 e2 k2 c2 s2 => p γ2 _ H2 e2 k2 c2 (s2.setN i)
            | brk σ2 => exact fun γ2 σ3 H2 e2 k2 c2 s2 => p γ2 _ H2 e2 k2 c2 (s2.setN i)
      · rw [if_neg hlt] at p; exact p.elim
    · subst e; exact r2 D γ σw τ h G c ao cls d sl hc rx p
theorem psv_tryM {body : List Stmt} {h1 : ExceptHandler} {hs : List ExceptHandler} {hd : Hdl} {b : Sx} (xs : X.stack = X.env :: X.outer) (xf : X.env.frame = some X.env.locals) (xN : X.N.Nodup) (tk : Takes X Wx)
    (hb : ∀ (V : WX) (pn : List (Addr × Obj)) (xe : Value → Shared → Prop), Takes (X.tr pn xe) V → PassesOwn (model X.prog X.w) X.A X.env xe → PSs (X.tr pn xe) body (tst C cl V b)) (hh : HM X C cl Wx (h1 :: hs) hd) :
    PS X (.Try body (h1 :: hs) [] [] pos) (tst C cl Wx (sTryM hd b)) := by
  obtain ⟨l, r1, r2⟩ := hh
  refine PS.imp (ps_mix xs xf xN tk hb r1) fun D σ H ⟨γ, σw, h, sl, hcc, q⟩ => ⟨γ, σw, h, sl, hcc, ?_⟩
  unfold sTryM at q
  cases eb : b cl σw h with
  | no => rw [eb] at q; exact q
  | ok fl h1 => rw [eb] at q; cases fl <;> exact q
  | exn c ao σ1 h1 =>
    rw [eb] at q
    exact fun γ1 σ' H1 cls d e1 k1 c1 s1 rx => r2 D γ1 σ1 σ' h1 H1 c ao cls d s1 c1 rx (PoS.step q e1 k1)
end
section
variable {X' : Cx} {C : Cf} {cl : CL} {i : Nat} {tab : List (Nat × Bool)} {a : Addr} {cls : Value} {d : Option Addr} {e : Expr} {es : List Expr} {pos p : Pos} {xX : Option W → Ex} {xsX : Option W → Exs} {g : Gf} {x : Str} {id : String}
theorem esX_one {γ : Gh} {H : Hp} {σw : Sw} {h : Hw} {x : Ex} {Q : List V → Hp → Prop} {E : XK} (p : PoEs C γ H (xsCons x xsNil cl σw h) Q E) : PoE C γ H (x cl σw h) (fun v H1 => Q [v] H1) E := by
  unfold xsCons xsNil at p
  cases ea : x cl σw h with
  | no => rw [ea] at p; exact p
  | exn c a h1 => rw [ea] at p; exact p
  | ok w h1 => rw [ea] at p; exact fun γ' v H' e k c r => p γ' [v] H' e k c ⟨v, [], rfl, r, rfl⟩
theorem pasX_one (he : PE X' e (tevX C cl i tab a cls d xX)) (hs : starEach [e] X'.env = (false, eval e X'.env) :: starEach [] X'.env) : PA X' [e] (tesX C cl i tab a cls d (fun o => xsCons (xX o) xsNil)) :=
  PA.imp (pa_cons he pa_nil hs) fun σ H Q ⟨γ, σw, h, c', ao, sl, hc, ht, hi, rx, p⟩ => ⟨γ, σw, h, c', ao, sl, hc, ht, hi, rx, esX_one p⟩
theorem pasX_con {s : List Nat} {m : Str} {j} {p0 : Pos} (hm : m = mkS s) (he : PE X' e (tevX C cl i tab a cls d xX)) (hs0 : starEach [.Constant (.str m) j p0, e] X'.env = (false, eval (.Constant (.str m) j p0) X'.env) :: starEach [e] X'.env) (hs : starEach [e] X'.env = (false, eval e X'.env) :: starEach [] X'.env) :
    PA X' [.Constant (.str m) j p0, e] (tesX C cl i tab a cls d (fun o => xsCons (xCon (.str s)) (xsCons (xX o) xsNil))) := by
  subst hm
  refine PA.imp (pa_cons pe_str (pa_cons he pa_nil hs) hs0) fun σ H Q ⟨γ, σw, h, c', ao, sl, hc, ht, hi, rx, p⟩ => ⟨γ, σw, h, c', ao, sl, hc, ht, hi, rx, ?_⟩
  unfold xsCons xsNil xCon at p
  cases ea : xX ao cl σw h with
  | no => simp only [R.bind, ea] at p; exact p
  | exn c a h1 => simp only [R.bind, ea] at p; exact p
  | ok w h1 => simp only [R.bind, ea] at p; exact fun γ' v H' e k c r => p γ' [_, v] H' e k c ⟨_, _, rfl, rfl, ⟨v, [], rfl, r, rfl⟩⟩
theorem pvX_tup {x1} (ha : PA X' es (tesX C cl i tab a cls d xsX)) : PE X' (.Tuple es x1 pos) (tevX C cl i tab a cls d (fun o => xTup (xsX o))) :=
  PE.imp (pe_tup ha) fun σ H Q ⟨γ, σw, h, c', ao, sl, hc, ht, hi, rx, p⟩ => by
    refine ⟨γ, σw, h, c', ao, sl, hc, ht, hi, rx, ?_⟩
    unfold xTup at p; dsimp only at p
    cases ea : xsX ao cl σw h with
    | no => rw [ea] at p; exact p
    | exn c a h1 => rw [ea] at p; exact p
    | ok ws h1 =>
      rw [ea] at p
      intro γ1 vs H1 e1 k1 c1 r1
      have p1 := PoE.step p e1 k1
      simp only [R.bind] at p1
      split at p1
      · rename_i z
        exact ⟨by rw [← r1.length]; exact Nat.le_of_lt (most_line z), fun b n => PoE.tupNew p1 c1 r1 n⟩
      · exact p1.elim
theorem pvX_lst {m : Bool} (ha : PA X' es (tesX C cl i tab a cls d xsX)) : PE X' (.List es pos) (tevX C cl i tab a cls d (fun o => xLst m (xsX o))) :=
  PE.imp (pe_lst ha) fun σ H Q ⟨γ, σw, h, c', ao, sl, hc, ht, hi, rx, p⟩ => by
    refine ⟨γ, σw, h, c', ao, sl, hc, ht, hi, rx, ?_⟩
    unfold xLst at p; dsimp only at p
    cases ea : xsX ao cl σw h with
    | no => rw [ea] at p; exact p
    | exn c a h1 => rw [ea] at p; exact p
    | ok ws h1 =>
      rw [ea] at p
      intro γ1 vs H1 e1 k1 c1 r1
      have p1 := PoE.step p e1 k1
      simp only [R.bind] at p1
      split at p1
      · rename_i z
        exact ⟨by rw [← r1.length]; exact Nat.le_of_lt (most_line z), fun b n => PoE.lstMade p1 c1 r1 n⟩
      · exact p1.elim
theorem pvX_B (hcr : CallR X' (.builtin id) (rG C g)) (hg : Gl X' x) (hm : X'.mg x = none) (hv : bootBuiltins x = some (.builtin id)) (ha : PA X' (e :: es) (tesX C cl i tab a cls d xsX)) (hn : x ≠ "__name__") (hdb : (x == ("__debug__" : Str)) = false)
    (he : starEach (e :: es) X'.env = (false, eval e X'.env) :: starEach es X'.env) (hpl : (backTo pos (starEach es X'.env)).any (·.1) = false) : PE X' (.Call (.Name x p) (e :: es) [] pos) (tevX C cl i tab a cls d (fun o => xF g (xsX o))) :=
  PE.imp (pe_callB hcr hg hm hv ha hn hdb he hpl) fun σ H Q ⟨γ, σw, h, c', ao, sl, hc, ht, hi, rx, p⟩ => by
    refine ⟨γ, σw, h, c', ao, sl, hc, ht, hi, rx, ?_⟩
    unfold xF at p; dsimp only at p
    cases ea : xsX ao cl σw h with
    | no => rw [ea] at p; exact p
    | exn c a h1 => rw [ea] at p; exact p
    | ok ws h1 =>
      rw [ea] at p
      exact fun γ1 vs H1 e1 k1 c1 r1 => ⟨_, γ1, h1, ws, c1, r1, PoE.step p e1 k1⟩
end
section
variable {X : Cx} {C : Cf} {cl : CL} {Wx : WX} {k : Nat} {pos : Pos}
theorem q_tryM (R : Rm X C k Wx) {body : List Stmt} {h1 : ExceptHandler} {hs : List ExceptHandler} {hd : Hdl} {b : Sx} (xN : X.N.Nodup)
    (hb : ∀ (V : WX) (pn : List (Addr × Obj)) (xe : Value → Shared → Prop), Rm (X.tr pn xe) C k V → PSs (X.tr pn xe) body (tst C cl V b)) (hh : HM X C cl Wx (h1 :: hs) hd)
    (xs : X.stack = X.env :: X.outer := by rfl) (xf : X.env.frame = some X.env.locals := by rfl) : PS X (.Try body (h1 :: hs) [] [] pos) (tst C cl Wx (sTryM hd b)) := psv_tryM xs xf xN R.tk (fun V pn xe tk ps => hb V pn xe (R.tr tk ps)) hh
theorem q_hOne (R : Rm X C k Wx) {x : Str} {cv : Value} {tab : List (Nat × Bool)} {st : Stmt} {su : List Stmt} {p1 p2 : Pos} {hs : List ExceptHandler} {sx : Sx} {hd : Hdl} (hm : X.mg x = some cv) (htab : ∀ c' t, tab.lookup c' = some t → PySem.W.exmOne X.K (.ref (C.ca c')) cv = some t)
    (hu : ∀ (a : Addr) (oe : Obj) (pn : List (Addr × Obj)), Rk (X.suite a ((a, oe) :: pn)) C → PSs (X.suite a ((a, oe) :: pn)) (st :: su) (tst C cl WF sx)) (r : HM X C cl Wx hs hd) (hg : Gl X x := by rfl) (hdb : (x == ("__debug__" : Str)) = false := by decide) :
    HM X C cl Wx (.ExceptHandler (some (.Name x p1)) none (st :: su) p2 :: hs) (hOne tab sx hd) := hm_one ⟨hg, hdb, .inl hm⟩ htab (fun a oe pn => hu a oe pn R.rk.suite) r
theorem q_hAs (R : Rm X C k Wx) (i : Nat) {x n : Str} {cv : Value} {tab : List (Nat × Bool)} {st : Stmt} {su : List Stmt} {p1 p2 : Pos} {hs : List ExceptHandler} {sx : Option W → Sx} {hd : Hdl} (hm : X.mg x = some cv) (htab : ∀ c' t, tab.lookup c' = some t → PySem.W.exmOne X.K (.ref (C.ca c')) cv = some t)
    (hu : ∀ (a : Addr) (oe : Obj) (cls : Value) (d : Option Addr) (pn : List (Addr × Obj)), Rk (X.suite a ((a, oe) :: pn)) C → Zc cls d oe → (∃ vs, oe.data = .fields vs) → PSs (X.suite a ((a, oe) :: pn)) (st :: su) (tstX C cl i tab sx a cls d)) (r : HM X C cl Wx hs hd)
    (hi : X.N[i]? = some n := by rfl) (hn : X.env.kindOf n = some .local := by rfl) (hg : Gl X x := by rfl) (hdb : (x == ("__debug__" : Str)) = false := by decide) :
    HM X C cl Wx (.ExceptHandler (some (.Name x p1)) (some n) (st :: su) p2 :: hs) (hAs tab i sx hd) := hm_as ⟨hg, hdb, .inl hm⟩ hi hn htab (fun a oe cls d pn z f => hu a oe cls d pn R.rk.suite z f) r
section
variable {X' : Cx} {i : Nat} {tab : List (Nat × Bool)} {a : Addr} {cls : Value} {d : Option Addr} {e : Expr} {es : List Expr} {p : Pos} {xX : Option W → Ex} {xsX : Option W → Exs}
theorem qX_one (he : PE X' e (tevX C cl i tab a cls d xX)) (hs : starEach [e] X'.env = (false, eval e X'.env) :: starEach [] X'.env := by rfl) : PA X' [e] (tesX C cl i tab a cls d (fun o => xsCons (xX o) xsNil)) := pasX_one he hs
theorem qX_con {s : List Nat} {m : Str} {j} {p0 : Pos} (he : PE X' e (tevX C cl i tab a cls d xX)) (hm : m = mkS s := by kernel_rfl) (hs0 : starEach [.Constant (.str m) j p0, e] X'.env = (false, eval (.Constant (.str m) j p0) X'.env) :: starEach [e] X'.env := by rfl) (hs : starEach [e] X'.env = (false, eval e X'.env) :: starEach [] X'.env := by rfl) :
    PA X' [.Constant (.str m) j p0, e] (tesX C cl i tab a cls d (fun o => xsCons (xCon (.str s)) (xsCons (xX o) xsNil))) := pasX_con hm he hs0 hs
theorem qX_repr (R : Rk X' C) (hm : X'.mg "repr" = none) (ha : PA X' (e :: es) (tesX C cl i tab a cls d xsX)) (hg : Gl X' "repr" := by rfl) (he : starEach (e :: es) X'.env = (false, eval e X'.env) :: starEach es X'.env := by rfl) (hpl : (backTo pos (starEach es X'.env)).any (·.1) = false := by rfl) :
    PE X' (.Call (.Name "repr" p) (e :: es) [] pos) (tevX C cl i tab a cls d (fun o => xF gRepr (xsX o))) := pvX_B (c_repr R.hu R.gd R.K) hg hm (by decide +kernel) ha (by decide) (by decide) he hpl
end
end
end Ov
namespace Ov
open PySem PySem.Spec PyProof.Rows L2
structure SMeI (K : PySem.W.Frag) (C : Addr) (m : Str) (q g : Addr) : Prop where
  fd : PySem.W.findIn K (.ref C) m = some (some (.ref q))
  ty : PySem.W.typeIn K (.ref q) = some (.type "staticmethod")
  gt : PySem.W.specialIn K (.ref q) "__get__" = some (some (.builtin "staticmethod.__get__"))
  tk : PySem.W.takesIn K (.ref q) = some false
  cp : PySem.W.copiedNames.contains m = false
  rc : ∃ rest, PySem.W.recIn K q "staticmethod" = some (.ref g :: rest)
  kp : PySem.W.keepIn K (.ref g) = true
section
variable {X : Cx} {pins : List (Addr × Obj)} {σ : L2.St} {H : Hp} {s : Shared} {a C dx : Addr} {fs : List (Str × V)} {A : Around} {E : Value → Shared → Prop}
theorem getstat_ok {m : Str} {q g : Addr} {pl : Sem Bool} {Q : Value × List Value → Shared → Prop} (I : Inv X pins σ H s) (e : H a = some (.ins C dx fs)) (c : Cls X.K C) (k : SMeI X.K C m q g) (l : fs.lookup m = none)
    (h : ∀ s', Inv X pins σ H s' → Q (.ref g, []) s') : wpAny (model X.prog X.w) A (getMethod (.ref a) m pl) Q E s := by
  obtain ⟨mA, O, r, _, _, _⟩ := ins_get I.hok e
  have hn : mA m = none := RelO.none_of (by rw [← l]; exact r m)
  obtain ⟨od, J, hl⟩ := O.look
  obtain ⟨rest, hp⟩ := k.rc
  refine PySem.W.method_usual I.kIn J (PySem.W.plainGet_of (c.get m)).1 (PySem.W.plainGet_of (c.get m)).2 k.fd (by simp only [Option.all_some, k.ty, Option.any_some]; decide +kernel)
    (PySem.W.get_bind I.kIn J (PySem.W.plainGet_of (c.get m)).1 (PySem.W.findObj_fn c.hd k.fd k.gt k.tk k.cp (by rw [hl, hn])) (PySem.W.plainGet_of (c.get m)).2
      (wpAny_call (PySem.W.sm_get (s := { s with toks := s.toks + 1 }) I.kIn hp (PySem.W.handed_on rfl (h _ (I.tok _))))))
end
def xUs (tab : List (Nat × Nat)) (nm : Nat) (o : Ex) (es : Exs) : Ex := fun cl σ h => (o cl σ h).bind fun x h1 => match look h1 x with
  | .obj c ns _ => if ns.any (Nat.beq nm) then .no else (match tab.lookup c with
    | some f => (es cl σ h1).bind fun ws h2 => cl f ws h2
    | none => .no)
  | _ => .no
section
variable {X : Cx} {C : Cf} {cl : CL} {Wx : WX} {k c : Nat} {f : Nat} {fz : Bool} {fa : Addr} {fd : FuncData} {ps : List Str} {x m : Str} {p pos apos : Pos} {a o value : Expr} {es : List Expr} {xs : Exs} {xo xe : Ex}
theorem us_sem {tab : List (Nat × Nat)} {nm : Nat} {σ : L2.St} {H : Hp} {Q : VK} (t : tev C cl Wx (xUs tab nm xo xs) σ H Q) (inj : ∀ i j, C.nm i = C.nm j → i = j) :
    tev C cl Wx xo σ H (fun v H1 => ∃ a k f dx fs, v = .ref a ∧ tab.lookup k = some f ∧ H1 a = some (.ins (C.ca k) dx fs) ∧ fs.lookup (C.nm nm) = none ∧
      tes C cl Wx xs σ H1 (fun vs H2 => spC C cl f vs H2 Q (fun cls d H' => Wx cls d σ H'))) := by
  refine (tev1s (f := fun x σ h1 => match look h1 x with
    | .obj c ns _ => if ns.any (Nat.beq nm) then .no else (match tab.lookup c with
      | some f => (xs cl σ h1).bind fun ws h2 => cl f ws h2
      | none => .no)
    | _ => .no) t).imp fun v H1 ⟨γ, σw, h, w, sl, hc, r, p⟩ => ?_
  dsimp only at p
  cases hl : look h w with
  | obj k ns us =>
    rw [hl] at p
    dsimp only at p
    cases hn : ns.any (Nat.beq nm) with
    | true => rw [hn] at p; exact p.elim
    | false =>
      rw [hn] at p
      cases ht : tab.lookup k with
      | none => rw [ht] at p; exact p.elim
      | some f =>
        rw [ht] at p
        dsimp only at p
        rw [if_neg (by decide)] at p
        obtain ⟨a, dx, vs, rfl, hh, l, r'⟩ := look_obj hc r hl
        refine ⟨a, k, f, dx, _, rfl, ht, hh, ?_, γ, σw, h, sl, hc, ?_⟩
        · have nf : ∀ (ns : List Nat) (vs : List V), ns.any (Nat.beq nm) = false → ((ns.map C.nm).zip vs).lookup (C.nm nm) = none := by
            intro ns
            induction ns with
            | nil => intro vs _; rfl
            | cons n ns ih =>
              intro vs e
              rw [List.any_cons, Bool.or_eq_false_iff] at e
              cases vs with
              | nil => rfl
              | cons v vs =>
                have ne : C.nm nm ≠ C.nm n := fun q => by
                  have := inj _ _ q
                  subst this
                  rw [Nat.beq_refl] at e; exact absurd e.1 (by decide)
                have b : (C.nm nm == C.nm n) = false := by simpa using ne
                simp [List.lookup, b, ih vs e.2]
          exact nf ns vs hn
        · cases ex : xs cl σw h with
          | no => rw [ex] at p; exact p
          | exn c aa h1 => rw [ex] at p; exact p
          | ok ws h1 =>
            rw [ex] at p
            intro γ1 us' H2 e2 k2 c2 r2
            exact ⟨γ1, h1, ws, c2, r2, PoE.step p e2 k2⟩
  | _ => rw [hl] at p; exact p.elim
def UsOk (X : Cx) (C : Cf) (cl : CL) (k : Nat) (m : Str) (tab : List (Nat × Nat)) : Prop := ∀ c f, tab.lookup c = some f → ∃ q g fd ps, Cls X.K (C.ca c) ∧ SMeI X.K (C.ca c) m q g ∧ FnG X.prog X.w X.K X.mg X.base k g fd ps (spC C cl f) ∧ Binds X.K fd ps []
theorem stab_nil {m : Str} {k : Nat} : UsOk X C cl k m [] := fun _ _ h => by cases h
theorem stab_one {m : Str} {k c f : Nat} (h : ∃ q g fd ps, Cls X.K (C.ca c) ∧ SMeI X.K (C.ca c) m q g ∧ FnG X.prog X.w X.K X.mg X.base k g fd ps (spC C cl f) ∧ Binds X.K fd ps []) : UsOk X C cl k m [(c, f)] := fun c' f' e => by
  by_cases z : c' = c
  · subst z
    have : some f = some f' := by simpa [List.lookup] using e
    cases this
    exact h
  · have b : (c' == c) = false := by simpa using z
    simp [List.lookup, b] at e
theorem pv_us {tab : List (Nat × Nat)} {nm : Nat} {pl : Sem Bool} (hK : C.K = X.K) (inj : ∀ i j, C.nm i = C.nm j → i = j) (hf : C.nm nm = m) (U : UsOk X C cl k m tab) (hr : Room k X.A) (hgd : X.A.guards = some []) (tk : Takes X Wx)
    (ho : PE X o (tev C cl Wx xo)) (ha : PA X (a :: es) (tes C cl Wx xs)) (he : starEach (a :: es) X.env = (false, eval a X.env) :: starEach es X.env) (hpl : (backTo pos (starEach es X.env)).any (·.1) = false)
    (ht : eval (.Call (.Attribute o m apos) (a :: es) [] pos) X.env = (do
      let ov ← eval o X.env
      standAt apos.atName
      let (f, first) ← holding [ov] (getMethod ov m pl)
      callWith pos f first (backTo pos (starEach (a :: es) X.env)) (backToKw pos (keywordEach [] X.env)))) :
    PE X (.Call (.Attribute o m apos) (a :: es) [] pos) (tev C cl Wx (xUs tab nm xo xs)) := by
  subst hf
  refine ⟨fun pins s σ H Q I h => ?_⟩
  refine PySem.W.methodCall_KW (pl := pl) (thn (ho.run pins s σ H _ I (us_sem h inj)) fun u s1 ⟨x, H1, I1, rx, b, c, f, dx, fs, ex, et, eb, l, q⟩ => ?_) ht
  subst ex
  obtain rfl : u = Value.ref b := rx
  obtain ⟨qq, g, fd, ps, c1, c2, F, hb⟩ := U c f et
  refine getstat_ok I1 eb c1 c2 l fun s1' J => ?_
  refine PySem.W.callWith_K (h₀ := X.base) J.ok.mod.kin c2.kp (thn (ha.run pos pins s1' σ H1 _ J q) fun us s2 ⟨vs, H2, I2, r, q2⟩ => ⟨I2.kIn, ?_⟩) he hpl
  exact goG F hr hgd hb tk I2 r q2
end
section
variable {X : Cx} {C : Cf} {cl : CL} {Wx : WX} {k : Nat} {a b : Expr} {es : List Expr} {xb : Ex} {xs : Exs} {pos : Pos}
theorem q_us (R : Rm X C k Wx) {tab : List (Nat × Nat)} {nm : Nat} {m : Str} {apos : Pos} {pl : Sem Bool} (inj : ∀ i j, C.nm i = C.nm j → i = j) (U : UsOk X C cl (2 * k + 1) m tab) (ho : PE X b (tev C cl Wx xb)) (ha : PA X (a :: es) (tes C cl Wx xs)) (hf : C.nm nm = m := by rfl)
    (he : starEach (a :: es) X.env = (false, eval a X.env) :: starEach es X.env := by rfl) (hpl : (backTo pos (starEach es X.env)).any (·.1) = false := by rfl)
    (ht : eval (.Call (.Attribute b m apos) (a :: es) [] pos) X.env = (do
      let ov ← eval b X.env
      standAt apos.atName
      let (f, first) ← holding [ov] (getMethod ov m pl)
      callWith pos f first (backTo pos (starEach (a :: es) X.env)) (backToKw pos (keywordEach [] X.env))) := by rfl) :
    PE X (.Call (.Attribute b m apos) (a :: es) [] pos) (tev C cl Wx (xUs tab nm xb xs)) := pv_us R.K inj hf U R.r0 R.gd R.tk ho ha he hpl ht
end
end Ov
namespace PySem.W
open PySem PySem.Spec PySem.Calls PyProof.Rows Builtin
section
variable {prog : Program} {w : World} {M : Model} {A : Around} {E : Value → Shared → Prop} {s : Shared} {K : Frag} {x C f L : Addr} {ox : Obj} {od : Option Obj} {h₀ : Heap} {m : Str → Option Value} {b tb : Value}
theorem ifBound_B {name : Str} {id : String} {args : List Value} {Q : Option Value → Shared → Prop} (X : K.In s.heap) (I : InstAt s.heap x ox C od) (hs : findIn K (.ref C) name = some (some (.builtin id)))
    (hb : ∀ self, bindSpecial (.builtin id) self = pure (.builtin id, [self])) (h : wpAny M A (call (.builtin id) (.ref x :: args)) (fun v => Q (some v)) E s) : wpAny M A (callSpecialIfBound? (.ref x) name args) Q E s := by
  simp only [callSpecialIfBound?, bindSpecialIfBound?]
  refine wpAny_holding (wpAny_bind (wpAny_bind (wpAny_bind (I.type.here ((looks_findIn X hs).here ?_)))))
  refine wpAny_bind (wpAny_askSetting (wpAny_ite ?_))
  have fin : wpAny M A (call (.builtin id) ([.ref x] ++ args) >>= fun v => pure (some v)) Q E s := wpAny_bind (wpAny_mono h (fun v s' h' => wpAny_pure h') fun _ _ h' => h')
  split
  · exact wpAny_bind ((Looks.of_pure (hb _)).here (wpAny_pure (by exact fin)))
  · exact wpAny_tryCatch (wpAny_bind ((Looks.of_pure (hb _)).here (wpAny_pure (by exact fin))))
theorem cmp_ne_K {Q : Value → Shared → Prop} (hu : A.units + 1 < cLine) (fr : Fr h₀ L s.heap m) (X₀ : K.In h₀) (I : InstAt s.heap x ox C od) (hb : Looks (model prog w) s.heap (typeOf b) tb) (hn : notFirst K C tb = true)
    (hne : findIn K (.ref C) "__ne__" = some (some (.builtin "object.__ne__"))) (hm : mroIn K C (.type "object") = some true) (hs : findIn K (.ref C) "__eq__" = some (some (.ref f))) (hf : isFn K (.ref f) = true)
    (h : wpAny (model prog w) A.in1 (call (.ref f) [.ref x, b]) (fun v s' => ∃ r, v = .bool r ∧ Q (.bool (!r)) s') E s) : wpAny (model prog w) A (richCompare .NotEq (.ref x) b) Q E s := by
  have X := X₀.keeps fr.keep
  have one : wpAny (model prog w) A (tryCompare (.ref x) "__ne__" b) (fun r s' => ∃ v, r = some v ∧ Q v s') E s := by
    unfold tryCompare
    refine wpAny_bind (ifBound_B X I hne PySem.F.cmp_object.ne.bind (wpAny_call (codeAny_call_builtin PySem.F.cmp_object.ne.plain PySem.F.cmpEntry_ne
      (check_slot (i := "object.__ne__") (owner := "object") (n := "__ne__") PySem.F.cmpKind_ne PySem.F.cmpSplit_ne (I.type.andThen (looks_mroIn X hm)) (PySem.F.cmpArgs_ne _ _) ?_))))
    unfold Builtin.«object.__ne__»
    refine wpAny_bind (m := slotArgs "__ne__" 1 _) (wpAny_pure ?_)
    refine wpAny_bind (m := cRoomFor _ _) (wpAny_cRoomFor (show A.in1.units < cLine from hu) ?_)
    refine wpAny_bind (m := callSpecialIfBound? (.ref x) (Str.ofString "__eq__") [b]) (ifBound_K X I hs hf (wpAny_mono h (fun v s' hv => ?_) fun _ _ e => e))
    obtain ⟨r, rfl, hq⟩ := hv
    refine wpAny_bind (m := truthy (.bool r)) (wpAny_truthy_bool ?_)
    exact wpAny_pure (wpAny_pure ⟨_, rfl, hq⟩)
  unfold richCompare
  simp only [oneThing_ref]
  refine wpAny_holding (wpAny_bind (wpAny_cRoomFor (Nat.lt_of_succ_lt hu) ?_))
  rw [cmpInfo_NotEq]
  refine wpAny_bind (I.type.here (wpAny_bind (hb.here ?_)))
  split
  · rename_i q
    have e : subIn K tb (.ref C) = some false := by
      rcases Bool.or_eq_true_iff.mp hn with e | e
      · rw [beq_iff_eq.mp e] at q; simp at q
      · exact beq_iff_eq.mp e
    refine wpAny_bind ((looks_subIn X e).here ?_)
    simp only [Bool.false_eq_true, if_false]
    refine wpAny_bind (wpAny_mono one (fun r s' z => ?_) fun _ _ e => e)
    obtain ⟨v, rfl, hq⟩ := z
    exact wpAny_pure hq
  · refine wpAny_bind (wpAny_pure ?_)
    simp only [Bool.false_eq_true, if_false]
    refine wpAny_bind (wpAny_mono one (fun r s' z => ?_) fun _ _ e => e)
    obtain ⟨v, rfl, hq⟩ := z
    exact wpAny_pure hq
end
end PySem.W
namespace Ov
open PySem PySem.Spec PyProof.Rows L2
section
variable {X : Cx} {k : Nat} {f c : Addr} {fd : FuncData} {ps : List Str} {sp : Sp} {Wx : WX} {pins : List (Addr × Obj)} {σ : L2.St} {H : Hp} {s : Shared} {Q : VK} {us : List Value} {vs : List V}

theorem room_in2 {k : Nat} {A : Around} (r : Room (k + 1) A) : Room k A.in1.in1 := ⟨r.hd, by have := r.dp; show A.depth + 3 * k + 5 < _; omega, by have := r.un; show A.units + 1 + 1 + 16 * k + 200 < _; omega⟩
theorem goG1 (F : FnG X.prog X.w X.K X.mg X.base k f fd ps sp) (hr : Room k X.A.in1) (hg : X.A.guards = some []) (hb : Binds X.K fd ps []) (tk : Takes X Wx)
    (I : Inv X pins σ H s) (r : Vals vs us) (h : sp vs H Q (WE Wx σ)) : wpAny (model X.prog X.w) X.A.in1 (call (.ref f) us) (EP X pins σ Q) X.xe s := by
  have l : (us ++ []).length = ps.length := by rw [List.append_nil, ← r.length]; exact F.len _ _ _ _ h
  have b := hb s us I.kIn l
  rw [List.append_nil] at b
  exact wpAny_call (codeAny_mono (F.run X.A.in1 X.stack s H ⟨us, []⟩ us vs Q _ hr hg I.env0.in1 b r h) fun _ _ q => end_of I tk q)
theorem goG2 (F : FnG X.prog X.w X.K X.mg X.base k f fd ps sp) (hr : Room k X.A.in1.in1) (hg : X.A.guards = some []) (hb : Binds X.K fd ps []) (tk : Takes X Wx)
    (I : Inv X pins σ H s) (r : Vals vs us) (h : sp vs H Q (WE Wx σ)) : wpAny (model X.prog X.w) X.A.in1.in1 (call (.ref f) us) (EP X pins σ Q) X.xe s := by
  have l : (us ++ []).length = ps.length := by rw [List.append_nil, ← r.length]; exact F.len _ _ _ _ h
  have b := hb s us I.kIn l
  rw [List.append_nil] at b
  exact wpAny_call (codeAny_mono (F.run X.A.in1.in1 X.stack s H ⟨us, []⟩ us vs Q _ hr hg I.env0.in1.in1 b r h) fun _ _ q => end_of I tk q)
end
def notR : W → Hw → R W := fun z h => match z with
  | .bl b => .ok (.bl (!b)) h
  | _ => .no
def neO (cl : CL) (tab : List (Nat × Nat)) (x y : W) (h : Hw) : R W := match look h x with
  | .obj c _ _ => (match tab.lookup c with
    | some f => (match look h y with
      | .obj d _ _ => (match tab.lookup d with
        | some _ => (cl f [x, y] h).bind notR
        | none => .no)
      | .any => .no
      | .scr _ => .no
      | .ref _ => .no
      | _ => (cl f [x, y] h).bind notR)
    | none => .no)
  | _ => cmpW .ne x y h
def xNeO (tab : List (Nat × Nat)) (a b : Ex) : Ex := fun cl σ h => (a cl σ h).bind fun x h1 => (b cl σ h1).bind fun y h2 => neO cl tab x y h2
def NeOk (X : Cx) (C : Cf) (cl : CL) (k : Nat) (tab : List (Nat × Nat)) : Prop := EqOk X C cl k tab ∧ ∀ c f, tab.lookup c = some f → PySem.W.findIn X.K (.ref (C.ca c)) "__ne__" = some (some (.builtin "object.__ne__")) ∧ PySem.W.mroIn X.K (C.ca c) (.type "object") = some true
section
variable {X : Cx} {C : Cf} {cl : CL} {Wx : WX} {k : Nat} {pos : Pos}
theorem not_bind {γ : Gh} {H : Hp} {Q : VK} {E : XK} {r : R W} (p : PoE C γ H (r.bind notR) Q E) : PoE C γ H r (fun v H' => ∃ b, v = .bl b ∧ Q (.bl (!b)) H') E := by
  cases r with
  | no => exact p
  | exn c a h => exact p
  | ok w h =>
    intro γ1 v H2 e1 k1 c1 r1
    cases w with
    | bl b =>
      cases r1
      exact ⟨b, rfl, p γ1 (.bl (!b)) H2 e1 k1 c1 rfl⟩
    | _ => exact p.elim
theorem neO_run {tab : List (Nat × Nat)} (U : NeOk X C cl k tab) (hu : X.A.units + 65 < cLine) (hK : C.K = X.K) (hW : C.w = X.w) (hr : Room k X.A.in1) (hgd : X.A.guards = some []) (tk : Takes X Wx) {pins : List (Addr × Obj)} {s : Shared} {σ : L2.St} {H : Hp} {γ : Gh} {h : Hw} {w1 w2 : W} {x y : V} {v u : Value} {Q : VK}
    (I : Inv X pins σ H s) (rx : RelV x v) (ry : RelV y u) (c : HC C γ h H) (r1 : RW C γ w1 x) (r2 : RW C γ w2 y) (p : PoE C γ H (neO cl tab w1 w2 h) Q (fun cls d H' => Wx cls d σ H')) :
    wpAny (model X.prog X.w) X.A (compareOp .NotEq v u) (EP X pins σ Q) X.xe s := by
  unfold neO at p
  split at p
  · rename_i cc ns us hl
    split at p
    · rename_i f hf
      obtain ⟨b, dx, vs, rfl, hb, _, _⟩ := look_obj c r1 hl
      cases rx
      obtain ⟨g, fd, ps, q1, q2, F, hbd, n1, n2⟩ := U.1 _ _ hf
      obtain ⟨o1, o2⟩ := U.2 _ _ hf
      obtain ⟨mA, J, _⟩ := ins_get I.hok hb
      obtain ⟨od, J, _⟩ := J.look
      obtain ⟨m, hF⟩ := I.fr
      have fin : ∀ tb, PySem.W.Looks (model X.prog X.w) s.heap (typeOf u) tb → PySem.W.notFirst X.K (C.ca cc) tb = true → PoE C γ H ((cl f [w1, w2] h).bind notR) Q (fun cls d H' => Wx cls d σ H') → wpAny (model X.prog X.w) X.A (compareOp .NotEq (.ref b) u) (EP X pins σ Q) X.xe s := fun tb lk nf p => by
        refine PySem.W.cmp_ne_K (tb := tb) (by omega) hF I.ok.mod.kin J lk nf o1 o2 q1 q2 ?_
        have hsp : spC C cl f [V.ref b, y] H (fun v H' => ∃ b, v = .bl b ∧ Q (.bl (!b)) H') (WE Wx σ) := ⟨γ, h, [w1, w2], c, ⟨_, _, rfl, r1, ⟨_, _, rfl, r2, rfl⟩⟩, not_bind p⟩
        refine thn (goG1 F hr hgd hbd tk I (show Vals [V.ref b, y] [Value.ref b, u] from .cons rfl (.cons ry .nil)) hsp) fun z s' ez => ?_
        obtain ⟨v', H', I', rv, bb, rfl, q⟩ := ez
        cases rv
        exact ⟨bb, rfl, .bl (!bb), H', I', rfl, q⟩
      split at p
      · rename_i d _ _ hy
        split at p
        · rename_i f' hd
          obtain ⟨b', dx', vs', rfl, hb', _, _⟩ := look_obj c r2 hy
          cases ry
          obtain ⟨mB, J', _⟩ := ins_get I.hok hb'
          obtain ⟨od', J', _⟩ := J'.look
          exact fin _ J'.type (n1 _ _ hd) p
        · exact p.elim
      · exact p.elim
      · exact p.elim
      · exact p.elim
      · rename_i z1 z2 z3 z4
        obtain ⟨T, hT, lk⟩ := looks_data I c hK r2 ry (by
          split <;> first | trivial | (rename_i e; first | exact z1 _ _ _ e | exact z2 e | exact z3 _ e | exact z4 _ e))
        exact fin _ lk (n2 T hT) p
    · exact p.elim
  · exact of_cmp hu hK hW .ne pins s σ H x y v u Q I rx ry ⟨_, γ, h, w1, w2, c, r1, r2, p⟩
variable {a b : Expr} {xa xb : Ex}
theorem pv_neO {tab : List (Nat × Nat)} (U : NeOk X C cl k tab) (hu : X.A.units + 65 < cLine) (hK : C.K = X.K) (hW : C.w = X.w) (hr : Room k X.A.in1) (hgd : X.A.guards = some []) (tk : Takes X Wx) (ha : PE X a (tev C cl Wx xa)) (hb : PE X b (tev C cl Wx xb)) (hm : behindInMarks .NotEq b = false) :
    PE X (.Compare a [.NotEq] [b] pos) (tev C cl Wx (xNeO tab xa xb)) := by
  refine ⟨fun pins s σ H Q I h => ?_⟩
  exact wpAny_Compare1 (binT ha hb I (R := fun x y H2 => rf2 C (neO cl tab) (fun cls d H' => Wx cls d σ H') x y H2 Q) (tev2 (f := neO cl tab) h) fun v u s2 x y H2 I2 rx ry ⟨γ, h, w1, w2, c, r1, r2, p⟩ => neO_run U hu hK hW hr hgd tk I2 rx ry c r1 r2 p) hm
theorem ptv_neO {tab : List (Nat × Nat)} (U : NeOk X C cl k tab) (hu : X.A.units + 65 < cLine) (hK : C.K = X.K) (hW : C.w = X.w) (hr : Room k X.A.in1) (hgd : X.A.guards = some []) (tk : Takes X Wx) (ha : PE X a (tev C cl Wx xa)) (hb : PE X b (tev C cl Wx xb)) (hm : behindInMarks .NotEq b = false) :
    PT X (.Compare a [.NotEq] [b] pos) (ttv C cl Wx (xNeO tab xa xb)) := by
  refine ⟨fun pins s σ H Q I h => ?_⟩
  have h2 := tev2 (f := neO cl tab) (ttv_tev h)
  refine wpAny_isTrue_Compare1 (thn (ha.run pins s σ H _ I h2) fun v s1 ⟨x, H1, I1, r1, q1⟩ => thn (hb.run pins s1 σ H1 _ I1 q1) fun u s2 ⟨y, H2, I2, r2, ⟨γ, h, w1, w2, c, rr1, rr2, p⟩⟩ =>
    thn (neO_run U hu hK hW hr hgd tk I2 r1 r2 c rr1 rr2 p) fun c s3 ⟨z, H3, I3, r3, k, e, q3⟩ => ?_) hm
  subst e
  cases r3
  exact wpAny_truthy_bool ⟨H3, I3, q3⟩
theorem q_neO (R : Rm X C k Wx) {tab : List (Nat × Nat)} (U : NeOk X C cl (2 * k + 1) tab) (ha : PE X a (tev C cl Wx xa)) (hb : PE X b (tev C cl Wx xb)) (hm : behindInMarks .NotEq b = false := by rfl) :
    PE X (.Compare a [.NotEq] [b] pos) (tev C cl Wx (xNeO tab xa xb)) := pv_neO U R.hu R.K R.W R.room.in1 R.gd R.tk ha hb hm
theorem q_neOT (R : Rm X C k Wx) {tab : List (Nat × Nat)} (U : NeOk X C cl (2 * k + 1) tab) (ha : PE X a (tev C cl Wx xa)) (hb : PE X b (tev C cl Wx xb)) (hm : behindInMarks .NotEq b = false := by rfl) :
    PT X (.Compare a [.NotEq] [b] pos) (ttv C cl Wx (xNeO tab xa xb)) := ptv_neO U R.hu R.K R.W R.room.in1 R.gd R.tk ha hb hm
end
end Ov
namespace Ov
open PySem PySem.Spec PyProof.Rows L2
def strR : W → Hw → R W := fun z h => match z with
  | .str s => .ok (.str s) h
  | _ => .no
def gStrO (cl : CL) (tab : List (Nat × Nat)) : Gf := fun ws h => match ws with
  | [w] => (match look h w with
    | .obj c _ _ => (match tab.lookup c with
      | some f => (cl f [w] h).calm.bind strR
      | none => .no)
    | _ => gStr ws h)
  | _ => .no
def StOk (X : Cx) (C : Cf) (cl : CL) (k : Nat) (tab : List (Nat × Nat)) : Prop := ∀ c f, tab.lookup c = some f → ∃ g fd ps, PySem.W.findIn X.K (.ref (C.ca c)) "__str__" = some (some (.ref g)) ∧ PySem.W.isFn X.K (.ref g) = true ∧
  FnG X.prog X.w X.K X.mg X.base k g fd ps (spC C cl f) ∧ Binds X.K fd ps []
section
variable {X : Cx} {C : Cf} {cl : CL} {Wx : WX} {k : Nat} {pos : Pos}
theorem str_bind {γ : Gh} {H : Hp} {Q : VK} {E E' : XK} {r : R W} (p : PoE C γ H (r.calm.bind strR) Q E) : PoE C γ H r (fun v H' => ∃ s, v = .str s ∧ Q v H') E' := by
  cases r with
  | no => exact p.elim
  | exn c a h => exact p.elim
  | ok w h =>
    intro γ1 v H2 e1 k1 c1 r1
    cases w with
    | str s =>
      cases r1
      exact ⟨_, rfl, p γ1 (.str (mkS s)) H2 e1 k1 c1 rfl⟩
    | _ => exact p.elim
theorem c_strO {tab : List (Nat × Nat)} (R : Rm X C k Wx) (U : StOk X C cl (2 * k + 1) tab) : CallR X (.type "str") (rG C (gStrO cl tab)) := by
  intro pins s σ H vs us Q I rv ⟨E, γ, h, ws, c, r, q⟩
  unfold gStrO at q
  split at q
  · rename_i w
    obtain ⟨v, rfl, r1⟩ := one_rw r
    split at q
    · rename_i cc ns ux hl
      split at q
      · rename_i f hf
        obtain ⟨b, dx, ys, rfl, hb, _, _⟩ := look_obj c r1 hl
        obtain ⟨u, rfl, ru⟩ := vals1 rv
        cases ru
        obtain ⟨g, fd, ps, q1, q2, F, hbd⟩ := U _ _ hf
        obtain ⟨mA, J, _⟩ := ins_get I.hok hb
        obtain ⟨od, J, _⟩ := J.look
        have hu2 : X.A.in1.in1.units < cLine := by have := R.room.un; show X.A.units + 1 + 1 < _; omega
        refine PySem.W.kso_call hu2 I.kIn J q1 q2 ?_
        have hsp : spC C cl f [V.ref b] H (fun v H' => ∃ s, v = .str s ∧ Q v H') (WE WF σ) := ⟨γ, h, [w], c, ⟨_, _, rfl, r1, rfl⟩, str_bind q⟩
        refine thn (goG2 F (room_in2 R.room) R.gd hbd takes0 I (show Vals [V.ref b] [Value.ref b] from .cons rfl .nil) hsp) fun z s' ez => ?_
        obtain ⟨v', H', I', rv', ss, rfl, q⟩ := ez
        obtain ⟨t, rfl⟩ := rv'
        exact ⟨.str ss, H', I', ⟨t, rfl⟩, q⟩
      · exact q.elim
    · exact c_str pins s σ H _ us Q I rv ⟨E, γ, h, [w], c, r, q⟩
  · exact q.elim
def xFmt (e : Ex) : Ex := fun cl σ h => (e cl σ h).bind fun x h1 => match look h1 x with
  | .str s => if Nat.blt s.length most then .ok (.str s) h1 else .no
  | _ => .no
theorem pv_fmt {e : Expr} {xe : Ex} {p p2 : Pos} (he : PE X e (tev C cl Wx xe)) : PE X (.JoinedStr [.FormattedValue e (-1) none p] p2) (tev C cl Wx (xFmt xe)) := by
  refine pe_joined1 (PE.imp (pe_fmt he) fun σ H Q t => ?_)
  refine (tev1' (f := fun x h1 => match look h1 x with
    | .str s => if Nat.blt s.length most then .ok (.str s) h1 else .no
    | _ => .no) t).imp fun v H1 ⟨γ, h, w, hc, r, p⟩ => ?_
  dsimp only at p
  cases hl : look h w with
  | str s =>
    rw [hl] at p
    dsimp only at p
    split at p
    · rename_i hz
      have : w = .str s := by
        cases w with
        | ref n =>
          unfold look at hl
          dsimp only at hl
          split at hl <;> cases hl
        | str t => exact hl
        | _ => cases hl
      subst this
      cases r
      have lt : s.length < most := Nat.le_of_ble_eq_true hz
      refine .inl ⟨mkS s, rfl, ?_, PoE.here p hc rfl⟩
      have e : (mkS s).length = s.length := by simp [mkS, Str.length]
      rw [e, sizeLine_eq]
      unfold most at lt
      omega
    · exact p.elim
  | _ => rw [hl] at p; exact p.elim
theorem q_fmt {e : Expr} {xe : Ex} {p p2 : Pos} (he : PE X e (tev C cl Wx xe)) : PE X (.JoinedStr [.FormattedValue e (-1) none p] p2) (tev C cl Wx (xFmt xe)) := pv_fmt he
end
def xStrO (tab : List (Nat × Nat)) (es : Exs) : Ex := fun cl σ h => xF (gStrO cl tab) es cl σ h
section
variable {X : Cx} {C : Cf} {cl : CL} {Wx : WX} {k : Nat} {pos p : Pos} {a : Expr} {es : List Expr} {xs : Exs}
theorem q_strO (R : Rm X C k Wx) {tab : List (Nat × Nat)} (U : StOk X C cl (2 * k + 1) tab) {x : Str} (hm : X.mg x = none) (ha : PA X (a :: es) (tes C cl Wx xs)) (hv : bootBuiltins x = some (.type "str") := by decide +kernel) (hg : Gl X x := by rfl) (hn : x ≠ "__name__" := by decide) (hdb : (x == ("__debug__" : Str)) = false := by decide)
    (he : starEach (a :: es) X.env = (false, eval a X.env) :: starEach es X.env := by rfl) (hpl : (backTo pos (starEach es X.env)).any (·.1) = false := by rfl) : PE X (.Call (.Name x p) (a :: es) [] pos) (tev C cl Wx (xStrO tab xs)) :=
  q_Ty "str" (c_strO R U) hm ha hv hg hn hdb he hpl
end
end Ov
namespace Ov
open PySem PySem.Spec PyProof.Rows L2
theorem pre_iff : ∀ (s t : List Nat), isPre s t = true ↔ t.take s.length = s
  | [], t => by simp [isPre]
  | a :: r, [] => by simp [isPre]
  | a :: r, b :: t => by
    have ih := pre_iff r t
    simp only [isPre, Bool.and_eq_true, List.length_cons, List.take_succ_cons, List.cons.injEq, ih]
    constructor
    · rintro ⟨h1, h2⟩; exact ⟨(Nat.eq_of_beq_eq_true h1).symm, h2⟩
    · rintro ⟨h1, h2⟩; exact ⟨by rw [h1]; exact Nat.beq_refl a, h2⟩
theorem sub_iff (s : List Nat) : ∀ t : List Nat, isSub s t = true ↔ ∃ i, i + s.length ≤ t.length ∧ (t.drop i).take s.length = s
  | [] => by
    show isPre s [] = true ↔ _
    rw [pre_iff]
    constructor
    · intro h
      refine ⟨0, ?_, by simpa using h⟩
      have := congrArg List.length h
      simp at this
      simp [← this]
    · rintro ⟨i, h1, h2⟩
      simpa using h2
  | b :: t => by
    have ih := sub_iff s t
    show (isPre s (b :: t) || isSub s t) = true ↔ _
    rw [Bool.or_eq_true, pre_iff, ih]
    constructor
    · rintro (h | ⟨i, h1, h2⟩)
      · refine ⟨0, ?_, by simpa using h⟩
        have := congrArg List.length h
        rw [List.length_take] at this
        omega
      · exact ⟨i + 1, by simp only [List.length_cons]; omega, by simpa using h2⟩
    · rintro ⟨i, h1, h2⟩
      cases i with
      | zero => exact .inl (by simpa using h2)
      | succ i => exact .inr ⟨i, by simp only [List.length_cons] at h1; omega, by simpa using h2⟩
theorem found_sub (s t : List Nat) : (!(Builtin.Str.occurrences (mkS t) (mkS s) 0 (mkS t).length 1).isEmpty) = isSub s t := by
  rw [Bool.eq_iff_iff, StrLaws.found_iff, sub_iff]
  have l1 : (mkS t).length = t.length := by simp [mkS, Str.length]
  have l2 : (mkS s).length = s.length := by simp [mkS, Str.length]
  rw [l1, l2]
  have e : ∀ i, Builtin.Str.subAt (mkS t) (mkS s) i = true ↔ (t.drop i).take s.length = s := by
    intro i
    unfold Builtin.Str.subAt
    rw [l2]
    show ((t.toArray.extract i (i + s.length)) == s.toArray) = true ↔ _
    rw [beq_iff_eq]
    constructor
    · intro h
      have := congrArg Array.toList h
      simp at this
      simpa [List.extract_eq_drop_take] using this
    · intro h
      apply Array.ext'
      simp
      simpa [List.extract_eq_drop_take] using h
  constructor
  · rintro ⟨i, h1, h2⟩; exact ⟨i, h1, (e i).mp h2⟩
  · rintro ⟨i, h1, h2⟩; exact ⟨i, h1, (e i).mpr h2⟩
def inS (neg : Bool) (x y : W) (h : Hw) : R W := match x, y with
  | .str s, .str t => .ok (.bl (if neg then !isSub s t else isSub s t)) h
  | _, _ => cmpW (if neg then .notin else .isin) x y h
def xInS (neg : Bool) (a b : Ex) : Ex := fun cl σ h => (a cl σ h).bind fun x h1 => (b cl σ h1).bind fun y h2 => inS neg x y h2
section
variable {X : Cx} {C : Cf} {cl : CL} {Wx : WX} {pos : Pos} {a b : Expr} {xa xb : Ex}
theorem op_inS (hu : X.A.units + 65 < cLine) (hK : C.K = X.K) (hW : C.w = X.w) (neg : Bool) : OpR X (compareOp (copOf (if neg then .notin else .isin))) (fun x y H Q => ∃ E, rf2 C (inS neg) E x y H Q) := by
  intro pins s σ H x y v u Q I rx ry ⟨E, γ, h, w1, w2, c, r1, r2, p⟩
  unfold inS at p
  split at p
  · rename_i s t
    cases neg with
    | false =>
      refine op_in_str pins _ σ H x y v u Q I rx ry ⟨_, _, r1, r2, ?_⟩
      rw [show (!(Builtin.Str.occurrences _ _ 0 _ 1).isEmpty) = isSub s t from found_sub s t]
      exact PoE.here p c rfl
    | true =>
      refine op_notin_str pins _ σ H x y v u Q I rx ry ⟨_, _, r1, r2, ?_⟩
      rw [show (!(Builtin.Str.occurrences _ _ 0 _ 1).isEmpty) = isSub s t from found_sub s t]
      exact PoE.here p c rfl
  · exact of_cmp hu hK hW (if neg then .notin else .isin) pins s σ H x y v u Q I rx ry ⟨E, γ, h, w1, w2, c, r1, r2, p⟩
theorem inS_sem {neg : Bool} {σ : L2.St} {H : Hp} {Q : VK} (t : tev C cl Wx (xInS neg xa xb) σ H Q) : tev C cl Wx xa σ H fun x H1 => tev C cl Wx xb σ H1 fun y H2 => ∃ E, rf2 C (inS neg) E x y H2 Q := by
  obtain ⟨γ, σw, h, sl, hc, p⟩ := tev2 (f := inS neg) t
  refine ⟨γ, σw, h, sl, hc, PoE.imp p fun v H' q => ?_⟩
  obtain ⟨γ, σw, h, sl, hc, p⟩ := q
  exact ⟨γ, σw, h, sl, hc, PoE.imp p fun v' H'' q' => ⟨_, q'⟩⟩
theorem pv_inS (hu : X.A.units + 65 < cLine) (hK : C.K = X.K) (hW : C.w = X.w) (neg : Bool) (ha : PE X a (tev C cl Wx xa)) (hb : PE X b (tev C cl Wx xb)) (hm : behindInMarks (copOf (if neg then .notin else .isin)) b = false) :
    PE X (.Compare a [copOf (if neg then .notin else .isin)] [b] pos) (tev C cl Wx (xInS neg xa xb)) :=
  PE.imp (pe_cmpR (op_inS (C := C) hu hK hW neg) ha hb hm) fun σ H Q t => inS_sem t
theorem ptv_inS (hu : X.A.units + 65 < cLine) (hK : C.K = X.K) (hW : C.w = X.w) (neg : Bool) (ha : PE X a (tev C cl Wx xa)) (hb : PE X b (tev C cl Wx xb)) (hm : behindInMarks (copOf (if neg then .notin else .isin)) b = false) :
    PT X (.Compare a [copOf (if neg then .notin else .isin)] [b] pos) (ttv C cl Wx (xInS neg xa xb)) :=
  PT.imp (pt_cmpR (op_inS (C := C) hu hK hW neg) ha hb hm) fun σ H Q t => inS_sem (ttv_tev t)
theorem q_inS (R : Rk X C) (neg : Bool) (ha : PE X a (tev C cl Wx xa)) (hb : PE X b (tev C cl Wx xb)) (hm : behindInMarks (copOf (if neg then .notin else .isin)) b = false := by rfl) : PE X (.Compare a [copOf (if neg then .notin else .isin)] [b] pos) (tev C cl Wx (xInS neg xa xb)) := pv_inS R.hu R.K R.W neg ha hb hm
theorem q_inST (R : Rk X C) (neg : Bool) (ha : PE X a (tev C cl Wx xa)) (hb : PE X b (tev C cl Wx xb)) (hm : behindInMarks (copOf (if neg then .notin else .isin)) b = false := by rfl) : PT X (.Compare a [copOf (if neg then .notin else .isin)] [b] pos) (ttv C cl Wx (xInS neg xa xb)) := ptv_inS R.hu R.K R.W neg ha hb hm
end
end Ov
namespace Ov
section
variable {cl : CL} {σ : Sw} {h h1 : Hw}
theorem run_pure {fns : List Fn} {k i : Nat} {fn : Fn} {ws : List W} {w : W} {h' H : Hw} (hf : fns[i]? = some fn) (np : ws.length = fn.np) (hp : fn.pure = true) (free : W.unders 0 ws = true)
    (hb : (fn.body (callF fns k) (enter fn.nl ws) []).back = .ok w h') (wf : W.under 0 w = true) : callF fns (k + 1) i ws H = .ok w H := by
  show (match fns[i]? with
    | some fn => runF fn (callF fns k) ws H
    | none => .no) = _
  rw [hf]
  show (if Nat.beq ws.length fn.np then if fn.pure then if W.unders 0 ws then runPure (fn.body (callF fns k) (enter fn.nl ws) []).back H else .no else trimR H.length (fn.body (callF fns k) (enter fn.nl ws) H).back else .no) = _
  rw [np, Nat.beq_refl, if_pos rfl, if_pos hp, if_pos free, hb]
  show (if W.under 0 w then Ov.R.ok w H else .no) = _
  rw [if_pos wf]
theorem s_seq {a b : Sx} {σ1 : Sw} (e : a cl σ h = .ok (.nx σ1) h1) : sSeq a b cl σ h = b cl σ1 h1 := by unfold sSeq; rw [e]; rfl
theorem s_seqr {a b : Sx} {w : W} (e : a cl σ h = .ok (.ret w) h1) : sSeq a b cl σ h = .ok (.ret w) h1 := by unfold sSeq; rw [e]; rfl
theorem for_cons {chk : Hw → Bool} {f : W → Sw → Hw → RS} {x : W} {xs : List W} {σ1 : Sw} (c : chk h = true) (e : f x σ h = .ok (.nx σ1) h1) : forGo chk f (x :: xs) σ h = forGo chk f xs σ1 h1 := by
  unfold forGo
  rw [c]
  show (f x σ h).bind _ = _
  rw [e]
  cases xs <;> rfl
theorem for_ret {chk : Hw → Bool} {f : W → Sw → Hw → RS} {x : W} {xs : List W} {w : W} (c : chk h = true) (e : f x σ h = .ok (.ret w) h1) : forGo chk f (x :: xs) σ h = .ok (.ret w) h1 := by
  unfold forGo
  rw [c]
  show (f x σ h).bind _ = _
  rw [e]
  rfl
theorem for_nil {chk : Hw → Bool} {f : W → Sw → Hw → RS} (c : chk h = true) : forGo chk f [] σ h = .ok (.nx σ) h := by
  unfold forGo
  rw [c]
theorem src_of {k : IK} {its : Exs} {ws xs : List W} (e : its cl σ h = .ok ws h1) (w : walked k (ws.map (lookS h1)) = some xs) (l : Nat.blt xs.length most = true) : src k its cl σ h = .ok (ws, xs) h1 := by
  unfold src
  rw [e]
  show (match walked k (ws.map (lookS h1)) with
    | some xs => (match Nat.blt xs.length most with
      | true => Ov.R.ok (ws, xs) h1
      | false => .no)
    | none => .no) = _
  rw [w]
  show (match Nat.blt xs.length most with
    | true => Ov.R.ok (ws, xs) h1
    | false => .no) = _
  rw [l]
theorem s_for {t : Tx} {k : IK} {its : Exs} {b : Sx} {ws xs : List W} (e : src k its cl σ h = .ok (ws, xs) h1) : sFor t k its b cl σ h = forGo (fun h' => stands h1 h' ws) (fun x σ h => (t cl x σ h).calm.st σ fun σ1 h3 => b cl σ1 h3) xs σ h1 := by
  unfold sFor
  rw [e]
  rfl
theorem num_length : ∀ (xs : List W) (i : Int), (numFrom i xs).length = xs.length
  | [], _ => rfl
  | _ :: r, i => by show (numFrom (i + 1) r).length + 1 = _; rw [num_length r]; rfl
theorem stands_free {h0 h : Hw} : ∀ {ws : List W}, W.unders 0 ws = true → stands h0 h ws = true
  | [], _ => rfl
  | w :: ws, e => by
    have e2 := Bool.and_eq_true_iff.mp (show (W.under 0 w && W.unders 0 ws) = true from e)
    have r := stands_free (h0 := h0) (h := h) e2.2
    cases w with
    | ref n => exact absurd e2.1 (by show ¬(Nat.blt n 0 = true); cases n <;> simp)
    | _ => exact r
end
section
variable {α β : Type} {cl : CL} {σ : Sw} {h h1 : Hw}
@[simp] theorem r_bind (a : α) (f : α → Hw → R β) : (R.ok a h).bind f = f a h := rfl
@[simp] theorem r_bindx (c : Nat) (a : Option W) (f : α → Hw → R β) : (R.exn c a h : R α).bind f = .exn c a h := rfl
@[simp] theorem r_st (a : α) (f : α → Hw → RS) : (R.ok a h).st σ f = f a h := rfl
@[simp] theorem r_stx (c : Nat) (a : Option W) (f : α → Hw → RS) : (R.exn c a h : R α).st σ f = .exn c a σ h := rfl
@[simp] theorem r_calm (a : α) : (R.ok a h).calm = .ok a h := rfl
@[simp] theorem r_of (a : α) : R.of h (some a) = .ok a h := rfl
@[simp] theorem r_sbind (fl : Fl) (f : Fl → Hw → RS) : (RS.ok fl h).bind f = f fl h := rfl
@[simp] theorem r_sbindx (c : Nat) (a : Option W) (f : Fl → Hw → RS) : (RS.exn c a σ h).bind f = .exn c a σ h := rfl
@[simp] theorem r_back (w : W) : (RS.ok (.ret w) h).back = .ok w h := rfl
@[simp] theorem r_backn : (RS.ok (.nx σ) h).back = .ok .non h := rfl
@[simp] theorem r_backx (c : Nat) (a : Option W) : (RS.exn c a σ h).back = .exn c a h := rfl
@[simp] theorem v_con (w : W) : xCon w cl σ h = .ok w h := rfl
theorem v_var (i : Nat) : xVar i cl σ h = (match σ[i]? with
  | some (some w) => .ok w h
  | _ => .no) := rfl
@[simp] theorem v_var0 {w : W} {r : Sw} : xVar 0 cl (some w :: r) h = .ok w h := rfl
@[simp] theorem v_varS {a : Option W} {r : Sw} {n : Nat} : xVar (n + 1) cl (a :: r) h = xVar n cl r h := rfl
@[simp] theorem v_bin (o : BOp) (a b : Ex) : xBin o a b cl σ h = (a cl σ h).bind fun x h1 => (b cl σ h1).bind fun y h2 => .of h2 (binop o (look h2 x) (look h2 y)) := rfl
@[simp] theorem v_cmp (o : COp) (a b : Ex) : xCmp o a b cl σ h = (a cl σ h).bind fun x h1 => (b cl σ h1).bind fun y h2 => cmpW o x y h2 := rfl
@[simp] theorem v_idx (a b : Ex) : xIdx a b cl σ h = (a cl σ h).bind fun x h1 => (b cl σ h1).bind fun y h2 => .of h2 (itemW (look h2 x) y) := rfl
@[simp] theorem v_F (g : Gf) (es : Exs) : xF g es cl σ h = (es cl σ h).bind g := rfl
@[simp] theorem v_cons (a : Ex) (r : Exs) : xsCons a r cl σ h = (a cl σ h).bind fun w h1 => (r cl σ h1).bind fun ws h2 => .ok (w :: ws) h2 := rfl
@[simp] theorem v_nil : xsNil cl σ h = .ok [] h := rfl
@[simp] theorem v_call (f : Nat) (es : Exs) : xCall f es cl σ h = (es cl σ h).bind fun ws h1 => cl f ws h1 := rfl
@[simp] theorem v_tup (es : Exs) : xTup es cl σ h = (es cl σ h).bind fun ws h1 => if Nat.blt ws.length most then .ok (.tup ws) h1 else .no := rfl
@[simp] theorem v_lst (m : Bool) (es : Exs) : xLst m es cl σ h = (es cl σ h).bind fun ws h1 => if Nat.blt ws.length most then made m h1 (.lst ws) else .no := rfl
@[simp] theorem v_ite (c a b : Ex) : xIte c a b cl σ h = (c cl σ h).bind fun x h1 => match x with
  | .bl true => a cl σ h1
  | .bl false => b cl σ h1
  | _ => .no := rfl
@[simp] theorem v_and (a b : Ex) : xAnd a b cl σ h = (a cl σ h).bind fun x h1 => match x with
  | .bl true => b cl σ h1
  | .bl false => .ok (.bl false) h1
  | _ => .no := rfl
@[simp] theorem v_or (a b : Ex) : xOr a b cl σ h = (a cl σ h).bind fun x h1 => match x with
  | .bl false => b cl σ h1
  | .bl true => .ok (.bl true) h1
  | _ => .no := rfl
@[simp] theorem v_not (a : Ex) : xNot a cl σ h = (a cl σ h).bind fun x h1 => match x with
  | .bl b => .ok (.bl (!b)) h1
  | _ => .no := rfl
@[simp] theorem v_isN (y : Bool) (a : Ex) : xIsN y a cl σ h = (a cl σ h).bind (gIsN y) := rfl
@[simp] theorem v_attr (cs : List Nat) (nm : Nat) (o : Ex) : xAttr cs nm o cl σ h = (o cl σ h).bind fun x h1 => match look h1 x with
  | .obj c ns vs => (match cs.any (Nat.beq c) with
    | true => .of h1 ((ns.zip vs).lookup nm)
    | false => .no)
  | _ => .no := rfl
@[simp] theorem v_slc (m : Bool) (o : Ex) (lo hi : Exo) : xSlc m o lo hi cl σ h = (o cl σ h).bind fun x h1 => (lo cl σ h1).bind fun l h2 => (hi cl σ h2).bind fun u h3 => (R.of h3 (sliceW (look h3 x) l u)).bind fun w h4 => match w with
  | .lst xs => made m h4 (.lst xs)
  | w => .ok w h4 := rfl
@[simp] theorem v_on : oNone cl σ h = .ok none h := rfl
@[simp] theorem v_os (a : Ex) : oSome a cl σ h = (a cl σ h).bind fun w h1 => match w with
  | .int i => .ok (some i) h1
  | _ => .no := rfl
@[simp] theorem v_um (tab : List (Nat × Nat)) (nm : Nat) (o : Ex) (es : Exs) : xUm tab nm o es cl σ h = (o cl σ h).bind fun x h1 => match look h1 x with
  | .obj c ns _ => if ns.any (Nat.beq nm) then .no else (match tab.lookup c with
    | some f => (es cl σ h1).bind fun ws h2 => cl f (x :: ws) h2
    | none => .no)
  | _ => .no := rfl
@[simp] theorem v_M (k : Kd) (g : Gm) (o : Ex) (es : Exs) : xM k g o es cl σ h = (o cl σ h).bind fun x h1 => if isKd k (look h1 x) then (es cl σ h1).bind fun ws h2 => g x ws h2 else .no := rfl
@[simp] theorem v_frz (e : Ex) : xFrz e cl σ h = (e cl σ h).bind fun x h1 => freeze h1 x := rfl
@[simp] theorem gn_name0 {w : W} {a : Option W} {r : Sw} : tName 0 cl w (a :: r) h = .ok (some w :: r) h := rfl
theorem gn_name {i : Nat} {w : W} (e : i < σ.length) : tName i cl w σ h = .ok (σ.set i (some w)) h := by
  have e' : Nat.blt i σ.length = true := Nat.ble_eq_true_of_le e
  unfold tName; rw [e']; rfl
@[simp] theorem gn_tup (n : Nat) (ts : Txs) (w : W) : tTup n ts cl w σ h = (match look h w with
  | .tup ws => (match Nat.beq ws.length n with
    | true => ts cl ws σ h
    | false => .no)
  | .lst ws => (match Nat.beq ws.length n with
    | true => ts cl ws σ h
    | false => .no)
  | _ => .no) := rfl
@[simp] theorem gn_nil : tsNil cl [] σ h = .ok σ h := rfl
@[simp] theorem gn_cons (t : Tx) (ts : Txs) (w : W) (r : List W) : tsCons t ts cl (w :: r) σ h = (t cl w σ h).bind fun σ1 h1 => ts cl r σ1 h1 := rfl
@[simp] theorem st_asg (t : Tx) (e : Ex) : sAsg t e cl σ h = (e cl σ h).st σ fun w h1 => (t cl w σ h1).calm.st σ fun σ1 h2 => .ok (.nx σ1) h2 := rfl
@[simp] theorem st_ret (e : Ex) : sRet e cl σ h = (e cl σ h).st σ fun w h1 => .ok (.ret w) h1 := rfl
@[simp] theorem st_ex (e : Ex) : sEx e cl σ h = (e cl σ h).st σ fun _ h1 => .ok (.nx σ) h1 := rfl
@[simp] theorem st_pass : sPass cl σ h = .ok (.nx σ) h := rfl
@[simp] theorem st_if (c : Ex) (a b : Sx) : sIf c a b cl σ h = (c cl σ h).st σ fun x h1 => match x with
  | .bl true => a cl σ h1
  | .bl false => b cl σ h1
  | _ => .no := rfl
@[simp] theorem st_seq (a b : Sx) : sSeq a b cl σ h = (a cl σ h).bind fun fl h1 => match fl with
  | .nx σ1 => b cl σ1 h1
  | fl => .ok fl h1 := rfl
@[simp] theorem lks_tup (xs : List W) : look h (.tup xs) = .tup xs := rfl
@[simp] theorem lks_lst' (xs : List W) : look h (.lst xs) = .lst xs := rfl
@[simp] theorem lks_int (i : Int) : look h (.int i) = .int i := rfl
@[simp] theorem lks_str (s : List Nat) : look h (.str s) = .str s := rfl
@[simp] theorem lks_bl (b : Bool) : look h (.bl b) = .bl b := rfl
@[simp] theorem lks_non : look h .non = .non := rfl
@[simp] theorem lks_obj' (c : Nat) (ns : List Nat) (vs : List W) : look h (.obj c ns vs) = .obj c ns vs := rfl
@[simp] theorem lks_dct' (ks vs : List W) : look h (.dct ks vs) = .dct ks vs := rfl
end
theorem place_nat {n k : Nat} (h : n < k) : place (n : Int) k = some n := by
  unfold place
  rw [if_pos (by omega)]
  simp [h]
theorem item_tup {xs : List W} {n : Nat} {w : W} (e : xs[n]? = some w) : itemW (.tup xs) (.int n) = some w := by
  have h := (List.getElem?_eq_some_iff.mp e).1
  show (place (n : Int) xs.length).bind (fun n => xs[n]?) = _
  rw [place_nat h]; exact e
theorem item_lst {xs : List W} {n : Nat} {w : W} (e : xs[n]? = some w) : itemW (.lst xs) (.int n) = some w := by
  have h := (List.getElem?_eq_some_iff.mp e).1
  show (place (n : Int) xs.length).bind (fun n => xs[n]?) = _
  rw [place_nat h]; exact e
theorem clip_nat (n k : Nat) : clip (n : Int) k = Nat.min n k := by
  unfold clip
  rw [if_neg (by omega)]; simp
theorem slice_to {α : Type} (xs : List α) (n : Nat) : slice xs none (some (n : Int)) = xs.take n := by
  unfold slice
  simp only [clip_nat, List.drop_zero]
  rw [show Nat.min n xs.length = min n xs.length from rfl, List.take_eq_take_iff]
  omega
theorem slice_from {α : Type} (xs : List α) (n : Nat) : slice xs (some (n : Int)) none = xs.drop n := by
  unfold slice
  simp only [clip_nat, List.take_length]
  rw [show Nat.min n xs.length = min n xs.length from rfl]
  rcases Nat.le_total n xs.length with h | h
  · rw [Nat.min_eq_left h]
  · rw [Nat.min_eq_right h, List.drop_length, List.drop_of_length_le h]
theorem slice_next {α : Type} (xs : List α) (n : Nat) : slice xs (some ((n : Int) + 1)) none = xs.drop (n + 1) := slice_from xs (n + 1)
theorem unders_app : ∀ {xs ys : List W}, W.unders 0 xs = true → W.unders 0 ys = true → W.unders 0 (xs ++ ys) = true
  | [], _, _, h => h
  | x :: r, ys, h, h' => by
    have h2 := Bool.and_eq_true_iff.mp (show (W.under 0 x && W.unders 0 r) = true from h)
    show (W.under 0 x && W.unders 0 (r ++ ys)) = true
    rw [h2.1, unders_app h2.2 h']; rfl
theorem unders_mem {xs : List W} (h : W.unders 0 xs = true) : ∀ w ∈ xs, W.under 0 w = true := by
  induction xs with
  | nil => intro w m; cases m
  | cons x r ih =>
    have h2 := Bool.and_eq_true_iff.mp (show (W.under 0 x && W.unders 0 r) = true from h)
    intro w m
    rcases List.mem_cons.mp m with rfl | m
    · exact h2.1
    · exact ih h2.2 w m
theorem unders_of {xs : List W} (h : ∀ w ∈ xs, W.under 0 w = true) : W.unders 0 xs = true := by
  induction xs with
  | nil => rfl
  | cons x r ih =>
    show (W.under 0 x && W.unders 0 r) = true
    rw [h x (List.mem_cons_self ..), ih fun w m => h w (List.mem_cons_of_mem _ m)]; rfl
theorem unders_sub {xs ys : List W} (h : W.unders 0 ys = true) (s : ∀ w ∈ xs, w ∈ ys) : W.unders 0 xs = true := unders_of fun w m => unders_mem h w (s w m)
theorem flats_under : ∀ xs : List W, xs.all W.flat = true → W.unders 0 xs = true
  | [], _ => rfl
  | x :: r, h => by
    have h2 := Bool.and_eq_true_iff.mp (show (W.flat x && r.all W.flat) = true from h)
    show (W.under 0 x && W.unders 0 r) = true
    rw [flats_under r h2.2]
    cases x <;> first | rfl | exact absurd h2.1 Bool.false_ne_true
theorem whole_free {w : W} (H : Hw) (e : W.under 0 w = true) : whole H w = w := by unfold whole; rw [if_pos e]
theorem flat_under {w : W} (e : W.flat w = true) : W.under 0 w = true := by cases w <;> first | rfl | exact absurd e Bool.false_ne_true
theorem in_tup {c : W} {ns : List W} {H : Hw} (hc : W.flat c = true) (hn : ns.all W.flat = true) : cmpW .isin c (.tup ns) H = .ok (.bl (ns.any fun y => W.eq y c)) H := by
  show R.of H (cmpop .isin (whole H c) (whole H (.tup ns))) = _
  rw [whole_free H (flat_under hc), whole_free H (show W.under 0 (.tup ns) = true from flats_under ns hn)]
  show R.of H (if inOk c ns then some (W.bl (ns.any fun y => W.eq y c)) else none) = _
  rw [if_pos (by unfold inOk; rw [hc, hn]; rfl)]; rfl
def isIntW : W → Bool
  | .int _ => true
  | _ => false
def allInt (xs : List W) : Bool := xs.all isIntW
theorem int_flats : ∀ {xs : List W}, allInt xs = true → xs.all W.flat = true
  | [], _ => rfl
  | x :: r, h => by
    have h2 := Bool.and_eq_true_iff.mp (show (isIntW x && allInt r) = true from h)
    show (W.flat x && r.all W.flat) = true
    rw [int_flats h2.2]
    cases x <;> first | rfl | exact absurd h2.1 Bool.false_ne_true
theorem int_lays : ∀ {xs : List W}, allInt xs = true → xs.all (W.lay 39) = true
  | [], _ => rfl
  | x :: r, h => by
    have h2 := Bool.and_eq_true_iff.mp (show (isIntW x && allInt r) = true from h)
    show (W.lay 39 x && r.all (W.lay 39)) = true
    rw [int_lays h2.2]
    cases x <;> first | rfl | exact absurd h2.1 Bool.false_ne_true
theorem sort_under : ∀ {xs : List W}, W.unders 0 xs = true → W.unders 0 (sortW xs) = true := by
  have ins : ∀ (x : W) (ys : List W), W.under 0 x = true → W.unders 0 ys = true → W.unders 0 (insBy (fun x y => !W.lt y x) x ys) = true := by
    intro x ys
    induction ys with
    | nil => intro hx _; show (W.under 0 x && true) = true; rw [hx]; rfl
    | cons y r ih =>
      intro hx hy
      have h2 := Bool.and_eq_true_iff.mp (show (W.under 0 y && W.unders 0 r) = true from hy)
      unfold insBy
      split
      · show (W.under 0 x && (W.under 0 y && W.unders 0 r)) = true; rw [hx, h2.1, h2.2]; rfl
      · show (W.under 0 y && W.unders 0 (insBy _ x r)) = true; rw [h2.1, ih hx h2.2]; rfl
  intro xs
  induction xs with
  | nil => exact fun _ => rfl
  | cons x r ih =>
    intro h
    have h2 := Bool.and_eq_true_iff.mp (show (W.under 0 x && W.unders 0 r) = true from h)
    exact ins x _ h2.1 (ih h2.2)
theorem eq_ints {hs : List W} {t : Int} {H : Hw} (hi : allInt hs = true) : cmpW .eq (.tup hs) (.tup [.int t]) H = .ok (.bl (W.eq (.tup hs) (.tup [.int t]))) H := by
  show R.of H (cmpop .eq (whole H (.tup hs)) (whole H (.tup [.int t]))) = _
  rw [whole_free H (show W.under 0 (.tup hs) = true from flats_under hs (int_flats hi)), whole_free H (show W.under 0 (.tup [.int t]) = true from rfl)]
  show R.of H (if eqOk (.tup hs) (.tup [.int t]) then some (W.bl (W.eq (.tup hs) (.tup [.int t]))) else none) = _
  rw [if_pos (by
    unfold eqOk
    have : W.lay 40 (.tup hs) = true := int_lays hi
    rw [this]; rfl)]
  rfl
theorem eq_strs {s t : List Nat} {H : Hw} : cmpW .eq (.str s) (.str t) H = .ok (.bl (seqNat s t)) H := rfl
theorem add_tup {s t : List W} (e : s.length + t.length < 16000000) : binop .add (.tup s) (.tup t) = some (.tup (s ++ t)) := by
  show (if Nat.blt (s.length + t.length) most then some (W.tup (s ++ t)) else none) = _
  exact if_pos (Nat.ble_eq_true_of_le (by unfold most; omega))
theorem add_lst {s t : List W} (e : s.length + t.length < 16000000) : binop .add (.lst s) (.lst t) = some (.lst (s ++ t)) := by
  show (if Nat.blt (s.length + t.length) most then some (W.lst (s ++ t)) else none) = _
  exact if_pos (Nat.ble_eq_true_of_le (by unfold most; omega))
theorem add_str {s t : List Nat} (e : s.length + t.length < 16000000) : binop .add (.str s) (.str t) = some (.str (s ++ t)) := by
  show (if Nat.blt (s.length + t.length) most then some (W.str (s ++ t)) else none) = _
  exact if_pos (Nat.ble_eq_true_of_le (by unfold most; omega))
theorem add_int (i j : Int) : binop .add (.int i) (.int j) = some (.int (i + j)) := rfl
theorem sub_int (i j : Int) : binop .sub (.int i) (.int j) = some (.int (i - j)) := rfl
theorem mod_int {i j : Int} (e : 0 < j) : binop .mod (.int i) (.int j) = some (.int (i % j)) := by simp [binop, e]
theorem fz_free {d : Nat} {w : W} (h : Hw) (e : W.under 0 w = true) : fzV (d + 1) w h = some (w, h) := by
  cases w with
  | ref n => exact absurd e (by show ¬(Nat.blt n 0 = true); cases n <;> simp)
  | tup xs => show (if W.unders 0 xs then _ else _) = _; exact if_pos e
  | lst xs => show (if W.unders 0 xs then _ else _) = _; exact if_pos e
  | dct ks vs => show (if W.unders 0 vs then _ else _) = _; exact if_pos (Bool.and_eq_true_iff.mp (show (W.unders 0 ks && W.unders 0 vs) = true from e)).2
  | obj c ns vs => show (if W.unders 0 vs then _ else _) = _; exact if_pos e
  | _ => rfl
theorem mapFz_free {d : Nat} (h : Hw) : ∀ {xs : List W}, W.unders 0 xs = true → mapFz (fzV (d + 1)) xs h = some (xs, h)
  | [], _ => rfl
  | x :: r, e => by
    have h2 := Bool.and_eq_true_iff.mp (show (W.under 0 x && W.unders 0 r) = true from e)
    show (match fzV (d + 1) x h with
      | some p => (match mapFz (fzV (d + 1)) r p.2 with
        | some q => some (p.1 :: q.1, q.2)
        | none => none)
      | none => none) = _
    rw [fz_free h h2.1]
    dsimp only
    rw [mapFz_free h h2.2]
theorem freeze_lst {h : Hw} {n : Nat} {xs : List W} (e : h[n]? = some (.lst xs)) (f : W.unders 0 xs = true) : freeze h (.ref n) = .ok (.lst xs) (h.set n .dead) := by
  show (match fzV 9 (.ref n) h with
    | some p => Ov.R.ok p.1 p.2
    | none => .no) = _
  have : fzV 9 (.ref n) h = some (.lst xs, h.set n .dead) := by
    show (match h[n]? with
      | some (.lst xs) => (mapFz (fzV 8) xs (h.set n .dead)).map fun (p : List W × Hw) => (W.lst p.1, p.2)
      | some (.dct ks vs) => (mapFz (fzV 8) vs (h.set n .dead)).map fun (p : List W × Hw) => (W.dct ks p.1, p.2)
      | some (.obj c ns vs) => (mapFz (fzV 8) vs (h.set n .dead)).map fun (p : List W × Hw) => (W.obj c ns p.1, p.2)
      | _ => none) = _
    rw [e]
    dsimp only
    rw [mapFz_free _ f]; rfl
  rw [this]
theorem app_ok {h : Hw} {n : Nat} {xs : List W} {w : W} (e : h[n]? = some (.lst xs)) (l : xs.length < 16000000) : mAppend (.ref n) [w] h = .ok .non (h.set n (.lst (xs ++ [w]))) := by
  unfold mAppend
  simp only [e]
  exact if_pos (Nat.ble_eq_true_of_le (by unfold most; omega))
end Ov
/-! K10: what ovgen.py has printed of the law -/
namespace K10
open PySem PySem.Spec PyProof.Rows L2 Ov
abbrev pw := PySem.Challenge.pw_sharedlines_k10_programs_read
def top (i : Nat) : Stmt := pw.main.body.getD i (.Pass ⟨0, 0, 0, 0⟩)
/-! the defs as the evaluator has them -/
def b0 : Sx := sSeq (sFor (tName 1) .range (xsCons (xF gMax2 (xsCons (xCon (.int 1)) (xsCons (xF gMin2 (xsCons (xCon (.int 5)) (xsCons (xF gLen (xsCons (xVar 0) (xsNil))) (xsNil)))) (xsNil)))) (xsNil)) (sSeq (sAsg (tName 2) (xCall 1 (xsCons (xVar 0) (xsCons (xVar 1) (xsNil))))) (sSeq (sAsg (tName 3) (xLst true (xsNil))) (sSeq (sFor (tName 4) .range (xsCons (xCon (.int 5)) (xsNil)) (sSeq (sAsg (tName 5) (xCall 2 (xsCons (xVar 2) (xsCons (xCall 5 (xsCons (xVar 2) (xsNil))) (xsCons (xCon (.int 8)) (xsNil)))))) (sSeq (sAsg (tName 6) (xCall 6 (xsCons (xVar 5) (xsNil)))) (sSeq (sAsg (tName 7) (xM .str (mSplit false) (xVar 6) (xsCons (xCon (.str [10])) (xsNil)))) (sSeq (sAsg (tName 8) (xM .str mJoin (xCon (.str [10])) (xsCons (xComp false [14] (tName 14) .seq (xsCons (xVar 7) xsNil) ifNil (xIte (xInS false (xCon (.str [45, 62])) (xVar 14)) (xVar 14) (xBin .add (xVar 14) (xCon (.str [32, 45, 62, 32, 101, 110, 100]))))) (xsNil)))) (sFor (tName 9) .seq (xsCons (xTup (xsCons (xVar 6) (xsCons (xVar 8) (xsNil)))) xsNil) (sSeq (sIf (xNot (xCall 7 (xsCons (xVar 9) (xsCons (xVar 5) (xsNil))))) (sRet (xCon (.bl false))) (sPass)) (sEx (xM .list mAppend (xVar 3) (xsCons (xTup (xsCons (xVar 9) (xsCons (xCall 8 (xsCons (xVar 9) (xsNil))) (xsNil)))) (xsNil))))))))))) (sFor (tTup 2 (tsCons (tName 10) (tsCons (tName 11) (tsNil)))) .seq (xsCons (xVar 3) xsNil) (sFor (tTup 2 (tsCons (tName 12) (tsCons (tName 13) (tsNil)))) .seq (xsCons (xVar 3) xsNil) (sIf (xOr (xCmp .ne (xEqO [(2, 15)] (xVar 11) (xVar 13)) (xCmp .eq (xVar 10) (xVar 12))) (xCmp .ne (xNeO [(2, 15)] (xVar 11) (xVar 13)) (xCmp .ne (xVar 10) (xVar 12)))) (sRet (xCon (.bl false))) (sPass)))))))) (sRet (xCon (.bl true)))
def b1 : Sx := sSeq (sAsg (tName 2) (xIdx (xBin .add (xF (gListK false) (xsCons (xSlc false (xVar 0) (oSome (xVar 1)) (oSome (xBin .add (xVar 1) (xCon (.int 1))))) (xsNil))) (xLst false (xsCons (xBin .add (xBin .mul (xCon (.int 71)) (xVar 1)) (xCon (.int 23))) (xsNil)))) (xCon (.int 0)))) (sSeq (sAsg (tName 3) (xF gMax2 (xsCons (xCon (.int 0)) (xsCons (xBin .sub (xF gAbs (xsCons (xVar 2) (xsNil))) (xBin .pow (xCon (.int 10)) (xCon (.int 18)))) (xsNil))))) (sRet (xLst true (xsCons (xVar 3) (xsCons (xBin .mod (xF gInt (xsCons (xBin .add (xBin .add (xBin .mul (xBin .mod (xF gInt (xsCons (xF gAbs (xsCons (xVar 2) (xsNil))) (xsNil))) (xCon (.int 1000003))) (xCon (.int 7919))) (xBin .mul (xCon (.int 31)) (xVar 1))) (xCon (.int 17))) (xsNil))) (xCon (.int 1000033))) (xsNil))))))
def b2 : Sx := sSeq (sPar 3 4 (xsCons (xBin .add (xCon (.int 1)) (xCall 3 (xsCons (xVar 0) (xsCons (xVar 2) (xsNil))))) (xsCons (xLst true (xsNil)) (xsNil)))) (sSeq (sFor (tName 5) .range (xsCons (xVar 3) (xsNil)) (sSeq (sAsg (tName 6) (xComp false [8] (tName 8) .range (xsCons (xVar 3) (xsNil)) (ifCons (xCmp .eq (xCall 3 (xsCons (xVar 0) (xsCons (xCon (.int 4)) (xsNil)))) (xCon (.int 0))) ifNil) (xVar 8))) (sSeq (sIf (xAnd (xCmp .eq (xCall 3 (xsCons (xVar 0) (xsCons (xCon (.int 2)) (xsNil)))) (xCon (.int 0))) (xAnd (xCmp .lt (xBin .add (xVar 5) (xCon (.int 1))) (xVar 3)) (xCmp .notin (xBin .add (xVar 5) (xCon (.int 1))) (xVar 6)))) (sAsg (tName 6) (xF gSort (xsCons (xBin .add (xVar 6) (xLst false (xsCons (xBin .add (xVar 5) (xCon (.int 1))) (xsNil)))) (xsNil)))) (sPass)) (sSeq (sIf (xOr (xIsE false (xVar 6)) (xCmp .eq (xCall 3 (xsCons (xVar 0) (xsCons (xCon (.int 4)) (xsNil)))) (xCon (.int 0)))) (sAsg (tName 6) (xBin .add (xVar 6) (xLst false (xsCons (xCon .non) (xsNil))))) (sPass)) (sSeq (sAsg (tName 7) (xCall 4 (xsCons (xVar 0) (xsCons (xLst false (xsCons (xCon (.str [114, 101, 97, 100])) (xsCons (xCon (.str [119, 114, 105, 116, 101])) (xsCons (xCon (.str [119, 114, 105, 116, 101])) (xsNil))))) (xsNil))))) (sEx (xM .list mAppend (xVar 4) (xsCons (xTup (xsCons (xVar 7) (xsCons (xCall 4 (xsCons (xVar 0) (xsCons (xF (gListK false) (xsCons (xVar 1) (xsNil))) (xsNil)))) (xsCons (xF gTuple (xsCons (xVar 6) (xsNil))) (xsNil))))) (xsNil))))))))) (sRet (xF gTuple (xsCons (xVar 4) (xsNil)))))
def b3 : Sx := sSeq (sIf (xCmp .gt (xIdx (xVar 0) (xCon (.int 0))) (xCon (.int 0))) (sSeq (sAsg (tName 2) (xBin .mod (xF gInt (xsCons (xIdx (xVar 0) (xCon (.int 0))) (xsNil))) (xVar 1))) (sSeq (sAsg (tSub (xVar 0) (xCon (.int 0))) (xBin .fdiv (xIdx (xVar 0) (xCon (.int 0))) (xVar 1))) (sRet (xVar 2)))) (sPass)) (sSeq (sAsg (tSub (xVar 0) (xCon (.int 1))) (xBin .mod (xF gInt (xsCons (xBin .add (xBin .mul (xIdx (xVar 0) (xCon (.int 1))) (xCon (.int 69069))) (xCon (.int 12345))) (xsNil))) (xCon (.int 4294967311)))) (sRet (xBin .mod (xF gInt (xsCons (xBin .fdiv (xIdx (xVar 0) (xCon (.int 1))) (xCon (.int 65536))) (xsNil))) (xVar 1))))
def b4 : Sx := sRet (xIdx (xVar 1) (xCall 3 (xsCons (xVar 0) (xsCons (xF gLen (xsCons (xVar 1) (xsNil))) (xsNil)))))
def b5 : Sx := sSeq (sPar 1 2 (xsCons (xF (gListK false) (xsCons (xCon (.str [97, 98, 99, 100, 101, 102, 103, 104, 105, 106, 107, 108, 109, 110, 111, 112, 113, 114, 115, 116, 117, 118, 119, 120, 121, 122])) (xsNil))) (xsCons (xLst true (xsCons (xCon (.str [101, 110, 100])) (xsCons (xCon (.str [114, 101, 97, 100])) (xsCons (xCon (.str [119, 114, 105, 116, 101])) (xsCons (xCon (.str [120])) (xsCons (xCon (.str [97, 98, 99, 100, 101, 102, 103, 104])) (xsNil))))))) (xsNil)))) (sSeq (sFor (tName 3) .range (xsCons (xCon (.int 3)) (xsNil)) (sSeq (sAsg (tName 4) (xCon (.str []))) (sSeq (sFor (tName 5) .range (xsCons (xBin .add (xCon (.int 1)) (xCall 3 (xsCons (xVar 0) (xsCons (xCon (.int 8)) (xsNil))))) (xsNil)) (sAsg (tName 4) (xBin .add (xVar 4) (xCall 4 (xsCons (xVar 0) (xsCons (xVar 1) (xsNil))))))) (sEx (xM .list mAppend (xVar 2) (xsCons (xVar 4) (xsNil))))))) (sRet (xSlc false (xVar 2) (oSome (xCall 3 (xsCons (xVar 0) (xsCons (xCon (.int 5)) (xsNil))))) oNone)))
def b6 : Sx := sSeq (sAsg (tName 1) (xLst true (xsNil))) (sSeq (sFor (tTup 3 (tsCons (tName 2) (tsCons (tName 3) (tsCons (tName 4) (tsNil))))) .seq (xsCons (xVar 0) xsNil) (sSeq (sAsg (tName 5) (xBin .add (xBin .add (xVar 2) (xCon (.str [32]))) (xVar 3))) (sSeq (sIf (xCmp .ne (xVar 4) (xTup (xsCons (xCon .non) (xsNil)))) (sAsg (tName 5) (xBin .add (xBin .add (xVar 5) (xCon (.str [32, 45, 62, 32]))) (xM .str mJoin (xCon (.str [32])) (xsCons (xComp false [6] (tName 6) .seq (xsCons (xVar 4) xsNil) ifNil (xIte (xIsN true (xVar 6)) (xCon (.str [101, 110, 100])) (xF gStr (xsCons (xVar 6) (xsNil))))) (xsNil))))) (sPass)) (sEx (xM .list mAppend (xVar 1) (xsCons (xVar 5) (xsNil))))))) (sRet (xM .str mJoin (xCon (.str [10])) (xsCons (xVar 1) (xsNil)))))
def b7 : Sx := sSeq (sAsg (tName 2) (xCall 8 (xsCons (xVar 0) (xsNil)))) (sSeq (sIf (xOr (xCmp .ne (xStrO [(2, 14)] (xsCons (xVar 2) (xsNil))) (xVar 0)) (xCmp .ne (xF gRepr (xsCons (xAttr [2] 1 (xVar 2)) (xsNil))) (xF gRepr (xsCons (xVar 1) (xsNil))))) (sRet (xCon (.bl false))) (sPass)) (sSeq (sIf (xOr (xCmp .ne (xAttr [2] 1 (xUs [(2, 8)] 2 (xVar 2) (xsCons (xCon (.str [119, 114, 105, 116, 101, 32, 122, 122])) (xsNil)))) (xTup (xsCons (xTup (xsCons (xCon (.str [119, 114, 105, 116, 101])) (xsCons (xCon (.str [122, 122])) (xsCons (xTup (xsCons (xCon .non) (xsNil))) (xsNil))))) (xsNil)))) (xCmp .ne (xStrO [(2, 14)] (xsCons (xUs [(2, 8)] 2 (xVar 2) (xsCons (xVar 0) (xsNil))) (xsNil))) (xVar 0))) (sRet (xCon (.bl false))) (sPass)) (sSeq (sFor (tName 3) .seq (xsCons (xLst false (xsCons (xVar 0) (xsCons (xCon .non) (xsCons (xCon (.int 0)) (xsCons (xAttr [2] 1 (xVar 2)) (xsCons (xLst false (xsCons (xVar 2) (xsNil))) (xsNil))))))) xsNil) (sIf (xOr (xEqO [(2, 15)] (xVar 2) (xVar 3)) (xNot (xNeO [(2, 15)] (xVar 2) (xVar 3)))) (sRet (xCon (.bl false))) (sPass))) (sRet (xCon (.bl true))))))
def b8 : Sx := sSeq (sIf (xNot (xF (gIsTy .str) (xsCons (xVar 0) xsNil))) (sRai 1 (xCon (.int 0))) (sPass)) (sSeq (sPar 1 2 (xsCons (xM .str (mSplit false) (xVar 0) (xsCons (xCon (.str [10])) (xsNil))) (xsCons (xLst true (xsNil)) (xsNil)))) (sSeq (sFor (tTup 2 (tsCons (tName 3) (tsCons (tName 4) (tsNil)))) .enum (xsCons (xVar 1) (xsNil)) (sSeq (sAsg (tName 5) (xIte (xCmp .lt (xVar 3) (xCon (.int 8))) (xCall 9 (xsCons (xVar 4) (xsCons (xF gLen (xsCons (xVar 1) (xsNil))) (xsNil)))) (xCon .non))) (sSeq (sIf (xIsN true (xVar 5)) (sRai 1 (xVar 3)) (sPass)) (sEx (xM .list mAppend (xVar 2) (xsCons (xVar 5) (xsNil))))))) (sRet (xNew 2 13 true (xsCons (xVar 0) (xsCons (xF gTuple (xsCons (xVar 2) (xsNil))) (xsNil)))))))
def b9 : Sx := sSeq (sAsg (tName 2) (xM .str (mSplit false) (xVar 0) (xsCons (xCon (.str [32])) (xsNil)))) (sSeq (sIf (xOr (xCmp .lt (xF gLen (xsCons (xVar 2) (xsNil))) (xCon (.int 2))) (xOr (xCmp .notin (xIdx (xVar 2) (xCon (.int 0))) (xLst false (xsCons (xCon (.str [114, 101, 97, 100])) (xsCons (xCon (.str [119, 114, 105, 116, 101])) (xsNil))))) (xNot (xCall 10 (xsCons (xIdx (xVar 2) (xCon (.int 1))) (xsNil)))))) (sRet (xCon .non)) (sPass)) (sSeq (sAsg (tName 3) (xLst false (xsCons (xCon .non) (xsNil)))) (sSeq (sIf (xCmp .gt (xF gLen (xsCons (xVar 2) (xsNil))) (xCon (.int 2))) (sSeq (sIf (xOr (xCmp .ne (xIdx (xVar 2) (xCon (.int 2))) (xCon (.str [45, 62]))) (xCmp .eq (xF gLen (xsCons (xVar 2) (xsNil))) (xCon (.int 3)))) (sRet (xCon .non)) (sPass)) (sAsg (tName 3) (xCall 11 (xsCons (xSlc false (xVar 2) (oSome (xCon (.int 3))) oNone) (xsCons (xVar 1) (xsNil)))))) (sPass)) (sRet (xIte (xIsN true (xVar 3)) (xCon .non) (xTup (xsCons (xIdx (xVar 2) (xCon (.int 0))) (xsCons (xIdx (xVar 2) (xCon (.int 1))) (xsCons (xF gTuple (xsCons (xVar 3) (xsNil))) (xsNil))))))))))
def b10 : Sx := sSeq (sIf (xOr (xNot (xF (gIsTy .str) (xsCons (xVar 0) xsNil))) (xNot (xChain .le .le (xCon (.int 1)) (xF gLen (xsCons (xVar 0) (xsNil))) (xCon (.int 8))))) (sRet (xCon (.bl false))) (sPass)) (sRet (xF gAll (xsCons (xComp false [1] (tName 1) .seq (xsCons (xVar 0) xsNil) ifNil (xCmp .isin (xVar 1) (xCon (.str [97, 98, 99, 100, 101, 102, 103, 104, 105, 106, 107, 108, 109, 110, 111, 112, 113, 114, 115, 116, 117, 118, 119, 120, 121, 122])))) (xsNil))))
def b11 : Sx := sSeq (sAsg (tName 2) (xIte (xCmp .eq (xIdx (xVar 0) (xNeg (xCon (.int 1)))) (xCon (.str [101, 110, 100]))) (xSlc false (xVar 0) oNone (oSome (xNeg (xCon (.int 1))))) (xVar 0))) (sSeq (sAsg (tName 3) (xComp false [4] (tName 4) .seq (xsCons (xVar 2) xsNil) ifNil (xCall 12 (xsCons (xVar 4) (xsNil))))) (sSeq (sIf (xOr (xCmp .isin (xCon .non) (xVar 3)) (xIsE true (xComp false [5] (tName 5) .seq (xsCons (xVar 3) xsNil) (ifCons (xCmp .ge (xVar 5) (xVar 1)) ifNil) (xVar 5)))) (sRet (xCon .non)) (sPass)) (sSeq (sIf (xIsE true (xComp false [6, 7] (tTup 2 (tsCons (tName 6) (tsCons (tName 7) (tsNil)))) .zip (xsCons (xSlc false (xVar 3) oNone (oSome (xNeg (xCon (.int 1))))) (xsCons (xSlc false (xVar 3) (oSome (xCon (.int 1))) oNone) (xsNil))) (ifCons (xCmp .ge (xVar 6) (xVar 7)) ifNil) (xVar 6))) (sRet (xCon .non)) (sPass)) (sRet (xIte (xCmp .eq (xIdx (xVar 0) (xNeg (xCon (.int 1)))) (xCon (.str [101, 110, 100]))) (xBin .add (xVar 3) (xLst false (xsCons (xCon .non) (xsNil)))) (xVar 3))))))
def b12 : Sx := sSeq (sIf (xOr (xNot (xChain .le .le (xCon (.int 1)) (xF gLen (xsCons (xVar 0) (xsNil))) (xCon (.int 9)))) (xNot (xF gAll (xsCons (xComp false [1] (tName 1) .seq (xsCons (xVar 0) xsNil) ifNil (xCmp .isin (xVar 1) (xCon (.str [48, 49, 50, 51, 52, 53, 54, 55, 56, 57])))) (xsNil))))) (sRet (xCon .non)) (sPass)) (sRet (xIte (xAnd (xCmp .eq (xIdx (xVar 0) (xCon (.int 0))) (xCon (.str [48]))) (xCmp .ne (xVar 0) (xCon (.str [48])))) (xCon .non) (xF gInt (xsCons (xVar 0) (xsNil)))))
def b13 : Sx := sSeq (sAsg (tAttr [2] 0 (xVar 0)) (xVar 1)) (sAsg (tAttr [2] 1 (xVar 0)) (xVar 2))
def b14 : Sx := sRet (xFmt (xAttr [2] 0 (xVar 0)))
def b15 : Sx := sRet (xAnd (xF (gIsC [(2, true)]) (xsCons (xVar 1) xsNil)) (xCmp .eq (xAttr [2] 0 (xVar 0)) (xAttr [2] 0 (xVar 1))))
def fns : List Fn := [⟨1, 15, true, b0⟩,
  ⟨2, 4, false, b1⟩,
  ⟨3, 9, false, b2⟩,
  ⟨2, 3, false, b3⟩,
  ⟨2, 2, false, b4⟩,
  ⟨1, 6, false, b5⟩,
  ⟨1, 7, true, b6⟩,
  ⟨2, 4, true, b7⟩,
  ⟨1, 6, true, b8⟩,
  ⟨2, 4, true, b9⟩,
  ⟨1, 2, true, b10⟩,
  ⟨2, 8, true, b11⟩,
  ⟨1, 2, true, b12⟩,
  ⟨3, 3, false, b13⟩,
  ⟨1, 1, true, b14⟩,
  ⟨2, 2, true, b15⟩]
structure Ad where
  (f0 f1 f2 f3 f4 f5 f6 f7 f8 f9 f10 f11 f12 f13 f14 f15 q8 c_Program c_InvalidText x_InvalidText : Addr)
  (d0 d1 d2 d3 d4 d5 d6 d7 d8 d9 d10 d11 d12 d13 d14 d15 xd_InvalidText : FuncData)
def nms : List Str := [("text" : Str), ("nodes" : Str), ("parse" : Str)]
def cf (K : PySem.W.Frag) (w : World) (a : Ad) : Cf := ⟨K, w, nmOf nms, fun i => [0, a.c_InvalidText, a.c_Program].getD i 0, fun i => (["", "row", ""] : List Str).getD i ""⟩
structure Txt (K : PySem.W.Frag) (mg : Str → Option Value) (a : Ad) : Prop where
  F0 : L2.Fun K "law" "law" (top 22) a.f0 a.d0
  B0 : Binds K a.d0 ["script"] []
  G0 : mg "law" = some (.ref a.f0)
  F1 : L2.Fun K "_law_feed" "_law_feed" (top 15) a.f1 a.d1
  B1 : Binds K a.d1 ["script", "k"] []
  G1 : mg "_law_feed" = some (.ref a.f1)
  F2 : L2.Fun K "_law_nodes" "_law_nodes" (top 18) a.f2 a.d2
  B2 : Binds K a.d2 ["feed", "cells", "most"] []
  G2 : mg "_law_nodes" = some (.ref a.f2)
  F3 : L2.Fun K "_law_take" "_law_take" (top 16) a.f3 a.d3
  B3 : Binds K a.d3 ["feed", "size"] []
  G3 : mg "_law_take" = some (.ref a.f3)
  F4 : L2.Fun K "_law_pick" "_law_pick" (top 17) a.f4 a.d4
  B4 : Binds K a.d4 ["feed", "choices"] []
  G4 : mg "_law_pick" = some (.ref a.f4)
  F5 : L2.Fun K "_law_names" "_law_names" (top 20) a.f5 a.d5
  B5 : Binds K a.d5 ["feed"] []
  G5 : mg "_law_names" = some (.ref a.f5)
  F6 : L2.Fun K "_law_text" "_law_text" (top 19) a.f6 a.d6
  B6 : Binds K a.d6 ["nodes"] []
  G6 : mg "_law_text" = some (.ref a.f6)
  F7 : L2.Fun K "_law_is_right" "_law_is_right" (top 21) a.f7 a.d7
  B7 : Binds K a.d7 ["text", "nodes"] []
  G7 : mg "_law_is_right" = some (.ref a.f7)
  F8 : L2.Fun K "parse" "Program.parse" (L2.inClass (top 13) 3) a.f8 a.d8
  B8 : Binds K a.d8 ["text"] []
  S8 : SMet K a.c_Program "parse" a.q8 a.f8
  SI8 : SMeI K a.c_Program "parse" a.q8 a.f8
  F9 : L2.Fun K "read_row" "read_row" (top 12) a.f9 a.d9
  B9 : Binds K a.d9 ["row", "many"] []
  G9 : mg "read_row" = some (.ref a.f9)
  F10 : L2.Fun K "is_name" "is_name" (top 6) a.f10 a.d10
  B10 : Binds K a.d10 ["value"] []
  G10 : mg "is_name" = some (.ref a.f10)
  F11 : L2.Fun K "read_targets" "read_targets" (top 11) a.f11 a.d11
  B11 : Binds K a.d11 ["words", "many"] []
  G11 : mg "read_targets" = some (.ref a.f11)
  F12 : L2.Fun K "read_number" "read_number" (top 10) a.f12 a.d12
  B12 : Binds K a.d12 ["word"] []
  G12 : mg "read_number" = some (.ref a.f12)
  F13 : L2.Fun K "__init__" "Program.__init__" (L2.inClass (top 13) 0) a.f13 a.d13
  B13 : Binds K a.d13 ["self", "text", "nodes"] []
  F14 : L2.Fun K "__str__" "Program.__str__" (L2.inClass (top 13) 1) a.f14 a.d14
  B14 : Binds K a.d14 ["self"] []
  M14 : Meth K a.c_Program "__str__" a.f14
  F15 : L2.Fun K "__eq__" "Program.__eq__" (L2.inClass (top 13) 2) a.f15 a.d15
  B15 : Binds K a.d15 ["self", "other"] []
  M15 : Meth K a.c_Program "__eq__" a.f15
  GC_Program : mg "Program" = some (.ref a.c_Program)
  GC_InvalidText : mg "InvalidText" = some (.ref a.c_InvalidText)
  Cl_Program : Cls K a.c_Program
  na_Program_text : NoAttr K a.c_Program "text"
  na_Program_nodes : NoAttr K a.c_Program "nodes"
  Mk_Program : Mk K a.c_Program a.f13
  Ox_InvalidText : OexC K a.c_InvalidText
  xi_InvalidText : PySem.W.findIn K (.ref a.c_InvalidText) "__init__" = some (some (.ref a.x_InvalidText))
  xt_InvalidText : PySem.W.typeIn K (.ref a.x_InvalidText) = some (.type "function")
  xU_InvalidText : L2.Fun K "__init__" "InvalidText.__init__" (L2.inClass (top 2) 0) a.x_InvalidText a.xd_InvalidText
  xB_InvalidText : Binds K a.xd_InvalidText ["self", "row"] []
  xn_InvalidText : PySem.W.findIn K (.ref a.c_InvalidText) "row" = some none
  Xf_InvalidText : XfC K a.c_InvalidText
  xm_InvalidText_InvalidText : PySem.W.exmOne K (.ref a.c_InvalidText) (.ref a.c_InvalidText) = some true
  isb_Program : BasC K a.c_Program
  nn_Program : PySem.W.findIn K (.ref a.c_Program) "__ne__" = some (some (.builtin "object.__ne__"))
  no_Program : PySem.W.mroIn K a.c_Program (.type "object") = some true
  eqd_Program : ∀ T ∈ dtys, PySem.W.notFirst K a.c_Program (.type T) = true
  eqn_Program_Program : PySem.W.notFirst K a.c_Program (.ref a.c_Program) = true
  isc_Program_Program : InC K a.c_Program a.c_Program true
  n_range : mg "range" = none
  n_max : mg "max" = none
  n_min : mg "min" = none
  n_len : mg "len" = none
  n_list : mg "list" = none
  n_abs : mg "abs" = none
  n_int : mg "int" = none
  n_sorted : mg "sorted" = none
  n_tuple : mg "tuple" = none
  n_str : mg "str" = none
  n_isinstance : mg "isinstance" = none
  n_enumerate : mg "enumerate" = none
  n_all : mg "all" = none
  n_zip : mg "zip" = none
  n_repr : mg "repr" = none
  s_MAX_NODES : ∃ t, mg "MAX_NODES" = some (.int 8 t)
  s_MAX_NAME : ∃ t, mg "MAX_NAME" = some (.int 8 t)
  s_LETTERS : ∃ t, mg "LETTERS" = some (.str (mkS [97, 98, 99, 100, 101, 102, 103, 104, 105, 106, 107, 108, 109, 110, 111, 112, 113, 114, 115, 116, 117, 118, 119, 120, 121, 122]) t)
  s_DIGITS : ∃ t, mg "DIGITS" = some (.str (mkS [48, 49, 50, 51, 52, 53, 54, 55, 56, 57]) t)
section
variable {P : Program} {w : World} {K : PySem.W.Frag} {mg : Str → Option Value} {base : Heap} {a : Ad}
theorem nm_inj (T : Txt K mg a) : ∀ i j, (cf K w a).nm i = (cf K w a).nm j → i = j := nmOf_inj (by decide +kernel) (by decide +kernel)
theorem xsc_InvalidText : FnScope ["self", "row"] ["self", "row"] (defScope (L2.inClass (top 2) 0)) := ⟨rfl, rfl, rfl, by decide +kernel, rfl, by decide +kernel, by decide +kernel⟩
theorem Txt.xF_InvalidText (T : Txt K mg a) {X : Cx} {k : Nat} {Wx : WX} (R : Rm X (cf K w a) k Wx) : FnOk X.prog X.w K X.mg X.base CX0 (2 * k + 1) a.x_InvalidText a.xd_InvalidText ["self", "row"] (spXi K ((cf K w a).xf 1)) :=
  FnOk.mono (xi_ok (k := 0) T.xU_InvalidText xsc_InvalidText rfl rfl rfl (by decide) (by decide)) (by omega)
theorem sc0 : FnScope ["script", "index", "feed", "kept", "turn", "nodes", "text", "rows", "full", "some", "one", "first", "other", "second", "row"] ["script"] (defScope (top 22)) := ⟨rfl, rfl, rfl, by decide +kernel, rfl, by decide +kernel, by decide +kernel⟩
theorem sc1 : FnScope ["script", "k", "seed", "digits"] ["script", "k"] (defScope (top 15)) := ⟨rfl, rfl, rfl, by decide +kernel, rfl, by decide +kernel, by decide +kernel⟩
theorem sc2 : FnScope ["feed", "cells", "most", "many", "found", "at", "targets", "word", "one"] ["feed", "cells", "most"] (defScope (top 18)) := ⟨rfl, rfl, rfl, by decide +kernel, rfl, by decide +kernel, by decide +kernel⟩
theorem sc3 : FnScope ["feed", "size", "digit"] ["feed", "size"] (defScope (top 16)) := ⟨rfl, rfl, rfl, by decide +kernel, rfl, by decide +kernel, by decide +kernel⟩
theorem sc4 : FnScope ["feed", "choices"] ["feed", "choices"] (defScope (top 17)) := ⟨rfl, rfl, rfl, by decide +kernel, rfl, by decide +kernel, by decide +kernel⟩
theorem sc5 : FnScope ["feed", "letters", "found", "turn", "word", "more"] ["feed"] (defScope (top 20)) := ⟨rfl, rfl, rfl, by decide +kernel, rfl, by decide +kernel, by decide +kernel⟩
theorem sc6 : FnScope ["nodes", "rows", "word", "cell", "targets", "row", "one"] ["nodes"] (defScope (top 19)) := ⟨rfl, rfl, rfl, by decide +kernel, rfl, by decide +kernel, by decide +kernel⟩
theorem sc7 : FnScope ["text", "nodes", "made", "thing"] ["text", "nodes"] (defScope (top 21)) := ⟨rfl, rfl, rfl, by decide +kernel, rfl, by decide +kernel, by decide +kernel⟩
theorem sc8 : FnScope ["text", "rows", "found", "index", "row", "node"] ["text"] (defScope (L2.inClass (top 13) 3)) := ⟨rfl, rfl, rfl, by decide +kernel, rfl, by decide +kernel, by decide +kernel⟩
theorem sc9 : FnScope ["row", "many", "words", "targets"] ["row", "many"] (defScope (top 12)) := ⟨rfl, rfl, rfl, by decide +kernel, rfl, by decide +kernel, by decide +kernel⟩
theorem sc10 : FnScope ["value", "letter"] ["value"] (defScope (top 6)) := ⟨rfl, rfl, rfl, by decide +kernel, rfl, by decide +kernel, by decide +kernel⟩
theorem sc11 : FnScope ["words", "many", "numbers", "found", "word", "number", "one", "other"] ["words", "many"] (defScope (top 11)) := ⟨rfl, rfl, rfl, by decide +kernel, rfl, by decide +kernel, by decide +kernel⟩
theorem sc12 : FnScope ["word", "digit"] ["word"] (defScope (top 10)) := ⟨rfl, rfl, rfl, by decide +kernel, rfl, by decide +kernel, by decide +kernel⟩
theorem sc13 : FnScope ["self", "text", "nodes"] ["self", "text", "nodes"] (defScope (L2.inClass (top 13) 0)) := ⟨rfl, rfl, rfl, by decide +kernel, rfl, by decide +kernel, by decide +kernel⟩
theorem sc14 : FnScope ["self"] ["self"] (defScope (L2.inClass (top 13) 1)) := ⟨rfl, rfl, rfl, by decide +kernel, rfl, by decide +kernel, by decide +kernel⟩
theorem sc15 : FnScope ["self", "other"] ["self", "other"] (defScope (L2.inClass (top 13) 2)) := ⟨rfl, rfl, rfl, by decide +kernel, rfl, by decide +kernel, by decide +kernel⟩
structure AllF (P : Program) (w : World) (K : PySem.W.Frag) (mg : Str → Option Value) (base : Heap) (a : Ad) (k : Nat) : Prop where
  h0 : FnG P w K mg base (2 * k + 1) a.f0 a.d0 ["script"] (spC (cf K w a) (callF fns k) 0)
  h1 : FnG P w K mg base (2 * k + 1) a.f1 a.d1 ["script", "k"] (spC (cf K w a) (callF fns k) 1)
  h2 : FnG P w K mg base (2 * k + 1) a.f2 a.d2 ["feed", "cells", "most"] (spC (cf K w a) (callF fns k) 2)
  h3 : FnG P w K mg base (2 * k + 1) a.f3 a.d3 ["feed", "size"] (spC (cf K w a) (callF fns k) 3)
  h4 : FnG P w K mg base (2 * k + 1) a.f4 a.d4 ["feed", "choices"] (spC (cf K w a) (callF fns k) 4)
  h5 : FnG P w K mg base (2 * k + 1) a.f5 a.d5 ["feed"] (spC (cf K w a) (callF fns k) 5)
  h6 : FnG P w K mg base (2 * k + 1) a.f6 a.d6 ["nodes"] (spC (cf K w a) (callF fns k) 6)
  h7 : FnG P w K mg base (2 * k + 1) a.f7 a.d7 ["text", "nodes"] (spC (cf K w a) (callF fns k) 7)
  h8 : FnG P w K mg base (2 * k + 1) a.f8 a.d8 ["text"] (spC (cf K w a) (callF fns k) 8)
  h9 : FnG P w K mg base (2 * k + 1) a.f9 a.d9 ["row", "many"] (spC (cf K w a) (callF fns k) 9)
  h10 : FnG P w K mg base (2 * k + 1) a.f10 a.d10 ["value"] (spC (cf K w a) (callF fns k) 10)
  h11 : FnG P w K mg base (2 * k + 1) a.f11 a.d11 ["words", "many"] (spC (cf K w a) (callF fns k) 11)
  h12 : FnG P w K mg base (2 * k + 1) a.f12 a.d12 ["word"] (spC (cf K w a) (callF fns k) 12)
  h13 : FnG P w K mg base (2 * k + 1) a.f13 a.d13 ["self", "text", "nodes"] (spC (cf K w a) (callF fns k) 13)
  h14 : FnG P w K mg base (2 * k + 1) a.f14 a.d14 ["self"] (spC (cf K w a) (callF fns k) 14)
  h15 : FnG P w K mg base (2 * k + 1) a.f15 a.d15 ["self", "other"] (spC (cf K w a) (callF fns k) 15)
theorem ok0 (T : Txt K mg a) {k : Nat} (I : AllF P w K mg base a k) : FnG P w K mg base (2 * (k + 1) + 1) a.f0 a.d0 ["script"] (spC (cf K w a) (callF fns (k + 1)) 0) :=
  def_ok (C := cf K w a) (f := 0) (fn := ⟨1, 15, true, b0⟩) rfl T.F0 sc0 rfl rfl fun cdv A outer s H E hr hg => by
    have R := Rm.start (P := P) (w := w) (C := cf K w a) (mg := mg) (base := base) (N := ["script", "index", "feed", "kept", "turn", "nodes", "text", "rows", "full", "some", "one", "first", "other", "second", "row"]) (outer := outer) (s := s) (H := H) (E := E) hr hg
    have h : PSs (cxOf (L2.CX P w) P w (cf K w a).K mg base ["script", "index", "feed", "kept", "turn", "nodes", "text", "rows", "full", "some", "one", "first", "other", "second", "row"] "law" (defScope (top 22)) a.f0 cdv A outer s H E) (defBody (top 22)) (tst (cf K w a) (callF fns k) (fun cls d _ H => E cls d H) (sSeq (sFor (tName 1) .range (xsCons (xF gMax2 (xsCons (xCon (.int 1)) (xsCons (xF gMin2 (xsCons (xCon (.int 5)) (xsCons (xF gLen (xsCons (xVar 0) (xsNil))) (xsNil)))) (xsNil)))) (xsNil)) (sSeq (sAsg (tName 2) (xCall 1 (xsCons (xVar 0) (xsCons (xVar 1) (xsNil))))) (sSeq (sAsg (tName 3) (xLst true (xsNil))) (sSeq (sFor (tName 4) .range (xsCons (xCon (.int 5)) (xsNil)) (sSeq (sAsg (tName 5) (xCall 2 (xsCons (xVar 2) (xsCons (xCall 5 (xsCons (xVar 2) (xsNil))) (xsCons (xCon (.int 8)) (xsNil)))))) (sSeq (sAsg (tName 6) (xCall 6 (xsCons (xVar 5) (xsNil)))) (sSeq (sAsg (tName 7) (xM .str (mSplit false) (xVar 6) (xsCons (xCon (.str [10])) (xsNil)))) (sSeq (sAsg (tName 8) (xM .str mJoin (xCon (.str [10])) (xsCons (xComp false [14] (tName 14) .seq (xsCons (xVar 7) xsNil) ifNil (xIte (xInS false (xCon (.str [45, 62])) (xVar 14)) (xVar 14) (xBin .add (xVar 14) (xCon (.str [32, 45, 62, 32, 101, 110, 100]))))) (xsNil)))) (sFor (tName 9) .seq (xsCons (xTup (xsCons (xVar 6) (xsCons (xVar 8) (xsNil)))) xsNil) (sSeq (sIf (xNot (xCall 7 (xsCons (xVar 9) (xsCons (xVar 5) (xsNil))))) (sRet (xCon (.bl false))) (sPass)) (sEx (xM .list mAppend (xVar 3) (xsCons (xTup (xsCons (xVar 9) (xsCons (xCall 8 (xsCons (xVar 9) (xsNil))) (xsNil)))) (xsNil))))))))))) (sFor (tTup 2 (tsCons (tName 10) (tsCons (tName 11) (tsNil)))) .seq (xsCons (xVar 3) xsNil) (sFor (tTup 2 (tsCons (tName 12) (tsCons (tName 13) (tsNil)))) .seq (xsCons (xVar 3) xsNil) (sIf (xOr (xCmp .ne (xEqO [(2, 15)] (xVar 11) (xVar 13)) (xCmp .eq (xVar 10) (xVar 12))) (xCmp .ne (xNeO [(2, 15)] (xVar 11) (xVar 13)) (xCmp .ne (xVar 10) (xVar 12)))) (sRet (xCon (.bl false))) (sPass)))))))) (sRet (xCon (.bl true))))) :=
      pss_consv (q_for R [1] (q_rng1 T.n_range (q_B "max" (c_max2 rfl) T.n_max (q_cons (q_int) (q_cons (q_B "min" (c_min2 rfl) T.n_min (q_cons (q_int) (q_cons (q_B "len" (c_len R.rk.K) T.n_len (q_cons (q_var 0) (pas_nil))) (pas_nil)))) (pas_nil))))) (g_name 1 (sc0).nd) (pss_consv (q_set 2 (sc0).nd (q_call R I.h1 T.B1 T.G1 T.F1.kp (q_cons (q_var 0) (q_cons (q_var 1) (pas_nil))))) (pss_consv (q_set 3 (sc0).nd (pv_lst (pas_nil))) (pss_consv (q_for R [4] (q_rng1 T.n_range (q_int)) (g_name 4 (sc0).nd) (pss_consv (q_set 5 (sc0).nd (q_call R I.h2 T.B2 T.G2 T.F2.kp (q_cons (q_var 2) (q_cons (q_call R I.h5 T.B5 T.G5 T.F5.kp (q_cons (q_var 2) (pas_nil))) (q_cons (q_int) (pas_nil)))))) (pss_consv (q_set 6 (sc0).nd (q_call R I.h6 T.B6 T.G6 T.F6.kp (q_cons (q_var 5) (pas_nil)))) (pss_consv (q_set 7 (sc0).nd (q_M (kd := .str) R.rk F.plainAttrs_str F.slot_str_split F.type_str_split m_split (q_var 6) (q_cons (q_str) (pas_nil)))) (pss_consv (q_set 8 (sc0).nd (q_M (kd := .str) R.rk F.plainAttrs_str F.slot_str_join F.type_str_join m_join (q_str) (q_cons (q_lc R [("row", 14)] (sc0).nd (q_seq (q_var 7)) (fun _ _ _ _ _ R => g_name 14 (sc0).nd) (fun _ _ _ _ _ R => pfs_nil) (fun _ _ _ _ _ R => pv_ite (q_inST R.rk false (q_str) (q_var 14)) (q_var 14) (q_bin R.rk (q_var 14) (q_str)))) (pas_nil)))) (pss_onev (q_for R [9] (q_seq (pv_tup (q_cons (q_var 6) (q_cons (q_var 8) (pas_nil))))) (g_name 9 (sc0).nd) (pss_consv (psv_if (pt_notv (q_T (q_call R I.h7 T.B7 T.G7 T.F7.kp (q_cons (q_var 9) (q_cons (q_var 5) (pas_nil)))))) (pss_onev (psv_ret (q_bl))) (pss_nilv)) (pss_onev (q_ex (q_M (kd := .list) R.rk F.plainAttrs_list F.slot_list_append F.type_list_append m_append (q_var 3) (q_cons (pv_tup (q_cons (q_var 9) (q_cons (q_static R T.S8 I.h8 T.B8 T.GC_Program (q_cons (q_var 9) (pas_nil))) (pas_nil)))) (pas_nil))))))))))))) (pss_onev (q_for R [10, 11] (q_seq (q_var 3)) (g_tup (g_cons (g_name 10 (sc0).nd) (g_cons (g_name 11 (sc0).nd) (pgvs_nil)))) (pss_onev (q_for R [12, 13] (q_seq (q_var 3)) (g_tup (g_cons (g_name 12 (sc0).nd) (g_cons (g_name 13 (sc0).nd) (pgvs_nil)))) (pss_onev (psv_if (q_bool (pw_orv (q_cmpT R.rk (q_eqO R (tab_cons ⟨_, _, _, T.M15.at_, T.M15.fn, I.h15, T.B15, (tab_cons T.eqn_Program_Program (tab_nil)), T.eqd_Program⟩ (tab_nil)) (q_var 11) (q_var 13)) (q_cmp R.rk (q_var 10) (q_var 12))) (pw_onev (q_cmpT R.rk (q_neO R ⟨tab_cons ⟨_, _, _, T.M15.at_, T.M15.fn, I.h15, T.B15, (tab_cons T.eqn_Program_Program (tab_nil)), T.eqd_Program⟩ (tab_nil), tab_cons ⟨T.nn_Program, T.no_Program⟩ (tab_nil)⟩ (q_var 11) (q_var 13)) (q_cmp R.rk (q_var 10) (q_var 12)))))) (pss_onev (psv_ret (q_bl))) (pss_nilv))))))))))) (pss_onev (psv_ret (q_bl)))
    exact h
theorem ok1 (T : Txt K mg a) {k : Nat} (I : AllF P w K mg base a k) : FnG P w K mg base (2 * (k + 1) + 1) a.f1 a.d1 ["script", "k"] (spC (cf K w a) (callF fns (k + 1)) 1) :=
  def_ok (C := cf K w a) (f := 1) (fn := ⟨2, 4, false, b1⟩) rfl T.F1 sc1 rfl rfl fun cdv A outer s H E hr hg => by
    have R := Rm.start (P := P) (w := w) (C := cf K w a) (mg := mg) (base := base) (N := ["script", "k", "seed", "digits"]) (outer := outer) (s := s) (H := H) (E := E) hr hg
    have h : PSs (cxOf (L2.CX P w) P w (cf K w a).K mg base ["script", "k", "seed", "digits"] "_law_feed" (defScope (top 15)) a.f1 cdv A outer s H E) (defBody (top 15)) (tst (cf K w a) (callF fns k) (fun cls d _ H => E cls d H) (sSeq (sAsg (tName 2) (xIdx (xBin .add (xF (gListK false) (xsCons (xSlc false (xVar 0) (oSome (xVar 1)) (oSome (xBin .add (xVar 1) (xCon (.int 1))))) (xsNil))) (xLst false (xsCons (xBin .add (xBin .mul (xCon (.int 71)) (xVar 1)) (xCon (.int 23))) (xsNil)))) (xCon (.int 0)))) (sSeq (sAsg (tName 3) (xF gMax2 (xsCons (xCon (.int 0)) (xsCons (xBin .sub (xF gAbs (xsCons (xVar 2) (xsNil))) (xBin .pow (xCon (.int 10)) (xCon (.int 18)))) (xsNil))))) (sRet (xLst true (xsCons (xVar 3) (xsCons (xBin .mod (xF gInt (xsCons (xBin .add (xBin .add (xBin .mul (xBin .mod (xF gInt (xsCons (xF gAbs (xsCons (xVar 2) (xsNil))) (xsNil))) (xCon (.int 1000003))) (xCon (.int 7919))) (xBin .mul (xCon (.int 31)) (xVar 1))) (xCon (.int 17))) (xsNil))) (xCon (.int 1000033))) (xsNil)))))))) :=
      pss_consv (q_set 2 (sc1).nd (q_idx R.rk (q_bin R.rk (q_Ty "list" (c_listK rfl R.rk.K) T.n_list (q_cons (q_slc R.rk (q_var 0) (pov_some (q_var 1)) (pov_some (q_bin R.rk (q_var 1) (q_int)))) (pas_nil))) (pv_lst (q_cons (q_bin R.rk (q_bin R.rk (q_int) (q_var 1)) (q_int)) (pas_nil)))) (q_int))) (pss_consv (q_set 3 (sc1).nd (q_B "max" (c_max2 rfl) T.n_max (q_cons (q_int) (q_cons (q_bin R.rk (q_B "abs" (c_abs) T.n_abs (q_cons (q_var 2) (pas_nil))) (q_bin R.rk (q_int) (q_int))) (pas_nil))))) (pss_onev (psv_ret (pv_lst (q_cons (q_var 3) (q_cons (q_bin R.rk (q_Ty "int" (c_int) T.n_int (q_cons (q_bin R.rk (q_bin R.rk (q_bin R.rk (q_bin R.rk (q_Ty "int" (c_int) T.n_int (q_cons (q_B "abs" (c_abs) T.n_abs (q_cons (q_var 2) (pas_nil))) (pas_nil))) (q_int)) (q_int)) (q_bin R.rk (q_int) (q_var 1))) (q_int)) (pas_nil))) (q_int)) (pas_nil)))))))
    exact h
theorem ok2 (T : Txt K mg a) {k : Nat} (I : AllF P w K mg base a k) : FnG P w K mg base (2 * (k + 1) + 1) a.f2 a.d2 ["feed", "cells", "most"] (spC (cf K w a) (callF fns (k + 1)) 2) :=
  def_ok (C := cf K w a) (f := 2) (fn := ⟨3, 9, false, b2⟩) rfl T.F2 sc2 rfl rfl fun cdv A outer s H E hr hg => by
    have R := Rm.start (P := P) (w := w) (C := cf K w a) (mg := mg) (base := base) (N := ["feed", "cells", "most", "many", "found", "at", "targets", "word", "one"]) (outer := outer) (s := s) (H := H) (E := E) hr hg
    have h : PSs (cxOf (L2.CX P w) P w (cf K w a).K mg base ["feed", "cells", "most", "many", "found", "at", "targets", "word", "one"] "_law_nodes" (defScope (top 18)) a.f2 cdv A outer s H E) (defBody (top 18)) (tst (cf K w a) (callF fns k) (fun cls d _ H => E cls d H) (sSeq (sPar 3 4 (xsCons (xBin .add (xCon (.int 1)) (xCall 3 (xsCons (xVar 0) (xsCons (xVar 2) (xsNil))))) (xsCons (xLst true (xsNil)) (xsNil)))) (sSeq (sFor (tName 5) .range (xsCons (xVar 3) (xsNil)) (sSeq (sAsg (tName 6) (xComp false [8] (tName 8) .range (xsCons (xVar 3) (xsNil)) (ifCons (xCmp .eq (xCall 3 (xsCons (xVar 0) (xsCons (xCon (.int 4)) (xsNil)))) (xCon (.int 0))) ifNil) (xVar 8))) (sSeq (sIf (xAnd (xCmp .eq (xCall 3 (xsCons (xVar 0) (xsCons (xCon (.int 2)) (xsNil)))) (xCon (.int 0))) (xAnd (xCmp .lt (xBin .add (xVar 5) (xCon (.int 1))) (xVar 3)) (xCmp .notin (xBin .add (xVar 5) (xCon (.int 1))) (xVar 6)))) (sAsg (tName 6) (xF gSort (xsCons (xBin .add (xVar 6) (xLst false (xsCons (xBin .add (xVar 5) (xCon (.int 1))) (xsNil)))) (xsNil)))) (sPass)) (sSeq (sIf (xOr (xIsE false (xVar 6)) (xCmp .eq (xCall 3 (xsCons (xVar 0) (xsCons (xCon (.int 4)) (xsNil)))) (xCon (.int 0)))) (sAsg (tName 6) (xBin .add (xVar 6) (xLst false (xsCons (xCon .non) (xsNil))))) (sPass)) (sSeq (sAsg (tName 7) (xCall 4 (xsCons (xVar 0) (xsCons (xLst false (xsCons (xCon (.str [114, 101, 97, 100])) (xsCons (xCon (.str [119, 114, 105, 116, 101])) (xsCons (xCon (.str [119, 114, 105, 116, 101])) (xsNil))))) (xsNil))))) (sEx (xM .list mAppend (xVar 4) (xsCons (xTup (xsCons (xVar 7) (xsCons (xCall 4 (xsCons (xVar 0) (xsCons (xF (gListK false) (xsCons (xVar 1) (xsNil))) (xsNil)))) (xsCons (xF gTuple (xsCons (xVar 6) (xsNil))) (xsNil))))) (xsNil))))))))) (sRet (xF gTuple (xsCons (xVar 4) (xsNil))))))) :=
      pss_consv (q_par 3 4 (sc2).nd (q_cons (q_bin R.rk (q_int) (q_call R I.h3 T.B3 T.G3 T.F3.kp (q_cons (q_var 0) (q_cons (q_var 2) (pas_nil))))) (q_cons (pv_lst (pas_nil)) (pas_nil)))) (pss_consv (q_for R [5] (q_rng1 T.n_range (q_var 3)) (g_name 5 (sc2).nd) (pss_consv (q_setLc R 6 [("one", 8)] (sc2).nd (q_rng1 T.n_range (q_var 3)) (fun _ _ _ _ _ R => g_name 8 (sc2).nd) (fun _ _ _ _ _ R => pfs_one (q_cmpT R.rk (q_call R I.h3 T.B3 T.G3 T.F3.kp (q_cons (q_var 0) (q_cons (q_int) (pas_nil)))) (q_int))) (fun _ _ _ _ _ R => q_var 8)) (pss_consv (psv_if (q_bool (pw_andv (q_cmpT R.rk (q_call R I.h3 T.B3 T.G3 T.F3.kp (q_cons (q_var 0) (q_cons (q_int) (pas_nil)))) (q_int)) (pw_andv (q_cmpT R.rk (q_bin R.rk (q_var 5) (q_int)) (q_var 3)) (pw_onev (q_cmpT R.rk (q_bin R.rk (q_var 5) (q_int)) (q_var 6)))))) (pss_onev (q_set 6 (sc2).nd (q_B "sorted" (c_sort rfl R.rk.hu R.rk.K) T.n_sorted (q_cons (q_bin R.rk (q_var 6) (pv_lst (q_cons (q_bin R.rk (q_var 5) (q_int)) (pas_nil)))) (pas_nil))))) (pss_nilv)) (pss_consv (psv_if (q_bool (pw_orv (q_isET R.rk false (q_var 6)) (pw_onev (q_cmpT R.rk (q_call R I.h3 T.B3 T.G3 T.F3.kp (q_cons (q_var 0) (q_cons (q_int) (pas_nil)))) (q_int))))) (pss_onev (q_set 6 (sc2).nd (q_bin R.rk (q_var 6) (pv_lst (q_cons (q_non) (pas_nil)))))) (pss_nilv)) (pss_consv (q_set 7 (sc2).nd (q_call R I.h4 T.B4 T.G4 T.F4.kp (q_cons (q_var 0) (q_cons (pv_lst (q_cons (q_str) (q_cons (q_str) (q_cons (q_str) (pas_nil))))) (pas_nil))))) (pss_onev (q_ex (q_M (kd := .list) R.rk F.plainAttrs_list F.slot_list_append F.type_list_append m_append (q_var 4) (q_cons (pv_tup (q_cons (q_var 7) (q_cons (q_call R I.h4 T.B4 T.G4 T.F4.kp (q_cons (q_var 0) (q_cons (q_Ty "list" (c_listK rfl R.rk.K) T.n_list (q_cons (q_var 1) (pas_nil))) (pas_nil)))) (q_cons (q_Ty "tuple" (c_tuple R.rk.K) T.n_tuple (q_cons (q_var 6) (pas_nil))) (pas_nil))))) (pas_nil)))))))))) (pss_onev (psv_ret (q_Ty "tuple" (c_tuple R.rk.K) T.n_tuple (q_cons (q_var 4) (pas_nil))))))
    exact h
theorem ok3 (T : Txt K mg a) {k : Nat} (I : AllF P w K mg base a k) : FnG P w K mg base (2 * (k + 1) + 1) a.f3 a.d3 ["feed", "size"] (spC (cf K w a) (callF fns (k + 1)) 3) :=
  def_ok (C := cf K w a) (f := 3) (fn := ⟨2, 3, false, b3⟩) rfl T.F3 sc3 rfl rfl fun cdv A outer s H E hr hg => by
    have R := Rm.start (P := P) (w := w) (C := cf K w a) (mg := mg) (base := base) (N := ["feed", "size", "digit"]) (outer := outer) (s := s) (H := H) (E := E) hr hg
    have h : PSs (cxOf (L2.CX P w) P w (cf K w a).K mg base ["feed", "size", "digit"] "_law_take" (defScope (top 16)) a.f3 cdv A outer s H E) (defBody (top 16)) (tst (cf K w a) (callF fns k) (fun cls d _ H => E cls d H) (sSeq (sIf (xCmp .gt (xIdx (xVar 0) (xCon (.int 0))) (xCon (.int 0))) (sSeq (sAsg (tName 2) (xBin .mod (xF gInt (xsCons (xIdx (xVar 0) (xCon (.int 0))) (xsNil))) (xVar 1))) (sSeq (sAsg (tSub (xVar 0) (xCon (.int 0))) (xBin .fdiv (xIdx (xVar 0) (xCon (.int 0))) (xVar 1))) (sRet (xVar 2)))) (sPass)) (sSeq (sAsg (tSub (xVar 0) (xCon (.int 1))) (xBin .mod (xF gInt (xsCons (xBin .add (xBin .mul (xIdx (xVar 0) (xCon (.int 1))) (xCon (.int 69069))) (xCon (.int 12345))) (xsNil))) (xCon (.int 4294967311)))) (sRet (xBin .mod (xF gInt (xsCons (xBin .fdiv (xIdx (xVar 0) (xCon (.int 1))) (xCon (.int 65536))) (xsNil))) (xVar 1)))))) :=
      pss_consv (psv_if (q_cmpT R.rk (q_idx R.rk (q_var 0) (q_int)) (q_int)) (pss_consv (q_set 2 (sc3).nd (q_bin R.rk (q_Ty "int" (c_int) T.n_int (q_cons (q_idx R.rk (q_var 0) (q_int)) (pas_nil))) (q_var 1))) (pss_consv (q_asg [] (q_bin R.rk (q_idx R.rk (q_var 0) (q_int)) (q_var 1)) (g_sub R.rk (Wx := WF) (q_var 0) (q_int))) (pss_onev (psv_ret (q_var 2))))) (pss_nilv)) (pss_consv (q_asg [] (q_bin R.rk (q_Ty "int" (c_int) T.n_int (q_cons (q_bin R.rk (q_bin R.rk (q_idx R.rk (q_var 0) (q_int)) (q_int)) (q_int)) (pas_nil))) (q_int)) (g_sub R.rk (Wx := WF) (q_var 0) (q_int))) (pss_onev (psv_ret (q_bin R.rk (q_Ty "int" (c_int) T.n_int (q_cons (q_bin R.rk (q_idx R.rk (q_var 0) (q_int)) (q_int)) (pas_nil))) (q_var 1)))))
    exact h
theorem ok4 (T : Txt K mg a) {k : Nat} (I : AllF P w K mg base a k) : FnG P w K mg base (2 * (k + 1) + 1) a.f4 a.d4 ["feed", "choices"] (spC (cf K w a) (callF fns (k + 1)) 4) :=
  def_ok (C := cf K w a) (f := 4) (fn := ⟨2, 2, false, b4⟩) rfl T.F4 sc4 rfl rfl fun cdv A outer s H E hr hg => by
    have R := Rm.start (P := P) (w := w) (C := cf K w a) (mg := mg) (base := base) (N := ["feed", "choices"]) (outer := outer) (s := s) (H := H) (E := E) hr hg
    have h : PSs (cxOf (L2.CX P w) P w (cf K w a).K mg base ["feed", "choices"] "_law_pick" (defScope (top 17)) a.f4 cdv A outer s H E) (defBody (top 17)) (tst (cf K w a) (callF fns k) (fun cls d _ H => E cls d H) (sRet (xIdx (xVar 1) (xCall 3 (xsCons (xVar 0) (xsCons (xF gLen (xsCons (xVar 1) (xsNil))) (xsNil))))))) :=
      pss_onev (psv_ret (q_idx R.rk (q_var 1) (q_call R I.h3 T.B3 T.G3 T.F3.kp (q_cons (q_var 0) (q_cons (q_B "len" (c_len R.rk.K) T.n_len (q_cons (q_var 1) (pas_nil))) (pas_nil))))))
    exact h
theorem ok5 (T : Txt K mg a) {k : Nat} (I : AllF P w K mg base a k) : FnG P w K mg base (2 * (k + 1) + 1) a.f5 a.d5 ["feed"] (spC (cf K w a) (callF fns (k + 1)) 5) :=
  def_ok (C := cf K w a) (f := 5) (fn := ⟨1, 6, false, b5⟩) rfl T.F5 sc5 rfl rfl fun cdv A outer s H E hr hg => by
    have R := Rm.start (P := P) (w := w) (C := cf K w a) (mg := mg) (base := base) (N := ["feed", "letters", "found", "turn", "word", "more"]) (outer := outer) (s := s) (H := H) (E := E) hr hg
    have h : PSs (cxOf (L2.CX P w) P w (cf K w a).K mg base ["feed", "letters", "found", "turn", "word", "more"] "_law_names" (defScope (top 20)) a.f5 cdv A outer s H E) (defBody (top 20)) (tst (cf K w a) (callF fns k) (fun cls d _ H => E cls d H) (sSeq (sPar 1 2 (xsCons (xF (gListK false) (xsCons (xCon (.str [97, 98, 99, 100, 101, 102, 103, 104, 105, 106, 107, 108, 109, 110, 111, 112, 113, 114, 115, 116, 117, 118, 119, 120, 121, 122])) (xsNil))) (xsCons (xLst true (xsCons (xCon (.str [101, 110, 100])) (xsCons (xCon (.str [114, 101, 97, 100])) (xsCons (xCon (.str [119, 114, 105, 116, 101])) (xsCons (xCon (.str [120])) (xsCons (xCon (.str [97, 98, 99, 100, 101, 102, 103, 104])) (xsNil))))))) (xsNil)))) (sSeq (sFor (tName 3) .range (xsCons (xCon (.int 3)) (xsNil)) (sSeq (sAsg (tName 4) (xCon (.str []))) (sSeq (sFor (tName 5) .range (xsCons (xBin .add (xCon (.int 1)) (xCall 3 (xsCons (xVar 0) (xsCons (xCon (.int 8)) (xsNil))))) (xsNil)) (sAsg (tName 4) (xBin .add (xVar 4) (xCall 4 (xsCons (xVar 0) (xsCons (xVar 1) (xsNil))))))) (sEx (xM .list mAppend (xVar 2) (xsCons (xVar 4) (xsNil))))))) (sRet (xSlc false (xVar 2) (oSome (xCall 3 (xsCons (xVar 0) (xsCons (xCon (.int 5)) (xsNil))))) oNone))))) :=
      pss_consv (q_par 1 2 (sc5).nd (q_cons (q_Ty "list" (c_listK rfl R.rk.K) T.n_list (q_cons (q_str) (pas_nil))) (q_cons (pv_lst (q_cons (q_str) (q_cons (q_str) (q_cons (q_str) (q_cons (q_str) (q_cons (q_str) (pas_nil))))))) (pas_nil)))) (pss_consv (q_for R [3] (q_rng1 T.n_range (q_int)) (g_name 3 (sc5).nd) (pss_consv (q_set 4 (sc5).nd (q_str)) (pss_consv (q_for R [5] (q_rng1 T.n_range (q_bin R.rk (q_int) (q_call R I.h3 T.B3 T.G3 T.F3.kp (q_cons (q_var 0) (q_cons (q_int) (pas_nil)))))) (g_name 5 (sc5).nd) (pss_onev (q_set 4 (sc5).nd (q_bin R.rk (q_var 4) (q_call R I.h4 T.B4 T.G4 T.F4.kp (q_cons (q_var 0) (q_cons (q_var 1) (pas_nil)))))))) (pss_onev (q_ex (q_M (kd := .list) R.rk F.plainAttrs_list F.slot_list_append F.type_list_append m_append (q_var 2) (q_cons (q_var 4) (pas_nil)))))))) (pss_onev (psv_ret (q_slc R.rk (q_var 2) (pov_some (q_call R I.h3 T.B3 T.G3 T.F3.kp (q_cons (q_var 0) (q_cons (q_int) (pas_nil))))) pov_none))))
    exact h
theorem ok6 (T : Txt K mg a) {k : Nat} (I : AllF P w K mg base a k) : FnG P w K mg base (2 * (k + 1) + 1) a.f6 a.d6 ["nodes"] (spC (cf K w a) (callF fns (k + 1)) 6) :=
  def_ok (C := cf K w a) (f := 6) (fn := ⟨1, 7, true, b6⟩) rfl T.F6 sc6 rfl rfl fun cdv A outer s H E hr hg => by
    have R := Rm.start (P := P) (w := w) (C := cf K w a) (mg := mg) (base := base) (N := ["nodes", "rows", "word", "cell", "targets", "row", "one"]) (outer := outer) (s := s) (H := H) (E := E) hr hg
    have h : PSs (cxOf (L2.CX P w) P w (cf K w a).K mg base ["nodes", "rows", "word", "cell", "targets", "row", "one"] "_law_text" (defScope (top 19)) a.f6 cdv A outer s H E) (defBody (top 19)) (tst (cf K w a) (callF fns k) (fun cls d _ H => E cls d H) (sSeq (sAsg (tName 1) (xLst true (xsNil))) (sSeq (sFor (tTup 3 (tsCons (tName 2) (tsCons (tName 3) (tsCons (tName 4) (tsNil))))) .seq (xsCons (xVar 0) xsNil) (sSeq (sAsg (tName 5) (xBin .add (xBin .add (xVar 2) (xCon (.str [32]))) (xVar 3))) (sSeq (sIf (xCmp .ne (xVar 4) (xTup (xsCons (xCon .non) (xsNil)))) (sAsg (tName 5) (xBin .add (xBin .add (xVar 5) (xCon (.str [32, 45, 62, 32]))) (xM .str mJoin (xCon (.str [32])) (xsCons (xComp false [6] (tName 6) .seq (xsCons (xVar 4) xsNil) ifNil (xIte (xIsN true (xVar 6)) (xCon (.str [101, 110, 100])) (xF gStr (xsCons (xVar 6) (xsNil))))) (xsNil))))) (sPass)) (sEx (xM .list mAppend (xVar 1) (xsCons (xVar 5) (xsNil))))))) (sRet (xM .str mJoin (xCon (.str [10])) (xsCons (xVar 1) (xsNil))))))) :=
      pss_consv (q_set 1 (sc6).nd (pv_lst (pas_nil))) (pss_consv (q_for R [2, 3, 4] (q_seq (q_var 0)) (g_tup (g_cons (g_name 2 (sc6).nd) (g_cons (g_name 3 (sc6).nd) (g_cons (g_name 4 (sc6).nd) (pgvs_nil))))) (pss_consv (q_set 5 (sc6).nd (q_bin R.rk (q_bin R.rk (q_var 2) (q_str)) (q_var 3))) (pss_consv (psv_if (q_cmpT R.rk (q_var 4) (pv_tup (q_cons (q_non) (pas_nil)))) (pss_onev (q_set 5 (sc6).nd (q_bin R.rk (q_bin R.rk (q_var 5) (q_str)) (q_M (kd := .str) R.rk F.plainAttrs_str F.slot_str_join F.type_str_join m_join (q_str) (q_cons (q_lc R [("one", 6)] (sc6).nd (q_seq (q_var 4)) (fun _ _ _ _ _ R => g_name 6 (sc6).nd) (fun _ _ _ _ _ R => pfs_nil) (fun _ _ _ _ _ R => pv_ite (ptv_isN (q_var 6)) (q_str) (q_Ty "str" (c_str) T.n_str (q_cons (q_var 6) (pas_nil))))) (pas_nil)))))) (pss_nilv)) (pss_onev (q_ex (q_M (kd := .list) R.rk F.plainAttrs_list F.slot_list_append F.type_list_append m_append (q_var 1) (q_cons (q_var 5) (pas_nil)))))))) (pss_onev (psv_ret (q_M (kd := .str) R.rk F.plainAttrs_str F.slot_str_join F.type_str_join m_join (q_str) (q_cons (q_var 1) (pas_nil))))))
    exact h
theorem ok7 (T : Txt K mg a) {k : Nat} (I : AllF P w K mg base a k) : FnG P w K mg base (2 * (k + 1) + 1) a.f7 a.d7 ["text", "nodes"] (spC (cf K w a) (callF fns (k + 1)) 7) :=
  def_ok (C := cf K w a) (f := 7) (fn := ⟨2, 4, true, b7⟩) rfl T.F7 sc7 rfl rfl fun cdv A outer s H E hr hg => by
    have R := Rm.start (P := P) (w := w) (C := cf K w a) (mg := mg) (base := base) (N := ["text", "nodes", "made", "thing"]) (outer := outer) (s := s) (H := H) (E := E) hr hg
    have h : PSs (cxOf (L2.CX P w) P w (cf K w a).K mg base ["text", "nodes", "made", "thing"] "_law_is_right" (defScope (top 21)) a.f7 cdv A outer s H E) (defBody (top 21)) (tst (cf K w a) (callF fns k) (fun cls d _ H => E cls d H) (sSeq (sAsg (tName 2) (xCall 8 (xsCons (xVar 0) (xsNil)))) (sSeq (sIf (xOr (xCmp .ne (xStrO [(2, 14)] (xsCons (xVar 2) (xsNil))) (xVar 0)) (xCmp .ne (xF gRepr (xsCons (xAttr [2] 1 (xVar 2)) (xsNil))) (xF gRepr (xsCons (xVar 1) (xsNil))))) (sRet (xCon (.bl false))) (sPass)) (sSeq (sIf (xOr (xCmp .ne (xAttr [2] 1 (xUs [(2, 8)] 2 (xVar 2) (xsCons (xCon (.str [119, 114, 105, 116, 101, 32, 122, 122])) (xsNil)))) (xTup (xsCons (xTup (xsCons (xCon (.str [119, 114, 105, 116, 101])) (xsCons (xCon (.str [122, 122])) (xsCons (xTup (xsCons (xCon .non) (xsNil))) (xsNil))))) (xsNil)))) (xCmp .ne (xStrO [(2, 14)] (xsCons (xUs [(2, 8)] 2 (xVar 2) (xsCons (xVar 0) (xsNil))) (xsNil))) (xVar 0))) (sRet (xCon (.bl false))) (sPass)) (sSeq (sFor (tName 3) .seq (xsCons (xLst false (xsCons (xVar 0) (xsCons (xCon .non) (xsCons (xCon (.int 0)) (xsCons (xAttr [2] 1 (xVar 2)) (xsCons (xLst false (xsCons (xVar 2) (xsNil))) (xsNil))))))) xsNil) (sIf (xOr (xEqO [(2, 15)] (xVar 2) (xVar 3)) (xNot (xNeO [(2, 15)] (xVar 2) (xVar 3)))) (sRet (xCon (.bl false))) (sPass))) (sRet (xCon (.bl true)))))))) :=
      pss_consv (q_set 2 (sc7).nd (q_static R T.S8 I.h8 T.B8 T.GC_Program (q_cons (q_var 0) (pas_nil)))) (pss_consv (psv_if (q_bool (pw_orv (q_cmpT R.rk (q_strO R (tab_cons (c := 2) (t := 14) ⟨_, _, _, T.M14.at_, T.M14.fn, I.h14, T.B14⟩ (tab_nil)) T.n_str (q_cons (q_var 2) (pas_nil))) (q_var 0)) (pw_onev (q_cmpT R.rk (q_B "repr" (c_repr R.rk.hu R.rk.gd R.rk.K) T.n_repr (q_cons (q_attr R.rk (nm_inj T) (mem_one ⟨T.Cl_Program, T.na_Program_nodes⟩) (q_var 2)) (pas_nil))) (q_B "repr" (c_repr R.rk.hu R.rk.gd R.rk.K) T.n_repr (q_cons (q_var 1) (pas_nil))))))) (pss_onev (psv_ret (q_bl))) (pss_nilv)) (pss_consv (psv_if (q_bool (pw_orv (q_cmpT R.rk (q_attr R.rk (nm_inj T) (mem_one ⟨T.Cl_Program, T.na_Program_nodes⟩) (q_us R (nm_inj T) (stab_one ⟨_, _, _, _, T.Cl_Program, T.SI8, I.h8, T.B8⟩) (q_var 2) (q_cons (q_str) (pas_nil)))) (pv_tup (q_cons (pv_tup (q_cons (q_str) (q_cons (q_str) (q_cons (pv_tup (q_cons (q_non) (pas_nil))) (pas_nil))))) (pas_nil)))) (pw_onev (q_cmpT R.rk (q_strO R (tab_cons (c := 2) (t := 14) ⟨_, _, _, T.M14.at_, T.M14.fn, I.h14, T.B14⟩ (tab_nil)) T.n_str (q_cons (q_us R (nm_inj T) (stab_one ⟨_, _, _, _, T.Cl_Program, T.SI8, I.h8, T.B8⟩) (q_var 2) (q_cons (q_var 0) (pas_nil))) (pas_nil))) (q_var 0))))) (pss_onev (psv_ret (q_bl))) (pss_nilv)) (pss_consv (q_for R [3] (q_seq (pv_lst (q_cons (q_var 0) (q_cons (q_non) (q_cons (q_int) (q_cons (q_attr R.rk (nm_inj T) (mem_one ⟨T.Cl_Program, T.na_Program_nodes⟩) (q_var 2)) (q_cons (pv_lst (q_cons (q_var 2) (pas_nil))) (pas_nil)))))))) (g_name 3 (sc7).nd) (pss_onev (psv_if (q_bool (pw_orv (q_eqOT R (tab_cons ⟨_, _, _, T.M15.at_, T.M15.fn, I.h15, T.B15, (tab_cons T.eqn_Program_Program (tab_nil)), T.eqd_Program⟩ (tab_nil)) (q_var 2) (q_var 3)) (pw_onev (pt_notv (q_neOT R ⟨tab_cons ⟨_, _, _, T.M15.at_, T.M15.fn, I.h15, T.B15, (tab_cons T.eqn_Program_Program (tab_nil)), T.eqd_Program⟩ (tab_nil), tab_cons ⟨T.nn_Program, T.no_Program⟩ (tab_nil)⟩ (q_var 2) (q_var 3)))))) (pss_onev (psv_ret (q_bl))) (pss_nilv)))) (pss_onev (psv_ret (q_bl))))))
    exact h
theorem ok8 (T : Txt K mg a) {k : Nat} (I : AllF P w K mg base a k) : FnG P w K mg base (2 * (k + 1) + 1) a.f8 a.d8 ["text"] (spC (cf K w a) (callF fns (k + 1)) 8) :=
  def_ok (C := cf K w a) (f := 8) (fn := ⟨1, 6, true, b8⟩) rfl T.F8 sc8 rfl rfl fun cdv A outer s H E hr hg => by
    have R := Rm.start (P := P) (w := w) (C := cf K w a) (mg := mg) (base := base) (N := ["text", "rows", "found", "index", "row", "node"]) (outer := outer) (s := s) (H := H) (E := E) hr hg
    have h : PSs (cxOf (L2.CX P w) P w (cf K w a).K mg base ["text", "rows", "found", "index", "row", "node"] "Program.parse" (defScope (L2.inClass (top 13) 3)) a.f8 cdv A outer s H E) (defBody (L2.inClass (top 13) 3)) (tst (cf K w a) (callF fns k) (fun cls d _ H => E cls d H) (sSeq (sIf (xNot (xF (gIsTy .str) (xsCons (xVar 0) xsNil))) (sRai 1 (xCon (.int 0))) (sPass)) (sSeq (sPar 1 2 (xsCons (xM .str (mSplit false) (xVar 0) (xsCons (xCon (.str [10])) (xsNil))) (xsCons (xLst true (xsNil)) (xsNil)))) (sSeq (sFor (tTup 2 (tsCons (tName 3) (tsCons (tName 4) (tsNil)))) .enum (xsCons (xVar 1) (xsNil)) (sSeq (sAsg (tName 5) (xIte (xCmp .lt (xVar 3) (xCon (.int 8))) (xCall 9 (xsCons (xVar 4) (xsCons (xF gLen (xsCons (xVar 1) (xsNil))) (xsNil)))) (xCon .non))) (sSeq (sIf (xIsN true (xVar 5)) (sRai 1 (xVar 3)) (sPass)) (sEx (xM .list mAppend (xVar 2) (xsCons (xVar 5) (xsNil))))))) (sRet (xNew 2 13 true (xsCons (xVar 0) (xsCons (xF gTuple (xsCons (xVar 2) (xsNil))) (xsNil))))))))) :=
      pss_consv (psv_if (pt_notv (q_T (q_isTy R.rk .str T.n_isinstance T.n_str (q_var 0)))) (pss_onev (q_rai R T.Ox_InvalidText T.xi_InvalidText T.xt_InvalidText (T.xF_InvalidText R) T.xn_InvalidText T.xB_InvalidText T.GC_InvalidText (q_int))) (pss_nilv)) (pss_consv (q_par 1 2 (sc8).nd (q_cons (q_M (kd := .str) R.rk F.plainAttrs_str F.slot_str_split F.type_str_split m_split (q_var 0) (q_cons (q_str) (pas_nil))) (q_cons (pv_lst (pas_nil)) (pas_nil)))) (pss_consv (q_for R [3, 4] (q_enum T.n_enumerate (q_var 1)) (g_tup (g_cons (g_name 3 (sc8).nd) (g_cons (g_name 4 (sc8).nd) (pgvs_nil)))) (pss_consv (q_set 5 (sc8).nd (pv_ite (q_cmpT R.rk (q_var 3) (q_gint T.s_MAX_NODES)) (q_call R I.h9 T.B9 T.G9 T.F9.kp (q_cons (q_var 4) (q_cons (q_B "len" (c_len R.rk.K) T.n_len (q_cons (q_var 1) (pas_nil))) (pas_nil)))) (q_non))) (pss_consv (psv_if (ptv_isN (q_var 5)) (pss_onev (q_rai R T.Ox_InvalidText T.xi_InvalidText T.xt_InvalidText (T.xF_InvalidText R) T.xn_InvalidText T.xB_InvalidText T.GC_InvalidText (q_var 3))) (pss_nilv)) (pss_onev (q_ex (q_M (kd := .list) R.rk F.plainAttrs_list F.slot_list_append F.type_list_append m_append (q_var 2) (q_cons (q_var 5) (pas_nil)))))))) (pss_onev (psv_ret (q_new R T.Mk_Program I.h13 T.B13 T.GC_Program (q_cons (q_var 0) (q_cons (q_Ty "tuple" (c_tuple R.rk.K) T.n_tuple (q_cons (q_var 2) (pas_nil))) (pas_nil))))))))
    exact h
theorem ok9 (T : Txt K mg a) {k : Nat} (I : AllF P w K mg base a k) : FnG P w K mg base (2 * (k + 1) + 1) a.f9 a.d9 ["row", "many"] (spC (cf K w a) (callF fns (k + 1)) 9) :=
  def_ok (C := cf K w a) (f := 9) (fn := ⟨2, 4, true, b9⟩) rfl T.F9 sc9 rfl rfl fun cdv A outer s H E hr hg => by
    have R := Rm.start (P := P) (w := w) (C := cf K w a) (mg := mg) (base := base) (N := ["row", "many", "words", "targets"]) (outer := outer) (s := s) (H := H) (E := E) hr hg
    have h : PSs (cxOf (L2.CX P w) P w (cf K w a).K mg base ["row", "many", "words", "targets"] "read_row" (defScope (top 12)) a.f9 cdv A outer s H E) (defBody (top 12)) (tst (cf K w a) (callF fns k) (fun cls d _ H => E cls d H) (sSeq (sAsg (tName 2) (xM .str (mSplit false) (xVar 0) (xsCons (xCon (.str [32])) (xsNil)))) (sSeq (sIf (xOr (xCmp .lt (xF gLen (xsCons (xVar 2) (xsNil))) (xCon (.int 2))) (xOr (xCmp .notin (xIdx (xVar 2) (xCon (.int 0))) (xLst false (xsCons (xCon (.str [114, 101, 97, 100])) (xsCons (xCon (.str [119, 114, 105, 116, 101])) (xsNil))))) (xNot (xCall 10 (xsCons (xIdx (xVar 2) (xCon (.int 1))) (xsNil)))))) (sRet (xCon .non)) (sPass)) (sSeq (sAsg (tName 3) (xLst false (xsCons (xCon .non) (xsNil)))) (sSeq (sIf (xCmp .gt (xF gLen (xsCons (xVar 2) (xsNil))) (xCon (.int 2))) (sSeq (sIf (xOr (xCmp .ne (xIdx (xVar 2) (xCon (.int 2))) (xCon (.str [45, 62]))) (xCmp .eq (xF gLen (xsCons (xVar 2) (xsNil))) (xCon (.int 3)))) (sRet (xCon .non)) (sPass)) (sAsg (tName 3) (xCall 11 (xsCons (xSlc false (xVar 2) (oSome (xCon (.int 3))) oNone) (xsCons (xVar 1) (xsNil)))))) (sPass)) (sRet (xIte (xIsN true (xVar 3)) (xCon .non) (xTup (xsCons (xIdx (xVar 2) (xCon (.int 0))) (xsCons (xIdx (xVar 2) (xCon (.int 1))) (xsCons (xF gTuple (xsCons (xVar 3) (xsNil))) (xsNil)))))))))))) :=
      pss_consv (q_set 2 (sc9).nd (q_M (kd := .str) R.rk F.plainAttrs_str F.slot_str_split F.type_str_split m_split (q_var 0) (q_cons (q_str) (pas_nil)))) (pss_consv (psv_if (q_bool (pw_orv (q_cmpT R.rk (q_B "len" (c_len R.rk.K) T.n_len (q_cons (q_var 2) (pas_nil))) (q_int)) (pw_orv (q_cmpT R.rk (q_idx R.rk (q_var 2) (q_int)) (pv_lst (q_cons (q_str) (q_cons (q_str) (pas_nil))))) (pw_onev (pt_notv (q_T (q_call R I.h10 T.B10 T.G10 T.F10.kp (q_cons (q_idx R.rk (q_var 2) (q_int)) (pas_nil))))))))) (pss_onev (psv_ret (q_non))) (pss_nilv)) (pss_consv (q_set 3 (sc9).nd (pv_lst (q_cons (q_non) (pas_nil)))) (pss_consv (psv_if (q_cmpT R.rk (q_B "len" (c_len R.rk.K) T.n_len (q_cons (q_var 2) (pas_nil))) (q_int)) (pss_consv (psv_if (q_bool (pw_orv (q_cmpT R.rk (q_idx R.rk (q_var 2) (q_int)) (q_str)) (pw_onev (q_cmpT R.rk (q_B "len" (c_len R.rk.K) T.n_len (q_cons (q_var 2) (pas_nil))) (q_int))))) (pss_onev (psv_ret (q_non))) (pss_nilv)) (pss_onev (q_set 3 (sc9).nd (q_call R I.h11 T.B11 T.G11 T.F11.kp (q_cons (q_slc R.rk (q_var 2) (pov_some (q_int)) pov_none) (q_cons (q_var 1) (pas_nil))))))) (pss_nilv)) (pss_onev (psv_ret (pv_ite (ptv_isN (q_var 3)) (q_non) (pv_tup (q_cons (q_idx R.rk (q_var 2) (q_int)) (q_cons (q_idx R.rk (q_var 2) (q_int)) (q_cons (q_Ty "tuple" (c_tuple R.rk.K) T.n_tuple (q_cons (q_var 3) (pas_nil))) (pas_nil)))))))))))
    exact h
theorem ok10 (T : Txt K mg a) {k : Nat} (I : AllF P w K mg base a k) : FnG P w K mg base (2 * (k + 1) + 1) a.f10 a.d10 ["value"] (spC (cf K w a) (callF fns (k + 1)) 10) :=
  def_ok (C := cf K w a) (f := 10) (fn := ⟨1, 2, true, b10⟩) rfl T.F10 sc10 rfl rfl fun cdv A outer s H E hr hg => by
    have R := Rm.start (P := P) (w := w) (C := cf K w a) (mg := mg) (base := base) (N := ["value", "letter"]) (outer := outer) (s := s) (H := H) (E := E) hr hg
    have h : PSs (cxOf (L2.CX P w) P w (cf K w a).K mg base ["value", "letter"] "is_name" (defScope (top 6)) a.f10 cdv A outer s H E) (defBody (top 6)) (tst (cf K w a) (callF fns k) (fun cls d _ H => E cls d H) (sSeq (sIf (xOr (xNot (xF (gIsTy .str) (xsCons (xVar 0) xsNil))) (xNot (xChain .le .le (xCon (.int 1)) (xF gLen (xsCons (xVar 0) (xsNil))) (xCon (.int 8))))) (sRet (xCon (.bl false))) (sPass)) (sRet (xF gAll (xsCons (xComp false [1] (tName 1) .seq (xsCons (xVar 0) xsNil) ifNil (xCmp .isin (xVar 1) (xCon (.str [97, 98, 99, 100, 101, 102, 103, 104, 105, 106, 107, 108, 109, 110, 111, 112, 113, 114, 115, 116, 117, 118, 119, 120, 121, 122])))) (xsNil)))))) :=
      pss_consv (psv_if (q_bool (pw_orv (pt_notv (q_T (q_isTy R.rk .str T.n_isinstance T.n_str (q_var 0)))) (pw_onev (pt_notv (q_chainT R.rk (q_int) (q_B "len" (c_len R.rk.K) T.n_len (q_cons (q_var 0) (pas_nil))) (q_gint T.s_MAX_NAME)))))) (pss_onev (psv_ret (q_bl))) (pss_nilv)) (pss_onev (psv_ret (q_B "all" (c_all rfl R.rk.K) T.n_all (q_cons (q_lc R [("letter", 1)] (sc10).nd (q_seq (q_var 0)) (fun _ _ _ _ _ R => g_name 1 (sc10).nd) (fun _ _ _ _ _ R => pfs_nil) (fun _ _ _ _ _ R => q_cmp R.rk (q_var 1) (q_gstr T.s_LETTERS))) (pas_nil)))))
    exact h
theorem ok11 (T : Txt K mg a) {k : Nat} (I : AllF P w K mg base a k) : FnG P w K mg base (2 * (k + 1) + 1) a.f11 a.d11 ["words", "many"] (spC (cf K w a) (callF fns (k + 1)) 11) :=
  def_ok (C := cf K w a) (f := 11) (fn := ⟨2, 8, true, b11⟩) rfl T.F11 sc11 rfl rfl fun cdv A outer s H E hr hg => by
    have R := Rm.start (P := P) (w := w) (C := cf K w a) (mg := mg) (base := base) (N := ["words", "many", "numbers", "found", "word", "number", "one", "other"]) (outer := outer) (s := s) (H := H) (E := E) hr hg
    have h : PSs (cxOf (L2.CX P w) P w (cf K w a).K mg base ["words", "many", "numbers", "found", "word", "number", "one", "other"] "read_targets" (defScope (top 11)) a.f11 cdv A outer s H E) (defBody (top 11)) (tst (cf K w a) (callF fns k) (fun cls d _ H => E cls d H) (sSeq (sAsg (tName 2) (xIte (xCmp .eq (xIdx (xVar 0) (xNeg (xCon (.int 1)))) (xCon (.str [101, 110, 100]))) (xSlc false (xVar 0) oNone (oSome (xNeg (xCon (.int 1))))) (xVar 0))) (sSeq (sAsg (tName 3) (xComp false [4] (tName 4) .seq (xsCons (xVar 2) xsNil) ifNil (xCall 12 (xsCons (xVar 4) (xsNil))))) (sSeq (sIf (xOr (xCmp .isin (xCon .non) (xVar 3)) (xIsE true (xComp false [5] (tName 5) .seq (xsCons (xVar 3) xsNil) (ifCons (xCmp .ge (xVar 5) (xVar 1)) ifNil) (xVar 5)))) (sRet (xCon .non)) (sPass)) (sSeq (sIf (xIsE true (xComp false [6, 7] (tTup 2 (tsCons (tName 6) (tsCons (tName 7) (tsNil)))) .zip (xsCons (xSlc false (xVar 3) oNone (oSome (xNeg (xCon (.int 1))))) (xsCons (xSlc false (xVar 3) (oSome (xCon (.int 1))) oNone) (xsNil))) (ifCons (xCmp .ge (xVar 6) (xVar 7)) ifNil) (xVar 6))) (sRet (xCon .non)) (sPass)) (sRet (xIte (xCmp .eq (xIdx (xVar 0) (xNeg (xCon (.int 1)))) (xCon (.str [101, 110, 100]))) (xBin .add (xVar 3) (xLst false (xsCons (xCon .non) (xsNil)))) (xVar 3)))))))) :=
      pss_consv (q_set 2 (sc11).nd (pv_ite (q_cmpT R.rk (q_idx R.rk (q_var 0) (pv_neg (q_int))) (q_str)) (q_slc R.rk (q_var 0) pov_none (pov_some (pv_neg (q_int)))) (q_var 0))) (pss_consv (q_setLc R 3 [("word", 4)] (sc11).nd (q_seq (q_var 2)) (fun _ _ _ _ _ R => g_name 4 (sc11).nd) (fun _ _ _ _ _ R => pfs_nil) (fun _ _ _ _ _ R => q_call R I.h12 T.B12 T.G12 T.F12.kp (q_cons (q_var 4) (pas_nil)))) (pss_consv (psv_if (q_bool (pw_orv (q_cmpT R.rk (q_non) (q_var 3)) (pw_onev (q_isET R.rk true (q_lc R [("number", 5)] (sc11).nd (q_seq (q_var 3)) (fun _ _ _ _ _ R => g_name 5 (sc11).nd) (fun _ _ _ _ _ R => pfs_one (q_cmpT R.rk (q_var 5) (q_var 1))) (fun _ _ _ _ _ R => q_var 5)))))) (pss_onev (psv_ret (q_non))) (pss_nilv)) (pss_consv (psv_if (q_isET R.rk true (q_lc R [("one", 6), ("other", 7)] (sc11).nd (q_zip T.n_zip (q_slc R.rk (q_var 3) pov_none (pov_some (pv_neg (q_int)))) (q_slc R.rk (q_var 3) (pov_some (q_int)) pov_none)) (fun _ _ _ _ _ R => g_tup (g_cons (g_name 6 (sc11).nd) (g_cons (g_name 7 (sc11).nd) (pgvs_nil)))) (fun _ _ _ _ _ R => pfs_one (q_cmpT R.rk (q_var 6) (q_var 7))) (fun _ _ _ _ _ R => q_var 6))) (pss_onev (psv_ret (q_non))) (pss_nilv)) (pss_onev (psv_ret (pv_ite (q_cmpT R.rk (q_idx R.rk (q_var 0) (pv_neg (q_int))) (q_str)) (q_bin R.rk (q_var 3) (pv_lst (q_cons (q_non) (pas_nil)))) (q_var 3)))))))
    exact h
theorem ok12 (T : Txt K mg a) {k : Nat} (I : AllF P w K mg base a k) : FnG P w K mg base (2 * (k + 1) + 1) a.f12 a.d12 ["word"] (spC (cf K w a) (callF fns (k + 1)) 12) :=
  def_ok (C := cf K w a) (f := 12) (fn := ⟨1, 2, true, b12⟩) rfl T.F12 sc12 rfl rfl fun cdv A outer s H E hr hg => by
    have R := Rm.start (P := P) (w := w) (C := cf K w a) (mg := mg) (base := base) (N := ["word", "digit"]) (outer := outer) (s := s) (H := H) (E := E) hr hg
    have h : PSs (cxOf (L2.CX P w) P w (cf K w a).K mg base ["word", "digit"] "read_number" (defScope (top 10)) a.f12 cdv A outer s H E) (defBody (top 10)) (tst (cf K w a) (callF fns k) (fun cls d _ H => E cls d H) (sSeq (sIf (xOr (xNot (xChain .le .le (xCon (.int 1)) (xF gLen (xsCons (xVar 0) (xsNil))) (xCon (.int 9)))) (xNot (xF gAll (xsCons (xComp false [1] (tName 1) .seq (xsCons (xVar 0) xsNil) ifNil (xCmp .isin (xVar 1) (xCon (.str [48, 49, 50, 51, 52, 53, 54, 55, 56, 57])))) (xsNil))))) (sRet (xCon .non)) (sPass)) (sRet (xIte (xAnd (xCmp .eq (xIdx (xVar 0) (xCon (.int 0))) (xCon (.str [48]))) (xCmp .ne (xVar 0) (xCon (.str [48])))) (xCon .non) (xF gInt (xsCons (xVar 0) (xsNil))))))) :=
      pss_consv (psv_if (q_bool (pw_orv (pt_notv (q_chainT R.rk (q_int) (q_B "len" (c_len R.rk.K) T.n_len (q_cons (q_var 0) (pas_nil))) (q_int))) (pw_onev (pt_notv (q_T (q_B "all" (c_all rfl R.rk.K) T.n_all (q_cons (q_lc R [("digit", 1)] (sc12).nd (q_seq (q_var 0)) (fun _ _ _ _ _ R => g_name 1 (sc12).nd) (fun _ _ _ _ _ R => pfs_nil) (fun _ _ _ _ _ R => q_cmp R.rk (q_var 1) (q_gstr T.s_DIGITS))) (pas_nil)))))))) (pss_onev (psv_ret (q_non))) (pss_nilv)) (pss_onev (psv_ret (pv_ite (q_bool (pw_andv (q_cmpT R.rk (q_idx R.rk (q_var 0) (q_int)) (q_str)) (pw_onev (q_cmpT R.rk (q_var 0) (q_str))))) (q_non) (q_Ty "int" (c_int) T.n_int (q_cons (q_var 0) (pas_nil))))))
    exact h
theorem ok13 (T : Txt K mg a) {k : Nat} (I : AllF P w K mg base a k) : FnG P w K mg base (2 * (k + 1) + 1) a.f13 a.d13 ["self", "text", "nodes"] (spC (cf K w a) (callF fns (k + 1)) 13) :=
  def_ok (C := cf K w a) (f := 13) (fn := ⟨3, 3, false, b13⟩) rfl T.F13 sc13 rfl rfl fun cdv A outer s H E hr hg => by
    have R := Rm.start (P := P) (w := w) (C := cf K w a) (mg := mg) (base := base) (N := ["self", "text", "nodes"]) (outer := outer) (s := s) (H := H) (E := E) hr hg
    have h : PSs (cxOf (L2.CX P w) P w (cf K w a).K mg base ["self", "text", "nodes"] "Program.__init__" (defScope (L2.inClass (top 13) 0)) a.f13 cdv A outer s H E) (defBody (L2.inClass (top 13) 0)) (tst (cf K w a) (callF fns k) (fun cls d _ H => E cls d H) (sSeq (sAsg (tAttr [2] 0 (xVar 0)) (xVar 1)) (sAsg (tAttr [2] 1 (xVar 0)) (xVar 2)))) :=
      pss_consv (q_fld R (nm_inj T) (mem_one ⟨T.Cl_Program, T.na_Program_text⟩) (q_var 0) (q_var 1)) (pss_onev (q_fld R (nm_inj T) (mem_one ⟨T.Cl_Program, T.na_Program_nodes⟩) (q_var 0) (q_var 2)))
    exact h
theorem ok14 (T : Txt K mg a) {k : Nat} (I : AllF P w K mg base a k) : FnG P w K mg base (2 * (k + 1) + 1) a.f14 a.d14 ["self"] (spC (cf K w a) (callF fns (k + 1)) 14) :=
  def_ok (C := cf K w a) (f := 14) (fn := ⟨1, 1, true, b14⟩) rfl T.F14 sc14 rfl rfl fun cdv A outer s H E hr hg => by
    have R := Rm.start (P := P) (w := w) (C := cf K w a) (mg := mg) (base := base) (N := ["self"]) (outer := outer) (s := s) (H := H) (E := E) hr hg
    have h : PSs (cxOf (L2.CX P w) P w (cf K w a).K mg base ["self"] "Program.__str__" (defScope (L2.inClass (top 13) 1)) a.f14 cdv A outer s H E) (defBody (L2.inClass (top 13) 1)) (tst (cf K w a) (callF fns k) (fun cls d _ H => E cls d H) (sRet (xFmt (xAttr [2] 0 (xVar 0))))) :=
      pss_onev (psv_ret (q_fmt (q_attr R.rk (nm_inj T) (mem_one ⟨T.Cl_Program, T.na_Program_text⟩) (q_var 0))))
    exact h
theorem ok15 (T : Txt K mg a) {k : Nat} (I : AllF P w K mg base a k) : FnG P w K mg base (2 * (k + 1) + 1) a.f15 a.d15 ["self", "other"] (spC (cf K w a) (callF fns (k + 1)) 15) :=
  def_ok (C := cf K w a) (f := 15) (fn := ⟨2, 2, true, b15⟩) rfl T.F15 sc15 rfl rfl fun cdv A outer s H E hr hg => by
    have R := Rm.start (P := P) (w := w) (C := cf K w a) (mg := mg) (base := base) (N := ["self", "other"]) (outer := outer) (s := s) (H := H) (E := E) hr hg
    have h : PSs (cxOf (L2.CX P w) P w (cf K w a).K mg base ["self", "other"] "Program.__eq__" (defScope (L2.inClass (top 13) 2)) a.f15 cdv A outer s H E) (defBody (L2.inClass (top 13) 2)) (tst (cf K w a) (callF fns k) (fun cls d _ H => E cls d H) (sRet (xAnd (xF (gIsC [(2, true)]) (xsCons (xVar 1) xsNil)) (xCmp .eq (xAttr [2] 0 (xVar 0)) (xAttr [2] 0 (xVar 1)))))) :=
      pss_onev (psv_ret (pv_and (q_isC R.rk T.isb_Program (tab_cons T.isc_Program_Program (tab_nil)) T.n_isinstance T.GC_Program (q_var 1)) (pv_one (q_cmp R.rk (q_attr R.rk (nm_inj T) (mem_one ⟨T.Cl_Program, T.na_Program_text⟩) (q_var 0)) (q_attr R.rk (nm_inj T) (mem_one ⟨T.Cl_Program, T.na_Program_text⟩) (q_var 1))))))
    exact h
theorem all (T : Txt K mg a) : ∀ k, AllF P w K mg base a k
  | 0 => ⟨def_zero (C := cf K w a), def_zero (C := cf K w a), def_zero (C := cf K w a), def_zero (C := cf K w a), def_zero (C := cf K w a), def_zero (C := cf K w a), def_zero (C := cf K w a), def_zero (C := cf K w a), def_zero (C := cf K w a), def_zero (C := cf K w a), def_zero (C := cf K w a), def_zero (C := cf K w a), def_zero (C := cf K w a), def_zero (C := cf K w a), def_zero (C := cf K w a), def_zero (C := cf K w a)⟩
  | k + 1 => ⟨ok0 T (all T k), ok1 T (all T k), ok2 T (all T k), ok3 T (all T k), ok4 T (all T k), ok5 T (all T k), ok6 T (all T k), ok7 T (all T k), ok8 T (all T k), ok9 T (all T k), ok10 T (all T k), ok11 T (all T k), ok12 T (all T k), ok13 T (all T k), ok14 T (all T k), ok15 T (all T k)⟩
end
end K10
set_option maxRecDepth 100000
set_option maxHeartbeats 4000000
namespace K10
open Ov
section
variable {cl : CL} {σ : Sw} {h h1 : Hw}
theorem s_seq_nx {a b : Sx} {σ1 : Sw} (e : a cl σ h = .ok (.nx σ1) h1) : sSeq a b cl σ h = b cl σ1 h1 := by unfold sSeq; rw [e]; rfl
theorem s_if_f {c : Ex} {a b : Sx} (e : c cl σ h = .ok (.bl false) h1) : sIf c a b cl σ h = b cl σ h1 := by unfold sIf; rw [e]; rfl
theorem b_add (i j : Int) : binop .add (.int i) (.int j) = some (.int (i + j)) := rfl
theorem b_sub (i j : Int) : binop .sub (.int i) (.int j) = some (.int (i - j)) := rfl
theorem b_mod {i j : Int} (e : 0 < j) : binop .mod (.int i) (.int j) = some (.int (i % j)) := by simp [binop, e]
end
theorem bits_small {s : Int} (h0 : 0 ≤ s) (hb : s < 1000000) : Nat.blt (bits s) 9000 = true := by
  have : s.natAbs.log2 < 9000 := by
    have h1 : s.natAbs < 2 ^ 20 := by omega
    rcases Nat.eq_zero_or_pos s.natAbs with z | z
    · rw [z]; decide
    · have := (Nat.log2_lt (by omega)).mpr h1; omega
  exact Nat.ble_eq_true_of_le this
theorem take_ok {cl : CL} {h : Hw} {n : Nat} {d e s : Int} (hn : h[n]? = some (.lst [.int d, .int e])) (hd : 0 ≤ d) (he : 0 ≤ e) (hs : 0 < s) (hb : s < 1000000) :
    ∃ r d' e', b3 cl [some (.ref n), some (.int s), none] h = .ok (.ret (.int r)) (h.set n (.lst [.int d', .int e'])) ∧ 0 ≤ r ∧ r < s ∧ 0 ≤ d' ∧ 0 ≤ e' := by
  have hl : n < h.length := (List.getElem?_eq_some_iff.mp hn).1
  have bs := bits_small (Int.le_of_lt hs) hb
  by_cases h0 : 0 < d
  · refine ⟨d % s, d / s, e, ?_, Int.emod_nonneg _ (by omega), Int.emod_lt_of_pos _ hs, Int.ediv_nonneg hd (by omega), he⟩
    simp [b3, sSeq, sIf, xCmp, xIdx, xVar, xCon, R.bind, R.st, look, hn, itemW, place, cmpW, cmpop, whole, W.under, R.of, h0, sAsg, xBin, binop, xF, gInt, xsCons, xsNil, tName, R.calm, RS.bind, tSub, setItem, sRet, hs, bs]
  · refine ⟨((e * 69069 + 12345) % 4294967311 / 65536) % s, d, (e * 69069 + 12345) % 4294967311, ?_, Int.emod_nonneg _ (by omega), Int.emod_lt_of_pos _ hs, hd, Int.emod_nonneg _ (by omega)⟩
    have c1 : ∀ x : Int, binop .mul (.int x) (.int 69069) = some (.int (x * 69069)) := fun x => by
      have : Nat.blt (bits 69069) 63 = true := by decide +kernel
      simp [binop, this]
    have c2 : ∀ x : Int, binop .fdiv (.int x) (.int 65536) = some (.int (x / 65536)) := fun x => by
      have : Nat.blt (bits 65536) 9000 = true := by decide +kernel
      simp [binop, this]
    have hn2 : (h.set n (.lst [.int d, .int ((e * 69069 + 12345) % 4294967311)]))[n]? = some (.lst [.int d, .int ((e * 69069 + 12345) % 4294967311)]) := by simp [hl]
    have t1 : sIf (xCmp .gt (xIdx (xVar 0) (xCon (.int 0))) (xCon (.int 0))) (sSeq (sAsg (tName 2) (xBin .mod (xF gInt (xsCons (xIdx (xVar 0) (xCon (.int 0))) (xsNil))) (xVar 1))) (sSeq (sAsg (tSub (xVar 0) (xCon (.int 0))) (xBin .fdiv (xIdx (xVar 0) (xCon (.int 0))) (xVar 1))) (sRet (xVar 2)))) (sPass) cl [some (.ref n), some (.int s), none] h = .ok (.nx [some (.ref n), some (.int s), none]) h := by
      refine s_if_f (h1 := h) ?_
      simp [xCmp, xIdx, xVar, xCon, R.bind, look, hn, itemW, place, cmpW, cmpop, whole, W.under, R.of, h0]
    unfold b3
    rw [s_seq_nx t1]
    refine (s_seq_nx (σ1 := [some (.ref n), some (.int s), none]) (h1 := h.set n (.lst [.int d, .int ((e * 69069 + 12345) % 4294967311)])) ?_).trans ?_
    · simp [sAsg, xBin, xF, xsCons, xsNil, xIdx, xVar, xCon, R.bind, R.st, look, hn, itemW, place, R.of, c1, b_add, b_mod, gInt, tSub, setItem, R.calm]
    · simp [sRet, xBin, xF, xsCons, xsNil, xIdx, xVar, xCon, R.bind, R.st, look, hn2, itemW, place, R.of, c2, b_mod hs, gInt]
theorem trim_same {n : Nat} {w : W} {h : Hw} (l : h.length ≤ n) : trim n w h = h := by
  unfold trim
  split
  · exact List.take_of_length_le l
  · rfl
theorem call_take {k : Nat} {h : Hw} {n : Nat} {d e s : Int} (hn : h[n]? = some (.lst [.int d, .int e])) (hd : 0 ≤ d) (he : 0 ≤ e) (hs : 0 < s) (hb : s < 1000000) :
    ∃ r d' e', callF fns (k + 1) 3 [.ref n, .int s] h = .ok (.int r) (h.set n (.lst [.int d', .int e'])) ∧ 0 ≤ r ∧ r < s ∧ 0 ≤ d' ∧ 0 ≤ e' := by
  obtain ⟨r, d', e', q, p⟩ := take_ok (cl := callF fns k) hn hd he hs hb
  refine ⟨r, d', e', ?_, p⟩
  show trimR h.length (b3 (callF fns k) [some (.ref n), some (.int s), none] h).back = _
  rw [q]
  show (R.ok (W.int r) (trim h.length (W.int r) _) : R W) = _
  rw [trim_same (by simp)]
theorem call_pick {k : Nat} {h : Hw} {n : Nat} {d e : Int} {cs : List W} (hn : h[n]? = some (.lst [.int d, .int e])) (hd : 0 ≤ d) (he : 0 ≤ e) (hc : cs ≠ []) (hl : cs.length < 1000000) :
    ∃ (i : Nat) (w : W) (d' e' : Int), cs[i]? = some w ∧ callF fns (k + 2) 4 [.ref n, .lst cs] h = .ok w (h.set n (.lst [.int d', .int e'])) ∧ 0 ≤ d' ∧ 0 ≤ e' := by
  have pos : 0 < cs.length := List.length_pos_iff.mpr hc
  obtain ⟨r, d', e', q, r0, r1, d0, e0⟩ := call_take (k := k) (s := cs.length) hn hd he (by omega) (by omega)
  have hr : r.toNat < cs.length := by omega
  have pl : place r cs.length = some r.toNat := by unfold place; rw [if_pos r0, if_pos hr]
  refine ⟨r.toNat, cs[r.toNat], d', e', by simp [hr], ?_, d0, e0⟩
  have q2 : b4 (callF fns (k + 1)) [some (.ref n), some (.lst cs)] h = .ok (.ret cs[r.toNat]) (h.set n (.lst [.int d', .int e'])) := by
    simp [b4, sRet, xIdx, xVar, xCall, xsCons, xsNil, xF, gLen, look, R.bind, R.st, q, itemW, pl, R.of, hr]
  show trimR h.length (b4 (callF fns (k + 1)) [some (.ref n), some (.lst cs)] h).back = _
  rw [q2]
  show (R.ok cs[r.toNat] (trim h.length cs[r.toNat] _) : R W) = _
  rw [trim_same (by simp)]
end K10
namespace Ov
theorem splitBy_join {c : Nat} {xs : List (List Nat)} (hne : xs ≠ []) (h : ∀ p ∈ xs, c ∉ p) : splitBy c (joinBy [c] xs) = xs := by
  cases xs with
  | nil => exact absurd rfl hne
  | cons x r =>
    unfold splitBy
    rw [splitBy_uniq c r x h]
theorem comp_map {α : Type} {chk : Hw → Bool} {f : W → Hw → R (Option W)} {a b : α → W} {h : Hw} (hc : chk h = true) : ∀ {l : List α}, (∀ x ∈ l, f (a x) h = .ok (some (b x)) h) → compGo chk f (l.map a) h = .ok (l.map b) h := by
  intro l
  induction l with
  | nil => intro _; rw [List.map_nil]; unfold compGo; rw [hc]; rfl
  | cons x r ih =>
    intro hf
    rw [List.map_cons]
    unfold compGo
    simp only [hc, hf x (List.mem_cons_self ..), r_bind, ih fun y hy => hf y (List.mem_cons_of_mem _ hy)]
    rfl
theorem comp_none {α : Type} {chk : Hw → Bool} {f : W → Hw → R (Option W)} {a : α → W} {h : Hw} (hc : chk h = true) : ∀ {l : List α}, (∀ x ∈ l, f (a x) h = .ok none h) → compGo chk f (l.map a) h = .ok [] h := by
  intro l
  induction l with
  | nil => intro _; rw [List.map_nil]; unfold compGo; rw [hc]
  | cons x r ih =>
    intro hf
    rw [List.map_cons]
    unfold compGo
    simp only [hc, hf x (List.mem_cons_self ..), r_bind, ih fun y hy => hf y (List.mem_cons_of_mem _ hy)]
section
variable {cl : CL} {σ σ1 : Sw} {own : List Nat} {t : Tx} {ifs : Exb} {e : Ex} {x y : W} {h h1 h2 h3 : Hw} {b : Bool}
theorem turn_yes (ht : t cl x (wipeW σ own) h = .ok σ1 h1) (hi : ifs cl σ1 h1 = .ok true h2) (he : e cl σ1 h2 = .ok y h3) : turn own t ifs e cl σ x h = .ok (some y) h3 := by
  unfold turn
  rw [ht, r_calm, r_bind, hi, r_calm, r_bind, if_pos rfl, he, r_calm, r_bind]
theorem turn_no (ht : t cl x (wipeW σ own) h = .ok σ1 h1) (hi : ifs cl σ1 h1 = .ok false h2) : turn own t ifs e cl σ x h = .ok none h2 := by
  unfold turn
  rw [ht, r_calm, r_bind, hi, r_calm, r_bind, if_neg (by decide)]
theorem ifs_no {a : Ex} {r : Exb} (ha : a cl σ h = .ok (.bl false) h1) : ifCons a r cl σ h = .ok false h1 := by
  unfold ifCons
  rw [ha, r_bind]
theorem ifs_yes {a : Ex} {r : Exb} (ha : a cl σ h = .ok (.bl true) h1) (hr : r cl σ h1 = .ok b h2) : ifCons a r cl σ h = .ok b h2 := by
  unfold ifCons
  rw [ha, r_bind, ← hr]
end
theorem joinBy_cons {sep x : List Nat} {r : List (List Nat)} (h : r ≠ []) : joinBy sep (x :: r) = x ++ sep ++ joinBy sep r := by
  cases r with
  | nil => exact absurd rfl h
  | cons y r => rfl
theorem strsOf_map : ∀ xs : List (List Nat), strsOf (xs.map .str) = some xs
  | [] => rfl
  | x :: r => by
    show (strsOf (r.map .str)).map (x :: ·) = _
    rw [strsOf_map r]; rfl
theorem joinBy_len (sep : List Nat) : ∀ xs : List (List Nat), (joinBy sep xs).length ≤ (xs.map (·.length)).sum + xs.length * sep.length
  | [] => Nat.zero_le _
  | [x] => by simp [joinBy]
  | x :: y :: r => by
    have := joinBy_len sep (y :: r)
    rw [joinBy_cons (by simp)]
    simp only [List.length_append, List.map_cons, List.sum_cons, List.length_cons] at this ⊢
    have e : (r.length + 1 + 1) * sep.length = (r.length + 1) * sep.length + sep.length := by rw [Nat.add_mul, Nat.one_mul]
    omega
theorem blsOf_map {α : Type} (l : List α) : blsOf (l.map fun _ => W.bl true) = some (l.map fun _ => true) := by
  induction l with
  | nil => rfl
  | cons x r ih =>
    show (blsOf (r.map fun _ => W.bl true)).map (true :: ·) = _
    rw [ih]; rfl
end Ov
namespace K10
open Ov
def lets : List Nat := [97, 98, 99, 100, 101, 102, 103, 104, 105, 106, 107, 108, 109, 110, 111, 112, 113, 114, 115, 116, 117, 118, 119, 120, 121, 122]
structure Nm (c : List Nat) : Prop where
  p : 1 ≤ c.length
  m : c.length ≤ 8
  l : ∀ x ∈ c, x ∈ lets
theorem Nm.no {c : List Nat} (h : Nm c) {x : Nat} (hx : x < 97) : x ∉ c := fun m => by
  have : ∀ y ∈ lets, 97 ≤ y := by decide
  have := this x (h.l x m)
  omega
theorem src_free {cl : CL} {σ : Sw} {h : Hw} {k : IK} {its : Exs} {ws xs : List W} (e : its cl σ h = .ok ws h) (w : walked k (ws.map (lookS h)) = some xs) (l : xs.length < 16000000) : src k its cl σ h = .ok (ws, xs) h := src_of e w (Nat.ble_eq_true_of_le (by unfold most; omega))
theorem v_comp {cl : CL} {σ : Sw} {h : Hw} {own : List Nat} {t : Tx} {k : IK} {its : Exs} {ifs : Exb} {e : Ex} {ws xs ys : List W} (s : src k its cl σ h = .ok (ws, xs) h) (c : compGo (fun h' => stands h h' ws) (turn own t ifs e cl σ) xs h = .ok ys h) : xComp false own t k its ifs e cl σ h = .ok (.lst ys) h := by
  unfold xComp
  rw [s, r_bind, c]; rfl
theorem call_number {k t : Nat} {H : Hw} (h : t < 10) : callF fns (k + 1) 12 [.str [48 + t]] H = .ok (.int t) H := by
  rcases (show t = 0 ∨ t = 1 ∨ t = 2 ∨ t = 3 ∨ t = 4 ∨ t = 5 ∨ t = 6 ∨ t = 7 ∨ t = 8 ∨ t = 9 by omega) with rfl | rfl | rfl | rfl | rfl | rfl | rfl | rfl | rfl | rfl <;> exact run_pure (fn := ⟨1, 2, true, b12⟩) (h' := []) rfl rfl rfl rfl rfl rfl
theorem any_mem {x : Nat} {l : List Nat} (h : x ∈ l) : l.any (Nat.beq x) = true := List.any_eq_true.mpr ⟨x, h, Nat.beq_refl x⟩
theorem call_name {k : Nat} {c : List Nat} {H : Hw} (h : Nm c) : callF fns (k + 1) 10 [.str c] H = .ok (.bl true) H := by
  refine run_pure (fn := ⟨1, 2, true, b10⟩) (h' := []) rfl rfl rfl rfl ?_ rfl
  show (b10 (callF fns k) [some (.str c), none] []).back = _
  have h1 := h.p
  have h2 := h.m
  have s1 : sIf (xOr (xNot (xF (gIsTy .str) (xsCons (xVar 0) xsNil))) (xNot (xChain .le .le (xCon (.int 1)) (xF gLen (xsCons (xVar 0) (xsNil))) (xCon (.int 8))))) (sRet (xCon (.bl false))) (sPass) (callF fns k) [some (.str c), none] [] = .ok (.nx [some (.str c), none]) [] := by
    have g : gLen [.str c] [] = .ok (.int c.length) [] := by
      show (if Nat.blt c.length most then Ov.R.ok (W.int c.length) [] else .no) = _
      rw [show Nat.blt c.length most = true from Nat.ble_eq_true_of_le (by unfold most; omega)]; rfl
    have l1 : cmpW .le (.int 1) (.int (c.length : Nat)) [] = .ok (.bl true) [] := by
      show Ov.R.ok (W.bl (decide ((1 : Int) ≤ c.length))) [] = _
      rw [decide_eq_true (by omega)]
    have l2 : cmpW .le (.int (c.length : Nat)) (.int 8) [] = .ok (.bl true) [] := by
      show Ov.R.ok (W.bl (decide ((c.length : Int) ≤ 8))) [] = _
      rw [decide_eq_true (by omega)]
    have ch : xChain .le .le (xCon (.int 1)) (xF gLen (xsCons (xVar 0) (xsNil))) (xCon (.int 8)) (callF fns k) [some (.str c), none] [] = .ok (.bl true) [] := by
      unfold xChain
      simp only [v_con, r_bind, v_F, v_cons, v_var0, v_nil, g, l1, l2]
    have ty : xF (gIsTy .str) (xsCons (xVar 0) xsNil) (callF fns k) [some (.str c), none] [] = .ok (.bl true) [] := rfl
    have n1 : xNot (xF (gIsTy .str) (xsCons (xVar 0) xsNil)) (callF fns k) [some (.str c), none] [] = .ok (.bl false) [] := by rw [v_not, ty]; rfl
    have n2 : xNot (xChain .le .le (xCon (.int 1)) (xF gLen (xsCons (xVar 0) (xsNil))) (xCon (.int 8))) (callF fns k) [some (.str c), none] [] = .ok (.bl false) [] := by rw [v_not, ch]; rfl
    rw [st_if, v_or, n1, r_bind]
    show (xNot _ _ _ _).st _ _ = _
    rw [n2]; rfl
  have s2 : xComp false [1] (tName 1) .seq (xsCons (xVar 0) xsNil) ifNil (xCmp .isin (xVar 1) (xCon (.str [97, 98, 99, 100, 101, 102, 103, 104, 105, 106, 107, 108, 109, 110, 111, 112, 113, 114, 115, 116, 117, 118, 119, 120, 121, 122]))) (callF fns k) [some (.str c), none] [] = .ok (.lst (c.map fun _ => .bl true)) [] := by
    refine v_comp (ws := [.str c]) (xs := c.map fun x => .str [x]) (src_free rfl rfl (by rw [List.length_map]; omega)) (comp_map rfl fun x hx => ?_)
    show Ov.R.ok (some (W.bl (lets.any (Nat.beq x)))) [] = _
    rw [any_mem (h.l x hx)]
  unfold b10
  rw [s_seq s1, st_ret, v_F, v_cons, s2]
  show ((match blsOf (c.map fun _ => W.bl true) with
    | some bs => Ov.R.ok (W.bl (bs.all id)) []
    | none => .no).st _ _).back = _
  rw [blsOf_map]
  show Ov.R.ok (W.bl ((c.map fun _ => true).all id)) [] = _
  rw [List.all_map, show (c.all (id ∘ fun _ => true)) = true from List.all_eq_true.mpr fun _ _ => rfl]
def inw (t : List Nat) : List W := t.map fun (x : Nat) => W.int (x : Int)
def csn : List Nat → List (Nat × Nat)
  | a :: b :: r => (a, b) :: csn (b :: r)
  | _ => []
structure Tg (many : Nat) (t : List Nat) (e : Bool) : Prop where
  l : ∀ x ∈ t, x < many
  a : ∀ p ∈ csn t, p.1 < p.2
  n : t ≠ [] ∨ e = true
def endW : List Nat := [101, 110, 100]
def wrds (t : List Nat) (e : Bool) : List (List Nat) := t.map (fun x => [48 + x]) ++ if e then [endW] else []
def tgW (t : List Nat) (e : Bool) : List W := inw t ++ if e then [.non] else []
theorem item_last {xs : List W} {x : W} : itemW (.lst (xs ++ [x])) (.int (-1)) = some x := by
  show (place (-1) (xs ++ [x]).length).bind (fun n => (xs ++ [x])[n]?) = _
  have : place (-1) (xs ++ [x]).length = some xs.length := by
    unfold place
    rw [if_neg (by omega), if_pos (by simp; omega)]
    congr 1
    simp
    omega
  rw [this]
  simp
theorem slice_last {α : Type} (xs : List α) : slice xs none (some (-1)) = xs.dropLast := by
  unfold slice
  rw [List.dropLast_eq_take]
  show List.drop 0 (List.take (clip (-1) xs.length) xs) = _
  rw [List.drop_zero]
  congr 1
  unfold clip
  rw [if_pos (by omega)]
  omega
theorem zip_csn : ∀ t : List Nat, zipW (inw t).dropLast ((inw t).drop 1) = (csn t).map fun p => .tup [.int p.1, .int p.2]
  | [] => rfl
  | [_] => rfl
  | a :: b :: r => by
    have := zip_csn (b :: r)
    show W.tup [.int a, .int b] :: zipW (inw (b :: r)).dropLast ((inw (b :: r)).drop 1) = _
    rw [this]; rfl
theorem csn_len : ∀ t : List Nat, (csn t).length ≤ t.length
  | [] => Nat.le_refl _
  | [_] => Nat.zero_le _
  | _ :: b :: r => Nat.succ_le_succ (csn_len (b :: r))
theorem none_notin (t : List Nat) (H : Hw) : cmpW .isin .non (.lst (inw t)) H = .ok (.bl false) H := by
  have fl : (inw t).all W.flat = true := by unfold inw; rw [List.all_map, List.all_eq_true]; intro _ _; rfl
  have an : ((inw t).any fun y => W.eq y .non) = false := by unfold inw; rw [List.any_map, List.any_eq_false]; intro _ _; show ¬(false = true); decide
  show R.of H (cmpop .isin (whole H .non) (whole H (.lst (inw t)))) = _
  rw [whole_free H (show W.under 0 .non = true from rfl), whole_free H (show W.under 0 (.lst (inw t)) = true from flats_under _ fl)]
  show R.of H (if inOk .non (inw t) then some (W.bl ((inw t).any fun y => W.eq y .non)) else none) = _
  rw [if_pos (by unfold inOk; rw [fl]; rfl), an]; rfl
theorem ge_int {i j : Int} {h : Hw} : cmpW .ge (.int i) (.int j) h = .ok (.bl (decide (j ≤ i))) h := rfl
theorem lt_int {i j : Int} {h : Hw} : cmpW .lt (.int i) (.int j) h = .ok (.bl (decide (i < j))) h := rfl
theorem gt_int {i j : Int} {h : Hw} : cmpW .gt (.int i) (.int j) h = .ok (.bl (decide (j < i))) h := rfl
theorem eq_int {i j : Int} {h : Hw} : cmpW .eq (.int i) (.int j) h = .ok (.bl (decide (i = j))) h := rfl
theorem v_neg (a : Ex) (cl : CL) (σ : Sw) (h : Hw) : xNeg a cl σ h = (a cl σ h).bind fun x h1 => match x with
  | .int i => .ok (.int (-i)) h1
  | _ => .no := rfl
theorem v_isE (ne : Bool) (a : Ex) (cl : CL) (σ : Sw) (h : Hw) : xIsE ne a cl σ h = (a cl σ h).bind fun x h1 => isE ne x h1 := rfl
theorem isE_lst {ne : Bool} {xs : List W} {h : Hw} : isE ne (.lst xs) h = .ok (.bl (if ne then !xs.isEmpty else xs.isEmpty)) h := rfl
def dg (t : List Nat) : List W := t.map fun x => .str [48 + x]
theorem wrds_map (t : List Nat) (e : Bool) : (wrds t e).map W.str = dg t ++ if e then [.str endW] else [] := by
  unfold wrds dg
  rw [List.map_append, List.map_map]
  cases e <;> rfl
theorem last_word {t : List Nat} {e : Bool} (hn : t ≠ [] ∨ e = true) : ∃ w, itemW (.lst ((wrds t e).map .str)) (.int (-1)) = some (.str w) ∧ seqNat w endW = e := by
  rw [wrds_map]
  cases e with
  | true => exact ⟨endW, item_last, rfl⟩
  | false =>
    have hn : t ≠ [] := by rcases hn with h | h; exact h; cases h
    rcases List.eq_nil_or_concat t with rfl | ⟨r, x, rfl⟩
    · exact absurd rfl hn
    · refine ⟨[48 + x], ?_, ?_⟩
      · show itemW (.lst (dg (r.concat x) ++ [])) (.int (-1)) = _
        rw [List.append_nil, List.concat_eq_append]
        unfold dg
        rw [List.map_append]
        exact item_last
      · show (Nat.beq (48 + x) 101 && false) = false
        rw [Bool.and_false]
theorem call_targets {k many : Nat} {t : List Nat} {e : Bool} {H : Hw} (T : Tg many t e) (hm : many ≤ 10) (ht : t.length ≤ 20) : callF fns (k + 2) 11 [.lst ((wrds t e).map .str), .int many] H = .ok (.lst (tgW t e)) H := by
  have fw : W.unders 0 ((wrds t e).map W.str) = true := unders_of fun w hw => by
    obtain ⟨x, _, rfl⟩ := List.mem_map.mp hw; rfl
  have ft : W.unders 0 (tgW t e) = true := unders_of fun w hw => by
    unfold tgW at hw
    rcases List.mem_append.mp hw with h | h
    · obtain ⟨x, _, rfl⟩ := List.mem_map.mp h; rfl
    · cases e with
      | true => rw [List.mem_singleton.mp h]; rfl
      | false => cases h
  refine run_pure (fn := ⟨2, 8, true, b11⟩) (h' := []) rfl rfl rfl ?_ ?_ ft
  · show (W.unders 0 ((wrds t e).map W.str) && true) = true
    rw [fw]; rfl
  show (b11 (callF fns (k + 1)) [some (.lst ((wrds t e).map .str)), some (.int many), none, none, none, none, none, none] []).back = _
  obtain ⟨lw, l1, l2⟩ := last_word T.n
  have c0 : ∀ (a b c d f g : Option W), xCmp .eq (xIdx (xVar 0) (xNeg (xCon (.int 1)))) (xCon (.str [101, 110, 100])) (callF fns (k + 1)) [some (.lst ((wrds t e).map .str)), some (.int many), a, b, c, d, f, g] [] = .ok (.bl e) [] := by
    intro a b c d f g
    simp only [v_cmp, v_idx, v_var0, r_bind, v_neg, v_con, lks_lst', l1, r_of, eq_strs]
    rw [show seqNat lw [101, 110, 100] = e from l2]
  have s1 : sAsg (tName 2) (xIte (xCmp .eq (xIdx (xVar 0) (xNeg (xCon (.int 1)))) (xCon (.str [101, 110, 100]))) (xSlc false (xVar 0) oNone (oSome (xNeg (xCon (.int 1))))) (xVar 0)) (callF fns (k + 1)) [some (.lst ((wrds t e).map .str)), some (.int many), none, none, none, none, none, none] [] = .ok (.nx [some (.lst ((wrds t e).map .str)), some (.int many), some (.lst (dg t)), none, none, none, none, none]) [] := by
    rw [st_asg, v_ite, c0, r_bind]
    have wm := wrds_map t e
    cases e with
    | true =>
      simp only [v_slc, v_var0, r_bind, v_on, v_os, v_neg, v_con, lks_lst', sliceW, slice_last, r_of, wm, if_true, made, Bool.false_eq_true, if_false, r_st]
      rw [List.dropLast_concat]; rfl
    | false =>
      simp only [v_var0, wm, Bool.false_eq_true, if_false, List.append_nil, r_st]; rfl
  have s2 : sAsg (tName 3) (xComp false [4] (tName 4) .seq (xsCons (xVar 2) xsNil) ifNil (xCall 12 (xsCons (xVar 4) (xsNil)))) (callF fns (k + 1)) [some (.lst ((wrds t e).map .str)), some (.int many), some (.lst (dg t)), none, none, none, none, none] [] = .ok (.nx [some (.lst ((wrds t e).map .str)), some (.int many), some (.lst (dg t)), some (.lst (inw t)), none, none, none, none]) [] := by
    have c : xComp false [4] (tName 4) .seq (xsCons (xVar 2) xsNil) ifNil (xCall 12 (xsCons (xVar 4) (xsNil))) (callF fns (k + 1)) [some (.lst ((wrds t e).map .str)), some (.int many), some (.lst (dg t)), none, none, none, none, none] [] = .ok (.lst (inw t)) [] := by
      refine v_comp (ws := [.lst (dg t)]) (xs := dg t) (src_free rfl rfl (by unfold dg; rw [List.length_map]; omega)) (comp_map (l := t) (a := fun x => .str [48 + x]) (b := fun (x : Nat) => W.int (x : Int)) rfl fun x hx => ?_)
      exact turn_yes rfl rfl (call_number (k := k) (H := []) (show x < 10 by have := T.l x hx; omega))
    rw [st_asg, c]; rfl
  have c3 : xComp false [5] (tName 5) .seq (xsCons (xVar 3) xsNil) (ifCons (xCmp .ge (xVar 5) (xVar 1)) ifNil) (xVar 5) (callF fns (k + 1)) [some (.lst ((wrds t e).map .str)), some (.int many), some (.lst (dg t)), some (.lst (inw t)), none, none, none, none] [] = .ok (.lst []) [] := by
    refine v_comp (ws := [.lst (inw t)]) (xs := inw t) (src_free rfl rfl (by unfold inw; rw [List.length_map]; omega)) (comp_none (l := t) (a := fun (x : Nat) => W.int (x : Int)) rfl fun x hx => ?_)
    refine turn_no rfl (ifs_no ?_)
    show Ov.R.ok (W.bl (decide ((many : Int) ≤ (x : Int)))) [] = _
    rw [decide_eq_false (by have := T.l x hx; omega)]
  have s3 : sIf (xOr (xCmp .isin (xCon .non) (xVar 3)) (xIsE true (xComp false [5] (tName 5) .seq (xsCons (xVar 3) xsNil) (ifCons (xCmp .ge (xVar 5) (xVar 1)) ifNil) (xVar 5)))) (sRet (xCon .non)) (sPass) (callF fns (k + 1)) [some (.lst ((wrds t e).map .str)), some (.int many), some (.lst (dg t)), some (.lst (inw t)), none, none, none, none] [] = .ok (.nx [some (.lst ((wrds t e).map .str)), some (.int many), some (.lst (dg t)), some (.lst (inw t)), none, none, none, none]) [] := by
    have c1 : xCmp .isin (xCon .non) (xVar 3) (callF fns (k + 1)) [some (.lst ((wrds t e).map .str)), some (.int many), some (.lst (dg t)), some (.lst (inw t)), none, none, none, none] [] = .ok (.bl false) [] := none_notin t []
    rw [st_if, v_or, c1, r_bind]
    show (xIsE true _ _ _ _).st _ _ = _
    rw [v_isE, c3, r_bind, isE_lst]; rfl
  have c4 : xComp false [6, 7] (tTup 2 (tsCons (tName 6) (tsCons (tName 7) (tsNil)))) .zip (xsCons (xSlc false (xVar 3) oNone (oSome (xNeg (xCon (.int 1))))) (xsCons (xSlc false (xVar 3) (oSome (xCon (.int 1))) oNone) (xsNil))) (ifCons (xCmp .ge (xVar 6) (xVar 7)) ifNil) (xVar 6) (callF fns (k + 1)) [some (.lst ((wrds t e).map .str)), some (.int many), some (.lst (dg t)), some (.lst (inw t)), none, none, none, none] [] = .ok (.lst []) [] := by
    have sl : (xsCons (xSlc false (xVar 3) oNone (oSome (xNeg (xCon (.int 1))))) (xsCons (xSlc false (xVar 3) (oSome (xCon (.int 1))) oNone) (xsNil))) (callF fns (k + 1)) [some (.lst ((wrds t e).map .str)), some (.int many), some (.lst (dg t)), some (.lst (inw t)), none, none, none, none] [] = .ok [.lst (inw t).dropLast, .lst ((inw t).drop 1)] [] := by
      simp only [v_cons, v_slc, v_varS, v_var0, r_bind, v_on, v_os, v_neg, v_con, lks_lst', sliceW, slice_last, slice_from (inw t) 1, r_of, made, Bool.false_eq_true, if_false, v_nil]
      rw [show slice (inw t) (some 1) none = (inw t).drop 1 from slice_from (inw t) 1]
    have ln := csn_len t
    refine v_comp (src_free (xs := (csn t).map fun p => .tup [.int p.1, .int p.2]) sl (congrArg some (zip_csn t)) (by rw [List.length_map]; omega)) (comp_none rfl fun p hp => ?_)
    refine turn_no rfl (ifs_no ?_)
    show Ov.R.ok (W.bl (decide ((p.2 : Int) ≤ (p.1 : Int)))) [] = _
    rw [decide_eq_false (by have := T.a p hp; omega)]
  have s4 : sIf (xIsE true (xComp false [6, 7] (tTup 2 (tsCons (tName 6) (tsCons (tName 7) (tsNil)))) .zip (xsCons (xSlc false (xVar 3) oNone (oSome (xNeg (xCon (.int 1))))) (xsCons (xSlc false (xVar 3) (oSome (xCon (.int 1))) oNone) (xsNil))) (ifCons (xCmp .ge (xVar 6) (xVar 7)) ifNil) (xVar 6))) (sRet (xCon .non)) (sPass) (callF fns (k + 1)) [some (.lst ((wrds t e).map .str)), some (.int many), some (.lst (dg t)), some (.lst (inw t)), none, none, none, none] [] = .ok (.nx [some (.lst ((wrds t e).map .str)), some (.int many), some (.lst (dg t)), some (.lst (inw t)), none, none, none, none]) [] := by
    rw [st_if, v_isE, c4, r_bind, isE_lst]; rfl
  unfold b11
  rw [s_seq s1, s_seq s2, s_seq s3, s_seq s4, st_ret, v_ite, c0, r_bind]
  cases e with
  | true =>
    have ad := add_lst (s := inw t) (t := [.non]) (by unfold inw; rw [List.length_map]; simp; omega)
    simp only [v_bin, v_varS, v_var0, r_bind, v_lst, v_cons, v_con, v_nil, lks_lst', made, Bool.false_eq_true, if_false, most]
    show ((R.of [] (binop .add (.lst (inw t)) (.lst [.non]))).st _ _).back = _
    rw [ad]; rfl
  | false =>
    show Ov.R.ok (W.lst (inw t)) [] = _
    unfold tgW
    rw [if_neg (by simp), List.append_nil]
end K10
namespace K10
open Ov
def wd (b : Bool) : List Nat := if b then [114, 101, 97, 100] else [119, 114, 105, 116, 101]
structure Nd where
  w : Bool
  c : List Nat
  t : List Nat
  e : Bool
def ndW (n : Nd) : W := .tup [.str (wd n.w), .str n.c, .tup (tgW n.t n.e)]
def arr : List Nat := [45, 62]
def rws (f : Bool) (n : Nd) : List (List Nat) := wd n.w :: n.c :: if f then arr :: wrds n.t n.e else []
structure Rok (many : Nat) (f : Bool) (n : Nd) : Prop where
  c : Nm n.c
  t : Tg many n.t n.e
  b : f = false → n.t = [] ∧ n.e = true
  l : n.t.length ≤ 20
def rowT (f : Bool) (n : Nd) : List Nat := joinBy [32] (rws f n)
theorem wrds_ne {t : List Nat} {e : Bool} (h : t ≠ [] ∨ e = true) : wrds t e ≠ [] := by
  unfold wrds
  intro z
  obtain ⟨z1, z2⟩ := List.append_eq_nil_iff.mp z
  rcases h with h | h
  · exact h (List.map_eq_nil_iff.mp z1)
  · subst h; cases z2
theorem wrds_in {t : List Nat} {e : Bool} {p : List Nat} (h : p ∈ wrds t e) : (∃ x ∈ t, p = [48 + x]) ∨ p = endW := by
  unfold wrds at h
  rcases List.mem_append.mp h with h | h
  · obtain ⟨x, hx, rfl⟩ := List.mem_map.mp h; exact .inl ⟨x, hx, rfl⟩
  · cases e with
    | true => exact .inr (List.mem_singleton.mp h)
    | false => cases h
theorem rws_in {many : Nat} {f : Bool} {n : Nd} (R : Rok many f n) {p : List Nat} (h : p ∈ rws f n) : p.length ≤ 8 ∧ 32 ∉ p ∧ 10 ∉ p := by
  unfold rws at h
  rcases List.mem_cons.mp h with rfl | h
  · unfold wd; cases n.w <;> decide
  rcases List.mem_cons.mp h with rfl | h
  · exact ⟨R.c.m, R.c.no (by omega), R.c.no (by omega)⟩
  cases f with
  | false => cases h
  | true =>
    rcases List.mem_cons.mp h with rfl | h
    · decide
    · rcases wrds_in h with ⟨x, _, rfl⟩ | rfl
      · exact ⟨by simp, by simp; omega, by simp; omega⟩
      · decide
theorem wrds_len (t : List Nat) (e : Bool) : (wrds t e).length ≤ t.length + 1 := by
  unfold wrds
  rw [List.length_append, List.length_map]
  cases e <;> simp
theorem sum_le {b : Nat} : ∀ {xs : List (List Nat)}, (∀ p ∈ xs, p.length ≤ b) → (xs.map (·.length)).sum ≤ xs.length * b
  | [], _ => Nat.zero_le _
  | x :: r, h => by
    have h1 := h x (List.mem_cons_self ..)
    have h2 := sum_le (xs := r) fun p hp => h p (List.mem_cons_of_mem _ hp)
    simp only [List.map_cons, List.sum_cons, List.length_cons, Nat.add_mul, Nat.one_mul]
    omega
theorem rws_len {many : Nat} {f : Bool} {n : Nd} (R : Rok many f n) : (rws f n).length ≤ 24 := by
  unfold rws
  have := wrds_len n.t n.e
  have := R.l
  cases f with
  | false => simp
  | true =>
    rw [if_pos rfl]
    simp only [List.length_cons]
    omega
theorem rowT_len {many : Nat} {f : Bool} {n : Nd} (R : Rok many f n) : (rowT f n).length ≤ 216 := by
  have h1 := joinBy_len [32] (rws f n)
  have h2 := sum_le (b := 8) fun p hp => (rws_in R hp).1
  have h3 := rws_len R
  show (joinBy [32] (rws f n)).length ≤ 216
  have e : ([32] : List Nat).length = 1 := rfl
  rw [e, Nat.mul_one] at h1
  omega
theorem row_split {many : Nat} {f : Bool} {n : Nd} (R : Rok many f n) : splitBy 32 (rowT f n) = rws f n := splitBy_join (by unfold rws; simp) fun p hp => (rws_in R hp).2.1
theorem joinBy_no {c s : Nat} (hs : s ≠ c) : ∀ {xs : List (List Nat)}, (∀ p ∈ xs, c ∉ p) → c ∉ joinBy [s] xs
  | [], _ => by simp [joinBy]
  | [x], h => h x (List.mem_singleton.mpr rfl)
  | x :: y :: r, h => by
    rw [joinBy_cons (by simp)]
    intro hm
    rcases List.mem_append.mp hm with hm | hm
    · rcases List.mem_append.mp hm with hm | hm
      · exact h x (List.mem_cons_self ..) hm
      · exact hs (List.mem_singleton.mp hm).symm
    · exact joinBy_no hs (fun p hp => h p (List.mem_cons_of_mem _ hp)) hm
theorem rowT_no {many : Nat} {f : Bool} {n : Nd} (R : Rok many f n) : 10 ∉ rowT f n := joinBy_no (by decide) fun p hp => (rws_in R hp).2.2
theorem split_ok {s : List Nat} {c : Nat} {h : Hw} (l : s.length < 16000000) : mSplit false (.str s) [.str [c]] h = .ok (.lst ((splitBy c s).map .str)) h := by
  show (if Nat.blt s.length most then made false h (.lst ((splitBy c s).map .str)) else .no) = _
  rw [show Nat.blt s.length most = true from Nat.ble_eq_true_of_le (by unfold most; omega)]; rfl
theorem len_lst {xs : List W} {h : Hw} : gLen [.lst xs] h = .ok (.int xs.length) h := rfl
theorem tgW_under (t : List Nat) (e : Bool) : W.unders 0 (tgW t e) = true := unders_of fun w hw => by
  unfold tgW at hw
  rcases List.mem_append.mp hw with h | h
  · obtain ⟨x, _, rfl⟩ := List.mem_map.mp h; rfl
  · cases e with
    | true => rw [List.mem_singleton.mp h]; rfl
    | false => cases h
theorem ndW_under (n : Nd) : W.under 0 (ndW n) = true := by
  show (true && (true && (W.unders 0 (tgW n.t n.e) && true))) = true
  rw [tgW_under]; rfl
theorem ne_strs {s t : List Nat} {H : Hw} : cmpW .ne (.str s) (.str t) H = .ok (.bl (!seqNat s t)) H := rfl
theorem call_row {k many : Nat} {f : Bool} {n : Nd} {H : Hw} (R : Rok many f n) (hm : many ≤ 10) : callF fns (k + 3) 9 [.str (rowT f n), .int many] H = .ok (ndW n) H := by
  refine run_pure (fn := ⟨2, 4, true, b9⟩) (h' := []) rfl rfl rfl rfl ?_ (ndW_under n)
  show (b9 (callF fns (k + 2)) [some (.str (rowT f n)), some (.int many), none, none] []).back = _
  have hl := rowT_len R
  have sp := split_ok (c := 32) (h := []) (show (rowT f n).length < 16000000 by omega)
  rw [row_split R] at sp
  have s1 : sAsg (tName 2) (xM .str (mSplit false) (xVar 0) (xsCons (xCon (.str [32])) (xsNil))) (callF fns (k + 2)) [some (.str (rowT f n)), some (.int many), none, none] [] = .ok (.nx [some (.str (rowT f n)), some (.int many), some (.lst ((rws f n).map .str)), none]) [] := by
    simp [gn_name, isKd, sp]
  have nm := call_name (k := k + 1) (H := []) R.c
  have s2 : ∀ W', sIf (xOr (xCmp .lt (xF gLen (xsCons (xVar 2) (xsNil))) (xCon (.int 2))) (xOr (xCmp .notin (xIdx (xVar 2) (xCon (.int 0))) (xLst false (xsCons (xCon (.str [114, 101, 97, 100])) (xsCons (xCon (.str [119, 114, 105, 116, 101])) (xsNil))))) (xNot (xCall 10 (xsCons (xIdx (xVar 2) (xCon (.int 1))) (xsNil)))))) (sRet (xCon .non)) (sPass) (callF fns (k + 2)) [some (.str (rowT f n)), some (.int many), some (.lst (.str (wd n.w) :: .str n.c :: W')), none] [] = .ok (.nx [some (.str (rowT f n)), some (.int many), some (.lst (.str (wd n.w) :: .str n.c :: W')), none]) [] := by
    intro W'
    have i0 : itemW (.lst (.str (wd n.w) :: .str n.c :: W')) (.int 0) = some (.str (wd n.w)) := item_lst (n := 0) rfl
    have i1 : itemW (.lst (.str (wd n.w) :: .str n.c :: W')) (.int 1) = some (.str n.c) := item_lst (n := 1) rfl
    have ni : cmpW .notin (.str (wd n.w)) (.lst [.str [114, 101, 97, 100], .str [119, 114, 105, 116, 101]]) [] = .ok (.bl false) [] := by unfold wd; cases n.w <;> rfl
    have l2 : ¬((W'.length : Int) + 1 + 1 < 2) := by omega
    simp [len_lst, lt_int, l2, i0, i1, ni, nm, made, most]
  have s3 : sAsg (tName 3) (xLst false (xsCons (xCon .non) (xsNil))) (callF fns (k + 2)) [some (.str (rowT f n)), some (.int many), some (.lst ((rws f n).map .str)), none] [] = .ok (.nx [some (.str (rowT f n)), some (.int many), some (.lst ((rws f n).map .str)), some (.lst [.non])]) [] := rfl
  have fin : ∀ W' T', ((sRet (xIte (xIsN true (xVar 3)) (xCon .non) (xTup (xsCons (xIdx (xVar 2) (xCon (.int 0))) (xsCons (xIdx (xVar 2) (xCon (.int 1))) (xsCons (xF gTuple (xsCons (xVar 3) (xsNil))) (xsNil))))))) : Sx) (callF fns (k + 2)) [some (.str (rowT f n)), some (.int many), some (.lst (.str (wd n.w) :: .str n.c :: W')), some (.lst T')] [] = .ok (.ret (.tup [.str (wd n.w), .str n.c, .tup T'])) [] := by
    intro W' T'
    have i0 : itemW (.lst (.str (wd n.w) :: .str n.c :: W')) (.int 0) = some (.str (wd n.w)) := item_lst (n := 0) rfl
    have i1 : itemW (.lst (.str (wd n.w) :: .str n.c :: W')) (.int 1) = some (.str n.c) := item_lst (n := 1) rfl
    have gt : gTuple [.lst T'] [] = .ok (.tup T') [] := rfl
    simp [gIsN, isNon, i0, i1, gt, most]
  cases f with
  | false =>
    obtain ⟨ht, he⟩ := R.b rfl
    rw [show (rws false n).map W.str = [.str (wd n.w), .str n.c] from rfl] at s1 s3
    have s4 : ((sIf (xCmp .gt (xF gLen (xsCons (xVar 2) (xsNil))) (xCon (.int 2))) (sSeq (sIf (xOr (xCmp .ne (xIdx (xVar 2) (xCon (.int 2))) (xCon (.str [45, 62]))) (xCmp .eq (xF gLen (xsCons (xVar 2) (xsNil))) (xCon (.int 3)))) (sRet (xCon .non)) (sPass)) (sAsg (tName 3) (xCall 11 (xsCons (xSlc false (xVar 2) (oSome (xCon (.int 3))) oNone) (xsCons (xVar 1) (xsNil)))))) (sPass)) : Sx) (callF fns (k + 2)) [some (.str (rowT false n)), some (.int many), some (.lst [.str (wd n.w), .str n.c]), some (.lst [.non])] [] = .ok (.nx [some (.str (rowT false n)), some (.int many), some (.lst [.str (wd n.w), .str n.c]), some (.lst [.non])]) [] := rfl
    unfold b9
    rw [s_seq s1, s_seq (s2 []), s_seq s3]
    refine (congrArg RS.back ((s_seq s4).trans (fin [] [.non]))).trans ?_
    show Ov.R.ok (W.tup [.str (wd n.w), .str n.c, .tup [.non]]) [] = _
    unfold ndW
    rw [ht, he]; rfl
  | true =>
    have ne := wrds_ne R.t.n
    rw [show (rws true n).map W.str = .str (wd n.w) :: .str n.c :: .str arr :: (wrds n.t n.e).map .str from rfl] at s1 s3
    have lw : 1 ≤ (wrds n.t n.e).length := List.length_pos_iff.mpr ne
    have ct := call_targets (k := k) (H := []) R.t hm R.l
    have s4 : ((sIf (xCmp .gt (xF gLen (xsCons (xVar 2) (xsNil))) (xCon (.int 2))) (sSeq (sIf (xOr (xCmp .ne (xIdx (xVar 2) (xCon (.int 2))) (xCon (.str [45, 62]))) (xCmp .eq (xF gLen (xsCons (xVar 2) (xsNil))) (xCon (.int 3)))) (sRet (xCon .non)) (sPass)) (sAsg (tName 3) (xCall 11 (xsCons (xSlc false (xVar 2) (oSome (xCon (.int 3))) oNone) (xsCons (xVar 1) (xsNil)))))) (sPass)) : Sx) (callF fns (k + 2)) [some (.str (rowT true n)), some (.int many), some (.lst (.str (wd n.w) :: .str n.c :: .str arr :: (wrds n.t n.e).map .str)), some (.lst [.non])] [] = .ok (.nx [some (.str (rowT true n)), some (.int many), some (.lst (.str (wd n.w) :: .str n.c :: .str arr :: (wrds n.t n.e).map .str)), some (.lst (tgW n.t n.e))]) [] := by
      have i2 : itemW (.lst (.str (wd n.w) :: .str n.c :: .str arr :: (wrds n.t n.e).map .str)) (.int 2) = some (.str arr) := item_lst (n := 2) rfl
      have sl : sliceW (.lst (.str (wd n.w) :: .str n.c :: .str arr :: (wrds n.t n.e).map .str)) (some 3) none = some (.lst ((wrds n.t n.e).map .str)) := congrArg (fun x => some (W.lst x)) (slice_from (W.str (wd n.w) :: W.str n.c :: W.str arr :: (wrds n.t n.e).map W.str) 3)
      have g2 : (2 : Int) < ((wrds n.t n.e).length : Int) + 1 + 1 + 1 := by omega
      have g3 : ¬(((wrds n.t n.e).length : Int) + 1 + 1 + 1 = 3) := by omega
      have sq : seqNat arr [45, 62] = true := rfl
      simp [gn_name, len_lst, gt_int, g2, g3, i2, ne_strs, sq, eq_int, sl, made, ct]
    unfold b9
    rw [s_seq s1, s_seq (s2 (.str arr :: (wrds n.t n.e).map .str)), s_seq s3]
    exact congrArg RS.back ((s_seq s4).trans (fin (.str arr :: (wrds n.t n.e).map .str) (tgW n.t n.e)))
end K10
namespace K10
open Ov
def prg (tx : W) (nodes : List W) : W := .obj 2 [0, 1] [tx, .tup nodes]
abbrev Rw := Bool × Nd
def txt (rs : List Rw) : List Nat := joinBy [10] (rs.map fun r => rowT r.1 r.2)
def nds (rs : List Rw) : List W := rs.map fun r => ndW r.2
def rwW (rs : List Rw) : List W := rs.map fun r => .str (rowT r.1 r.2)
structure TxOk (many : Nat) (rs : List Rw) : Prop where
  n : rs ≠ []
  l : rs.length ≤ 8
  m : many = rs.length
  r : ∀ r ∈ rs, Rok many r.1 r.2
theorem nds_under (rs : List Rw) : W.unders 0 (nds rs) = true := unders_of fun w hw => by
  obtain ⟨r, _, rfl⟩ := List.mem_map.mp hw
  exact ndW_under _
theorem txt_split {rs : List Rw} {many : Nat} (T : TxOk many rs) : (splitBy 10 (txt rs)).map W.str = rwW rs := by
  unfold txt
  rw [splitBy_join (by simpa using T.n) fun p hp => by
    obtain ⟨r, hr, rfl⟩ := List.mem_map.mp hp
    exact rowT_no (T.r r hr)]
  rw [List.map_map]; rfl
theorem txt_len {rs : List Rw} {many : Nat} (T : TxOk many rs) : (txt rs).length ≤ 2000 := by
  have h1 := joinBy_len [10] (rs.map fun r => rowT r.1 r.2)
  have h2 := sum_le (b := 216) (xs := rs.map fun r => rowT r.1 r.2) fun p hp => by
    obtain ⟨r, hr, rfl⟩ := List.mem_map.mp hp
    exact rowT_len (T.r r hr)
  have h3 := T.l
  have e : ([10] : List Nat).length = 1 := rfl
  rw [e, Nat.mul_one, List.length_map] at h1
  rw [List.length_map] at h2
  show (joinBy [10] (rs.map fun r => rowT r.1 r.2)).length ≤ 2000
  omega
abbrev prB : Sx := sSeq (sAsg (tName 5) (xIte (xCmp .lt (xVar 3) (xCon (.int 8))) (xCall 9 (xsCons (xVar 4) (xsCons (xF gLen (xsCons (xVar 1) (xsNil))) (xsNil)))) (xCon .non))) (sSeq (sIf (xIsN true (xVar 5)) (sRai 1 (xVar 3)) (sPass)) (sEx (xM .list mAppend (xVar 2) (xsCons (xVar 5) (xsNil)))))
theorem parse_go {k : Nat} {tx : W} {rs : List W} {many : Nat} (hm : rs.length = many) (hm8 : many ≤ 8) {chk : Hw → Bool} (hc : ∀ h, chk h = true) : ∀ (l : List Rw) (i : Nat) (acc : List W) (a b c : Option W), (∀ r ∈ l, Rok many r.1 r.2) → i + l.length ≤ 8 → acc.length ≤ i →
    ∃ a' b' c', forGo chk (fun x σ h => (tTup 2 (tsCons (tName 3) (tsCons (tName 4) (tsNil))) (callF fns (k + 3)) x σ h).calm.st σ fun σ1 h3 => prB (callF fns (k + 3)) σ1 h3) (numFrom i (rwW l)) [some tx, some (.lst rs), some (.ref 0), a, b, c] [.lst acc] = .ok (.nx [some tx, some (.lst rs), some (.ref 0), a', b', c']) [.lst (acc ++ nds l)] := by
  intro l
  induction l with
  | nil => intro i acc a b c _ _ _; exact ⟨a, b, c, by rw [show numFrom (i : Int) (rwW []) = [] from rfl, for_nil (hc _), show nds [] = [] from rfl, List.append_nil]⟩
  | cons r l ih =>
    intro i acc a b c hr hi ha
    simp only [List.length_cons] at hi
    obtain ⟨a', b', c', q⟩ := ih (i + 1) (acc ++ [ndW r.2]) (some (.int i)) (some (.str (rowT r.1 r.2))) (some (ndW r.2)) (fun x hx => hr x (List.mem_cons_of_mem _ hx)) (by omega) (by simp; omega)
    have num : numFrom (i : Int) (rwW (r :: l)) = .tup [.int i, .str (rowT r.1 r.2)] :: numFrom ((i + 1 : Nat) : Int) (rwW l) := by
      show W.tup [.int i, .str (rowT r.1 r.2)] :: numFrom ((i : Int) + 1) (rwW l) = _
      rw [show ((i + 1 : Nat) : Int) = (i : Int) + 1 by omega]
    rw [num]
    refine ⟨a', b', c', (for_cons (h1 := [.lst (acc ++ [ndW r.2])]) (σ1 := [some tx, some (.lst rs), some (.ref 0), some (.int i), some (.str (rowT r.1 r.2)), some (ndW r.2)]) (hc _) ?_).trans (q.trans (by rw [List.append_assoc]; rfl))⟩
    have cr := call_row (k := k) (H := [.lst acc]) (hr r (List.mem_cons_self ..)) (show many ≤ 10 by omega)
    have li : (i : Int) < 8 := by omega
    have ap := app_ok (h := [.lst acc]) (n := 0) (w := ndW r.2) rfl (by omega)
    have nn : isNon (ndW r.2) = false := rfl
    have gn : gIsN true (ndW r.2) [.lst acc] = .ok (.bl false) [.lst acc] := rfl
    show prB (callF fns (k + 3)) [some tx, some (.lst rs), some (.ref 0), some (.int i), some (.str (rowT r.1 r.2)), c] [.lst acc] = _
    have s1 : sAsg (tName 5) (xIte (xCmp .lt (xVar 3) (xCon (.int 8))) (xCall 9 (xsCons (xVar 4) (xsCons (xF gLen (xsCons (xVar 1) (xsNil))) (xsNil)))) (xCon .non)) (callF fns (k + 3)) [some tx, some (.lst rs), some (.ref 0), some (.int i), some (.str (rowT r.1 r.2)), c] [.lst acc] = .ok (.nx [some tx, some (.lst rs), some (.ref 0), some (.int i), some (.str (rowT r.1 r.2)), some (ndW r.2)]) [.lst acc] := by
      simp [gn_name, lt_int, li, len_lst, hm, cr]
    have s2 : sIf (xIsN true (xVar 5)) (sRai 1 (xVar 3)) (sPass) (callF fns (k + 3)) [some tx, some (.lst rs), some (.ref 0), some (.int i), some (.str (rowT r.1 r.2)), some (ndW r.2)] [.lst acc] = .ok (.nx [some tx, some (.lst rs), some (.ref 0), some (.int i), some (.str (rowT r.1 r.2)), some (ndW r.2)]) [.lst acc] := rfl
    unfold prB
    rw [s_seq s1, s_seq s2]
    simp [isKd, look, ap]
theorem call_parse {k : Nat} {rs : List Rw} {H : Hw} (T : TxOk rs.length rs) : callF fns (k + 4) 8 [.str (txt rs)] H = .ok (prg (.str (txt rs)) (nds rs)) H := by
  have tl := txt_len T
  have hl := T.l
  have un : W.under 0 (prg (.str (txt rs)) (nds rs)) = true := by
    show (true && (W.unders 0 (nds rs) && true)) = true
    rw [nds_under]; rfl
  have rl : (rwW rs).length = rs.length := by unfold rwW; rw [List.length_map]
  have sp := split_ok (c := 10) (h := []) (show (txt rs).length < 16000000 by omega)
  rw [txt_split T] at sp
  have s1 : sIf (xNot (xF (gIsTy .str) (xsCons (xVar 0) xsNil))) (sRai 1 (xCon (.int 0))) (sPass) (callF fns (k + 3)) [some (.str (txt rs)), none, none, none, none, none] [] = .ok (.nx [some (.str (txt rs)), none, none, none, none, none]) [] := rfl
  have s2 : sPar 1 2 (xsCons (xM .str (mSplit false) (xVar 0) (xsCons (xCon (.str [10])) (xsNil))) (xsCons (xLst true (xsNil)) (xsNil))) (callF fns (k + 3)) [some (.str (txt rs)), none, none, none, none, none] [] = .ok (.nx [some (.str (txt rs)), some (.lst (rwW rs)), some (.ref 0), none, none, none]) [.lst []] := by
    unfold sPar
    simp [isKd, sp, most, made, newCell]
  obtain ⟨a, b, c, q⟩ := parse_go (k := k) (tx := .str (txt rs)) (rs := rwW rs) rl hl (chk := fun h' => stands [.lst []] h' [.lst (rwW rs)]) (fun _ => rfl) rs 0 [] none none none T.r (by omega) (by simp)
  have sr : src .enum (xsCons (xVar 1) (xsNil)) (callF fns (k + 3)) [some (.str (txt rs)), some (.lst (rwW rs)), some (.ref 0), none, none, none] [.lst []] = .ok ([.lst (rwW rs)], numFrom 0 (rwW rs)) [.lst []] := src_free rfl rfl (by rw [num_length, rl]; omega)
  have s3 := (s_for (t := tTup 2 (tsCons (tName 3) (tsCons (tName 4) (tsNil)))) (b := prB) sr).trans q
  have c12 : callF fns (k + 3) 13 [.ref 1, .str (txt rs), .tup (nds rs)] [.lst (nds rs), .obj 2 [] []] = .ok .non [.lst (nds rs), .obj 2 [0, 1] [.str (txt rs), .tup (nds rs)]] := by
    show trimR 2 (Ov.R.ok W.non [.lst (nds rs), .obj 2 [0, 1] [.str (txt rs), .tup (nds rs)]]) = _
    show Ov.R.ok W.non (trim 2 .non [.lst (nds rs), .obj 2 [0, 1] [.str (txt rs), .tup (nds rs)]]) = _
    rw [trim_same (by simp)]
  have fz : freeze [.lst (nds rs), .obj 2 [0, 1] [.str (txt rs), .tup (nds rs)]] (.ref 1) = .ok (prg (.str (txt rs)) (nds rs)) [.lst (nds rs), .dead] := by
    have f1 : fzV 9 (.ref 1) [.lst (nds rs), .obj 2 [0, 1] [.str (txt rs), .tup (nds rs)]] = some (prg (.str (txt rs)) (nds rs), [.lst (nds rs), .dead]) := by
      show (mapFz (fzV 8) [.str (txt rs), .tup (nds rs)] [.lst (nds rs), .dead]).map (fun (p : List W × Hw) => (W.obj 2 [0, 1] p.1, p.2)) = _
      rw [mapFz_free _ (by show (true && (W.unders 0 (nds rs) && true)) = true; rw [nds_under]; rfl)]; rfl
    unfold freeze
    rw [f1]
  have no : ∃ h', newObj (callF fns (k + 3)) 2 13 true [.str (txt rs), .tup (nds rs)] [.lst (nds rs)] = .ok (prg (.str (txt rs)) (nds rs)) h' := by
    refine ⟨trim 1 (prg (.str (txt rs)) (nds rs)) [.lst (nds rs), .dead], ?_⟩
    show (match callF fns (k + 3) 13 [.ref 1, .str (txt rs), .tup (nds rs)] [.lst (nds rs), .obj 2 [] []] with
      | .ok .non h1 => (freeze h1 (.ref 1)).bind fun w h2 => Ov.R.ok w (trim 1 w h2)
      | .exn c a h1 => .exn c a (trim 1 (a.getD .non) h1)
      | _ => .no) = _
    rw [c12]
    dsimp only
    rw [fz]; rfl
  obtain ⟨h', no⟩ := no
  refine run_pure (fn := ⟨1, 6, true, b8⟩) (h' := h') rfl rfl rfl rfl ?_ un
  show (b8 (callF fns (k + 3)) [some (.str (txt rs)), none, none, none, none, none] []).back = _
  have es : (xsCons (xVar 0) (xsCons (xF gTuple (xsCons (xVar 2) (xsNil))) (xsNil))) (callF fns (k + 3)) [some (.str (txt rs)), some (.lst (rwW rs)), some (.ref 0), a, b, c] [.lst (nds rs)] = .ok [.str (txt rs), .tup (nds rs)] [.lst (nds rs)] := rfl
  unfold b8
  rw [s_seq s1, s_seq s2, s_seq s3, List.nil_append, st_ret]
  show (((xNew 2 13 true _ _ _ _).st _ _)).back = _
  unfold xNew
  rw [es, r_bind, no]; rfl
end K10
namespace K10
open Ov
def Fd (n : Nat) (h : Hw) : Prop := ∃ d e : Int, h[n]? = some (.lst [.int d, .int e]) ∧ 0 ≤ d ∧ 0 ≤ e
theorem Fd.lt {n : Nat} {h : Hw} (f : Fd n h) : n < h.length := by
  obtain ⟨d, e, q, _, _⟩ := f
  exact (List.getElem?_eq_some_iff.mp q).1
structure Aft (n : Nat) (h h' : Hw) : Prop where
  f : Fd n h'
  l : h'.length = h.length
  o : ∀ m, m ≠ n → h'[m]? = h[m]?
theorem Aft.trans {n : Nat} {h h1 h2 : Hw} (a : Aft n h h1) (b : Aft n h1 h2) : Aft n h h2 := ⟨b.f, b.l.trans a.l, fun m hm => (b.o m hm).trans (a.o m hm)⟩
theorem Aft.refl {n : Nat} {h : Hw} (f : Fd n h) : Aft n h h := ⟨f, rfl, fun _ _ => rfl⟩
theorem Aft.set {n : Nat} {h : Hw} (f : Fd n h) {d e : Int} (hd : 0 ≤ d) (he : 0 ≤ e) : Aft n h (h.set n (.lst [.int d, .int e])) :=
  ⟨⟨d, e, by rw [List.getElem?_set_self f.lt], hd, he⟩, by simp, fun m hm => List.getElem?_set_ne (fun e => hm e.symm)⟩
theorem take_fd {k n : Nat} {h : Hw} {s : Int} (f : Fd n h) (hs : 0 < s) (hb : s < 1000000) : ∃ (r : Nat) (h' : Hw), callF fns (k + 1) 3 [.ref n, .int s] h = .ok (.int (r : Nat)) h' ∧ (r : Int) < s ∧ Aft n h h' := by
  obtain ⟨d, e, q, hd, he⟩ := f
  obtain ⟨r, d', e', c, r0, r1, d0, e0⟩ := call_take (k := k) q hd he hs hb
  obtain ⟨m, rfl⟩ := Int.eq_ofNat_of_zero_le r0
  exact ⟨m, _, c, r1, Aft.set ⟨d, e, q, hd, he⟩ d0 e0⟩
theorem pick_fd {k n : Nat} {h : Hw} {cs : List W} (f : Fd n h) (hc : cs ≠ []) (hl : cs.length < 1000000) : ∃ (w : W) (h' : Hw), w ∈ cs ∧ callF fns (k + 2) 4 [.ref n, .lst cs] h = .ok w h' ∧ Aft n h h' := by
  obtain ⟨d, e, q, hd, he⟩ := f
  obtain ⟨i, w, d', e', hi, c, d0, e0⟩ := call_pick (k := k) q hd he hc hl
  exact ⟨w, _, List.mem_of_getElem? hi, c, Aft.set ⟨d, e, q, hd, he⟩ d0 e0⟩
theorem Fd.trim {n k : Nat} {h : Hw} {w : W} (f : Fd n h) (hk : n < k) : Fd n (Ov.trim k w h) := by
  unfold Ov.trim
  split
  · obtain ⟨d, e, q, p⟩ := f
    exact ⟨d, e, by rw [List.getElem?_take_of_lt hk]; exact q, p⟩
  · exact f
theorem trim_get {n k : Nat} {h : Hw} {w : W} (hk : n < k) : (Ov.trim k w h)[n]? = h[n]? := by
  unfold Ov.trim
  split
  · exact List.getElem?_take_of_lt hk
  · rfl
theorem trim_ref {n : Nat} {h : Hw} : trim n (.ref n) h = h := by
  unfold Ov.trim
  have : W.under n (.ref n) = false := by
    show Nat.blt n n = false
    cases q : Nat.blt n n with
    | false => rfl
    | true => exact absurd (Nat.le_of_ble_eq_true q) (by omega)
  rw [this]; rfl
theorem max_nonneg (x : Int) : 0 ≤ (if x > 0 then x else 0 : Int) := by split <;> omega
theorem sl_ints (ns : List Int) (lo hi : Option Int) (y : Int) : ∃ x : Int, itemW (.lst (slice (ns.map W.int) lo hi ++ [.int y])) (.int 0) = some (.int x) := by
  have h : ∀ w ∈ slice (ns.map W.int) lo hi, ∃ x, w = .int x := fun w hw => by
    unfold slice at hw
    obtain ⟨x, _, rfl⟩ := List.mem_map.mp (List.mem_of_mem_take (List.mem_of_mem_drop hw))
    exact ⟨x, rfl⟩
  cases e : slice (ns.map W.int) lo hi with
  | nil => exact ⟨y, item_lst (n := 0) rfl⟩
  | cons w r =>
    rw [e] at h
    obtain ⟨x, rfl⟩ := h w (List.mem_cons_self ..)
    exact ⟨x, item_lst (n := 0) rfl⟩
theorem call_feed {k i : Nat} {ns : List Int} {h : Hw} (hn : ns.length < 1000) : ∃ h', callF fns (k + 1) 1 [.scr (ns.map .int), .int (i : Nat)] h = .ok (.ref h.length) h' ∧ Fd h.length h' := by
  have c0 : ∀ x : Int, binop .mul (.int 71) (.int x) = some (.int (71 * x)) := fun x => by
    have : Nat.blt (bits 71) 63 = true := by decide +kernel
    simp [binop, this]
  have c1 : ∀ x : Int, binop .mul (.int x) (.int 7919) = some (.int (x * 7919)) := fun x => by
    have : Nat.blt (bits 7919) 63 = true := by decide +kernel
    simp [binop, this]
  have c2 : ∀ x : Int, binop .mul (.int 31) (.int x) = some (.int (31 * x)) := fun x => by
    have : Nat.blt (bits 31) 63 = true := by decide +kernel
    simp [binop, this]
  have c3 : binop .pow (.int 10) (.int 18) = some (.int 1000000000000000000) := rfl
  obtain ⟨x, hx⟩ := sl_ints ns (some (i : Int)) (some ((i : Int) + 1)) (71 * i + 23)
  have ls : (slice (ns.map W.int) (some (i : Int)) (some ((i : Int) + 1))).length ≤ ns.length := by
    unfold slice
    rw [List.length_drop]
    have := List.length_take_le' (clip ((i : Int) + 1) (ns.map W.int).length) (ns.map W.int)
    rw [List.length_map] at this
    simp only [List.length_map] at this ⊢
    omega
  have st : sAsg (tName 2) (xIdx (xBin .add (xF (gListK false) (xsCons (xSlc false (xVar 0) (oSome (xVar 1)) (oSome (xBin .add (xVar 1) (xCon (.int 1))))) (xsNil))) (xLst false (xsCons (xBin .add (xBin .mul (xCon (.int 71)) (xVar 1)) (xCon (.int 23))) (xsNil)))) (xCon (.int 0))) (callF fns k) [some (.scr (ns.map .int)), some (.int (i : Nat)), none, none] h = .ok (.nx [some (.scr (ns.map .int)), some (.int (i : Nat)), some (.int x), none]) h := by
    have lk : ∀ h xs, look h (.scr xs) = .scr xs := fun _ _ => rfl
    have gl : ∀ xs, gListK false [.lst xs] h = .ok (.lst xs) h := fun _ => rfl
    simp (disch := first | (simp; done) | (simp; omega) | omega) [gn_name, lk, sliceW, b_add, c0, gl, made, most, add_lst, hx]
  have st2 : sAsg (tName 3) (xF gMax2 (xsCons (xCon (.int 0)) (xsCons (xBin .sub (xF gAbs (xsCons (xVar 2) (xsNil))) (xBin .pow (xCon (.int 10)) (xCon (.int 18)))) (xsNil)))) (callF fns k) [some (.scr (ns.map .int)), some (.int (i : Nat)), some (.int x), none] h =
      .ok (.nx [some (.scr (ns.map .int)), some (.int (i : Nat)), some (.int x), some (.int (if (if x < 0 then -x else x) - 1000000000000000000 > 0 then (if x < 0 then -x else x) - 1000000000000000000 else 0))]) h := by
    simp [gAbs, gMax2, b_sub, c3, gn_name]
  have st3 : (sRet (xLst true (xsCons (xVar 3) (xsCons (xBin .mod (xF gInt (xsCons (xBin .add (xBin .add (xBin .mul (xBin .mod (xF gInt (xsCons (xF gAbs (xsCons (xVar 2) (xsNil))) (xsNil))) (xCon (.int 1000003))) (xCon (.int 7919))) (xBin .mul (xCon (.int 31)) (xVar 1))) (xCon (.int 17))) (xsNil))) (xCon (.int 1000033))) (xsNil)))) : Sx) (callF fns k) [some (.scr (ns.map .int)), some (.int (i : Nat)), some (.int x), some (.int (if (if x < 0 then -x else x) - 1000000000000000000 > 0 then (if x < 0 then -x else x) - 1000000000000000000 else 0))] h =
      .ok (.ret (.ref h.length)) (h ++ [.lst [.int (if (if x < 0 then -x else x) - 1000000000000000000 > 0 then (if x < 0 then -x else x) - 1000000000000000000 else 0), .int (((if x < 0 then -x else x) % 1000003 * 7919 + 31 * i + 17) % 1000033)]]) := by
    simp [gAbs, gInt, b_add, b_mod, c1, c2, made, newCell, most]
  refine ⟨h ++ [.lst [.int (if (if x < 0 then -x else x) - 1000000000000000000 > 0 then (if x < 0 then -x else x) - 1000000000000000000 else 0), .int (((if x < 0 then -x else x) % 1000003 * 7919 + 31 * i + 17) % 1000033)]], ?_, ⟨_, _, List.getElem?_concat_length .., max_nonneg _, Int.emod_nonneg _ (by decide)⟩⟩
  show trimR h.length (b1 (callF fns k) [some (.scr (ns.map .int)), some (.int (i : Nat)), none, none] h).back = _
  unfold b1
  rw [s_seq st, s_seq st2, st3]
  show Ov.R.ok (W.ref h.length) (trim h.length (.ref h.length) _) = _
  rw [trim_ref]
end K10
namespace K10
open Ov
theorem range_len : ∀ (n : Nat) (i : Int), (rangeGo i n).length = n
  | 0, _ => rfl
  | n + 1, i => congrArg (· + 1) (range_len n (i + 1))
theorem walk_range {n : Nat} (h : n < 1000000) : walked .range [.int (n : Nat)] = some (rangeGo 0 n) := by
  show (if decide (-1000000 < (n : Int)) && decide ((n : Int) < 1000000) then some (rangeGo 0 (n : Int).toNat) else none) = _
  rw [decide_eq_true (by omega), decide_eq_true (by omega)]; rfl
theorem look_lst' {h : Hw} {m : Nat} {ws : List W} (e : h[m]? = some (.lst ws)) : look h (.ref m) = .lst ws := by
  unfold look
  simp only [e]
def NmW (w : W) : Prop := ∃ c, w = .str c ∧ Nm c
structure Nms (ws : List W) : Prop where
  n : ws ≠ []
  a : ∀ w ∈ ws, NmW w
  l : ws.length ≤ 8
def ltW : List W := lets.map fun c => .str [c]
abbrev wdB : Sx := sAsg (tName 4) (xBin .add (xVar 4) (xCall 4 (xsCons (xVar 0) (xsCons (xVar 1) (xsNil)))))
theorem word_go {k n : Nat} {x2 x3 : Option W} {chk : Hw → Bool} (hc : ∀ h, chk h = true) : ∀ (items : List W) (c : List Nat) (h : Hw) (a : Option W), Fd n h → (∀ x ∈ c, x ∈ lets) → c.length + items.length ≤ 8 →
    ∃ c' h' a', forGo chk (fun x σ h => (tName 5 (callF fns (k + 2)) x σ h).calm.st σ fun σ1 h3 => wdB (callF fns (k + 2)) σ1 h3) items [some (.ref n), some (.lst ltW), x2, x3, some (.str c), a] h = .ok (.nx [some (.ref n), some (.lst ltW), x2, x3, some (.str c'), a']) h' ∧ c'.length = c.length + items.length ∧ (∀ x ∈ c', x ∈ lets) ∧ Aft n h h' := by
  intro items
  induction items with
  | nil => intro c h a f hl _; exact ⟨c, h, a, for_nil (hc _), rfl, hl, Aft.refl f⟩
  | cons x r ih =>
    intro c h a f hl hk
    simp only [List.length_cons] at hk
    obtain ⟨w, h1, hw, q, af⟩ := pick_fd (k := k) (cs := ltW) f (by unfold ltW lets; simp) (by unfold ltW lets; simp)
    obtain ⟨y, hy, rfl⟩ := List.mem_map.mp hw
    obtain ⟨c', h', a', e, l, al, af2⟩ := ih (c ++ [y]) h1 (some x) af.f (fun z hz => by
      rcases List.mem_append.mp hz with hz | hz
      · exact hl z hz
      · rw [List.mem_singleton.mp hz]; exact hy) (by simp; omega)
    refine ⟨c', h', a', (for_cons (σ1 := [some (.ref n), some (.lst ltW), x2, x3, some (.str (c ++ [y])), some x]) (h1 := h1) (hc _) ?_).trans e, by rw [l]; simp; omega, al, af.trans af2⟩
    show wdB (callF fns (k + 2)) [some (.ref n), some (.lst ltW), x2, x3, some (.str c), some x] h = _
    have ad := add_str (s := c) (t := [y]) (by simp; omega)
    simp [wdB, gn_name, q, ad]
abbrev nmB : Sx := sSeq (sAsg (tName 4) (xCon (.str []))) (sSeq (sFor (tName 5) .range (xsCons (xBin .add (xCon (.int 1)) (xCall 3 (xsCons (xVar 0) (xsCons (xCon (.int 8)) (xsNil))))) (xsNil)) wdB) (sEx (xM .list mAppend (xVar 2) (xsCons (xVar 4) (xsNil)))))
theorem names_turn {k n m : Nat} {h : Hw} {ws : List W} {x a b : Option W} (f : Fd n h) (hm : h[m]? = some (.lst ws)) (nm : m ≠ n) (hl : ws.length < 100) :
    ∃ (c : List Nat) (h' : Hw) (b' : Option W), nmB (callF fns (k + 2)) [some (.ref n), some (.lst ltW), some (.ref m), x, a, b] h = .ok (.nx [some (.ref n), some (.lst ltW), some (.ref m), x, some (.str c), b']) h' ∧ Nm c ∧ Fd n h' ∧ h'[m]? = some (.lst (ws ++ [.str c])) ∧ h'.length = h.length ∧ ∀ j, j ≠ n → j ≠ m → h'[j]? = h[j]? := by
  have s1 : sAsg (tName 4) (xCon (.str [])) (callF fns (k + 2)) [some (.ref n), some (.lst ltW), some (.ref m), x, a, b] h = .ok (.nx [some (.ref n), some (.lst ltW), some (.ref m), x, some (.str []), b]) h := by
    simp [gn_name]
  obtain ⟨r, h1, q, r1, af⟩ := take_fd (k := k + 1) (s := 8) f (by decide) (by decide)
  have es : (xsCons (xBin .add (xCon (.int 1)) (xCall 3 (xsCons (xVar 0) (xsCons (xCon (.int 8)) (xsNil))))) (xsNil)) (callF fns (k + 2)) [some (.ref n), some (.lst ltW), some (.ref m), x, some (.str []), b] h = .ok [.int ((1 + r : Nat) : Int)] h1 := by
    simp [q, b_add]
  have sr := src_of (k := .range) es (show walked .range ([W.int ((1 + r : Nat) : Int)].map (lookS h1)) = some (rangeGo 0 (1 + r)) from walk_range (by omega)) (Nat.ble_eq_true_of_le (by rw [range_len]; unfold most; omega))
  obtain ⟨c, h2, b', e, lc, al, af2⟩ := word_go (k := k) (n := n) (x2 := some (.ref m)) (x3 := x) (chk := fun h' => stands h1 h' [.int ((1 + r : Nat) : Int)]) (fun _ => rfl) (rangeGo 0 (1 + r)) [] h1 b af.f (fun _ hx => by cases hx) (by rw [range_len]; simp; omega)
  have s2 := (s_for (t := tName 5) (b := wdB) sr).trans e
  have g2 : h2[m]? = some (.lst ws) := by rw [(af.trans af2).o m nm]; exact hm
  have s3 : sEx (xM .list mAppend (xVar 2) (xsCons (xVar 4) (xsNil))) (callF fns (k + 2)) [some (.ref n), some (.lst ltW), some (.ref m), x, some (.str c), b'] h2 = .ok (.nx [some (.ref n), some (.lst ltW), some (.ref m), x, some (.str c), b']) (h2.set m (.lst (ws ++ [.str c]))) := by
    have ap := app_ok (w := .str c) g2 (by omega)
    have lk := look_lst' g2
    simp [lk, isKd, ap]
  have lm : m < h2.length := (List.getElem?_eq_some_iff.mp g2).1
  rw [range_len] at lc
  obtain ⟨d, e', fq, d0, e0⟩ := af2.f
  refine ⟨c, _, b', ?_, ⟨by rw [lc, List.length_nil]; omega, by rw [lc, List.length_nil]; omega, al⟩, ⟨d, e', by rw [List.getElem?_set_ne nm]; exact fq, d0, e0⟩, List.getElem?_set_self lm, by rw [List.length_set, af2.l, af.l], fun j jn jm => by rw [List.getElem?_set_ne (fun e => jm e.symm)]; exact (af.trans af2).o j jn⟩
  unfold nmB
  rw [s_seq s1, s_seq s2, s3]
theorem names_go {k n m : Nat} (nm : m ≠ n) {chk : Hw → Bool} (hc : ∀ h, chk h = true) : ∀ (items : List W) (ws : List W) (h : Hw) (x a b : Option W), Fd n h → h[m]? = some (.lst ws) → (∀ w ∈ ws, NmW w) → ws.length + items.length ≤ 8 →
    ∃ ws' h' x' a' b', forGo chk (fun x σ h => (tName 3 (callF fns (k + 2)) x σ h).calm.st σ fun σ1 h3 => nmB (callF fns (k + 2)) σ1 h3) items [some (.ref n), some (.lst ltW), some (.ref m), x, a, b] h = .ok (.nx [some (.ref n), some (.lst ltW), some (.ref m), x', a', b']) h' ∧ ws'.length = ws.length + items.length ∧ (∀ w ∈ ws', NmW w) ∧ Fd n h' ∧ h'[m]? = some (.lst ws') ∧ ∀ j, j ≠ n → j ≠ m → h'[j]? = h[j]? := by
  intro items
  induction items with
  | nil => intro ws h x a b f hm al _; exact ⟨ws, h, x, a, b, for_nil (hc _), rfl, al, f, hm, fun _ _ _ => rfl⟩
  | cons y r ih =>
    intro ws h x a b f hm al hl
    simp only [List.length_cons] at hl
    obtain ⟨c, h1, b1, q, nc, f1, hm1, _, kp1⟩ := names_turn (k := k) (x := some y) (a := a) (b := b) f hm nm (by omega)
    obtain ⟨ws', h', x', a', b', e, l, al', f', hm', kp2⟩ := ih (ws ++ [.str c]) h1 (some y) (some (.str c)) b1 f1 hm1 (fun w hw => by
      rcases List.mem_append.mp hw with hw | hw
      · exact al w hw
      · rw [List.mem_singleton.mp hw]; exact ⟨c, rfl, nc⟩) (by simp; omega)
    exact ⟨ws', h', x', a', b', (for_cons (hc _) q).trans e, by rw [l]; simp; omega, al', f', hm', fun j jn jm => (kp2 j jn jm).trans (kp1 j jn jm)⟩
def five : List W := [.str [101, 110, 100], .str [114, 101, 97, 100], .str [119, 114, 105, 116, 101], .str [120], .str [97, 98, 99, 100, 101, 102, 103, 104]]
theorem five_ok : ∀ w ∈ five, NmW w := by
  intro w hw
  unfold five at hw
  simp only [List.mem_cons, List.not_mem_nil, or_false] at hw
  rcases hw with rfl | rfl | rfl | rfl | rfl <;> exact ⟨_, rfl, by decide, by decide, by decide⟩
theorem call_names {k n : Nat} {h : Hw} (f : Fd n h) : ∃ ws h', callF fns (k + 3) 5 [.ref n] h = .ok (.lst ws) h' ∧ Nms ws ∧ Fd n h' ∧ ∀ j, j ≠ n → j < h.length → h'[j]? = h[j]? := by
  have hn := f.lt
  have s1 : sPar 1 2 (xsCons (xF (gListK false) (xsCons (xCon (.str [97, 98, 99, 100, 101, 102, 103, 104, 105, 106, 107, 108, 109, 110, 111, 112, 113, 114, 115, 116, 117, 118, 119, 120, 121, 122])) (xsNil))) (xsCons (xLst true (xsCons (xCon (.str [101, 110, 100])) (xsCons (xCon (.str [114, 101, 97, 100])) (xsCons (xCon (.str [119, 114, 105, 116, 101])) (xsCons (xCon (.str [120])) (xsCons (xCon (.str [97, 98, 99, 100, 101, 102, 103, 104])) (xsNil))))))) (xsNil))) (callF fns (k + 2)) [some (.ref n), none, none, none, none, none] h = .ok (.nx [some (.ref n), some (.lst ltW), some (.ref h.length), none, none, none]) (h ++ [.lst five]) := rfl
  have f0 : Fd n (h ++ [.lst five]) := by
    obtain ⟨d, e, q, p⟩ := f
    exact ⟨d, e, by rw [List.getElem?_append_left hn]; exact q, p⟩
  obtain ⟨ws, h1, x, a, b, q, lw, al, f1, hm1, kp⟩ := names_go (k := k) (n := n) (m := h.length) (by omega) (chk := fun h' => stands (h ++ [.lst five]) h' [.int 3]) (fun _ => rfl) (rangeGo 0 3) five (h ++ [.lst five]) none none none f0 (List.getElem?_concat_length ..) five_ok (by rw [range_len]; decide)
  have sr : src .range (xsCons (xCon (.int 3)) (xsNil)) (callF fns (k + 2)) [some (.ref n), some (.lst ltW), some (.ref h.length), none, none, none] (h ++ [.lst five]) = .ok ([.int 3], rangeGo 0 3) (h ++ [.lst five]) := rfl
  have s2 := (s_for (t := tName 3) (b := nmB) sr).trans q
  obtain ⟨r, h2, q2, r1, af⟩ := take_fd (k := k + 1) (s := 5) f1 (by decide) (by decide)
  have lk := look_lst' ((af.o h.length (by omega)).trans hm1)
  have s3 : (sRet (xSlc false (xVar 2) (oSome (xCall 3 (xsCons (xVar 0) (xsCons (xCon (.int 5)) (xsNil))))) oNone) : Sx) (callF fns (k + 2)) [some (.ref n), some (.lst ltW), some (.ref h.length), x, a, b] h1 = .ok (.ret (.lst (ws.drop r))) h2 := by
    simp [q2, lk, sliceW, slice_from, made]
  rw [range_len] at lw
  have l5 : five.length = 5 := rfl
  refine ⟨ws.drop r, trim h.length (.lst (ws.drop r)) h2, ?_, ⟨?_, fun w hw => al w (List.mem_of_mem_drop hw), by rw [List.length_drop]; omega⟩, af.f.trim hn, fun j jn jl => by
    rw [trim_get jl, af.o j jn, kp j jn (by omega), List.getElem?_append_left jl]⟩
  · show trimR h.length (b5 (callF fns (k + 2)) [some (.ref n), none, none, none, none, none] h).back = _
    unfold b5
    rw [s_seq s1, s_seq s2, s3]; rfl
  · intro z
    have := congrArg List.length z
    rw [List.length_drop] at this
    simp at this
    omega
end K10
namespace K10
open Ov
def insN (y : Nat) : List Nat → List Nat
  | [] => [y]
  | a :: r => if y < a then y :: a :: r else a :: insN y r
theorem insN_mem {y z : Nat} : ∀ {t : List Nat}, z ∈ insN y t → z = y ∨ z ∈ t := by
  intro t
  induction t with
  | nil => intro h; exact .inl (List.mem_singleton.mp h)
  | cons a r ih =>
    intro h
    unfold insN at h
    split at h
    · rcases List.mem_cons.mp h with rfl | h
      · exact .inl rfl
      · exact .inr h
    · rcases List.mem_cons.mp h with rfl | h
      · exact .inr (List.mem_cons_self ..)
      · rcases ih h with rfl | h
        · exact .inl rfl
        · exact .inr (List.mem_cons_of_mem _ h)
theorem insN_len (y : Nat) : ∀ t : List Nat, (insN y t).length = t.length + 1
  | [] => rfl
  | a :: r => by
    unfold insN
    split
    · rfl
    · show (insN y r).length + 1 = _
      rw [insN_len y r]; rfl
theorem insN_asc {y : Nat} : ∀ {t : List Nat}, t.Pairwise (· < ·) → y ∉ t → (insN y t).Pairwise (· < ·) := by
  intro t
  induction t with
  | nil => intro _ _; simp [insN]
  | cons a r ih =>
    intro h hy
    obtain ⟨h1, h2⟩ := List.pairwise_cons.mp h
    unfold insN
    split
    · rename_i g
      refine List.pairwise_cons.mpr ⟨fun z hz => ?_, h⟩
      rcases List.mem_cons.mp hz with rfl | hz
      · exact g
      · have := h1 z hz; omega
    · rename_i g
      have ne : y ≠ a := fun e => hy (by rw [e]; exact List.mem_cons_self ..)
      refine List.pairwise_cons.mpr ⟨fun z hz => ?_, ih h2 fun m => hy (List.mem_cons_of_mem _ m)⟩
      rcases insN_mem hz with rfl | hz
      · omega
      · exact h1 z hz
theorem ins_first {a : Nat} : ∀ {l : List Nat}, (∀ z ∈ l, a < z) → insBy (fun x y => !W.lt y x) (.int (a : Int)) (inw l) = .int (a : Int) :: inw l
  | [], _ => rfl
  | b :: r, h => by
    show (if (!decide ((b : Int) < (a : Int))) = true then _ else _) = _
    rw [decide_eq_false (by have := h b (List.mem_cons_self ..); omega)]; rfl
theorem sort_ins {y : Nat} : ∀ {t : List Nat}, t.Pairwise (· < ·) → y ∉ t → sortW (inw t ++ [.int (y : Int)]) = inw (insN y t) := by
  intro t
  induction t with
  | nil => intro _ _; rfl
  | cons a r ih =>
    intro h hy
    obtain ⟨h1, h2⟩ := List.pairwise_cons.mp h
    have ih := ih h2 fun m => hy (List.mem_cons_of_mem _ m)
    have ne : y ≠ a := fun e => hy (by rw [e]; exact List.mem_cons_self ..)
    have e : sortW (inw (a :: r) ++ [.int (y : Int)]) = insBy (fun x y => !W.lt y x) (.int (a : Int)) (sortW (inw r ++ [.int (y : Int)])) := rfl
    rw [e, ih, show insN y (a :: r) = if y < a then y :: a :: r else a :: insN y r from rfl]
    split
    · rename_i g
      have er : insN y r = y :: r := by
        cases r with
        | nil => rfl
        | cons b r' =>
          rw [show insN y (b :: r') = if y < b then y :: b :: r' else b :: insN y r' from rfl, if_pos (by have := h1 b (List.mem_cons_self ..); omega)]
      rw [er]
      show (if (!decide ((y : Int) < (a : Int))) = true then _ else W.int (y : Int) :: insBy (fun x y => !W.lt y x) (.int (a : Int)) (inw r)) = _
      rw [decide_eq_true (by omega), ins_first h1]; rfl
    · rename_i g
      exact ins_first fun z hz => by
        rcases insN_mem hz with rfl | hz
        · omega
        · exact h1 z hz
theorem asc_csn : ∀ {t : List Nat}, t.Pairwise (· < ·) → ∀ p ∈ csn t, p.1 < p.2
  | [], _, _, h => by cases h
  | [_], _, _, h => by cases h
  | a :: b :: r, hp, p, h => by
    obtain ⟨h1, h2⟩ := List.pairwise_cons.mp hp
    rcases List.mem_cons.mp h with rfl | h
    · exact h1 b (List.mem_cons_self ..)
    · exact asc_csn h2 p h
theorem notin_ints (y : Nat) (t : List Nat) (H : Hw) : cmpW .notin (.int (y : Int)) (.lst (inw t)) H = .ok (.bl (decide (y ∉ t))) H := by
  have fl : (inw t).all W.flat = true := by unfold inw; rw [List.all_map, List.all_eq_true]; intro _ _; rfl
  have an : ((inw t).any fun x => W.eq x (.int (y : Int))) = decide (y ∈ t) := by
    unfold inw
    rw [List.any_map, Bool.eq_iff_iff, List.any_eq_true]
    simp only [Function.comp, decide_eq_true_eq]
    constructor
    · rintro ⟨x, hx, e⟩
      have e : decide ((x : Int) = (y : Int)) = true := e
      have : x = y := by have := of_decide_eq_true e; omega
      rw [← this]; exact hx
    · intro h
      exact ⟨y, h, decide_eq_true rfl⟩
  show R.of H (cmpop .notin (whole H (.int (y : Int))) (whole H (.lst (inw t)))) = _
  rw [whole_free H (show W.under 0 (.int (y : Int)) = true from rfl), whole_free H (show W.under 0 (.lst (inw t)) = true from flats_under _ fl)]
  show R.of H (if inOk (.int (y : Int)) (inw t) then some (W.bl (!(inw t).any fun x => W.eq x (.int (y : Int)))) else none) = _
  rw [if_pos (by unfold inOk; rw [fl]; rfl), an, ← decide_not]; rfl
section
variable {k n : Nat} {σ0 : List (Option W)}
theorem tg_go {x1 x2 x3 x4 x5 x6 x7 x8 : Option W} {chk : Hw → Bool} (hc : ∀ h, chk h = true) : ∀ (cnt i : Nat) (h : Hw), Fd n h →
    ∃ (t : List Nat) (h' : Hw), compGo chk (turn [8] (tName 8) (ifCons (xCmp .eq (xCall 3 (xsCons (xVar 0) (xsCons (xCon (.int 4)) (xsNil)))) (xCon (.int 0))) ifNil) (xVar 8) (callF fns (k + 2)) [some (.ref n), x1, x2, x3, x4, x5, x6, x7, x8]) (rangeGo i cnt) h = .ok (inw t) h' ∧ t.Pairwise (· < ·) ∧ (∀ x ∈ t, i ≤ x ∧ x < i + cnt) ∧ t.length ≤ cnt ∧ Aft n h h' := by
  intro cnt
  induction cnt with
  | zero =>
    intro i h f
    refine ⟨[], h, ?_, List.Pairwise.nil, (fun _ h => by cases h), Nat.le_refl _, Aft.refl f⟩
    unfold compGo rangeGo
    simp only [hc]; rfl
  | succ cnt ih =>
    intro i h f
    obtain ⟨r, h1, q, r1, af⟩ := take_fd (k := k + 1) (s := 4) f (by decide) (by decide)
    obtain ⟨t, h2, e, ap, al, ll, af2⟩ := ih (i + 1) h1 af.f
    have cond : xCmp .eq (xCall 3 (xsCons (xVar 0) (xsCons (xCon (.int 4)) (xsNil)))) (xCon (.int 0)) (callF fns (k + 2)) [some (.ref n), x1, x2, x3, x4, x5, x6, x7, some (.int (i : Int))] h = .ok (.bl (decide ((r : Int) = 0))) h1 := by
      simp only [v_cmp, v_call, v_cons, v_var0, v_con, v_nil, r_bind, q, eq_int]
    have num : rangeGo (i : Int) (cnt + 1) = .int (i : Int) :: rangeGo ((i + 1 : Nat) : Int) cnt := by
      show W.int (i : Int) :: rangeGo ((i : Int) + 1) cnt = _
      rw [show ((i + 1 : Nat) : Int) = (i : Int) + 1 by omega]
    by_cases z : r = 0
    · rw [decide_eq_true (by omega)] at cond
      have ty := turn_yes (own := [8]) (t := tName 8) (e := xVar 8) (σ := [some (.ref n), x1, x2, x3, x4, x5, x6, x7, x8]) (x := .int (i : Int)) (h := h) (σ1 := [some (.ref n), x1, x2, x3, x4, x5, x6, x7, some (.int (i : Int))]) rfl (ifs_yes (r := ifNil) cond rfl) (y := .int (i : Int)) rfl
      refine ⟨i :: t, h2, ?_, List.pairwise_cons.mpr ⟨fun z hz => by have := al z hz; omega, ap⟩, fun z hz => ?_, Nat.succ_le_succ ll, af.trans af2⟩
      · rw [num]
        unfold compGo
        simp only [hc, ty, r_bind, e]; rfl
      · rcases List.mem_cons.mp hz with rfl | hz
        · omega
        · have := al z hz; omega
    · rw [decide_eq_false (by omega)] at cond
      have tn := turn_no (own := [8]) (t := tName 8) (e := xVar 8) (σ := [some (.ref n), x1, x2, x3, x4, x5, x6, x7, x8]) (x := .int (i : Int)) (h := h) (σ1 := [some (.ref n), x1, x2, x3, x4, x5, x6, x7, some (.int (i : Int))]) rfl (ifs_no (r := ifNil) cond)
      refine ⟨t, h2, ?_, ap, fun z hz => by have := al z hz; omega, Nat.le_succ_of_le ll, af.trans af2⟩
      rw [num]
      unfold compGo
      simp only [hc, tn, r_bind, e]
end
end K10
namespace K10
open Ov
theorem form_ints : ∀ (l : List Nat) (i : Int), ∃ j : Int, (inw l).foldl W.form (.int i) = .int j
  | [], i => ⟨i, rfl⟩
  | x :: r, i => form_ints r i
theorem sort_can (l : List Nat) : canSort (inw l) = true := by
  have a1 : (inw l).all (W.lay 40) = true := by unfold inw; rw [List.all_map, List.all_eq_true]; intro _ _; rfl
  have a2 : (inw l).all notTup = true := by unfold inw; rw [List.all_map, List.all_eq_true]; intro _ _; rfl
  have a3 : oneForm (inw l) = true := by
    unfold oneForm
    have : formOf (inw l) = .non ∧ l = [] ∨ ∃ j, formOf (inw l) = .int j := by
      cases l with
      | nil => exact .inl ⟨rfl, rfl⟩
      | cons x r => exact .inr (form_ints r x)
    rcases this with ⟨_, rfl⟩ | ⟨j, e⟩
    · rfl
    · rw [e]
      unfold inw
      rw [List.all_map, List.all_eq_true]
      intro _ _; rfl
  unfold canSort
  rw [a1, a2, a3, Bool.or_true]; rfl
theorem inw_app (t : List Nat) (y : Nat) : inw t ++ [.int (y : Int)] = inw (t ++ [y]) := by unfold inw; rw [List.map_append]; rfl
theorem inw_len (t : List Nat) : (inw t).length = t.length := List.length_map ..
theorem g_sort {t : List Nat} {y : Nat} {h : Hw} (p : t.Pairwise (· < ·)) (hy : y ∉ t) (l : t.length < 1000) : gSort [.lst (inw t ++ [.int (y : Int)])] h = .ok (.lst (inw (insN y t))) h := by
  show (if canSort (inw t ++ [W.int (y : Int)]) && Nat.blt (inw t ++ [W.int (y : Int)]).length most then Ov.R.ok (W.lst (sortW (inw t ++ [W.int (y : Int)]))) h else .no) = _
  rw [sort_ins p hy, inw_app, sort_can, show Nat.blt (inw (t ++ [y])).length most = true from Nat.ble_eq_true_of_le (by rw [inw_len]; simp; unfold most; omega)]; rfl
theorem tgW_true (t : List Nat) : tgW t true = inw t ++ [.non] := rfl
theorem tgW_false (t : List Nat) : tgW t false = inw t := by unfold tgW; rw [if_neg (by decide), List.append_nil]
section
variable {k n m many i : Nat} {cs : List W}
def sl9 (n m many : Nat) (cs : List W) (a5 a6 a7 a8 : Option W) : Sw := [some (.ref n), some (.lst cs), some (.int 8), some (.int (many : Int)), some (.ref m), a5, a6, a7, a8]
theorem nd_s2 {t : List Nat} {h : Hw} {a7 a8 : Option W} (f : Fd n h) (hp : t.Pairwise (· < ·)) (ht : ∀ x ∈ t, x < many) (hl : t.length ≤ 8) (hm : many ≤ 8) :
    ∃ (t' : List Nat) (h' : Hw), sIf (xAnd (xCmp .eq (xCall 3 (xsCons (xVar 0) (xsCons (xCon (.int 2)) (xsNil)))) (xCon (.int 0))) (xAnd (xCmp .lt (xBin .add (xVar 5) (xCon (.int 1))) (xVar 3)) (xCmp .notin (xBin .add (xVar 5) (xCon (.int 1))) (xVar 6)))) (sAsg (tName 6) (xF gSort (xsCons (xBin .add (xVar 6) (xLst false (xsCons (xBin .add (xVar 5) (xCon (.int 1))) (xsNil)))) (xsNil)))) (sPass) (callF fns (k + 2)) (sl9 n m many cs (some (.int (i : Int))) (some (.lst (inw t))) a7 a8) h = .ok (.nx (sl9 n m many cs (some (.int (i : Int))) (some (.lst (inw t'))) a7 a8)) h' ∧ t'.Pairwise (· < ·) ∧ (∀ x ∈ t', x < many) ∧ t'.length ≤ 9 ∧ Aft n h h' := by
  obtain ⟨r, h1, q, r1, af⟩ := take_fd (k := k + 1) (s := 2) f (by decide) (by decide)
  have c1 : xCmp .eq (xCall 3 (xsCons (xVar 0) (xsCons (xCon (.int 2)) (xsNil)))) (xCon (.int 0)) (callF fns (k + 2)) (sl9 n m many cs (some (.int (i : Int))) (some (.lst (inw t))) a7 a8) h = .ok (.bl (decide ((r : Int) = 0))) h1 := by
    unfold sl9
    simp only [v_cmp, v_call, v_cons, v_var0, v_con, v_nil, r_bind, q, eq_int]
  have c2 : xCmp .lt (xBin .add (xVar 5) (xCon (.int 1))) (xVar 3) (callF fns (k + 2)) (sl9 n m many cs (some (.int (i : Int))) (some (.lst (inw t))) a7 a8) h1 = .ok (.bl (decide ((i : Int) + 1 < (many : Int)))) h1 := rfl
  have c3 : xCmp .notin (xBin .add (xVar 5) (xCon (.int 1))) (xVar 6) (callF fns (k + 2)) (sl9 n m many cs (some (.int (i : Int))) (some (.lst (inw t))) a7 a8) h1 = .ok (.bl (decide (i + 1 ∉ t))) h1 := by
    have := notin_ints (i + 1) t h1
    rw [show ((i + 1 : Nat) : Int) = (i : Int) + 1 by omega] at this
    exact this
  by_cases z1 : r = 0
  · by_cases z2 : i + 1 < many
    · by_cases z3 : i + 1 ∈ t
      · refine ⟨t, h1, ?_, hp, ht, by omega, af⟩
        rw [st_if, v_and, c1, decide_eq_true (by omega), r_bind]
        show (xAnd _ _ _ _ _).st _ _ = _
        rw [v_and, c2, decide_eq_true (by omega), r_bind]
        show (xCmp .notin _ _ _ _ _).st _ _ = _
        rw [c3, decide_eq_false (by simpa using z3)]; rfl
      · refine ⟨insN (i + 1) t, h1, ?_, insN_asc hp z3, fun x hx => ?_, by rw [insN_len]; omega, af⟩
        · have ad := add_lst (s := inw t) (t := [.int ((i : Int) + 1)]) (by rw [inw_len]; simp; omega)
          have gs := g_sort (h := h1) hp z3 (by omega)
          rw [show ((i + 1 : Nat) : Int) = (i : Int) + 1 by omega] at gs
          rw [st_if, v_and, c1, decide_eq_true (by omega), r_bind]
          show (xAnd _ _ _ _ _).st _ _ = _
          rw [v_and, c2, decide_eq_true (by omega), r_bind]
          show (xCmp .notin _ _ _ _ _).st _ _ = _
          rw [c3, decide_eq_true z3, r_st]
          unfold sl9
          simp [gn_name, b_add, made, most, ad, gs]
        · rcases insN_mem hx with rfl | hx
          · exact z2
          · exact ht x hx
    · refine ⟨t, h1, ?_, hp, ht, by omega, af⟩
      rw [st_if, v_and, c1, decide_eq_true (by omega), r_bind]
      show (xAnd _ _ _ _ _).st _ _ = _
      rw [v_and, c2, decide_eq_false (by omega), r_bind]; rfl
  · refine ⟨t, h1, ?_, hp, ht, by omega, af⟩
    rw [st_if, v_and, c1, decide_eq_false (by omega), r_bind]; rfl
theorem nd_s3 {t : List Nat} {h : Hw} {a5 a7 a8 : Option W} (f : Fd n h) (hl : t.length ≤ 9) :
    ∃ (e : Bool) (h' : Hw), sIf (xOr (xIsE false (xVar 6)) (xCmp .eq (xCall 3 (xsCons (xVar 0) (xsCons (xCon (.int 4)) (xsNil)))) (xCon (.int 0)))) (sAsg (tName 6) (xBin .add (xVar 6) (xLst false (xsCons (xCon .non) (xsNil))))) (sPass) (callF fns (k + 2)) (sl9 n m many cs a5 (some (.lst (inw t))) a7 a8) h = .ok (.nx (sl9 n m many cs a5 (some (.lst (tgW t e))) a7 a8)) h' ∧ (t ≠ [] ∨ e = true) ∧ Aft n h h' := by
  have ad := add_lst (s := inw t) (t := [.non]) (by rw [inw_len]; simp; omega)
  have asg : ∀ h', sAsg (tName 6) (xBin .add (xVar 6) (xLst false (xsCons (xCon .non) (xsNil)))) (callF fns (k + 2)) (sl9 n m many cs a5 (some (.lst (inw t))) a7 a8) h' = .ok (.nx (sl9 n m many cs a5 (some (.lst (tgW t true))) a7 a8)) h' := fun h' => by
    unfold sl9
    simp [gn_name, made, most, ad, tgW_true]
  by_cases z : t = []
  · subst z
    exact ⟨true, h, asg h, .inr rfl, Aft.refl f⟩
  · obtain ⟨r, h1, q, r1, af⟩ := take_fd (k := k + 1) (s := 4) f (by decide) (by decide)
    have c0 : xIsE false (xVar 6) (callF fns (k + 2)) (sl9 n m many cs a5 (some (.lst (inw t))) a7 a8) h = .ok (.bl false) h := by
      show Ov.R.ok (W.bl (inw t).isEmpty) h = _
      cases t with
      | nil => exact absurd rfl z
      | cons _ _ => rfl
    have c1 : xCmp .eq (xCall 3 (xsCons (xVar 0) (xsCons (xCon (.int 4)) (xsNil)))) (xCon (.int 0)) (callF fns (k + 2)) (sl9 n m many cs a5 (some (.lst (inw t))) a7 a8) h = .ok (.bl (decide ((r : Int) = 0))) h1 := by
      unfold sl9
      simp only [v_cmp, v_call, v_cons, v_var0, v_con, v_nil, r_bind, q, eq_int]
    by_cases z1 : r = 0
    · refine ⟨true, h1, ?_, .inr rfl, af⟩
      rw [st_if, v_or, c0, r_bind]
      show (xCmp .eq _ _ _ _ _).st _ _ = _
      rw [c1, decide_eq_true (by omega), r_st]
      exact asg h1
    · refine ⟨false, h1, ?_, .inl z, af⟩
      rw [st_if, v_or, c0, r_bind]
      show (xCmp .eq _ _ _ _ _).st _ _ = _
      rw [c1, decide_eq_false (by omega), tgW_false]; rfl
abbrev ndS1 : Sx := sAsg (tName 6) (xComp false [8] (tName 8) .range (xsCons (xVar 3) (xsNil)) (ifCons (xCmp .eq (xCall 3 (xsCons (xVar 0) (xsCons (xCon (.int 4)) (xsNil)))) (xCon (.int 0))) ifNil) (xVar 8))
abbrev ndB : Sx := sSeq ndS1 (sSeq (sIf (xAnd (xCmp .eq (xCall 3 (xsCons (xVar 0) (xsCons (xCon (.int 2)) (xsNil)))) (xCon (.int 0))) (xAnd (xCmp .lt (xBin .add (xVar 5) (xCon (.int 1))) (xVar 3)) (xCmp .notin (xBin .add (xVar 5) (xCon (.int 1))) (xVar 6)))) (sAsg (tName 6) (xF gSort (xsCons (xBin .add (xVar 6) (xLst false (xsCons (xBin .add (xVar 5) (xCon (.int 1))) (xsNil)))) (xsNil)))) (sPass)) (sSeq (sIf (xOr (xIsE false (xVar 6)) (xCmp .eq (xCall 3 (xsCons (xVar 0) (xsCons (xCon (.int 4)) (xsNil)))) (xCon (.int 0)))) (sAsg (tName 6) (xBin .add (xVar 6) (xLst false (xsCons (xCon .non) (xsNil))))) (sPass)) (sSeq (sAsg (tName 7) (xCall 4 (xsCons (xVar 0) (xsCons (xLst false (xsCons (xCon (.str [114, 101, 97, 100])) (xsCons (xCon (.str [119, 114, 105, 116, 101])) (xsCons (xCon (.str [119, 114, 105, 116, 101])) (xsNil))))) (xsNil))))) (sEx (xM .list mAppend (xVar 4) (xsCons (xTup (xsCons (xVar 7) (xsCons (xCall 4 (xsCons (xVar 0) (xsCons (xF (gListK false) (xsCons (xVar 1) (xsNil))) (xsNil)))) (xsCons (xF gTuple (xsCons (xVar 6) (xsNil))) (xsNil))))) (xsNil)))))))
theorem node_turn {h : Hw} {acc : List W} {a6 a7 a8 : Option W} (N : Nms cs) (f : Fd n h) (hm : h[m]? = some (.lst acc)) (nm : m ≠ n) (hl : acc.length < 100) (h8 : many ≤ 8) :
    ∃ (nd : Nd) (h' : Hw) (b2 b8 b9 : Option W), ndB (callF fns (k + 2)) (sl9 n m many cs (some (.int (i : Int))) a6 a7 a8) h = .ok (.nx (sl9 n m many cs (some (.int (i : Int))) b2 b8 b9)) h' ∧ Rok many true nd ∧ Fd n h' ∧ h'[m]? = some (.lst (acc ++ [ndW nd])) ∧ ∀ j, j ≠ n → j ≠ m → h'[j]? = h[j]? := by
  obtain ⟨t, h1, q1, p1, t1, l1, af1⟩ := tg_go (k := k) (x1 := some (.lst cs)) (x2 := some (.int 8)) (x3 := some (.int (many : Int))) (x4 := some (.ref m)) (x5 := some (.int (i : Int))) (x6 := a6) (x7 := a7) (x8 := a8) (chk := fun h' => stands h h' [.int (many : Int)]) (fun _ => rfl) many 0 h f
  have s1 : ndS1 (callF fns (k + 2)) (sl9 n m many cs (some (.int (i : Int))) a6 a7 a8) h = .ok (.nx (sl9 n m many cs (some (.int (i : Int))) (some (.lst (inw t))) a7 a8)) h1 := by
    have sr : src .range (xsCons (xVar 3) (xsNil)) (callF fns (k + 2)) (sl9 n m many cs (some (.int (i : Int))) a6 a7 a8) h = .ok ([.int (many : Int)], rangeGo 0 many) h := src_free rfl (walk_range (by omega)) (by rw [range_len]; omega)
    have c : xComp false [8] (tName 8) .range (xsCons (xVar 3) (xsNil)) (ifCons (xCmp .eq (xCall 3 (xsCons (xVar 0) (xsCons (xCon (.int 4)) (xsNil)))) (xCon (.int 0))) ifNil) (xVar 8) (callF fns (k + 2)) (sl9 n m many cs (some (.int (i : Int))) a6 a7 a8) h = .ok (.lst (inw t)) h1 := by
      unfold xComp
      rw [sr, r_bind]
      have q1 : compGo (fun h' => stands h h' [.int (many : Int)]) (turn [8] (tName 8) (ifCons (xCmp .eq (xCall 3 (xsCons (xVar 0) (xsCons (xCon (.int 4)) (xsNil)))) (xCon (.int 0))) ifNil) (xVar 8) (callF fns (k + 2)) (sl9 n m many cs (some (.int (i : Int))) a6 a7 a8)) (rangeGo 0 many) h = .ok (inw t) h1 := q1
      show (compGo _ _ _ _).bind _ = _
      rw [q1]; rfl
    unfold ndS1
    rw [st_asg, c]; rfl
  obtain ⟨t', h2, s2, p2, t2, l2, af2⟩ := nd_s2 (k := k) (i := i) (m := m) (cs := cs) (many := many) (a7 := a7) (a8 := a8) af1.f p1 (fun x hx => by have := t1 x hx; omega) (by omega) h8
  obtain ⟨e, h3, s3, ne, af3⟩ := nd_s3 (k := k) (m := m) (cs := cs) (many := many) (a5 := some (.int (i : Int))) (a7 := a7) (a8 := a8) af2.f l2
  obtain ⟨w, h4, hw, q4, af4⟩ := pick_fd (k := k) (cs := [.str [114, 101, 97, 100], .str [119, 114, 105, 116, 101], .str [119, 114, 105, 116, 101]]) af3.f (by simp) (by simp)
  obtain ⟨b, rfl⟩ : ∃ b, w = .str (wd b) := by
    simp only [List.mem_cons, List.not_mem_nil, or_false] at hw
    rcases hw with rfl | rfl | rfl
    · exact ⟨true, rfl⟩
    · exact ⟨false, rfl⟩
    · exact ⟨false, rfl⟩
  obtain ⟨c, h5, hc, q5, af5⟩ := pick_fd (k := k) (cs := cs) af4.f N.n (by have := N.l; omega)
  obtain ⟨cc, rfl, hcc⟩ := N.a c hc
  have s4 : sAsg (tName 7) (xCall 4 (xsCons (xVar 0) (xsCons (xLst false (xsCons (xCon (.str [114, 101, 97, 100])) (xsCons (xCon (.str [119, 114, 105, 116, 101])) (xsCons (xCon (.str [119, 114, 105, 116, 101])) (xsNil))))) (xsNil)))) (callF fns (k + 2)) (sl9 n m many cs (some (.int (i : Int))) (some (.lst (tgW t' e))) a7 a8) h3 = .ok (.nx (sl9 n m many cs (some (.int (i : Int))) (some (.lst (tgW t' e))) (some (.str (wd b))) a8)) h4 := by
    unfold sl9
    simp [gn_name, made, most, q4]
  have g3 : h4[m]? = some (.lst acc) := by rw [((af1.trans af2).trans (af3.trans af4)).o m nm]; exact hm
  have g4 : h5[m]? = some (.lst acc) := by rw [af5.o m nm]; exact g3
  have s5 : sEx (xM .list mAppend (xVar 4) (xsCons (xTup (xsCons (xVar 7) (xsCons (xCall 4 (xsCons (xVar 0) (xsCons (xF (gListK false) (xsCons (xVar 1) (xsNil))) (xsNil)))) (xsCons (xF gTuple (xsCons (xVar 6) (xsNil))) (xsNil))))) (xsNil))) (callF fns (k + 2)) (sl9 n m many cs (some (.int (i : Int))) (some (.lst (tgW t' e))) (some (.str (wd b))) a8) h4 = .ok (.nx (sl9 n m many cs (some (.int (i : Int))) (some (.lst (tgW t' e))) (some (.str (wd b))) a8)) (h5.set m (.lst (acc ++ [ndW ⟨b, cc, t', e⟩]))) := by
    have ap := app_ok (w := ndW ⟨b, cc, t', e⟩) g4 (by omega)
    have lk := look_lst' g3
    have gl : ∀ xs h, gListK false [.lst xs] h = .ok (.lst xs) h := fun _ _ => rfl
    have gt : ∀ xs h, gTuple [.lst xs] h = .ok (.tup xs) h := fun _ _ => rfl
    unfold ndW at ap
    unfold sl9 ndW
    simp [lk, isKd, gl, gt, q5, most, ap]
  have lm : m < h5.length := (List.getElem?_eq_some_iff.mp g4).1
  obtain ⟨d, e', fq, d0, e0⟩ := af5.f
  refine ⟨⟨b, cc, t', e⟩, h5.set m (.lst (acc ++ [ndW ⟨b, cc, t', e⟩])), some (.lst (tgW t' e)), some (.str (wd b)), a8, ?_, ⟨hcc, ⟨t2, asc_csn p2, ne⟩, (fun h => by cases h), by show t'.length ≤ 20; omega⟩, ⟨d, e', by rw [List.getElem?_set_ne nm]; exact fq, d0, e0⟩, List.getElem?_set_self lm, fun j jn jm => by rw [List.getElem?_set_ne (fun e => jm e.symm)]; exact (((af1.trans af2).trans (af3.trans af4)).trans af5).o j jn⟩
  unfold ndB
  rw [s_seq s1, s_seq s2, s_seq s3, s_seq s4, s5]
end
end K10
namespace K10
open Ov
section
variable {k n m many : Nat} {cs : List W}
theorem nodes_go (N : Nms cs) (nm : m ≠ n) (h8 : many ≤ 8) {chk : Hw → Bool} (hc : ∀ h, chk h = true) : ∀ (cnt i : Nat) (l : List Nd) (h : Hw) (a5 a6 a7 a8 : Option W), Fd n h → h[m]? = some (.lst (l.map ndW)) → (∀ nd ∈ l, Rok many true nd) → l.length = i → i + cnt = many →
    ∃ (l' : List Nd) (h' : Hw) (b6 b2 b8 b9 : Option W), forGo chk (fun x σ h => (tName 5 (callF fns (k + 2)) x σ h).calm.st σ fun σ1 h3 => ndB (callF fns (k + 2)) σ1 h3) (rangeGo i cnt) (sl9 n m many cs a5 a6 a7 a8) h = .ok (.nx (sl9 n m many cs b6 b2 b8 b9)) h' ∧ Fd n h' ∧ h'[m]? = some (.lst (l'.map ndW)) ∧ (∀ nd ∈ l', Rok many true nd) ∧ l'.length = many ∧ ∀ j, j ≠ n → j ≠ m → h'[j]? = h[j]? := by
  intro cnt
  induction cnt with
  | zero => intro i l h a5 a6 a7 a8 f hm al hl hi; exact ⟨l, h, a5, a6, a7, a8, for_nil (hc _), f, hm, al, by omega, fun _ _ _ => rfl⟩
  | succ cnt ih =>
    intro i l h a5 a6 a7 a8 f hm al hl hi
    obtain ⟨nd, h1, b2, b8, b9, q, R, f1, hm1, kp1⟩ := node_turn (k := k) (i := i) (a6 := a6) (a7 := a7) (a8 := a8) N f hm nm (by rw [List.length_map]; omega) h8
    obtain ⟨l', h', c5, c6, c7, c8, e, f', hm', al', hl', kp2⟩ := ih (i + 1) (l ++ [nd]) h1 (some (.int (i : Int))) b2 b8 b9 f1 (by rw [List.map_append]; exact hm1) (fun x hx => by
      rcases List.mem_append.mp hx with hx | hx
      · exact al x hx
      · rw [List.mem_singleton.mp hx]; exact R) (by simp; omega) (by omega)
    have num : rangeGo (i : Int) (cnt + 1) = .int (i : Int) :: rangeGo ((i + 1 : Nat) : Int) cnt := by
      show W.int (i : Int) :: rangeGo ((i : Int) + 1) cnt = _
      rw [show ((i + 1 : Nat) : Int) = (i : Int) + 1 by omega]
    rw [num]
    refine ⟨l', h', c5, c6, c7, c8, (for_cons (h1 := h1) (σ1 := sl9 n m many cs (some (.int (i : Int))) b2 b8 b9) (hc _) ?_).trans e, f', hm', al', hl', fun j jn jm => (kp2 j jn jm).trans (kp1 j jn jm)⟩
    have tn : tName 5 (callF fns (k + 2)) (.int (i : Int)) (sl9 n m many cs a5 a6 a7 a8) h = .ok (sl9 n m many cs (some (.int (i : Int))) a6 a7 a8) h := rfl
    show ((tName 5 (callF fns (k + 2)) (.int (i : Int)) (sl9 n m many cs a5 a6 a7 a8) h).calm.st (sl9 n m many cs a5 a6 a7 a8) fun σ1 h3 => ndB (callF fns (k + 2)) σ1 h3) = _
    rw [tn, r_calm, r_st]
    exact q
theorem call_nodes {h : Hw} (N : Nms cs) (f : Fd n h) : ∃ (l : List Nd) (h' : Hw), callF fns (k + 3) 2 [.ref n, .lst cs, .int 8] h = .ok (.tup (l.map ndW)) h' ∧ l ≠ [] ∧ l.length ≤ 8 ∧ (∀ nd ∈ l, Rok l.length true nd) ∧ Fd n h' ∧ ∀ j, j ≠ n → j < h.length → h'[j]? = h[j]? := by
  have hn := f.lt
  obtain ⟨r, h1, q, r1, af⟩ := take_fd (k := k + 1) (s := 8) f (by decide) (by decide)
  have hm : h.length ≠ n := by omega
  have s1 : sPar 3 4 (xsCons (xBin .add (xCon (.int 1)) (xCall 3 (xsCons (xVar 0) (xsCons (xVar 2) (xsNil))))) (xsCons (xLst true (xsNil)) (xsNil))) (callF fns (k + 2)) [some (.ref n), some (.lst cs), some (.int 8), none, none, none, none, none, none] h = .ok (.nx (sl9 n h.length (1 + r) cs none none none none)) (h1 ++ [.lst []]) := by
    have l1 : h1.length = h.length := af.l
    unfold sPar sl9
    simp [q, b_add, most, made, newCell, l1]
  have f1 : Fd n (h1 ++ [.lst []]) := by
    obtain ⟨d, e, fq, p⟩ := af.f
    exact ⟨d, e, by rw [List.getElem?_append_left (by rw [af.l]; exact hn)]; exact fq, p⟩
  have g0 : (h1 ++ [Cell.lst []])[h.length]? = some (.lst (([] : List Nd).map ndW)) := by
    have e := List.getElem?_concat_length (l := h1) (a := Cell.lst [])
    rw [af.l] at e
    exact e
  obtain ⟨l, h2, y5, y6, y7, y8, e, f2, hm2, al, hl, kp⟩ := nodes_go (k := k) (many := 1 + r) N hm (by omega) (chk := fun h' => stands (h1 ++ [.lst []]) h' [.int ((1 + r : Nat) : Int)]) (fun _ => rfl) (1 + r) 0 [] (h1 ++ [.lst []]) none none none none f1 g0 (fun _ h => by cases h) rfl (by omega)
  have sr : src .range (xsCons (xVar 3) (xsNil)) (callF fns (k + 2)) (sl9 n h.length (1 + r) cs none none none none) (h1 ++ [.lst []]) = .ok ([.int ((1 + r : Nat) : Int)], rangeGo 0 (1 + r)) (h1 ++ [.lst []]) := src_free rfl (walk_range (by omega)) (by rw [range_len]; omega)
  have s2 := (s_for (t := tName 5) (b := ndB) sr).trans e
  have s3 : (sRet (xF gTuple (xsCons (xVar 4) (xsNil))) : Sx) (callF fns (k + 2)) (sl9 n h.length (1 + r) cs y5 y6 y7 y8) h2 = .ok (.ret (.tup (l.map ndW))) h2 := by
    have lk := look_lst' hm2
    have gt : gTuple [.ref h.length] h2 = .ok (.tup (l.map ndW)) h2 := by
      unfold gTuple
      simp only [lk]
    unfold sl9
    simp [gt]
  refine ⟨l, trim h.length (.tup (l.map ndW)) h2, ?_, fun z => by rw [z] at hl; simp at hl; omega, by omega, by rw [hl]; exact al, f2.trim hn, fun j jn jl => by
    rw [trim_get jl, kp j jn (by omega), List.getElem?_append_left (by rw [af.l]; exact jl), af.o j jn]⟩
  show trimR h.length (b2 (callF fns (k + 2)) [some (.ref n), some (.lst cs), some (.int 8), none, none, none, none, none, none] h).back = _
  unfold b2
  rw [s_seq s1, s_seq s2, s3]; rfl
end
def fu (n : Nd) : Bool := !(n.t.isEmpty && n.e)
theorem fu_ok {many : Nat} {n : Nd} (R : Rok many true n) : Rok many (fu n) n := ⟨R.c, R.t, (fun h => by
  unfold fu at h
  cases ht : n.t with
  | nil => rw [ht] at h; cases he : n.e with
    | true => exact ⟨rfl, rfl⟩
    | false => rw [he] at h; cases h
  | cons a r => rw [ht] at h; cases h), R.l⟩
theorem tgW_lay (t : List Nat) (e : Bool) : (tgW t e).all (W.lay 39) = true := by
  rw [List.all_eq_true]
  intro w hw
  unfold tgW at hw
  rcases List.mem_append.mp hw with h | h
  · obtain ⟨x, _, rfl⟩ := List.mem_map.mp h; rfl
  · cases e with
    | true => rw [List.mem_singleton.mp h]; rfl
    | false => cases h
theorem ne_none (n : Nd) (H : Hw) : cmpW .ne (.tup (tgW n.t n.e)) (.tup [.non]) H = .ok (.bl (fu n)) H := by
  show R.of H (cmpop .ne (whole H (.tup (tgW n.t n.e))) (whole H (.tup [.non]))) = _
  rw [whole_free H (show W.under 0 (.tup (tgW n.t n.e)) = true from tgW_under _ _), whole_free H (show W.under 0 (.tup [.non]) = true from rfl)]
  show R.of H (if eqOk (.tup (tgW n.t n.e)) (.tup [.non]) then some (W.bl (!W.eq (.tup (tgW n.t n.e)) (.tup [.non]))) else none) = _
  have el : W.lay 40 (.tup (tgW n.t n.e)) = true := tgW_lay _ _
  rw [if_pos (by unfold eqOk; rw [el]; rfl)]
  have : (!W.eq (.tup (tgW n.t n.e)) (.tup [.non])) = fu n := by
    unfold fu tgW
    cases n.t with
    | nil => cases n.e <;> rfl
    | cons a r => rfl
  rw [this]; rfl
def tgO (t : List Nat) (e : Bool) : List (Option Nat) := t.map some ++ if e then [none] else []
def oW : Option Nat → W
  | some x => .int (x : Int)
  | none => .non
def oT : Option Nat → List Nat
  | some x => [48 + x]
  | none => endW
theorem tgO_W (t : List Nat) (e : Bool) : (tgO t e).map oW = tgW t e := by
  unfold tgO tgW inw
  rw [List.map_append, List.map_map]
  cases e <;> rfl
theorem tgO_T (t : List Nat) (e : Bool) : (tgO t e).map (fun o => W.str (oT o)) = (wrds t e).map W.str := by
  unfold tgO wrds
  rw [List.map_append, List.map_append, List.map_map, List.map_map]
  cases e <;> rfl
theorem str_digit {x : Nat} (h : x < 10) (H : Hw) : gStr [.int (x : Int)] H = .ok (.str [48 + x]) H := by
  rcases (show x = 0 ∨ x = 1 ∨ x = 2 ∨ x = 3 ∨ x = 4 ∨ x = 5 ∨ x = 6 ∨ x = 7 ∨ x = 8 ∨ x = 9 by omega) with rfl | rfl | rfl | rfl | rfl | rfl | rfl | rfl | rfl | rfl <;> rfl
theorem words_ok {cl : CL} {t : List Nat} {e : Bool} {s0 s1 s2 s3 s5 s6 : Option W} {h : Hw} (ht : ∀ x ∈ t, x < 10) (hl : t.length ≤ 20) : xComp false [6] (tName 6) .seq (xsCons (xVar 4) xsNil) ifNil (xIte (xIsN true (xVar 6)) (xCon (.str [101, 110, 100])) (xF gStr (xsCons (xVar 6) (xsNil)))) cl [s0, s1, s2, s3, some (.tup (tgW t e)), s5, s6] h = .ok (.lst ((wrds t e).map .str)) h := by
  rw [← tgO_T]
  refine v_comp (ws := [.tup (tgW t e)]) (xs := (tgO t e).map oW) (src_free rfl (by rw [tgO_W]; rfl) (by rw [tgO_W]; unfold tgW; rw [List.length_append, inw_len]; cases e <;> simp <;> omega)) (comp_map (l := tgO t e) (a := oW) (b := fun o => W.str (oT o)) rfl fun o ho => ?_)
  refine turn_yes (σ1 := [s0, s1, s2, s3, some (.tup (tgW t e)), s5, some (oW o)]) rfl rfl ?_
  cases o with
  | none => rfl
  | some x =>
    have hx : x ∈ t := by
      unfold tgO at ho
      rcases List.mem_append.mp ho with h | h
      · obtain ⟨y, hy, e⟩ := List.mem_map.mp h; cases e; exact hy
      · cases e with
        | true => cases List.mem_singleton.mp h
        | false => cases h
    show gStr [.int (x : Int)] h = _
    exact str_digit (ht x hx) h
theorem join_ok {sep : List Nat} {ws : List (List Nat)} {x : W} {h : Hw} (lk : look h x = .lst (ws.map .str)) (l : (ws.map (·.length)).sum + ws.length * sep.length < 16000000) : mJoin (.str sep) [x] h = .ok (.str (joinBy sep ws)) h := by
  unfold mJoin
  simp only [lk, strsOf_map]
  rw [if_pos (show Nat.blt ((ws.map (·.length)).sum + ws.length * sep.length) most = true from Nat.ble_eq_true_of_le (by unfold most; omega))]
theorem wrds_sum {t : List Nat} {e : Bool} (hl : t.length ≤ 20) : ((wrds t e).map (·.length)).sum + (wrds t e).length * 1 < 1000 := by
  have h1 := sum_le (b := 3) (xs := wrds t e) fun p hp => by
    rcases wrds_in hp with ⟨x, _, rfl⟩ | rfl
    · simp
    · simp [endW]
  have h2 := wrds_len t e
  omega
end K10
namespace K10
open Ov
theorem rowT_full {n : Nd} (h : n.t ≠ [] ∨ n.e = true) : rowT true n = wd n.w ++ [32] ++ n.c ++ [32, 45, 62, 32] ++ joinBy [32] (wrds n.t n.e) := by
  show joinBy [32] (wd n.w :: n.c :: arr :: wrds n.t n.e) = _
  rw [joinBy_cons (by simp), joinBy_cons (by simp), joinBy_cons (wrds_ne h)]
  simp [arr]
theorem rowT_bare (n : Nd) : rowT false n = wd n.w ++ [32] ++ n.c := rfl
theorem wd_len (b : Bool) : (wd b).length ≤ 5 := by cases b <;> decide
theorem jw_len {t : List Nat} {e : Bool} (hl : t.length ≤ 20) : (joinBy [32] (wrds t e)).length < 1000 := by
  have h1 := joinBy_len [32] (wrds t e)
  have h2 := wrds_sum (e := e) hl
  have e1 : ([32] : List Nat).length = 1 := rfl
  rw [e1] at h1
  omega
abbrev wsE : Ex := xComp false [6] (tName 6) .seq (xsCons (xVar 4) xsNil) ifNil (xIte (xIsN true (xVar 6)) (xCon (.str [101, 110, 100])) (xF gStr (xsCons (xVar 6) (xsNil))))
abbrev txB : Sx := sSeq (sAsg (tName 5) (xBin .add (xBin .add (xVar 2) (xCon (.str [32]))) (xVar 3))) (sSeq (sIf (xCmp .ne (xVar 4) (xTup (xsCons (xCon .non) (xsNil)))) (sAsg (tName 5) (xBin .add (xBin .add (xVar 5) (xCon (.str [32, 45, 62, 32]))) (xM .str mJoin (xCon (.str [32])) (xsCons wsE (xsNil))))) (sPass)) (sEx (xM .list mAppend (xVar 1) (xsCons (xVar 5) (xsNil)))))
theorem text_turn {cl : CL} {many : Nat} {n : Nd} {X : W} {acc : List W} {a b : Option W} (R : Rok many true n) (hm : many ≤ 10) (hl : acc.length < 1000) :
    txB cl [some X, some (.ref 0), some (.str (wd n.w)), some (.str n.c), some (.tup (tgW n.t n.e)), a, b] [.lst acc] = .ok (.nx [some X, some (.ref 0), some (.str (wd n.w)), some (.str n.c), some (.tup (tgW n.t n.e)), some (.str (rowT (fu n) n)), b]) [.lst (acc ++ [.str (rowT (fu n) n)])] := by
  have lw := wd_len n.w
  have lc := R.c.m
  have lj := jw_len (e := n.e) R.l
  have a1 := add_str (s := wd n.w) (t := [32]) (by simp; omega)
  have a2 := add_str (s := wd n.w ++ [32]) (t := n.c) (by simp; omega)
  have s1 : sAsg (tName 5) (xBin .add (xBin .add (xVar 2) (xCon (.str [32]))) (xVar 3)) cl [some X, some (.ref 0), some (.str (wd n.w)), some (.str n.c), some (.tup (tgW n.t n.e)), a, b] [.lst acc] = .ok (.nx [some X, some (.ref 0), some (.str (wd n.w)), some (.str n.c), some (.tup (tgW n.t n.e)), some (.str (wd n.w ++ [32] ++ n.c)), b]) [.lst acc] := by
    rw [st_asg, v_bin, v_bin]
    simp only [v_var0, v_varS, v_con, r_bind, lks_str, a1, a2, r_of, r_st]
    rfl
  have s2 : sIf (xCmp .ne (xVar 4) (xTup (xsCons (xCon .non) (xsNil)))) (sAsg (tName 5) (xBin .add (xBin .add (xVar 5) (xCon (.str [32, 45, 62, 32]))) (xM .str mJoin (xCon (.str [32])) (xsCons wsE (xsNil))))) (sPass) cl [some X, some (.ref 0), some (.str (wd n.w)), some (.str n.c), some (.tup (tgW n.t n.e)), some (.str (wd n.w ++ [32] ++ n.c)), b] [.lst acc] = .ok (.nx [some X, some (.ref 0), some (.str (wd n.w)), some (.str n.c), some (.tup (tgW n.t n.e)), some (.str (rowT (fu n) n)), b]) [.lst acc] := by
    have c : xCmp .ne (xVar 4) (xTup (xsCons (xCon .non) (xsNil))) cl [some X, some (.ref 0), some (.str (wd n.w)), some (.str n.c), some (.tup (tgW n.t n.e)), some (.str (wd n.w ++ [32] ++ n.c)), b] [.lst acc] = .ok (.bl (fu n)) [.lst acc] := ne_none n _
    rw [st_if, c, r_st]
    cases hfu : fu n with
    | false =>
      have : rowT false n = wd n.w ++ [32] ++ n.c := rowT_bare n
      rw [this]; rfl
    | true =>
      have jo := join_ok (sep := [32]) (ws := wrds n.t n.e) (x := .lst ((wrds n.t n.e).map .str)) (h := [.lst acc]) rfl (by have := wrds_sum (e := n.e) R.l; have e1 : ([32] : List Nat).length = 1 := rfl; rw [e1]; omega)
      have wk : wsE cl [some X, some (.ref 0), some (.str (wd n.w)), some (.str n.c), some (.tup (tgW n.t n.e)), some (.str (wd n.w ++ [32] ++ n.c)), b] [.lst acc] = .ok (.lst ((wrds n.t n.e).map .str)) [.lst acc] := words_ok (cl := cl) (t := n.t) (e := n.e) (s0 := some X) (s1 := some (.ref 0)) (s2 := some (.str (wd n.w))) (s3 := some (.str n.c)) (s5 := some (.str (wd n.w ++ [32] ++ n.c))) (s6 := b) (h := [.lst acc]) (fun x hx => by have := R.t.l x hx; omega) R.l
      have a3 := add_str (s := wd n.w ++ [32] ++ n.c) (t := [32, 45, 62, 32]) (by simp; omega)
      have a4 := add_str (s := wd n.w ++ [32] ++ n.c ++ [32, 45, 62, 32]) (t := joinBy [32] (wrds n.t n.e)) (by simp; omega)
      have jm : xM .str mJoin (xCon (.str [32])) (xsCons wsE (xsNil)) cl [some X, some (.ref 0), some (.str (wd n.w)), some (.str n.c), some (.tup (tgW n.t n.e)), some (.str (wd n.w ++ [32] ++ n.c)), b] [.lst acc] = .ok (.str (joinBy [32] (wrds n.t n.e))) [.lst acc] := by
        rw [v_M, v_con, r_bind]
        rw [if_pos (show isKd .str (look [Cell.lst acc] (.str [32])) = true from rfl), v_cons, wk, r_bind, v_nil, r_bind, r_bind]
        exact jo
      show sAsg _ _ _ _ _ = _
      rw [rowT_full R.t.n, st_asg, v_bin, v_bin]
      simp only [v_var0, v_varS, v_con, r_bind, lks_str, a3, jm, a4, r_of, r_st]
      rfl
  have s3 : sEx (xM .list mAppend (xVar 1) (xsCons (xVar 5) (xsNil))) cl [some X, some (.ref 0), some (.str (wd n.w)), some (.str n.c), some (.tup (tgW n.t n.e)), some (.str (rowT (fu n) n)), b] [.lst acc] = .ok (.nx [some X, some (.ref 0), some (.str (wd n.w)), some (.str n.c), some (.tup (tgW n.t n.e)), some (.str (rowT (fu n) n)), b]) [.lst (acc ++ [.str (rowT (fu n) n)])] := by
    have ap := app_ok (h := [.lst acc]) (n := 0) (w := .str (rowT (fu n) n)) rfl (by omega)
    simp [isKd, look, ap]
  unfold txB
  rw [s_seq s1, s_seq s2, s3]
theorem text_go {cl : CL} {many : Nat} {X : W} (hm : many ≤ 10) {chk : Hw → Bool} (hc : ∀ h, chk h = true) : ∀ (l : List Nd) (acc : List W) (x y z a b : Option W), (∀ n ∈ l, Rok many true n) → acc.length + l.length < 1000 →
    ∃ x' y' z' a' b', forGo chk (fun x σ h => (tTup 3 (tsCons (tName 2) (tsCons (tName 3) (tsCons (tName 4) (tsNil)))) cl x σ h).calm.st σ fun σ1 h3 => txB cl σ1 h3) (l.map ndW) [some X, some (.ref 0), x, y, z, a, b] [.lst acc] = .ok (.nx [some X, some (.ref 0), x', y', z', a', b']) [.lst (acc ++ l.map fun n => .str (rowT (fu n) n))] := by
  intro l
  induction l with
  | nil => intro acc x y z a b _ _; exact ⟨x, y, z, a, b, by rw [List.map_nil, for_nil (hc _), List.map_nil, List.append_nil]⟩
  | cons n r ih =>
    intro acc x y z a b hr hl
    simp only [List.length_cons] at hl
    obtain ⟨x', y', z', a', b', q⟩ := ih (acc ++ [.str (rowT (fu n) n)]) (some (.str (wd n.w))) (some (.str n.c)) (some (.tup (tgW n.t n.e))) (some (.str (rowT (fu n) n))) b (fun m hm => hr m (List.mem_cons_of_mem _ hm)) (by simp; omega)
    refine ⟨x', y', z', a', b', (for_cons (h1 := [.lst (acc ++ [.str (rowT (fu n) n)])]) (σ1 := [some X, some (.ref 0), some (.str (wd n.w)), some (.str n.c), some (.tup (tgW n.t n.e)), some (.str (rowT (fu n) n)), b]) (hc _) ?_).trans (q.trans (by rw [List.append_assoc]; rfl))⟩
    have tn : tTup 3 (tsCons (tName 2) (tsCons (tName 3) (tsCons (tName 4) (tsNil)))) cl (ndW n) [some X, some (.ref 0), x, y, z, a, b] [.lst acc] = .ok [some X, some (.ref 0), some (.str (wd n.w)), some (.str n.c), some (.tup (tgW n.t n.e)), a, b] [.lst acc] := rfl
    show ((tTup 3 (tsCons (tName 2) (tsCons (tName 3) (tsCons (tName 4) (tsNil)))) cl (ndW n) [some X, some (.ref 0), x, y, z, a, b] [.lst acc]).calm.st _ _) = _
    rw [tn, r_calm, r_st]
    exact text_turn (hr n (List.mem_cons_self ..)) hm (by omega)
theorem nds_free (l : List Nd) : W.unders 0 (l.map ndW) = true := unders_of fun w hw => by
  obtain ⟨n, _, rfl⟩ := List.mem_map.mp hw
  exact ndW_under n
theorem rows_sum {many : Nat} {f : Nd → Bool} {l : List Nd} (hr : ∀ n ∈ l, Rok many (f n) n) (hl : l.length ≤ 8) : ((l.map fun n => rowT (f n) n).map (·.length)).sum + (l.map fun n => rowT (f n) n).length * 1 < 10000 := by
  have h1 := sum_le (b := 216) (xs := l.map fun n => rowT (f n) n) fun p hp => by
    obtain ⟨n, hn, rfl⟩ := List.mem_map.mp hp
    exact rowT_len (hr n hn)
  rw [List.length_map] at h1 ⊢
  omega
theorem call_text {k many : Nat} {l : List Nd} {H : Hw} (hm : many ≤ 10) (hr : ∀ n ∈ l, Rok many true n) (hl : l.length ≤ 8) : callF fns (k + 1) 6 [.tup (l.map ndW)] H = .ok (.str (txt (l.map fun n => (fu n, n)))) H := by
  refine run_pure (fn := ⟨1, 7, true, b6⟩) (h' := [.lst (l.map fun n => .str (rowT (fu n) n))]) rfl rfl rfl (by show (W.unders 0 (l.map ndW) && true) = true; rw [nds_free]; rfl) ?_ rfl
  show (b6 (callF fns k) [some (.tup (l.map ndW)), none, none, none, none, none, none] []).back = _
  have s1 : sAsg (tName 1) (xLst true (xsNil)) (callF fns k) [some (.tup (l.map ndW)), none, none, none, none, none, none] [] = .ok (.nx [some (.tup (l.map ndW)), some (.ref 0), none, none, none, none, none]) [.lst []] := rfl
  obtain ⟨x, y, z, a, b, q⟩ := text_go (cl := callF fns k) (X := .tup (l.map ndW)) hm (chk := fun h' => stands [.lst []] h' [.tup (l.map ndW)]) (fun _ => rfl) l [] none none none none none hr (by simp; omega)
  have sr : src .seq (xsCons (xVar 0) xsNil) (callF fns k) [some (.tup (l.map ndW)), some (.ref 0), none, none, none, none, none] [.lst []] = .ok ([.tup (l.map ndW)], l.map ndW) [.lst []] := src_free rfl rfl (by rw [List.length_map]; omega)
  have s2 := (s_for (t := tTup 3 (tsCons (tName 2) (tsCons (tName 3) (tsCons (tName 4) (tsNil))))) (b := txB) sr).trans q
  have jo := join_ok (sep := [10]) (ws := l.map fun n => rowT (fu n) n) (x := .ref 0) (h := [.lst (l.map fun n => .str (rowT (fu n) n))]) (by rw [List.map_map]; rfl) (by have := rows_sum (f := fu) (fun n hn => fu_ok (hr n hn)) hl; have e1 : ([10] : List Nat).length = 1 := rfl; rw [e1]; omega)
  have et : joinBy [10] (l.map fun n => rowT (fu n) n) = txt (l.map fun n => (fu n, n)) := by unfold txt; rw [List.map_map]; rfl
  rw [et] at jo
  unfold b6
  rw [s_seq s1, s_seq s2, List.nil_append, st_ret, v_M, v_con, r_bind]
  rw [if_pos (show isKd .str (look [Cell.lst (l.map fun n => W.str (rowT (fu n) n))] (.str [10])) = true from rfl), v_cons]
  show (((mJoin (.str [10]) [.ref 0] [.lst (l.map fun n => .str (rowT (fu n) n))])).st _ _).back = _
  rw [jo]; rfl
end K10
namespace K10
open Ov
theorem seq_refl : ∀ s : List Nat, seqNat s s = true
  | [] => rfl
  | a :: r => by
    show (Nat.beq a a && seqNat r r) = true
    rw [Nat.beq_refl, seq_refl r]; rfl
theorem lay_eq : ∀ (d : Nat) (w : W), W.lay d w = true → W.eq w w = true := by
  intro d
  induction d with
  | zero => intro w h; cases h
  | succ d ih =>
    have go : ∀ xs : List W, xs.all (W.lay d) = true → W.eqs xs xs = true := by
      intro xs
      induction xs with
      | nil => intro _; rfl
      | cons x r ihr =>
        intro h
        have h2 := Bool.and_eq_true_iff.mp (show (W.lay d x && r.all (W.lay d)) = true from h)
        show (W.eq x x && W.eqs r r) = true
        rw [ih x h2.1, ihr h2.2]; rfl
    intro w h
    cases w with
    | non => rfl
    | bl b => cases b <;> rfl
    | int i => exact decide_eq_true rfl
    | str s => exact seq_refl s
    | tup xs => exact go xs h
    | lst xs => exact go xs h
    | _ => cases h
theorem ne_same {w : W} {H : Hw} (l : W.lay 40 w = true) (f : W.under 0 w = true) (nd : ∀ ks vs, w ≠ .dct ks vs) (nr : ∀ n, w ≠ .ref n) : cmpW .ne w w H = .ok (.bl false) H := by
  have lk : look H w = w := by cases w <;> first | rfl | exact absurd rfl (nr _)
  have e : cmpW .ne w w H = R.of H (cmpop .ne (whole H w) (whole H w)) := by
    unfold cmpW
    rw [lk]
    cases w <;> first | rfl | exact absurd rfl (nd _ _)
  rw [e, whole_free H f]
  show R.of H (if eqOk w w then some (W.bl (!W.eq w w)) else none) = _
  rw [if_pos (by unfold eqOk; rw [l]; simp), lay_eq 40 w l]; rfl
theorem wd_lay (b : Bool) : W.lay 38 (.str (wd b)) = true := by cases b <;> rfl
theorem Nm.lay {c : List Nat} (h : Nm c) {d : Nat} : W.lay (d + 1) (.str c) = true := by
  show (c.all fun x => Nat.blt x 1114112) = true
  rw [List.all_eq_true]
  intro x hx
  have : ∀ y ∈ lets, y < 200 := by decide
  exact Nat.ble_eq_true_of_le (by have := this x (h.l x hx); omega)
theorem tgW_lay' {d : Nat} (t : List Nat) (e : Bool) : W.lay (d + 2) (.tup (tgW t e)) = true := by
  show (tgW t e).all (W.lay (d + 1)) = true
  rw [List.all_eq_true]
  intro w hw
  unfold tgW at hw
  rcases List.mem_append.mp hw with h | h
  · obtain ⟨x, _, rfl⟩ := List.mem_map.mp h; rfl
  · cases e with
    | true => rw [List.mem_singleton.mp h]; rfl
    | false => cases h
theorem ndW_lay {n : Nd} (h : Nm n.c) : W.lay 39 (ndW n) = true := by
  show (W.lay 38 (.str (wd n.w)) && (W.lay 38 (.str n.c) && (W.lay 38 (.tup (tgW n.t n.e)) && true))) = true
  rw [wd_lay, h.lay, tgW_lay']; rfl
theorem nds_lay {l : List Nd} (h : ∀ n ∈ l, Nm n.c) : W.lay 40 (.tup (l.map ndW)) = true := by
  show (l.map ndW).all (W.lay 39) = true
  rw [List.all_eq_true]
  intro w hw
  obtain ⟨n, hn, rfl⟩ := List.mem_map.mp hw
  exact ndW_lay (h n hn)
theorem ne_nodes {l : List Nd} {H : Hw} (h : ∀ n ∈ l, Nm n.c) : cmpW .ne (.tup (l.map ndW)) (.tup (l.map ndW)) H = .ok (.bl false) H :=
  ne_same (nds_lay h) (nds_free l) (fun _ _ h => by cases h) (fun _ h => by cases h)
end K10
namespace K10
open Ov
def Rp (b : Nat) (w : W) : Prop := ∃ t, W.repr w = some t ∧ t.length ≤ b
theorem reprs_ok {b : Nat} : ∀ {xs : List W}, (∀ x ∈ xs, Rp b x) → ∃ ts, W.reprs xs = some ts ∧ ts.length = xs.length ∧ ∀ t ∈ ts, t.length ≤ b
  | [], _ => ⟨[], rfl, rfl, fun _ h => by cases h⟩
  | x :: r, h => by
    obtain ⟨t, e, l⟩ := h x (List.mem_cons_self ..)
    obtain ⟨ts, e2, l2, l3⟩ := reprs_ok (xs := r) fun y hy => h y (List.mem_cons_of_mem _ hy)
    refine ⟨t :: ts, ?_, by simp [l2], fun z hz => ?_⟩
    · show (match W.repr x, W.reprs r with
        | some t, some ts => some (t :: ts)
        | _, _ => none) = _
      rw [e, e2]
    · rcases List.mem_cons.mp hz with rfl | hz
      · exact l
      · exact l3 z hz
theorem comma_len {b : Nat} : ∀ {ts : List (List Nat)}, (∀ t ∈ ts, t.length ≤ b) → (commaJoin ts).length ≤ ts.length * (b + 2)
  | [], _ => Nat.zero_le _
  | [x], h => by
    have := h x (List.mem_cons_self ..)
    show x.length ≤ 1 * (b + 2)
    omega
  | x :: y :: r, h => by
    have h1 := h x (List.mem_cons_self ..)
    have h2 := comma_len (ts := y :: r) fun t ht => h t (List.mem_cons_of_mem _ ht)
    show (x ++ 44 :: 32 :: commaJoin (y :: r)).length ≤ _
    simp only [List.length_append, List.length_cons] at h2 ⊢
    rw [Nat.add_mul (r.length + 1) 1 (b + 2), Nat.one_mul]
    omega
theorem rp_tup {b n : Nat} {xs : List W} (h : ∀ x ∈ xs, Rp b x) (hn : xs.length ≤ n) : Rp (n * (b + 2) + 4) (.tup xs) := by
  have mono : xs.length * (b + 2) ≤ n * (b + 2) := Nat.mul_le_mul_right _ hn
  match xs, h with
  | [], _ => exact ⟨_, rfl, by simp⟩
  | [x], h =>
    obtain ⟨t, e, l⟩ := h x (List.mem_cons_self ..)
    refine ⟨40 :: t ++ [44, 41], ?_, ?_⟩
    · show (W.repr x).map (fun t => 40 :: t ++ [44, 41]) = _
      rw [e]; rfl
    · simp at mono ⊢
      omega
  | x :: y :: r, h =>
    obtain ⟨t, e, l⟩ := h x (List.mem_cons_self ..)
    obtain ⟨ts, e2, l2, l3⟩ := reprs_ok (xs := y :: r) fun z hz => h z (List.mem_cons_of_mem _ hz)
    refine ⟨40 :: commaJoin (t :: ts) ++ [41], ?_, ?_⟩
    · show (match W.repr x, W.reprs (y :: r) with
        | some t, some ts => some (40 :: commaJoin (t :: ts) ++ [41])
        | _, _ => none) = _
      rw [e, e2]
    · have := comma_len (b := b) (ts := t :: ts) fun z hz => by
        rcases List.mem_cons.mp hz with rfl | hz
        · exact l
        · exact l3 z hz
      simp only [List.length_append, List.length_cons, List.length_nil] at this mono l2 ⊢
      rw [l2] at this
      omega
theorem Rp.mono {a b : Nat} {w : W} (h : Rp a w) (hb : a ≤ b) : Rp b w := let ⟨t, e, l⟩ := h; ⟨t, e, Nat.le_trans l hb⟩
theorem rp_str {s : List Nat} (h : s.all plainSign = true) : Rp (s.length + 2) (.str s) := by
  refine ⟨39 :: s ++ [39], ?_, by simp⟩
  show (if s.all plainSign then some (39 :: s ++ [39]) else none) = _
  rw [if_pos h]
theorem Nm.plain {c : List Nat} (h : Nm c) : c.all plainSign = true := by
  rw [List.all_eq_true]
  intro x hx
  exact (by decide : ∀ y ∈ lets, plainSign y = true) x (h.l x hx)
theorem rp_int {x : Nat} (h : x < 10) : Rp 4 (.int (x : Int)) := by
  rcases (show x = 0 ∨ x = 1 ∨ x = 2 ∨ x = 3 ∨ x = 4 ∨ x = 5 ∨ x = 6 ∨ x = 7 ∨ x = 8 ∨ x = 9 by omega) with rfl | rfl | rfl | rfl | rfl | rfl | rfl | rfl | rfl | rfl <;> exact ⟨_, rfl, by decide⟩
theorem rp_node {many : Nat} {f : Bool} {n : Nd} (R : Rok many f n) (hm : many ≤ 10) : Rp 1000 (ndW n) := by
  have t1 : Rp 200 (.tup (tgW n.t n.e)) := by
    refine (rp_tup (b := 4) (n := 21) (fun w hw => ?_) ?_).mono (by omega)
    · unfold tgW at hw
      rcases List.mem_append.mp hw with h | h
      · obtain ⟨x, hx, rfl⟩ := List.mem_map.mp h
        exact rp_int (by have := R.t.l x hx; omega)
      · cases he : n.e with
        | true => rw [he] at h; rw [List.mem_singleton.mp h]; exact ⟨_, rfl, by decide⟩
        | false => rw [he] at h; cases h
    · unfold tgW
      rw [List.length_append, inw_len]
      have := R.l
      cases n.e <;> simp <;> omega
  refine (rp_tup (b := 200) (n := 3) (fun w hw => ?_) (by simp)).mono (by omega)
  simp only [List.mem_cons, List.not_mem_nil, or_false] at hw
  rcases hw with rfl | rfl | rfl
  · exact (rp_str (by cases n.w <;> decide)).mono (by have := wd_len n.w; omega)
  · exact (rp_str R.c.plain).mono (by have := R.c.m; omega)
  · exact t1
theorem g_repr {w : W} {b : Nat} {h : Hw} (r : Rp b w) (hb : b < 16000000) (l : W.lay 40 w = true) (f : W.under 0 w = true) : ∃ t, gRepr [w] h = .ok (.str t) h := by
  obtain ⟨t, e, lt⟩ := r
  refine ⟨t, ?_⟩
  show (match W.repr (whole h w) with
    | some t => if W.lay 40 (whole h w) && Nat.blt t.length most then Ov.R.ok (W.str t) h else .no
    | none => .no) = _
  rw [whole_free h f, e]
  dsimp only
  rw [l, show Nat.blt t.length most = true from Nat.ble_eq_true_of_le (by unfold most; omega)]; rfl
theorem ne_str_same {s : List Nat} {H : Hw} : cmpW .ne (.str s) (.str s) H = .ok (.bl false) H := by rw [ne_strs, seq_refl]; rfl
section
variable {k : Nat} {tx : List Nat} {ns : List W}
theorem call_str {H : Hw} (hl : tx.length < 16000000) (hf : W.unders 0 ns = true) : callF fns (k + 1) 14 [prg (.str tx) ns] H = .ok (.str tx) H := by
  refine run_pure (fn := ⟨1, 1, true, b14⟩) (h' := []) rfl rfl rfl (by show ((true && (W.unders 0 ns && true)) && true) = true; rw [hf]; rfl) ?_ rfl
  show (b14 (callF fns k) [some (prg (.str tx) ns)] []).back = _
  have lk : ∀ h, look h (prg (.str tx) ns) = .obj 2 [0, 1] [.str tx, .tup ns] := fun _ => rfl
  have bl : tx.length < most := by unfold most; omega
  unfold b14
  simp [xFmt, lk, List.lookup, bl]
theorem str_obj {H : Hw} (hl : tx.length < 16000000) (hf : W.unders 0 ns = true) : gStrO (callF fns (k + 1)) [(2, 14)] [prg (.str tx) ns] H = .ok (.str tx) H := by
  show ((callF fns (k + 1) 14 [prg (.str tx) ns] H).calm.bind strR) = _
  rw [call_str hl hf]; rfl
theorem eq_none {th : W} {H : Hw} (hf : W.unders 0 ns = true) (hth : W.under 0 th = true) (hty : ∀ h, gIsC [(2, true)] [th] h = .ok (.bl false) h) : callF fns (k + 1) 15 [prg (.str tx) ns, th] H = .ok (.bl false) H := by
  refine run_pure (fn := ⟨2, 2, true, b15⟩) (h' := []) rfl rfl rfl (by show ((true && (W.unders 0 ns && true)) && (W.under 0 th && true)) = true; rw [hf, hth]; rfl) ?_ rfl
  show (b15 (callF fns k) [some (prg (.str tx) ns), some th] []).back = _
  unfold b15
  simp [hty]
theorem eq_prog {t2 : List Nat} {n2 : List W} {H : Hw} (hf : W.unders 0 ns = true) (hf2 : W.unders 0 n2 = true) : callF fns (k + 1) 15 [prg (.str tx) ns, prg (.str t2) n2] H = .ok (.bl (seqNat tx t2)) H := by
  refine run_pure (fn := ⟨2, 2, true, b15⟩) (h' := []) rfl rfl rfl (by show ((true && (W.unders 0 ns && true)) && ((true && (W.unders 0 n2 && true)) && true)) = true; rw [hf, hf2]; rfl) ?_ rfl
  show (b15 (callF fns k) [some (prg (.str tx) ns), some (prg (.str t2) n2)] []).back = _
  have lk : ∀ h, look h (prg (.str tx) ns) = .obj 2 [0, 1] [.str tx, .tup ns] := fun _ => rfl
  have lk2 : ∀ h, look h (prg (.str t2) n2) = .obj 2 [0, 1] [.str t2, .tup n2] := fun _ => rfl
  have ty : ∀ h, gIsC [(2, true)] [prg (.str t2) n2] h = .ok (.bl true) h := fun _ => rfl
  have eo : ∀ h, cmpW .eq (.str tx) (.str t2) h = .ok (.bl (seqNat tx t2)) h := fun _ => rfl
  unfold b15
  simp [ty, lk, lk2, List.lookup, eo]
end
end K10
namespace K10
open Ov
theorem v_us (tab : List (Nat × Nat)) (nm : Nat) (o : Ex) (es : Exs) (cl : CL) (σ : Sw) (h : Hw) : xUs tab nm o es cl σ h = (o cl σ h).bind fun x h1 => match look h1 x with
  | .obj c ns _ => if ns.any (Nat.beq nm) then .no else (match tab.lookup c with
    | some f => (es cl σ h1).bind fun ws h2 => cl f ws h2
    | none => .no)
  | _ => .no := rfl
theorem v_so (tab : List (Nat × Nat)) (es : Exs) (cl : CL) (σ : Sw) (h : Hw) : xStrO tab es cl σ h = (es cl σ h).bind (gStrO cl tab) := rfl
theorem v_eqO (tab : List (Nat × Nat)) (a b : Ex) (cl : CL) (σ : Sw) (h : Hw) : xEqO tab a b cl σ h = (a cl σ h).bind fun x h1 => (b cl σ h1).bind fun y h2 => eqO cl tab x y h2 := rfl
theorem v_neO (tab : List (Nat × Nat)) (a b : Ex) (cl : CL) (σ : Sw) (h : Hw) : xNeO tab a b cl σ h = (a cl σ h).bind fun x h1 => (b cl σ h1).bind fun y h2 => neO cl tab x y h2 := rfl
abbrev rtB : Sx := sIf (xOr (xEqO [(2, 15)] (xVar 2) (xVar 3)) (xNot (xNeO [(2, 15)] (xVar 2) (xVar 3)))) (sRet (xCon (.bl false))) (sPass)
theorem thing_ok {k : Nat} {tx : List Nat} {ns : List W} {th : W} {s0 s1 a : Option W} (hf : W.unders 0 ns = true) (hth : W.under 0 th = true) (hty : ∀ h, gIsC [(2, true)] [th] h = .ok (.bl false) h)
    (e1 : eqO (callF fns (k + 1)) [(2, 15)] (prg (.str tx) ns) th [] = callF fns (k + 1) 15 [prg (.str tx) ns, th] []) (e2 : neO (callF fns (k + 1)) [(2, 15)] (prg (.str tx) ns) th [] = (callF fns (k + 1) 15 [prg (.str tx) ns, th] []).bind notR) :
    (tName 3 (callF fns (k + 1)) th [s0, s1, some (prg (.str tx) ns), a] []).calm.st [s0, s1, some (prg (.str tx) ns), a] (fun σ1 h3 => rtB (callF fns (k + 1)) σ1 h3) = .ok (.nx [s0, s1, some (prg (.str tx) ns), some th]) [] := by
  have q := eq_none (k := k) (tx := tx) (H := []) hf hth hty
  have tn : tName 3 (callF fns (k + 1)) th [s0, s1, some (prg (.str tx) ns), a] [] = .ok [s0, s1, some (prg (.str tx) ns), some th] [] := rfl
  rw [tn, r_calm, r_st]
  rw [q] at e1 e2
  have c1 : xEqO [(2, 15)] (xVar 2) (xVar 3) (callF fns (k + 1)) [s0, s1, some (prg (.str tx) ns), some th] [] = .ok (.bl false) [] := e1
  have c2 : xNeO [(2, 15)] (xVar 2) (xVar 3) (callF fns (k + 1)) [s0, s1, some (prg (.str tx) ns), some th] [] = .ok (.bl true) [] := e2
  show sIf _ _ _ _ _ _ = _
  rw [st_if, v_or, c1, r_bind]
  show (xNot _ _ _ _).st _ _ = _
  rw [v_not, c2]; rfl
theorem call_right {k many : Nat} {rs : List Rw} {l : List Nd} {H : Hw} (T : TxOk rs.length rs) (hn : nds rs = l.map ndW) (hm : many ≤ 10) (hr : ∀ n ∈ l, Rok many true n) (hl : l.length ≤ 8) : callF fns (k + 5) 7 [.str (txt rs), .tup (l.map ndW)] H = .ok (.bl true) H := by
  refine run_pure (fn := ⟨2, 4, true, b7⟩) (h' := []) rfl rfl rfl (by show (true && (W.unders 0 (l.map ndW) && true)) = true; rw [nds_free]; rfl) ?_ rfl
  show (b7 (callF fns (k + 4)) [some (.str (txt rs)), some (.tup (l.map ndW)), none, none] []).back = _
  have tl := txt_len T
  have nf := nds_free l
  have nm : ∀ n ∈ l, Nm n.c := fun n h => (hr n h).c
  have q := call_parse (k := k) (H := []) T
  rw [hn] at q
  have so := str_obj (k := k + 3) (tx := txt rs) (ns := l.map ndW) (H := []) (by omega) nf
  have lk : ∀ h, look h (prg (.str (txt rs)) (l.map ndW)) = .obj 2 [0, 1] [.str (txt rs), .tup (l.map ndW)] := fun _ => rfl
  obtain ⟨t, gr⟩ := g_repr (h := []) (rp_tup (b := 1000) (n := 8) (xs := l.map ndW) (fun w hw => by
    obtain ⟨n, hn, rfl⟩ := List.mem_map.mp hw
    exact rp_node (hr n hn) hm) (by rw [List.length_map]; exact hl)) (by omega) (nds_lay nm) (show W.under 0 (.tup (l.map ndW)) = true from nf)
  have s1 : sAsg (tName 2) (xCall 8 (xsCons (xVar 0) (xsNil))) (callF fns (k + 4)) [some (.str (txt rs)), some (.tup (l.map ndW)), none, none] [] = .ok (.nx [some (.str (txt rs)), some (.tup (l.map ndW)), some (prg (.str (txt rs)) (l.map ndW)), none]) [] := by
    simp [gn_name, q]
  have s2 : sIf (xOr (xCmp .ne (xStrO [(2, 14)] (xsCons (xVar 2) (xsNil))) (xVar 0)) (xCmp .ne (xF gRepr (xsCons (xAttr [2] 1 (xVar 2)) (xsNil))) (xF gRepr (xsCons (xVar 1) (xsNil))))) (sRet (xCon (.bl false))) (sPass) (callF fns (k + 4)) [some (.str (txt rs)), some (.tup (l.map ndW)), some (prg (.str (txt rs)) (l.map ndW)), none] [] = .ok (.nx [some (.str (txt rs)), some (.tup (l.map ndW)), some (prg (.str (txt rs)) (l.map ndW)), none]) [] := by
    simp [v_so, so, ne_str_same, lk, List.lookup, gr]
  have z1 : callF fns (k + 4) 8 [.str [119, 114, 105, 116, 101, 32, 122, 122]] [] = .ok (prg (.str [119, 114, 105, 116, 101, 32, 122, 122]) [.tup [.str [119, 114, 105, 116, 101], .str [122, 122], .tup [.non]]]) [] :=
    call_parse (k := k) (rs := [(false, ⟨false, [122, 122], [], true⟩)]) ⟨by simp, by simp, rfl, fun r hr => by
      rw [List.mem_singleton.mp hr]
      exact ⟨⟨by decide, by decide, by decide⟩, ⟨(fun _ h => by cases h), (fun _ h => by cases h), .inr rfl⟩, (fun _ => ⟨rfl, rfl⟩), Nat.zero_le _⟩⟩
  have lz : ∀ h, look h (prg (.str [119, 114, 105, 116, 101, 32, 122, 122]) [.tup [.str [119, 114, 105, 116, 101], .str [122, 122], .tup [.non]]]) = .obj 2 [0, 1] [.str [119, 114, 105, 116, 101, 32, 122, 122], .tup [.tup [.str [119, 114, 105, 116, 101], .str [122, 122], .tup [.non]]]] := fun _ => rfl
  have nz : cmpW .ne (.tup [.tup [.str [119, 114, 105, 116, 101], .str [122, 122], .tup [.non]]]) (.tup [.tup [.str [119, 114, 105, 116, 101], .str [122, 122], .tup [.non]]]) [] = .ok (.bl false) [] := rfl
  have s3 : sIf (xOr (xCmp .ne (xAttr [2] 1 (xUs [(2, 8)] 2 (xVar 2) (xsCons (xCon (.str [119, 114, 105, 116, 101, 32, 122, 122])) (xsNil)))) (xTup (xsCons (xTup (xsCons (xCon (.str [119, 114, 105, 116, 101])) (xsCons (xCon (.str [122, 122])) (xsCons (xTup (xsCons (xCon .non) (xsNil))) (xsNil))))) (xsNil)))) (xCmp .ne (xStrO [(2, 14)] (xsCons (xUs [(2, 8)] 2 (xVar 2) (xsCons (xVar 0) (xsNil))) (xsNil))) (xVar 0))) (sRet (xCon (.bl false))) (sPass) (callF fns (k + 4)) [some (.str (txt rs)), some (.tup (l.map ndW)), some (prg (.str (txt rs)) (l.map ndW)), none] [] = .ok (.nx [some (.str (txt rs)), some (.tup (l.map ndW)), some (prg (.str (txt rs)) (l.map ndW)), none]) [] := by
    simp [v_so, v_us, lk, List.lookup, z1, lz, nz, most, q, so, ne_str_same]
  have sr : src .seq (xsCons (xLst false (xsCons (xVar 0) (xsCons (xCon .non) (xsCons (xCon (.int 0)) (xsCons (xAttr [2] 1 (xVar 2)) (xsCons (xLst false (xsCons (xVar 2) (xsNil))) (xsNil))))))) xsNil) (callF fns (k + 4)) [some (.str (txt rs)), some (.tup (l.map ndW)), some (prg (.str (txt rs)) (l.map ndW)), none] [] = .ok ([.lst [.str (txt rs), .non, .int 0, .tup (l.map ndW), .lst [prg (.str (txt rs)) (l.map ndW)]]], [.str (txt rs), .non, .int 0, .tup (l.map ndW), .lst [prg (.str (txt rs)) (l.map ndW)]]) [] := rfl
  have hP : W.under 0 (.lst [prg (.str (txt rs)) (l.map ndW)]) = true := by show ((true && (W.unders 0 (l.map ndW) && true)) && true) = true; rw [nf]; rfl
  have s4 := (s_for (t := tName 3) (b := rtB) sr).trans ((for_cons rfl (thing_ok (k := k + 3) nf rfl (fun _ => rfl) rfl rfl)).trans ((for_cons rfl (thing_ok (k := k + 3) nf rfl (fun _ => rfl) rfl rfl)).trans ((for_cons rfl (thing_ok (k := k + 3) nf rfl (fun _ => rfl) rfl rfl)).trans ((for_cons rfl (thing_ok (k := k + 3) (th := .tup (l.map ndW)) nf nf (fun _ => rfl) rfl rfl)).trans ((for_cons rfl (thing_ok (k := k + 3) nf hP (fun _ => rfl) rfl rfl)).trans (for_nil rfl))))))
  unfold b7
  rw [s_seq s1, s_seq s2, s_seq s3, s_seq s4]; rfl
end K10
namespace K10
open Ov
def rows0 (l : List Nd) : List Rw := l.map fun n => (fu n, n)
def rows1 (l : List Nd) : List Rw := l.map fun n => (true, n)
structure Lok (l : List Nd) : Prop where
  ne : l ≠ []
  le : l.length ≤ 8
  ok : ∀ n ∈ l, Rok l.length true n
theorem Lok.tok {l : List Nd} (L : Lok l) {f : Nd → Bool} (h : ∀ n ∈ l, Rok l.length (f n) n) : TxOk (l.map fun n => (f n, n)).length (l.map fun n => (f n, n)) := by
  refine ⟨by simpa using L.ne, by rw [List.length_map]; exact L.le, rfl, fun r hr => ?_⟩
  obtain ⟨n, hn, rfl⟩ := List.mem_map.mp hr
  rw [List.length_map]
  exact h n hn
theorem Lok.fu {l : List Nd} (L : Lok l) : TxOk (rows0 l).length (rows0 l) := L.tok fun n hn => fu_ok (L.ok n hn)
theorem Lok.yes {l : List Nd} (L : Lok l) : TxOk (rows1 l).length (rows1 l) := L.tok L.ok
theorem nds_map {l : List Nd} (f : Nd → Bool) : nds (l.map fun n => (f n, n)) = l.map ndW := by unfold nds; rw [List.map_map]; rfl
theorem Lok.names {l : List Nd} (L : Lok l) : ∀ n ∈ l, Nm n.c := fun n hn => (L.ok n hn).c
abbrev En := List Nat × List Nd
def eW (e : En) : W := .tup [.str e.1, prg (.str e.1) (e.2.map ndW)]
theorem ints_free : ∀ ns : List Int, W.unders 0 (ns.map W.int) = true
  | [] => rfl
  | _ :: r => ints_free r
theorem sub_mid (a b : List Nat) : isSub [45, 62] (a ++ [45, 62] ++ b) = true := (sub_iff _ _).mpr ⟨a.length, by simp, by simp⟩
theorem sub_no {t : List Nat} (h : 45 ∉ t) : isSub [45, 62] t = false := by
  cases q : isSub [45, 62] t with
  | false => rfl
  | true =>
    obtain ⟨i, _, e⟩ := (sub_iff _ _).mp q
    have : 45 ∈ (t.drop i).take 2 := by rw [show (2 : Nat) = ([45, 62] : List Nat).length from rfl, e]; simp
    exact absurd (List.mem_of_mem_drop (List.mem_of_mem_take this)) h
theorem bare_of {n : Nd} (h : fu n = false) : n.t = [] ∧ n.e = true := by
  unfold fu at h
  have h2 : (n.t.isEmpty && n.e) = true := by cases q : (n.t.isEmpty && n.e) <;> simp_all
  have h3 := Bool.and_eq_true_iff.mp h2
  exact ⟨List.isEmpty_iff.mp h3.1, h3.2⟩
theorem sub_row {many : Nat} {n : Nd} (R : Rok many true n) : isSub [45, 62] (rowT (fu n) n) = fu n := by
  cases q : fu n with
  | true =>
    rw [rowT_full R.t.n]
    have := sub_mid (wd n.w ++ [32] ++ n.c ++ [32]) (32 :: joinBy [32] (wrds n.t n.e))
    simpa [List.append_assoc] using this
  | false =>
    rw [rowT_bare]
    refine sub_no fun h => ?_
    rcases List.mem_append.mp h with h | h
    · exact absurd h (by cases n.w <;> decide)
    · exact absurd h (R.c.no (by decide))
theorem full_row {many : Nat} {n : Nd} (R : Rok many true n) (q : fu n = false) : rowT (fu n) n ++ [32, 45, 62, 32, 101, 110, 100] = rowT true n := by
  obtain ⟨h1, h2⟩ := bare_of q
  rw [rowT_full R.t.n, q, rowT_bare, h1, h2]
  simp [wrds, endW, joinBy]
theorem sames_all : ∀ {xs : List W}, (∀ x ∈ xs, W.same x x = true) → W.sames xs xs = true
  | [], _ => rfl
  | x :: r, h => by
    show (W.same x x && W.sames r r) = true
    rw [h x (List.mem_cons_self ..), sames_all fun y hy => h y (List.mem_cons_of_mem _ hy)]; rfl
theorem same_int (i : Int) : W.same (.int i) (.int i) = true := decide_eq_true rfl
theorem same_str (s : List Nat) : W.same (.str s) (.str s) = true := seq_refl s
theorem same_tg (t : List Nat) (e : Bool) : W.sames (tgW t e) (tgW t e) = true := sames_all fun w hw => by
  unfold tgW at hw
  rcases List.mem_append.mp hw with h | h
  · obtain ⟨x, _, rfl⟩ := List.mem_map.mp h; exact same_int _
  · cases e with
    | true => rw [List.mem_singleton.mp h]; rfl
    | false => cases h
theorem same_nd (n : Nd) : W.same (ndW n) (ndW n) = true := by
  show (W.same (.str (wd n.w)) (.str (wd n.w)) && (W.same (.str n.c) (.str n.c) && (W.sames (tgW n.t n.e) (tgW n.t n.e) && true))) = true
  rw [same_str, same_str, same_tg]; rfl
theorem same_nds (l : List Nd) : W.sames (l.map ndW) (l.map ndW) = true := sames_all fun w hw => by
  obtain ⟨n, _, rfl⟩ := List.mem_map.mp hw
  exact same_nd n
theorem same_en (e : En) : W.same (eW e) (eW e) = true := by
  show (W.same (.str e.1) (.str e.1) && ((Nat.beq 2 2 && seqNat [0, 1] [0, 1] && (W.same (.str e.1) (.str e.1) && (W.sames (e.2.map ndW) (e.2.map ndW) && true))) && true)) = true
  rw [same_str, same_nds]; rfl
theorem stands_kept {h : Hw} {m : Nat} {es : List En} (e : h[m]? = some (.lst (es.map eW))) : stands h h [.ref m] = true := by
  show ((match h[m]?, h[m]? with
    | some a, some b => Cell.same a b
    | _, _ => false) && true) = true
  rw [e]
  show (W.sames (es.map eW) (es.map eW) && true) = true
  rw [sames_all fun w hw => by
    obtain ⟨x, _, rfl⟩ := List.mem_map.mp hw
    exact same_en x]; rfl
theorem src_kept {cl : CL} {σ : Sw} {h : Hw} {m : Nat} {es : List En} (v : xsCons (xVar 3) xsNil cl σ h = .ok [.ref m] h) (e : h[m]? = some (.lst (es.map eW))) (l : es.length < 100) : src .seq (xsCons (xVar 3) xsNil) cl σ h = .ok ([.ref m], es.map eW) h := by
  refine src_free v ?_ (by rw [List.length_map]; omega)
  have : lookS h (.ref m) = .lst (es.map eW) := by unfold lookS; simp only [e]
  show walked .seq [lookS h (.ref m)] = _
  rw [this]; rfl
abbrev INNER : Sx := sSeq (sIf (xNot (xCall 7 (xsCons (xVar 9) (xsCons (xVar 5) (xsNil))))) (sRet (xCon (.bl false))) (sPass)) (sEx (xM .list mAppend (xVar 3) (xsCons (xTup (xsCons (xVar 9) (xsCons (xCall 8 (xsCons (xVar 9) (xsNil))) (xsNil)))) (xsNil))))
abbrev TURN : Sx := sSeq (sAsg (tName 5) (xCall 2 (xsCons (xVar 2) (xsCons (xCall 5 (xsCons (xVar 2) (xsNil))) (xsCons (xCon (.int 8)) (xsNil)))))) (sSeq (sAsg (tName 6) (xCall 6 (xsCons (xVar 5) (xsNil)))) (sSeq (sAsg (tName 7) (xM .str (mSplit false) (xVar 6) (xsCons (xCon (.str [10])) (xsNil)))) (sSeq (sAsg (tName 8) (xM .str mJoin (xCon (.str [10])) (xsCons (xComp false [14] (tName 14) .seq (xsCons (xVar 7) xsNil) ifNil (xIte (xInS false (xCon (.str [45, 62])) (xVar 14)) (xVar 14) (xBin .add (xVar 14) (xCon (.str [32, 45, 62, 32, 101, 110, 100]))))) (xsNil)))) (sFor (tName 9) .seq (xsCons (xTup (xsCons (xVar 6) (xsCons (xVar 8) (xsNil)))) xsNil) (sSeq (sIf (xNot (xCall 7 (xsCons (xVar 9) (xsCons (xVar 5) (xsNil))))) (sRet (xCon (.bl false))) (sPass)) (sEx (xM .list mAppend (xVar 3) (xsCons (xTup (xsCons (xVar 9) (xsCons (xCall 8 (xsCons (xVar 9) (xsNil))) (xsNil)))) (xsNil)))))))))
abbrev DD : Sx := sIf (xOr (xCmp .ne (xEqO [(2, 15)] (xVar 11) (xVar 13)) (xCmp .eq (xVar 10) (xVar 12))) (xCmp .ne (xNeO [(2, 15)] (xVar 11) (xVar 13)) (xCmp .ne (xVar 10) (xVar 12)))) (sRet (xCon (.bl false))) (sPass)
abbrev D1 : Sx := sFor (tTup 2 (tsCons (tName 12) (tsCons (tName 13) (tsNil)))) .seq (xsCons (xVar 3) xsNil) (sIf (xOr (xCmp .ne (xEqO [(2, 15)] (xVar 11) (xVar 13)) (xCmp .eq (xVar 10) (xVar 12))) (xCmp .ne (xNeO [(2, 15)] (xVar 11) (xVar 13)) (xCmp .ne (xVar 10) (xVar 12)))) (sRet (xCon (.bl false))) (sPass))
abbrev OUTER : Sx := sSeq (sAsg (tName 2) (xCall 1 (xsCons (xVar 0) (xsCons (xVar 1) (xsNil))))) (sSeq (sAsg (tName 3) (xLst true (xsNil))) (sSeq (sFor (tName 4) .range (xsCons (xCon (.int 5)) (xsNil)) (sSeq (sAsg (tName 5) (xCall 2 (xsCons (xVar 2) (xsCons (xCall 5 (xsCons (xVar 2) (xsNil))) (xsCons (xCon (.int 8)) (xsNil)))))) (sSeq (sAsg (tName 6) (xCall 6 (xsCons (xVar 5) (xsNil)))) (sSeq (sAsg (tName 7) (xM .str (mSplit false) (xVar 6) (xsCons (xCon (.str [10])) (xsNil)))) (sSeq (sAsg (tName 8) (xM .str mJoin (xCon (.str [10])) (xsCons (xComp false [14] (tName 14) .seq (xsCons (xVar 7) xsNil) ifNil (xIte (xInS false (xCon (.str [45, 62])) (xVar 14)) (xVar 14) (xBin .add (xVar 14) (xCon (.str [32, 45, 62, 32, 101, 110, 100]))))) (xsNil)))) (sFor (tName 9) .seq (xsCons (xTup (xsCons (xVar 6) (xsCons (xVar 8) (xsNil)))) xsNil) (sSeq (sIf (xNot (xCall 7 (xsCons (xVar 9) (xsCons (xVar 5) (xsNil))))) (sRet (xCon (.bl false))) (sPass)) (sEx (xM .list mAppend (xVar 3) (xsCons (xTup (xsCons (xVar 9) (xsCons (xCall 8 (xsCons (xVar 9) (xsNil))) (xsNil)))) (xsNil))))))))))) (sFor (tTup 2 (tsCons (tName 10) (tsCons (tName 11) (tsNil)))) .seq (xsCons (xVar 3) xsNil) (sFor (tTup 2 (tsCons (tName 12) (tsCons (tName 13) (tsNil)))) .seq (xsCons (xVar 3) xsNil) (sIf (xOr (xCmp .ne (xEqO [(2, 15)] (xVar 11) (xVar 13)) (xCmp .eq (xVar 10) (xVar 12))) (xCmp .ne (xNeO [(2, 15)] (xVar 11) (xVar 13)) (xCmp .ne (xVar 10) (xVar 12)))) (sRet (xCon (.bl false))) (sPass))))))
section
variable {k n m : Nat} {l : List Nd} {S a1 a2 a3 a4 a5 a6 a7 a8 a9 a10 a11 a12 a13 a14 : Option W} {h : Hw} {es : List En}
theorem fr_set {n m : Nat} {h : Hw} {c : Cell} (f : Fd n h) (nm : m ≠ n) : Fd n (h.set m c) := by
  obtain ⟨d, e, q, p⟩ := f
  exact ⟨d, e, by rw [List.getElem?_set_ne nm]; exact q, p⟩
theorem inner_ok {f : Nd → Bool} (L : Lok l) (hr : ∀ n ∈ l, Rok l.length (f n) n) (hm : h[m]? = some (.lst (es.map eW))) (hl : es.length < 100) :
    INNER (callF fns (k + 5)) [S, a1, a2, some (.ref m), a4, some (.tup (l.map ndW)), a6, a7, a8, some (.str (txt (l.map fun n => (f n, n)))), a10, a11, a12, a13, a14] h = .ok (.nx [S, a1, a2, some (.ref m), a4, some (.tup (l.map ndW)), a6, a7, a8, some (.str (txt (l.map fun n => (f n, n)))), a10, a11, a12, a13, a14]) (h.set m (.lst ((es ++ [(txt (l.map fun n => (f n, n)), l)]).map eW))) := by
  have T := L.tok hr
  have q1 := call_right (k := k) (H := h) T (nds_map f) (show l.length ≤ 10 by have := L.le; omega) L.ok L.le
  have q2 := call_parse (k := k + 1) (H := h) T
  rw [nds_map] at q2
  have q2 : callF fns (k + 5) 8 [.str (txt (l.map fun n => (f n, n)))] h = .ok (prg (.str (txt (l.map fun n => (f n, n)))) (l.map ndW)) h := q2
  have s1 : sIf (xNot (xCall 7 (xsCons (xVar 9) (xsCons (xVar 5) (xsNil))))) (sRet (xCon (.bl false))) (sPass) (callF fns (k + 5)) [S, a1, a2, some (.ref m), a4, some (.tup (l.map ndW)), a6, a7, a8, some (.str (txt (l.map fun n => (f n, n)))), a10, a11, a12, a13, a14] h = .ok (.nx [S, a1, a2, some (.ref m), a4, some (.tup (l.map ndW)), a6, a7, a8, some (.str (txt (l.map fun n => (f n, n)))), a10, a11, a12, a13, a14]) h := by
    simp [q1]
  have ap := app_ok (w := eW (txt (l.map fun n => (f n, n)), l)) hm (by rw [List.length_map]; omega)
  have lk := look_lst' hm
  have s2 : sEx (xM .list mAppend (xVar 3) (xsCons (xTup (xsCons (xVar 9) (xsCons (xCall 8 (xsCons (xVar 9) (xsNil))) (xsNil)))) (xsNil))) (callF fns (k + 5)) [S, a1, a2, some (.ref m), a4, some (.tup (l.map ndW)), a6, a7, a8, some (.str (txt (l.map fun n => (f n, n)))), a10, a11, a12, a13, a14] h = .ok (.nx [S, a1, a2, some (.ref m), a4, some (.tup (l.map ndW)), a6, a7, a8, some (.str (txt (l.map fun n => (f n, n)))), a10, a11, a12, a13, a14]) (h.set m (.lst (es.map eW ++ [eW (txt (l.map fun n => (f n, n)), l)]))) := by
    unfold eW at ap ⊢
    simp [lk, isKd, q2, most, ap]
  rw [List.map_append]
  unfold INNER
  rw [s_seq s1, s2]; rfl
theorem turn_ok (f : Fd n h) (nm : m ≠ n) (hm : h[m]? = some (.lst (es.map eW))) (hl : es.length < 20) : ∃ (e1 e2 : En) (b5 b6 b7 b8 b9 b10 b11 b12 b13 b14 : Option W) (h' : Hw), TURN (callF fns (k + 5)) [S, a1, some (.ref n), some (.ref m), a4, a5, a6, a7, a8, a9, a10, a11, a12, a13, a14] h = .ok (.nx [S, a1, some (.ref n), some (.ref m), a4, b5, b6, b7, b8, b9, b10, b11, b12, b13, b14]) h' ∧ Fd n h' ∧ h'[m]? = some (.lst ((es ++ [e1, e2]).map eW)) := by
  have lm : m < h.length := (List.getElem?_eq_some_iff.mp hm).1
  obtain ⟨cs, h1, q1, N, f1, k1⟩ := call_names (k := k + 2) f
  have q1 : callF fns (k + 5) 5 [.ref n] h = .ok (.lst cs) h1 := q1
  have hm1 : h1[m]? = some (.lst (es.map eW)) := (k1 m nm lm).trans hm
  have lm1 : m < h1.length := (List.getElem?_eq_some_iff.mp hm1).1
  obtain ⟨l, h2, q2, hn, hl8, hr, f2, k2⟩ := call_nodes (k := k + 2) N f1
  have q2 : callF fns (k + 5) 2 [.ref n, .lst cs, .int 8] h1 = .ok (.tup (l.map ndW)) h2 := q2
  have hm2 : h2[m]? = some (.lst (es.map eW)) := (k2 m nm lm1).trans hm1
  have lm2 : m < h2.length := (List.getElem?_eq_some_iff.mp hm2).1
  have L : Lok l := ⟨hn, hl8, hr⟩
  have q3 := call_text (k := k + 4) (H := h2) (show l.length ≤ 10 by omega) hr hl8
  have q3 : callF fns (k + 5) 6 [.tup (l.map ndW)] h2 = .ok (.str (txt (rows0 l))) h2 := q3
  have s1 : sAsg (tName 5) (xCall 2 (xsCons (xVar 2) (xsCons (xCall 5 (xsCons (xVar 2) (xsNil))) (xsCons (xCon (.int 8)) (xsNil))))) (callF fns (k + 5)) [S, a1, some (.ref n), some (.ref m), a4, a5, a6, a7, a8, a9, a10, a11, a12, a13, a14] h = .ok (.nx [S, a1, some (.ref n), some (.ref m), a4, some (.tup (l.map ndW)), a6, a7, a8, a9, a10, a11, a12, a13, a14]) h2 := by
    simp [gn_name, q1, q2]
  have s2 : sAsg (tName 6) (xCall 6 (xsCons (xVar 5) (xsNil))) (callF fns (k + 5)) [S, a1, some (.ref n), some (.ref m), a4, some (.tup (l.map ndW)), a6, a7, a8, a9, a10, a11, a12, a13, a14] h2 = .ok (.nx [S, a1, some (.ref n), some (.ref m), a4, some (.tup (l.map ndW)), some (.str (txt (rows0 l))), a7, a8, a9, a10, a11, a12, a13, a14]) h2 := by
    simp [gn_name, q3]
  have T := L.fu
  have tl := txt_len T
  have ll : (rows0 l).length = l.length := List.length_map ..
  have sp := split_ok (c := 10) (h := h2) (show (txt (rows0 l)).length < 16000000 by omega)
  rw [txt_split T] at sp
  have s3 : sAsg (tName 7) (xM .str (mSplit false) (xVar 6) (xsCons (xCon (.str [10])) (xsNil))) (callF fns (k + 5)) [S, a1, some (.ref n), some (.ref m), a4, some (.tup (l.map ndW)), some (.str (txt (rows0 l))), a7, a8, a9, a10, a11, a12, a13, a14] h2 = .ok (.nx [S, a1, some (.ref n), some (.ref m), a4, some (.tup (l.map ndW)), some (.str (txt (rows0 l))), some (.lst (rwW (rows0 l))), a8, a9, a10, a11, a12, a13, a14]) h2 := by
    simp [gn_name, isKd, sp]
  have cm : xComp false [14] (tName 14) .seq (xsCons (xVar 7) xsNil) ifNil (xIte (xInS false (xCon (.str [45, 62])) (xVar 14)) (xVar 14) (xBin .add (xVar 14) (xCon (.str [32, 45, 62, 32, 101, 110, 100])))) (callF fns (k + 5)) [S, a1, some (.ref n), some (.ref m), a4, some (.tup (l.map ndW)), some (.str (txt (rows0 l))), some (.lst (rwW (rows0 l))), a8, a9, a10, a11, a12, a13, a14] h2 = .ok (.lst ((l.map fun n => rowT true n).map .str)) h2 := by
    have er : rwW (rows0 l) = l.map fun n => W.str (rowT (fu n) n) := by unfold rwW rows0; rw [List.map_map]; rfl
    rw [er, List.map_map]
    refine v_comp (ws := [.lst (l.map fun n => W.str (rowT (fu n) n))]) (xs := l.map fun n => W.str (rowT (fu n) n)) (src_free rfl rfl (by rw [List.length_map]; omega)) (comp_map (l := l) (a := fun n => .str (rowT (fu n) n)) (b := fun n => .str (rowT true n)) rfl fun x hx => ?_)
    have R := hr x hx
    refine turn_yes (σ1 := [S, a1, some (.ref n), some (.ref m), a4, some (.tup (l.map ndW)), some (.str (txt (rows0 l))), some (.lst (l.map fun n => W.str (rowT (fu n) n))), a8, a9, a10, a11, a12, a13, some (.str (rowT (fu x) x))]) rfl rfl ?_
    have ci : xInS false (xCon (.str [45, 62])) (xVar 14) (callF fns (k + 5)) [S, a1, some (.ref n), some (.ref m), a4, some (.tup (l.map ndW)), some (.str (txt (rows0 l))), some (.lst (l.map fun n => W.str (rowT (fu n) n))), a8, a9, a10, a11, a12, a13, some (.str (rowT (fu x) x))] h2 = .ok (.bl (fu x)) h2 := by
      show Ov.R.ok (W.bl (isSub [45, 62] (rowT (fu x) x))) h2 = _
      rw [sub_row R]
    rw [v_ite, ci, r_bind]
    cases q : fu x with
    | true => rfl
    | false =>
      have rl := rowT_len (fu_ok R)
      have ad := add_str (s := rowT (fu x) x) (t := [32, 45, 62, 32, 101, 110, 100]) (by simp; omega)
      rw [full_row R q, q] at ad
      simp [ad]
  have jo := join_ok (sep := [10]) (ws := l.map fun n => rowT true n) (x := .lst ((l.map fun n => rowT true n).map .str)) (h := h2) rfl (by have := rows_sum (f := fun _ => true) hr hl8; have e1 : ([10] : List Nat).length = 1 := rfl; rw [e1]; omega)
  rw [show joinBy [10] (l.map fun n => rowT true n) = txt (rows1 l) by unfold txt rows1; rw [List.map_map]; rfl] at jo
  have s4 : sAsg (tName 8) (xM .str mJoin (xCon (.str [10])) (xsCons (xComp false [14] (tName 14) .seq (xsCons (xVar 7) xsNil) ifNil (xIte (xInS false (xCon (.str [45, 62])) (xVar 14)) (xVar 14) (xBin .add (xVar 14) (xCon (.str [32, 45, 62, 32, 101, 110, 100]))))) (xsNil))) (callF fns (k + 5)) [S, a1, some (.ref n), some (.ref m), a4, some (.tup (l.map ndW)), some (.str (txt (rows0 l))), some (.lst (rwW (rows0 l))), a8, a9, a10, a11, a12, a13, a14] h2 = .ok (.nx [S, a1, some (.ref n), some (.ref m), a4, some (.tup (l.map ndW)), some (.str (txt (rows0 l))), some (.lst (rwW (rows0 l))), some (.str (txt (rows1 l))), a9, a10, a11, a12, a13, a14]) h2 := by
    rw [st_asg, v_M, v_con, r_bind]
    rw [if_pos (show isKd .str (look h2 (.str [10])) = true from rfl), v_cons, cm, r_bind, v_nil, r_bind, r_bind, jo, r_st]; rfl
  have i1 := inner_ok (k := k) (S := S) (a1 := a1) (a2 := some (.ref n)) (a4 := a4) (a6 := some (.str (txt (rows0 l)))) (a7 := some (.lst (rwW (rows0 l)))) (a8 := some (.str (txt (rows1 l)))) (a10 := a10) (a11 := a11) (a12 := a12) (a13 := a13) (a14 := a14) L (f := fu) (fun n hn => fu_ok (L.ok n hn)) hm2 (by omega)
  have hm3 : (h2.set m (.lst ((es ++ [(txt (rows0 l), l)]).map eW)))[m]? = some (.lst ((es ++ [(txt (rows0 l), l)]).map eW)) := List.getElem?_set_self lm2
  have i2 := inner_ok (k := k) (S := S) (a1 := a1) (a2 := some (.ref n)) (a4 := a4) (a6 := some (.str (txt (rows0 l)))) (a7 := some (.lst (rwW (rows0 l)))) (a8 := some (.str (txt (rows1 l)))) (a10 := a10) (a11 := a11) (a12 := a12) (a13 := a13) (a14 := a14) L (f := fun _ => true) L.ok hm3 (by simp; omega)
  have sr : src .seq (xsCons (xTup (xsCons (xVar 6) (xsCons (xVar 8) (xsNil)))) xsNil) (callF fns (k + 5)) [S, a1, some (.ref n), some (.ref m), a4, some (.tup (l.map ndW)), some (.str (txt (rows0 l))), some (.lst (rwW (rows0 l))), some (.str (txt (rows1 l))), a9, a10, a11, a12, a13, a14] h2 = .ok ([.tup [.str (txt (rows0 l)), .str (txt (rows1 l))]], [.str (txt (rows0 l)), .str (txt (rows1 l))]) h2 := rfl
  have s5 := (s_for (t := tName 9) (b := INNER) sr).trans ((for_cons rfl i1).trans ((for_cons rfl i2).trans (for_nil rfl)))
  have hm4 : ((h2.set m (.lst ((es ++ [(txt (rows0 l), l)]).map eW))).set m (.lst ((es ++ [(txt (rows0 l), l)] ++ [(txt (rows1 l), l)]).map eW)))[m]? = some (.lst ((es ++ [(txt (rows0 l), l), (txt (rows1 l), l)]).map eW)) := by
    rw [List.getElem?_set_self (by rw [List.length_set]; exact lm2), List.append_assoc]; rfl
  refine ⟨(txt (rows0 l), l), (txt (rows1 l), l), some (.tup (l.map ndW)), some (.str (txt (rows0 l))), some (.lst (rwW (rows0 l))), some (.str (txt (rows1 l))), some (.str (txt (rows1 l))), a10, a11, a12, a13, a14, (h2.set m (.lst ((es ++ [(txt (rows0 l), l)]).map eW))).set m (.lst ((es ++ [(txt (rows0 l), l)] ++ [(txt (rows1 l), l)]).map eW)), ?_, fr_set (fr_set f2 nm) nm, hm4⟩
  unfold TURN
  rw [s_seq s1, s_seq s2, s_seq s3, s_seq s4]
  exact s5
theorem turns_go (nm : m ≠ n) {chk : Hw → Bool} (hc : ∀ h, chk h = true) : ∀ (items : List W) (es : List En) (a4 a5 a6 a7 a8 a9 a10 a11 a12 a13 a14 : Option W) (h : Hw), Fd n h → h[m]? = some (.lst (es.map eW)) → es.length + 2 * items.length ≤ 10 →
    ∃ (es' : List En) (b4 b5 b6 b7 b8 b9 b10 b11 b12 b13 b14 : Option W) (h' : Hw), forGo chk (fun x σ h => (tName 4 (callF fns (k + 5)) x σ h).calm.st σ fun σ1 h3 => TURN (callF fns (k + 5)) σ1 h3) items [S, a1, some (.ref n), some (.ref m), a4, a5, a6, a7, a8, a9, a10, a11, a12, a13, a14] h = .ok (.nx [S, a1, some (.ref n), some (.ref m), b4, b5, b6, b7, b8, b9, b10, b11, b12, b13, b14]) h' ∧ h'[m]? = some (.lst (es'.map eW)) ∧ es'.length ≤ 10 := by
  intro items
  induction items with
  | nil => intro es a4 a5 a6 a7 a8 a9 a10 a11 a12 a13 a14 h f hm hl; exact ⟨es, a4, a5, a6, a7, a8, a9, a10, a11, a12, a13, a14, h, for_nil (hc _), hm, by simp at hl; omega⟩
  | cons x r ih =>
    intro es a4 a5 a6 a7 a8 a9 a10 a11 a12 a13 a14 h f hm hl
    simp only [List.length_cons] at hl
    obtain ⟨e1, e2, b5, b6, b7, b8, b9, b10, b11, b12, b13, b14, h1, e, f1, hm1⟩ := turn_ok (k := k) (S := S) (a1 := a1) (a4 := some x) (a5 := a5) (a6 := a6) (a7 := a7) (a8 := a8) (a9 := a9) (a10 := a10) (a11 := a11) (a12 := a12) (a13 := a13) (a14 := a14) f nm hm (by omega)
    obtain ⟨es', c4, c5, c6, c7, c8, c9, c10, c11, c12, c13, c14, h2, q, hm2, l2⟩ := ih (es ++ [e1, e2]) (some x) b5 b6 b7 b8 b9 b10 b11 b12 b13 b14 h1 f1 hm1 (by simp; omega)
    refine ⟨es', c4, c5, c6, c7, c8, c9, c10, c11, c12, c13, c14, h2, (for_cons (h1 := h1) (σ1 := [S, a1, some (.ref n), some (.ref m), some x, b5, b6, b7, b8, b9, b10, b11, b12, b13, b14]) (hc _) ?_).trans q, hm2, l2⟩
    have tn : tName 4 (callF fns (k + 5)) x [S, a1, some (.ref n), some (.ref m), a4, a5, a6, a7, a8, a9, a10, a11, a12, a13, a14] h = .ok [S, a1, some (.ref n), some (.ref m), some x, a5, a6, a7, a8, a9, a10, a11, a12, a13, a14] h := rfl
    show ((tName 4 (callF fns (k + 5)) x [S, a1, some (.ref n), some (.ref m), a4, a5, a6, a7, a8, a9, a10, a11, a12, a13, a14] h).calm.st _ fun σ1 h3 => TURN (callF fns (k + 5)) σ1 h3) = _
    rw [tn, r_calm, r_st]
    exact e
theorem ne_bl (b : Bool) (H : Hw) : cmpW .ne (.bl b) (.bl b) H = .ok (.bl false) H := by cases b <;> rfl
theorem dd_ok (d e : En) : DD (callF fns (k + 5)) [S, a1, a2, a3, a4, a5, a6, a7, a8, a9, some (.str d.1), some (prg (.str d.1) (d.2.map ndW)), some (.str e.1), some (prg (.str e.1) (e.2.map ndW)), a14] h = .ok (.nx [S, a1, a2, a3, a4, a5, a6, a7, a8, a9, some (.str d.1), some (prg (.str d.1) (d.2.map ndW)), some (.str e.1), some (prg (.str e.1) (e.2.map ndW)), a14]) h := by
  have q := eq_prog (k := k + 4) (tx := d.1) (t2 := e.1) (H := h) (nds_free d.2) (nds_free e.2)
  have q : callF fns (k + 5) 15 [prg (.str d.1) (d.2.map ndW), prg (.str e.1) (e.2.map ndW)] h = .ok (.bl (seqNat d.1 e.1)) h := q
  have e1 : eqO (callF fns (k + 5)) [(2, 15)] (prg (.str d.1) (d.2.map ndW)) (prg (.str e.1) (e.2.map ndW)) h = callF fns (k + 5) 15 [prg (.str d.1) (d.2.map ndW), prg (.str e.1) (e.2.map ndW)] h := rfl
  have e2 : neO (callF fns (k + 5)) [(2, 15)] (prg (.str d.1) (d.2.map ndW)) (prg (.str e.1) (e.2.map ndW)) h = (callF fns (k + 5) 15 [prg (.str d.1) (d.2.map ndW), prg (.str e.1) (e.2.map ndW)] h).bind notR := rfl
  rw [q] at e1 e2
  have e2 : neO (callF fns (k + 5)) [(2, 15)] (prg (.str d.1) (d.2.map ndW)) (prg (.str e.1) (e.2.map ndW)) h = .ok (.bl (!seqNat d.1 e.1)) h := e2
  have e3 := eq_strs (s := d.1) (t := e.1) (H := h)
  have e4 := ne_strs (s := d.1) (t := e.1) (H := h)
  simp [v_eqO, v_neO, e1, e2, e3, e4, ne_bl]
theorem d1_go {chk : Hw → Bool} (hc : chk h = true) (d : En) : ∀ (es : List En) (a12 a13 : Option W),
    ∃ (b12 b13 : Option W), forGo chk (fun x σ h => (tTup 2 (tsCons (tName 12) (tsCons (tName 13) (tsNil))) (callF fns (k + 5)) x σ h).calm.st σ fun σ1 h3 => DD (callF fns (k + 5)) σ1 h3) (es.map eW) [S, a1, a2, a3, a4, a5, a6, a7, a8, a9, some (.str d.1), some (prg (.str d.1) (d.2.map ndW)), a12, a13, a14] h = .ok (.nx [S, a1, a2, a3, a4, a5, a6, a7, a8, a9, some (.str d.1), some (prg (.str d.1) (d.2.map ndW)), b12, b13, a14]) h := by
  intro es
  induction es with
  | nil => intro a12 a13; exact ⟨a12, a13, for_nil hc⟩
  | cons e r ih =>
    intro a12 a13
    obtain ⟨b12, b13, q⟩ := ih (some (.str e.1)) (some (prg (.str e.1) (e.2.map ndW)))
    refine ⟨b12, b13, (for_cons (h1 := h) (σ1 := [S, a1, a2, a3, a4, a5, a6, a7, a8, a9, some (.str d.1), some (prg (.str d.1) (d.2.map ndW)), some (.str e.1), some (prg (.str e.1) (e.2.map ndW)), a14]) hc ?_).trans q⟩
    have tn : tTup 2 (tsCons (tName 12) (tsCons (tName 13) (tsNil))) (callF fns (k + 5)) (eW e) [S, a1, a2, a3, a4, a5, a6, a7, a8, a9, some (.str d.1), some (prg (.str d.1) (d.2.map ndW)), a12, a13, a14] h = .ok [S, a1, a2, a3, a4, a5, a6, a7, a8, a9, some (.str d.1), some (prg (.str d.1) (d.2.map ndW)), some (.str e.1), some (prg (.str e.1) (e.2.map ndW)), a14] h := rfl
    show ((tTup 2 (tsCons (tName 12) (tsCons (tName 13) (tsNil))) (callF fns (k + 5)) (eW e) [S, a1, a2, a3, a4, a5, a6, a7, a8, a9, some (.str d.1), some (prg (.str d.1) (d.2.map ndW)), a12, a13, a14] h).calm.st _ fun σ1 h3 => DD (callF fns (k + 5)) σ1 h3) = _
    rw [tn, r_calm, r_st]
    exact dd_ok d e
theorem d2_go {es0 : List En} (hm : h[m]? = some (.lst (es0.map eW))) (hl : es0.length ≤ 10) {chk : Hw → Bool} (hc : chk h = true) : ∀ (es : List En) (a10 a11 a12 a13 : Option W),
    ∃ (b10 b11 b12 b13 : Option W), forGo chk (fun x σ h => (tTup 2 (tsCons (tName 10) (tsCons (tName 11) (tsNil))) (callF fns (k + 5)) x σ h).calm.st σ fun σ1 h3 => D1 (callF fns (k + 5)) σ1 h3) (es.map eW) [S, a1, a2, some (.ref m), a4, a5, a6, a7, a8, a9, a10, a11, a12, a13, a14] h = .ok (.nx [S, a1, a2, some (.ref m), a4, a5, a6, a7, a8, a9, b10, b11, b12, b13, a14]) h := by
  intro es
  induction es with
  | nil => intro a10 a11 a12 a13; exact ⟨a10, a11, a12, a13, for_nil hc⟩
  | cons d r ih =>
    intro a10 a11 a12 a13
    obtain ⟨b12, b13, q⟩ := d1_go (k := k) (S := S) (a1 := a1) (a2 := a2) (a3 := some (.ref m)) (a4 := a4) (a5 := a5) (a6 := a6) (a7 := a7) (a8 := a8) (a9 := a9) (a14 := a14) (h := h) (chk := fun h' => stands h h' [.ref m]) (stands_kept hm) d es0 a12 a13
    obtain ⟨c10, c11, c12, c13, e⟩ := ih (some (.str d.1)) (some (prg (.str d.1) (d.2.map ndW))) b12 b13
    refine ⟨c10, c11, c12, c13, (for_cons (h1 := h) (σ1 := [S, a1, a2, some (.ref m), a4, a5, a6, a7, a8, a9, some (.str d.1), some (prg (.str d.1) (d.2.map ndW)), b12, b13, a14]) hc ?_).trans e⟩
    have tn : tTup 2 (tsCons (tName 10) (tsCons (tName 11) (tsNil))) (callF fns (k + 5)) (eW d) [S, a1, a2, some (.ref m), a4, a5, a6, a7, a8, a9, a10, a11, a12, a13, a14] h = .ok [S, a1, a2, some (.ref m), a4, a5, a6, a7, a8, a9, some (.str d.1), some (prg (.str d.1) (d.2.map ndW)), a12, a13, a14] h := rfl
    show ((tTup 2 (tsCons (tName 10) (tsCons (tName 11) (tsNil))) (callF fns (k + 5)) (eW d) [S, a1, a2, some (.ref m), a4, a5, a6, a7, a8, a9, a10, a11, a12, a13, a14] h).calm.st _ fun σ1 h3 => D1 (callF fns (k + 5)) σ1 h3) = _
    rw [tn, r_calm, r_st]
    have sr := src_kept (cl := callF fns (k + 5)) (σ := [S, a1, a2, some (.ref m), a4, a5, a6, a7, a8, a9, some (.str d.1), some (prg (.str d.1) (d.2.map ndW)), a12, a13, a14]) (h := h) rfl hm (by omega)
    exact (s_for (t := tTup 2 (tsCons (tName 12) (tsCons (tName 13) (tsNil)))) (b := DD) sr).trans q
end
section
variable {k : Nat}
theorem outer_ok {ns : List Int} (hn : ns.length < 1000) {i : Nat} {a2 a3 a4 a5 a6 a7 a8 a9 a10 a11 a12 a13 a14 : Option W} {h : Hw} : ∃ (b2 b3 b4 b5 b6 b7 b8 b9 b10 b11 b12 b13 b14 : Option W) (h' : Hw), OUTER (callF fns (k + 5)) [some (.scr (ns.map .int)), some (.int (i : Int)), a2, a3, a4, a5, a6, a7, a8, a9, a10, a11, a12, a13, a14] h = .ok (.nx [some (.scr (ns.map .int)), some (.int (i : Int)), b2, b3, b4, b5, b6, b7, b8, b9, b10, b11, b12, b13, b14]) h' := by
  obtain ⟨h1, q, f⟩ := call_feed (k := k + 4) (i := i) (h := h) hn
  have q : callF fns (k + 5) 1 [.scr (ns.map .int), .int (i : Nat)] h = .ok (.ref h.length) h1 := q
  have fl := f.lt
  have es : (xsCons (xVar 0) (xsCons (xVar 1) (xsNil))) (callF fns (k + 5)) [some (.scr (ns.map .int)), some (.int (i : Int)), a2, a3, a4, a5, a6, a7, a8, a9, a10, a11, a12, a13, a14] h = .ok [.scr (ns.map .int), .int (i : Nat)] h := rfl
  have s1 : sAsg (tName 2) (xCall 1 (xsCons (xVar 0) (xsCons (xVar 1) (xsNil)))) (callF fns (k + 5)) [some (.scr (ns.map .int)), some (.int (i : Int)), a2, a3, a4, a5, a6, a7, a8, a9, a10, a11, a12, a13, a14] h = .ok (.nx [some (.scr (ns.map .int)), some (.int (i : Int)), some (.ref h.length), a3, a4, a5, a6, a7, a8, a9, a10, a11, a12, a13, a14]) h1 := by
    rw [st_asg, v_call, es, r_bind, q, r_st]; rfl
  have s2 : sAsg (tName 3) (xLst true (xsNil)) (callF fns (k + 5)) [some (.scr (ns.map .int)), some (.int (i : Int)), some (.ref h.length), a3, a4, a5, a6, a7, a8, a9, a10, a11, a12, a13, a14] h1 = .ok (.nx [some (.scr (ns.map .int)), some (.int (i : Int)), some (.ref h.length), some (.ref h1.length), a4, a5, a6, a7, a8, a9, a10, a11, a12, a13, a14]) (h1 ++ [.lst []]) := rfl
  have f2 : Fd h.length (h1 ++ [.lst []]) := by
    obtain ⟨d, e, q, p⟩ := f
    exact ⟨d, e, by rw [List.getElem?_append_left fl]; exact q, p⟩
  obtain ⟨es', b4, b5, b6, b7, b8, b9, b10, b11, b12, b13, b14, h3, e3, hm3, l3⟩ := turns_go (k := k) (S := some (.scr (ns.map .int))) (a1 := some (.int (i : Int))) (n := h.length) (m := h1.length) (by omega) (chk := fun h' => stands (h1 ++ [.lst []]) h' [.int 5]) (fun _ => rfl) (rangeGo 0 5) [] a4 a5 a6 a7 a8 a9 a10 a11 a12 a13 a14 (h1 ++ [.lst []]) f2 (List.getElem?_concat_length ..) (by rw [range_len]; decide)
  have sr3 : src .range (xsCons (xCon (.int 5)) (xsNil)) (callF fns (k + 5)) [some (.scr (ns.map .int)), some (.int (i : Int)), some (.ref h.length), some (.ref h1.length), a4, a5, a6, a7, a8, a9, a10, a11, a12, a13, a14] (h1 ++ [.lst []]) = .ok ([.int 5], rangeGo 0 5) (h1 ++ [.lst []]) := rfl
  have s3 := (s_for (t := tName 4) (b := TURN) sr3).trans e3
  obtain ⟨c10, c11, c12, c13, e4⟩ := d2_go (k := k) (S := some (.scr (ns.map .int))) (a1 := some (.int (i : Int))) (a2 := some (.ref h.length)) (a4 := b4) (a5 := b5) (a6 := b6) (a7 := b7) (a8 := b8) (a9 := b9) (a14 := b14) (h := h3) hm3 l3 (chk := fun h' => stands h3 h' [.ref h1.length]) (stands_kept hm3) es' b10 b11 b12 b13
  have sr4 := src_kept (cl := callF fns (k + 5)) (σ := [some (.scr (ns.map .int)), some (.int (i : Int)), some (.ref h.length), some (.ref h1.length), b4, b5, b6, b7, b8, b9, b10, b11, b12, b13, b14]) (h := h3) rfl hm3 (by omega)
  have s4 := (s_for (t := tTup 2 (tsCons (tName 10) (tsCons (tName 11) (tsNil)))) (b := D1) sr4).trans e4
  refine ⟨some (.ref h.length), some (.ref h1.length), b4, b5, b6, b7, b8, b9, c10, c11, c12, c13, b14, h3, ?_⟩
  unfold OUTER
  rw [s_seq s1, s_seq s2, s_seq s3]
  exact s4
theorem outer_go {ns : List Int} (hn : ns.length < 1000) {chk : Hw → Bool} (hc : ∀ h, chk h = true) : ∀ (cnt i : Nat) (a1 a2 a3 a4 a5 a6 a7 a8 a9 a10 a11 a12 a13 a14 : Option W) (h : Hw),
    ∃ (b1 b2 b3 b4 b5 b6 b7 b8 b9 b10 b11 b12 b13 b14 : Option W) (h' : Hw), forGo chk (fun x σ h => (tName 1 (callF fns (k + 5)) x σ h).calm.st σ fun σ1 h3 => OUTER (callF fns (k + 5)) σ1 h3) (rangeGo i cnt) [some (.scr (ns.map .int)), a1, a2, a3, a4, a5, a6, a7, a8, a9, a10, a11, a12, a13, a14] h = .ok (.nx [some (.scr (ns.map .int)), b1, b2, b3, b4, b5, b6, b7, b8, b9, b10, b11, b12, b13, b14]) h' := by
  intro cnt
  induction cnt with
  | zero => intro i a1 a2 a3 a4 a5 a6 a7 a8 a9 a10 a11 a12 a13 a14 h; exact ⟨a1, a2, a3, a4, a5, a6, a7, a8, a9, a10, a11, a12, a13, a14, h, for_nil (hc _)⟩
  | succ cnt ih =>
    intro i a1 a2 a3 a4 a5 a6 a7 a8 a9 a10 a11 a12 a13 a14 h
    obtain ⟨b2, b3, b4, b5, b6, b7, b8, b9, b10, b11, b12, b13, b14, h1, e⟩ := outer_ok (k := k) hn (i := i) (a2 := a2) (a3 := a3) (a4 := a4) (a5 := a5) (a6 := a6) (a7 := a7) (a8 := a8) (a9 := a9) (a10 := a10) (a11 := a11) (a12 := a12) (a13 := a13) (a14 := a14) (h := h)
    obtain ⟨c1, c2, c3, c4, c5, c6, c7, c8, c9, c10, c11, c12, c13, c14, h2, q⟩ := ih (i + 1) (some (.int (i : Int))) b2 b3 b4 b5 b6 b7 b8 b9 b10 b11 b12 b13 b14 h1
    have num : rangeGo (i : Int) (cnt + 1) = .int (i : Int) :: rangeGo ((i + 1 : Nat) : Int) cnt := by
      show W.int (i : Int) :: rangeGo ((i : Int) + 1) cnt = _
      rw [show ((i + 1 : Nat) : Int) = (i : Int) + 1 by omega]
    rw [num]
    refine ⟨c1, c2, c3, c4, c5, c6, c7, c8, c9, c10, c11, c12, c13, c14, h2, (for_cons (h1 := h1) (σ1 := [some (.scr (ns.map .int)), some (.int (i : Int)), b2, b3, b4, b5, b6, b7, b8, b9, b10, b11, b12, b13, b14]) (hc _) ?_).trans q⟩
    have tn : tName 1 (callF fns (k + 5)) (.int (i : Int)) [some (.scr (ns.map .int)), a1, a2, a3, a4, a5, a6, a7, a8, a9, a10, a11, a12, a13, a14] h = .ok [some (.scr (ns.map .int)), some (.int (i : Int)), a2, a3, a4, a5, a6, a7, a8, a9, a10, a11, a12, a13, a14] h := rfl
    show ((tName 1 (callF fns (k + 5)) (.int (i : Int)) [some (.scr (ns.map .int)), a1, a2, a3, a4, a5, a6, a7, a8, a9, a10, a11, a12, a13, a14] h).calm.st _ fun σ1 h3 => OUTER (callF fns (k + 5)) σ1 h3) = _
    rw [tn, r_calm, r_st]
    exact e
end
theorem go_of (ns : List Int) (hl : ns.length ≤ 63) : isTrueR (callF fns 12 0 [.scr (ns.map W.int)] []) = true := by
  obtain ⟨m, hm, es⟩ : ∃ m : Nat, m ≤ 5 ∧ ((xsCons (xF gMax2 (xsCons (xCon (.int 1)) (xsCons (xF gMin2 (xsCons (xCon (.int 5)) (xsCons (xF gLen (xsCons (xVar 0) (xsNil))) (xsNil)))) (xsNil)))) (xsNil)) : Exs) (callF fns 11) [some (.scr (ns.map .int)), none, none, none, none, none, none, none, none, none, none, none, none, none, none] [] = .ok [.int (m : Nat)] [] := by
    have gl : gLen [.scr (ns.map W.int)] [] = .ok (.int (ns.length : Nat)) [] := by
      show Ov.R.ok (W.int _) [] = _
      rw [List.length_map]
    have g1 : ∀ i j : Int, gMin2 [.int i, .int j] [] = .ok (.int (if j < i then j else i)) [] := fun _ _ => rfl
    have g2 : ∀ i j : Int, gMax2 [.int i, .int j] [] = .ok (.int (if j > i then j else i)) [] := fun _ _ => rfl
    by_cases h5 : ns.length < 5
    · by_cases h1 : 1 < ns.length
      · refine ⟨ns.length, by omega, ?_⟩
        simp only [v_F, v_cons, v_con, v_var0, v_nil, r_bind, gl, g1, g2]
        rw [if_pos (show (ns.length : Int) < 5 by omega), if_pos (show (ns.length : Int) > 1 by omega)]
      · refine ⟨1, by omega, ?_⟩
        simp only [v_F, v_cons, v_con, v_var0, v_nil, r_bind, gl, g1, g2]
        rw [if_pos (show (ns.length : Int) < 5 by omega), if_neg (show ¬((ns.length : Int) > 1) by omega)]; rfl
    · refine ⟨5, by omega, ?_⟩
      simp only [v_F, v_cons, v_con, v_var0, v_nil, r_bind, gl, g1, g2]
      rw [if_neg (show ¬((ns.length : Int) < 5) by omega), if_pos (by decide)]; rfl
  obtain ⟨a1, a2, a3, a4, a5, a6, a7, a8, a9, a10, a11, a12, a13, a14, h, q⟩ := outer_go (k := 6) (ns := ns) (by omega) (chk := fun h' => stands [] h' [.int (m : Nat)]) (fun _ => rfl) m 0 none none none none none none none none none none none none none none []
  have sr := src_free (k := .range) es (show walked .range ([W.int (m : Nat)].map (lookS [])) = some (rangeGo 0 m) from walk_range (by omega)) (by rw [range_len]; omega)
  have s1 := (s_for (t := tName 1) (b := OUTER) sr).trans q
  have s2 : b0 (callF fns 11) [some (.scr (ns.map .int)), none, none, none, none, none, none, none, none, none, none, none, none, none, none] [] = .ok (.ret (.bl true)) h := by
    unfold b0
    rw [s_seq s1]; rfl
  show isTrueR (if W.unders 0 [.scr (ns.map W.int)] then runPure (b0 (callF fns 11) [some (.scr (ns.map .int)), none, none, none, none, none, none, none, none, none, none, none, none, none, none] []).back [] else .no) = true
  rw [if_pos (show W.unders 0 [.scr (ns.map W.int)] = true by show (W.unders 0 (ns.map W.int) && true) = true; rw [ints_free]; rfl), s2]
  rfl
end K10
namespace K10
open PySem PySem.Spec PyProof.Rows L2 Ov
theorem go : ∀ ns : List Int, ns.length ≤ 63 → (∀ i ∈ ns, Builtin.Int.intBits i ≤ 1048576) → isTrueR (callF fns 12 0 [.scr (ns.map Ov.W.int)] []) = true := fun ns hl _ => go_of ns hl

theorem all_mk {P : Program} {w : World} {K : PySem.W.Frag} {h : Heap} {mg : Str → Option Value} {fa : Addr} (X : K.In h) (G : h.Ns mainGlobals mg) (hfa : mg "law" = some (.ref fa))
    {oc0 kV0 dc0 pm0 cd0 ct0 : Value} {od0 an0 : Option Addr} {sl0 : Array (Option Value)} {f0 : Addr} {oc1 kV1 dc1 pm1 cd1 ct1 : Value} {od1 an1 : Option Addr} {sl1 : Array (Option Value)} {f1 : Addr} {oc2 kV2 dc2 pm2 cd2 ct2 : Value} {od2 an2 : Option Addr} {sl2 : Array (Option Value)} {f2 : Addr} {oc3 kV3 dc3 pm3 cd3 ct3 : Value} {od3 an3 : Option Addr} {sl3 : Array (Option Value)} {f3 : Addr} {oc4 kV4 dc4 pm4 cd4 ct4 : Value} {od4 an4 : Option Addr} {sl4 : Array (Option Value)} {f4 : Addr} {oc5 kV5 dc5 pm5 cd5 ct5 : Value} {od5 an5 : Option Addr} {sl5 : Array (Option Value)} {f5 : Addr} {oc6 kV6 dc6 pm6 cd6 ct6 : Value} {od6 an6 : Option Addr} {sl6 : Array (Option Value)} {f6 : Addr} {oc7 kV7 dc7 pm7 cd7 ct7 : Value} {od7 an7 : Option Addr} {sl7 : Array (Option Value)} {f7 : Addr} {oc8 kV8 dc8 pm8 cd8 ct8 : Value} {od8 an8 : Option Addr} {sl8 : Array (Option Value)} {f8 : Addr} {q8 : Addr} {r8 : List Value} {oc9 kV9 dc9 pm9 cd9 ct9 : Value} {od9 an9 : Option Addr} {sl9 : Array (Option Value)} {f9 : Addr} {oc10 kV10 dc10 pm10 cd10 ct10 : Value} {od10 an10 : Option Addr} {sl10 : Array (Option Value)} {f10 : Addr} {oc11 kV11 dc11 pm11 cd11 ct11 : Value} {od11 an11 : Option Addr} {sl11 : Array (Option Value)} {f11 : Addr} {oc12 kV12 dc12 pm12 cd12 ct12 : Value} {od12 an12 : Option Addr} {sl12 : Array (Option Value)} {f12 : Addr} {oc13 kV13 dc13 pm13 cd13 ct13 : Value} {od13 an13 : Option Addr} {sl13 : Array (Option Value)} {f13 : Addr} {oc14 kV14 dc14 pm14 cd14 ct14 : Value} {od14 an14 : Option Addr} {sl14 : Array (Option Value)} {f14 : Addr} {oc15 kV15 dc15 pm15 cd15 ct15 : Value} {od15 an15 : Option Addr} {sl15 : Array (Option Value)} {f15 : Addr} {c_Program : Addr} {c_InvalidText : Addr} {nm_InvalidText qn_InvalidText : Str} {N_InvalidText x_InvalidText : Addr} {bs_InvalidText bm_InvalidText : List Value} {sn_InvalidText : List Str} {sub_InvalidText : List Value} {ab_InvalidText : Bool} {col_InvalidText : Option Bool} {dd_InvalidText xod_InvalidText xan_InvalidText : Option Addr} {m0_InvalidText m1_InvalidText m2_InvalidText m3_InvalidText m5_InvalidText : Option Value} {xoc_InvalidText xkV_InvalidText xdc_InvalidText xpm_InvalidText xcd_InvalidText xct_InvalidText : Value} {xsl_InvalidText : Array (Option Value)} {t_MAX_NODES : Tok} {t_MAX_NAME : Tok} {sv_LETTERS : Str} {t_LETTERS : Tok} {sv_DIGITS : Str} {t_DIGITS : Tok}
    (gc_Program : PySem.W.nsIn K mainGlobals "Program" = some (some (.ref c_Program)))
    (gc_InvalidText : PySem.W.nsIn K mainGlobals "InvalidText" = some (some (.ref c_InvalidText)))
    (pg_Program : PySem.W.plainGet K c_Program Str.empty = true)
    (hd_Program : PySem.W.hasDictIn K c_Program = true)
    (po_Program : PySem.W.plainOver K c_Program = true)
    (sa_Program : PySem.W.findIn K (.ref c_Program) "__setattr__" = some (some (.builtin "object.__setattr__")))
    (na_Program_text : PySem.W.findIn K (.ref c_Program) "text" = some none)
    (na_Program_nodes : PySem.W.findIn K (.ref c_Program) "nodes" = some none)
    (mk_Program : PySem.W.makesIn K c_Program = true)
    (kc_Program : PySem.W.keepIn K (.ref c_Program) = true)
    (xL_InvalidText : K.lookup c_InvalidText = some (excClassObj nm_InvalidText qn_InvalidText c_InvalidText N_InvalidText bs_InvalidText bm_InvalidText true sn_InvalidText sub_InvalidText ab_InvalidText col_InvalidText dd_InvalidText m0_InvalidText m1_InvalidText m2_InvalidText m3_InvalidText m5_InvalidText "ValueError.__new__"))
    (xV_InvalidText : PySem.HandSPX.refsVE bm_InvalidText = true)
    (xs_InvalidText : PySem.W.findIn K (.ref c_InvalidText) "__setattr__" = some (some (.builtin "object.__setattr__")))
    (xe_InvalidText : PySem.W.subIn K (.ref c_InvalidText) (.type "BaseException") = some true)
    (xy_InvalidText : PySem.W.typeIn K (.ref c_InvalidText) = some (.type "type"))
    (xk_InvalidText : PySem.W.keepIn K (.ref c_InvalidText) = true)
    (xi_InvalidText : PySem.W.findIn K (.ref c_InvalidText) "__init__" = some (some (.ref x_InvalidText)))
    (xt_InvalidText : PySem.W.typeIn K (.ref x_InvalidText) = some (.type "function"))
    (xl_InvalidText : K.lookup x_InvalidText = some ⟨xoc_InvalidText, xod_InvalidText, .func (PySem.W.fnOf "__init__" "InvalidText.__init__" (defArgs (L2.inClass (top 2) 0)) (defBody (L2.inClass (top 2) 0)) (defScope (L2.inClass (top 2) 0)) .none xkV_InvalidText xdc_InvalidText xpm_InvalidText xan_InvalidText xcd_InvalidText xct_InvalidText), xsl_InvalidText⟩)
    (xc_InvalidText : PySem.W.codeIn K xcd_InvalidText "InvalidText.__init__" = true)
    (xkk_InvalidText : PySem.W.keepIn K (.ref x_InvalidText) = true)
    (xn_InvalidText : PySem.W.findIn K (.ref c_InvalidText) "row" = some none)
    (xg_InvalidText : PySem.W.findIn K (.ref c_InvalidText) "__getattribute__" = some (some (.builtin "BaseException.__getattribute__")))
    (xgg_InvalidText : PySem.W.findIn K (.ref c_InvalidText) "__getattr__" = some none)
    (xh_InvalidText : PySem.W.hasDictIn K c_InvalidText = true)
    (xic_InvalidText : PySem.W.isClsIn K c_InvalidText = true)
    (xss_InvalidText : PySem.W.subIn K (.ref c_InvalidText) (.ref c_InvalidText) = some true)
    (nen_Program : PySem.W.findIn K (.ref c_Program) "__ne__" = some (some (.builtin "object.__ne__")))
    (neo_Program : PySem.W.mroIn K c_Program (.type "object") = some true)
    (eb_Program_non : PySem.W.subIn K (.type "NoneType") (.ref c_Program) = some false)
    (eb_Program_bl : PySem.W.subIn K (.type "bool") (.ref c_Program) = some false)
    (eb_Program_int : PySem.W.subIn K (.type "int") (.ref c_Program) = some false)
    (eb_Program_str : PySem.W.subIn K (.type "str") (.ref c_Program) = some false)
    (eb_Program_tup : PySem.W.subIn K (.type "tuple") (.ref c_Program) = some false)
    (eb_Program_lst : PySem.W.subIn K (.type "list") (.ref c_Program) = some false)
    (eb_Program_dct : PySem.W.subIn K (.type "dict") (.ref c_Program) = some false)
    (ib_Program_non : PySem.W.subIn K (.type "NoneType") (.ref c_Program) = some false)
    (ib_Program_bl : PySem.W.subIn K (.type "bool") (.ref c_Program) = some false)
    (ib_Program_int : PySem.W.subIn K (.type "int") (.ref c_Program) = some false)
    (ib_Program_str : PySem.W.subIn K (.type "str") (.ref c_Program) = some false)
    (ib_Program_tup : PySem.W.subIn K (.type "tuple") (.ref c_Program) = some false)
    (ib_Program_lst : PySem.W.subIn K (.type "list") (.ref c_Program) = some false)
    (ib_Program_dct : PySem.W.subIn K (.type "dict") (.ref c_Program) = some false)
    (icl_Program : PySem.W.isClsIn K c_Program = true)
    (ity_Program : PySem.W.typeIn K (.ref c_Program) = some (.type "type"))
    (iha_Program : PySem.W.findIn K (.ref c_Program) "__class__" = some (some (.builtin "object.__class__")))
    (ihm_Program : PySem.W.mroIn K c_Program (.type "object") = some true)
    (ihn : PySem.W.specialIn K (.builtin "object.__class__") "__get__" = some (some (.builtin "getset_descriptor.__get__")))
    (ihtk : PySem.W.takesIn K (.builtin "object.__class__") = some true)
    (g0 : PySem.W.nsIn K mainGlobals "law" = some (some (.ref f0)))
    (l0 : K.lookup f0 = some ⟨oc0, od0, .func (PySem.W.fnOf "law" "law" (defArgs (top 22)) (defBody (top 22)) (defScope (top 22)) .none kV0 dc0 pm0 an0 cd0 ct0), sl0⟩)
    (c0 : PySem.W.codeIn K cd0 "law" = true)
    (k0 : PySem.W.keepIn K (.ref f0) = true)
    (g1 : PySem.W.nsIn K mainGlobals "_law_feed" = some (some (.ref f1)))
    (l1 : K.lookup f1 = some ⟨oc1, od1, .func (PySem.W.fnOf "_law_feed" "_law_feed" (defArgs (top 15)) (defBody (top 15)) (defScope (top 15)) .none kV1 dc1 pm1 an1 cd1 ct1), sl1⟩)
    (c1 : PySem.W.codeIn K cd1 "_law_feed" = true)
    (k1 : PySem.W.keepIn K (.ref f1) = true)
    (g2 : PySem.W.nsIn K mainGlobals "_law_nodes" = some (some (.ref f2)))
    (l2 : K.lookup f2 = some ⟨oc2, od2, .func (PySem.W.fnOf "_law_nodes" "_law_nodes" (defArgs (top 18)) (defBody (top 18)) (defScope (top 18)) .none kV2 dc2 pm2 an2 cd2 ct2), sl2⟩)
    (c2 : PySem.W.codeIn K cd2 "_law_nodes" = true)
    (k2 : PySem.W.keepIn K (.ref f2) = true)
    (g3 : PySem.W.nsIn K mainGlobals "_law_take" = some (some (.ref f3)))
    (l3 : K.lookup f3 = some ⟨oc3, od3, .func (PySem.W.fnOf "_law_take" "_law_take" (defArgs (top 16)) (defBody (top 16)) (defScope (top 16)) .none kV3 dc3 pm3 an3 cd3 ct3), sl3⟩)
    (c3 : PySem.W.codeIn K cd3 "_law_take" = true)
    (k3 : PySem.W.keepIn K (.ref f3) = true)
    (g4 : PySem.W.nsIn K mainGlobals "_law_pick" = some (some (.ref f4)))
    (l4 : K.lookup f4 = some ⟨oc4, od4, .func (PySem.W.fnOf "_law_pick" "_law_pick" (defArgs (top 17)) (defBody (top 17)) (defScope (top 17)) .none kV4 dc4 pm4 an4 cd4 ct4), sl4⟩)
    (c4 : PySem.W.codeIn K cd4 "_law_pick" = true)
    (k4 : PySem.W.keepIn K (.ref f4) = true)
    (g5 : PySem.W.nsIn K mainGlobals "_law_names" = some (some (.ref f5)))
    (l5 : K.lookup f5 = some ⟨oc5, od5, .func (PySem.W.fnOf "_law_names" "_law_names" (defArgs (top 20)) (defBody (top 20)) (defScope (top 20)) .none kV5 dc5 pm5 an5 cd5 ct5), sl5⟩)
    (c5 : PySem.W.codeIn K cd5 "_law_names" = true)
    (k5 : PySem.W.keepIn K (.ref f5) = true)
    (g6 : PySem.W.nsIn K mainGlobals "_law_text" = some (some (.ref f6)))
    (l6 : K.lookup f6 = some ⟨oc6, od6, .func (PySem.W.fnOf "_law_text" "_law_text" (defArgs (top 19)) (defBody (top 19)) (defScope (top 19)) .none kV6 dc6 pm6 an6 cd6 ct6), sl6⟩)
    (c6 : PySem.W.codeIn K cd6 "_law_text" = true)
    (k6 : PySem.W.keepIn K (.ref f6) = true)
    (g7 : PySem.W.nsIn K mainGlobals "_law_is_right" = some (some (.ref f7)))
    (l7 : K.lookup f7 = some ⟨oc7, od7, .func (PySem.W.fnOf "_law_is_right" "_law_is_right" (defArgs (top 21)) (defBody (top 21)) (defScope (top 21)) .none kV7 dc7 pm7 an7 cd7 ct7), sl7⟩)
    (c7 : PySem.W.codeIn K cd7 "_law_is_right" = true)
    (k7 : PySem.W.keepIn K (.ref f7) = true)
    (sr8 : PySem.W.readsIn K c_Program (.type "type") = true)
    (sg8 : PySem.W.specialIn K (.ref c_Program) "__getattribute__" = some (some (.builtin "type.__getattribute__")))
    (sf8 : PySem.W.findCls K (.ref c_Program) (.type "type") "parse" = some (.get (.builtin "staticmethod.__get__") (.ref q8) .none (.ref c_Program)))
    (sc8_ : PySem.W.recIn K q8 "staticmethod" = some (.ref f8 :: r8))
    (sj8 : PySem.W.findIn K (.ref c_Program) "parse" = some (some (.ref q8)))
    (sk8 : PySem.W.typeIn K (.ref q8) = some (.type "staticmethod"))
    (sl8_ : PySem.W.specialIn K (.ref q8) "__get__" = some (some (.builtin "staticmethod.__get__")))
    (sm8_ : PySem.W.takesIn K (.ref q8) = some false)
    (l8 : K.lookup f8 = some ⟨oc8, od8, .func (PySem.W.fnOf "parse" "Program.parse" (defArgs (L2.inClass (top 13) 3)) (defBody (L2.inClass (top 13) 3)) (defScope (L2.inClass (top 13) 3)) .none kV8 dc8 pm8 an8 cd8 ct8), sl8⟩)
    (c8 : PySem.W.codeIn K cd8 "Program.parse" = true)
    (k8 : PySem.W.keepIn K (.ref f8) = true)
    (g9 : PySem.W.nsIn K mainGlobals "read_row" = some (some (.ref f9)))
    (l9 : K.lookup f9 = some ⟨oc9, od9, .func (PySem.W.fnOf "read_row" "read_row" (defArgs (top 12)) (defBody (top 12)) (defScope (top 12)) .none kV9 dc9 pm9 an9 cd9 ct9), sl9⟩)
    (c9 : PySem.W.codeIn K cd9 "read_row" = true)
    (k9 : PySem.W.keepIn K (.ref f9) = true)
    (g10 : PySem.W.nsIn K mainGlobals "is_name" = some (some (.ref f10)))
    (l10 : K.lookup f10 = some ⟨oc10, od10, .func (PySem.W.fnOf "is_name" "is_name" (defArgs (top 6)) (defBody (top 6)) (defScope (top 6)) .none kV10 dc10 pm10 an10 cd10 ct10), sl10⟩)
    (c10 : PySem.W.codeIn K cd10 "is_name" = true)
    (k10 : PySem.W.keepIn K (.ref f10) = true)
    (g11 : PySem.W.nsIn K mainGlobals "read_targets" = some (some (.ref f11)))
    (l11 : K.lookup f11 = some ⟨oc11, od11, .func (PySem.W.fnOf "read_targets" "read_targets" (defArgs (top 11)) (defBody (top 11)) (defScope (top 11)) .none kV11 dc11 pm11 an11 cd11 ct11), sl11⟩)
    (c11 : PySem.W.codeIn K cd11 "read_targets" = true)
    (k11 : PySem.W.keepIn K (.ref f11) = true)
    (g12 : PySem.W.nsIn K mainGlobals "read_number" = some (some (.ref f12)))
    (l12 : K.lookup f12 = some ⟨oc12, od12, .func (PySem.W.fnOf "read_number" "read_number" (defArgs (top 10)) (defBody (top 10)) (defScope (top 10)) .none kV12 dc12 pm12 an12 cd12 ct12), sl12⟩)
    (c12 : PySem.W.codeIn K cd12 "read_number" = true)
    (k12 : PySem.W.keepIn K (.ref f12) = true)
    (m13 : PySem.W.findIn K (.ref c_Program) "__init__" = some (some (.ref f13)))
    (mf13 : PySem.W.isFn K (.ref f13) = true)
    (l13 : K.lookup f13 = some ⟨oc13, od13, .func (PySem.W.fnOf "__init__" "Program.__init__" (defArgs (L2.inClass (top 13) 0)) (defBody (L2.inClass (top 13) 0)) (defScope (L2.inClass (top 13) 0)) .none kV13 dc13 pm13 an13 cd13 ct13), sl13⟩)
    (c13 : PySem.W.codeIn K cd13 "Program.__init__" = true)
    (k13 : PySem.W.keepIn K (.ref f13) = true)
    (m14 : PySem.W.findIn K (.ref c_Program) "__str__" = some (some (.ref f14)))
    (mf14 : PySem.W.isFn K (.ref f14) = true)
    (l14 : K.lookup f14 = some ⟨oc14, od14, .func (PySem.W.fnOf "__str__" "Program.__str__" (defArgs (L2.inClass (top 13) 1)) (defBody (L2.inClass (top 13) 1)) (defScope (L2.inClass (top 13) 1)) .none kV14 dc14 pm14 an14 cd14 ct14), sl14⟩)
    (c14 : PySem.W.codeIn K cd14 "Program.__str__" = true)
    (k14 : PySem.W.keepIn K (.ref f14) = true)
    (m15 : PySem.W.findIn K (.ref c_Program) "__eq__" = some (some (.ref f15)))
    (mf15 : PySem.W.isFn K (.ref f15) = true)
    (l15 : K.lookup f15 = some ⟨oc15, od15, .func (PySem.W.fnOf "__eq__" "Program.__eq__" (defArgs (L2.inClass (top 13) 2)) (defBody (L2.inClass (top 13) 2)) (defScope (L2.inClass (top 13) 2)) .none kV15 dc15 pm15 an15 cd15 ct15), sl15⟩)
    (c15 : PySem.W.codeIn K cd15 "Program.__eq__" = true)
    (k15 : PySem.W.keepIn K (.ref f15) = true)
    (n_range : PySem.W.nsIn K mainGlobals "range" = some none)
    (n_max : PySem.W.nsIn K mainGlobals "max" = some none)
    (n_min : PySem.W.nsIn K mainGlobals "min" = some none)
    (n_len : PySem.W.nsIn K mainGlobals "len" = some none)
    (n_list : PySem.W.nsIn K mainGlobals "list" = some none)
    (n_abs : PySem.W.nsIn K mainGlobals "abs" = some none)
    (n_int : PySem.W.nsIn K mainGlobals "int" = some none)
    (n_sorted : PySem.W.nsIn K mainGlobals "sorted" = some none)
    (n_tuple : PySem.W.nsIn K mainGlobals "tuple" = some none)
    (n_str : PySem.W.nsIn K mainGlobals "str" = some none)
    (n_isinstance : PySem.W.nsIn K mainGlobals "isinstance" = some none)
    (n_enumerate : PySem.W.nsIn K mainGlobals "enumerate" = some none)
    (n_all : PySem.W.nsIn K mainGlobals "all" = some none)
    (n_zip : PySem.W.nsIn K mainGlobals "zip" = some none)
    (n_repr : PySem.W.nsIn K mainGlobals "repr" = some none)
    (s_MAX_NODES : PySem.W.nsIn K mainGlobals "MAX_NODES" = some (some (.int 8 t_MAX_NODES)))
    (s_MAX_NAME : PySem.W.nsIn K mainGlobals "MAX_NAME" = some (some (.int 8 t_MAX_NAME)))
    (s_LETTERS : PySem.W.nsIn K mainGlobals "LETTERS" = some (some (.str sv_LETTERS t_LETTERS)))
    (e_LETTERS : sv_LETTERS = mkS [97, 98, 99, 100, 101, 102, 103, 104, 105, 106, 107, 108, 109, 110, 111, 112, 113, 114, 115, 116, 117, 118, 119, 120, 121, 122])
    (s_DIGITS : PySem.W.nsIn K mainGlobals "DIGITS" = some (some (.str sv_DIGITS t_DIGITS)))
    (e_DIGITS : sv_DIGITS = mkS [48, 49, 50, 51, 52, 53, 54, 55, 56, 57])
    : ∃ fd : FuncData, (∀ (s : Shared) (u : Value), BindsTo s fd ⟨[u], []⟩ [("script", u)]) ∧ ∃ sp : Sp, (∀ (H : Hp) (a : Addr) (ns : List Int), ns.length ≤ 63 → (∀ i ∈ ns, Builtin.Int.intBits i ≤ 1048576) → (∀ b u, H b = some u → ∃ o xs, u = .frz o (.lst xs)) → SqL K H a (ns.map V.int) → sp [.ref a] H (fun v _ => v = .bl true) fun _ _ _ => False) ∧ ∀ base : Heap, K.In base → base.Ns mainGlobals mg → FnG P w K mg base 25 fa fd ["script"] sp := by
  have e := (PySem.W.mg_of X G g0).symm.trans hfa
  have e2 : f0 = fa := by cases e; rfl
  subst e2
  have F0 := fun_mk (st := (top 22)) l0 c0 k0
  have F1 := fun_mk (st := (top 15)) l1 c1 k1
  have F2 := fun_mk (st := (top 18)) l2 c2 k2
  have F3 := fun_mk (st := (top 16)) l3 c3 k3
  have F4 := fun_mk (st := (top 17)) l4 c4 k4
  have F5 := fun_mk (st := (top 20)) l5 c5 k5
  have F6 := fun_mk (st := (top 19)) l6 c6 k6
  have F7 := fun_mk (st := (top 21)) l7 c7 k7
  have F8 := fun_mk (st := (L2.inClass (top 13) 3)) l8 c8 k8
  have F9 := fun_mk (st := (top 12)) l9 c9 k9
  have F10 := fun_mk (st := (top 6)) l10 c10 k10
  have F11 := fun_mk (st := (top 11)) l11 c11 k11
  have F12 := fun_mk (st := (top 10)) l12 c12 k12
  have F13 := fun_mk (st := (L2.inClass (top 13) 0)) l13 c13 k13
  have F14 := fun_mk (st := (L2.inClass (top 13) 1)) l14 c14 k14
  have F15 := fun_mk (st := (L2.inClass (top 13) 2)) l15 c15 k15
  have xU_InvalidText := fun_mk (st := L2.inClass (top 2) 0) xl_InvalidText xc_InvalidText xkk_InvalidText
  have T : Txt K mg { f0 := f0, d0 := PySem.W.fnOf "law" "law" (defArgs (top 22)) (defBody (top 22)) (defScope (top 22)) .none kV0 dc0 pm0 an0 cd0 ct0, f1 := f1, d1 := PySem.W.fnOf "_law_feed" "_law_feed" (defArgs (top 15)) (defBody (top 15)) (defScope (top 15)) .none kV1 dc1 pm1 an1 cd1 ct1, f2 := f2, d2 := PySem.W.fnOf "_law_nodes" "_law_nodes" (defArgs (top 18)) (defBody (top 18)) (defScope (top 18)) .none kV2 dc2 pm2 an2 cd2 ct2, f3 := f3, d3 := PySem.W.fnOf "_law_take" "_law_take" (defArgs (top 16)) (defBody (top 16)) (defScope (top 16)) .none kV3 dc3 pm3 an3 cd3 ct3, f4 := f4, d4 := PySem.W.fnOf "_law_pick" "_law_pick" (defArgs (top 17)) (defBody (top 17)) (defScope (top 17)) .none kV4 dc4 pm4 an4 cd4 ct4, f5 := f5, d5 := PySem.W.fnOf "_law_names" "_law_names" (defArgs (top 20)) (defBody (top 20)) (defScope (top 20)) .none kV5 dc5 pm5 an5 cd5 ct5, f6 := f6, d6 := PySem.W.fnOf "_law_text" "_law_text" (defArgs (top 19)) (defBody (top 19)) (defScope (top 19)) .none kV6 dc6 pm6 an6 cd6 ct6, f7 := f7, d7 := PySem.W.fnOf "_law_is_right" "_law_is_right" (defArgs (top 21)) (defBody (top 21)) (defScope (top 21)) .none kV7 dc7 pm7 an7 cd7 ct7, f8 := f8, d8 := PySem.W.fnOf "parse" "Program.parse" (defArgs (L2.inClass (top 13) 3)) (defBody (L2.inClass (top 13) 3)) (defScope (L2.inClass (top 13) 3)) .none kV8 dc8 pm8 an8 cd8 ct8, f9 := f9, d9 := PySem.W.fnOf "read_row" "read_row" (defArgs (top 12)) (defBody (top 12)) (defScope (top 12)) .none kV9 dc9 pm9 an9 cd9 ct9, f10 := f10, d10 := PySem.W.fnOf "is_name" "is_name" (defArgs (top 6)) (defBody (top 6)) (defScope (top 6)) .none kV10 dc10 pm10 an10 cd10 ct10, f11 := f11, d11 := PySem.W.fnOf "read_targets" "read_targets" (defArgs (top 11)) (defBody (top 11)) (defScope (top 11)) .none kV11 dc11 pm11 an11 cd11 ct11, f12 := f12, d12 := PySem.W.fnOf "read_number" "read_number" (defArgs (top 10)) (defBody (top 10)) (defScope (top 10)) .none kV12 dc12 pm12 an12 cd12 ct12, f13 := f13, d13 := PySem.W.fnOf "__init__" "Program.__init__" (defArgs (L2.inClass (top 13) 0)) (defBody (L2.inClass (top 13) 0)) (defScope (L2.inClass (top 13) 0)) .none kV13 dc13 pm13 an13 cd13 ct13, f14 := f14, d14 := PySem.W.fnOf "__str__" "Program.__str__" (defArgs (L2.inClass (top 13) 1)) (defBody (L2.inClass (top 13) 1)) (defScope (L2.inClass (top 13) 1)) .none kV14 dc14 pm14 an14 cd14 ct14, f15 := f15, d15 := PySem.W.fnOf "__eq__" "Program.__eq__" (defArgs (L2.inClass (top 13) 2)) (defBody (L2.inClass (top 13) 2)) (defScope (L2.inClass (top 13) 2)) .none kV15 dc15 pm15 an15 cd15 ct15, q8 := q8, c_Program := c_Program, c_InvalidText := c_InvalidText, x_InvalidText := x_InvalidText, xd_InvalidText := PySem.W.fnOf "__init__" "InvalidText.__init__" (defArgs (L2.inClass (top 2) 0)) (defBody (L2.inClass (top 2) 0)) (defScope (L2.inClass (top 2) 0)) .none xkV_InvalidText xdc_InvalidText xpm_InvalidText xan_InvalidText xcd_InvalidText xct_InvalidText } := {
    F0 := F0,
    B0 := F0.binds fun _ _ _ _ _ _ us hl => match us, hl with | [_], _ => rfl,
    G0 := PySem.W.mg_of X G g0,
    F1 := F1,
    B1 := F1.binds fun _ _ _ _ _ _ us hl => match us, hl with | [_, _], _ => rfl,
    G1 := PySem.W.mg_of X G g1,
    F2 := F2,
    B2 := F2.binds fun _ _ _ _ _ _ us hl => match us, hl with | [_, _, _], _ => rfl,
    G2 := PySem.W.mg_of X G g2,
    F3 := F3,
    B3 := F3.binds fun _ _ _ _ _ _ us hl => match us, hl with | [_, _], _ => rfl,
    G3 := PySem.W.mg_of X G g3,
    F4 := F4,
    B4 := F4.binds fun _ _ _ _ _ _ us hl => match us, hl with | [_, _], _ => rfl,
    G4 := PySem.W.mg_of X G g4,
    F5 := F5,
    B5 := F5.binds fun _ _ _ _ _ _ us hl => match us, hl with | [_], _ => rfl,
    G5 := PySem.W.mg_of X G g5,
    F6 := F6,
    B6 := F6.binds fun _ _ _ _ _ _ us hl => match us, hl with | [_], _ => rfl,
    G6 := PySem.W.mg_of X G g6,
    F7 := F7,
    B7 := F7.binds fun _ _ _ _ _ _ us hl => match us, hl with | [_, _], _ => rfl,
    G7 := PySem.W.mg_of X G g7,
    F8 := F8,
    B8 := F8.binds fun _ _ _ _ _ _ us hl => match us, hl with | [_], _ => rfl,
    S8 := ⟨sr8, sg8, sf8, ⟨_, sc8_⟩, k8⟩,
    SI8 := ⟨sj8, sk8, sl8_, sm8_, by decide +kernel, ⟨_, sc8_⟩, k8⟩,
    F9 := F9,
    B9 := F9.binds fun _ _ _ _ _ _ us hl => match us, hl with | [_, _], _ => rfl,
    G9 := PySem.W.mg_of X G g9,
    F10 := F10,
    B10 := F10.binds fun _ _ _ _ _ _ us hl => match us, hl with | [_], _ => rfl,
    G10 := PySem.W.mg_of X G g10,
    F11 := F11,
    B11 := F11.binds fun _ _ _ _ _ _ us hl => match us, hl with | [_, _], _ => rfl,
    G11 := PySem.W.mg_of X G g11,
    F12 := F12,
    B12 := F12.binds fun _ _ _ _ _ _ us hl => match us, hl with | [_], _ => rfl,
    G12 := PySem.W.mg_of X G g12,
    F13 := F13,
    B13 := F13.binds fun _ _ _ _ _ _ us hl => match us, hl with | [_, _, _], _ => rfl,
    F14 := F14,
    B14 := F14.binds fun _ _ _ _ _ _ us hl => match us, hl with | [_], _ => rfl,
    M14 := ⟨m14, mf14, k14⟩,
    F15 := F15,
    B15 := F15.binds fun _ _ _ _ _ _ us hl => match us, hl with | [_, _], _ => rfl,
    M15 := ⟨m15, mf15, k15⟩,
    GC_Program := PySem.W.mg_of X G gc_Program,
    GC_InvalidText := PySem.W.mg_of X G gc_InvalidText,
    Cl_Program := ⟨pg_Program, hd_Program, po_Program, sa_Program⟩,
    na_Program_text := na_Program_text,
    na_Program_nodes := na_Program_nodes,
    Mk_Program := ⟨mk_Program, m13, mf13, kc_Program⟩,
    Ox_InvalidText := ⟨⟨_, _, _, _, _, _, _, _, _, _, _, _, _, _, _, xL_InvalidText, xV_InvalidText⟩, xs_InvalidText, xe_InvalidText, xy_InvalidText, xk_InvalidText⟩,
    xi_InvalidText := xi_InvalidText,
    xt_InvalidText := xt_InvalidText,
    xU_InvalidText := xU_InvalidText,
    xB_InvalidText := xU_InvalidText.binds fun _ _ _ _ _ _ us hl => match us, hl with | [_, _], _ => rfl,
    xn_InvalidText := xn_InvalidText,
    Xf_InvalidText := ⟨xg_InvalidText, xgg_InvalidText, xe_InvalidText, xh_InvalidText⟩,
    xm_InvalidText_InvalidText := exm_of xe_InvalidText xic_InvalidText xy_InvalidText xss_InvalidText,
    nn_Program := nen_Program,
    no_Program := neo_Program,
    eqd_Program := dtys_of eb_Program_non eb_Program_bl eb_Program_int eb_Program_str eb_Program_tup eb_Program_lst eb_Program_dct,
    eqn_Program_Program := by simp [PySem.W.notFirst],
    isb_Program := ⟨kit_of icl_Program ity_Program ib_Program_non rfl, kit_of icl_Program ity_Program ib_Program_bl rfl, kit_of icl_Program ity_Program ib_Program_int rfl, kit_of icl_Program ity_Program ib_Program_str rfl, kit_of icl_Program ity_Program ib_Program_tup rfl, kit_of icl_Program ity_Program ib_Program_lst rfl, kit_of icl_Program ity_Program ib_Program_dct rfl⟩,
    isc_Program_Program := ⟨⟨pg_Program, hd_Program, po_Program, sa_Program⟩, iha_Program, ihn, ihtk, ihm_Program, kit_same⟩,
    n_range := PySem.W.mg_none_of X G n_range,
    n_max := PySem.W.mg_none_of X G n_max,
    n_min := PySem.W.mg_none_of X G n_min,
    n_len := PySem.W.mg_none_of X G n_len,
    n_list := PySem.W.mg_none_of X G n_list,
    n_abs := PySem.W.mg_none_of X G n_abs,
    n_int := PySem.W.mg_none_of X G n_int,
    n_sorted := PySem.W.mg_none_of X G n_sorted,
    n_tuple := PySem.W.mg_none_of X G n_tuple,
    n_str := PySem.W.mg_none_of X G n_str,
    n_isinstance := PySem.W.mg_none_of X G n_isinstance,
    n_enumerate := PySem.W.mg_none_of X G n_enumerate,
    n_all := PySem.W.mg_none_of X G n_all,
    n_zip := PySem.W.mg_none_of X G n_zip,
    n_repr := PySem.W.mg_none_of X G n_repr,
    s_MAX_NODES := ⟨_, PySem.W.mg_of X G s_MAX_NODES⟩,
    s_MAX_NAME := ⟨_, PySem.W.mg_of X G s_MAX_NAME⟩,
    s_LETTERS := ⟨_, by rw [← e_LETTERS]; exact PySem.W.mg_of X G s_LETTERS⟩,
    s_DIGITS := ⟨_, by rw [← e_DIGITS]; exact PySem.W.mg_of X G s_DIGITS⟩ }
  exact ⟨_, fun s u => .of_eq rfl, _, fun H a ns h1 h2 h3 h4 => scr_sp (n := 63) go H a ns h1 h2 h3 h4, fun base _ _ => (all T 12).h0⟩
end K10
open PySem PySem.W PyProof.Rows
set_option maxRecDepth 100000 in
set_option maxHeartbeats 0 in
theorem PySem.Challenge.cw_sharedlines_k10_programs_read_holds : PySem.Challenge.rw_sharedlines_k10_programs_read.Holds := by
  w_on; o_law; k_head; (case hw => w_witness2)
  k_fill
  refine Ov.walk_scr (l := PySem.Challenge.rw_sharedlines_k10_programs_read) (x := "script") (k := 25) rfl (by decide) rfl ⟨rfl, by decide, by decide⟩ (fun w h Y => PySem.W.kIn_of Y) ?F
  case F =>
    intro w mg fa h KX G hmg
    refine' K10.all_mk KX G hmg ?h_gc_Program ?h_gc_InvalidText ?h_pg_Program ?h_hd_Program ?h_po_Program ?h_sa_Program ?h_na_Program_text ?h_na_Program_nodes ?h_mk_Program ?h_kc_Program ?h_xL_InvalidText ?h_xV_InvalidText ?h_xs_InvalidText ?h_xe_InvalidText ?h_xy_InvalidText ?h_xk_InvalidText ?h_xi_InvalidText ?h_xt_InvalidText ?h_xl_InvalidText ?h_xc_InvalidText ?h_xkk_InvalidText ?h_xn_InvalidText ?h_xg_InvalidText ?h_xgg_InvalidText ?h_xh_InvalidText ?h_xic_InvalidText ?h_xss_InvalidText ?h_nen_Program ?h_neo_Program ?h_eb_Program_non ?h_eb_Program_bl ?h_eb_Program_int ?h_eb_Program_str ?h_eb_Program_tup ?h_eb_Program_lst ?h_eb_Program_dct ?h_ib_Program_non ?h_ib_Program_bl ?h_ib_Program_int ?h_ib_Program_str ?h_ib_Program_tup ?h_ib_Program_lst ?h_ib_Program_dct ?h_icl_Program ?h_ity_Program ?h_iha_Program ?h_ihm_Program ?h_ihn ?h_ihtk ?h_g0 ?h_l0 ?h_c0 ?h_k0 ?h_g1 ?h_l1 ?h_c1 ?h_k1 ?h_g2 ?h_l2 ?h_c2 ?h_k2 ?h_g3 ?h_l3 ?h_c3 ?h_k3 ?h_g4 ?h_l4 ?h_c4 ?h_k4 ?h_g5 ?h_l5 ?h_c5 ?h_k5 ?h_g6 ?h_l6 ?h_c6 ?h_k6 ?h_g7 ?h_l7 ?h_c7 ?h_k7 ?h_sr8 ?h_sg8 ?h_sf8 ?h_sc8_ ?h_sj8 ?h_sk8 ?h_sl8_ ?h_sm8_ ?h_l8 ?h_c8 ?h_k8 ?h_g9 ?h_l9 ?h_c9 ?h_k9 ?h_g10 ?h_l10 ?h_c10 ?h_k10 ?h_g11 ?h_l11 ?h_c11 ?h_k11 ?h_g12 ?h_l12 ?h_c12 ?h_k12 ?h_m13 ?h_mf13 ?h_l13 ?h_c13 ?h_k13 ?h_m14 ?h_mf14 ?h_l14 ?h_c14 ?h_k14 ?h_m15 ?h_mf15 ?h_l15 ?h_c15 ?h_k15 ?h_n_range ?h_n_max ?h_n_min ?h_n_len ?h_n_list ?h_n_abs ?h_n_int ?h_n_sorted ?h_n_tuple ?h_n_str ?h_n_isinstance ?h_n_enumerate ?h_n_all ?h_n_zip ?h_n_repr ?h_s_MAX_NODES ?h_s_MAX_NAME ?h_s_LETTERS ?h_e_LETTERS ?h_s_DIGITS ?h_e_DIGITS
    (case h_gc_Program => k_is)
    (case h_gc_InvalidText => k_is)
    (case h_pg_Program => k_is)
    (case h_hd_Program => k_is)
    (case h_po_Program => k_is)
    (case h_sa_Program => k_is)
    (case h_na_Program_text => k_is)
    (case h_na_Program_nodes => k_is)
    (case h_mk_Program => k_is)
    (case h_kc_Program => k_is)
    (case h_xL_InvalidText => k_is)
    (case h_xV_InvalidText => first | rfl | kernel_rfl | decide +kernel)
    (case h_xs_InvalidText => k_is)
    (case h_xe_InvalidText => k_is)
    (case h_xy_InvalidText => k_is)
    (case h_xk_InvalidText => k_is)
    (case h_xi_InvalidText => k_is)
    (case h_xt_InvalidText => k_is)
    (case h_xl_InvalidText => k_is)
    (case h_xc_InvalidText => k_is)
    (case h_xkk_InvalidText => k_is)
    (case h_xn_InvalidText => k_is)
    (case h_xg_InvalidText => k_is)
    (case h_xgg_InvalidText => k_is)
    (case h_xh_InvalidText => k_is)
    (case h_xic_InvalidText => k_is)
    (case h_xss_InvalidText => first | rfl | k_is)
    (case h_nen_Program => k_is)
    (case h_neo_Program => k_is)
    (case h_eb_Program_non => k_is)
    (case h_eb_Program_bl => k_is)
    (case h_eb_Program_int => k_is)
    (case h_eb_Program_str => k_is)
    (case h_eb_Program_tup => k_is)
    (case h_eb_Program_lst => k_is)
    (case h_eb_Program_dct => k_is)
    (case h_ib_Program_non => k_is)
    (case h_ib_Program_bl => k_is)
    (case h_ib_Program_int => k_is)
    (case h_ib_Program_str => k_is)
    (case h_ib_Program_tup => k_is)
    (case h_ib_Program_lst => k_is)
    (case h_ib_Program_dct => k_is)
    (case h_icl_Program => k_is)
    (case h_ity_Program => k_is)
    (case h_iha_Program => k_is)
    (case h_ihm_Program => k_is)
    (case h_ihn => k_is)
    (case h_ihtk => k_is)
    (case h_g0 => k_is)
    (case h_l0 => k_is)
    (case h_c0 => k_is)
    (case h_k0 => k_is)
    (case h_g1 => k_is)
    (case h_l1 => k_is)
    (case h_c1 => k_is)
    (case h_k1 => k_is)
    (case h_g2 => k_is)
    (case h_l2 => k_is)
    (case h_c2 => k_is)
    (case h_k2 => k_is)
    (case h_g3 => k_is)
    (case h_l3 => k_is)
    (case h_c3 => k_is)
    (case h_k3 => k_is)
    (case h_g4 => k_is)
    (case h_l4 => k_is)
    (case h_c4 => k_is)
    (case h_k4 => k_is)
    (case h_g5 => k_is)
    (case h_l5 => k_is)
    (case h_c5 => k_is)
    (case h_k5 => k_is)
    (case h_g6 => k_is)
    (case h_l6 => k_is)
    (case h_c6 => k_is)
    (case h_k6 => k_is)
    (case h_g7 => k_is)
    (case h_l7 => k_is)
    (case h_c7 => k_is)
    (case h_k7 => k_is)
    (case h_sr8 => k_is)
    (case h_sg8 => k_is)
    (case h_sf8 => k_is)
    (case h_sc8_ => k_is)
    (case h_sj8 => k_is)
    (case h_sk8 => k_is)
    (case h_sl8_ => k_is)
    (case h_sm8_ => k_is)
    (case h_l8 => k_is)
    (case h_c8 => k_is)
    (case h_k8 => k_is)
    (case h_g9 => k_is)
    (case h_l9 => k_is)
    (case h_c9 => k_is)
    (case h_k9 => k_is)
    (case h_g10 => k_is)
    (case h_l10 => k_is)
    (case h_c10 => k_is)
    (case h_k10 => k_is)
    (case h_g11 => k_is)
    (case h_l11 => k_is)
    (case h_c11 => k_is)
    (case h_k11 => k_is)
    (case h_g12 => k_is)
    (case h_l12 => k_is)
    (case h_c12 => k_is)
    (case h_k12 => k_is)
    (case h_m13 => k_is)
    (case h_mf13 => k_is)
    (case h_l13 => k_is)
    (case h_c13 => k_is)
    (case h_k13 => k_is)
    (case h_m14 => k_is)
    (case h_mf14 => k_is)
    (case h_l14 => k_is)
    (case h_c14 => k_is)
    (case h_k14 => k_is)
    (case h_m15 => k_is)
    (case h_mf15 => k_is)
    (case h_l15 => k_is)
    (case h_c15 => k_is)
    (case h_k15 => k_is)
    (case h_n_range => k_is)
    (case h_n_max => k_is)
    (case h_n_min => k_is)
    (case h_n_len => k_is)
    (case h_n_list => k_is)
    (case h_n_abs => k_is)
    (case h_n_int => k_is)
    (case h_n_sorted => k_is)
    (case h_n_tuple => k_is)
    (case h_n_str => k_is)
    (case h_n_isinstance => k_is)
    (case h_n_enumerate => k_is)
    (case h_n_all => k_is)
    (case h_n_zip => k_is)
    (case h_n_repr => k_is)
    (case h_s_MAX_NODES => k_is)
    (case h_s_MAX_NAME => k_is)
    (case h_s_LETTERS => k_is)
    (case h_e_LETTERS => first | rfl | kernel_rfl | decide +kernel)
    (case h_s_DIGITS => k_is)
    (case h_e_DIGITS => first | rfl | kernel_rfl | decide +kernel)
