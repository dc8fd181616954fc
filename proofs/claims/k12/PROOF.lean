import PyProof.Rows.All
import Wide.All
import OpenK.AllK
import Wide.FinOn
import HandS.ForMost
import HandS.ForExc
import HandS.TupAny
import HandS.Wide
import HandS.CallSlots
import HandS.Deep
import PyProof.StrLawsIn
import HandS.Text
import HandS.Codes
import HandS.RaiseMore
import KE.KIntText
import PyProof.StrLawsTight
import HandS.ExcOwn
import PyProof.Rows.ReprR
import PyProof.FString2
import HandS.IsInst
import HandS.More
import HandS.Walk
import HandS.Zip
import HandS.Style
import HandS.Words
import HandS.ClsMeth
import HandS.ExcInit
import HandS.ExcField
import HandS.TryOnly
import HandS.Ends
import HandS.WordsExc
import PySem.Challenge.RW_sharedlines_k12_typed_texts_judged
set_option Elab.async false
set_option linter.all false
set_option maxRecDepth 100000
set_option maxHeartbeats 4000000
/-! Ov: a small evaluator for the Python of these programs. Values W are data; what is changed in place stands in numbered cells. -/
namespace Ov

inductive W where
  | non | bl (b : Bool) | int (i : Int) | str (s : List Nat)
  | tup (xs : List W) | lst (xs : List W) | dct (es : List W)
  | obj (c : Nat) (ns : List Nat) (vs : List W)
  | ref (n : Nat)
  | any
  deriving Inhabited

inductive Cell where
  | lst (xs : List W) | dct (es : List W) | obj (c : Nat) (ns : List Nat) (vs : List W) | dead
  deriving Inhabited

abbrev Hw := List Cell
abbrev Sw := List (Option W)

/-- what an evaluation comes to: a value, an exception (its class, its one attribute), or nothing that is known -/
inductive R (α : Type) where
  | ok (a : α) (h : Hw) | exn (c : Nat) (a : Option W) (h : Hw) | no

def R.bind {α β : Type} (r : R α) (f : α → Hw → R β) : R β :=
  match r with
  | .ok a h => f a h
  | .exn c a h => .exn c a h
  | .no => .no
/-- no exception may leave -/
def R.calm {α : Type} : R α → R α
  | .ok a h => .ok a h
  | _ => .no
/-- a value of the heap as it is, or nothing -/
def R.of {α : Type} (h : Hw) : Option α → R α
  | some a => .ok a h
  | none => .no

def b2i : Bool → Int
  | true => 1
  | false => 0
def seqNat : List Nat → List Nat → Bool
  | [], [] => true
  | a :: r, b :: t => Nat.beq a b && seqNat r t
  | _, _ => false

/-! ### equality, as Python's == of plain data -/
mutual
def W.eq : W → W → Bool
  | .non, .non => true
  | .bl a, .bl b => a == b
  | .bl a, .int j => decide (b2i a = j)
  | .int i, .bl b => decide (i = b2i b)
  | .int i, .int j => decide (i = j)
  | .str s, .str t => seqNat s t
  | .tup xs, .tup ys => W.eqs xs ys
  | .lst xs, .lst ys => W.eqs xs ys
  | .dct es, .dct fs => Nat.beq es.length fs.length && W.dle es fs
  | _, _ => false
def W.eqs : List W → List W → Bool
  | [], [] => true
  | x :: xs, y :: ys => W.eq x y && W.eqs xs ys
  | _, _ => false
def W.dle : List W → List W → Bool
  | [], _ => true
  | .tup [k, v] :: r, fs => (fs.any fun f => match f with
      | .tup [k', v'] => W.eq k k' && W.eq v v'
      | _ => false) && W.dle r fs
  | _ :: _, _ => false
end

/-! ### kinds of values -/
mutual
/-- plain data: no instance, no cell -/
def W.plain : W → Bool
  | .obj .. => false
  | .ref _ => false
  | .any => false
  | .tup xs => W.plains xs
  | .lst xs => W.plains xs
  | .dct xs => W.plains xs
  | _ => true
def W.plains : List W → Bool
  | [] => true
  | x :: xs => W.plain x && W.plains xs
/-- refers to cells below n alone -/
def W.under (n : Nat) : W → Bool
  | .ref m => Nat.blt m n
  | .tup xs => W.unders n xs
  | .lst xs => W.unders n xs
  | .dct xs => W.unders n xs
  | .obj _ _ xs => W.unders n xs
  | _ => true
def W.unders (n : Nat) : List W → Bool
  | [] => true
  | x :: xs => W.under n x && W.unders n xs
/-- a key: None, bools, ints, texts, tuples of these -/
def W.key : W → Bool
  | .non => true
  | .bl _ => true
  | .int _ => true
  | .str _ => true
  | .tup xs => W.keys xs
  | _ => false
def W.keys : List W → Bool
  | [] => true
  | x :: xs => W.key x && W.keys xs
/-- how deep tuples lie in one another -/
def W.depth : W → Nat
  | .tup xs => W.depths xs + 1
  | .lst xs => W.depths xs + 1
  | .dct xs => W.depths xs + 1
  | .obj _ _ xs => W.depths xs + 1
  | _ => 0
def W.depths : List W → Nat
  | [] => 0
  | x :: xs => Nat.max (W.depth x) (W.depths xs)
end
def Cell.under (n : Nat) : Cell → Bool
  | .lst xs => W.unders n xs
  | .dct xs => W.unders n xs
  | .obj _ _ xs => W.unders n xs
  | .dead => true
/-- what stands at a cell, as a value -/
def look (h : Hw) : W → W
  | .ref n => match h[n]? with
    | some (.lst xs) => .lst xs
    | some (.dct es) => .dct es
    | some (.obj c ns vs) => .obj c ns vs
    | _ => .ref n
  | w => w
/-- .. through and through, to a depth d -/
def deep (h : Hw) : Nat → W → W
  | 0, w => w
  | d + 1, w => match look h w with
    | .tup xs => .tup (xs.map (deep h d))
    | .lst xs => .lst (xs.map (deep h d))
    | .dct xs => .dct (xs.map (deep h d))
    | .obj c ns xs => .obj c ns (xs.map (deep h d))
    | w => w
/-- a value without cells -/
def whole (h : Hw) (w : W) : W := if W.under 0 w then w else deep h 12 w

/-! ### operations on values -/
inductive BOp where | add | sub | mul | fdiv | mod | pow
inductive COp where | eq | ne | lt | le | gt | ge | isin | notin
/-- how a source is walked -/
inductive IK where | seq | enum | zip | range | range2 | items | values
/-- kinds that isinstance asks of -/
inductive Ty where
  | int | bool | str | tuple | list | dict
def bits (i : Int) : Nat := i.natAbs.log2
/-- the most items of a list, signs of a text -/
def most : Nat := 16000000

def binop (o : BOp) (a b : W) : Option W :=
  match o, a, b with
  | .add, .int i, .int j => some (.int (i + j))
  | .sub, .int i, .int j => some (.int (i - j))
  | .mul, .int i, .int j => if Nat.blt (bits i) 63 || Nat.blt (bits j) 63 || Nat.blt (bits i + bits j) 1000000 then some (.int (i * j)) else none
  | .fdiv, .int i, .int j => if decide (0 < j) && Nat.blt (bits j) 9000 then some (.int (i / j)) else none
  | .mod, .int i, .int j => if decide (0 < j) then some (.int (i % j)) else none
  | .pow, .int i, .int j => if decide (0 ≤ j) && decide (j < 100) && Nat.blt (bits i) 60 then some (.int (i ^ j.toNat)) else none
  | .add, .str s, .str t => if Nat.blt (s.length + t.length) most then some (.str (s ++ t)) else none
  | .mul, .str s, .int j => if decide (0 ≤ j) && decide (j < 100000) && Nat.blt s.length 100 then some (.str (List.replicate j.toNat s).flatten) else none
  | .add, .lst s, .lst t => if Nat.blt (s.length + t.length) most then some (.lst (s ++ t)) else none
  | .add, .tup s, .tup t => if Nat.blt (s.length + t.length) most then some (.tup (s ++ t)) else none
  | _, _, _ => none

/-- is one text within another: at its beginning, or behind it -/
def isPre : List Nat → List Nat → Bool
  | [], _ => true
  | _ :: _, [] => false
  | a :: r, b :: t => Nat.beq a b && isPre r t
def isSub (s : List Nat) : List Nat → Bool
  | [] => isPre s []
  | b :: t => isPre s (b :: t) || isSub s t

/-- the value at a key -/
def dget (k : W) : List W → Option W
  | [] => none
  | .tup [k', v] :: r => if W.eq k' k then some v else dget k r
  | _ :: r => dget k r
def dset (k v : W) : List W → List W
  | [] => [.tup [k, v]]
  | .tup [k', v'] :: r => if W.eq k' k then .tup [k', v] :: r else .tup [k', v'] :: dset k v r
  | e :: r => e :: dset k v r
def ddel (k : W) : List W → List W
  | [] => []
  | .tup [k', v'] :: r => if W.eq k' k then r else .tup [k', v'] :: ddel k r
  | e :: r => e :: ddel k r
def keysOf : List W → List W
  | [] => []
  | .tup [k, _] :: r => k :: keysOf r
  | _ :: r => keysOf r
def valsOf : List W → List W
  | [] => []
  | .tup [_, v] :: r => v :: valsOf r
  | _ :: r => valsOf r

/-! ### order: of ints, texts, tuples and lists of these -/
def ltNat : List Nat → List Nat → Bool
  | [], [] => false
  | [], _ :: _ => true
  | _ :: _, [] => false
  | a :: r, b :: t => Nat.blt a b || (Nat.beq a b && ltNat r t)
mutual
/-- of one kind at each place, so that < may be asked -/
def W.alike : W → W → Bool
  | .non, .non => true
  | .bl _, .bl _ => true
  | .int _, .int _ => true
  | .str _, .str _ => true
  | .tup xs, .tup ys => W.alikes xs ys
  | .lst xs, .lst ys => W.alikes xs ys
  | _, _ => false
def W.alikes : List W → List W → Bool
  | x :: xs, y :: ys => W.alike x y && W.alikes xs ys
  | _, _ => true
def W.lt : W → W → Bool
  | .int i, .int j => decide (i < j)
  | .bl i, .bl j => !i && j
  | .str s, .str t => ltNat s t
  | .tup xs, .tup ys => W.lts xs ys
  | .lst xs, .lst ys => W.lts xs ys
  | _, _ => false
def W.lts : List W → List W → Bool
  | [], [] => false
  | [], _ :: _ => true
  | _ :: _, [] => false
  | x :: xs, y :: ys => if W.eq x y then W.lts xs ys else W.lt x y
end
def allAlike : List W → Bool
  | [] => true
  | x :: xs => xs.all (W.alike x) && allAlike xs
/-- stable -/
def insBy (le : α → α → Bool) (x : α) : List α → List α
  | [] => [x]
  | y :: r => if le x y then x :: y :: r else y :: insBy le x r
def sortBy (le : α → α → Bool) : List α → List α
  | [] => []
  | x :: r => insBy le x (sortBy le r)
def sortW (xs : List W) : List W := sortBy (fun x y => !W.lt y x) xs

/-- data that == may be asked of: no instance, no cell, signs of texts in range, not too deep -/
def W.lay : Nat → W → Bool
  | 0, _ => false
  | d + 1, w => match w with
    | .non => true
    | .bl _ => true
    | .int _ => true
    | .str s => s.all fun c => Nat.blt c 1114112
    | .tup xs => xs.all (W.lay d)
    | .lst xs => xs.all (W.lay d)
    | _ => false
def W.flat : W → Bool
  | .non => true
  | .bl _ => true
  | .int _ => true
  | .str _ => true
  | _ => false
/-- whether == is known: of two flat values, of data -/
def eqOk (a b : W) : Bool := (W.flat a && W.flat b) || (W.lay 40 a && W.lay 40 b)
def inOk (a : W) (xs : List W) : Bool := (W.flat a && xs.all W.flat) || (W.lay 39 a && xs.all (W.lay 39))
def cmpop (o : COp) (a b : W) : Option W :=
  match o with
  | .eq => if eqOk a b then some (.bl (W.eq a b)) else none
  | .ne => if eqOk a b then some (.bl (!W.eq a b)) else none
  | .lt => match a, b with
    | .int i, .int j => some (.bl (decide (i < j)))
    | _, _ => none
  | .le => match a, b with
    | .int i, .int j => some (.bl (decide (i ≤ j)))
    | _, _ => none
  | .gt => match a, b with
    | .int i, .int j => some (.bl (decide (j < i)))
    | _, _ => none
  | .ge => match a, b with
    | .int i, .int j => some (.bl (decide (j ≤ i)))
    | _, _ => none
  | .isin => match b with
    | .str t => match a with
      | .str [c] => some (.bl (t.any (Nat.beq c)))
      | _ => none
    | .lst xs => if inOk a xs then some (.bl (xs.any fun y => W.eq y a)) else none
    | .tup xs => if W.flat a && xs.all W.flat then some (.bl (xs.any fun y => W.eq y a)) else none
    | .dct es => if W.key a then some (.bl (dget a es).isSome) else none
    | _ => none
  | .notin => match b with
    | .str t => match a with
      | .str [c] => some (.bl (!t.any (Nat.beq c)))
      | _ => none
    | .lst xs => if inOk a xs then some (.bl (!xs.any fun y => W.eq y a)) else none
    | .tup xs => if W.flat a && xs.all W.flat then some (.bl (!xs.any fun y => W.eq y a)) else none
    | .dct es => if W.key a then some (.bl (!(dget a es).isSome)) else none
    | _ => none

/-! ### numbers and texts -/
def natText (n : Nat) : List Nat := (Nat.toDigits 10 n).map Char.toNat
def intText (i : Int) : List Nat := match i with
  | .ofNat n => natText n
  | .negSucc n => 45 :: natText (n + 1)
def isDigit (c : Nat) : Bool := Nat.ble 48 c && Nat.ble c 57
def readGo : Nat → List Nat → Option Nat
  | acc, [] => some acc
  | acc, c :: r => if isDigit c then readGo (acc * 10 + (c - 48)) r else none
/-- int(text) of one or more digits -/
def readNat (s : List Nat) : Option Nat := if s.isEmpty then none else readGo 0 s
/-- signs whose repr is themselves -/
def plainSign (c : Nat) : Bool := Nat.ble 32 c && Nat.ble c 126 && !Nat.beq c 39 && !Nat.beq c 92
/-- a text's repr; some signs are not told -/
def reprStr (s : List Nat) : Option (List Nat) := if s.all plainSign then some (39 :: s ++ [39]) else none
def commaJoin : List (List Nat) → List Nat
  | [] => []
  | [x] => x
  | x :: r => x ++ 44 :: 32 :: commaJoin r
mutual
def W.repr : W → Option (List Nat)
  | .non => some [78, 111, 110, 101]
  | .bl true => some [84, 114, 117, 101]
  | .bl false => some [70, 97, 108, 115, 101]
  | .int i => if Nat.blt (bits i) 1900 then some (intText i) else none
  | .str s => reprStr s
  | .tup [] => some [40, 41]
  | .tup [x] => (W.repr x).map fun t => 40 :: t ++ [44, 41]
  | .tup (x :: y :: r) => match W.repr x, W.reprs (y :: r) with
    | some t, some ts => some (40 :: commaJoin (t :: ts) ++ [41])
    | _, _ => none
  | .lst xs => (W.reprs xs).map fun ts => 91 :: commaJoin ts ++ [93]
  | _ => none
def W.reprs : List W → Option (List (List Nat))
  | [] => some []
  | x :: r => match W.repr x, W.reprs r with
    | some t, some ts => some (t :: ts)
    | _, _ => none
end
/-- split by one sign -/
def splitGo (c : Nat) : List Nat → List Nat × List (List Nat)
  | [] => ([], [])
  | a :: r => let (x, xs) := splitGo c r
    if Nat.beq a c then ([], x :: xs) else (a :: x, xs)
def splitBy (c : Nat) (s : List Nat) : List (List Nat) := let (x, xs) := splitGo c s; x :: xs
def joinBy (sep : List Nat) : List (List Nat) → List Nat
  | [] => []
  | [x] => x
  | x :: r => x ++ sep ++ joinBy sep r
def strsOf : List W → Option (List (List Nat))
  | [] => some []
  | .str s :: r => (strsOf r).map (s :: ·)
  | _ :: _ => none
def intsOf : List W → Option (List Int)
  | [] => some []
  | .int i :: r => (intsOf r).map (i :: ·)
  | _ :: _ => none
def blsOf : List W → Option (List Bool)
  | [] => some []
  | .bl b :: r => (blsOf r).map (b :: ·)
  | _ :: _ => none

/-! ### places -/
def place (i : Int) (n : Nat) : Option Nat :=
  if 0 ≤ i then (if i.toNat < n then some i.toNat else none)
  else if -(n : Int) ≤ i then some (i + n).toNat else none
/-- a slice's bound -/
def clip (i : Int) (n : Nat) : Nat := if i < 0 then (i + n).toNat else Nat.min i.toNat n
def slice {α : Type} (xs : List α) (lo hi : Option Int) : List α :=
  let a := match lo with | some i => clip i xs.length | none => 0
  let b := match hi with | some i => clip i xs.length | none => xs.length
  (xs.take b).drop a
def sliceW (o : W) (l u : Option Int) : Option W :=
  match o with
  | .str s => if Nat.blt s.length most then some (.str (slice s l u)) else none
  | .lst s => some (.lst (slice s l u))
  | .tup s => some (.tup (slice s l u))
  | _ => none
def itemW (o i : W) : Option W :=
  match o, i with
  | .lst xs, .int i => (place i xs.length).bind fun n => xs[n]?
  | .tup xs, .int i => (place i xs.length).bind fun n => xs[n]?
  | .str s, .int i => if Nat.blt s.length most then (place i s.length).bind fun n => (s[n]?).map fun c => .str [c] else none
  | .dct es, k => if W.key k then dget k es else none
  | _, _ => none

/-! ### what is walked -/
def numFrom : Int → List W → List W
  | _, [] => []
  | i, x :: r => .tup [.int i, x] :: numFrom (i + 1) r
def zipW : List W → List W → List W
  | x :: xs, y :: ys => .tup [x, y] :: zipW xs ys
  | _, _ => []
def rangeGo (i : Int) : Nat → List W
  | 0 => []
  | n + 1 => .int i :: rangeGo (i + 1) n
def signs (s : List Nat) : List W := s.map fun c => .str [c]
/-- the items that are walked; of values without their cells -/
def walked (k : IK) (ws : List W) : Option (List W) :=
  match k, ws with
  | .seq, [.lst xs] => some xs
  | .seq, [.tup xs] => some xs
  | .seq, [.str s] => some (signs s)
  | .enum, [.lst xs] => some (numFrom 0 xs)
  | .zip, [.lst xs, .lst ys] => some (zipW xs ys)
  | .zip, [.tup xs, .tup ys] => some (zipW xs ys)
  | .range, [.int n] => if decide (-1000000 < n) && decide (n < 1000000) then some (rangeGo 0 n.toNat) else none
  | .range2, [.int m, .int n] => if decide (-1000000 < m) && decide (m < 1000000) && decide (-1000000 < n) && decide (n < 1000000) then some (rangeGo m (n - m).toNat) else none
  | _, _ => none
def greatest : List Int → Option Int
  | [] => none
  | x :: r => some (r.foldl max x)
def smallest : List Int → Option Int
  | [] => none
  | x :: r => some (r.foldl min x)
def dictOf : List W → List W → Option (List W)
  | [], acc => some acc
  | .tup [k, v] :: r, acc => if W.key k then dictOf r (dset k v acc) else none
  | _ :: _, _ => none
/-! ### the evaluator -/
def newCell (h : Hw) (c : Cell) : R W := .ok (.ref h.length) (h ++ [c])
/-- a new list or dict: as data, or as a cell -/
def made (m : Bool) (h : Hw) (w : W) : R W :=
  if m then (match w with
    | .lst xs => newCell h (.lst xs)
    | .dct es => newCell h (.dct es)
    | _ => .no) else .ok w h
def setCell (h : Hw) (n : Nat) (c : Cell) : R W :=
  match h[n]? with
  | some .dead => .no
  | some _ => .ok .non (h.set n c)
  | none => .no
/-- a cell becomes data, and the cell is no more -/
def freeze (h : Hw) (w : W) : R W :=
  match w with
  | .ref n => match h[n]? with
    | some (.lst xs) => if W.unders 0 xs then .ok (.lst xs) (h.set n .dead) else .no
    | some (.dct xs) => if W.unders 0 xs then .ok (.dct xs) (h.set n .dead) else .no
    | some (.obj c ns xs) => if W.unders 0 xs then .ok (.obj c ns xs) (h.set n .dead) else .no
    | _ => .no
  | w => .ok w h
/-- cells from n on are forgotten where nothing refers to them -/
def trim (n : Nat) (w : W) (h : Hw) : Hw :=
  if W.under n w && (h.take n).all (Cell.under n) then h.take n else h
def trimR (n : Nat) : R W → R W
  | .ok w h => .ok w (trim n w h)
  | .exn c a h => .exn c a (trim n (a.getD .non) h)
  | .no => .no

def attrOf : W → Nat → Option W
  | .obj _ ns vs, nm => ((ns.zip vs).lookup nm)
  | _, _ => none
def putAttr (nm : Nat) (v : W) : List Nat → List W → List Nat × List W
  | n :: ns, x :: xs => if Nat.beq n nm then (n :: ns, v :: xs) else let (a, b) := putAttr nm v ns xs; (n :: a, x :: b)
  | _, _ => ([nm], [v])

mutual
/-- the very same value -/
def W.same : W → W → Bool
  | .non, .non => true
  | .bl a, .bl b => a == b
  | .int i, .int j => decide (i = j)
  | .str s, .str t => seqNat s t
  | .tup xs, .tup ys => W.sames xs ys
  | .lst xs, .lst ys => W.sames xs ys
  | .dct xs, .dct ys => W.sames xs ys
  | .obj c ns xs, .obj d ms ys => Nat.beq c d && seqNat ns ms && W.sames xs ys
  | .ref n, .ref m => Nat.beq n m
  | _, _ => false
def W.sames : List W → List W → Bool
  | [], [] => true
  | x :: xs, y :: ys => W.same x y && W.sames xs ys
  | _, _ => false
end
def Cell.same : Cell → Cell → Bool
  | .lst xs, .lst ys => W.sames xs ys
  | .dct xs, .dct ys => W.sames xs ys
  | .obj c ns xs, .obj d ms ys => Nat.beq c d && seqNat ns ms && W.sames xs ys
  | _, _ => false
/-- the cells that are walked stand as they stood -/
def stands (h0 h : Hw) : List W → Bool
  | [] => true
  | .ref n :: ws => (match h0[n]?, h[n]? with
    | some a, some b => Cell.same a b
    | _, _ => false) && stands h0 h ws
  | _ :: ws => stands h0 h ws
/-- runs through items; chk: what must stand at each turn and at the end; f: what is done with each -/
def compGo (chk : Hw → Bool) (f : W → Hw → R (Option W)) : List W → Hw → R (List W)
  | [], h => match chk h with
    | true => .ok [] h
    | false => .no
  | x :: xs, h => match chk h with
    | true => (f x h).bind fun o h1 => (compGo chk f xs h1).bind fun ys h2 => .ok (match o with | some y => y :: ys | none => ys) h2
    | false => .no
def concatGo (chk : Hw → Bool) (f : W → Hw → R (List W)) : List W → Hw → R (List W)
  | [], h => match chk h with
    | true => .ok [] h
    | false => .no
  | x :: xs, h => match chk h with
    | true => (f x h).bind fun ys h1 => (concatGo chk f xs h1).bind fun zs h2 => .ok (ys ++ zs) h2
    | false => .no
def truth : W → Option Bool
  | .bl b => some b
  | _ => none
def wipeW (σ : Sw) : List Nat → Sw
  | [] => σ
  | v :: vs => (wipeW σ vs).set v none

/-! built-ins, of values and cells -/
abbrev Gf := List W → Hw → R W
def isTy : Ty → W → Bool
  | .int, .int _ => true
  | .int, .bl _ => true
  | .bool, .bl _ => true
  | .str, .str _ => true
  | .tuple, .tup _ => true
  | .list, .lst _ => true
  | .dict, .dct _ => true
  | _, _ => false
def gIsTy (t : Ty) : Gf := fun ws h => match ws with
  | [w] => match look h w with
    | .ref _ => .no
    | .dct _ => .no
    | .obj _ _ _ => .no
    | .any => .no
    | u => .ok (.bl (isTy t u)) h
  | _ => .no
def gLen : Gf := fun ws h => match ws with
  | [w] => match look h w with
    | .str s => if Nat.blt s.length most then .ok (.int s.length) h else .no
    | .lst xs => .ok (.int xs.length) h
    | .tup xs => .ok (.int xs.length) h
    | _ => .no
  | _ => .no
def gStr : Gf := fun ws h => match ws with
  | [.int i] => if Nat.blt (bits i) 1900 then .ok (.str (intText i)) h else .no
  | _ => .no
def gInt : Gf := fun ws h => match ws with
  | [.int i] => .ok (.int i) h
  | [.bl b] => .ok (.int (b2i b)) h
  | [.str s] => if Nat.ble s.length 600 then (match readNat s with
    | some n => .ok (.int n) h
    | none => .no) else .no
  | _ => .no
def gRepr : Gf := fun ws h => match ws with
  | [w] => match W.repr (whole h w) with
    | some t => if W.lay 40 (whole h w) && Nat.blt t.length most then .ok (.str t) h else .no
    | none => .no
  | _ => .no
def gAbs : Gf := fun ws h => match ws with
  | [.int i] => .ok (.int (if i < 0 then -i else i)) h
  | _ => .no
def gMax2 : Gf := fun ws h => match ws with
  | [.int i, .int j] => .ok (.int (if j > i then j else i)) h
  | _ => .no
def gMin2 : Gf := fun ws h => match ws with
  | [.int i, .int j] => .ok (.int (if j < i then j else i)) h
  | _ => .no
def gAll : Gf := fun ws h => match ws with
  | [w] => match look h w with
    | .lst xs => match blsOf xs with
      | some bs => .ok (.bl (bs.all id)) h
      | none => .no
    | _ => .no
  | _ => .no
def gAny : Gf := fun ws h => match ws with
  | [w] => match look h w with
    | .lst xs => match blsOf xs with
      | some bs => .ok (.bl (bs.any id)) h
      | none => .no
    | _ => .no
  | _ => .no
def gList (m : Bool) : Gf := fun ws h => match ws with
  | [w] => match look h w with
    | .lst xs => made m h (.lst xs)
    | .tup xs => made m h (.lst xs)
    | _ => .no
  | _ => .no
def gTuple : Gf := fun ws h => match ws with
  | [w] => match look h w with
    | .lst xs => .ok (.tup xs) h
    | .tup xs => .ok (.tup xs) h
    | _ => .no
  | _ => .no
/-! methods of texts and lists: first whether the object is of the kind -/
inductive Kd where
  | str | list
def isKd : Kd → W → Bool
  | .str, .str _ => true
  | .list, .lst _ => true
  | _, _ => false
abbrev Gm := W → List W → Hw → R W
def mAppend : Gm := fun o ws h => match o, ws with
  | .ref n, [w] => match h[n]? with
    | some (.lst xs) => if Nat.blt xs.length most then .ok .non (h.set n (.lst (xs ++ [w]))) else .no
    | _ => .no
  | _, _ => .no
def mSplit (m : Bool) : Gm := fun o ws h => match o, ws with
  | .str s, [.str [c]] => if Nat.blt s.length most then made m h (.lst ((splitBy c s).map .str)) else .no
  | _, _ => .no
def mJoin : Gm := fun o ws h => match o, ws with
  | .str s, [w] => match look h w with
    | .lst xs => match strsOf xs with
      | some ss => if Nat.blt ((ss.map (·.length)).sum + ss.length * s.length) most then .ok (.str (joinBy s ss)) h else .no
      | none => .no
    | _ => .no
  | _, _ => .no

/-- the pairs of a display, from the left -/
def pairUp : List W → List W → Option (List W)
  | [], acc => some acc
  | k :: v :: r, acc => if W.key k then pairUp r (dset k v acc) else none
  | _, _ => none
abbrev CL := Nat → List W → Hw → R W
inductive Fl where
  | nx (σ : Sw) | ret (w : W) | brk (σ : Sw)
/-- an instance's cell becomes data -/
def freezeO (h : Hw) (n : Nat) : R W :=
  match h[n]? with
  | some (.obj c ns xs) => if W.unders 0 xs then .ok (.obj c ns xs) (h.set n .dead) else .no
  | _ => .no
section
variable (cl : CL)
/-- C(..): f its __init__; fz: it stands for good from then on -/
def newObj (c f : Nat) (fz : Bool) (ws : List W) (h : Hw) : R W :=
  match cl f (.ref h.length :: ws) (h ++ [.obj c [] []]) with
  | .ok .non h1 => if fz then (freezeO h1 h.length).bind fun w h2 => .ok w (trim h.length w h2) else .ok (.ref h.length) h1
  | .exn c a h1 => .exn c a (trim h.length (a.getD .non) h1)
  | _ => .no
/-- a comparison -/
def cmpW (o : COp) (a b : W) (h : Hw) : R W := R.of h (cmpop o (whole h a) (whole h b))
def setAttr (cs : List Nat) (o : W) (nm : Nat) (v : W) (h : Hw) : R W :=
  match o with
  | .ref n => match h[n]? with
    | some (.obj c ns vs) => if cs.any (Nat.beq c) && Nat.blt ns.length 1000 then .ok .non (h.set n (.obj c (putAttr nm v ns vs).1 (putAttr nm v ns vs).2)) else .no
    | _ => .no
  | _ => .no
def setItem (o i v : W) (h : Hw) : R W :=
  match o with
  | .ref n => match h[n]?, i with
    | some (.lst xs), .int i => match place i xs.length with
      | some k => .ok .non (h.set n (.lst (xs.set k v)))
      | none => .no
    | some (.dct es), k => if W.key k && Nat.blt es.length most then .ok .non (h.set n (.dct (dset k v es))) else .no
    | _, _ => .no
  | _ => .no
end

/-! ### expressions, statements: what they come to, at slots and cells -/
abbrev Ex := CL → Sw → Hw → R W
abbrev Exs := CL → Sw → Hw → R (List W)
abbrev Exo := CL → Sw → Hw → R (Option Int)
abbrev Exb := CL → Sw → Hw → R Bool
abbrev Tx := CL → W → Sw → Hw → R Sw
abbrev Txs := CL → List W → Sw → Hw → R Sw

def xVar (i : Nat) : Ex := fun _ σ h => match σ[i]? with
  | some (some w) => .ok w h
  | _ => .no
def xCon (w : W) : Ex := fun _ _ h => .ok w h
def xBin (o : BOp) (a b : Ex) : Ex := fun cl σ h => (a cl σ h).bind fun x h1 => (b cl σ h1).bind fun y h2 => .of h2 (binop o (look h2 x) (look h2 y))
def xNeg (a : Ex) : Ex := fun cl σ h => (a cl σ h).bind fun x h1 => match x with
  | .int i => .ok (.int (-i)) h1
  | _ => .no
def xNot (a : Ex) : Ex := fun cl σ h => (a cl σ h).bind fun x h1 => match x with
  | .bl b => .ok (.bl (!b)) h1
  | _ => .no
def xAnd (a b : Ex) : Ex := fun cl σ h => (a cl σ h).bind fun x h1 => match x with
  | .bl true => b cl σ h1
  | .bl false => .ok (.bl false) h1
  | _ => .no
def xOr (a b : Ex) : Ex := fun cl σ h => (a cl σ h).bind fun x h1 => match x with
  | .bl false => b cl σ h1
  | .bl true => .ok (.bl true) h1
  | _ => .no
def xIte (c a b : Ex) : Ex := fun cl σ h => (c cl σ h).bind fun x h1 => match x with
  | .bl true => a cl σ h1
  | .bl false => b cl σ h1
  | _ => .no
def xCmp (o : COp) (a b : Ex) : Ex := fun cl σ h => (a cl σ h).bind fun x h1 => (b cl σ h1).bind fun y h2 => cmpW o x y h2
def xChain (o p : COp) (a b c : Ex) : Ex := fun cl σ h => (a cl σ h).bind fun x h1 => (b cl σ h1).bind fun y h2 => (cmpW o x y h2).bind fun r h3 => match r with
  | .bl true => (c cl σ h3).bind fun z h4 => cmpW p y z h4
  | .bl false => .ok (.bl false) h3
  | _ => .no
def isNon : W → Bool
  | .non => true
  | _ => false
def gIsN (yes : Bool) : W → Hw → R W := fun x h1 => match x with
  | .any => .no
  | x => .ok (.bl (if yes then isNon x else !isNon x)) h1
def xIsN (yes : Bool) (a : Ex) : Ex := fun cl σ h => (a cl σ h).bind (gIsN yes)
def xsNil : Exs := fun _ _ h => .ok [] h
def xsCons (a : Ex) (r : Exs) : Exs := fun cl σ h => (a cl σ h).bind fun w h1 => (r cl σ h1).bind fun ws h2 => .ok (w :: ws) h2
def xTup (es : Exs) : Ex := fun cl σ h => (es cl σ h).bind fun ws h1 => if Nat.blt ws.length most then .ok (.tup ws) h1 else .no
def xLst (m : Bool) (es : Exs) : Ex := fun cl σ h => (es cl σ h).bind fun ws h1 => if Nat.blt ws.length most then made m h1 (.lst ws) else .no
def xDct (m : Bool) (es : Exs) : Ex := fun cl σ h => (es cl σ h).bind fun ws h1 => match pairUp ws [] with
  | some kvs => made m h1 (.dct kvs)
  | none => .no
def ifNil : Exb := fun _ _ h => .ok true h
def ifCons (a : Ex) (r : Exb) : Exb := fun cl σ h => (a cl σ h).bind fun w h1 => match w with
  | .bl true => r cl σ h1
  | .bl false => .ok false h1
  | _ => .no
/-- a source: what is walked, its items -/
def src (k : IK) (its : Exs) : CL → Sw → Hw → R (List W × List W) := fun cl σ h => (its cl σ h).bind fun ws h1 => match walked k (ws.map (look h1)) with
  | some xs => (match Nat.blt xs.length most with
    | true => .ok (ws, xs) h1
    | false => .no)
  | none => .no
/-- one turn of a comprehension -/
def turn (own : List Nat) (t : Tx) (ifs : Exb) (e : Ex) (cl : CL) (σ : Sw) : W → Hw → R (Option W) := fun x h =>
  (t cl x (wipeW σ own) h).calm.bind fun σ1 h1 => (ifs cl σ1 h1).calm.bind fun b h2 => if b then (e cl σ1 h2).calm.bind fun y h3 => .ok (some y) h3 else .ok none h2
def xComp (m : Bool) (own : List Nat) (t : Tx) (k : IK) (its : Exs) (ifs : Exb) (e : Ex) : Ex := fun cl σ h =>
  (src k its cl σ h).bind fun p h2 => (compGo (fun h' => stands h2 h' p.1) (turn own t ifs e cl σ) p.2 h2).bind fun ys h3 => made m h3 (.lst ys)
def xComp2 (m : Bool) (own : List Nat) (t : Tx) (k : IK) (its : Exs) (own2 : List Nat) (t2 : Tx) (k2 : IK) (its2 : Exs) (ifs : Exb) (e : Ex) : Ex := fun cl σ h =>
  (src k its cl σ h).bind fun p h2 => (concatGo (fun h' => stands h2 h' p.1) (fun x h => (t cl x (wipeW σ own) h).calm.bind fun σ1 h1 => (src k2 its2 cl σ1 h1).calm.bind fun q h3 =>
    compGo (fun h' => stands h3 h' q.1) (turn own2 t2 ifs e cl σ1) q.2 h3) p.2 h2).bind fun ys h3 => made m h3 (.lst ys)
def xPair (a b : Ex) : Ex := fun cl σ h => (a cl σ h).bind fun x h1 => (b cl σ h1).bind fun y h2 => .ok (.tup [x, y]) h2
def xDcomp (m : Bool) (own : List Nat) (t : Tx) (k : IK) (its : Exs) (ifs : Exb) (e v : Ex) : Ex := fun cl σ h =>
  (src k its cl σ h).bind fun p h2 => (compGo (fun h' => stands h2 h' p.1) (turn own t ifs (xPair e v) cl σ) p.2 h2).bind fun ys h3 => match dictOf ys [] with
    | some es => made m h3 (.dct es)
    | none => .no
def xCall (f : Nat) (es : Exs) : Ex := fun cl σ h => (es cl σ h).bind fun ws h1 => cl f ws h1
def xNew (c f : Nat) (fz : Bool) (es : Exs) : Ex := fun cl σ h => (es cl σ h).bind fun ws h1 => newObj cl c f fz ws h1
/-- o.m(..): tab the def for each class -/
def xUm (tab : List (Nat × Nat)) (nm : Nat) (o : Ex) (es : Exs) : Ex := fun cl σ h => (o cl σ h).bind fun x h1 => match look h1 x with
  | .obj c ns _ => if ns.any (Nat.beq nm) then .no else (match tab.lookup c with
    | some f => (es cl σ h1).bind fun ws h2 => cl f (x :: ws) h2
    | none => .no)
  | _ => .no
def xF (g : Gf) (es : Exs) : Ex := fun cl σ h => (es cl σ h).bind g
def xM (k : Kd) (g : Gm) (o : Ex) (es : Exs) : Ex := fun cl σ h => (o cl σ h).bind fun x h1 => if isKd k (look h1 x) then (es cl σ h1).bind fun ws h2 => g x ws h2 else .no
def xAttr (cs : List Nat) (nm : Nat) (o : Ex) : Ex := fun cl σ h => (o cl σ h).bind fun x h1 => match look h1 x with
  | .obj c ns vs => (match cs.any (Nat.beq c) with
    | true => .of h1 ((ns.zip vs).lookup nm)
    | false => .no)
  | _ => .no
def xIdx (o i : Ex) : Ex := fun cl σ h => (o cl σ h).bind fun x h1 => (i cl σ h1).bind fun y h2 => .of h2 (itemW (look h2 x) y)
def oNone : Exo := fun _ _ h => .ok none h
def oSome (a : Ex) : Exo := fun cl σ h => (a cl σ h).bind fun w h1 => match w with
  | .int i => .ok (some i) h1
  | _ => .no
def xSlc (m : Bool) (o : Ex) (lo hi : Exo) : Ex := fun cl σ h => (o cl σ h).bind fun x h1 => (lo cl σ h1).bind fun l h2 => (hi cl σ h2).bind fun u h3 => (R.of h3 (sliceW (look h3 x) l u)).bind fun w h4 => match w with
  | .lst xs => made m h4 (.lst xs)
  | w => .ok w h4
def xRev (o : Ex) : Ex := fun cl σ h => (o cl σ h).bind fun x h1 => match look h1 x with
  | .lst xs => .ok (.lst xs.reverse) h1
  | _ => .no
def xFrz (e : Ex) : Ex := fun cl σ h => (e cl σ h).bind fun x h1 => freeze h1 x
def xSortk (slot : Nat) (o key : Ex) : Ex := fun cl σ h => (o cl σ h).bind fun x h1 => match look h1 x with
  | .lst xs => (compGo (fun _ => true) (fun y h => (key cl ((σ.map fun _ => none).set slot (some y)) h).calm.bind fun z h2 => .ok (some (.tup [z, y])) h2) xs h1).bind fun zs h2 =>
      if W.plains (keysOf zs) && allAlike (keysOf zs) then .ok (.lst (valsOf (sortBy (fun p q => match p, q with
        | .tup [a, _], .tup [b, _] => !W.lt b a
        | _, _ => true) zs))) h2 else .no
  | _ => .no
def tName (i : Nat) : Tx := fun _ w σ h => if Nat.blt i σ.length then .ok (σ.set i (some w)) h else .no
def tTup (n : Nat) (ts : Txs) : Tx := fun cl w σ h => match look h w with
  | .tup ws => (match Nat.beq ws.length n with
    | true => ts cl ws σ h
    | false => .no)
  | _ => .no
def tsNil : Txs := fun _ ws σ h => match ws with
  | [] => .ok σ h
  | _ :: _ => .no
def tsCons (t : Tx) (ts : Txs) : Txs := fun cl ws σ h => match ws with
  | w :: r => (t cl w σ h).bind fun σ1 h1 => ts cl r σ1 h1
  | [] => .no
def tAttr (cs : List Nat) (nm : Nat) (o : Ex) : Tx := fun cl w σ h => (o cl σ h).bind fun x h1 => (setAttr cs x nm w h1).bind fun _ h2 => .ok σ h2
def tSub (o i : Ex) : Tx := fun cl w σ h => (o cl σ h).bind fun x h1 => (i cl σ h1).bind fun y h2 => (setItem x y w h2).bind fun _ h3 => .ok σ h3
/-! ### statements -/
/-- an operation in place -/
def augW (o : BOp) (x y : W) (h : Hw) : R W :=
  match o, x with
  | .add, .ref n => match h[n]?, look h y with
    | some (.lst xs), .lst ys => if Nat.blt (xs.length + ys.length) most then .ok x (h.set n (.lst (xs ++ ys))) else .no
    | _, _ => .no
  | _, .lst _ => .no
  | _, .dct _ => .no
  | _, _ => .of h (binop o x y)
/-- what a statement comes to -/
inductive RS where
  | ok (fl : Fl) (h : Hw) | exn (c : Nat) (a : Option W) (σ : Sw) (h : Hw) | no
def RS.bind (r : RS) (f : Fl → Hw → RS) : RS :=
  match r with
  | .ok fl h => f fl h
  | .exn c a σ h => .exn c a σ h
  | .no => .no
abbrev Sx := CL → Sw → Hw → RS
/-- an expression within a statement, the slots as they stand -/
def R.st {α : Type} (r : R α) (σ : Sw) (f : α → Hw → RS) : RS :=
  match r with
  | .ok a h => f a h
  | .exn c a h => .exn c a σ h
  | .no => .no
def forGo (chk : Hw → Bool) (f : W → Sw → Hw → RS) : List W → Sw → Hw → RS
  | [], σ, h => match chk h with
    | true => .ok (.nx σ) h
    | false => .no
  | x :: xs, σ, h => match chk h with
    | true => (f x σ h).bind fun fl h1 => (match fl with
      | .nx σ1 => forGo chk f xs σ1 h1
      | .ret w => .ok (.ret w) h1
      | .brk σ1 => .ok (.nx σ1) h1)
    | false => .no
/-- c: the test; f: the body -/
def whGo (c : Sw → Hw → R W) (f : Sw → Hw → RS) : Nat → Sw → Hw → RS
  | 0, _, _ => .no
  | n + 1, σ, h => (c σ h).st σ fun x h1 => match x with
    | .bl true => (f σ h1).bind fun fl h2 => match fl with
      | .nx σ1 => whGo c f n σ1 h2
      | .ret w => .ok (.ret w) h2
      | .brk σ1 => .ok (.nx σ1) h2
    | .bl false => .ok (.nx σ) h1
    | _ => .no
def wfuel : Nat := 100000000
def sAsg (t : Tx) (e : Ex) : Sx := fun cl σ h => (e cl σ h).st σ fun w h1 => (t cl w σ h1).calm.st σ fun σ1 h2 => .ok (.nx σ1) h2
def sAug (t : Tx) (o : BOp) (old e : Ex) : Sx := fun cl σ h => (old cl σ h).st σ fun x h1 => (e cl σ h1).st σ fun y h2 => (augW o x y h2).st σ fun z h3 => (t cl z σ h3).calm.st σ fun σ1 h4 => .ok (.nx σ1) h4
def sPar (i j : Nat) (es : Exs) : Sx := fun cl σ h => (es cl σ h).st σ fun ws h1 => match ws with
  | [v, w] => .ok (.nx ((σ.set i (some v)).set j (some w))) h1
  | _ => .no
def sPar3 (i j k : Nat) (es : Exs) : Sx := fun cl σ h => (es cl σ h).st σ fun ws h1 => match ws with
  | [u, v, w] => .ok (.nx (((σ.set i (some u)).set j (some v)).set k (some w))) h1
  | _ => .no
def sEx (e : Ex) : Sx := fun cl σ h => (e cl σ h).st σ fun _ h1 => .ok (.nx σ) h1
def sIf (c : Ex) (a b : Sx) : Sx := fun cl σ h => (c cl σ h).st σ fun x h1 => match x with
  | .bl true => a cl σ h1
  | .bl false => b cl σ h1
  | _ => .no
def sFor (t : Tx) (k : IK) (its : Exs) (b : Sx) : Sx := fun cl σ h => (src k its cl σ h).st σ fun p h2 =>
  forGo (fun h' => stands h2 h' p.1) (fun x σ h => (t cl x σ h).calm.st σ fun σ1 h3 => b cl σ1 h3) p.2 σ h2
def sWh (c : Ex) (b : Sx) : Sx := fun cl σ h => whGo (c cl) (b cl) wfuel σ h
def sRet (e : Ex) : Sx := fun cl σ h => (e cl σ h).st σ fun w h1 => .ok (.ret w) h1
def sRetn : Sx := fun _ _ h => .ok (.ret .non) h
def sRai0 (c : Nat) : Sx := fun _ σ h => .exn c none σ h
def sRai (c : Nat) (e : Ex) : Sx := fun cl σ h => (e cl σ h).st σ fun w h1 => .exn c (some w) σ h1
def sPass : Sx := fun _ σ h => .ok (.nx σ) h
def sBrk : Sx := fun _ σ h => .ok (.brk σ) h
def sSeq (a b : Sx) : Sx := fun cl σ h => (a cl σ h).bind fun fl h1 => match fl with
  | .nx σ1 => b cl σ1 h1
  | fl => .ok fl h1
/-- try: b, except .. as (slot i): suite; tab: does the clause take the class -/
def sTryAs (tab : List (Nat × Bool)) (i : Nat) (suite : Option W → Sx) (b : Sx) : Sx := fun cl σ h => match b cl σ h with
  | .exn c a σ1 h1 => (match tab.lookup c with
    | some true => if Nat.blt i σ1.length then (match suite a cl (σ1.set i none) h1 with
      | .ok (.nx σ2) h2 => .ok (.nx (σ2.set i none)) h2
      | .ok (.brk σ2) h2 => .ok (.brk (σ2.set i none)) h2
      | .ok (.ret w) h2 => .ok (.ret w) h2
      | _ => .no) else .no
    | some false => .exn c a σ1 h1
    | none => .no)
  | r => r
/-- what the caught exception carries -/
def xExc (o : Option W) : Ex := fun _ _ h => match o with
  | some w => .ok w h
  | none => .no
def RS.back : RS → R W
  | .ok (.ret w) h => .ok w h
  | .ok (.nx _) h => .ok .non h
  | .ok (.brk _) _ => .no
  | .exn c a _ h => .exn c a h
  | .no => .no
/-- the slots at the entry -/
def enter (nl : Nat) (ws : List W) : Sw := ws.map some ++ List.replicate (nl - ws.length) none
/-- a def: how many parameters, how many slots, its body; pure: it is run over no cells, and hands back none -/
structure Fn where
  np : Nat
  nl : Nat
  pure : Bool
  body : Sx
def runPure (r : R W) (h : Hw) : R W :=
  match r with
  | .ok w _ => if W.under 0 w then .ok w h else .no
  | .exn c a _ => if W.under 0 (a.getD .non) then .exn c a h else .no
  | .no => .no
/-- a def is run -/
def runF (f : Fn) (cl : CL) (ws : List W) (h : Hw) : R W :=
  if Nat.beq ws.length f.np then
    if f.pure then
      if W.unders 0 ws then runPure (f.body cl (enter f.nl ws) []).back h else .no
    else trimR h.length (f.body cl (enter f.nl ws) h).back
  else .no
/-- calls to a depth k -/
def callF (fns : List Fn) : Nat → CL
  | 0, _, _, _ => .no
  | k + 1, f, ws, h => match fns[f]? with
    | some fn => runF fn (callF fns k) ws h
    | none => .no
end Ov
/-! what stands for a value in the heap -/
namespace Ov
open PySem PySem.Spec PyProof.Rows L2

/-- names of attributes and methods, classes' addresses -/
structure Cf where
  K : PySem.W.Frag
  nm : Nat → Str
  ca : Nat → Addr
  xf : Nat → Str
/-- cells' addresses; what stands for good; what is not touched -/
structure Gh where
  ι : List Addr
  F : Hp
  P : Addr → Prop

abbrev strV (s : List Nat) : V := .str ⟨s.toArray⟩
mutual
def RW (C : Cf) (γ : Gh) : W → V → Prop
  | .non, v => v = .non
  | .bl b, v => v = .bl b
  | .int i, v => v = .int i
  | .str s, v => v = strV s
  | .tup ws, v => ∃ a vs, v = .ref a ∧ Rd γ.F a (.tup vs) ∧ RWs C γ ws vs
  | .lst ws, v => ∃ a vs, v = .ref a ∧ Rd γ.F a (.lst vs) ∧ RWs C γ ws vs
  | .dct _, _ => False
  | .obj c ns ws, v => ∃ a dx vs, v = .ref a ∧ γ.F a = some (.ins (C.ca c) dx ((ns.map C.nm).zip vs)) ∧ γ.F dx = some (.own a) ∧ ns.length = vs.length ∧ RWs C γ ws vs
  | .ref n, v => ∃ a, v = .ref a ∧ γ.ι[n]? = some a
  | .any, _ => True
def RWs (C : Cf) (γ : Gh) : List W → List V → Prop
  | [], vs => vs = []
  | w :: ws, vs => ∃ v r, vs = v :: r ∧ RW C γ w v ∧ RWs C γ ws r
end

/-- what stands at a cell's address -/
def CellIs (C : Cf) (γ : Gh) (H : Hp) (a : Addr) : Cell → Prop
  | .lst ws => γ.F a = none ∧ ∃ vs, H a = some (.lst vs) ∧ RWs C γ ws vs
  | .dct _ => False
  | .obj c ns ws => γ.F a = none ∧ ∃ dx vs, γ.F dx = none ∧ H a = some (.ins (C.ca c) dx ((ns.map C.nm).zip vs)) ∧ H dx = some (.own a) ∧ ns.length = vs.length ∧ RWs C γ ws vs
  | .dead => True
structure HC (C : Cf) (γ : Gh) (h : Hw) (H : Hp) : Prop where
  len : h.length = γ.ι.length
  nd : γ.ι.Nodup
  cell : ∀ (n : Nat) (a : Addr) (c : Cell), γ.ι[n]? = some a → h[n]? = some c → CellIs C γ H a c
  there : ∀ a, a ∈ γ.ι → H a ≠ none
  frz : ∀ a o, γ.F a = some o → H a = some o
  prot : ∀ a, γ.P a → H a ≠ none ∧ γ.F a = none ∧ a ∉ γ.ι ∧ ∀ b, b ∈ γ.ι → H a ≠ some (.own b)
  own : ∀ d x, H d = some (.own x) → H x ≠ none

structure Ext (γ γ' : Gh) (H : Hp) : Prop where
  pre : ∃ l, γ'.ι = γ.ι ++ l ∧ ∀ a ∈ l, H a = none
  frz : ∀ a o, γ.F a = some o → γ'.F a = some o
  prot : γ'.P = γ.P
structure Keep (γ : Gh) (H H' : Hp) : Prop where
  same : ∀ a o, H a = some o → (a ∈ γ.ι → γ.F a = some o) → H' a = some o
  there : ∀ a, H a ≠ none → H' a ≠ none

theorem Keep.refl (γ : Gh) (H : Hp) : Keep γ H H := ⟨fun _ _ h _ => h, fun _ h => h⟩
theorem Ext.refl (γ : Gh) (H : Hp) : Ext γ γ H := ⟨⟨[], by simp, fun _ h => nomatch h⟩, fun _ _ h => h, rfl⟩
theorem RdM {F F' : Hp} (k : ∀ a o, F a = some o → F' a = some o) {a : Addr} {u : HO} (h : Rd F a u) : Rd F' a u := by
  rcases h with h | ⟨o, h⟩
  · exact .inl (k _ _ h)
  · exact .inr ⟨o, k _ _ h⟩

section
variable {C : Cf} {γ γ' γ1 γ2 : Gh} {H H' H1 H2 : Hp}
mutual
theorem RW.mono (hi : ∀ (n : Nat) (a : Addr), γ.ι[n]? = some a → γ'.ι[n]? = some a) (hf : ∀ a o, γ.F a = some o → γ'.F a = some o) : ∀ (w : W) (v : V), RW C γ w v → RW C γ' w v
  | .non, _, h => h
  | .bl _, _, h => h
  | .int _, _, h => h
  | .str _, _, h => h
  | .tup ws, v, h => by
    obtain ⟨a, vs, e, s, r⟩ := h
    exact ⟨a, vs, e, RdM hf s, RWs.mono hi hf ws vs r⟩
  | .lst ws, v, h => by
    obtain ⟨a, vs, e, s, r⟩ := h
    exact ⟨a, vs, e, RdM hf s, RWs.mono hi hf ws vs r⟩
  | .dct _, _, h => h.elim
  | .obj c ns ws, v, h => by
    obtain ⟨a, dx, vs, e, f1, f2, l, r⟩ := h
    exact ⟨a, dx, vs, e, hf _ _ f1, hf _ _ f2, l, RWs.mono hi hf ws vs r⟩
  | .ref n, v, h => by
    obtain ⟨a, e, i⟩ := h
    exact ⟨a, e, hi _ _ i⟩
  | .any, _, _ => trivial
theorem RWs.mono (hi : ∀ (n : Nat) (a : Addr), γ.ι[n]? = some a → γ'.ι[n]? = some a) (hf : ∀ a o, γ.F a = some o → γ'.F a = some o) : ∀ (ws : List W) (vs : List V), RWs C γ ws vs → RWs C γ' ws vs
  | [], _, h => h
  | w :: ws, vs, h => by
    obtain ⟨v, r, e, a, b⟩ := h
    exact ⟨v, r, e, RW.mono hi hf w v a, RWs.mono hi hf ws r b⟩
end
mutual
/-- without cells only what stands for good matters -/
theorem RW.pure (hf : ∀ a o, γ.F a = some o → γ'.F a = some o) : ∀ (w : W) (v : V), w.under 0 = true → RW C γ w v → RW C γ' w v
  | .non, _, _, h => h
  | .bl _, _, _, h => h
  | .int _, _, _, h => h
  | .str _, _, _, h => h
  | .tup ws, v, u, h => by
    obtain ⟨a, vs, e, s, r⟩ := h
    exact ⟨a, vs, e, RdM hf s, RWs.pure hf ws vs u r⟩
  | .lst ws, v, u, h => by
    obtain ⟨a, vs, e, s, r⟩ := h
    exact ⟨a, vs, e, RdM hf s, RWs.pure hf ws vs u r⟩
  | .dct _, _, _, h => h.elim
  | .obj c ns ws, v, u, h => by
    obtain ⟨a, dx, vs, e, f1, f2, l, r⟩ := h
    exact ⟨a, dx, vs, e, hf _ _ f1, hf _ _ f2, l, RWs.pure hf ws vs u r⟩
  | .ref n, v, u, h => by simp [W.under, Nat.blt] at u
  | .any, _, _, _ => trivial
theorem RWs.pure (hf : ∀ a o, γ.F a = some o → γ'.F a = some o) : ∀ (ws : List W) (vs : List V), W.unders 0 ws = true → RWs C γ ws vs → RWs C γ' ws vs
  | [], _, _, h => h
  | w :: ws, vs, u, h => by
    obtain ⟨v, r, e, a, b⟩ := h
    simp only [W.unders, Bool.and_eq_true] at u
    exact ⟨v, r, e, RW.pure hf w v u.1 a, RWs.pure hf ws r u.2 b⟩
end
mutual
/-- cells below n alone -/
theorem RW.cut {n : Nat} (hi : ∀ (m : Nat) (a : Addr), m < n → γ.ι[m]? = some a → γ'.ι[m]? = some a) (hf : ∀ a o, γ.F a = some o → γ'.F a = some o) : ∀ (w : W) (v : V), w.under n = true → RW C γ w v → RW C γ' w v
  | .non, _, _, h => h
  | .bl _, _, _, h => h
  | .int _, _, _, h => h
  | .str _, _, _, h => h
  | .tup ws, v, u, h => by
    obtain ⟨a, vs, e, s, r⟩ := h
    exact ⟨a, vs, e, RdM hf s, RWs.cut hi hf ws vs u r⟩
  | .lst ws, v, u, h => by
    obtain ⟨a, vs, e, s, r⟩ := h
    exact ⟨a, vs, e, RdM hf s, RWs.cut hi hf ws vs u r⟩
  | .dct _, _, _, h => h.elim
  | .obj c ns ws, v, u, h => by
    obtain ⟨a, dx, vs, e, f1, f2, l, r⟩ := h
    exact ⟨a, dx, vs, e, hf _ _ f1, hf _ _ f2, l, RWs.cut hi hf ws vs u r⟩
  | .ref m, v, u, h => by
    obtain ⟨a, e, i⟩ := h
    have u' : m < n := Nat.le_of_ble_eq_true u
    exact ⟨a, e, hi _ _ u' i⟩
  | .any, _, _, _ => trivial
theorem RWs.cut {n : Nat} (hi : ∀ (m : Nat) (a : Addr), m < n → γ.ι[m]? = some a → γ'.ι[m]? = some a) (hf : ∀ a o, γ.F a = some o → γ'.F a = some o) : ∀ (ws : List W) (vs : List V), W.unders n ws = true → RWs C γ ws vs → RWs C γ' ws vs
  | [], _, _, h => h
  | w :: ws, vs, u, h => by
    obtain ⟨v, r, e, a, b⟩ := h
    simp only [W.unders, Bool.and_eq_true] at u
    exact ⟨v, r, e, RW.cut hi hf w v u.1 a, RWs.cut hi hf ws r u.2 b⟩
end
theorem Ext.ix (e : Ext γ γ' H) : ∀ (n : Nat) (a : Addr), γ.ι[n]? = some a → γ'.ι[n]? = some a := fun n a h => by
  obtain ⟨l, q, _⟩ := e.pre
  rw [q, List.getElem?_append_left (List.getElem?_eq_some_iff.mp h).1]
  exact h
theorem Ext.rw (e : Ext γ γ' H) {w : W} {v : V} (h : RW C γ w v) : RW C γ' w v := RW.mono e.ix e.frz w v h
theorem Ext.rws (e : Ext γ γ' H) {ws : List W} {vs : List V} (h : RWs C γ ws vs) : RWs C γ' ws vs := RWs.mono e.ix e.frz ws vs h
theorem RWs.length : ∀ {ws : List W} {vs : List V}, RWs C γ ws vs → ws.length = vs.length
  | [], _, h => by cases h; rfl
  | _ :: _, _, ⟨_, _, e, _, b⟩ => by subst e; simp [RWs.length b]
theorem RWs.get : ∀ {ws : List W} {vs : List V} {i : Nat} {w : W}, RWs C γ ws vs → ws[i]? = some w → ∃ v, vs[i]? = some v ∧ RW C γ w v
  | [], _, _, _, _, e => by simp at e
  | _ :: _, _, 0, w, ⟨v, r, e, a, b⟩, q => by subst e; simp at q; subst q; exact ⟨v, rfl, a⟩
  | _ :: _, _, i + 1, w, ⟨v, r, e, a, b⟩, q => by subst e; exact RWs.get (i := i) b (by simpa using q)
theorem RWs.append : ∀ {ws us : List W} {vs xs : List V}, RWs C γ ws vs → RWs C γ us xs → RWs C γ (ws ++ us) (vs ++ xs)
  | [], _, _, _, h, k => by cases h; exact k
  | _ :: _, _, _, _, ⟨v, r, e, a, b⟩, k => by subst e; exact ⟨v, r ++ _, rfl, a, RWs.append b k⟩
theorem RWs.cons {w : W} {ws : List W} {v : V} {vs : List V} (a : RW C γ w v) (b : RWs C γ ws vs) : RWs C γ (w :: ws) (v :: vs) := ⟨v, vs, rfl, a, b⟩
theorem RWs.nil : RWs C γ [] [] := rfl
theorem Keep.trans (e : Ext γ γ1 H) (k1 : Keep γ H H1) (k2 : Keep γ1 H1 H2) : Keep γ H H2 := by
  refine ⟨fun a o h n => ?_, fun a h => k2.there a (k1.there a h)⟩
  refine k2.same a o (k1.same a o h n) fun hi => ?_
  obtain ⟨l, q, ln⟩ := e.pre
  rw [q] at hi
  rcases List.mem_append.mp hi with hi | hi
  · exact e.frz _ _ (n hi)
  · rw [ln a hi] at h
    cases h
theorem Ext.trans (e1 : Ext γ γ1 H) (k1 : Keep γ H H1) (e2 : Ext γ1 γ2 H1) : Ext γ γ2 H := by
  obtain ⟨l1, q1, n1⟩ := e1.pre
  obtain ⟨l2, q2, n2⟩ := e2.pre
  refine ⟨⟨l1 ++ l2, by rw [q2, q1, List.append_assoc], fun a h => ?_⟩, fun a o h => e2.frz _ _ (e1.frz _ _ h), e2.prot.trans e1.prot⟩
  rcases List.mem_append.mp h with h | h
  · exact n1 a h
  · exact Decidable.byContradiction fun n => (k1.there a n) (n2 a h)
end

/-! ### slots -/
def SL (C : Cf) (γ : Gh) (σw : Sw) (σ : L2.St) : Prop := σw.length = σ.length ∧ ∀ (i : Nat) (w : W), σw[i]? = some (some w) → ∃ v, σ[i]? = some (some v) ∧ RW C γ w v
theorem SL.ext {C : Cf} {γ γ' : Gh} {H : Hp} {σw : Sw} {σ : L2.St} (s : SL C γ σw σ) (e : Ext γ γ' H) : SL C γ' σw σ :=
  ⟨s.1, fun i w h => let ⟨v, a, b⟩ := s.2 i w h; ⟨v, a, e.rw b⟩⟩
theorem SL.set {C : Cf} {γ : Gh} {σw : Sw} {σ : L2.St} (s : SL C γ σw σ) {i : Nat} {w : W} {v : V} (r : RW C γ w v) : SL C γ (σw.set i (some w)) (σ.set i (some v)) := by
  refine ⟨by simp [s.1], fun j u h => ?_⟩
  by_cases e : i = j
  · subst e
    by_cases l : i < σw.length
    · rw [List.getElem?_set_self l] at h
      cases h
      exact ⟨v, by rw [List.getElem?_set_self (by rw [← s.1]; exact l)], r⟩
    · rw [List.getElem?_eq_none (by simpa using l)] at h; cases h
  · rw [List.getElem?_set_ne e] at h ⊢
    exact s.2 j u h
theorem SL.setN {C : Cf} {γ : Gh} {σw : Sw} {σ : L2.St} (s : SL C γ σw σ) (i : Nat) : SL C γ (σw.set i none) (σ.set i none) := by
  refine ⟨by simp [s.1], fun j u h => ?_⟩
  by_cases e : i = j
  · subst e
    by_cases l : i < σw.length
    · rw [List.getElem?_set_self l] at h; cases h
    · rw [List.getElem?_eq_none (by simpa using l)] at h; cases h
  · rw [List.getElem?_set_ne e] at h ⊢
    exact s.2 j u h
theorem SL.wipe {C : Cf} {γ : Gh} {σw : Sw} {σ : L2.St} (s : SL C γ σw σ) : ∀ vs : List Nat, SL C γ (wipeW σw vs) (L2.wipe σ vs)
  | [] => s
  | v :: vs => (SL.wipe s vs).setN v

/-! ### what an evaluation leaves -/
/-- an exception: its class, its own dict -/
def RX (C : Cf) (γ : Gh) (H : Hp) (c : Nat) (a : Option W) (cls : Value) (d : Option Addr) : Prop :=
  cls = .ref (C.ca c) ∧ match a with
    | none => True
    | some w => ∃ dd v, d = some dd ∧ H dd = some (.xd [(C.xf c, v)]) ∧ RW C γ w v
def PoE (C : Cf) (γ : Gh) (H : Hp) (r : R W) (Q : VK) (E : XK) : Prop :=
  match r with
  | .ok w h => ∀ γ' v H', Ext γ γ' H → Keep γ H H' → HC C γ' h H' → RW C γ' w v → Q v H'
  | .exn c a h => ∀ γ' H' cls d, Ext γ γ' H → Keep γ H H' → HC C γ' h H' → RX C γ' H' c a cls d → E cls d H'
  | .no => False
def PoEs (C : Cf) (γ : Gh) (H : Hp) (r : R (List W)) (Q : List V → Hp → Prop) (E : XK) : Prop :=
  match r with
  | .ok ws h => ∀ γ' vs H', Ext γ γ' H → Keep γ H H' → HC C γ' h H' → RWs C γ' ws vs → Q vs H'
  | .exn c a h => ∀ γ' H' cls d, Ext γ γ' H → Keep γ H H' → HC C γ' h H' → RX C γ' H' c a cls d → E cls d H'
  | .no => False
def PoB (C : Cf) (γ : Gh) (H : Hp) (r : R Bool) (Q : Bool → Hp → Prop) (E : XK) : Prop :=
  match r with
  | .ok b h => ∀ γ' H', Ext γ γ' H → Keep γ H H' → HC C γ' h H' → Q b H'
  | .exn c a h => ∀ γ' H' cls d, Ext γ γ' H → Keep γ H H' → HC C γ' h H' → RX C γ' H' c a cls d → E cls d H'
  | .no => False
def PoT (C : Cf) (γ : Gh) (H : Hp) (r : R Sw) (Q : L2.St → Hp → Prop) : Prop :=
  match r with
  | .ok σw h => ∀ γ' σ H', Ext γ γ' H → Keep γ H H' → HC C γ' h H' → SL C γ' σw σ → Q σ H'
  | _ => False
def PoS (C : Cf) (γ : Gh) (H : Hp) (r : RS) (D : Ends) (Wx : WX) : Prop :=
  match r with
  | .ok (.nx σw) h => ∀ γ' σ H', Ext γ γ' H → Keep γ H H' → HC C γ' h H' → SL C γ' σw σ → D.nx σ H'
  | .ok (.brk σw) h => ∀ γ' σ H', Ext γ γ' H → Keep γ H H' → HC C γ' h H' → SL C γ' σw σ → D.bk σ H'
  | .ok (.ret w) h => ∀ γ' v H', Ext γ γ' H → Keep γ H H' → HC C γ' h H' → RW C γ' w v → D.rt v H'
  | .exn c a σw h => ∀ γ' σ H' cls d, Ext γ γ' H → Keep γ H H' → HC C γ' h H' → SL C γ' σw σ → RX C γ' H' c a cls d → Wx cls d σ H'
  | .no => False
section
variable {C : Cf} {γ γ1 : Gh} {H H1 : Hp}
theorem PoE.step {r : R W} {Q : VK} {E : XK} (p : PoE C γ H r Q E) (e : Ext γ γ1 H) (k : Keep γ H H1) : PoE C γ1 H1 r Q E := by
  cases r with
  | ok w h => exact fun γ' v H' e' k' c r => p γ' v H' (e.trans k e') (k.trans e k') c r
  | exn c a h => exact fun γ' H' cls d e' k' cc r => p γ' H' cls d (e.trans k e') (k.trans e k') cc r
  | no => exact p
theorem PoEs.step {r : R (List W)} {Q : List V → Hp → Prop} {E : XK} (p : PoEs C γ H r Q E) (e : Ext γ γ1 H) (k : Keep γ H H1) : PoEs C γ1 H1 r Q E := by
  cases r with
  | ok w h => exact fun γ' v H' e' k' c r => p γ' v H' (e.trans k e') (k.trans e k') c r
  | exn c a h => exact fun γ' H' cls d e' k' cc r => p γ' H' cls d (e.trans k e') (k.trans e k') cc r
  | no => exact p
theorem PoB.step {r : R Bool} {Q : Bool → Hp → Prop} {E : XK} (p : PoB C γ H r Q E) (e : Ext γ γ1 H) (k : Keep γ H H1) : PoB C γ1 H1 r Q E := by
  cases r with
  | ok w h => exact fun γ' H' e' k' c => p γ' H' (e.trans k e') (k.trans e k') c
  | exn c a h => exact fun γ' H' cls d e' k' cc r => p γ' H' cls d (e.trans k e') (k.trans e k') cc r
  | no => exact p
theorem PoT.step {r : R Sw} {Q : L2.St → Hp → Prop} (p : PoT C γ H r Q) (e : Ext γ γ1 H) (k : Keep γ H H1) : PoT C γ1 H1 r Q := by
  cases r with
  | ok w h => exact fun γ' σ H' e' k' c s => p γ' σ H' (e.trans k e') (k.trans e k') c s
  | exn c a h => exact p
  | no => exact p
theorem PoS.step {r : RS} {D : Ends} {Wx : WX} (p : PoS C γ H r D Wx) (e : Ext γ γ1 H) (k : Keep γ H H1) : PoS C γ1 H1 r D Wx := by
  cases r with
  | ok fl h => cases fl with
    | nx σw => exact fun γ' σ H' e' k' c s => p γ' σ H' (e.trans k e') (k.trans e k') c s
    | brk σw => exact fun γ' σ H' e' k' c s => p γ' σ H' (e.trans k e') (k.trans e k') c s
    | ret w => exact fun γ' v H' e' k' c s => p γ' v H' (e.trans k e') (k.trans e k') c s
  | exn c a σw h => exact fun γ' σ H' cls d e' k' cc s r => p γ' σ H' cls d (e.trans k e') (k.trans e k') cc s r
  | no => exact p
end

/-! ### readings -/
section
variable (C : Cf) (cl : CL)
def tev (Wx : WX) (x : Ex) : TE := fun σ H Q => ∃ γ σw h, SL C γ σw σ ∧ HC C γ h H ∧ PoE C γ H (x cl σw h) Q (fun cls d H' => Wx cls d σ H')
def tes (Wx : WX) (x : Exs) : TA := fun σ H Q => ∃ γ σw h, SL C γ σw σ ∧ HC C γ h H ∧ PoEs C γ H (x cl σw h) Q (fun cls d H' => Wx cls d σ H')
/-- a value as a test -/
def asB : R W → R Bool
  | .ok (.bl b) h => .ok b h
  | .ok _ _ => .no
  | .exn c a h => .exn c a h
  | .no => .no
def ttv (Wx : WX) (x : Ex) : TT := fun σ H Q => ∃ γ σw h, SL C γ σw σ ∧ HC C γ h H ∧ PoB C γ H (asB (x cl σw h)) Q (fun cls d H' => Wx cls d σ H')
def tst (Wx : WX) (s : Sx) : TS := fun D σ H => ∃ γ σw h, SL C γ σw σ ∧ HC C γ h H ∧ PoS C γ H (s cl σw h) D Wx
def ttg (t : Tx) : TG := fun v σ H Q => ∃ γ σw h w, SL C γ σw σ ∧ HC C γ h H ∧ RW C γ w v ∧ PoT C γ H (t cl w σw h) Q
end
end Ov
namespace Ov
open PySem PySem.Spec PyProof.Rows L2

section
variable {X : Cx}
theorem PE.imp {e : Expr} {t t' : TE} (h : PE X e t) (i : ∀ σ H Q, t' σ H Q → t σ H Q) : PE X e t' := ⟨fun pins s σ H Q I hw => h.run pins s σ H Q I (i σ H Q hw)⟩
theorem PT.imp {e : Expr} {t t' : TT} (h : PT X e t) (i : ∀ σ H Q, t' σ H Q → t σ H Q) : PT X e t' := ⟨fun pins s σ H Q I hw => h.run pins s σ H Q I (i σ H Q hw)⟩
theorem PA.imp {es : List Expr} {t t' : TA} (h : PA X es t) (i : ∀ σ H Q, t' σ H Q → t σ H Q) : PA X es t' := ⟨fun pos pins s σ H Q I hw => h.run pos pins s σ H Q I (i σ H Q hw)⟩
theorem PS.imp {st : Stmt} {t t' : TS} (h : PS X st t) (i : ∀ D σ H, t' D σ H → t D σ H) : PS X st t' := ⟨fun pins s σ H D I hw => h.run pins s σ H D I (i D σ H hw)⟩
theorem PSs.imp {st : List Stmt} {t t' : TS} (h : PSs X st t) (i : ∀ D σ H, t' D σ H → t D σ H) : PSs X st t' := ⟨fun pins s σ H D I hw => h.run pins s σ H D I (i D σ H hw)⟩
end

section
variable {C : Cf} {γ : Gh} {h : Hw} {H : Hp} {w : W} {x : V}
/-- what a list is to be read off -/
theorem look_lst {ws : List W} (c : HC C γ h H) (r : RW C γ w x) (e : look h w = .lst ws) : ∃ a vs, x = .ref a ∧ Rd H a (.lst vs) ∧ RWs C γ ws vs := by
  cases w with
  | lst us =>
    simp only [look] at e; cases e
    obtain ⟨a, vs, e, s, q⟩ := r
    exact ⟨a, vs, e, RdM c.frz s, q⟩
  | ref n =>
    obtain ⟨a, e1, i⟩ := r
    simp only [look] at e
    cases hn : h[n]? with
    | none => rw [hn] at e; cases e
    | some cc =>
      rw [hn] at e
      cases cc with
      | lst us =>
        cases e
        obtain ⟨_, vs, hh, q⟩ := c.cell n a _ i hn
        exact ⟨a, vs, e1, .inl hh, q⟩
      | dct _ => cases e
      | obj _ _ _ => cases e
      | dead => cases e
  | _ => simp only [look] at e; cases e
theorem look_tup {ws : List W} (c : HC C γ h H) (r : RW C γ w x) (e : look h w = .tup ws) : ∃ a vs, x = .ref a ∧ Rd H a (.tup vs) ∧ RWs C γ ws vs := by
  cases w with
  | tup us =>
    simp only [look] at e; cases e
    obtain ⟨a, vs, e, s, q⟩ := r
    exact ⟨a, vs, e, RdM c.frz s, q⟩
  | ref n =>
    simp only [look] at e
    cases hn : h[n]? with
    | none => rw [hn] at e; cases e
    | some cc => rw [hn] at e; cases cc <;> cases e
  | _ => simp only [look] at e; cases e
theorem look_tupE {ws : List W} (e : look h w = .tup ws) : w = .tup ws := by
  cases w with
  | ref n =>
    simp only [look] at e
    cases hn : h[n]? with
    | none => rw [hn] at e; cases e
    | some cc => rw [hn] at e; cases cc <;> cases e
  | _ => simpa only [look] using e
theorem look_flat {u : W} (e : look h w = u) (f : match u with | .non | .bl _ | .int _ | .str _ => True | _ => False) : w = u := by
  cases w with
  | ref n =>
    simp only [look] at e
    cases hn : h[n]? with
    | none => rw [hn] at e; subst e; exact f.elim
    | some cc => rw [hn] at e; cases cc <;> (subst e; exact f.elim)
  | _ => simpa only [look] using e
end
theorem Ext.same {γ : Gh} {H : Hp} : Ext γ γ H := Ext.refl γ H
section
variable {C : Cf} {γ : Gh} {h : Hw} {H : Hp}
/-- an object is laid that stands for good -/
theorem HC.lay (c : HC C γ h H) {p : Addr} {o : HO} (n : H p = none) (no : ∀ y, o ≠ .own y) :
    let γ' : Gh := { γ with F := upd γ.F p o }
    Ext γ γ' H ∧ Keep γ H (upd H p o) ∧ HC C γ' h (upd H p o) ∧ γ'.F p = some o := by
  have fn : γ.F p = none := by
    cases e : γ.F p with
    | none => rfl
    | some u => rw [c.frz _ _ e] at n; cases n
  have ne : ∀ a o', H a = some o' → a ≠ p := fun a o' e z => by subst z; rw [n] at e; cases e
  have nef : ∀ a o', γ.F a = some o' → a ≠ p := fun a o' e z => by subst z; rw [fn] at e; cases e
  have E : Ext γ { γ with F := upd γ.F p o } H := ⟨⟨[], by simp, fun _ h => nomatch h⟩, fun a u e => by
    show upd γ.F p o a = some u
    rw [upd_ne (nef a u e)]; exact e, rfl⟩
  refine ⟨E, ⟨fun a u e _ => by rw [upd_ne (ne a u e)]; exact e, fun a e => ?_⟩, ⟨c.len, c.nd, fun m a cc i hm => ?_, fun a i => ?_, fun a u e => ?_, fun a pa => ?_, fun d y e => ?_⟩, upd_same⟩
  · cases q : H a with
    | none => exact absurd q e
    | some u => rw [upd_ne (ne a u q), q]; simp
  · have hp : a ≠ p := by
      have := c.there a (List.mem_of_getElem? i)
      intro z; subst z; exact this n
    have q := c.cell m a cc i hm
    cases cc with
    | lst ws =>
      obtain ⟨f, vs, hh, r⟩ := q
      exact ⟨by show upd γ.F p o a = none; rw [upd_ne hp]; exact f, vs, by rw [upd_ne hp]; exact hh, E.rws r⟩
    | dct _ => exact q
    | obj k ns ws =>
      obtain ⟨f, dx, vs, fd, hh, hd, l, r⟩ := q
      have hdp : dx ≠ p := ne _ _ hd
      exact ⟨by show upd γ.F p o a = none; rw [upd_ne hp]; exact f, dx, vs, by show upd γ.F p o dx = none; rw [upd_ne hdp]; exact fd, by rw [upd_ne hp]; exact hh, by rw [upd_ne hdp]; exact hd, l, E.rws r⟩
    | dead => trivial
  · have := c.there a i
    have hp : a ≠ p := by intro z; subst z; exact this n
    rw [upd_ne hp]; exact this
  · by_cases z : a = p
    · subst z; rw [upd_same]
      have : upd γ.F a o a = some u := e
      rw [upd_same] at this; exact this
    · have : upd γ.F p o a = some u := e
      rw [upd_ne z] at this
      rw [upd_ne z]; exact c.frz _ _ this
  · obtain ⟨a1, a2, a3, a4⟩ := c.prot a pa
    have hp : a ≠ p := by intro z; subst z; exact a1 n
    refine ⟨by rw [upd_ne hp]; exact a1, by show upd γ.F p o a = none; rw [upd_ne hp]; exact a2, a3, fun b hb => by rw [upd_ne hp]; exact a4 b hb⟩
  · by_cases z : d = p
    · subst z; rw [upd_same] at e; cases e; exact absurd rfl (no y)
    · rw [upd_ne z] at e
      have := c.own d y e
      have hp : y ≠ p := by intro z; subst z; exact this n
      rw [upd_ne hp]; exact this
/-- a new tuple, a new list that stands for good -/
theorem HC.layT (c : HC C γ h H) {p : Addr} {ws : List W} {vs : List V} (n : H p = none) (r : RWs C γ ws vs) :
    ∃ γ', Ext γ γ' H ∧ Keep γ H (upd H p (.tup vs)) ∧ HC C γ' h (upd H p (.tup vs)) ∧ RW C γ' (.tup ws) (.ref p) := by
  obtain ⟨e, k, c', f⟩ := c.lay (o := .tup vs) n (fun y z => by cases z)
  exact ⟨_, e, k, c', p, vs, rfl, .inl f, e.rws r⟩
theorem HC.layL (c : HC C γ h H) {p : Addr} {ws : List W} {vs : List V} (n : H p = none) (r : RWs C γ ws vs) :
    ∃ γ', Ext γ γ' H ∧ Keep γ H (upd H p (.lst vs)) ∧ HC C γ' h (upd H p (.lst vs)) ∧ RW C γ' (.lst ws) (.ref p) := by
  obtain ⟨e, k, c', f⟩ := c.lay (o := .lst vs) n (fun y z => by cases z)
  exact ⟨_, e, k, c', p, vs, rfl, .inl f, e.rws r⟩
end
end Ov
namespace Ov
open PySem PySem.Spec PyProof.Rows L2

/-- an operation on values as one of the heap: g of W and cells -/
def rf2 (C : Cf) (g : W → W → Hw → R W) (E : XK) : R2 := fun x y H Q => ∃ γ h w u, HC C γ h H ∧ RW C γ w x ∧ RW C γ u y ∧ PoE C γ H (g w u h) Q E
section
variable {C : Cf} {γ : Gh} {h : Hw} {H : Hp} {Q : VK} {E : XK}
theorem PoE.imp {r : R W} {Q' : VK} (p : PoE C γ H r Q E) (i : ∀ v H', Q v H' → Q' v H') : PoE C γ H r Q' E := by
  cases r with
  | ok w h => exact fun γ' v H' e k c r => i _ _ (p γ' v H' e k c r)
  | exn c a h => exact p
  | no => exact p
/-- an answer that leaves the heap as it is -/
theorem PoE.here {w : W} {v : V} (p : PoE C γ H (.ok w h) Q E) (c : HC C γ h H) (r : RW C γ w v) : Q v H := p γ v H (Ext.refl _ _) (Keep.refl _ _) c r
theorem PoE.tupNew {ws : List W} {vs : List V} (p : PoE C γ H (.ok (.tup ws) h) Q E) (c : HC C γ h H) (r : RWs C γ ws vs) {a : Addr} (n : H a = none) : Q (.ref a) (upd H a (.tup vs)) :=
  let ⟨γ', e, k, c', r'⟩ := c.layT n r
  p γ' _ _ e k c' r'
theorem PoE.lstNew {ws : List W} {vs : List V} (p : PoE C γ H (.ok (.lst ws) h) Q E) (c : HC C γ h H) (r : RWs C γ ws vs) {a : Addr} (n : H a = none) : Q (.ref a) (upd H a (.lst vs)) :=
  let ⟨γ', e, k, c', r'⟩ := c.layL n r
  p γ' _ _ e k c' r'
theorem PoE.ofSome {o : Option W} (p : PoE C γ H (R.of h o) Q E) : ∃ w, o = some w ∧ PoE C γ H (.ok w h) Q E := by
  cases o with
  | none => exact p.elim
  | some w => exact ⟨w, rfl, p⟩
end
section
variable {X : Cx} {C : Cf} {a b : Expr} {cl : CL} {Wx : WX} {xa xb : Ex} {pos : Pos}
theorem tev2 {f : W → W → Hw → R W} {σ : L2.St} {H : Hp} {Q : VK} (t : tev C cl Wx (fun cl σ h => (xa cl σ h).bind fun x h1 => (xb cl σ h1).bind fun y h2 => f x y h2) σ H Q) :
    tev C cl Wx xa σ H (fun x H1 => tev C cl Wx xb σ H1 (fun y H2 => rf2 C f (fun cls d H' => Wx cls d σ H') x y H2 Q)) := by
  obtain ⟨γ, σw, h, sl, hc, p⟩ := t
  refine ⟨γ, σw, h, sl, hc, ?_⟩
  dsimp only at p
  cases ea : xa cl σw h with
  | ok w h1 =>
    rw [ea] at p
    intro γ1 v H1 e1 k1 c1 r1
    refine ⟨γ1, σw, h1, sl.ext e1, c1, ?_⟩
    have p1 := PoE.step p e1 k1
    dsimp only [R.bind] at p1
    cases eb : xb cl σw h1 with
    | ok u h2 =>
      rw [eb] at p1
      intro γ2 v2 H2 e2 k2 c2 r2
      exact ⟨γ2, h2, w, u, c2, e2.rw r1, r2, PoE.step p1 e2 k2⟩
    | exn c aa h2 => rw [eb] at p1; exact p1
    | no => rw [eb] at p1; exact p1
  | exn c aa h1 => rw [ea] at p; exact p
  | no => rw [ea] at p; exact p
theorem tev1 {f : W → Hw → R W} {σ : L2.St} {H : Hp} {Q : VK} (t : tev C cl Wx (fun cl σ h => (xa cl σ h).bind fun x h1 => f x h1) σ H Q) :
    tev C cl Wx xa σ H (fun x H1 => ∃ γ σw h w, SL C γ σw σ ∧ HC C γ h H1 ∧ RW C γ w x ∧ PoE C γ H1 (f w h) Q (fun cls d H' => Wx cls d σ H')) := by
  obtain ⟨γ, σw, h, sl, hc, p⟩ := t
  refine ⟨γ, σw, h, sl, hc, ?_⟩
  dsimp only at p
  cases ea : xa cl σw h with
  | ok w h1 =>
    rw [ea] at p
    intro γ1 v H1 e1 k1 c1 r1
    exact ⟨γ1, σw, h1, w, sl.ext e1, c1, r1, PoE.step p e1 k1⟩
  | exn c aa h1 => rw [ea] at p; exact p
  | no => rw [ea] at p; exact p

/-! ### names, constants -/
theorem pv_var {i : Nat} {x : Str} (hN : X.N[i]? = some x) (hv : Vis X.env.scope x) (hd : (x == ("__debug__" : Str)) = false) (hcd : (x == ("__classdict__" : Str)) = false) : PE X (.Name x pos) (tev C cl Wx (xVar i)) :=
  PE.imp (pe_var hN hv hd hcd) fun σ H Q ⟨γ, σw, h, sl, hc, p⟩ => by
    unfold xVar at p
    cases e : σw[i]? with
    | none => rw [e] at p; exact p.elim
    | some o =>
      rw [e] at p
      cases o with
      | none => exact p.elim
      | some w =>
        obtain ⟨v, q, r⟩ := sl.2 i w e
        exact ⟨v, q, PoE.here p hc r⟩
theorem con_imp {w : W} {v : V} (r : ∀ γ, RW C γ w v) {σ : L2.St} {H : Hp} {Q : VK} : tev C cl Wx (xCon w) σ H Q → Q v H := fun ⟨γ, σw, h, sl, hc, p⟩ => PoE.here p hc (r γ)

/-! ### arithmetic -/
theorem Inv.lstR {pins : List (Addr × Obj)} {σ : L2.St} {H : Hp} {s : Shared} (I : Inv X pins σ H s) {l : Addr} {xs : List V} (hH : Rd H l (.lst xs)) : xs.length ≤ sizeLine ∧ ∃ (its : List Value) (n : Nat), Vals xs its ∧ xs.length = its.length ∧ s.heap.get? l = some { cls := .type "list", data := .seq its.toArray n } := by
  obtain ⟨z, its, n, r, e⟩ := hH.ok I.hok
  exact ⟨z, its, n, r, r.length, e⟩
theorem op_catL : OpR X (binaryOp .Add) (fun x y H Q => ∃ l b xs zs, x = .ref l ∧ y = .ref b ∧ Rd H l (.lst xs) ∧ Rd H b (.lst zs) ∧ xs.length + zs.length ≤ sizeLine ∧ ∀ p, H p = none → Q (.ref p) (upd H p (.lst (xs ++ zs)))) := by
  intro pins s σ H x y v u Q I rx ry h
  obtain ⟨l, b, xs, zs, rfl, rfl, hH, hB, hz, q⟩ := h
  cases rx
  cases ry
  obtain ⟨z, its, n, r, hl, e⟩ := Inv.lstR I hH
  obtain ⟨z2, its2, n2, r2, hl2, e2⟩ := Inv.lstR I hB
  refine PySem.P.add_list e e2 ?_ (by rw [List.size_toArray, List.size_toArray]; omega)
  have ea : its.toArray ++ its2.toArray = (its ++ its2).toArray := by simp
  rw [ea]
  exact ⟨.ref _, _, I.lnew (t' := s.toks) (r.append r2) (by rw [List.length_append]; omega), rfl, q _ I.fresh⟩
theorem flat_rep (l : List Nat) : ∀ (n : Nat) (acc : List Nat), (List.foldl (· ++ ·) acc.toArray (List.replicate n l.toArray)) = (acc ++ (List.replicate n l).flatten).toArray
  | 0, acc => by simp
  | n + 1, acc => by
    rw [List.replicate_succ, List.foldl_cons, List.append_toArray, flat_rep l n (acc ++ l)]
    simp [List.replicate_succ]
theorem flat_rep_len (l : List Nat) : ∀ n : Nat, (List.replicate n l).flatten.length = n * l.length
  | 0 => by simp
  | n + 1 => by rw [List.replicate_succ, List.flatten_cons, List.length_append, flat_rep_len l n, Nat.succ_mul, Nat.add_comm]
theorem mul_str_W {x : List Nat} {n : Int} (h0 : 0 ≤ n) : Txt.mul ⟨x.toArray⟩ n = ⟨((List.replicate n.toNat x).flatten).toArray⟩ := by
  unfold Txt.mul
  by_cases h : n < 1
  · rw [if_pos h]
    have : n = 0 := by omega
    subst this
    rfl
  · rw [if_neg h]
    by_cases h1 : (n == 1 || (⟨x.toArray⟩ : Str).length == 0) = true
    · rw [if_pos h1]
      rcases Bool.or_eq_true_iff.mp h1 with e | e
      · have : n = 1 := by simpa using e
        subst this
        simp
      · have : x.length = 0 := by simpa [Str.length] using e
        have : x = [] := List.length_eq_zero_iff.mp this
        subst this
        congr 1
        induction n.toNat with
        | zero => rfl
        | succ k ih => simp [List.replicate_succ] at ih ⊢
    · rw [if_neg h1]
      have := flat_rep x n.toNat []
      simp only [List.nil_append] at this
      exact congrArg Str.mk this
theorem op_mul_str : OpR X (binaryOp .Mult) (fun x y H Q => ∃ (s : List Nat) (n : Int), x = strV s ∧ y = .int n ∧ 0 ≤ n ∧ n < 100000 ∧ s.length < 100 ∧ Q (strV (List.replicate n.toNat s).flatten) H) := by
  intro pins s σ H x y v u Q I rx ry h
  obtain ⟨t, n, rfl, rfl, h0, h1, h2, q⟩ := h
  obtain ⟨k, rfl⟩ := rx
  obtain ⟨k', rfl⟩ := ry
  have hl : (⟨t.toArray⟩ : Str).length = t.length := by simp [Str.length]
  refine SB.mul ⟨?_, ?_, ?_⟩ fun t' k => ?_
  · have a : decide (n < -(2 ^ 63 : Int)) = false := decide_eq_false (by omega)
    have b : decide (n ≥ 2 ^ 63) = false := decide_eq_false (by omega)
    rw [a, b]; rfl
  · intro g _
    rw [hl]
    have hp : (t.length : Int) * n ≤ 100 * 100000 := by
      have a1 : (t.length : Int) * n ≤ 100 * n := Int.mul_le_mul_of_nonneg_right (by omega) h0
      omega
    have : (t.length : Int) ≤ (2 ^ 63 - 1) / n := (Int.le_ediv_iff_mul_le (by omega)).mpr (by omega)
    omega
  · intro g _
    rw [hl]
    unfold Builtin.Str.tooLong
    have : t.length * n.toNat ≤ 100 * 100000 := Nat.mul_le_mul (by omega) (by omega)
    rw [sizeLine_eq]
    exact decide_eq_false (by omega)
  · rw [mul_str_W h0]
    exact ⟨strV _, H, I.tok _, ⟨_, rfl⟩, q⟩
/-- the operator of the syntax -/
def opOf : BOp → Operator
  | .add => .Add | .sub => .Sub | .mul => .Mult | .fdiv => .FloorDiv | .mod => .Mod | .pow => .Pow
def gBin (o : BOp) : W → W → Hw → R W := fun x y h => .of h (binop o (look h x) (look h y))
theorem bits_lt {i : Int} {n : Nat} (h : Nat.blt (bits i) n = true) : i.natAbs < 2 ^ n := by
  have h' : i.natAbs.log2 < n := Nat.le_of_ble_eq_true h
  by_cases z : i.natAbs = 0
  · rw [z]; exact Nat.two_pow_pos n
  · exact (Nat.log2_lt z).mp h'
theorem of_bin {C : Cf} (hK : C.K = X.K) (o : BOp) : OpR X (binaryOp (opOf o)) (fun x y H Q => ∃ E, rf2 C (gBin o) E x y H Q) := by
  intro pins s σ H x y v u Q I rx ry ⟨E, γ, h, w1, w2, c, r1, r2, p0⟩
  obtain ⟨w, eo, p⟩ := p0.ofSome
  clear p0
  cases o with
  | add =>
    cases e1 : look h w1 with
    | int i =>
      cases e2 : look h w2 with
      | int j =>
        rw [e1, e2] at eo; simp only [binop] at eo; cases eo
        cases look_flat e1 trivial; cases look_flat e2 trivial
        exact op_add pins s σ H x y v u Q I rx ry ⟨i, j, r1, r2, PoE.here p c rfl⟩
      | _ => rw [e1, e2] at eo; simp [binop] at eo
    | str i =>
      cases e2 : look h w2 with
      | str j =>
        rw [e1, e2] at eo; simp only [binop] at eo
        split at eo
        · rename_i hz; cases eo
          cases look_flat e1 trivial; cases look_flat e2 trivial
          refine op_add_str pins s σ H x y v u Q I rx ry ⟨_, _, r1, r2, ?_, PoE.here p c ?_⟩
          · have : i.length + j.length < most := Nat.le_of_ble_eq_true hz
            show i.toArray.size + j.toArray.size ≤ sizeLine
            rw [sizeLine_eq, List.size_toArray, List.size_toArray]
            unfold most at this; omega
          · show V.str ⟨i.toArray ++ j.toArray⟩ = strV (i ++ j)
            rw [List.append_toArray]
        · cases eo
      | _ => rw [e1, e2] at eo; simp [binop] at eo
    | lst xs =>
      cases e2 : look h w2 with
      | lst ys =>
        rw [e1, e2] at eo; simp only [binop] at eo
        split at eo
        · rename_i hz; cases eo
          obtain ⟨a, vs, rfl, q1, q2⟩ := look_lst c r1 e1
          obtain ⟨b, us, rfl, q3, q4⟩ := look_lst c r2 e2
          have l1 := q2.length
          have l2 := q4.length
          refine op_catL pins s σ H _ _ v u Q I rx ry ⟨a, b, vs, us, rfl, rfl, q1, q3, ?_, fun p' n => PoE.lstNew p c (q2.append q4) n⟩
          have : xs.length + ys.length < most := Nat.le_of_ble_eq_true hz
          rw [sizeLine_eq]; unfold most at this; omega
        · cases eo
      | _ => rw [e1, e2] at eo; simp [binop] at eo
    | tup xs =>
      cases e2 : look h w2 with
      | tup ys =>
        rw [e1, e2] at eo; simp only [binop] at eo
        split at eo
        · rename_i hz; cases eo
          obtain ⟨a, vs, rfl, q1, q2⟩ := look_tup c r1 e1
          obtain ⟨b, us, rfl, q3, q4⟩ := look_tup c r2 e2
          have l1 := q2.length
          have l2 := q4.length
          have t1 : w1 = .tup xs := look_tupE e1
          have t2 : w2 = .tup ys := look_tupE e2
          subst t1; subst t2
          refine op_catA pins s σ H _ _ v u Q I rx ry ⟨a, b, vs, us, rfl, rfl, .inl q1, .inl q3, ?_, fun z => ?_, fun _ z => ?_, fun _ _ p' n => PoE.tupNew p c (q2.append q4) n⟩
          · have : xs.length + ys.length < most := Nat.le_of_ble_eq_true hz
            rw [sizeLine_eq]; unfold most at this; omega
          · subst z
            have : xs = [] := List.length_eq_zero_iff.mp l1
            subst this
            exact PoE.here p c r2
          · subst z
            have : ys = [] := List.length_eq_zero_iff.mp l2
            subst this
            rw [List.append_nil] at p
            exact PoE.here p c r1
        · cases eo
      | _ => rw [e1, e2] at eo; simp [binop] at eo
    | _ => rw [e1] at eo; simp [binop] at eo
  | sub =>
    cases e1 : look h w1 with
    | int i =>
      cases e2 : look h w2 with
      | int j =>
        rw [e1, e2] at eo; simp only [binop] at eo; cases eo
        cases look_flat e1 trivial; cases look_flat e2 trivial
        exact op_sub pins s σ H x y v u Q I rx ry ⟨i, j, r1, r2, PoE.here p c rfl⟩
      | _ => rw [e1, e2] at eo; simp [binop] at eo
    | _ => rw [e1] at eo; simp [binop] at eo
  | mul =>
    cases e1 : look h w1 with
    | int i =>
      cases e2 : look h w2 with
      | int j =>
        rw [e1, e2] at eo; simp only [binop] at eo
        split at eo
        · rename_i hz; cases eo
          cases look_flat e1 trivial; cases look_flat e2 trivial
          rcases Bool.or_eq_true_iff.mp hz with hz | hz
          · refine op_mul pins s σ H x y v u Q I rx ry ⟨i, j, r1, r2, ?_, PoE.here p c rfl⟩
            rcases Bool.or_eq_true_iff.mp hz with hz | hz
            · have := bits_lt hz; exact .inl (by omega)
            · have := bits_lt hz; exact .inr (by omega)
          · exact op_mulW pins s σ H x y v u Q I rx ry ⟨i, j, r1, r2, Nat.le_of_ble_eq_true hz, PoE.here p c rfl⟩
        · cases eo
      | _ => rw [e1, e2] at eo; simp [binop] at eo
    | str i =>
      cases e2 : look h w2 with
      | int j =>
        rw [e1, e2] at eo; simp only [binop] at eo
        split at eo
        · rename_i hz; cases eo
          cases look_flat e1 trivial; cases look_flat e2 trivial
          simp only [Bool.and_eq_true, decide_eq_true_eq] at hz
          exact op_mul_str pins s σ H x y v u Q I rx ry ⟨i, j, r1, r2, hz.1.1, hz.1.2, Nat.le_of_ble_eq_true hz.2, PoE.here p c rfl⟩
        · cases eo
      | _ => rw [e1, e2] at eo; simp [binop] at eo
    | lst xs =>
      cases e2 : look h w2 with
      | int j =>
        rw [e1, e2] at eo; simp only [binop] at eo
        cases eo
      | _ => rw [e1, e2] at eo; simp [binop] at eo
    | _ => rw [e1] at eo; simp [binop] at eo
  | fdiv =>
    cases e1 : look h w1 with
    | int i =>
      cases e2 : look h w2 with
      | int j =>
        rw [e1, e2] at eo; simp only [binop] at eo
        split at eo
        · rename_i hz; cases eo
          cases look_flat e1 trivial; cases look_flat e2 trivial
          simp only [Bool.and_eq_true, decide_eq_true_eq] at hz
          exact op_fdivW pins s σ H x y v u Q I rx ry ⟨i, j, r1, r2, ⟨hz.1, Nat.le_of_ble_eq_true hz.2⟩, PoE.here p c rfl⟩
        · cases eo
      | _ => rw [e1, e2] at eo; simp [binop] at eo
    | _ => rw [e1] at eo; simp [binop] at eo
  | mod =>
    cases e1 : look h w1 with
    | int i =>
      cases e2 : look h w2 with
      | int j =>
        rw [e1, e2] at eo; simp only [binop] at eo
        split at eo
        · rename_i hz; cases eo
          cases look_flat e1 trivial; cases look_flat e2 trivial
          simp only [decide_eq_true_eq] at hz
          exact op_mod pins s σ H x y v u Q I rx ry ⟨i, j, r1, r2, hz, PoE.here p c rfl⟩
        · cases eo
      | _ => rw [e1, e2] at eo; simp [binop] at eo
    | _ => rw [e1] at eo; simp [binop] at eo
  | pow =>
    cases e1 : look h w1 with
    | int i =>
      cases e2 : look h w2 with
      | int j =>
        rw [e1, e2] at eo; simp only [binop] at eo
        split at eo
        · rename_i hz; cases eo
          cases look_flat e1 trivial; cases look_flat e2 trivial
          simp only [Bool.and_eq_true, decide_eq_true_eq] at hz
          have := bits_lt hz.2
          exact op_pow pins s σ H x y v u Q I rx ry ⟨i, j, r1, r2, ⟨hz.1.1, by omega, by omega⟩, PoE.here p c rfl⟩
        · cases eo
      | _ => rw [e1, e2] at eo; simp [binop] at eo
    | _ => rw [e1] at eo; simp [binop] at eo
theorem pv_bin (hK : C.K = X.K) {op : Operator} {o : BOp} (ho : op = opOf o) (ha : PE X a (tev C cl Wx xa)) (hb : PE X b (tev C cl Wx xb)) : PE X (.BinOp a op b pos) (tev C cl Wx (xBin o xa xb)) := by
  subst ho
  refine PE.imp (pe_op (of_bin hK o) ha hb) fun σ H Q t => ?_
  have := tev2 (f := gBin o) t
  obtain ⟨γ, σw, h, sl, hc, p⟩ := this
  refine ⟨γ, σw, h, sl, hc, ?_⟩
  exact PoE.imp p fun v H' q => by
    obtain ⟨γ, σw, h, sl, hc, p⟩ := q
    exact ⟨γ, σw, h, sl, hc, PoE.imp p fun v' H'' q' => ⟨_, q'⟩⟩
end
end Ov
namespace Ov
open PySem PySem.Spec PyProof.Rows L2
mutual
/-- data as the library has it -/
def pyd : W → PyData
  | .non => .none
  | .bl b => .bool b
  | .int i => .int i
  | .str s => .str ⟨s.toArray⟩
  | .tup xs => .tuple (pyds xs)
  | .lst xs => .list (pyds xs)
  | _ => .none
def pyds : List W → List PyData
  | [] => []
  | x :: r => pyd x :: pyds r
end
theorem pyds_map : ∀ xs : List W, pyds xs = xs.map pyd
  | [] => rfl
  | x :: r => by rw [pyds, List.map_cons, pyds_map r]
/-- what == asks of data -/
structure LayP (K : PySem.W.Frag) (H : Hp) (v : V) (d : Nat) (w : W) : Prop where
  dp : Dp K H v (pyd w)
  lay : (pyd w).canLay0 = true
  dep : (pyd w).depth ≤ d
theorem depthAll_le {d : Nat} : ∀ {xs : List PyData}, (∀ x ∈ xs, x.depth ≤ d) → PyData.depthAll xs ≤ d
  | [], _ => Nat.zero_le _
  | x :: r, h => by
    have := depthAll_le (d := d) (xs := r) fun y hy => h y (List.mem_cons_of_mem _ hy)
    have h0 := h x List.mem_cons_self
    rw [PyData.depthAll]
    omega
theorem canLayAll_of {xs : List PyData} : (∀ x ∈ xs, x.canLay0 = true) → PyData.canLayAll0 xs = true := by
  induction xs with
  | nil => intro _; rfl
  | cons x r ih =>
    intro h
    rw [PyData.canLayAll0, h x List.mem_cons_self, ih fun y hy => h y (List.mem_cons_of_mem _ hy)]
    rfl
theorem layAll {C : Cf} {γ : Gh} {K : PySem.W.Frag} {H : Hp} {d : Nat} (f : W → W) : ∀ {ws : List W} {vs : List V}, RWs C γ ws vs → (∀ w ∈ ws, ∀ v, RW C γ w v → LayP K H v d (f w)) →
    DpAll K H vs (pyds (ws.map f)) ∧ PyData.canLayAll0 (pyds (ws.map f)) = true ∧ PyData.depthAll (pyds (ws.map f)) ≤ d
  | [], _, h, _ => by cases h; exact ⟨.nil, rfl, Nat.zero_le _⟩
  | w :: ws, _, ⟨v, r, e, a, b⟩, i => by
    subst e
    obtain ⟨i1, i2, i3⟩ := layAll f b fun u hu => i u (List.mem_cons_of_mem _ hu)
    have l := i w List.mem_cons_self v a
    refine ⟨.cons l.dp i1, ?_, ?_⟩
    · rw [List.map_cons, pyds, PyData.canLayAll0, l.lay, i2]; rfl
    · rw [List.map_cons, pyds, PyData.depthAll]
      have := l.dep
      omega
section
variable {C : Cf} {γ : Gh} {h : Hw} {H : Hp}
theorem sgn_ok {s : List Nat} (h : (s.all fun c => Nat.blt c 1114112) = true) : (PyData.str ⟨s.toArray⟩).canLay0 = true := by
  show PyData.strOk ⟨s.toArray⟩ = true
  unfold PyData.strOk
  simp only [List.all_eq_true] at h
  rw [Array.all_eq_true']
  intro x hx
  have := h x (by simpa using hx)
  exact decide_eq_true (Nat.le_of_ble_eq_true this)
theorem lay_dp (c : HC C γ h H) : ∀ (d : Nat) (w : W) (v : V), W.lay d w = true → RW C γ w v → LayP C.K H v d w
  | 0, w, v, l, _ => by simp [W.lay] at l
  | d + 1, w, v, l, r => by
    cases w with
    | non => cases r; exact ⟨.non, rfl, by simp [pyd, PyData.depth]⟩
    | bl b => cases r; exact ⟨.bl b, rfl, by simp [pyd, PyData.depth]⟩
    | int i => cases r; exact ⟨.int i, rfl, by simp [pyd, PyData.depth]⟩
    | str s => cases r; exact ⟨.str _, sgn_ok l, by simp [pyd, PyData.depth]⟩
    | tup ws =>
      obtain ⟨a, vs, rfl, q1, q2⟩ := r
      have l' : (ws.all (W.lay d)) = true := l
      rw [List.all_eq_true] at l'
      obtain ⟨i1, i2, i3⟩ := layAll (K := C.K) (H := H) (d := d) id q2 fun w hw v r => lay_dp c d w v (l' w hw) r
      rw [List.map_id] at i1 i2 i3
      exact ⟨.tup (.inl (RdM c.frz q1)) i1, i2, by rw [pyd, PyData.depth]; omega⟩
    | lst ws =>
      obtain ⟨a, vs, rfl, q1, q2⟩ := r
      have l' : (ws.all (W.lay d)) = true := l
      rw [List.all_eq_true] at l'
      obtain ⟨i1, i2, i3⟩ := layAll (K := C.K) (H := H) (d := d) id q2 fun w hw v r => lay_dp c d w v (l' w hw) r
      rw [List.map_id] at i1 i2 i3
      exact ⟨.lst (.inl (RdM c.frz q1)) i1, i2, by rw [pyd, PyData.depth]; omega⟩
    | dct _ => simp [W.lay] at l
    | obj _ _ _ => simp [W.lay] at l
    | ref _ => simp [W.lay] at l
    | any => simp [W.lay] at l
theorem deep_dp (c : HC C γ h H) : ∀ (e d : Nat) (w : W) (v : V), W.lay d (deep h e w) = true → RW C γ w v → LayP C.K H v d (deep h e w)
  | 0, d, w, v, l, r => lay_dp c d w v l r
  | e + 1, 0, w, v, l, _ => by simp [W.lay] at l
  | e + 1, d + 1, w, v, l, r => by
    unfold deep at l ⊢
    cases hl : look h w with
    | tup ws =>
      obtain ⟨a, vs, rfl, q1, q2⟩ := look_tup c r hl
      rw [hl] at l
      have l' : ((ws.map (deep h e)).all (W.lay d)) = true := l
      rw [List.all_eq_true] at l'
      obtain ⟨i1, i2, i3⟩ := layAll (K := C.K) (H := H) (d := d) (deep h e) q2 fun w hw v r => deep_dp c e d w v (l' _ (List.mem_map_of_mem hw)) r
      exact ⟨.tup (.inl q1) i1, i2, by show (pyd (.tup _)).depth ≤ _; rw [pyd, PyData.depth]; omega⟩
    | lst ws =>
      obtain ⟨a, vs, rfl, q1, q2⟩ := look_lst c r hl
      rw [hl] at l
      have l' : ((ws.map (deep h e)).all (W.lay d)) = true := l
      rw [List.all_eq_true] at l'
      obtain ⟨i1, i2, i3⟩ := layAll (K := C.K) (H := H) (d := d) (deep h e) q2 fun w hw v r => deep_dp c e d w v (l' _ (List.mem_map_of_mem hw)) r
      exact ⟨.lst (.inl q1) i1, i2, by show (pyd (.lst _)).depth ≤ _; rw [pyd, PyData.depth]; omega⟩
    | any => simp [hl, W.lay] at l
    | dct _ => simp [hl, W.lay] at l
    | obj _ _ _ => simp [hl, W.lay] at l
    | ref _ => simp [hl, W.lay] at l
    | non => have := look_flat hl trivial; subst this; exact lay_dp c _ _ v rfl r
    | bl b => have := look_flat hl trivial; subst this; exact lay_dp c _ _ v rfl r
    | int i => have := look_flat hl trivial; subst this; exact lay_dp c _ _ v rfl r
    | str s => have := look_flat hl trivial; subst this; rw [hl] at l; exact lay_dp c _ _ v l r
theorem whole_dp (c : HC C γ h H) {d : Nat} {w : W} {v : V} (l : W.lay d (whole h w) = true) (r : RW C γ w v) : LayP C.K H v d (whole h w) := by
  unfold whole at l ⊢
  split at l
  · rename_i u; rw [if_pos u]; exact lay_dp c d w v l r
  · rename_i u; rw [if_neg u]; exact deep_dp c 12 d w v l r
theorem shaped_of {K : PySem.W.Frag} {v : V} {d : Nat} {w : W} (l : LayP K H v d w) (hd : d ≤ 64) : SeqAt.shaped (pyd w) = true := by
  unfold SeqAt.shaped
  rw [l.lay, Bool.true_and]
  exact decide_eq_true (Nat.le_trans l.dep hd)
end
theorem seqNat_iff : ∀ s t : List Nat, seqNat s t = decide (s = t)
  | [], [] => rfl
  | [], _ :: _ => rfl
  | _ :: _, [] => rfl
  | a :: r, b :: t => by
    rw [seqNat, seqNat_iff r t]
    by_cases h : a = b
    · subst h; simp
    · simp [h]
theorem str_beq (s t : List Nat) : ((⟨s.toArray⟩ : Str) == ⟨t.toArray⟩) = seqNat s t := by
  rw [seqNat_iff]
  by_cases h : s = t
  · subst h; simp
  · rw [decide_eq_false h]
    refine beq_eq_false_iff_ne.mpr fun e => h ?_
    have := congrArg Str.cps e
    simpa using this
mutual
theorem eqv_eq : ∀ (d e : Nat) (a b : W), W.lay d a = true → W.lay e b = true → PyData.eqv (pyd a) (pyd b) = W.eq a b
  | 0, _, _, _, l, _ => by simp [W.lay] at l
  | d + 1, 0, _, _, _, l => by simp [W.lay] at l
  | d + 1, e + 1, a, b, la, lb => by
    have ne : ∀ (i : Int) (b : Bool), (i == (if b = true then 1 else 0)) = decide (i = b2i b) := fun i b => by
      cases b <;> rfl
    cases a with
    | dct _ => simp [W.lay] at la
    | obj _ _ _ => simp [W.lay] at la
    | ref _ => simp [W.lay] at la
    | any => simp [W.lay] at la
    | non => cases b <;> first | (simp [W.lay] at lb; done) | (simp [pyd, PyData.eqv, W.eq]; done)
    | bl x => cases b <;> first | (simp [W.lay] at lb; done) | (simp [pyd, PyData.eqv, W.eq]; done) | (simp only [pyd, PyData.eqv, W.eq]; cases x <;> rfl)
    | int i => cases b <;> first | (simp [W.lay] at lb; done) | (simp [pyd, PyData.eqv, W.eq]; done) | (simp only [pyd, PyData.eqv, W.eq]; exact ne _ _) | (simp only [pyd, PyData.eqv, W.eq]; rfl)
    | str s => cases b <;> first | (simp [W.lay] at lb; done) | (simp only [pyd, PyData.eqv, W.eq]; exact str_beq _ _) | (simp [pyd, PyData.eqv, W.eq]; done)
    | tup xs => cases b with
      | tup ys =>
        simp only [pyd, PyData.eqv, W.eq]
        exact eqvs_eq d e xs ys (by simpa [W.lay] using la) (by simpa [W.lay] using lb)
      | _ => first | (simp [W.lay] at lb; done) | (simp [pyd, PyData.eqv, W.eq]; done)
    | lst xs => cases b with
      | lst ys =>
        simp only [pyd, PyData.eqv, W.eq]
        exact eqvs_eq d e xs ys (by simpa [W.lay] using la) (by simpa [W.lay] using lb)
      | _ => first | (simp [W.lay] at lb; done) | (simp [pyd, PyData.eqv, W.eq]; done)
theorem eqvs_eq : ∀ (d e : Nat) (xs ys : List W), (∀ x ∈ xs, W.lay d x = true) → (∀ y ∈ ys, W.lay e y = true) → PyData.eqvAll (pyds xs) (pyds ys) = W.eqs xs ys
  | _, _, [], [], _, _ => rfl
  | _, _, [], _ :: _, _, _ => rfl
  | _, _, _ :: _, [], _, _ => rfl
  | d, e, x :: xs, y :: ys, hx, hy => by
    simp only [pyds, PyData.eqvAll, W.eqs]
    rw [eqv_eq d e x y (hx x List.mem_cons_self) (hy y List.mem_cons_self), eqvs_eq d e xs ys (fun z hz => hx z (List.mem_cons_of_mem _ hz)) (fun z hz => hy z (List.mem_cons_of_mem _ hz))]
end
end Ov
namespace Ov
open PySem PySem.Spec PyProof.Rows L2
section
variable {C : Cf} {γ : Gh} {h : Hw} {H : Hp} {w : W} {x : V}
theorem deep_flat : ∀ (e : Nat) {w : W}, W.flat (deep h e w) = true → deep h e w = w
  | 0, _, _ => rfl
  | e + 1, w, f => by
    unfold deep at f ⊢
    cases hl : look h w with
    | tup _ => rw [hl] at f; cases f
    | lst _ => rw [hl] at f; cases f
    | dct _ => rw [hl] at f; cases f
    | obj _ _ _ => rw [hl] at f; cases f
    | ref _ => rw [hl] at f; cases f
    | any => rw [hl] at f; cases f
    | non => exact (look_flat hl trivial).symm
    | bl _ => exact (look_flat hl trivial).symm
    | int _ => exact (look_flat hl trivial).symm
    | str _ => exact (look_flat hl trivial).symm
theorem whole_flat (f : W.flat (whole h w) = true) : whole h w = w := by
  unfold whole at f ⊢
  split at f
  · rename_i u; rw [if_pos u]
  · rename_i u; rw [if_neg u]; exact deep_flat _ f
theorem whole_flatE {u : W} (e : whole h w = u) (f : W.flat u = true) : w = u := by
  rw [← e]; exact (whole_flat (by rw [e]; exact f)).symm
theorem whole_lst {xs : List W} (e : whole h w = .lst xs) : ∃ ws, look h w = .lst ws ∧ (xs.all W.flat = true → ws = xs) := by
  unfold whole at e
  split at e
  · subst e; exact ⟨xs, rfl, fun _ => rfl⟩
  · unfold deep at e
    cases hl : look h w with
    | lst ws =>
      rw [hl] at e
      cases e
      refine ⟨ws, rfl, fun f => ?_⟩
      have : ws.map (deep h 11) = ws.map id := List.map_congr_left fun y hy => by
        rw [List.all_eq_true] at f
        exact deep_flat _ (f _ (List.mem_map_of_mem hy))
      rw [this, List.map_id]
    | _ => rw [hl] at e; cases e
theorem whole_tup {xs : List W} (e : whole h w = .tup xs) : ∃ ws, look h w = .tup ws ∧ (xs.all W.flat = true → ws = xs) := by
  unfold whole at e
  split at e
  · subst e; exact ⟨xs, rfl, fun _ => rfl⟩
  · unfold deep at e
    cases hl : look h w with
    | tup ws =>
      rw [hl] at e
      cases e
      refine ⟨ws, rfl, fun f => ?_⟩
      have : ws.map (deep h 11) = ws.map id := List.map_congr_left fun y hy => by
        rw [List.all_eq_true] at f
        exact deep_flat _ (f _ (List.mem_map_of_mem hy))
      rw [this, List.map_id]
    | _ => rw [hl] at e; cases e
theorem whole_dct {xs : List W} (c : HC C γ h H) (r : RW C γ w x) (e : whole h w = .dct xs) : False := by
  unfold whole at e
  split at e
  · subst e; exact r
  · unfold deep at e
    cases hl : look h w with
    | dct ws =>
      cases w with
      | dct _ => exact r
      | ref n =>
        obtain ⟨a, e1, i⟩ := r
        simp only [look] at hl
        cases hn : h[n]? with
        | none => rw [hn] at hl; cases hl
        | some cc =>
          rw [hn] at hl
          cases cc with
          | dct us => exact c.cell n a _ i hn
          | lst _ => cases hl
          | obj _ _ _ => cases hl
          | dead => cases hl
      | _ => simp [look] at hl
    | _ => rw [hl] at e; cases e
theorem flat_rw {u : W} (f : W.flat u = true) (r : RW C γ u x) : L2.flatV x = true := by
  cases u <;> first | (cases f; done) | (cases r; rfl)
theorem flats_rw : ∀ {ws : List W} {vs : List V}, ws.all W.flat = true → RWs C γ ws vs → vs.all L2.flatV = true
  | [], _, _, h => by cases h; rfl
  | w :: ws, _, f, ⟨v, r, e, a, b⟩ => by
    subst e
    rw [List.all_cons, Bool.and_eq_true] at f
    rw [List.all_cons, flat_rw f.1 a, flats_rw f.2 b]; rfl
theorem eqV_eq {a b : W} {x y : V} (fa : W.flat a = true) (fb : W.flat b = true) (ra : RW C γ a x) (rb : RW C γ b y) : L2.eqV x y = W.eq a b := by
  cases a <;> (try (cases fa; done)) <;> cases b <;> (try (cases fb; done)) <;> cases ra <;> cases rb <;> (try rfl) <;> (try exact str_beq _ _)
  · rename_i p q; cases p <;> rfl
  · rename_i q p; cases p <;> rfl
theorem inV_eq {a : W} {x : V} (fa : W.flat a = true) (ra : RW C γ a x) : ∀ {ws : List W} {vs : List V}, ws.all W.flat = true → RWs C γ ws vs → L2.inV x vs = ws.any fun y => W.eq y a
  | [], _, _, h => by cases h; rfl
  | w :: ws, _, f, ⟨v, r, e, q, b⟩ => by
    subst e
    rw [List.all_cons, Bool.and_eq_true] at f
    show (L2.eqV v x || L2.inV x r) = _
    rw [List.any_cons, eqV_eq f.1 fa q ra, inV_eq fa ra f.2 b]
theorem any_eqv {d e : Nat} {a : W} (la : W.lay e a = true) : ∀ {ws : List W}, ws.all (W.lay d) = true → ((pyds ws).any fun z => PyData.eqv z (pyd a)) = ws.any fun y => W.eq y a
  | [], _ => rfl
  | w :: ws, f => by
    rw [List.all_cons, Bool.and_eq_true] at f
    rw [pyds, List.any_cons, List.any_cons, eqv_eq d e w a f.1 la, any_eqv la f.2]
theorem any_code (t : List Nat) (c : Nat) : decide (c ∈ t) = t.any (Nat.beq c) := by
  induction t with
  | nil => rfl
  | cons b r ih =>
    rw [List.any_cons, ← ih]
    by_cases h : c = b
    · subst h; simp
    · have : Nat.beq c b = false := by
        cases e : Nat.beq c b with
        | false => rfl
        | true => exact absurd (Nat.eq_of_beq_eq_true e) h
      rw [this]
      simp [h]
end
def copOf : COp → CmpOp
  | .eq => .Eq | .ne => .NotEq | .lt => .Lt | .le => .LtE | .gt => .Gt | .ge => .GtE | .isin => .In | .notin => .NotIn
section
variable {X : Cx}
theorem op_eq2 (hu : X.A.units + 65 < cLine) {C : Cf} (hK : C.K = X.K) {pins : List (Addr × Obj)} {s : Shared} {σ : L2.St} {H : Hp} {x y : V} {v u : Value} {Q : VK} {γ : Gh} {h : Hw} {w1 w2 : W} (neg : Bool)
    (I : Inv X pins σ H s) (rx : RelV x v) (ry : RelV y u) (c : HC C γ h H) (r1 : RW C γ w1 x) (r2 : RW C γ w2 y) (ok : eqOk (whole h w1) (whole h w2) = true) (q : Q (.bl (if neg then !W.eq (whole h w1) (whole h w2) else W.eq (whole h w1) (whole h w2))) H) :
    wpAny (model X.prog X.w) X.A (compareOp (if neg then .NotEq else .Eq) v u) (EP X pins σ Q) X.xe s := by
  have deepway : W.lay 40 (whole h w1) = true → W.lay 40 (whole h w2) = true → wpAny (model X.prog X.w) X.A (compareOp (if neg then .NotEq else .Eq) v u) (EP X pins σ Q) X.xe s := fun l1 l2 => by
    have d1 := whole_dp c l1 r1
    have d2 := whole_dp c l2 r2
    have e := eqv_eq 40 40 _ _ l1 l2
    rw [hK] at d1 d2
    cases neg with
    | false => exact op_eqD (by omega) pins s σ H x y v u Q I rx ry ⟨_, _, d1.dp, d2.dp, shaped_of d1 (by omega), shaped_of d2 (by omega), by rw [e]; exact q⟩
    | true => exact op_neD (by omega) pins s σ H x y v u Q I rx ry ⟨_, _, d1.dp, d2.dp, shaped_of d1 (by omega), shaped_of d2 (by omega), by rw [e]; exact q⟩
  unfold eqOk at ok
  rcases Bool.or_eq_true_iff.mp ok with f | l
  · rw [Bool.and_eq_true] at f
    have e1 := whole_flat f.1
    have e2 := whole_flat f.2
    rw [e1, e2] at q f deepway
    by_cases sc : L2.scal x y = true
    · have hd : decide (x = y) = W.eq w1 w2 := by
        cases w1 <;> (try (cases f.1; done)) <;> cases w2 <;> (try (cases f.2; done)) <;> cases r1 <;> cases r2 <;> (try (cases sc; done)) <;> (try rfl)
        · rename_i m1 m2; cases m1 <;> cases m2 <;> rfl
        · simp only [V.int.injEq, W.eq]
        · rename_i m1 m2
          simp only [W.eq, seqNat_iff, strV]
          by_cases z : m1 = m2 <;> simp [z]
      cases neg with
      | false => exact op_eq pins s σ H x y v u Q I rx ry ⟨sc, by rw [hd]; exact q⟩
      | true => exact op_ne pins s σ H x y v u Q I rx ry ⟨sc, by rw [hd]; exact q⟩
    · refine deepway ?_ ?_
      · cases w1 <;> (try (cases f.1; done)) <;> (try rfl) <;> cases w2 <;> (try (cases f.2; done)) <;> cases r1 <;> cases r2 <;> exact absurd rfl sc
      · cases w2 <;> (try (cases f.2; done)) <;> (try rfl) <;> cases w1 <;> (try (cases f.1; done)) <;> cases r1 <;> cases r2 <;> exact absurd rfl sc
  · rw [Bool.and_eq_true] at l
    exact deepway l.1 l.2
theorem op_in2 (hu : X.A.units + 65 < cLine) {C : Cf} (hK : C.K = X.K) {pins : List (Addr × Obj)} {s : Shared} {σ : L2.St} {H : Hp} {x y : V} {v u : Value} {Q : VK} {γ : Gh} {h : Hw} {w1 w2 : W} {xs : List W} (neg : Bool)
    (I : Inv X pins σ H s) (rx : RelV x v) (ry : RelV y u) (c : HC C γ h H) (r1 : RW C γ w1 x) (r2 : RW C γ w2 y) (e2 : whole h w2 = .lst xs) (ok : inOk (whole h w1) xs = true) (q : Q (.bl (if neg then !(xs.any fun y => W.eq y (whole h w1)) else (xs.any fun y => W.eq y (whole h w1)))) H) :
    wpAny (model X.prog X.w) X.A (compareOp (if neg then .NotIn else .In) v u) (EP X pins σ Q) X.xe s := by
  unfold inOk at ok
  rcases Bool.or_eq_true_iff.mp ok with f | l
  · rw [Bool.and_eq_true] at f
    have e1 := whole_flat f.1
    rw [e1] at q f
    obtain ⟨ws, hl, hw⟩ := whole_lst e2
    cases hw f.2
    obtain ⟨a, vs, rfl, q1, q2⟩ := look_lst c r2 hl
    have e := inV_eq f.1 r1 f.2 q2
    cases neg with
    | false => exact op_in_seq pins s σ H x _ v u Q I rx ry ⟨a, vs, rfl, .inl (.inl q1), flat_rw f.1 r1, flats_rw f.2 q2, by rw [e]; exact q⟩
    | true => exact op_notIn_seq pins s σ H x _ v u Q I rx ry ⟨a, vs, rfl, .inl (.inl q1), flat_rw f.1 r1, flats_rw f.2 q2, by rw [e]; exact q⟩
  · rw [Bool.and_eq_true] at l
    have l2 : W.lay 40 (whole h w2) = true := by rw [e2]; exact l.2
    have d1 := whole_dp c l.1 r1
    have d2 := whole_dp c l2 r2
    rw [e2] at d2
    rw [hK] at d1 d2
    have e := any_eqv l.1 l.2
    cases neg with
    | false => exact op_inD hu pins s σ H x y v u Q I rx ry ⟨_, _, d1.dp, d2.dp, shaped_of d1 (by omega), shaped_of d2 (by omega), by rw [e]; exact q⟩
    | true => exact op_notInD hu pins s σ H x y v u Q I rx ry ⟨_, _, d1.dp, d2.dp, shaped_of d1 (by omega), shaped_of d2 (by omega), by rw [e]; exact q⟩
theorem op_inT {C : Cf} (hK : C.K = X.K) {pins : List (Addr × Obj)} {s : Shared} {σ : L2.St} {H : Hp} {x y : V} {v u : Value} {Q : VK} {γ : Gh} {h : Hw} {w1 w2 : W} {xs : List W} (neg : Bool)
    (I : Inv X pins σ H s) (rx : RelV x v) (ry : RelV y u) (c : HC C γ h H) (r1 : RW C γ w1 x) (r2 : RW C γ w2 y) (e2 : whole h w2 = .tup xs) (ok : (W.flat (whole h w1) && xs.all W.flat) = true) (q : Q (.bl (if neg then !(xs.any fun y => W.eq y (whole h w1)) else (xs.any fun y => W.eq y (whole h w1)))) H) :
    wpAny (model X.prog X.w) X.A (compareOp (if neg then .NotIn else .In) v u) (EP X pins σ Q) X.xe s := by
  rw [Bool.and_eq_true] at ok
  have e1 := whole_flat ok.1
  rw [e1] at q ok
  obtain ⟨ws, hl, hw⟩ := whole_tup e2
  cases hw ok.2
  obtain ⟨a, vs, rfl, q1, q2⟩ := look_tup c r2 hl
  have e := inV_eq ok.1 r1 ok.2 q2
  cases neg with
  | false => exact op_in_seq pins s σ H x _ v u Q I rx ry ⟨a, vs, rfl, .inr (.inl q1), flat_rw ok.1 r1, flats_rw ok.2 q2, by rw [e]; exact q⟩
  | true => exact op_notIn_seq pins s σ H x _ v u Q I rx ry ⟨a, vs, rfl, .inr (.inl q1), flat_rw ok.1 r1, flats_rw ok.2 q2, by rw [e]; exact q⟩
theorem of_cmp (hu : X.A.units + 65 < cLine) {C : Cf} (hK : C.K = X.K) (o : COp) : OpR X (compareOp (copOf o)) (fun x y H Q => ∃ E, rf2 C (cmpW o) E x y H Q) := by
  intro pins s σ H x y v u Q I rx ry ⟨E, γ, h, w1, w2, c, r1, r2, p0⟩
  obtain ⟨w, eo, p⟩ := p0.ofSome
  clear p0
  cases o with
  | eq =>
    simp only [cmpop] at eo
    split at eo
    · rename_i ok; cases eo
      exact op_eq2 hu hK false I rx ry c r1 r2 ok (PoE.here p c rfl)
    · cases eo
  | ne =>
    simp only [cmpop] at eo
    split at eo
    · rename_i ok; cases eo
      exact op_eq2 hu hK true I rx ry c r1 r2 ok (PoE.here p c rfl)
    · cases eo
  | lt =>
    simp only [cmpop] at eo
    split at eo
    · rename_i i j e1 e2; cases eo
      cases whole_flatE e1 rfl; cases whole_flatE e2 rfl
      exact op_lt pins s σ H x y v u Q I rx ry ⟨i, j, r1, r2, PoE.here p c rfl⟩
    · cases eo
  | le =>
    simp only [cmpop] at eo
    split at eo
    · rename_i i j e1 e2; cases eo
      cases whole_flatE e1 rfl; cases whole_flatE e2 rfl
      exact op_le pins s σ H x y v u Q I rx ry ⟨i, j, r1, r2, PoE.here p c rfl⟩
    · cases eo
  | gt =>
    simp only [cmpop] at eo
    split at eo
    · rename_i i j e1 e2; cases eo
      cases whole_flatE e1 rfl; cases whole_flatE e2 rfl
      exact op_gt pins s σ H x y v u Q I rx ry ⟨i, j, r1, r2, PoE.here p c rfl⟩
    · cases eo
  | ge =>
    simp only [cmpop] at eo
    split at eo
    · rename_i i j e1 e2; cases eo
      cases whole_flatE e1 rfl; cases whole_flatE e2 rfl
      exact op_ge pins s σ H x y v u Q I rx ry ⟨i, j, r1, r2, PoE.here p c rfl⟩
    · cases eo
  | isin =>
    simp only [cmpop] at eo
    split at eo
    · rename_i t e2
      split at eo
      · rename_i k e1; cases eo
        cases whole_flatE e1 rfl; cases whole_flatE e2 rfl
        refine op_in_str pins s σ H x y v u Q I rx ry ⟨_, _, r1, r2, ?_⟩
        rw [show (([k].toArray : Array Nat)) = #[k] from rfl, StrLaws.found_one ⟨t.toArray⟩ k, show ((⟨t.toArray⟩ : Str).cps.toList) = t from rfl, any_code]
        exact PoE.here p c rfl
      · cases eo
    · rename_i xs e2
      split at eo
      · rename_i ok; cases eo
        exact op_in2 hu hK false I rx ry c r1 r2 e2 ok (PoE.here p c rfl)
      · cases eo
    · rename_i xs e2
      split at eo
      · rename_i ok; cases eo
        exact op_inT hK false I rx ry c r1 r2 e2 ok (PoE.here p c rfl)
      · cases eo
    · rename_i xs e2
      exact (whole_dct c r2 e2).elim
    · cases eo
  | notin =>
    simp only [cmpop] at eo
    split at eo
    · rename_i t e2
      split at eo
      · rename_i k e1; cases eo
        cases whole_flatE e1 rfl; cases whole_flatE e2 rfl
        refine op_notin_str pins s σ H x y v u Q I rx ry ⟨_, _, r1, r2, ?_⟩
        rw [show (([k].toArray : Array Nat)) = #[k] from rfl, StrLaws.found_one ⟨t.toArray⟩ k, show ((⟨t.toArray⟩ : Str).cps.toList) = t from rfl, any_code]
        exact PoE.here p c rfl
      · cases eo
    · rename_i xs e2
      split at eo
      · rename_i ok; cases eo
        exact op_in2 hu hK true I rx ry c r1 r2 e2 ok (PoE.here p c rfl)
      · cases eo
    · rename_i xs e2
      split at eo
      · rename_i ok; cases eo
        exact op_inT hK true I rx ry c r1 r2 e2 ok (PoE.here p c rfl)
      · cases eo
    · rename_i xs e2
      exact (whole_dct c r2 e2).elim
    · cases eo
theorem pv_cmp (hu : X.A.units + 65 < cLine) {C : Cf} (hK : C.K = X.K) {a b : Expr} {cl : CL} {Wx : WX} {xa xb : Ex} {pos : Pos} {op : CmpOp} {o : COp} (ho : op = copOf o) (ha : PE X a (tev C cl Wx xa)) (hb : PE X b (tev C cl Wx xb)) (hm : behindInMarks op b = false) :
    PE X (.Compare a [op] [b] pos) (tev C cl Wx (xCmp o xa xb)) := by
  subst ho
  refine PE.imp (pe_cmpR (of_cmp hu hK o) ha hb hm) fun σ H Q t => ?_
  obtain ⟨γ, σw, h, sl, hc, p⟩ := tev2 (f := cmpW o) t
  refine ⟨γ, σw, h, sl, hc, PoE.imp p fun v H' q => ?_⟩
  obtain ⟨γ, σw, h, sl, hc, p⟩ := q
  exact ⟨γ, σw, h, sl, hc, PoE.imp p fun v' H'' q' => ⟨_, q'⟩⟩
end
end Ov
namespace Ov
open PySem PySem.Spec PyProof.Rows L2
/-! ### what evaluates in one part, handed on -/
section
variable {X : Cx} {C : Cf} {a b c : Expr} {cl : CL} {Wx : WX} {xa xb xc : Ex} {pos : Pos}
/-- the rest behind a first part, at a known value -/
def rest1 (C : Cf) (f : W → Hw → R W) (E : XK) (Q : VK) : VK := fun x H1 => ∃ γ h w, HC C γ h H1 ∧ RW C γ w x ∧ PoE C γ H1 (f w h) Q E
theorem tev1' {f : W → Hw → R W} {σ : L2.St} {H : Hp} {Q : VK} (t : tev C cl Wx (fun cl σ h => (xa cl σ h).bind f) σ H Q) : tev C cl Wx xa σ H (rest1 C f (fun cls d H' => Wx cls d σ H') Q) := by
  obtain ⟨γ, σw, h, sl, hc, p⟩ := tev1 (f := f) t
  exact ⟨γ, σw, h, sl, hc, PoE.imp p fun v H' ⟨γ, σw, h, w, sl, hc, r, p⟩ => ⟨γ, h, w, hc, r, p⟩⟩
theorem tev.imp {σ : L2.St} {H : Hp} {Q Q' : VK} (t : tev C cl Wx xa σ H Q) (i : ∀ v H', Q v H' → Q' v H') : tev C cl Wx xa σ H Q' :=
  let ⟨γ, σw, h, sl, hc, p⟩ := t
  ⟨γ, σw, h, sl, hc, PoE.imp p i⟩
theorem pv_neg (ha : PE X a (tev C cl Wx xa)) : PE X (.UnaryOp .USub a pos) (tev C cl Wx (xNeg xa)) :=
  PE.imp (pe_un un_neg ha) fun σ H Q t => (tev1' t).imp fun x H1 ⟨γ, h, w, hc, r, p⟩ => by
    cases w with
    | int i => exact ⟨i, r, PoE.here p hc rfl⟩
    | _ => exact p.elim
theorem pv_not (ha : PE X a (tev C cl Wx xa)) : PE X (.UnaryOp .Not a pos) (tev C cl Wx (xNot xa)) :=
  PE.imp (pe_not ha) fun σ H Q t => (tev1' t).imp fun x H1 ⟨γ, h, w, hc, r, p⟩ => by
    cases w with
    | bl i => exact ⟨i, r, PoE.here p hc rfl⟩
    | _ => exact p.elim
/-- .. with the slots -/
def rest1s (C : Cf) (f : W → Sw → Hw → R W) (σ : L2.St) (E : XK) (Q : VK) : VK := fun x H1 => ∃ γ σw h w, SL C γ σw σ ∧ HC C γ h H1 ∧ RW C γ w x ∧ PoE C γ H1 (f w σw h) Q E
theorem tev1s {f : W → Sw → Hw → R W} {σ : L2.St} {H : Hp} {Q : VK} (t : tev C cl Wx (fun cl σ h => (xa cl σ h).bind fun x h1 => f x σ h1) σ H Q) :
    tev C cl Wx xa σ H (rest1s C f σ (fun cls d H' => Wx cls d σ H') Q) := by
  obtain ⟨γ, σw, h, sl, hc, p⟩ := t
  refine ⟨γ, σw, h, sl, hc, ?_⟩
  dsimp only at p
  cases ea : xa cl σw h with
  | ok w h1 =>
    rw [ea] at p
    intro γ1 v H1 e1 k1 c1 r1
    exact ⟨γ1, σw, h1, w, sl.ext e1, c1, r1, PoE.step p e1 k1⟩
  | exn c aa h1 => rw [ea] at p; exact p
  | no => rw [ea] at p; exact p
theorem pv_one {op} (ha : PE X a (tev C cl Wx xa)) : PE X (.BoolOp op [a] pos) (tev C cl Wx xa) := pe_one ha
theorem pv_and {r : List Expr} (ha : PE X a (tev C cl Wx xa)) (hb : PE X (.BoolOp .And (b :: r) pos) (tev C cl Wx xb)) : PE X (.BoolOp .And (a :: b :: r) pos) (tev C cl Wx (xAnd xa xb)) :=
  PE.imp (pe_and ha hb) fun σ H Q t => (tev1s (f := fun x σ h1 => match x with
    | .bl true => xb cl σ h1
    | .bl false => .ok (.bl false) h1
    | _ => .no) t).imp fun x H1 ⟨γ, σw, h, w, sl, hc, r, p⟩ => by
    cases w with
    | bl i =>
      refine ⟨i, r, ?_⟩
      cases i with
      | true => exact ⟨γ, σw, h, sl, hc, p⟩
      | false => exact PoE.here p hc rfl
    | _ => exact p.elim
theorem pv_or {r : List Expr} (ha : PE X a (tev C cl Wx xa)) (hb : PE X (.BoolOp .Or (b :: r) pos) (tev C cl Wx xb)) : PE X (.BoolOp .Or (a :: b :: r) pos) (tev C cl Wx (xOr xa xb)) :=
  PE.imp (pe_or ha hb) fun σ H Q t => (tev1s (f := fun x σ h1 => match x with
    | .bl false => xb cl σ h1
    | .bl true => .ok (.bl true) h1
    | _ => .no) t).imp fun x H1 ⟨γ, σw, h, w, sl, hc, r, p⟩ => by
    cases w with
    | bl i =>
      refine ⟨i, r, ?_⟩
      cases i with
      | true => exact PoE.here p hc rfl
      | false => exact ⟨γ, σw, h, sl, hc, p⟩
    | _ => exact p.elim

/-! ### tests -/
theorem asB_bind (r : R W) (f : W → Hw → R W) : asB (r.bind f) = r.bind fun x h => asB (f x h) := by
  cases r <;> rfl
theorem PoE.asB {γ : Gh} {H : Hp} {r : R W} {Q : Bool → Hp → Prop} {E : XK} (p : PoB C γ H (asB r) Q E) : PoE C γ H r (fun v H' => ∃ b, v = .bl b ∧ Q b H') E := by
  cases r with
  | ok w h =>
    cases w with
    | bl b => exact fun γ' v H' e k c r => ⟨b, r, p γ' H' e k c⟩
    | _ => exact p.elim
  | exn c a h => exact p
  | no => exact p
theorem ttv_tev {σ : L2.St} {H : Hp} {Q : Bool → Hp → Prop} (t : ttv C cl Wx xa σ H Q) : tev C cl Wx xa σ H (fun v H' => ∃ b, v = .bl b ∧ Q b H') :=
  let ⟨γ, σw, h, sl, hc, p⟩ := t
  ⟨γ, σw, h, sl, hc, PoE.asB p⟩
/-- an expression without a rule of its own as a test -/
theorem pt_plain (ha : PE X a (tev C cl Wx xa)) (he : ∀ whole, isTrue a X.env whole = (do let v ← whole; standAt a.pos; holding [v] (truthy v))) : PT X a (ttv C cl Wx xa) :=
  PT.imp (pt_val ha he) fun σ H Q t => ttv_tev t
theorem ptv_cmp (hu : X.A.units + 65 < cLine) (hK : C.K = X.K) {op : CmpOp} {o : COp} (ho : op = copOf o) (ha : PE X a (tev C cl Wx xa)) (hb : PE X b (tev C cl Wx xb)) (hm : behindInMarks op b = false) :
    PT X (.Compare a [op] [b] pos) (ttv C cl Wx (xCmp o xa xb)) := by
  subst ho
  refine PT.imp (pt_cmpR (of_cmp hu hK o) ha hb hm) fun σ H Q t => ?_
  obtain ⟨γ, σw, h, sl, hc, p⟩ := tev2 (f := cmpW o) (ttv_tev t)
  refine ⟨γ, σw, h, sl, hc, PoE.imp p fun v H' q => ?_⟩
  obtain ⟨γ, σw, h, sl, hc, p⟩ := q
  exact ⟨γ, σw, h, sl, hc, PoE.imp p fun v' H'' q' => ⟨_, q'⟩⟩
theorem pt_notv (ha : PT X a (ttv C cl Wx xa)) : PT X (.UnaryOp .Not a pos) (ttv C cl Wx (xNot xa)) :=
  PT.imp (pt_not ha) fun σ H Q t => by
    obtain ⟨γ, σw, h, sl, hc, p⟩ := t
    refine ⟨γ, σw, h, sl, hc, ?_⟩
    unfold xNot at p
    rw [asB_bind] at p
    cases ea : xa cl σw h with
    | ok w h1 =>
      rw [ea] at p
      cases w with
      | bl b => exact p
      | _ => exact p.elim
    | exn c aa h1 => rw [ea] at p; exact p
    | no => rw [ea] at p; exact p
theorem pw_onev {op} (ha : PT X a (ttv C cl Wx xa)) : PW X (.BoolOp op [a] pos) (ttv C cl Wx xa) := by
  cases op
  · exact pw_and1 ha
  · exact pw_or1 ha
theorem PW.imp {e : Expr} {t t' : TT} (h : PW X e t) (i : ∀ σ H Q, t' σ H Q → t σ H Q) : PW X e t' := ⟨fun wh pins s σ H Q I hw => h.run wh pins s σ H Q I (i σ H Q hw)⟩
theorem pw_andv {r : List Expr} (ha : PT X a (ttv C cl Wx xa)) (hb : PW X (.BoolOp .And (b :: r) pos) (ttv C cl Wx xb)) : PW X (.BoolOp .And (a :: b :: r) pos) (ttv C cl Wx (xAnd xa xb)) :=
  PW.imp (pw_and ha hb) fun σ H Q t => by
    obtain ⟨γ, σw, h, sl, hc, p⟩ := t
    refine ⟨γ, σw, h, sl, hc, ?_⟩
    unfold xAnd at p
    rw [asB_bind] at p
    cases ea : xa cl σw h with
    | ok w h1 =>
      rw [ea] at p
      cases w with
      | bl b =>
        intro γ1 H1 e1 k1 c1
        cases b with
        | true => exact ⟨γ1, σw, h1, sl.ext e1, c1, PoB.step p e1 k1⟩
        | false => exact p γ1 H1 e1 k1 c1
      | _ => exact p.elim
    | exn c aa h1 => rw [ea] at p; exact p
    | no => rw [ea] at p; exact p
theorem pw_orv {r : List Expr} (ha : PT X a (ttv C cl Wx xa)) (hb : PW X (.BoolOp .Or (b :: r) pos) (ttv C cl Wx xb)) : PW X (.BoolOp .Or (a :: b :: r) pos) (ttv C cl Wx (xOr xa xb)) :=
  PW.imp (pw_or ha hb) fun σ H Q t => by
    obtain ⟨γ, σw, h, sl, hc, p⟩ := t
    refine ⟨γ, σw, h, sl, hc, ?_⟩
    unfold xOr at p
    rw [asB_bind] at p
    cases ea : xa cl σw h with
    | ok w h1 =>
      rw [ea] at p
      cases w with
      | bl b =>
        intro γ1 H1 e1 k1 c1
        cases b with
        | true => exact p γ1 H1 e1 k1 c1
        | false => exact ⟨γ1, σw, h1, sl.ext e1, c1, PoB.step p e1 k1⟩
      | _ => exact p.elim
    | exn c aa h1 => rw [ea] at p; exact p
    | no => rw [ea] at p; exact p
theorem pv_ite (hc : PT X c (ttv C cl Wx xc)) (ha : PE X a (tev C cl Wx xa)) (hb : PE X b (tev C cl Wx xb)) : PE X (.IfExp c a b pos) (tev C cl Wx (xIte xc xa xb)) :=
  PE.imp (pe_ifExp hc ha hb) fun σ H Q t => by
    obtain ⟨γ, σw, h, sl, hc, p⟩ := t
    refine ⟨γ, σw, h, sl, hc, ?_⟩
    unfold xIte at p
    cases ea : xc cl σw h with
    | ok w h1 =>
      rw [ea] at p
      cases w with
      | bl b =>
        intro γ1 H1 e1 k1 c1
        cases b with
        | true => exact ⟨γ1, σw, h1, sl.ext e1, c1, PoE.step p e1 k1⟩
        | false => exact ⟨γ1, σw, h1, sl.ext e1, c1, PoE.step p e1 k1⟩
      | _ => exact p.elim
    | exn c aa h1 => rw [ea] at p; exact p
    | no => rw [ea] at p; exact p
/-! ### is None -/
theorem isNon_rw {γ : Gh} {w : W} {x : V} (n : w ≠ .any) (r : RW C γ w x) : decide (x = .non) = isNon w := by
  cases w with
  | non => cases r; rfl
  | bl _ => cases r; rfl
  | int _ => cases r; rfl
  | str _ => cases r; rfl
  | tup _ => obtain ⟨a, vs, rfl, _⟩ := r; rfl
  | lst _ => obtain ⟨a, vs, rfl, _⟩ := r; rfl
  | dct _ => exact r.elim
  | obj _ _ _ => obtain ⟨a, dx, vs, rfl, _⟩ := r; rfl
  | ref _ => obtain ⟨a, rfl, _⟩ := r; rfl
  | any => exact absurd rfl n
theorem gIsN_out {yes : Bool} {γ : Gh} {h : Hw} {H : Hp} {w : W} {x : V} {Q : VK} {E : XK} (hc : HC C γ h H) (r : RW C γ w x) (p : PoE C γ H (gIsN yes w h) Q E) : Q (.bl (if yes then decide (x = .non) else !decide (x = .non))) H := by
  have n : w ≠ .any := fun e => by subst e; exact p
  rw [isNon_rw n r]
  have e : gIsN yes w h = .ok (.bl (if yes then isNon w else !isNon w)) h := by
    cases w <;> first | rfl | exact absurd rfl n
  rw [e] at p
  exact PoE.here p hc rfl
theorem pv_isN {j pos'} (ha : PE X a (tev C cl Wx xa)) : PE X (.Compare a [.Is] [.Constant .none j pos'] pos) (tev C cl Wx (xIsN true xa)) :=
  PE.imp (pe_cmp (pc_isN ha)) fun σ H Q t => (tev1' (f := gIsN true) t).imp fun x H1 ⟨γ, h, w, hc, r, p⟩ => gIsN_out hc r p
theorem pv_notN {j pos'} (ha : PE X a (tev C cl Wx xa)) : PE X (.Compare a [.IsNot] [.Constant .none j pos'] pos) (tev C cl Wx (xIsN false xa)) :=
  PE.imp (pe_cmp (pc_notN ha)) fun σ H Q t => (tev1' (f := gIsN false) t).imp fun x H1 ⟨γ, h, w, hc, r, p⟩ => gIsN_out hc r p
theorem ptv_isN {j pos'} (ha : PE X a (tev C cl Wx xa)) : PT X (.Compare a [.Is] [.Constant .none j pos'] pos) (ttv C cl Wx (xIsN true xa)) :=
  PT.imp (pt_cmp (pc_isN ha)) fun σ H Q t => (tev1' (f := gIsN true) (ttv_tev t)).imp fun x H1 ⟨γ, h, w, hc, r, p⟩ => gIsN_out hc r p
theorem ptv_notN {j pos'} (ha : PE X a (tev C cl Wx xa)) : PT X (.Compare a [.IsNot] [.Constant .none j pos'] pos) (ttv C cl Wx (xIsN false xa)) :=
  PT.imp (pt_cmp (pc_notN ha)) fun σ H Q t => (tev1' (f := gIsN false) (ttv_tev t)).imp fun x H1 ⟨γ, h, w, hc, r, p⟩ => gIsN_out hc r p
end
end Ov
namespace Ov
open PySem PySem.Spec PyProof.Rows L2
section
variable {C : Cf} {γ : Gh} {h : Hw} {H : Hp}
theorem nodup_append_one {α : Type} {l : List α} {a : α} (n : l.Nodup) (h : a ∉ l) : (l ++ [a]).Nodup := by
  rw [List.nodup_append]
  refine ⟨n, by simp, fun x hx y hy => ?_⟩
  have : y = a := by simpa using hy
  subst this
  exact fun e => h (e ▸ hx)
/-- a new cell, a list -/
theorem HC.cellL (c : HC C γ h H) {p : Addr} {ws : List W} {vs : List V} (n : H p = none) (r : RWs C γ ws vs) :
    ∃ γ', Ext γ γ' H ∧ Keep γ H (upd H p (.lst vs)) ∧ HC C γ' (h ++ [.lst ws]) (upd H p (.lst vs)) ∧ RW C γ' (.ref h.length) (.ref p) := by
  have ne : ∀ a o', H a = some o' → a ≠ p := fun a o' e z => by subst z; rw [n] at e; cases e
  have fp : γ.F p = none := by
    cases e : γ.F p with
    | none => rfl
    | some u => rw [c.frz _ _ e] at n; cases n
  have nι : p ∉ γ.ι := fun hp => c.there p hp n
  have E : Ext γ { γ with ι := γ.ι ++ [p] } H := ⟨⟨[p], rfl, fun a ha => (List.mem_singleton.mp ha) ▸ n⟩, fun _ _ e => e, rfl⟩
  refine ⟨{ γ with ι := γ.ι ++ [p] }, E, ⟨fun a u e _ => by rw [upd_ne (ne a u e)]; exact e, fun a e => ?_⟩, ⟨by simp [c.len], nodup_append_one c.nd nι, fun m a cc i hm => ?_, fun a i => ?_, fun a u e => ?_, fun a pa => ?_, fun d y e => ?_⟩, p, rfl, ?_⟩
  · cases q : H a with
    | none => exact absurd q e
    | some u => rw [upd_ne (ne a u q), q]; simp
  · by_cases hlt : m < γ.ι.length
    · rw [List.getElem?_append_left hlt] at i
      rw [List.getElem?_append_left (by rw [c.len]; exact hlt)] at hm
      have hp : a ≠ p := fun z => by subst z; exact nι (List.mem_of_getElem? i)
      have q := c.cell m a cc i hm
      cases cc with
      | lst us =>
        obtain ⟨f, ys, hh, r'⟩ := q
        exact ⟨f, ys, by rw [upd_ne hp]; exact hh, E.rws r'⟩
      | dct _ => exact q
      | obj k ns us =>
        obtain ⟨f, dx, ys, fd, hh, hd, l, r'⟩ := q
        exact ⟨f, dx, ys, fd, by rw [upd_ne hp]; exact hh, by rw [upd_ne (ne _ _ hd)]; exact hd, l, E.rws r'⟩
      | dead => trivial
    · have hm' : m = γ.ι.length := by
        have h1 : m < γ.ι.length + 1 := by simpa using (List.getElem?_eq_some_iff.mp i).1
        omega
      subst hm'
      have : a = p := by simpa using i.symm
      subst this
      have : cc = .lst ws := by
        rw [← c.len] at hm
        simpa using hm.symm
      subst this
      exact ⟨fp, vs, upd_same, E.rws r⟩
  · rcases List.mem_append.mp i with i | i
    · have := c.there a i
      have hp : a ≠ p := by intro z; subst z; exact this n
      rw [upd_ne hp]; exact this
    · have : a = p := by simpa using i
      subst this; rw [upd_same]; simp
  · have := c.frz a u e
    rw [upd_ne (ne _ _ this)]; exact this
  · obtain ⟨a1, a2, a3, a4⟩ := c.prot a pa
    have hp : a ≠ p := by intro z; subst z; exact a1 n
    refine ⟨by rw [upd_ne hp]; exact a1, a2, fun hm => ?_, fun b hb => ?_⟩
    · rcases List.mem_append.mp hm with hm | hm
      · exact a3 hm
      · exact hp (by simpa using hm)
    · rw [upd_ne hp]
      rcases List.mem_append.mp hb with hb | hb
      · exact a4 b hb
      · have : b = p := by simpa using hb
        subst this
        exact fun e => c.own a _ e n
  · by_cases z : d = p
    · subst z; rw [upd_same] at e; cases e
    · rw [upd_ne z] at e
      have := c.own d y e
      have hp : y ≠ p := by intro z; subst z; exact this n
      rw [upd_ne hp]; exact this
  · rw [c.len]; simp
theorem PoE.lstMade {m : Bool} {ws : List W} {vs : List V} {Q : VK} {E : XK} (p : PoE C γ H (made m h (.lst ws)) Q E) (c : HC C γ h H) (r : RWs C γ ws vs) {a : Addr} (n : H a = none) : Q (.ref a) (upd H a (.lst vs)) := by
  cases m with
  | false => exact PoE.lstNew p c r n
  | true =>
    obtain ⟨γ', e, k, c', r'⟩ := c.cellL n r
    exact p γ' _ _ e k c' r'
end
section
variable {X : Cx} {C : Cf} {a b c : Expr} {es : List Expr} {cl : CL} {Wx : WX} {xa xb xc : Ex} {xs : Exs} {pos : Pos}
theorem pas_nil : PA X [] (tes C cl Wx xsNil) := PA.imp pa_nil fun σ H Q ⟨γ, σw, h, sl, hc, p⟩ => p γ [] H (Ext.refl _ _) (Keep.refl _ _) hc rfl
theorem pas_cons (ha : PE X a (tev C cl Wx xa)) (hr : PA X es (tes C cl Wx xs)) (hs : starEach (a :: es) X.env = (false, eval a X.env) :: starEach es X.env) : PA X (a :: es) (tes C cl Wx (xsCons xa xs)) :=
  PA.imp (pa_cons ha hr hs) fun σ H Q ⟨γ, σw, h, sl, hc, p⟩ => by
    refine ⟨γ, σw, h, sl, hc, ?_⟩
    unfold xsCons at p
    cases ea : xa cl σw h with
    | ok w h1 =>
      rw [ea] at p
      intro γ1 v H1 e1 k1 c1 r1
      refine ⟨γ1, σw, h1, sl.ext e1, c1, ?_⟩
      have p1 := PoEs.step p e1 k1
      dsimp only [R.bind] at p1
      cases eb : xs cl σw h1 with
      | ok us h2 =>
        rw [eb] at p1
        intro γ2 vs H2 e2 k2 c2 r2
        exact p1 γ2 _ H2 e2 k2 c2 (RWs.cons (e2.rw r1) r2)
      | exn cc aa h2 => rw [eb] at p1; exact p1
      | no => rw [eb] at p1; exact p1
    | exn cc aa h1 => rw [ea] at p; exact p
    | no => rw [ea] at p; exact p
/-- the rest behind arguments -/
theorem tes1 {f : List W → Hw → R W} {σ : L2.St} {H : Hp} {Q : VK} (t : tev C cl Wx (fun cl σ h => (xs cl σ h).bind f) σ H Q) :
    tes C cl Wx xs σ H (fun vs H1 => ∃ γ h ws, HC C γ h H1 ∧ RWs C γ ws vs ∧ PoE C γ H1 (f ws h) Q (fun cls d H' => Wx cls d σ H')) := by
  obtain ⟨γ, σw, h, sl, hc, p⟩ := t
  refine ⟨γ, σw, h, sl, hc, ?_⟩
  dsimp only at p
  cases ea : xs cl σw h with
  | ok ws h1 =>
    rw [ea] at p
    intro γ1 vs H1 e1 k1 c1 r1
    exact ⟨γ1, h1, ws, c1, r1, PoE.step p e1 k1⟩
  | exn cc aa h1 => rw [ea] at p; exact p
  | no => rw [ea] at p; exact p
theorem tes.imp {σ : L2.St} {H : Hp} {Q Q' : List V → Hp → Prop} (t : tes C cl Wx xs σ H Q) (i : ∀ v H', Q v H' → Q' v H') : tes C cl Wx xs σ H Q' := by
  obtain ⟨γ, σw, h, sl, hc, p⟩ := t
  refine ⟨γ, σw, h, sl, hc, ?_⟩
  cases ea : xs cl σw h with
  | ok ws h1 => rw [ea] at p; exact fun γ' v H' e k c r => i _ _ (p γ' v H' e k c r)
  | exn cc aa h1 => rw [ea] at p; exact p
  | no => rw [ea] at p; exact p
theorem most_line {n : Nat} (h : Nat.blt n most = true) : n < sizeLine := by
  have : n < most := Nat.le_of_ble_eq_true h
  rw [sizeLine_eq]; unfold most at this; omega
theorem pv_tup {x1} (ha : PA X es (tes C cl Wx xs)) : PE X (.Tuple es x1 pos) (tev C cl Wx (xTup xs)) :=
  PE.imp (pe_tup ha) fun σ H Q t => (tes1 t).imp fun vs H1 ⟨γ, h, ws, c, r, p⟩ => by
    split at p
    · rename_i z
      exact ⟨by rw [← r.length]; exact Nat.le_of_lt (most_line z), fun a n => PoE.tupNew p c r n⟩
    · exact p.elim
theorem pv_lst {m : Bool} (ha : PA X es (tes C cl Wx xs)) : PE X (.List es pos) (tev C cl Wx (xLst m xs)) :=
  PE.imp (pe_lst ha) fun σ H Q t => (tes1 t).imp fun vs H1 ⟨γ, h, ws, c, r, p⟩ => by
    split at p
    · rename_i z
      exact ⟨by rw [← r.length]; exact Nat.le_of_lt (most_line z), fun a n => PoE.lstMade p c r n⟩
    · exact p.elim
/-! ### o[i] -/
theorem ixN_place {n : Nat} {i : Int} : ixN n i = place i n := by
  unfold ixN place
  by_cases h : 0 ≤ i
  · rw [if_pos h, if_pos h]
    by_cases h2 : i < n
    · rw [if_pos h2, if_pos (by omega)]
    · rw [if_neg h2, if_neg (by omega)]
  · rw [if_neg h, if_neg h]
theorem atI_get {γ : Gh} {ws : List W} {vs : List V} {i : Int} {w : W} (r : RWs C γ ws vs) (e : ((place i ws.length).bind fun n => ws[n]?) = some w) : ∃ v, atI vs i = some v ∧ RW C γ w v := by
  cases hp : place i ws.length with
  | none => rw [hp] at e; cases e
  | some n =>
    rw [hp] at e
    obtain ⟨v, q, rv⟩ := r.get (i := n) e
    refine ⟨v, ?_, rv⟩
    unfold atI
    rw [ixN_place, ← r.length, hp]
    exact q
theorem look_int {h : Hw} {w : W} {i : Int} (e : look h w = .int i) : w = .int i := look_flat e trivial
def gIdx : W → W → Hw → R W := fun x y h => .of h (itemW (look h x) y)
theorem ix_all (hK : C.K = X.K) : IxR X (fun x y H Q => ∃ E, rf2 C gIdx E x y H Q) := by
  intro value slice pins s σ H x y v u Q I rx ry ⟨E, γ, h, w1, w2, c, r1, r2, p0⟩ hs
  obtain ⟨w, eo, p⟩ := p0.ofSome
  clear p0
  cases e1 : look h w1 with
  | lst xs =>
    rw [e1] at eo
    cases w2 with
    | int i =>
      obtain ⟨a, vs, rfl, q1, q2⟩ := look_lst c r1 e1
      obtain ⟨v', ea, rv⟩ := atI_get q2 eo
      exact ix_list value slice pins s σ H _ y v u Q I rx ry ⟨a, vs, i, v', rfl, r2, .inl q1, ea, PoE.here p c rv⟩ hs
    | _ => simp [itemW] at eo
  | tup xs =>
    rw [e1] at eo
    cases w2 with
    | int i =>
      obtain ⟨a, vs, rfl, q1, q2⟩ := look_tup c r1 e1
      obtain ⟨v', ea, rv⟩ := atI_get q2 eo
      exact ix_tup value slice pins s σ H _ y v u Q I rx ry ⟨a, vs, i, v', rfl, r2, .inl q1, ea, PoE.here p c rv⟩ hs
    | _ => simp [itemW] at eo
  | str z =>
    rw [e1] at eo
    cases w2 with
    | int i =>
      have := look_flat e1 trivial
      subst this
      simp only [itemW] at eo
      split at eo
      · rename_i hz
        cases hp : place i z.length with
        | none => rw [hp] at eo; cases eo
        | some n =>
          rw [hp] at eo
          have eo' : (z[n]?).map (fun c => W.str [c]) = some w := eo
          cases hn : z[n]? with
          | none => rw [hn] at eo'; cases eo'
          | some k =>
            rw [hn] at eo'; cases eo'
            refine ix_str value slice pins s σ H x y v u Q I rx ry ⟨⟨z.toArray⟩, i, k, r1, r2, ?_, ?_, PoE.here p c rfl⟩ hs
            · show z.toArray.size ≤ sizeLine
              rw [List.size_toArray]; exact Nat.le_of_lt (most_line hz)
            · unfold atI
              rw [ixN_place, show ((⟨z.toArray⟩ : Str).cps.toList) = z from rfl, hp]
              exact hn
      · cases eo
    | _ => simp [itemW] at eo
  | dct es =>
    exfalso
    cases w1 with
    | dct _ => exact r1
    | ref n =>
      obtain ⟨a, _, i⟩ := r1
      simp only [look] at e1
      cases hn : h[n]? with
      | none => rw [hn] at e1; cases e1
      | some cc =>
        rw [hn] at e1
        cases cc with
        | dct us => exact c.cell n a _ i hn
        | lst _ => cases e1
        | obj _ _ _ => cases e1
        | dead => cases e1
    | _ => simp [look] at e1
  | _ => rw [e1] at eo; simp [itemW] at eo
theorem pv_idx (hK : C.K = X.K) (ha : PE X a (tev C cl Wx xa)) (hb : PE X b (tev C cl Wx xb)) (hs : PlainIx b) : PE X (.Subscript a b pos) (tev C cl Wx (xIdx xa xb)) :=
  PE.imp (pe_ix (ix_all hK) ha hb hs) fun σ H Q t => by
    obtain ⟨γ, σw, h, sl, hc, p⟩ := tev2 (f := gIdx) t
    refine ⟨γ, σw, h, sl, hc, PoE.imp p fun v H' q => ?_⟩
    obtain ⟨γ, σw, h, sl, hc, p⟩ := q
    exact ⟨γ, σw, h, sl, hc, PoE.imp p fun v' H'' q' => ⟨_, q'⟩⟩
end
end Ov
/-! texts: what the library says, over lists of signs -/
namespace Ov
open PySem PySem.Spec PyProof.Rows L2
abbrev mkS (l : List Nat) : Str := ⟨l.toArray⟩
theorem mkS_toList (x : Str) : mkS x.cps.toList = x := by cases x; simp [mkS]
theorem mkS_inj {a b : List Nat} (h : mkS a = mkS b) : a = b := by
  have := congrArg Str.cps h
  simpa using this
theorem mkS_append (a b : List Nat) : mkS a ++ mkS b = mkS (a ++ b) := by
  show (⟨a.toArray ++ b.toArray⟩ : Str) = _
  rw [List.append_toArray]
theorem join_mkS (sep : List Nat) : ∀ xs : List (List Nat), Str.join (mkS sep) (xs.map mkS) = mkS (joinBy sep xs)
  | [] => rfl
  | [x] => rfl
  | x :: y :: r => by
    have ih := join_mkS sep (y :: r)
    rw [List.map_cons] at ih
    show mkS x ++ mkS sep ++ Str.join (mkS sep) (mkS y :: r.map mkS) = _
    rw [ih, mkS_append, mkS_append]
    rfl
theorem glued_fold (sep : Str) : ∀ (r : List Str) (acc : Array Nat), (⟨r.foldl (fun acc p => acc ++ sep.cps ++ p.cps) acc⟩ : Str) = (match r with | [] => ⟨acc⟩ | _ :: _ => (⟨acc⟩ : Str) ++ sep ++ Str.join sep r)
  | [], acc => rfl
  | [p], acc => rfl
  | p :: q :: r, acc => by
    rw [List.foldl_cons, glued_fold sep (q :: r)]
    show (⟨acc ++ sep.cps ++ p.cps⟩ : Str) ++ sep ++ Str.join sep (q :: r) = ⟨acc⟩ ++ sep ++ (p ++ sep ++ Str.join sep (q :: r))
    generalize Str.join sep (q :: r) = z
    show (⟨acc ++ sep.cps ++ p.cps ++ sep.cps ++ z.cps⟩ : Str) = ⟨acc ++ sep.cps ++ (p.cps ++ sep.cps ++ z.cps)⟩
    simp [Array.append_assoc]
theorem glued_join (sep : Str) (xs : List Str) : Txt.join sep xs = Str.join sep xs := by
  unfold Txt.join Builtin.Str.glued
  cases xs with
  | nil => rfl
  | cons x r =>
    cases r with
    | nil => rfl
    | cons y r =>
      show (⟨(y :: r).foldl (fun acc p => acc ++ sep.cps ++ p.cps) x.cps⟩ : Str) = _
      rw [glued_fold]
      rfl
/-- the pieces of a text, by what they are -/
theorem splitGo_join (c : Nat) : ∀ s : List Nat, joinBy [c] ((splitGo c s).1 :: (splitGo c s).2) = s
  | [] => rfl
  | a :: r => by
    have ih := splitGo_join c r
    by_cases h : Nat.beq a c = true
    · have e : a = c := Nat.eq_of_beq_eq_true h
      subst e
      show joinBy [a] ((if Nat.beq a a then ([], (splitGo a r).1 :: (splitGo a r).2) else (a :: (splitGo a r).1, (splitGo a r).2)).1 :: (if Nat.beq a a then ([], (splitGo a r).1 :: (splitGo a r).2) else (a :: (splitGo a r).1, (splitGo a r).2)).2) = _
      rw [if_pos h]
      show [] ++ [a] ++ joinBy [a] ((splitGo a r).1 :: (splitGo a r).2) = _
      rw [ih]; rfl
    · show joinBy [c] ((if Nat.beq a c then ([], (splitGo c r).1 :: (splitGo c r).2) else (a :: (splitGo c r).1, (splitGo c r).2)).1 :: (if Nat.beq a c then ([], (splitGo c r).1 :: (splitGo c r).2) else (a :: (splitGo c r).1, (splitGo c r).2)).2) = _
      rw [if_neg h]
      cases e : (splitGo c r).2 with
      | nil =>
        rw [e] at ih
        show a :: (splitGo c r).1 = _
        have : (splitGo c r).1 = r := ih
        rw [this]
      | cons y t =>
        rw [e] at ih
        show a :: (splitGo c r).1 ++ [c] ++ joinBy [c] (y :: t) = _
        rw [List.cons_append, List.cons_append]
        exact congrArg (List.cons a) ih
theorem splitBy_uniq (c : Nat) : ∀ (xs : List (List Nat)) (x : List Nat), (∀ p ∈ x :: xs, c ∉ p) → splitGo c (joinBy [c] (x :: xs)) = (x, xs)
  | [], [], _ => rfl
  | [], a :: r, h => by
    have ha : ¬ Nat.beq a c = true := fun e => by
      have := Nat.eq_of_beq_eq_true e
      exact h (a :: r) List.mem_cons_self (this ▸ List.mem_cons_self)
    have ih := splitBy_uniq c [] r (fun p hp => by
      have : p = r := by simpa using hp
      subst this
      exact fun hm => h (a :: p) List.mem_cons_self (List.mem_cons_of_mem _ hm))
    show (let (x, xs) := splitGo c r; if Nat.beq a c then ([], x :: xs) else (a :: x, xs)) = _
    have ih' : splitGo c r = (r, []) := ih
    rw [ih']
    exact if_neg ha
  | y :: ys, [], h => by
    have ih := splitBy_uniq c ys y fun p hp => h p (List.mem_cons_of_mem _ hp)
    show (let (x, xs) := splitGo c (joinBy [c] (y :: ys)); if Nat.beq c c then ([], x :: xs) else (c :: x, xs)) = _
    rw [ih]
    exact if_pos (Nat.beq_refl c)
  | y :: ys, a :: r, h => by
    have ha : ¬ Nat.beq a c = true := fun e => by
      have := Nat.eq_of_beq_eq_true e
      exact h (a :: r) List.mem_cons_self (this ▸ List.mem_cons_self)
    have ih := splitBy_uniq c (y :: ys) r (fun p hp => by
      rcases List.mem_cons.mp hp with e | hp
      · subst e; exact fun hm => h (a :: p) List.mem_cons_self (List.mem_cons_of_mem _ hm)
      · exact h p (List.mem_cons_of_mem _ hp))
    show (let (x, xs) := splitGo c (joinBy [c] (r :: y :: ys)); if Nat.beq a c then ([], x :: xs) else (a :: x, xs)) = _
    rw [ih]
    exact if_neg ha
theorem map_codes (xs : List Str) : (xs.map fun x => x.cps.toList).map mkS = xs := by
  rw [List.map_map]
  conv => rhs; rw [← List.map_id xs]
  exact List.map_congr_left fun x _ => mkS_toList x
theorem split_mkS (s : List Nat) (c : Nat) : Txt.split (mkS s) (mkS [c]) = (splitBy c s).map mkS := by
  have hj := StrLaws.join_split (mkS s) (mkS [c])
  have hf := StrLaws.split_free (mkS s) c
  have hp := split_pos (mkS s) (mkS [c])
  have e : (⟨#[c]⟩ : Str) = mkS [c] := rfl
  rw [e] at hf
  generalize Txt.split (mkS s) (mkS [c]) = ps at hj hf hp
  cases ps with
  | nil => simp at hp
  | cons p r =>
    have hu := splitBy_uniq c (r.map fun x => x.cps.toList) p.cps.toList (fun q hq => by
      rcases List.mem_cons.mp hq with e | hq
      · subst e; exact hf p List.mem_cons_self
      · obtain ⟨x, hx, rfl⟩ := List.mem_map.mp hq
        exact hf x (List.mem_cons_of_mem _ hx))
    have hs : joinBy [c] (p.cps.toList :: r.map fun x => x.cps.toList) = s := by
      apply mkS_inj
      rw [← join_mkS, List.map_cons, mkS_toList, map_codes]
      exact hj
    rw [hs] at hu
    show _ = (let (x, xs) := splitGo c s; x :: xs).map mkS
    rw [hu]
    show _ = List.map mkS (p.cps.toList :: r.map fun x => x.cps.toList)
    rw [List.map_cons, mkS_toList, map_codes]
theorem splitBy_len (c : Nat) (s : List Nat) : (splitBy c s).length ≤ s.length + 1 := by
  unfold splitBy
  show (splitGo c s).2.length + 1 ≤ _
  have : ∀ s : List Nat, (splitGo c s).2.length ≤ s.length := by
    intro s
    induction s with
    | nil => exact Nat.le_refl _
    | cons a r ih =>
      show (if Nat.beq a c then (([] : List Nat), (splitGo c r).1 :: (splitGo c r).2) else (a :: (splitGo c r).1, (splitGo c r).2)).2.length ≤ r.length + 1
      split
      · show (splitGo c r).2.length + 1 ≤ _; omega
      · show (splitGo c r).2.length ≤ _; omega
  have := this s
  omega
/-! ### numbers -/
theorem int_mkS (i : Int) : Str.ofString (toString i) = mkS (intText i) := by
  cases i with
  | ofNat m =>
    rw [← mkS_toList (Str.ofString _)]
    congr 1
    have := PySem.W.KIN.signs_num m
    exact this
  | negSucc m =>
    rw [← mkS_toList (Str.ofString _)]
    congr 1
    rw [Str.ofString_eq_toList]
    show (("-" ++ Nat.repr (m + 1)).toList.map Char.toNat).toArray.toList = 45 :: natText (m + 1)
    rw [String.toList_append, List.map_append, Nat.toList_repr]
    rfl
end Ov
/-! defs and their calls, nothing being shown by repr around them -/
namespace Ov
open PySem PySem.Spec PyProof.Rows L2

/-- the def at f keeps sp, called where nothing is being shown -/
structure FnG (P : Program) (w : World) (K : PySem.W.Frag) (mg : Str → Option Value) (base : Heap) (k : Nat) (f : Addr) (fd : FuncData) (ps : List Str) (sp : Sp) : Prop where
  len : ∀ vs H Q E, sp vs H Q E → vs.length = ps.length
  run : ∀ (A : Around) (outer : List Env) (s : Shared) (H : Hp) (args : Args) (us : List Value) (vs : List V) (Q : VK) (E : XK), Room k A → A.guards = some [] → Env0 P w K mg base A outer s H →
    BindsTo s fd args (ps.zip us) → Vals vs us → sp vs H Q E → codeAny (model P w) A (.call (.ref f) args) (CR (L2.CX P w) outer P w H s Q E) s
section
variable {P : Program} {w : World} {K : PySem.W.Frag} {mg : Str → Option Value} {base : Heap} {k j : Nat} {f : Addr} {fd : FuncData} {ps : List Str} {sp sp' : Sp}
theorem FnG.mono (F : FnG P w K mg base j f fd ps sp) (h : j ≤ k) : FnG P w K mg base k f fd ps sp :=
  ⟨F.len, fun A o s H a us vs Q E r g => F.run A o s H a us vs Q E (r.mono h) g⟩
theorem FnG.imp (F : FnG P w K mg base k f fd ps sp) (h : ∀ vs H Q E, sp' vs H Q E → sp vs H Q E) : FnG P w K mg base k f fd ps sp' :=
  ⟨fun vs H Q E q => F.len vs H Q E (h _ _ _ _ q), fun A o s H a us vs Q E r g e b v q => F.run A o s H a us vs Q E r g e b v (h _ _ _ _ q)⟩
/-- a def that promises nothing -/
theorem FnG.none (h : ∀ vs H Q E, ¬ sp vs H Q E) : FnG P w K mg base k f fd ps sp := ⟨fun _ _ _ _ q => (h _ _ _ _ q).elim, fun _ _ _ _ _ _ _ _ _ _ _ _ _ _ q => (h _ _ _ _ q).elim⟩
end
theorem deeper_guards (A : Around) (env : Env) : (A.deeper env).guards = A.guards := rfl
section
variable {X : Cx} {k : Nat} {f c : Addr} {fd : FuncData} {ps : List Str} {sp : Sp} {Wx : WX} {pins : List (Addr × Obj)} {σ : L2.St} {H : Hp} {s : Shared} {Q : VK} {us : List Value} {vs : List V}
/-- a call's end for its caller -/
def EndIs (X : Cx) (pins : List (Addr × Obj)) (σ : L2.St) (Q : VK) (r : Result) (s' : Shared) : Prop :=
  match r with | .ok (.ret v) => EP X pins σ Q v s' | .ok _ => False | .error e => X.xe e s'
theorem end_of (I : Inv X pins σ H s) (tk : Takes X Wx) {r : Result} {s' : Shared} (h : CR (L2.CX X.prog X.w) X.stack X.prog X.w H s Q (WE Wx σ) r s') : EndIs X pins σ Q r s' := by
  cases r with
  | error e => exact passAt tk σ pins H s e s' I h
  | ok fl => cases fl <;> first | exact I.after h | exact False.elim h
theorem goG (F : FnG X.prog X.w X.K X.mg X.base k f fd ps sp) (hr : Room k X.A) (hg : X.A.guards = some []) (hb : Binds X.K fd ps []) (tk : Takes X Wx)
    (I : Inv X pins σ H s) (r : Vals vs us) (h : sp vs H Q (WE Wx σ)) : wpAny (model X.prog X.w) X.A (call (.ref f) us) (EP X pins σ Q) X.xe s := by
  have l : (us ++ []).length = ps.length := by rw [List.append_nil, ← r.length]; exact F.len _ _ _ _ h
  have b := hb s us I.kIn l
  rw [List.append_nil] at b
  exact wpAny_call (codeAny_mono (F.run X.A X.stack s H ⟨us, []⟩ us vs Q _ hr hg I.env0 b r h) fun _ _ q => end_of I tk q)
/-- a new instance, then its __init__ -/
theorem makeG (M : Mk X.K c f) (F : FnG X.prog X.w X.K X.mg X.base k f fd ps sp) (hr : Room (k + 1) X.A) (hg : X.A.guards = some []) (hb : Binds X.K fd ps []) (tk : Takes X Wx) (I : Inv X pins σ H s) (r : Vals vs us)
    (h : ∀ x dx, H x = none → H dx = none → dx ≠ x → sp (.ref x :: vs) (upd (upd H dx (.own x)) x (.ins c dx [])) (fun v H2 => v = .non ∧ Q (.ref x) H2) (WE Wx σ)) :
    wpAny (model X.prog X.w) X.A (call (.ref c) us) (EP X pins σ Q) X.xe s := by
  have z := h (s.heap.objs.size + 1) s.heap.objs.size (I.hok.fresh (Nat.le_succ _)) (I.hok.fresh (Nat.le_refl _)) (Nat.ne_of_lt (Nat.lt_succ_self _))
  have J := Inv.made (C := c) I
  have rr : Vals (V.ref (s.heap.objs.size + 1) :: vs) (Value.ref (s.heap.objs.size + 1) :: us) := .cons rfl r
  have l : (Value.ref (s.heap.objs.size + 1) :: us ++ []).length = ps.length := by
    rw [List.append_nil, ← rr.length]; exact F.len _ _ _ _ z
  have b := hb _ (Value.ref (s.heap.objs.size + 1) :: us) J.kIn l
  rw [List.append_nil] at b
  have gg : (X.A.under (.builtin "type.__call__" ⟨.ref c :: us, []⟩)).guards = some [] := by
    rw [← hg]; rfl
  refine wpAny_call (make_map (f := f) I.kIn M.makes M.init (beq_iff_eq.mp M.fn) (codeAny_mono (F.run _ X.stack _ _ _ _ _ _ _ (hr.make c us []) gg (J.env0.make c us []) b rr z) fun q s' e => ?_))
  have e' := end_of J tk e
  cases q with
  | error x => exact e'
  | ok fl =>
    cases fl with
    | ret u =>
      obtain ⟨v, H', J', rv, ev, q3⟩ := e'
      subst ev
      exact ⟨rv, V.ref (s.heap.objs.size + 1), H', J', rfl, q3⟩
    | next => exact e'
    | brk => exact e'
    | cont => exact e'
end
/-- a def by its body -/
theorem fnG_of {P : Program} {w : World} {K : PySem.W.Frag} {mg : Str → Option Value} {base : Heap} {k : Nat} {f : Addr} {name qual : Str} {params : Arguments} {body : List Stmt} {scope : Scope} {dV kV doc pm cdv ct oc : Value} {an od : Option Addr}
    {osl : Array (Option Value)} {N ps : List Str} {sp : Sp} (lk : K.lookup f = some ⟨oc, od, .func (PySem.W.fnOf name qual params body scope dV kV doc pm an cdv ct), osl⟩) (hcd : PySem.W.codeIn K cdv qual = true) (S : FnScope N ps scope)
    (len : ∀ vs H Q E, sp vs H Q E → vs.length = ps.length)
    (hbody : ∀ (A : Around) (outer : List Env) (s : Shared) (H : Hp) (vs : List V) (Q : VK) (E : XK), Room k (A.deeper (envOfC qual scope s.heap.objs.size f cdv)) → A.guards = some [] → sp vs H Q E →
      ∃ t, PSs (cxOf (L2.CX P w) P w K mg base N qual scope f cdv A outer s H E) body t ∧ t { nx := fun _ H' => Q .non H', rt := Q } (L2.start N vs) H) :
    FnG P w K mg base (k + 1) f (PySem.W.fnOf name qual params body scope dV kV doc pm an cdv ct) ps sp := by
  refine ⟨len, fun A outer s H args us vs Q E hr hg e0 hb r hsp => ?_⟩
  have old : ∀ b o, base.get? b = some o → s.heap.get? b = some o := fun b o e => (e0.bs b o e).1
  have KX : K.In s.heap := e0.mod.kin.keeps old
  have kinds : ∀ y ∈ ps.zip us, scope.names.lookup y.1 = some .local ∨ (scope.names.lookup y.1 = some .cell ∧ ((cellsFrom (s.heap.objs.size + 1) scope.names []).lookup y.1).isSome = true) := fun y hy => by
    obtain ⟨n, v⟩ := y
    exact (S.par n (List.of_mem_zip hy).1).imp id fun q => ⟨q, PySem.W.cellsFrom_some _ _ _ (.inl q)⟩
  refine codeAny_call_function hr.depth (KX _ _ lk) rfl S.co S.gen rfl (PySem.W.codeRec_of KX hcd) (hb _ _ _ _ (wpAny_newFunctionEnv_cells S.kind kinds fun env he s1 x => ?_))
  subst he
  refine ⟨(e0.mod.nolimit.keeps old).keeps x.toInCall.keep, codeAny_func ?_⟩
  obtain ⟨t, ht, hq⟩ := hbody A outer s H vs Q E (hr.deeper _) hg hsp
  have J := inv_start (CX := L2.CX P w) (E := E) S hr.hd e0 (len _ _ _ _ hsp) r x
  refine wpAny_mono (ht.run [] s1 _ H _ J hq) (fun fl s' z => ?_) fun _ _ z => z
  cases fl with
  | ret u => obtain ⟨v, _, H', I, rv, q⟩ := z; exact ⟨v, H', I.os, I.bare, I.base, I.hok, rv, q⟩
  | next => obtain ⟨_, H', I, q⟩ := z; exact ⟨V.non, H', I.os, I.bare, I.base, I.hok, rfl, q⟩
  | brk => obtain ⟨_, _, _, q⟩ := z; exact q.elim
  | cont => obtain ⟨_, _, _, q⟩ := z; exact q.elim
end Ov
namespace Ov
open PySem PySem.Spec PyProof.Rows L2
theorem plain_ok : ∀ c : Nat, plainSign c = true → Unicode.isPrintable c = true ∧ c ≠ 39 ∧ c ≠ 92 ∧ c ≠ 10 ∧ c ≠ 13 ∧ c ≠ 9 := by
  have h : ∀ c : Fin 127, plainSign c.val = true → Unicode.isPrintable c.val = true ∧ c.val ≠ 39 ∧ c.val ≠ 92 ∧ c.val ≠ 10 ∧ c.val ≠ 13 ∧ c.val ≠ 9 := by decide +kernel
  intro c p
  have lt : c < 127 := by
    unfold plainSign at p
    simp only [Bool.and_eq_true] at p
    have := Nat.le_of_ble_eq_true p.1.1.2
    omega
  exact h ⟨c, lt⟩ p
theorem reprChar_plain {c : Nat} (h : plainSign c = true) : Builtin.Str.reprChar 39 c = [c] := by
  obtain ⟨p, h1, h2, h3, h4, h5⟩ := plain_ok c h
  unfold Builtin.Str.reprChar
  simp [p, h1, h2, h3, h4, h5]
theorem quote_plain {s : List Nat} (h : s.all plainSign = true) : reprQuote (mkS s) = 39 := by
  unfold reprQuote
  have n : (mkS s).cps.contains 39 = false := by
    rw [Bool.eq_false_iff]
    intro e
    have m : 39 ∈ s := by simpa using e
    rw [List.all_eq_true] at h
    exact (plain_ok 39 (h 39 m)).2.1 rfl
  first
    | (rw [n]; rfl)
    | simp [n]
theorem fold_plain : ∀ (s : List Nat) (acc : Array Nat), s.all plainSign = true → s.foldl (fun out c => out ++ (Builtin.Str.reprChar 39 c).toArray) acc = (acc.toList ++ s).toArray
  | [], acc, _ => by simp
  | c :: r, acc, h => by
    rw [List.all_cons, Bool.and_eq_true] at h
    rw [List.foldl_cons, fold_plain r _ h.2, reprChar_plain h.1]
    simp
theorem reprStr_eq {s t : List Nat} (h : reprStr s = some t) : reprText (mkS s) = mkS t := by
  unfold reprStr at h
  split at h
  · rename_i p
    cases h
    unfold reprText
    rw [quote_plain p]
    show (⟨((s.toArray.foldl (fun out c => out ++ (Builtin.Str.reprChar 39 c).toArray) #[39]).push 39)⟩ : Str) = _
    rw [← Array.foldl_toList, fold_plain _ _ p]
    simp [mkS]
  · cases h
theorem textFrom_more (k : Nat) : ∀ (ts : List (List Nat)) (acc : List Nat), textFrom (k + 1) (mkS acc) (ts.map mkS) = mkS (acc ++ (ts.map fun t => 44 :: 32 :: t).flatten)
  | [], acc => by simp [textFrom]
  | t :: r, acc => by
    rw [List.map_cons, textFrom, if_pos (Nat.succ_pos k)]
    have e : (Str.ofString ", ") = mkS [44, 32] := by decide +kernel
    rw [e, mkS_append, mkS_append, textFrom_more]
    simp
theorem comma_flat : ∀ (t : List Nat) (ts : List (List Nat)), commaJoin (t :: ts) = t ++ (ts.map fun t => 44 :: 32 :: t).flatten
  | t, [] => by simp [commaJoin]
  | t, u :: r => by
    show t ++ 44 :: 32 :: commaJoin (u :: r) = _
    rw [comma_flat u r]
    simp
theorem listText_eq (ts : List (List Nat)) : listText (ts.map mkS) = mkS (91 :: commaJoin ts ++ [93]) := by
  unfold listText
  have e1 : (Str.ofString "[") = mkS [91] := by decide +kernel
  have e2 : (Str.ofString "]") = mkS [93] := by decide +kernel
  rw [e1, e2]
  cases ts with
  | nil => rw [List.map_nil, textFrom, mkS_append]; rfl
  | cons t r =>
    rw [List.map_cons, textFrom, if_neg (by omega), comma_flat]
    have e3 : (Str.ofString "") = mkS [] := by decide +kernel
    rw [e3, mkS_append, mkS_append, textFrom_more, mkS_append]
    simp
theorem joinComma : ∀ ts : List (List Nat), joinBy [44, 32] ts = commaJoin ts
  | [] => rfl
  | [_] => rfl
  | t :: u :: r => by
    show t ++ [44, 32] ++ joinBy [44, 32] (u :: r) = _
    rw [joinComma (u :: r)]
    simp [commaJoin]
theorem tupleText_eq (ts : List (List Nat)) : tupleText (ts.map mkS) = mkS (40 :: commaJoin ts ++ (if ts.length == 1 then [44, 41] else [41])) := by
  unfold tupleText
  have e1 : (Str.ofString "(") = mkS [40] := by decide +kernel
  have e2 : (Str.ofString ", ") = mkS [44, 32] := by decide +kernel
  have e3 : (Str.ofString (if (ts.map mkS).length == 1 then ",)" else ")")) = mkS (if ts.length == 1 then [44, 41] else [41]) := by
    rw [List.length_map]
    split
    · decide +kernel
    · decide +kernel
  rw [e1, e2, e3, join_mkS, mkS_append, mkS_append, joinComma]
  rfl
/-- what repr gives, and that it may be asked -/
structure Shown (d : PyData) (t : List Nat) : Prop where
  txt : d.shown = mkS t
  ok : d.showable = true
  nd : d.hasDict = false
structure ShownS (ds : List PyData) (ts : List (List Nat)) : Prop where
  txt : PyData.shownAll ds = ts.map mkS
  ok : PyData.showableAll ds = true
  nd : PyData.hasDictAll ds = false
mutual
theorem repr_shown : ∀ (w : W) (t : List Nat), W.repr w = some t → Shown (pyd w) t
  | .non, t, h => by cases h; exact ⟨by decide +kernel, rfl, rfl⟩
  | .bl true, t, h => by cases h; exact ⟨by decide +kernel, rfl, rfl⟩
  | .bl false, t, h => by cases h; exact ⟨by decide +kernel, rfl, rfl⟩
  | .int i, t, h => by
    simp only [W.repr] at h
    split at h
    · rename_i z; cases h
      have : i.natAbs.log2 < 1900 := Nat.le_of_ble_eq_true z
      exact ⟨int_mkS i, decide_eq_true (by omega), rfl⟩
    · cases h
  | .str s, t, h => ⟨reprStr_eq h, rfl, rfl⟩
  | .tup [], t, h => by cases h; exact ⟨tupleText_eq [], rfl, rfl⟩
  | .tup [x], t, h => by
    simp only [W.repr] at h
    cases e : W.repr x with
    | none => rw [e] at h; cases h
    | some u =>
      rw [e] at h; cases h
      have i := repr_shown x u e
      refine ⟨?_, ?_, ?_⟩
      · show tupleText (PyData.shownAll [pyd x]) = _
        rw [PyData.shownAll, PyData.shownAll, i.txt]
        exact tupleText_eq [u]
      · show PyData.showableAll [pyd x] = true
        rw [PyData.showableAll, i.ok]; rfl
      · show PyData.hasDictAll [pyd x] = false
        rw [PyData.hasDictAll, i.nd]; rfl
  | .tup (x :: y :: r), t, h => by
    simp only [W.repr] at h
    cases e : W.repr x with
    | none => rw [e] at h; cases h
    | some u =>
      rw [e] at h
      cases e2 : W.reprs (y :: r) with
      | none => rw [e2] at h; cases h
      | some us =>
        rw [e2] at h; cases h
        have i := repr_shown x u e
        have j := reprs_shown (y :: r) us e2
        have l : us.length = (y :: r).length := by
          have := congrArg List.length j.txt
          rw [List.length_map] at this
          rw [← this]
          have : ∀ ds : List PyData, (PyData.shownAll ds).length = ds.length := by
            intro ds
            induction ds with
            | nil => rfl
            | cons a b ih => rw [PyData.shownAll, List.length_cons, List.length_cons, ih]
          rw [this, pyds_map, List.length_map]
        refine ⟨?_, ?_, ?_⟩
        · show tupleText (PyData.shownAll (pyd x :: pyds (y :: r))) = _
          rw [PyData.shownAll, i.txt, j.txt]
          have := tupleText_eq (u :: us)
          rw [List.map_cons] at this
          rw [this, if_neg]
          rw [List.length_cons, l]
          simp
        · show PyData.showableAll (pyd x :: pyds (y :: r)) = true
          rw [PyData.showableAll, i.ok, j.ok]; rfl
        · show PyData.hasDictAll (pyd x :: pyds (y :: r)) = false
          rw [PyData.hasDictAll, i.nd, j.nd]; rfl
  | .lst xs, t, h => by
    simp only [W.repr] at h
    cases e2 : W.reprs xs with
    | none => rw [e2] at h; cases h
    | some us =>
      rw [e2] at h; cases h
      have j := reprs_shown xs us e2
      refine ⟨?_, j.ok, j.nd⟩
      show listText (PyData.shownAll (pyds xs)) = _
      rw [j.txt]
      exact listText_eq us
  | .dct _, _, h => by simp [W.repr] at h
  | .obj _ _ _, _, h => by simp [W.repr] at h
  | .ref _, _, h => by simp [W.repr] at h
theorem reprs_shown : ∀ (ws : List W) (ts : List (List Nat)), W.reprs ws = some ts → ShownS (pyds ws) ts
  | [], ts, h => by cases h; exact ⟨rfl, rfl, rfl⟩
  | x :: r, ts, h => by
    simp only [W.reprs] at h
    cases e : W.repr x with
    | none => rw [e] at h; cases h
    | some u =>
      rw [e] at h
      cases e2 : W.reprs r with
      | none => rw [e2] at h; cases h
      | some us =>
        rw [e2] at h; cases h
        have i := repr_shown x u e
        have j := reprs_shown r us e2
        exact ⟨by rw [pyds, PyData.shownAll, i.txt, j.txt, List.map_cons], by rw [pyds, PyData.showableAll, i.ok, j.ok]; rfl, by rw [pyds, PyData.hasDictAll, i.nd, j.nd]; rfl⟩
end
end Ov
/-! built-in functions and methods -/
namespace Ov
open PySem PySem.Spec PyProof.Rows L2
section
variable {C : Cf} {γ : Gh} {h : Hw} {H : Hp}
theorem strs_rw : ∀ {xs : List W} {ss : List (List Nat)} {vs : List V}, strsOf xs = some ss → RWs C γ xs vs → vs = (ss.map mkS).map V.str
  | [], _, _, e, r => by cases e; cases r; rfl
  | .str s :: xs, ss, vs, e, ⟨v, r, e1, a, b⟩ => by
    simp only [strsOf] at e
    cases e2 : strsOf xs with
    | none => rw [e2] at e; cases e
    | some us =>
      rw [e2] at e; cases e
      subst e1
      cases a
      rw [strs_rw e2 b]; rfl
  | .non :: _, _, _, e, _ => by cases e
  | .bl _ :: _, _, _, e, _ => by cases e
  | .int _ :: _, _, _, e, _ => by cases e
  | .tup _ :: _, _, _, e, _ => by cases e
  | .lst _ :: _, _, _, e, _ => by cases e
  | .dct _ :: _, _, _, e, _ => by cases e
  | .obj _ _ _ :: _, _, _, e, _ => by cases e
  | .ref _ :: _, _, _, e, _ => by cases e
  | .any :: _, _, _, e, _ => by cases e
theorem bls_rw : ∀ {xs : List W} {ss : List Bool} {vs : List V}, blsOf xs = some ss → RWs C γ xs vs → vs = ss.map V.bl
  | [], _, _, e, r => by cases e; cases r; rfl
  | .bl s :: xs, ss, vs, e, ⟨v, r, e1, a, b⟩ => by
    simp only [blsOf] at e
    cases e2 : blsOf xs with
    | none => rw [e2] at e; cases e
    | some us =>
      rw [e2] at e; cases e
      subst e1
      cases a
      rw [bls_rw e2 b]; rfl
  | .non :: _, _, _, e, _ => by cases e
  | .str _ :: _, _, _, e, _ => by cases e
  | .int _ :: _, _, _, e, _ => by cases e
  | .tup _ :: _, _, _, e, _ => by cases e
  | .lst _ :: _, _, _, e, _ => by cases e
  | .dct _ :: _, _, _, e, _ => by cases e
  | .obj _ _ _ :: _, _, _, e, _ => by cases e
  | .ref _ :: _, _, _, e, _ => by cases e
  | .any :: _, _, _, e, _ => by cases e
theorem strs_made : ∀ (ss : List (List Nat)), RWs C γ (ss.map W.str) ((ss.map mkS).map V.str)
  | [] => rfl
  | s :: r => ⟨_, _, rfl, rfl, strs_made r⟩
end
/-- what a built-in gives of values and cells -/
def rG (C : Cf) (g : Gf) : List V → Hp → VK → Prop := fun vs H Q => ∃ E γ h ws, HC C γ h H ∧ RWs C γ ws vs ∧ PoE C γ H (g ws h) Q E
section
variable {X : Cx} {C : Cf} {a : Expr} {es : List Expr} {cl : CL} {Wx : WX} {xa : Ex} {xs : Exs} {pos p : Pos} {id T : String} {x : Str} {g : Gf}
theorem pv_B (hc : CallR X (.builtin id) (rG C g)) (hg : Gl X x) (hm : X.mg x = none) (hv : bootBuiltins x = some (.builtin id)) (ha : PA X (a :: es) (tes C cl Wx xs)) (hn : x ≠ "__name__") (hdb : (x == ("__debug__" : Str)) = false)
    (he : starEach (a :: es) X.env = (false, eval a X.env) :: starEach es X.env) (hpl : (backTo pos (starEach es X.env)).any (·.1) = false) : PE X (.Call (.Name x p) (a :: es) [] pos) (tev C cl Wx (xF g xs)) :=
  PE.imp (pe_callB hc hg hm hv ha hn hdb he hpl) fun σ H Q t => (tes1 (f := g) t).imp fun vs H1 ⟨γ, h, ws, c, r, q⟩ => ⟨_, γ, h, ws, c, r, q⟩
theorem pv_T (hc : CallR X (.type T) (rG C g)) (hg : Gl X x) (hm : X.mg x = none) (hv : bootBuiltins x = some (.type T)) (ha : PA X (a :: es) (tes C cl Wx xs)) (hn : x ≠ "__name__") (hdb : (x == ("__debug__" : Str)) = false)
    (he : starEach (a :: es) X.env = (false, eval a X.env) :: starEach es X.env) (hpl : (backTo pos (starEach es X.env)).any (·.1) = false) : PE X (.Call (.Name x p) (a :: es) [] pos) (tev C cl Wx (xF g xs)) :=
  PE.imp (pe_callTy hc hg hm hv ha hn hdb he hpl) fun σ H Q t => (tes1 (f := g) t).imp fun vs H1 ⟨γ, h, ws, c, r, q⟩ => ⟨_, γ, h, ws, c, r, q⟩
theorem one_rw {γ : Gh} {w : W} {vs : List V} (r : RWs C γ [w] vs) : ∃ v, vs = [v] ∧ RW C γ w v := by
  obtain ⟨v, q, e, r1, r2⟩ := r
  cases r2
  exact ⟨v, e, r1⟩
theorem two_rw {γ : Gh} {w u : W} {vs : List V} (r : RWs C γ [w, u] vs) : ∃ v v2, vs = [v, v2] ∧ RW C γ w v ∧ RW C γ u v2 := by
  obtain ⟨v, q, e, r1, r2⟩ := r
  obtain ⟨v2, e2, r3⟩ := one_rw r2
  exact ⟨v, v2, by rw [e, e2], r1, r3⟩
theorem c_len (hK : C.K = X.K) : CallR X (.builtin "len") (rG C gLen) := by
  intro pins s σ H vs us Q I rv ⟨E, γ, h, ws, c, r, q⟩
  unfold gLen at q
  split at q
  · obtain ⟨v, rfl, r1⟩ := one_rw r
    split at q
    · rename_i w z e
      split at q
      · rename_i hz
        have := look_flat e trivial
        subst this
        refine call_len pins s σ H _ us Q I rv ⟨v, z.length, rfl, ?_, PoE.here q c rfl⟩
        cases r1
        exact ⟨by show z.toArray.size ≤ sizeLine; rw [List.size_toArray]; exact Nat.le_of_lt (most_line hz), rfl⟩
      · exact q.elim
    · rename_i xs e
      obtain ⟨a, vs, rfl, q1, q2⟩ := look_lst c r1 e
      exact call_len pins s σ H _ us Q I rv ⟨.ref a, vs.length, rfl, .inl ⟨vs, .inl q1, rfl⟩, by rw [← q2.length]; exact PoE.here q c rfl⟩
    · rename_i xs e
      obtain ⟨a, vs, rfl, q1, q2⟩ := look_tup c r1 e
      exact call_len pins s σ H _ us Q I rv ⟨.ref a, vs.length, rfl, .inr ⟨vs, .inl q1, rfl⟩, by rw [← q2.length]; exact PoE.here q c rfl⟩
    · exact q.elim
  · exact q.elim
theorem c_str : CallR X (.type "str") (rG C gStr) := by
  intro pins s σ H vs us Q I rv ⟨E, γ, h, ws, c, r, q⟩
  unfold gStr at q
  split at q
  · rename_i i
    obtain ⟨v, rfl, r1⟩ := one_rw r
    split at q
    · rename_i hz
      cases r1
      have : i.natAbs.log2 < 1900 := Nat.le_of_ble_eq_true hz
      exact call_str_int pins s σ H _ us Q I rv ⟨i, rfl, by omega, by rw [int_mkS]; exact PoE.here q c rfl⟩
    · exact q.elim
  · exact q.elim
theorem digits_val : ∀ (s : List Nat) (acc n : Nat), readGo acc s = some n → (∀ c ∈ s, 48 ≤ c ∧ c ≤ 57) ∧ s.foldl (fun a c => a * 10 + (c - 48)) acc = n
  | [], acc, n, e => by cases e; exact ⟨fun c h => (by simp at h), rfl⟩
  | c :: r, acc, n, e => by
    simp only [readGo] at e
    split at e
    · rename_i hd
      obtain ⟨i1, i2⟩ := digits_val r _ n e
      simp only [isDigit, Bool.and_eq_true] at hd
      have h1 := Nat.le_of_ble_eq_true hd.1
      have h2 := Nat.le_of_ble_eq_true hd.2
      refine ⟨fun d hdm => ?_, i2⟩
      rcases List.mem_cons.mp hdm with rfl | hdm
      · exact ⟨h1, h2⟩
      · exact i1 d hdm
    · cases e
theorem c_int : CallR X (.type "int") (rG C gInt) := by
  intro pins s σ H vs us Q I rv ⟨E, γ, h, ws, c, r, q⟩
  unfold gInt at q
  split at q
  · rename_i i
    obtain ⟨v, rfl, r1⟩ := one_rw r
    cases r1
    exact call_int1 pins s σ H _ us Q I rv (.inl ⟨i, rfl, PoE.here q c rfl⟩)
  · rename_i b
    obtain ⟨v, rfl, r1⟩ := one_rw r
    cases r1
    exact call_int1 pins s σ H _ us Q I rv (.inr ⟨b, rfl, by
      have := PoE.here q c (v := .int (b2i b)) rfl
      cases b <;> exact this⟩)
  · rename_i z
    obtain ⟨v, rfl, r1⟩ := one_rw r
    cases r1
    split at q
    · rename_i hz
      split at q
      · rename_i n hn
        unfold readNat at hn
        split at hn
        · cases hn
        · rename_i hne
          obtain ⟨d1, d2⟩ := digits_val z 0 n hn
          have hl : z.length ≤ 600 := Nat.le_of_ble_eq_true hz
          have hls : (mkS z).length ≤ 640 := by show z.toArray.size ≤ 640; rw [List.size_toArray]; omega
          refine call_int_str pins s σ H _ us Q I rv ⟨mkS z, n, rfl, ?_, hls, PoE.here q c rfl⟩
          have e := PySem.intText_digits (x := mkS z) (fun k hk => by
            have := d1 k hk
            exact this) (by intro e; exact hne (by simpa using e)) (by omega)
          rw [e, ← d2]
          rfl
      · exact q.elim
    · exact q.elim
  · exact q.elim
theorem c_abs : CallR X (.builtin "abs") (rG C gAbs) := by
  intro pins s σ H vs us Q I rv ⟨E, γ, h, ws, c, r, q⟩
  unfold gAbs at q
  split at q
  · rename_i i
    obtain ⟨v, rfl, r1⟩ := one_rw r
    cases r1
    exact call_abs pins s σ H _ us Q I rv ⟨i, rfl, PoE.here q c rfl⟩
  · exact q.elim
theorem c_max2 (hc : X.calm = true) : CallR X (.builtin "max") (rG C gMax2) := by
  intro pins s σ H vs us Q I rv ⟨E, γ, h, ws, c, r, q⟩
  unfold gMax2 at q
  split at q
  · rename_i i j
    obtain ⟨v, u, rfl, r1, r2⟩ := two_rw r
    cases r1; cases r2
    exact call_max2 hc pins s σ H _ us Q I rv ⟨i, j, rfl, PoE.here q c rfl⟩
  · exact q.elim
theorem c_min2 (hc : X.calm = true) : CallR X (.builtin "min") (rG C gMin2) := by
  intro pins s σ H vs us Q I rv ⟨E, γ, h, ws, c, r, q⟩
  unfold gMin2 at q
  split at q
  · rename_i i j
    obtain ⟨v, u, rfl, r1, r2⟩ := two_rw r
    cases r1; cases r2
    exact call_min2 hc pins s σ H _ us Q I rv ⟨i, j, rfl, PoE.here q c rfl⟩
  · exact q.elim
theorem c_all (hc : X.calm = true) (hK : C.K = X.K) : CallR X (.builtin "all") (rG C gAll) := by
  intro pins s σ H vs us Q I rv ⟨E, γ, h, ws, c, r, q⟩
  unfold gAll at q
  split at q
  · obtain ⟨v, rfl, r1⟩ := one_rw r
    split at q
    · rename_i xs e
      split at q
      · rename_i bs eb
        obtain ⟨a, vs, rfl, q1, q2⟩ := look_lst c r1 e
        exact cr_all hc pins s σ H _ us Q I rv ⟨a, bs, rfl, by rw [← bls_rw eb q2]; exact .inl q1, PoE.here q c rfl⟩
      · exact q.elim
    · exact q.elim
  · exact q.elim
theorem c_any (hc : X.calm = true) (hK : C.K = X.K) : CallR X (.builtin "any") (rG C gAny) := by
  intro pins s σ H vs us Q I rv ⟨E, γ, h, ws, c, r, q⟩
  unfold gAny at q
  split at q
  · obtain ⟨v, rfl, r1⟩ := one_rw r
    split at q
    · rename_i xs e
      split at q
      · rename_i bs eb
        obtain ⟨a, vs, rfl, q1, q2⟩ := look_lst c r1 e
        exact cr_any hc pins s σ H _ us Q I rv ⟨a, bs, rfl, by rw [← bls_rw eb q2]; exact .inl q1, PoE.here q c rfl⟩
      · exact q.elim
    · exact q.elim
  · exact q.elim
theorem c_list {m : Bool} (hK : C.K = X.K) : CallR X (.type "list") (rG C (gList m)) := by
  intro pins s σ H vs us Q I rv ⟨E, γ, h, ws, c, r, q⟩
  unfold gList at q
  split at q
  · obtain ⟨v, rfl, r1⟩ := one_rw r
    split at q
    · rename_i xs e
      obtain ⟨a, vs, rfl, q1, q2⟩ := look_lst c r1 e
      exact call_list_of pins s σ H _ us Q I rv ⟨a, vs, rfl, .inl (.inl q1), fun l n => PoE.lstMade q c q2 n⟩
    · rename_i xs e
      obtain ⟨a, vs, rfl, q1, q2⟩ := look_tup c r1 e
      exact call_list_of pins s σ H _ us Q I rv ⟨a, vs, rfl, .inr (.inl q1), fun l n => PoE.lstMade q c q2 n⟩
    · exact q.elim
  · exact q.elim
theorem c_tuple (hK : C.K = X.K) : CallR X (.type "tuple") (rG C gTuple) := by
  intro pins s σ H vs us Q I rv ⟨E, γ, h, ws, c, r, q⟩
  unfold gTuple at q
  split at q
  · obtain ⟨v, rfl, r1⟩ := one_rw r
    split at q
    · rename_i xs e
      obtain ⟨a, vs, rfl, q1, q2⟩ := look_lst c r1 e
      exact call_tuple_of pins s σ H _ us Q I rv ⟨a, vs, rfl, .inl ⟨.inl q1, fun l n => PoE.tupNew q c q2 n⟩⟩
    · rename_i w xs e
      obtain ⟨a, vs, rfl, q1, q2⟩ := look_tup c r1 e
      have := look_tupE e
      subst this
      exact call_tuple_of pins s σ H _ us Q I rv ⟨a, vs, rfl, .inr ⟨.inl q1, PoE.here q c r1⟩⟩
    · exact q.elim
  · exact q.elim
theorem c_repr (hu : X.A.units + 65 < cLine) (hgd : X.A.guards = some []) (hK : C.K = X.K) : CallR X (.builtin "repr") (rG C gRepr) := by
  intro pins s σ H vs us Q I rv ⟨E, γ, h, ws, c, r, q⟩
  unfold gRepr at q
  split at q
  · rename_i w
    obtain ⟨v, rfl, r1⟩ := one_rw r
    split at q
    · rename_i t et
      split at q
      · rename_i hz
        rw [Bool.and_eq_true] at hz
        have d := whole_dp c hz.1 r1
        rw [hK] at d
        have sh := repr_shown _ t et
        have ht : (mkS t).length ≤ sizeLine := by
          show t.toArray.size ≤ sizeLine
          rw [List.size_toArray]; exact Nat.le_of_lt (most_line hz.2)
        obtain ⟨u, rfl, ru⟩ := vals1 rv
        have done : ∀ (k : Tok) (h' : Heap) (tk : Nat), (∀ b o, s.heap.get? b = some o → h'.get? b = some o) → EP X pins σ Q (.str (mkS t) k) { s with heap := h', toks := tk } := fun k h' tk kp =>
          ⟨strV t, H, I.kept kp, ⟨k, rfl⟩, PoE.here q c rfl⟩
        have atRef : ∀ a, u = Value.ref a → wpAny (model X.prog X.w) X.A (call (.builtin "repr") [u]) (EP X pins σ Q) X.xe s := fun a e => by
          subst e
          obtain ⟨as, rd⟩ := Dp.reads I _ v _ d.dp ru
          refine PySem.repr_of_reads' rd sh.ok (fun e => by rw [sh.nd] at e; cases e) hgd ?_ (fun _ _ e => e) (fun h' k tk kp => ?_) (by rw [sh.txt]; exact ht)
          · have := d.dep; omega
          · rw [sh.txt]; exact done k h' tk kp
        have st := sh.txt
        cases hw : whole h w with
        | int i =>
          rw [hw] at et st
          cases whole_flatE hw rfl
          cases r1
          obtain ⟨k, rfl⟩ := ru
          have ok := sh.ok
          rw [hw] at ok
          refine PySem.P.repr_of_int (of_decide_eq_true ok) ?_
          rw [show (Str.ofString (toString i)) = mkS t from st]
          exact done _ _ _ fun _ _ e => e
        | str z =>
          rw [hw] at et st
          cases whole_flatE hw rfl
          cases r1
          obtain ⟨k, rfl⟩ := ru
          have st' : reprText (mkS z) = mkS t := st
          refine call_repr_gives (typeIs_str _ _ _) F.slot_str_repr F.entry_str_repr (F.args_str_repr_1 _) (gives_str_repr _ _) ?_ rfl (by rw [st']; exact ht)
          rw [st']
          exact done _ _ _ fun _ _ e => e
        | bl b =>
          rw [hw] at et st
          cases whole_flatE hw rfl
          cases r1
          cases ru
          have st' : (if b then Str.ofString "True" else Str.ofString "False") = mkS t := by
            rw [← st]; cases b <;> rfl
          refine call_repr_gives (x := if b then Str.ofString "True" else Str.ofString "False") rfl F.slot_bool_repr F.entry_bool_repr (F.args_bool_repr_1 _) (gives_bool_repr b) ?_ rfl (by rw [st']; exact ht)
          rw [st']
          exact done _ _ _ fun _ _ e => e
        | non =>
          rw [hw] at et st
          cases whole_flatE hw rfl
          cases r1
          cases ru
          have st' : (Str.ofString "None") = mkS t := st
          refine call_repr_gives (x := Str.ofString "None") rfl F.slot_NoneType_repr F.entry_NoneType_repr (F.args_NoneType_repr_1 _) gives_none_repr ?_ rfl (by rw [st']; exact ht)
          rw [st']
          exact done _ _ _ fun _ _ e => e
        | tup ws =>
          obtain ⟨us, hl, _⟩ := whole_tup hw
          obtain ⟨a, vs, rfl, _⟩ := look_tup c r1 hl
          exact atRef a ru
        | lst ws =>
          obtain ⟨us, hl, _⟩ := whole_lst hw
          obtain ⟨a, vs, rfl, _⟩ := look_lst c r1 hl
          exact atRef a ru
        | dct _ => rw [hw] at et; simp [W.repr] at et
        | obj _ _ _ => rw [hw] at et; simp [W.repr] at et
        | ref _ => rw [hw] at et; simp [W.repr] at et
        | any => rw [hw] at et; simp [W.repr] at et
      · exact q.elim
    · exact q.elim
  · exact q.elim
end
end Ov
/-! isinstance, methods, slices, attributes -/
namespace Ov
open PySem PySem.Spec PyProof.Rows L2
section
variable {C : Cf} {γ : Gh} {h : Hw} {H : Hp}
theorem nodup_get {l : List Addr} (nd : l.Nodup) {i j : Nat} {a : Addr} (h1 : l[i]? = some a) (h2 : l[j]? = some a) : i = j := by
  obtain ⟨l1, e1⟩ := List.getElem?_eq_some_iff.mp h1
  obtain ⟨l2, e2⟩ := List.getElem?_eq_some_iff.mp h2
  exact (List.getElem_inj nd).mp (e1.trans e2.symm)
/-- a list cell is written -/
theorem HC.setL (c : HC C γ h H) {n : Nat} {a : Addr} {ws us : List W} {vs : List V} (i : γ.ι[n]? = some a) (hn : h[n]? = some (.lst ws)) (r : RWs C γ us vs) :
    Keep γ H (upd H a (.lst vs)) ∧ HC C γ (h.set n (.lst us)) (upd H a (.lst vs)) := by
  obtain ⟨fa, xs, ha, _⟩ := c.cell n a _ i hn
  have mem : a ∈ γ.ι := List.mem_of_getElem? i
  refine ⟨⟨fun b o e k => ?_, fun b e => ?_⟩, ⟨by rw [List.length_set]; exact c.len, c.nd, fun m b cc im hm => ?_, fun b ib => ?_, fun b o e => ?_, fun b pb => ?_, fun d y e => ?_⟩⟩
  · by_cases z : b = a
    · subst z; have := k mem; rw [fa] at this; cases this
    · rw [upd_ne z]; exact e
  · by_cases z : b = a
    · subst z; rw [upd_same]; simp
    · rw [upd_ne z]; exact e
  · by_cases z : m = n
    · subst z
      rw [i] at im; cases im
      have hl : m < h.length := (List.getElem?_eq_some_iff.mp hn).1
      rw [List.getElem?_set_self hl] at hm
      cases hm
      exact ⟨fa, vs, upd_same, r⟩
    · rw [List.getElem?_set_ne (Ne.symm z)] at hm
      have za : b ≠ a := fun e => by subst e; exact z (nodup_get c.nd im i)
      have q := c.cell m b cc im hm
      cases cc with
      | lst us => obtain ⟨f, ys, hh, r'⟩ := q; exact ⟨f, ys, by rw [upd_ne za]; exact hh, r'⟩
      | dct _ => exact q
      | obj k ns us =>
        obtain ⟨f, dx, ys, fd, hh, hd, l, r'⟩ := q
        have zd : dx ≠ a := fun e => by subst e; rw [ha] at hd; cases hd
        exact ⟨f, dx, ys, fd, by rw [upd_ne za]; exact hh, by rw [upd_ne zd]; exact hd, l, r'⟩
      | dead => trivial
  · by_cases z : b = a
    · subst z; rw [upd_same]; simp
    · rw [upd_ne z]; exact c.there b ib
  · by_cases z : b = a
    · subst z; rw [fa] at e; cases e
    · rw [upd_ne z]; exact c.frz b o e
  · obtain ⟨p1, p2, p3, p4⟩ := c.prot b pb
    have z : b ≠ a := fun e => by subst e; exact p3 mem
    exact ⟨by rw [upd_ne z]; exact p1, p2, p3, fun d hd => by rw [upd_ne z]; exact p4 d hd⟩
  · have e' : H d = some (.own y) := by
      by_cases z : d = a
      · subst z; rw [upd_same] at e; cases e
      · rw [upd_ne z] at e; exact e
    have := c.own d y e'
    by_cases z : y = a
    · subst z; rw [upd_same]; simp
    · rw [upd_ne z]; exact this
end
/-! ### isinstance with a built-in class -/
def tyName : Ty → String
  | .int => "int" | .bool => "bool" | .str => "str" | .tuple => "tuple" | .list => "list" | .dict => "dict"
section
variable {X : Cx} {C : Cf} {a b o e : Expr} {es : List Expr} {cl : CL} {Wx : WX} {xa xb xo : Ex} {xs : Exs} {pos p : Pos}
theorem isi_ty {γ : Gh} {h : Hw} {H : Hp} {w : W} {v : V} {t : Ty} {b : Bool} (hK : C.K = X.K) (c : HC C γ h H) (r : RW C γ w v) (e : gIsTy t [w] h = .ok (.bl b) h) : ∃ tv, TyX X.K H v tv ∧ PySem.W.kitOne X.K tv (.type (tyName t)) = some b := by
  have tab : ∀ s : String, s ∈ ["NoneType", "bool", "int", "str", "tuple", "list"] → ∀ t : Ty, kitB s (tyName t) = some (match s, t with
      | "bool", .bool => true | "bool", .int => true | "int", .int => true | "str", .str => true | "tuple", .tuple => true | "list", .list => true | _, _ => false) := by
    intro s hs t
    simp only [List.mem_cons, List.mem_nil_iff, or_false] at hs
    rcases hs with rfl | rfl | rfl | rfl | rfl | rfl <;> cases t <;> decide +kernel
  unfold gIsTy at e
  dsimp only at e
  cases hl : look h w with
  | non =>
    rw [hl] at e; have := look_flat hl trivial; subst this; cases r
    refine ⟨_, .base .non, kit_ty ((tab "NoneType" (by simp) t).trans ?_)⟩
    cases t <;> cases e <;> rfl
  | bl x =>
    rw [hl] at e; have := look_flat hl trivial; subst this; cases r
    refine ⟨_, .base (.bl _), kit_ty ((tab "bool" (by simp) t).trans ?_)⟩
    cases t <;> cases e <;> rfl
  | int x =>
    rw [hl] at e; have := look_flat hl trivial; subst this; cases r
    refine ⟨_, .base (.int _), kit_ty ((tab "int" (by simp) t).trans ?_)⟩
    cases t <;> cases e <;> rfl
  | str x =>
    rw [hl] at e; have := look_flat hl trivial; subst this; cases r
    refine ⟨_, .base (.str _), kit_ty ((tab "str" (by simp) t).trans ?_)⟩
    cases t <;> cases e <;> rfl
  | tup xs =>
    rw [hl] at e
    obtain ⟨a, vs, rfl, q1, q2⟩ := look_tup c r hl
    have ty : TyX X.K H (.ref a) (.type "tuple") := by
      rcases q1 with q | ⟨ob, q⟩
      · exact .base (.tup q)
      · exact .fTuple q
    refine ⟨_, ty, kit_ty ((tab "tuple" (by simp) t).trans ?_)⟩
    cases t <;> cases e <;> rfl
  | lst xs =>
    rw [hl] at e
    obtain ⟨a, vs, rfl, q1, q2⟩ := look_lst c r hl
    have ty : TyX X.K H (.ref a) (.type "list") := by
      rcases q1 with q | ⟨ob, q⟩
      · exact .base (.lst q)
      · exact .base (.frz q)
    refine ⟨_, ty, kit_ty ((tab "list" (by simp) t).trans ?_)⟩
    cases t <;> cases e <;> rfl
  | dct _ => rw [hl] at e; cases e
  | obj _ _ _ => rw [hl] at e; cases e
  | ref _ => rw [hl] at e; cases e
  | any => rw [hl] at e; cases e
theorem gIsTy_out {t : Ty} {w : W} {h : Hw} : gIsTy t [w] h = .no ∨ ∃ b, gIsTy t [w] h = .ok (.bl b) h := by
  unfold gIsTy
  dsimp only
  split <;> first | exact .inl rfl | exact .inr ⟨_, rfl⟩
theorem pv_isTy (hK : C.K = X.K) {ty : Str} {t : Ty} {p2 : Pos} (hg : Gl X "isinstance") (hm : X.mg "isinstance" = none) (hg2 : Gl X ty) (hm2 : X.mg ty = none) (hv2 : bootBuiltins ty = some (.type (tyName t))) (hn2 : ty ≠ "__name__") (hd2 : (ty == ("__debug__" : Str)) = false)
    (ha : PE X a (tev C cl Wx xa)) (he : starEach [a, .Name ty p2] X.env = (false, eval a X.env) :: starEach [.Name ty p2] X.env) (he2 : starEach [.Name ty p2] X.env = (false, eval (.Name ty p2) X.env) :: starEach [] X.env) (hpl : (backTo pos (starEach [.Name ty p2] X.env)).any (·.1) = false) :
    PE X (.Call (.Name "isinstance" p) [a, .Name ty p2] [] pos) (tev C cl Wx (xF (gIsTy t) (xsCons xa xsNil))) := by
  have hv : bootBuiltins "isinstance" = some (.builtin "isinstance") := by decide +kernel
  refine PE.imp (pe_callB call_isi hg hm hv (pa_cons ha (pa_cons (pe_bltn (v := .ty (tyName t)) hg2 hm2 hv2 rfl hn2 hd2) pa_nil he2) he) (by decide) (by decide) he hpl) fun σ H Q tt => ?_
  obtain ⟨γ, σw, h, sl, hc, q⟩ := tt
  refine ⟨γ, σw, h, sl, hc, ?_⟩
  unfold xF xsCons xsNil at q
  cases ea : xa cl σw h with
  | ok w h1 =>
    rw [ea] at q
    intro γ1 v H1 e1 k1 c1 r1
    have q1 := PoE.step q e1 k1
    dsimp only [R.bind] at q1
    rcases gIsTy_out (t := t) (w := w) (h := h1) with z | ⟨bb, z⟩
    · rw [z] at q1; exact q1.elim
    · rw [z] at q1
      obtain ⟨tv, y1, y2⟩ := isi_ty hK c1 r1 z
      exact ⟨v, .ty (tyName t), tv, .type (tyName t), bb, rfl, .ty _, y1, y2, PoE.here q1 c1 rfl⟩
  | exn c aa h1 => rw [ea] at q; exact q
  | no => rw [ea] at q; exact q
/-! ### methods -/
def rM (C : Cf) (g : Gm) : V → List V → Hp → VK → Prop := fun x vs H Q => ∃ E γ h w ws, HC C γ h H ∧ RW C γ w x ∧ RWs C γ ws vs ∧ PoE C γ H (g w ws h) Q E
def kdT : Kd → String
  | .str => "str" | .list => "list"
theorem kd_ty {γ : Gh} {h : Hw} {H : Hp} {w : W} {x : V} {k : Kd} (hK : C.K = X.K) (c : HC C γ h H) (r : RW C γ w x) (e : isKd k (look h w) = true) : tyV X.K (kdT k) x H := by
  cases hl : look h w with
  | str s => rw [hl] at e; have := look_flat hl trivial; subst this; cases r; cases k <;> first | (cases e; done) | rfl
  | lst xs =>
    rw [hl] at e
    obtain ⟨a, vs, rfl, q1, q2⟩ := look_lst c r hl
    cases k with
    | str => cases e
    | list => exact .inl ⟨rfl, vs, .inl q1⟩
  | _ => rw [hl] at e; cases k <;> cases e
theorem pv_M {k : Kd} {g : Gm} {name : Str} {id : String} {apos cpos : Pos} (hK : C.K = X.K) (pa : PlainAttrs (kdT k)) (slot : Slot (kdT k) name id) (hty : typeOf (.builtin id) = pure (.type "method_descriptor")) (hm : MtR X id (rM C g)) (ho : PE X o (tev C cl Wx xo)) (ha : PA X (e :: es) (tes C cl Wx xs))
    (hbase : attributeBase o name X.env (eval o X.env) = eval o X.env)
    (hfew : ((backTo cpos (starEach (e :: es) X.env)).all (fun x => !x.1) && (backToKw cpos (keywordEach [] X.env)).all (fun x => x.1.isSome)
      && decide ((e :: es).length + ([] : List Keyword).length + (if ([] : List Keyword).isEmpty then 0 else 1) < 30)) = true)
    (hline : (apos.endLine == cpos.line) = true) (hs : starEach (e :: es) X.env = (false, eval e X.env) :: starEach es X.env) (hplain : (backTo cpos (starEach es X.env)).any (·.1) = false) :
    PE X (.Call (.Attribute o name apos) (e :: es) [] cpos) (tev C cl Wx (xM k g xo xs)) := by
  refine PE.imp (pe_bm pa slot hty hm ho ha hbase hfew hline hs hplain) fun σ H Q t => ?_
  refine (tev1s (f := fun x σ h1 => if isKd k (look h1 x) then (xs cl σ h1).bind fun ws h2 => g x ws h2 else .no) t).imp fun x H1 ⟨γ, σw, h, w, sl, hc, r, q⟩ => ?_
  dsimp only at q
  split at q
  · rename_i z
    refine ⟨kd_ty hK hc r z, γ, σw, h, sl, hc, ?_⟩
    cases ea : xs cl σw h with
    | ok ws h1 =>
      rw [ea] at q
      intro γ1 vs H2 e1 k1 c1 r1
      exact ⟨_, γ1, h1, w, ws, c1, e1.rw r, r1, PoE.step q e1 k1⟩
    | exn c aa h1 => rw [ea] at q; exact q
    | no => rw [ea] at q; exact q
  · exact q.elim
theorem m_append : MtR X "list.append" (rM C mAppend) := by
  intro pins s σ H x vs v us Q I rx rv ⟨E, γ, h, w, ws, c, r, rs, q⟩
  unfold mAppend at q
  split at q
  · rename_i n y
    split at q
    · rename_i xs hn
      split at q
      · rename_i hz
        obtain ⟨a, rfl, i⟩ := r
        obtain ⟨u, rfl, r1⟩ := one_rw rs
        obtain ⟨fa, ys, ha, rys⟩ := c.cell n a _ i hn
        obtain ⟨k, c'⟩ := c.setL i hn (rys.append (RWs.cons r1 RWs.nil))
        refine mt_append pins s σ H _ _ v us Q I rx rv ⟨a, ys, u, rfl, rfl, ha, by rw [← rys.length]; exact most_line hz, ?_⟩
        exact q γ _ _ (Ext.refl _ _) k c' rfl
      · exact q.elim
    · exact q.elim
  · exact q.elim
theorem m_split {m : Bool} : MtR X "str.split" (rM C (mSplit m)) := by
  intro pins s σ H x vs v us Q I rx rv ⟨E, γ, h, w, ws, c, r, rs, q⟩
  unfold mSplit at q
  split at q
  · rename_i z k
    split at q
    · rename_i hz
      cases r
      obtain ⟨u, rfl, r1⟩ := one_rw rs
      cases r1
      refine mt_split pins s σ H _ _ v us Q I rx rv ⟨mkS z, mkS [k], rfl, rfl, rfl, ?_, fun p n => ?_⟩
      · have : z.length < most := Nat.le_of_ble_eq_true hz
        show z.toArray.size + 2 ≤ sizeLine
        rw [List.size_toArray, sizeLine_eq]; unfold most at this; omega
      · rw [split_mkS]
        exact PoE.lstMade q c (strs_made _) n
    · exact q.elim
  · exact q.elim
theorem sum_len (ss : List (List Nat)) : ((ss.map mkS).map (·.length)).sum = (ss.map (·.length)).sum := by
  rw [List.map_map]
  congr 1
theorem m_join : MtR X "str.join" (rM C mJoin) := by
  intro pins s σ H x vs v us Q I rx rv ⟨E, γ, h, w, ws, c, r, rs, q⟩
  unfold mJoin at q
  split at q
  · rename_i z y
    split at q
    · rename_i xs e
      split at q
      · rename_i ss es
        split at q
        · rename_i hz
          cases r
          obtain ⟨u, rfl, r1⟩ := one_rw rs
          obtain ⟨a, vs, rfl, q1, q2⟩ := look_lst c r1 e
          have ev := strs_rw es q2
          subst ev
          refine mt_join pins s σ H _ _ v us Q I rx rv ⟨mkS z, a, ss.map mkS, rfl, rfl, .inl (.inl q1), ?_, ?_⟩
          · have hz' : (ss.map (·.length)).sum + ss.length * z.length < most := Nat.le_of_ble_eq_true hz
            rw [sum_len, List.length_map]
            show _ + ss.length * z.toArray.size ≤ _
            rw [List.size_toArray]; unfold most at hz'; omega
          · rw [glued_join, join_mkS]
            exact PoE.here q c rfl
        · exact q.elim
      · exact q.elim
    · exact q.elim
  · exact q.elim
end
end Ov
/-! what is walked -/
namespace Ov
open PySem PySem.Spec PyProof.Rows L2
/-- a later ghost -/
structure Mor (γ γ' : Gh) : Prop where
  ix : ∀ (n : Nat) (a : Addr), γ.ι[n]? = some a → γ'.ι[n]? = some a
  frz : ∀ a o, γ.F a = some o → γ'.F a = some o
theorem Mor.refl (γ : Gh) : Mor γ γ := ⟨fun _ _ h => h, fun _ _ h => h⟩
theorem Mor.trans {γ γ1 γ2 : Gh} (a : Mor γ γ1) (b : Mor γ1 γ2) : Mor γ γ2 := ⟨fun n x h => b.ix n x (a.ix n x h), fun x o h => b.frz x o (a.frz x o h)⟩
theorem Ext.mor {γ γ' : Gh} {H : Hp} (e : Ext γ γ' H) : Mor γ γ' := ⟨e.ix, e.frz⟩
section
variable {C : Cf} {γ γ' : Gh}
theorem Mor.rw (m : Mor γ γ') {w : W} {v : V} (r : RW C γ w v) : RW C γ' w v := RW.mono m.ix m.frz w v r
theorem Mor.rws (m : Mor γ γ') {w : List W} {v : List V} (r : RWs C γ w v) : RWs C γ' w v := RWs.mono m.ix m.frz w v r
theorem Mor.sl (m : Mor γ γ') {w : Sw} {v : L2.St} (r : SL C γ w v) : SL C γ' w v := ⟨r.1, fun i w h => let ⟨v, a, b⟩ := r.2 i w h; ⟨v, a, m.rw b⟩⟩
end
/-- J walks the items xs while chk stands -/
structure Wk (C : Cf) (γ0 : Gh) (J : It) (xs : List W) (chk : Hw → Bool) : Prop where
  goes : ∀ γ h H i, Mor γ0 γ → HC C γ h H → chk h = true → i < xs.length → J.go i H
  stops : ∀ γ h H, Mor γ0 γ → HC C γ h H → chk h = true → J.stop xs.length H
  yields : ∀ γ h H i w x H', Mor γ0 γ → HC C γ h H → chk h = true → xs[i]? = some w → J.yld i H x H' → ∃ γ', Ext γ γ' H ∧ Keep γ H H' ∧ HC C γ' h H' ∧ RW C γ' w x
theorem Wk.mor {C : Cf} {γ0 γ1 : Gh} {J : It} {xs : List W} {chk : Hw → Bool} (w : Wk C γ0 J xs chk) (m : Mor γ0 γ1) : Wk C γ1 J xs chk :=
  ⟨fun γ h H i a => w.goes γ h H i (m.trans a), fun γ h H a => w.stops γ h H (m.trans a), fun γ h H i u x H' a => w.yields γ h H i u x H' (m.trans a)⟩
mutual
theorem same_eq : ∀ (a b : W), W.same a b = true → a = b
  | .non, b, h => by cases b <;> first | rfl | cases h
  | .bl x, b, h => by
    cases b <;> first | (cases h; done) | skip
    rw [show x = _ from by simpa [W.same] using h]
  | .int x, b, h => by
    cases b <;> first | (cases h; done) | skip
    rw [show x = _ from by simpa [W.same] using h]
  | .str x, b, h => by
    cases b <;> first | (cases h; done) | skip
    rw [show x = _ from by simpa [W.same, seqNat_iff] using h]
  | .tup xs, b, h => by
    cases b <;> first | (cases h; done) | skip
    rw [sames_eq xs _ h]
  | .lst xs, b, h => by
    cases b <;> first | (cases h; done) | skip
    rw [sames_eq xs _ h]
  | .dct xs, b, h => by
    cases b <;> first | (cases h; done) | skip
    rw [sames_eq xs _ h]
  | .obj c ns xs, b, h => by
    cases b <;> first | (cases h; done) | skip
    simp only [W.same, Bool.and_eq_true, seqNat_iff, decide_eq_true_eq] at h
    obtain ⟨⟨h1, h2⟩, h3⟩ := h
    have e : c = _ := Nat.eq_of_beq_eq_true h1
    rw [sames_eq xs _ h3, h2, e]
  | .ref n, b, h => by
    cases b <;> first | (cases h; done) | skip
    have e : n = _ := Nat.eq_of_beq_eq_true h
    rw [e]
  | .any, b, h => by cases b <;> cases h
theorem sames_eq : ∀ (a b : List W), W.sames a b = true → a = b
  | [], [], _ => rfl
  | [], _ :: _, h => by cases h
  | _ :: _, [], h => by cases h
  | x :: xs, y :: ys, h => by
    simp only [W.sames, Bool.and_eq_true] at h
    rw [same_eq x y h.1, sames_eq xs ys h.2]
end
theorem cell_same {c d : Cell} (h : Cell.same c d = true) : c = d := by
  cases c <;> cases d <;> first | (cases h; done) | skip
  · rw [sames_eq _ _ h]
  · rw [sames_eq _ _ h]
  · simp only [Cell.same, Bool.and_eq_true, seqNat_iff, decide_eq_true_eq] at h
    obtain ⟨⟨h1, h2⟩, h3⟩ := h
    rw [sames_eq _ _ h3, h2, Nat.eq_of_beq_eq_true h1]
theorem stands_get {h0 h : Hw} : ∀ {ws : List W} {n : Nat} {c : Cell}, stands h0 h ws = true → .ref n ∈ ws → h0[n]? = some c → h[n]? = some c
  | [], _, _, _, m, _ => by cases m
  | w :: ws, n, c, s, m, e => by
    rcases List.mem_cons.mp m with m | m
    · subst m
      simp only [stands, Bool.and_eq_true] at s
      have s1 := s.1
      rw [e] at s1
      cases e2 : h[n]? with
      | none => rw [e2] at s1; cases s1
      | some d => rw [e2] at s1; rw [cell_same s1]
    · have : stands h0 h ws = true := by
        cases w <;> first | exact s | skip
        simp only [stands, Bool.and_eq_true] at s
        exact s.2
      exact stands_get this m e
section
variable {C : Cf} {γ0 : Gh} {h0 : Hw} {H0 : Hp} {w : W} {v : V} {ws : List W}
theorem lst_at {xs : List W} (c : HC C γ0 h0 H0) (r : RW C γ0 w v) (e : look h0 w = .lst xs) (m : w ∈ ws) : ∃ a, v = .ref a ∧ ∀ γ h H, Mor γ0 γ → HC C γ h H → stands h0 h ws = true → ∃ vs, Rd H a (.lst vs) ∧ RWs C γ xs vs := by
  cases w with
  | lst us =>
    cases e
    obtain ⟨a, vs, rfl, q1, q2⟩ := r
    exact ⟨a, rfl, fun γ h H mo hc _ => ⟨vs, RdM hc.frz (RdM mo.frz q1), mo.rws q2⟩⟩
  | ref n =>
    obtain ⟨a, rfl, i⟩ := r
    simp only [look] at e
    cases hn : h0[n]? with
    | none => rw [hn] at e; cases e
    | some cc =>
      rw [hn] at e
      cases cc with
      | lst us =>
        cases e
        refine ⟨a, rfl, fun γ h H mo hc st => ?_⟩
        obtain ⟨_, vs, q, rr⟩ := hc.cell n a _ (mo.ix _ _ i) (stands_get st m hn)
        exact ⟨vs, .inl q, rr⟩
      | _ => cases e
  | _ => simp [look] at e
theorem tup_at {xs : List W} (r : RW C γ0 w v) (e : look h0 w = .tup xs) : ∃ a, v = .ref a ∧ ∀ γ h H, Mor γ0 γ → HC C γ h H → ∃ vs, Rd H a (.tup vs) ∧ RWs C γ xs vs := by
  have := look_tupE e
  subst this
  obtain ⟨a, vs, rfl, q1, q2⟩ := r
  exact ⟨a, rfl, fun γ h H mo hc => ⟨vs, RdM hc.frz (RdM mo.frz q1), mo.rws q2⟩⟩
end
section
variable {C : Cf} {γ0 : Gh} {K : PySem.W.Frag} {a b : Addr} {xs ys : List W} {chk : Hw → Bool}
def LAt (C : Cf) (γ0 : Gh) (a : Addr) (xs : List W) (chk : Hw → Bool) : Prop := ∀ γ h H, Mor γ0 γ → HC C γ h H → chk h = true → ∃ vs, Rd H a (.lst vs) ∧ RWs C γ xs vs
def TAt (C : Cf) (γ0 : Gh) (a : Addr) (xs : List W) (chk : Hw → Bool) : Prop := ∀ γ h H, Mor γ0 γ → HC C γ h H → chk h = true → ∃ vs, Rd H a (.tup vs) ∧ RWs C γ xs vs
theorem get_lt {vs : List V} {i : Nat} (h : i < vs.length) : vs[i]? = some vs[i] := by simp [h]
theorem wk_list (l : LAt C γ0 a xs chk) : Wk C γ0 (Itl K a) xs chk := by
  refine ⟨fun γ h H i mo hc ck hi => ?_, fun γ h H mo hc ck => ?_, fun γ h H i w x H' mo hc ck e y => ?_⟩
  · obtain ⟨vs, q, r⟩ := l γ h H mo hc ck
    exact ⟨vs, vs[i]'(by rw [← r.length]; exact hi), .inl q, get_lt _⟩
  · obtain ⟨vs, q, r⟩ := l γ h H mo hc ck
    exact ⟨vs, .inl q, by rw [← r.length]; exact Nat.le_refl _⟩
  · obtain ⟨vs, q, r⟩ := l γ h H mo hc ck
    obtain ⟨v, e1, e2⟩ := r.get e
    obtain ⟨rfl, y⟩ := y
    have := y vs (.inl q)
    rw [e1] at this; cases this
    exact ⟨γ, Ext.refl _ _, Keep.refl _ _, hc, e2⟩
theorem wk_tup (l : TAt C γ0 a xs chk) : Wk C γ0 (Itt K a) xs chk := by
  refine ⟨fun γ h H i mo hc ck hi => ?_, fun γ h H mo hc ck => ?_, fun γ h H i w x H' mo hc ck e y => ?_⟩
  · obtain ⟨vs, q, r⟩ := l γ h H mo hc ck
    exact ⟨vs, vs[i]'(by rw [← r.length]; exact hi), .inl q, get_lt _⟩
  · obtain ⟨vs, q, r⟩ := l γ h H mo hc ck
    exact ⟨vs, .inl q, by rw [← r.length]; exact Nat.le_refl _⟩
  · obtain ⟨vs, q, r⟩ := l γ h H mo hc ck
    obtain ⟨v, e1, e2⟩ := r.get e
    obtain ⟨rfl, y⟩ := y
    have := y vs (.inl q)
    rw [e1] at this; cases this
    exact ⟨γ, Ext.refl _ _, Keep.refl _ _, hc, e2⟩
theorem range_len : ∀ (n : Nat) (lo : Int), (rangeGo lo n).length = n
  | 0, _ => rfl
  | n + 1, lo => by rw [rangeGo, List.length_cons, range_len n]
theorem range_get : ∀ (n : Nat) (lo : Int) (i : Nat) (w : W), (rangeGo lo n)[i]? = some w → w = .int (lo + i)
  | 0, _, _, _, e => by simp [rangeGo] at e
  | n + 1, lo, 0, w, e => by simp [rangeGo] at e; subst e; simp
  | n + 1, lo, i + 1, w, e => by
    have := range_get n (lo + 1) i w (by simpa [rangeGo] using e)
    subst this
    congr 1
    omega
theorem wk_range {lo : Int} {n : Nat} : Wk C γ0 (Itr lo n) (rangeGo lo n) chk := by
  refine ⟨fun γ h H i mo hc ck hi => by rw [range_len] at hi; exact hi, fun γ h H mo hc ck => by rw [range_len]; exact Nat.le_refl _, fun γ h H i w x H' mo hc ck e y => ?_⟩
  obtain ⟨rfl, rfl⟩ := y
  have := range_get n lo i w e
  subst this
  exact ⟨γ, Ext.refl _ _, Keep.refl _ _, hc, rfl⟩
theorem wk_str {s : List Nat} : Wk C γ0 (Its (mkS s)) (signs s) chk := by
  have sz : (mkS s).cps.size = (signs s).length := by simp [mkS, signs]
  refine ⟨fun γ h H i mo hc ck hi => by show i < (mkS s).cps.size; rw [sz]; exact hi, fun γ h H mo hc ck => by show (mkS s).cps.size ≤ _; rw [sz]; exact Nat.le_refl _, fun γ h H i w x H' mo hc ck e y => ?_⟩
  obtain ⟨rfl, c, e1, rfl⟩ := y
  have e1' : s[i]? = some c := by simpa [mkS] using e1
  have : w = .str [c] := by
    simp only [signs, List.getElem?_map, e1', Option.map_some, Option.some.injEq] at e
    exact e.symm
  subst this
  exact ⟨γ, Ext.refl _ _, Keep.refl _ _, hc, rfl⟩
theorem num_len : ∀ (xs : List W) (k : Int), (numFrom k xs).length = xs.length
  | [], _ => rfl
  | x :: r, k => by rw [numFrom, List.length_cons, num_len r, List.length_cons]
theorem num_get : ∀ (xs : List W) (k : Int) (i : Nat) (w : W), (numFrom k xs)[i]? = some w → ∃ u, xs[i]? = some u ∧ w = .tup [.int (k + i), u]
  | [], _, _, _, e => by simp [numFrom] at e
  | x :: r, k, 0, w, e => by simp [numFrom] at e; subst e; exact ⟨x, rfl, by simp⟩
  | x :: r, k, i + 1, w, e => by
    obtain ⟨u, e1, e2⟩ := num_get r (k + 1) i w (by simpa [numFrom] using e)
    subst e2
    refine ⟨u, by simpa using e1, ?_⟩
    congr 3
    omega
theorem wk_enum (l : LAt C γ0 a xs chk) : Wk C γ0 (Ite K a) (numFrom 0 xs) chk := by
  refine ⟨fun γ h H i mo hc ck hi => ?_, fun γ h H mo hc ck => ?_, fun γ h H i w x H' mo hc ck e y => ?_⟩
  · obtain ⟨vs, q, r⟩ := l γ h H mo hc ck
    rw [num_len] at hi
    exact ⟨vs, vs[i]'(by rw [← r.length]; exact hi), .inl q, get_lt _⟩
  · obtain ⟨vs, q, r⟩ := l γ h H mo hc ck
    exact ⟨vs, .inl q, by rw [← r.length, num_len]; exact Nat.le_refl _⟩
  · obtain ⟨vs, q, r⟩ := l γ h H mo hc ck
    obtain ⟨u, e1, rfl⟩ := num_get xs 0 i w e
    obtain ⟨v, e2, rv⟩ := r.get e1
    obtain ⟨T, z, rfl, n, rfl, y⟩ := y
    have := y vs (.inl q)
    rw [e2] at this; cases this
    refine hc.layT n (RWs.cons ?_ (RWs.cons rv RWs.nil))
    show V.int (i : Nat) = V.int (0 + (i : Nat))
    rw [Int.zero_add]
theorem zip_len : ∀ (xs ys : List W), (zipW xs ys).length = min xs.length ys.length
  | [], _ => by simp [zipW]
  | _ :: _, [] => by simp [zipW]
  | x :: r, y :: t => by
    rw [zipW, List.length_cons, zip_len r t, List.length_cons, List.length_cons]
    omega
theorem zip_get : ∀ (xs ys : List W) (i : Nat) (w : W), (zipW xs ys)[i]? = some w → ∃ u v, xs[i]? = some u ∧ ys[i]? = some v ∧ w = .tup [u, v]
  | [], _, _, _, e => by simp [zipW] at e
  | _ :: _, [], _, _, e => by simp [zipW] at e
  | x :: r, y :: t, 0, w, e => by simp [zipW] at e; subst e; exact ⟨x, y, rfl, rfl, rfl⟩
  | x :: r, y :: t, i + 1, w, e => by
    obtain ⟨u, v, e1, e2, e3⟩ := zip_get r t i w (by simpa [zipW] using e)
    exact ⟨u, v, by simpa using e1, by simpa using e2, e3⟩
theorem wk_zip (l : LAt C γ0 a xs chk) (l2 : LAt C γ0 b ys chk) : Wk C γ0 (Itz K a b) (zipW xs ys) chk := by
  refine ⟨fun γ h H i mo hc ck hi => ?_, fun γ h H mo hc ck => ?_, fun γ h H i w x H' mo hc ck e y => ?_⟩
  · obtain ⟨vs, q, r⟩ := l γ h H mo hc ck
    obtain ⟨us, q2, r2⟩ := l2 γ h H mo hc ck
    rw [zip_len] at hi
    have h1 : i < vs.length := by rw [← r.length]; omega
    have h2 : i < us.length := by rw [← r2.length]; omega
    exact ⟨vs, us, vs[i], us[i], .inl q, .inl q2, get_lt h1, get_lt h2⟩
  · obtain ⟨vs, q, r⟩ := l γ h H mo hc ck
    obtain ⟨us, q2, r2⟩ := l2 γ h H mo hc ck
    exact ⟨vs, us, .inl q, .inl q2, by rw [← r.length, ← r2.length, zip_len]; omega⟩
  · obtain ⟨vs, q, r⟩ := l γ h H mo hc ck
    obtain ⟨us, q2, r2⟩ := l2 γ h H mo hc ck
    obtain ⟨u, v, e1, e2, rfl⟩ := zip_get xs ys i w e
    obtain ⟨p1, f1, g1⟩ := r.get e1
    obtain ⟨p2, f2, g2⟩ := r2.get e2
    obtain ⟨T, z, z2, rfl, n, rfl, y1, y2⟩ := y
    have := y1 vs (.inl q)
    rw [f1] at this; cases this
    have := y2 us (.inl q2)
    rw [f2] at this; cases this
    exact hc.layT n (RWs.cons g1 (RWs.cons g2 RWs.nil))
theorem wk_zipT (l : TAt C γ0 a xs chk) (l2 : TAt C γ0 b ys chk) : Wk C γ0 (RZ.ItzT K a b) (zipW xs ys) chk := by
  refine ⟨fun γ h H i mo hc ck hi => ?_, fun γ h H mo hc ck => ?_, fun γ h H i w x H' mo hc ck e y => ?_⟩
  · obtain ⟨vs, q, r⟩ := l γ h H mo hc ck
    obtain ⟨us, q2, r2⟩ := l2 γ h H mo hc ck
    rw [zip_len] at hi
    have h1 : i < vs.length := by rw [← r.length]; omega
    have h2 : i < us.length := by rw [← r2.length]; omega
    exact ⟨vs, us, vs[i], us[i], .inl q, .inl q2, get_lt h1, get_lt h2⟩
  · obtain ⟨vs, q, r⟩ := l γ h H mo hc ck
    obtain ⟨us, q2, r2⟩ := l2 γ h H mo hc ck
    exact ⟨vs, us, .inl q, .inl q2, by rw [← r.length, ← r2.length, zip_len]; omega⟩
  · obtain ⟨vs, q, r⟩ := l γ h H mo hc ck
    obtain ⟨us, q2, r2⟩ := l2 γ h H mo hc ck
    obtain ⟨u, v, e1, e2, rfl⟩ := zip_get xs ys i w e
    obtain ⟨p1, f1, g1⟩ := r.get e1
    obtain ⟨p2, f2, g2⟩ := r2.get e2
    obtain ⟨T, z, z2, rfl, n, rfl, y1, y2⟩ := y
    have := y1 vs (.inl q)
    rw [f1] at this; cases this
    have := y2 us (.inl q2)
    rw [f2] at this; cases this
    exact hc.layT n (RWs.cons g1 (RWs.cons g2 RWs.nil))
end
/-! ### sources -/
def PoI (C : Cf) (γ : Gh) (H : Hp) (r : R (List W × List W)) (Rr : It → Hp → Prop) (E : XK) : Prop :=
  match r with
  | .ok p h => ∀ γ' J H', Ext γ γ' H → Keep γ H H' → HC C γ' h H' → Wk C γ' J p.2 (fun h' => stands h h' p.1) → Rr J H'
  | .exn c a h => ∀ γ' H' cls d, Ext γ γ' H → Keep γ H H' → HC C γ' h H' → RX C γ' H' c a cls d → E cls d H'
  | .no => False
def tit (C : Cf) (cl : CL) (Wx : WX) (k : IK) (its : Exs) : TI := fun σ H Rr => ∃ γ σw h, SL C γ σw σ ∧ HC C γ h H ∧ PoI C γ H (src k its cl σw h) Rr (fun cls d H' => Wx cls d σ H')
section
variable {X : Cx} {C : Cf} {cl : CL} {Wx : WX} {tg e e2 : Expr} {xe : Ex} {xs : Exs} {p pos tpos : Pos} {elts : List Expr} {kk : Nat}
theorem PI.imp {e : Expr} {t t' : TI} (h : PI X tg e t) (i : ∀ σ H Q, t' σ H Q → t σ H Q) : PI X tg e t' := ⟨fun pins s σ H Q I hw => h.run pins s σ H Q I (i σ H Q hw)⟩
theorem src_inv {k : IK} {γ : Gh} {σw : Sw} {h : Hw} {H : Hp} {Rr : It → Hp → Prop} {E : XK} (q : PoI C γ H (src k xs cl σw h) Rr E) :
    (∃ ws h1 us, xs cl σw h = .ok ws h1 ∧ walked k (ws.map (look h1)) = some us ∧ Nat.blt us.length most = true ∧ ∀ γ' J H', Ext γ γ' H → Keep γ H H' → HC C γ' h1 H' → Wk C γ' J us (fun h' => stands h1 h' ws) → Rr J H') ∨
    (∃ c a h1, xs cl σw h = .exn c a h1 ∧ ∀ γ' H' cls d, Ext γ γ' H → Keep γ H H' → HC C γ' h1 H' → RX C γ' H' c a cls d → E cls d H') := by
  unfold src at q
  cases ea : xs cl σw h with
  | ok ws h1 =>
    rw [ea] at q
    dsimp only [R.bind] at q
    cases hw : walked k (ws.map (look h1)) with
    | none => rw [hw] at q; exact q.elim
    | some us =>
      rw [hw] at q
      dsimp only at q
      cases hb : Nat.blt us.length most with
      | false => rw [hb] at q; exact q.elim
      | true => rw [hb] at q; exact .inl ⟨ws, h1, us, rfl, hw, hb, q⟩
  | exn c a h1 => rw [ea] at q; exact .inr ⟨c, a, h1, rfl, q⟩
  | no => rw [ea] at q; exact q.elim
theorem one_inv {σw : Sw} {h h1 : Hw} {ws : List W} (e : xsCons xe xsNil cl σw h = .ok ws h1) : ∃ w, xe cl σw h = .ok w h1 ∧ ws = [w] := by
  unfold xsCons xsNil at e
  cases ea : xe cl σw h with
  | ok w h2 => rw [ea] at e; cases e; exact ⟨w, rfl, rfl⟩
  | exn c a h2 => rw [ea] at e; cases e
  | no => rw [ea] at e; cases e
theorem one_invX {σw : Sw} {h h1 : Hw} {c : Nat} {a : Option W} (e : xsCons xe xsNil cl σw h = .exn c a h1) : xe cl σw h = .exn c a h1 := by
  unfold xsCons xsNil at e
  cases ea : xe cl σw h with
  | ok w h2 => rw [ea] at e; cases e
  | exn c a h2 => rw [ea] at e; cases e; rfl
  | no => rw [ea] at e; cases e
theorem piv_seq (ha : PE X e (tev C cl Wx xe)) : PI X tg e (tit C cl Wx .seq (xsCons xe xsNil)) := by
  refine ⟨fun pins s σ H Rr I ⟨γ, σw, h, sl, hc, q⟩ => ?_⟩
  rcases src_inv q with ⟨ws, h1, us, ex, ew, _, z⟩ | ⟨c, a, h1, ex, z⟩
  · obtain ⟨w, ea, rfl⟩ := one_inv ex
    cases hl : look h1 w with
    | lst ys =>
      simp only [List.map, hl, walked] at ew
      cases ew
      refine (pi_list (tg := tg) ha).run pins s σ H Rr I ⟨γ, σw, h, sl, hc, ?_⟩
      rw [ea]
      intro γ1 v H1 e1 k1 c1 r1
      obtain ⟨a, rfl, l⟩ := lst_at (ws := [w]) c1 r1 hl (List.mem_singleton.mpr rfl)
      obtain ⟨a', vs, e', q1, q2⟩ := look_lst c1 r1 hl
      cases e'
      exact ⟨a, rfl, ⟨vs, .inl q1⟩, z γ1 _ _ e1 k1 c1 (wk_list l)⟩
    | tup ys =>
      simp only [List.map, hl, walked] at ew
      cases ew
      refine (pi_tup (tg := tg) ha).run pins s σ H Rr I ⟨γ, σw, h, sl, hc, ?_⟩
      rw [ea]
      intro γ1 v H1 e1 k1 c1 r1
      obtain ⟨a, rfl, l⟩ := tup_at r1 hl
      obtain ⟨a', vs, e', q1, q2⟩ := look_tup c1 r1 hl
      cases e'
      exact ⟨a, rfl, ⟨vs, .inl q1⟩, z γ1 _ _ e1 k1 c1 (wk_tup fun γ h H mo hc _ => l γ h H mo hc)⟩
    | str ys =>
      simp only [List.map, hl, walked] at ew
      cases ew
      refine (pi_str (tg := tg) ha).run pins s σ H Rr I ⟨γ, σw, h, sl, hc, ?_⟩
      rw [ea]
      intro γ1 v H1 e1 k1 c1 r1
      have := look_flat hl trivial
      subst this
      cases r1
      exact ⟨mkS ys, rfl, z γ1 _ _ e1 k1 c1 wk_str⟩
    | _ => simp [hl, walked] at ew
  · refine (pi_list (tg := tg) ha).run pins s σ H Rr I ⟨γ, σw, h, sl, hc, ?_⟩
    rw [one_invX ex]
    exact z
theorem piv_enum (hg : Gl X "enumerate") (hm : X.mg "enumerate" = none) (ha : PA X [e] (tes C cl Wx xs)) (hs : starEach [e] X.env = [(false, eval e X.env)]) :
    PI X (.Tuple elts kk tpos) (.Call (.Name "enumerate" p) [e] [] pos) (tit C cl Wx .enum xs) := by
  refine PI.imp (pi_enum hg hm ha hs) fun σ H Rr ⟨γ, σw, h, sl, hc, q⟩ => ⟨γ, σw, h, sl, hc, ?_⟩
  rcases src_inv q with ⟨ws, h1, us, ex, ew, _, z⟩ | ⟨c, a, h1, ex, z⟩
  · rw [ex]
    intro γ1 vs H1 e1 k1 c1 r1
    match ws, ew with
    | [w], ew =>
      cases hl : look h1 w with
      | lst ys =>
        simp only [List.map, hl, walked] at ew
        cases ew
        obtain ⟨v, rfl, rv⟩ := one_rw r1
        obtain ⟨a, rfl, l⟩ := lst_at (ws := [w]) c1 rv hl (List.mem_singleton.mpr rfl)
        obtain ⟨a', vs, e', q1, q2⟩ := look_lst c1 rv hl
        cases e'
        exact ⟨a, vs, rfl, .inl q1, z γ1 _ _ e1 k1 c1 (wk_enum l)⟩
      | _ => simp [hl, walked] at ew
    | [], ew => simp [walked] at ew
    | _ :: _ :: _, ew => simp [walked] at ew
  · rw [ex]; exact z
theorem piv_zip (hg : Gl X "zip") (hm : X.mg "zip" = none) (ha : PA X [e, e2] (tes C cl Wx xs)) (hs : starEach [e, e2] X.env = (false, eval e X.env) :: starEach [e2] X.env) (hpl : (backTo pos (starEach [e2] X.env)).any (·.1) = false) :
    PI X (.Tuple elts kk tpos) (.Call (.Name "zip" p) [e, e2] [] pos) (tit C cl Wx .zip xs) := by
  refine PI.imp (RZ.pi_zipA hg hm ha hs hpl) fun σ H Rr ⟨γ, σw, h, sl, hc, q⟩ => ⟨γ, σw, h, sl, hc, ?_⟩
  rcases src_inv q with ⟨ws, h1, us, ex, ew, _, z⟩ | ⟨c, a, h1, ex, z⟩
  · rw [ex]
    intro γ1 vs H1 e1 k1 c1 r1
    match ws, ew with
    | [w, w2], ew =>
      obtain ⟨v, v2, rfl, r1, r2⟩ := two_rw r1
      cases hl : look h1 w with
      | lst ys =>
        cases hl2 : look h1 w2 with
        | lst zs =>
          simp only [List.map, hl, hl2, walked] at ew
          cases ew
          obtain ⟨a, rfl, l⟩ := lst_at (ws := [w, w2]) c1 r1 hl (by simp)
          obtain ⟨a', vs, e', q1, q2⟩ := look_lst c1 r1 hl
          cases e'
          obtain ⟨b, rfl, l2⟩ := lst_at (ws := [w, w2]) c1 r2 hl2 (by simp)
          obtain ⟨a', us, e', q3, q4⟩ := look_lst c1 r2 hl2
          cases e'
          exact ⟨a, b, vs, us, rfl, .inl ⟨.inl q1, .inl q3, z γ1 _ _ e1 k1 c1 (wk_zip l l2)⟩⟩
        | _ => simp [hl, hl2, walked] at ew
      | tup ys =>
        cases hl2 : look h1 w2 with
        | tup zs =>
          simp only [List.map, hl, hl2, walked] at ew
          cases ew
          obtain ⟨a, rfl, l⟩ := tup_at r1 hl
          obtain ⟨a', vs, e', q1, q2⟩ := look_tup c1 r1 hl
          cases e'
          obtain ⟨b, rfl, l2⟩ := tup_at r2 hl2
          obtain ⟨a', us, e', q3, q4⟩ := look_tup c1 r2 hl2
          cases e'
          exact ⟨a, b, vs, us, rfl, .inr ⟨.inl q1, .inl q3, z γ1 _ _ e1 k1 c1 (wk_zipT (fun γ h H mo hc _ => l γ h H mo hc) (fun γ h H mo hc _ => l2 γ h H mo hc))⟩⟩
        | _ => simp [hl, hl2, walked] at ew
      | _ => simp [hl, walked] at ew
    | [], ew => simp [walked] at ew
    | [_], ew => simp [walked] at ew
    | _ :: _ :: _ :: _, ew => simp [walked] at ew
  · rw [ex]; exact z
theorem int_rw {γ : Gh} {i : Int} {h : Hw} {w : W} {v : V} (e : look h w = .int i) (r : RW C γ w v) : v = .int i := by
  have := look_flat e trivial
  subst this
  exact r
theorem piv_range1 (hg : Gl X "range") (hm : X.mg "range" = none) (ha : PA X [e] (tes C cl Wx xs)) (hs : starEach [e] X.env = [(false, eval e X.env)]) :
    PI X tg (.Call (.Name "range" p) [e] [] pos) (tit C cl Wx .range xs) := by
  refine PI.imp (pi_range1 hg hm ha hs) fun σ H Rr ⟨γ, σw, h, sl, hc, q⟩ => ⟨γ, σw, h, sl, hc, ?_⟩
  rcases src_inv q with ⟨ws, h1, us, ex, ew, _, z⟩ | ⟨c, a, h1, ex, z⟩
  · rw [ex]
    intro γ1 vs H1 e1 k1 c1 r1
    match ws, ew with
    | [w], ew =>
      cases hl : look h1 w with
      | int i =>
        simp only [List.map, hl, walked] at ew
        split at ew
        · rename_i hb
          simp only [Bool.and_eq_true, decide_eq_true_eq] at hb
          cases ew
          obtain ⟨v, rfl, rv⟩ := one_rw r1
          refine ⟨i, by rw [int_rw hl rv], by omega, by omega, z γ1 _ _ e1 k1 c1 wk_range⟩
        · cases ew
      | _ => simp [hl, walked] at ew
    | [], ew => simp [walked] at ew
    | _ :: _ :: _, ew => simp [walked] at ew
  · rw [ex]; exact z
theorem piv_range2 (hg : Gl X "range") (hm : X.mg "range" = none) (ha : PA X [e, e2] (tes C cl Wx xs)) (hs : starEach [e, e2] X.env = [(false, eval e X.env), (false, eval e2 X.env)]) (hs2 : starEach [e2] X.env = [(false, eval e2 X.env)]) :
    PI X tg (.Call (.Name "range" p) [e, e2] [] pos) (tit C cl Wx .range2 xs) := by
  refine PI.imp (pi_range2 hg hm ha hs hs2) fun σ H Rr ⟨γ, σw, h, sl, hc, q⟩ => ⟨γ, σw, h, sl, hc, ?_⟩
  rcases src_inv q with ⟨ws, h1, us, ex, ew, _, z⟩ | ⟨c, a, h1, ex, z⟩
  · rw [ex]
    intro γ1 vs H1 e1 k1 c1 r1
    match ws, ew with
    | [w, w2], ew =>
      cases hl : look h1 w with
      | int i =>
        cases hl2 : look h1 w2 with
        | int j =>
          simp only [List.map, hl, hl2, walked] at ew
          split at ew
          · rename_i hb
            simp only [Bool.and_eq_true, decide_eq_true_eq] at hb
            cases ew
            obtain ⟨v, v2, rfl, rv, rv2⟩ := two_rw r1
            refine ⟨i, j, by rw [int_rw hl rv, int_rw hl2 rv2], by omega, z γ1 _ _ e1 k1 c1 wk_range⟩
          · cases ew
        | _ => simp [hl, hl2, walked] at ew
      | _ => simp [hl, walked] at ew
    | [], ew => simp [walked] at ew
    | [_], ew => simp [walked] at ew
    | _ :: _ :: _ :: _, ew => simp [walked] at ew
  · rw [ex]; exact z
end
/-! ### targets -/
theorem wipe_get (σ : L2.St) : ∀ (vs : List Nat) (j : Nat), (L2.wipe σ vs)[j]? = if j ∈ vs then (σ[j]?).map (fun _ => none) else σ[j]?
  | [], j => by simp [L2.wipe]
  | v :: vs, j => by
    unfold L2.wipe
    by_cases e : v = j
    · subst e
      rw [List.getElem?_set, if_pos rfl, L2.wipe_length]
      simp only [List.mem_cons, true_or, if_true]
      by_cases l : v < σ.length
      · simp [l]
      · simp [l, List.getElem?_eq_none (Nat.le_of_not_lt l)]
    · rw [List.getElem?_set_ne e, wipe_get σ vs j]
      have : j ∈ v :: vs ↔ j ∈ vs := by simp [Ne.symm e]
      simp only [this]
theorem wipe_idem (σ : L2.St) (vs : List Nat) : L2.wipe (L2.wipe σ vs) vs = L2.wipe σ vs := by
  apply List.ext_getElem?
  intro j
  rw [wipe_get, wipe_get]
  by_cases h : j ∈ vs
  · simp [h]; cases σ[j]? <;> rfl
  · simp [h]
theorem wipe_set {σ : L2.St} {vs : List Nat} {i : Nat} {x : Option V} (h : i ∈ vs) : L2.wipe (σ.set i x) vs = L2.wipe σ vs := by
  apply List.ext_getElem?
  intro j
  rw [wipe_get, wipe_get]
  by_cases hj : j ∈ vs
  · simp only [hj, if_true]
    by_cases e : i = j
    · subst e
      rw [List.getElem?_set, if_pos rfl]
      by_cases l : i < σ.length
      · simp [l]
      · simp [l]
    · rw [List.getElem?_set_ne e]
  · simp only [hj, if_false]
    rw [List.getElem?_set_ne (fun (e : i = j) => hj (e ▸ h))]
/-- a target, the slots other than vs left as they are -/
def ttg' (C : Cf) (cl : CL) (vs : List Nat) (t : Tx) : TG := fun v σ H Q => ∃ γ σw h w, SL C γ σw σ ∧ HC C γ h H ∧ RW C γ w v ∧ PoT C γ H (t cl w σw h) (fun σ' H' => L2.wipe σ' vs = L2.wipe σ vs → Q σ' H')
def ttgs (C : Cf) (cl : CL) (vs : List Nat) (t : Txs) : TGs := fun us σ H Q => ∃ γ σw h ws, SL C γ σw σ ∧ HC C γ h H ∧ RWs C γ ws us ∧ PoT C γ H (t cl ws σw h) (fun σ' H' => L2.wipe σ' vs = L2.wipe σ vs → Q σ' H')
theorem PoT.imp {C : Cf} {γ : Gh} {H : Hp} {r : R Sw} {Q Q' : L2.St → Hp → Prop} (p : PoT C γ H r Q) (i : ∀ σ H, Q σ H → Q' σ H) : PoT C γ H r Q' := by
  cases r with
  | ok σw h => exact fun γ' σ H' e k c s => i _ _ (p γ' σ H' e k c s)
  | exn c a h => exact p
  | no => exact p
section
variable {X : Cx} {C : Cf} {cl : CL} {vs : List Nat} {t : Tx} {ts : Txs} {e : Expr} {es : List Expr} {pos : Pos}
theorem PG.imp {t t' : TG} (h : PG X e t) (i : ∀ v σ H Q, t' v σ H Q → t v σ H Q) : PG X e t' := ⟨fun pins s σ H v u Q I r hw => h.run pins s σ H v u Q I r (i v σ H Q hw)⟩
theorem PGs.imp {t t' : TGs} (h : PGs X es t) (i : ∀ v σ H Q, t' v σ H Q → t v σ H Q) : PGs X es t' := ⟨fun pins s σ H v u Q I r hw => h.run pins s σ H v u Q I r (i v σ H Q hw)⟩
theorem pgv_name {i : Nat} {x : Str} (hN : X.N.Nodup) (hi : X.N[i]? = some x) (hx : Loc X.env.scope x) (hf : X.fn x = true ∨ X.env.scope.names.lookup x = some .local) (hv : i ∈ vs) : PG X (.Name x pos) (ttg' C cl vs (tName i)) :=
  PG.imp (pg_name hN hi hx hf) fun v σ H Q ⟨γ, σw, h, w, sl, hc, r, p⟩ => by
    unfold tName at p
    split at p
    · exact p γ _ H (Ext.refl _ _) (Keep.refl _ _) hc (sl.set r) (wipe_set hv)
    · exact p.elim
theorem pgvs_nil : PGs X [] (ttgs C cl vs tsNil) :=
  PGs.imp pgs_nil fun v σ H Q ⟨γ, σw, h, ws, sl, hc, r, p⟩ => by
    unfold tsNil at p
    cases ws with
    | nil => cases r; exact ⟨rfl, p γ _ H (Ext.refl _ _) (Keep.refl _ _) hc sl rfl⟩
    | cons _ _ => exact p.elim
theorem pgvs_cons (h1 : PG X e (ttg' C cl vs t)) (h2 : PGs X es (ttgs C cl vs ts)) (hs : (assignEach (e :: es) X.env).map (·.2) = assign e X.env :: (assignEach es X.env).map (·.2)) : PGs X (e :: es) (ttgs C cl vs (tsCons t ts)) :=
  PGs.imp (pgs_cons h1 h2 hs) fun v σ H Q ⟨γ, σw, h, ws, sl, hc, r, p⟩ => by
    unfold tsCons at p
    cases ws with
    | nil => exact p.elim
    | cons w wr =>
      obtain ⟨u, ur, rfl, r1, r2⟩ := r
      refine ⟨u, ur, rfl, γ, σw, h, w, sl, hc, r1, ?_⟩
      dsimp only at p
      cases ea : t cl w σw h with
      | ok σ1 h1 =>
        rw [ea] at p
        intro γ1 σ' H1 e1 k1 c1 s1 w1
        exact ⟨γ1, σ1, h1, wr, s1, c1, e1.rws r2, PoT.imp (PoT.step p e1 k1) fun σ2 H2 q z => q (z.trans w1)⟩
      | exn c a h1 => rw [ea] at p; exact p
      | no => rw [ea] at p; exact p
theorem pgv_tup {n k : Nat} (hc : X.calm = true) (h : PGs X es (ttgs C cl vs ts)) (hn : (assignEach es X.env).length = n) (hst : (assignEach es X.env).findIdx? (·.1) = none) : PG X (.Tuple es k pos) (ttg' C cl vs (tTup n ts)) :=
  PG.imp (pg_tup hc h hn hst) fun v σ H Q ⟨γ, σw, h, w, sl, hc, r, p⟩ => by
    unfold tTup at p
    cases hl : look h w with
    | tup ws =>
      rw [hl] at p
      dsimp only at p
      cases hb : Nat.beq ws.length n with
      | false => rw [hb] at p; exact p.elim
      | true =>
        rw [hb] at p
        obtain ⟨a, us, rfl, q1, q2⟩ := look_tup hc r hl
        exact ⟨a, us, rfl, .inl q1, by rw [← q2.length]; exact Nat.eq_of_beq_eq_true hb, γ, σw, h, ws, sl, hc, q2, p⟩
    | _ => rw [hl] at p; exact p.elim
end
end Ov
/-! comprehensions, for -/
namespace Ov
open PySem PySem.Spec PyProof.Rows L2
section
variable {C : Cf} {γ γ' γ1 : Gh} {h h1 : Hw} {H H' H1 : Hp} {D : Addr}
/-- the ghost with D looked after -/
def Gh.add (γ : Gh) (D : Addr) : Gh := { γ with P := fun a => γ.P a ∨ a = D }
theorem HC.add (c : HC C γ h H) (n : H D = none) {vs : List V} : HC C (γ.add D) h (upd H D (.lst vs)) := by
  have ne : ∀ a o', H a = some o' → a ≠ D := fun a o' e z => by subst z; rw [n] at e; cases e
  have nn : ∀ a, H a ≠ none → a ≠ D := fun a e z => by subst z; exact e n
  have fD : γ.F D = none := by
    cases e : γ.F D with
    | none => rfl
    | some u => rw [c.frz _ _ e] at n; cases n
  have nι : D ∉ γ.ι := fun hp => c.there D hp n
  refine ⟨c.len, c.nd, fun m a cc i hm => ?_, fun a i => by rw [upd_ne (nn a (c.there a i))]; exact c.there a i, fun a u e => by rw [upd_ne (ne a u (c.frz a u e))]; exact c.frz a u e, fun a pa => ?_, fun d y e => ?_⟩
  · have q := c.cell m a cc i hm
    have ha := nn a (c.there a (List.mem_of_getElem? i))
    cases cc with
    | lst us => obtain ⟨f, ys, hh, r'⟩ := q; exact ⟨f, ys, by rw [upd_ne ha]; exact hh, (⟨fun _ _ z => z, fun _ _ z => z⟩ : Mor γ (γ.add D)).rws r'⟩
    | dct _ => exact q
    | obj k ns us =>
      obtain ⟨f, dx, ys, fd, hh, hd, l, r'⟩ := q
      exact ⟨f, dx, ys, fd, by rw [upd_ne ha]; exact hh, by rw [upd_ne (ne _ _ hd)]; exact hd, l, (⟨fun _ _ z => z, fun _ _ z => z⟩ : Mor γ (γ.add D)).rws r'⟩
    | dead => trivial
  · rcases pa with pa | rfl
    · obtain ⟨a1, a2, a3, a4⟩ := c.prot a pa
      exact ⟨by rw [upd_ne (nn a a1)]; exact a1, a2, a3, fun b hb => by rw [upd_ne (nn a a1)]; exact a4 b hb⟩
    · exact ⟨by rw [upd_same]; simp, fD, nι, fun b hb => by rw [upd_same]; simp⟩
  · by_cases z : d = D
    · subst z; rw [upd_same] at e; cases e
    · rw [upd_ne z] at e
      have := c.own d y e
      rw [upd_ne (nn y this)]; exact this
/-- what is looked after is written -/
theorem HC.write (c : HC C γ h H) (p : γ.P D) {vs : List V} : HC C γ h (upd H D (.lst vs)) := by
  obtain ⟨p1, p2, p3, p4⟩ := c.prot D p
  have key : ∀ a, H a ≠ none → upd H D (.lst vs) a ≠ none := fun a e => by
    by_cases z : a = D
    · subst z; rw [upd_same]; simp
    · rw [upd_ne z]; exact e
  refine ⟨c.len, c.nd, fun m a cc i hm => ?_, fun a i => key a (c.there a i), fun a u e => ?_, fun a pa => ?_, fun d y e => ?_⟩
  · have q := c.cell m a cc i hm
    have mem := List.mem_of_getElem? i
    have ha : a ≠ D := fun z => by subst z; exact p3 mem
    cases cc with
    | lst us => obtain ⟨f, ys, hh, r'⟩ := q; exact ⟨f, ys, by rw [upd_ne ha]; exact hh, r'⟩
    | dct _ => exact q
    | obj k ns us =>
      obtain ⟨f, dx, ys, fd, hh, hd, l, r'⟩ := q
      have hx : dx ≠ D := fun z => by subst z; exact p4 a mem hd
      exact ⟨f, dx, ys, fd, by rw [upd_ne ha]; exact hh, by rw [upd_ne hx]; exact hd, l, r'⟩
    | dead => trivial
  · have : a ≠ D := fun z => by subst z; rw [p2] at e; cases e
    rw [upd_ne this]; exact c.frz a u e
  · obtain ⟨a1, a2, a3, a4⟩ := c.prot a pa
    refine ⟨key a a1, a2, a3, fun b hb => ?_⟩
    by_cases z : a = D
    · subst z; rw [upd_same]; simp
    · rw [upd_ne z]; exact a4 b hb
  · by_cases z : d = D
    · subst z; rw [upd_same] at e; cases e
    · rw [upd_ne z] at e
      exact key y (c.own d y e)
/-- what was looked after stands for good -/
theorem HC.settle (c : HC C γ h H) (p : γ.P D) {vs : List V} (d : H D = some (.lst vs)) {P' : Addr → Prop} (hP : ∀ a, P' a → γ.P a ∧ a ≠ D) : HC C { γ with P := P', F := upd γ.F D (.lst vs) } h H := by
  obtain ⟨p1, p2, p3, p4⟩ := c.prot D p
  have fz : ∀ a o, γ.F a = some o → upd γ.F D (.lst vs) a = some o := fun a o e => by
    have : a ≠ D := fun z => by subst z; rw [p2] at e; cases e
    rw [upd_ne this]; exact e
  refine ⟨c.len, c.nd, fun m a cc i hm => ?_, c.there, fun a u e => ?_, fun a pa => ?_, c.own⟩
  · have q := c.cell m a cc i hm
    have mem := List.mem_of_getElem? i
    have ha : a ≠ D := fun z => by subst z; exact p3 mem
    cases cc with
    | lst us => obtain ⟨f, ys, hh, r'⟩ := q; exact ⟨by show upd γ.F D _ a = none; rw [upd_ne ha]; exact f, ys, hh, (⟨fun _ _ z => z, fz⟩ : Mor γ { γ with P := P', F := upd γ.F D (.lst vs) }).rws r'⟩
    | dct _ => exact q
    | obj k ns us =>
      obtain ⟨f, dx, ys, fd, hh, hd, l, r'⟩ := q
      have hx : dx ≠ D := fun z => by subst z; rw [d] at hd; cases hd
      exact ⟨by show upd γ.F D _ a = none; rw [upd_ne ha]; exact f, dx, ys, by show upd γ.F D _ dx = none; rw [upd_ne hx]; exact fd, hh, hd, l, (⟨fun _ _ z => z, fz⟩ : Mor γ { γ with P := P', F := upd γ.F D (.lst vs) }).rws r'⟩
    | dead => trivial
  · by_cases z : a = D
    · subst z
      have e' : upd γ.F a (.lst vs) a = some u := e
      rw [upd_same] at e'; cases e'; exact d
    · have e' : upd γ.F D (.lst vs) a = some u := e
      rw [upd_ne z] at e'; exact c.frz a u e'
  · obtain ⟨q1, q2⟩ := hP a pa
    obtain ⟨a1, a2, a3, a4⟩ := c.prot a q1
    exact ⟨a1, by show upd γ.F D _ a = none; rw [upd_ne q2]; exact a2, a3, a4⟩
/-- .. becomes a cell -/
theorem HC.settleC (c : HC C γ h H) (p : γ.P D) {ws : List W} {vs : List V} (d : H D = some (.lst vs)) (r : RWs C γ ws vs) {P' : Addr → Prop} (hP : ∀ a, P' a → γ.P a ∧ a ≠ D ∧ H a ≠ some (.own D)) : HC C { γ with P := P', ι := γ.ι ++ [D] } (h ++ [.lst ws]) H := by
  obtain ⟨p1, p2, p3, p4⟩ := c.prot D p
  have ix : ∀ (n : Nat) (a : Addr), γ.ι[n]? = some a → (γ.ι ++ [D])[n]? = some a := fun n a e => by
    rw [List.getElem?_append_left (List.getElem?_eq_some_iff.mp e).1]; exact e
  have mo : ∀ {ws : List W} {vs : List V}, RWs C γ ws vs → RWs C { γ with P := P', ι := γ.ι ++ [D] } ws vs := fun r => (⟨ix, fun _ _ z => z⟩ : Mor γ { γ with P := P', ι := γ.ι ++ [D] }).rws r
  refine ⟨by simp [c.len], nodup_append_one c.nd p3, fun m a cc i hm => ?_, fun a i => ?_, c.frz, fun a pa => ?_, c.own⟩
  · by_cases hlt : m < γ.ι.length
    · have i : (γ.ι ++ [D])[m]? = some a := i
      rw [List.getElem?_append_left hlt] at i
      rw [List.getElem?_append_left (by rw [c.len]; exact hlt)] at hm
      have q := c.cell m a cc i hm
      cases cc with
      | lst us => obtain ⟨f, ys, hh, r'⟩ := q; exact ⟨f, ys, hh, mo r'⟩
      | dct _ => exact q
      | obj k ns us => obtain ⟨f, dx, ys, fd, hh, hd, l, r'⟩ := q; exact ⟨f, dx, ys, fd, hh, hd, l, mo r'⟩
      | dead => trivial
    · have hm' : m = γ.ι.length := by
        have h1 : m < γ.ι.length + 1 := by simpa using (List.getElem?_eq_some_iff.mp i).1
        omega
      subst hm'
      have : a = D := by simpa using i.symm
      subst this
      have : cc = .lst ws := by
        rw [← c.len] at hm
        simpa using hm.symm
      subst this
      exact ⟨p2, vs, d, mo r⟩
  · rcases List.mem_append.mp i with i | i
    · exact c.there a i
    · have : a = D := by simpa using i
      subst this; exact p1
  · obtain ⟨q1, q2, q3⟩ := hP a pa
    obtain ⟨a1, a2, a3, a4⟩ := c.prot a q1
    refine ⟨a1, a2, fun hm => ?_, fun b hb => ?_⟩
    · rcases List.mem_append.mp hm with hm | hm
      · exact a3 hm
      · exact q2 (by simpa using hm)
    · rcases List.mem_append.mp hb with hb | hb
      · exact a4 b hb
      · have : b = D := by simpa using hb
        subst this
        exact q3
/-- a list at D is being built: what has stood stands -/
structure Bld (γ1 : Gh) (H1 : Hp) (D : Addr) (γ : Gh) (H : Hp) (acc : List V) : Prop where
  ex : Ext γ1 { γ with P := γ1.P } H1
  eP : γ.P = fun a => γ1.P a ∨ a = D
  kp : Keep γ1 H1 H
  d : H D = some (.lst acc)
variable {acc : List V}
theorem Bld.mor (b : Bld γ1 H1 D γ H acc) : Mor γ1 γ := ⟨b.ex.mor.ix, b.ex.mor.frz⟩
theorem Bld.pD (b : Bld γ1 H1 D γ H acc) : γ.P D := by rw [b.eP]; exact .inr rfl
theorem Bld.start (n : H1 D = none) : Bld γ1 H1 D (γ1.add D) (upd H1 D (.lst acc)) acc :=
  ⟨⟨⟨[], by simp [Gh.add], fun _ h => nomatch h⟩, fun _ _ h => h, rfl⟩, rfl,
    ⟨fun a o e _ => by rw [upd_ne (fun z => by subst z; rw [n] at e; cases e)]; exact e, fun a e => by rw [upd_ne (fun z => by subst z; exact e n)]; exact e⟩, upd_same⟩
theorem Bld.step (b : Bld γ1 H1 D γ H acc) (c : HC C γ h H) (e : Ext γ γ' H) (k : Keep γ H H') : Bld γ1 H1 D γ' H' acc := by
  have e' : Ext { γ with P := γ1.P } { γ' with P := γ1.P } H := ⟨e.pre, e.frz, rfl⟩
  have k' : Keep { γ with P := γ1.P } H H' := ⟨k.same, k.there⟩
  exact ⟨b.ex.trans b.kp e', e.prot.trans b.eP, b.kp.trans b.ex k', k.same D _ b.d fun m => absurd m (c.prot D b.pD).2.2.1⟩
theorem Bld.write (b : Bld γ1 H1 D γ H acc) (n : H1 D = none) {acc' : List V} : Bld γ1 H1 D γ (upd H D (.lst acc')) acc' :=
  ⟨b.ex, b.eP, ⟨fun a o e m => by rw [upd_ne (fun z => by subst z; rw [n] at e; cases e)]; exact b.kp.same a o e m, fun a e => by rw [upd_ne (fun z => by subst z; exact e n)]; exact b.kp.there a e⟩, upd_same⟩
/-- the list is done -/
theorem Bld.done {m : Bool} {ws : List W} {Q : VK} {E : XK} (b : Bld γ1 H1 D γ H acc) (n : H1 D = none) (c1 : HC C γ1 h1 H1) (c : HC C γ h H) (r : RWs C γ ws acc) (p : PoE C γ1 H1 (made m h (.lst ws)) Q E) : Q (.ref D) H := by
  have nP : ∀ a, γ1.P a → γ.P a ∧ a ≠ D ∧ H a ≠ some (.own D) := fun a pa => by
    obtain ⟨a1, a2, a3, a4⟩ := c1.prot a pa
    refine ⟨by rw [b.eP]; exact .inl pa, fun z => by subst z; exact a1 n, fun e => ?_⟩
    cases q : H1 a with
    | none => exact a1 q
    | some o =>
      have := b.kp.same a o q fun m => absurd m a3
      rw [e] at this; cases this
      exact c1.own a D q n
  cases m with
  | false =>
    have fz : ∀ a o, γ.F a = some o → upd γ.F D (.lst acc) a = some o := fun a o e => by
      have : a ≠ D := fun z => by subst z; rw [(c.prot a b.pD).2.1] at e; cases e
      rw [upd_ne this]; exact e
    refine p { γ with P := γ1.P, F := upd γ.F D (.lst acc) } (.ref D) H ⟨b.ex.pre, fun a o e => fz a o (b.ex.frz a o e), rfl⟩ b.kp (c.settle b.pD b.d fun a pa => ⟨(nP a pa).1, (nP a pa).2.1⟩) ⟨D, acc, rfl, .inl upd_same, ?_⟩
    exact (⟨fun _ _ z => z, fz⟩ : Mor γ { γ with P := γ1.P, F := upd γ.F D (.lst acc) }).rws r
  | true =>
    obtain ⟨l, e1, e2⟩ := b.ex.pre
    refine p { γ with P := γ1.P, ι := γ.ι ++ [D] } (.ref D) H ⟨⟨l ++ [D], ?_, fun a ha => ?_⟩, b.ex.frz, rfl⟩ b.kp (c.settleC b.pD b.d r nP) ⟨D, rfl, ?_⟩
    · have : γ.ι = γ1.ι ++ l := e1
      show γ.ι ++ [D] = _
      rw [this, List.append_assoc]
    · rcases List.mem_append.mp ha with ha | ha
      · exact e2 a ha
      · have : a = D := by simpa using ha
        subst this; exact n
    · show (γ.ι ++ [D])[h.length]? = some D
      rw [c.len]; simp
end
/-! ### comprehensions -/
/-- nothing leaves -/
def WF : WX := fun _ _ _ _ => False
def tfs (C : Cf) (cl : CL) (Wx : WX) (ifs : Exb) : TT := fun σ H Q => ∃ γ σw h, SL C γ σw σ ∧ HC C γ h H ∧ PoB C γ H (ifs cl σw h) Q (fun cls d H' => Wx cls d σ H')
section
variable {X : Cx} {C : Cf} {cl : CL} {Wx : WX} {k : IK} {its : Exs} {own : List Nat} {t : Tx} {ifs : Exb} {e : Ex} {m : Bool}
theorem pfs_nil : PTs X [] (tfs C cl Wx ifNil) := ⟨fun pins s σ H Q I ⟨γ, σw, h, sl, hc, p⟩ => (pts_nil (X := X)).run pins s σ H Q I (p γ H (Ext.refl _ _) (Keep.refl _ _) hc)⟩
theorem pfs_one {c : Expr} {xc : Ex} (hc : PT X c (ttv C cl Wx xc)) : PTs X [c] (tfs C cl Wx (ifCons xc ifNil)) := ⟨fun pins s σ H Q I ⟨γ, σw, h, sl, hcc, p⟩ => by
  refine (pts_one hc).run pins s σ H Q I ⟨γ, σw, h, sl, hcc, ?_⟩
  unfold ifCons ifNil at p
  cases ea : xc cl σw h with
  | ok w h1 =>
    rw [ea] at p
    cases w with
    | bl b => cases b <;> exact p
    | _ => exact p.elim
  | exn c aa h1 => rw [ea] at p; exact p
  | no => rw [ea] at p; exact p⟩
theorem lc_sem {σ : L2.St} {H : Hp} {Q : VK} (tt : tev C cl Wx (xComp m own t k its ifs e) σ H Q) : tLc (tit C cl Wx k its) (ttg' C cl own t) (tfs C cl WF ifs) (tev C cl WF e) own σ H Q := by
  obtain ⟨γ0, σw, h, sl, hc, p⟩ := tt
  refine ⟨γ0, σw, h, sl, hc, ?_⟩
  unfold xComp at p
  cases es : src k its cl σw h with
  | no => rw [es] at p; exact p
  | exn c a h1 => rw [es] at p; exact p
  | ok pr h1 =>
    have hlen : pr.2.length < most := by
      unfold src at es
      cases ea : its cl σw h with
      | no => rw [ea] at es; cases es
      | exn c a h1 => rw [ea] at es; cases es
      | ok ws h2 =>
        rw [ea] at es
        dsimp only [R.bind] at es
        cases hw : walked k (ws.map (look h2)) with
        | none => rw [hw] at es; cases es
        | some us =>
          rw [hw] at es
          dsimp only at es
          cases hb : Nat.blt us.length most with
          | false => rw [hb] at es; cases es
          | true => rw [hb] at es; cases es; exact Nat.le_of_ble_eq_true hb
    rw [es] at p
    obtain ⟨ws, xs⟩ := pr
    dsimp only at hlen
    intro γ1 J H1 e1 k1 c1 wk D hD
    have p1 := PoE.step p e1 k1
    dsimp only [R.bind] at p1
    generalize hch : (fun h' => stands h1 h' ws) = chk at p1 wk
    clear hch p
    refine ⟨fun i n Hi => n = xs.length - i ∧ i ≤ xs.length ∧ ∃ γ hh acc accw, Bld γ1 H1 D γ Hi acc ∧ HC C γ hh Hi ∧ RWs C γ accw acc ∧ accw.length + (xs.length - i) < most ∧
      PoE C γ1 H1 ((compGo chk (turn own t ifs e cl σw) (xs.drop i) hh).bind fun ys h3 => made m h3 (.lst (accw ++ ys))) Q (fun cls d H' => Wx cls d σ H'), ⟨xs.length, rfl, Nat.zero_le _, γ1.add D, h1, [], [], Bld.start hD, c1.add hD, rfl, by simpa using hlen, p1⟩, ?_⟩
    rintro i n Hi ⟨rfl, hi, γ, hh, acc, accw, bd, hcc, ra, lt, pp⟩
    by_cases hlt : i < xs.length
    · right
      rw [List.drop_eq_getElem_cons hlt] at pp
      unfold compGo at pp
      cases hk : chk hh with
      | false => rw [hk] at pp; exact pp.elim
      | true =>
        rw [hk] at pp
        dsimp only at pp
        refine ⟨wk.goes γ hh Hi i bd.mor hcc hk hlt, fun H' => ∃ γ hh acc accw, Bld γ1 H1 D γ H' acc ∧ HC C γ hh H' ∧ RWs C γ accw acc ∧ accw.length + (xs.length - (i + 1)) < most ∧
          PoE C γ1 H1 ((compGo chk (turn own t ifs e cl σw) (xs.drop (i + 1)) hh).bind fun ys h3 => made m h3 (.lst (accw ++ ys))) Q (fun cls d H' => Wx cls d σ H'), fun H' p' => ⟨xs.length - (i + 1), by omega, rfl, hlt, p'⟩, fun x H' y => ?_⟩
        obtain ⟨γ2, e2, k2, c2, r2⟩ := wk.yields γ hh Hi i xs[i] x H' bd.mor hcc hk (by simp [hlt]) y
        have b2 := bd.step hcc e2 k2
        refine ⟨γ2, wipeW σw own, hh, xs[i], (((sl.ext e1).wipe own) |> b2.mor.sl), c2, r2, ?_⟩
        unfold turn at pp
        cases et : t cl xs[i] (wipeW σw own) hh with
        | no => rw [et] at pp; exact pp.elim
        | exn c a h2 => rw [et] at pp; exact pp.elim
        | ok σ1 h2 =>
          rw [et] at pp
          dsimp only [R.calm, R.bind] at pp
          intro γ3 σ3 H3 e3 k3 c3 s3 w3
          have b3 := b2.step c2 e3 k3
          refine ⟨w3.trans (wipe_idem _ _), γ3, σ1, h2, s3, c3, ?_⟩
          cases ei : ifs cl σ1 h2 with
          | no => rw [ei] at pp; exact pp.elim
          | exn c a h2 => rw [ei] at pp; exact pp.elim
          | ok b h4 =>
            rw [ei] at pp
            dsimp only [R.calm, R.bind] at pp
            intro γ4 H4 e4 k4 c4
            have b4 := b3.step c3 e4 k4
            have r4 := (e4.rws (e3.rws (e2.rws ra)))
            cases b with
            | false =>
              rw [if_neg (by decide)]
              refine ⟨γ4, h4, acc, accw, b4, c4, r4, by omega, ?_⟩
              have q : ((compGo chk (turn own t ifs e cl σw) (xs.drop (i + 1)) h4).bind fun ys h2 => R.ok ys h2) = compGo chk (turn own t ifs e cl σw) (xs.drop (i + 1)) h4 := by
                cases compGo chk (turn own t ifs e cl σw) (xs.drop (i + 1)) h4 <;> rfl
              have pp' : PoE C γ1 H1 (((compGo chk (turn own t ifs e cl σw) (xs.drop (i + 1)) h4).bind fun ys h2 => R.ok ys h2).bind fun ys h3 => made m h3 (.lst (accw ++ ys))) Q (fun cls d H' => Wx cls d σ H') := pp
              rw [q] at pp'
              exact pp'
            | true =>
              rw [if_pos rfl]
              refine ⟨γ4, σ1, h4, s3.ext e4, c4, ?_⟩
              simp only [if_true] at pp
              cases ee : e cl σ1 h4 with
              | no => rw [ee] at pp; exact pp.elim
              | exn c a h2 => rw [ee] at pp; exact pp.elim
              | ok w h5 =>
                rw [ee] at pp
                dsimp only [R.calm, R.bind] at pp
                intro γ5 v H5 e5 k5 c5 r5
                have b5 := b4.step c4 e5 k5
                have lt' : acc.length < sizeLine := by
                  rw [← ra.length]
                  exact most_line (Nat.ble_eq_true_of_le (show accw.length < most by omega))
                refine ⟨acc, b5.d, lt', γ5, h5, acc ++ [v], accw ++ [w], b5.write hD, c5.write b5.pD, (e5.rws r4).append (RWs.cons r5 RWs.nil), by rw [List.length_append]; simp; omega, ?_⟩
                have q : (((compGo chk (turn own t ifs e cl σw) (xs.drop (i + 1)) h5).bind fun ys h2 => R.ok (w :: ys) h2).bind fun ys h3 => made m h3 (.lst (accw ++ ys))) = (compGo chk (turn own t ifs e cl σw) (xs.drop (i + 1)) h5).bind fun ys h3 => made m h3 (.lst (accw ++ [w] ++ ys)) := by
                  cases compGo chk (turn own t ifs e cl σw) (xs.drop (i + 1)) h5 with
                  | ok ys h6 => show made m h6 (.lst (accw ++ (w :: ys))) = made m h6 (.lst (accw ++ [w] ++ ys)); rw [List.append_assoc]; rfl
                  | _ => rfl
                have pp' : PoE C γ1 H1 (((compGo chk (turn own t ifs e cl σw) (xs.drop (i + 1)) h5).bind fun ys h2 => R.ok (w :: ys) h2).bind fun ys h3 => made m h3 (.lst (accw ++ ys))) Q (fun cls d H' => Wx cls d σ H') := pp
                rw [q] at pp'
                exact pp'
    · left
      have e : i = xs.length := by omega
      subst e
      rw [List.drop_length] at pp
      unfold compGo at pp
      cases hk : chk hh with
      | false => rw [hk] at pp; exact pp.elim
      | true =>
        rw [hk] at pp
        have pp' : PoE C γ1 H1 (made m hh (.lst (accw ++ []))) Q (fun cls d H' => Wx cls d σ H') := pp
        rw [List.append_nil] at pp'
        exact ⟨wk.stops γ hh Hi bd.mor hcc hk, bd.done hD c1 hcc ra pp'⟩
end
/-! ### for -/
section
variable {X : Cx} {C : Cf} {cl : CL} {Wx : WX} {k : IK} {its : Exs} {vs : List Nat} {t : Tx} {b : Sx} {pos : Pos}
theorem for_sem {D : Ends} {σ : L2.St} {H : Hp} (tt : tst C cl Wx (sFor t k its b) D σ H) : tFor (tit C cl Wx k its) (ttg' C cl vs t) (tst C cl Wx b) D σ H := by
  obtain ⟨γ0, σw, h, sl, hc, p⟩ := tt
  refine ⟨γ0, σw, h, sl, hc, ?_⟩
  unfold sFor at p
  cases es : src k its cl σw h with
  | no => rw [es] at p; exact p
  | exn c a h1 =>
    rw [es] at p
    exact fun γ' H' cls d e k c x => p γ' σ H' cls d e k c (sl.ext e) x
  | ok pr h1 =>
    rw [es] at p
    obtain ⟨ws, xs⟩ := pr
    intro γ1 J H1 e1 k1 c1 wk
    have p1 := PoS.step p e1 k1
    dsimp only [R.st] at p1
    generalize hch : (fun h' => stands h1 h' ws) = chk at p1 wk
    clear hch p
    refine ⟨fun i n σi Hi => n = xs.length - i ∧ i ≤ xs.length ∧ ∃ γ σv hh, Mor γ1 γ ∧ SL C γ σv σi ∧ HC C γ hh Hi ∧
      PoS C γ Hi (forGo chk (fun x σ h => (t cl x σ h).calm.st σ fun σ1 h3 => b cl σ1 h3) (xs.drop i) σv hh) D Wx, ⟨xs.length, rfl, Nat.zero_le _, γ1, σw, h1, Mor.refl _, sl.ext e1, c1, p1⟩, ?_⟩
    rintro i n σi Hi ⟨rfl, hi, γ, σv, hh, mo, si, hcc, pp⟩
    by_cases hlt : i < xs.length
    · right
      rw [List.drop_eq_getElem_cons hlt] at pp
      unfold forGo at pp
      cases hk : chk hh with
      | false => rw [hk] at pp; exact pp.elim
      | true =>
        rw [hk] at pp
        dsimp only at pp
        refine ⟨wk.goes γ hh Hi i mo hcc hk hlt, fun σ' H' => ∃ γ σv hh, Mor γ1 γ ∧ SL C γ σv σ' ∧ HC C γ hh H' ∧
          PoS C γ H' (forGo chk (fun x σ h => (t cl x σ h).calm.st σ fun σ1 h3 => b cl σ1 h3) (xs.drop (i + 1)) σv hh) D Wx, fun σ' H' p' => ⟨xs.length - (i + 1), by omega, rfl, hlt, p'⟩, fun x H' y => ?_⟩
        obtain ⟨γ2, e2, k2, c2, r2⟩ := wk.yields γ hh Hi i xs[i] x H' mo hcc hk (by simp [hlt]) y
        refine ⟨γ2, σv, hh, xs[i], si.ext e2, c2, r2, ?_⟩
        have pp2 := PoS.step pp e2 k2
        cases et : t cl xs[i] σv hh with
        | no => rw [et] at pp2; exact pp2.elim
        | exn c a h2 => rw [et] at pp2; exact pp2.elim
        | ok σ1 h2 =>
          rw [et] at pp2
          intro γ3 σ3 H3 e3 k3 c3 s3 w3
          have pp3 := PoS.step pp2 e3 k3
          refine ⟨γ3, σ1, h2, s3, c3, ?_⟩
          dsimp only [R.calm, R.st] at pp3
          have mo3 := (mo.trans e2.mor).trans e3.mor
          cases eb : b cl σ1 h2 with
          | no => rw [eb] at pp3; exact pp3
          | exn c a σ4 h4 => rw [eb] at pp3; exact pp3
          | ok fl h4 =>
            rw [eb] at pp3
            cases fl with
            | nx σ4 => exact fun γ4 σ5 H4 e4 k4 c4 s4 => ⟨γ4, σ4, h4, mo3.trans e4.mor, s4, c4, PoS.step pp3 e4 k4⟩
            | brk σ4 => exact pp3
            | ret w => exact pp3
    · left
      have e : i = xs.length := by omega
      subst e
      rw [List.drop_length] at pp
      unfold forGo at pp
      cases hk : chk hh with
      | false => rw [hk] at pp; exact pp.elim
      | true =>
        rw [hk] at pp
        exact ⟨wk.stops γ hh Hi mo hcc hk, pp γ σi Hi (Ext.refl _ _) (Keep.refl _ _) hcc si⟩
theorem psv_for {tg iter : Expr} {body : List Stmt} (hp : PassesOwn (model X.prog X.w) X.A X.env X.xe) (hc : X.calm = true) (hi : PI X tg iter (tit C cl Wx k its)) (hg : PG X tg (ttg' C cl vs t)) (hb : PSs X body (tst C cl Wx b)) (hs : ∀ x, foldedSetIterable iter X.env x = pure x) :
    PS X (.For tg iter body [] pos) (tst C cl Wx (sFor t k its b)) := PS.imp (ps_for hp hc hi hg hb hs) fun D σ H q => for_sem q
end
end Ov
/-! slices, chains, attributes -/
namespace Ov
open PySem PySem.Spec PyProof.Rows L2
theorem clip_sIx (i : Int) (n : Nat) (d : Nat) : clip i n = HT.sIx n d (some i) := rfl
theorem slice_cut {α : Type} (xs : List α) (lo hi : Option Int) : slice xs lo hi = (xs.drop (HT.sIx xs.length 0 lo)).take (HT.sIx xs.length xs.length hi - HT.sIx xs.length 0 lo) := by
  have e : slice xs lo hi = (xs.take (HT.sIx xs.length xs.length hi)).drop (HT.sIx xs.length 0 lo) := by
    unfold slice
    cases lo <;> cases hi <;> rfl
  rw [e, List.drop_take]
section
variable {C : Cf} {γ : Gh}
theorem RWs.drop : ∀ {ws : List W} {vs : List V} (n : Nat), RWs C γ ws vs → RWs C γ (ws.drop n) (vs.drop n)
  | ws, vs, 0, r => r
  | [], _, n + 1, r => by cases r; exact rfl
  | w :: ws, _, n + 1, ⟨v, q, e, a, b⟩ => by subst e; exact RWs.drop n b
theorem RWs.take : ∀ {ws : List W} {vs : List V} (n : Nat), RWs C γ ws vs → RWs C γ (ws.take n) (vs.take n)
  | ws, vs, 0, r => by simp [RWs]
  | [], _, n + 1, r => by cases r; exact rfl
  | w :: ws, _, n + 1, ⟨v, q, e, a, b⟩ => by subst e; exact ⟨v, _, rfl, a, RWs.take n b⟩
theorem RWs.cutV {ws : List W} {vs : List V} (lo hi : Option Int) (r : RWs C γ ws vs) : RWs C γ (slice ws lo hi) (L2.cutV vs lo hi) := by
  rw [slice_cut, r.length]
  exact RWs.take _ (RWs.drop _ r)
end
def PoO (C : Cf) (γ : Gh) (H : Hp) (r : R (Option Int)) (Q : Option Int → Hp → Prop) (E : XK) : Prop :=
  match r with
  | .ok o h => ∀ γ' H', Ext γ γ' H → Keep γ H H' → HC C γ' h H' → Q o H'
  | .exn c a h => ∀ γ' H' cls d, Ext γ γ' H → Keep γ H H' → HC C γ' h H' → RX C γ' H' c a cls d → E cls d H'
  | .no => False
def teo (C : Cf) (cl : CL) (Wx : WX) (x : Exo) : TO := fun σ H Q => ∃ γ σw h, SL C γ σw σ ∧ HC C γ h H ∧ PoO C γ H (x cl σw h) Q (fun cls d H' => Wx cls d σ H')
def rSl3 (C : Cf) (m : Bool) : V → Option Int → Option Int → Hp → VK → Prop := fun x lo hi H Q => ∃ E γ h w, HC C γ h H ∧ RW C γ w x ∧ PoE C γ H ((R.of h (sliceW (look h w) lo hi)).bind fun w h4 => match w with
  | .lst xs => made m h4 (.lst xs)
  | w => .ok w h4) Q E
section
variable {X : Cx} {C : Cf} {a b c : Expr} {lo hi : Option Expr} {cl : CL} {Wx : WX} {xa xb xc : Ex} {xl xh : Exo} {pos p2 : Pos} {m : Bool}
theorem PO.imp {e : Option Expr} {t t' : TO} (h : PO X e t) (i : ∀ σ H Q, t' σ H Q → t σ H Q) : PO X e t' := ⟨fun pins s σ H Q I hw => h.run pins s σ H Q I (i σ H Q hw)⟩
theorem pov_none : PO X none (teo C cl Wx oNone) := PO.imp po_none fun σ H Q ⟨γ, σw, h, sl, hc, p⟩ => p γ H (Ext.refl _ _) (Keep.refl _ _) hc
theorem pov_some (ha : PE X a (tev C cl Wx xa)) : PO X (some a) (teo C cl Wx (oSome xa)) := PO.imp (po_some ha) fun σ H Q ⟨γ, σw, h, sl, hc, p⟩ => by
  refine ⟨γ, σw, h, sl, hc, ?_⟩
  unfold oSome at p
  cases ea : xa cl σw h with
  | ok w h1 =>
    rw [ea] at p
    intro γ1 v H1 e1 k1 c1 r1
    cases w with
    | int i => cases r1; exact ⟨i, rfl, p γ1 H1 e1 k1 c1⟩
    | _ => exact p.elim
  | exn cc aa h1 => rw [ea] at p; exact p
  | no => rw [ea] at p; exact p
theorem sl_all (hK : C.K = X.K) : SlR X (rSl3 C m) := by
  intro pins s σ H x v vl vu lo hi sl Q I rx hs pl pu ⟨E, γ, h, w, hc, r, p⟩
  cases hl : look h w with
  | str z =>
    have := look_flat hl trivial
    subst this
    cases r
    rw [show look h (.str z) = .str z from rfl] at p
    simp only [sliceW] at p
    split at p
    · rename_i hz
      refine sl_str pins s σ H _ v vl vu lo hi sl Q I rx hs pl pu ⟨mkS z, rfl, ?_, ?_⟩
      · show z.toArray.size ≤ sizeLine
        rw [List.size_toArray]; exact Nat.le_of_lt (most_line hz)
      · have e : cutS (mkS z) lo hi = mkS (slice z lo hi) := by
          rw [slice_cut]
          show (⟨_⟩ : Str) = ⟨_⟩
          have : (mkS z).length = z.length := by show z.toArray.size = _; rw [List.size_toArray]
          rw [this]
        rw [e]
        exact PoE.here p hc rfl
    · exact p.elim
  | lst xs =>
    rw [hl] at p
    obtain ⟨a, vs, rfl, q1, q2⟩ := look_lst hc r hl
    exact sl_list pins s σ H _ v vl vu lo hi sl Q I rx hs pl pu ⟨a, vs, rfl, .inl q1, fun p' n => PoE.lstMade p hc (q2.cutV lo hi) n⟩
  | tup xs =>
    rw [hl] at p
    obtain ⟨a, vs, rfl, q1, q2⟩ := look_tup hc r hl
    refine sl_tupA pins s σ H _ v vl vu lo hi sl Q I rx hs pl pu ⟨a, vs, rfl, .inl q1, fun ⟨z1, z2⟩ => ?_, fun _ p' n => PoE.tupNew p hc (q2.cutV lo hi) n⟩
    have e : slice xs lo hi = xs := by
      rw [slice_cut, q2.length, z1, z2]
      simp [← q2.length]
    have p' : PoE C γ H (.ok (.tup (slice xs lo hi)) h) Q E := p
    rw [e] at p'
    have := look_tupE hl
    subst this
    exact PoE.here p' hc r
  | _ => rw [hl] at p; exact p.elim
theorem pv_slc (hK : C.K = X.K) (ha : PE X a (tev C cl Wx xa)) (hl : PO X lo (teo C cl Wx xl)) (hu : PO X hi (teo C cl Wx xh)) : PE X (.Subscript a (.Slice lo hi none p2) pos) (tev C cl Wx (xSlc m xa xl xh)) :=
  PE.imp (pe_slice (sl_all (m := m) hK) ha hl hu) fun σ H Q t => by
    obtain ⟨γ, σw, h, sl, hc, p⟩ := t
    refine ⟨γ, σw, h, sl, hc, ?_⟩
    unfold xSlc at p
    cases ea : xa cl σw h with
    | exn cc aa h1 => rw [ea] at p; exact p
    | no => rw [ea] at p; exact p
    | ok w h1 =>
      rw [ea] at p
      intro γ1 v H1 e1 k1 c1 r1
      have p1 := PoE.step p e1 k1
      refine ⟨γ1, σw, h1, sl.ext e1, c1, ?_⟩
      dsimp only [R.bind] at p1
      cases el : xl cl σw h1 with
      | exn cc aa h1 => rw [el] at p1; exact p1
      | no => rw [el] at p1; exact p1
      | ok l h2 =>
        rw [el] at p1
        intro γ2 H2 e2 k2 c2
        have p2 := PoE.step p1 e2 k2
        refine ⟨γ2, σw, h2, (sl.ext e1).ext e2, c2, ?_⟩
        dsimp only [R.bind] at p2
        cases eu : xh cl σw h2 with
        | exn cc aa h1 => rw [eu] at p2; exact p2
        | no => rw [eu] at p2; exact p2
        | ok u h3 =>
          rw [eu] at p2
          intro γ3 H3 e3 k3 c3
          exact ⟨_, γ3, h3, w, c3, (e3.rw (e2.rw r1)), PoE.step p2 e3 k3⟩
/-! ### a op b op c -/
theorem chain_sem (hu : X.A.units + 65 < cLine) {o o' : COp} {σ : L2.St} {H : Hp} {Q : VK} (t : tev C cl Wx (xChain o o' xa xb xc) σ H Q) :
    tChain (fun x y H Q => ∃ E, rf2 C (cmpW o) E x y H Q) (fun x y H Q => ∃ E, rf2 C (cmpW o') E x y H Q) (tev C cl Wx xa) (tev C cl Wx xb) (tev C cl Wx xc) σ H Q := by
  obtain ⟨γ, σw, h, sl, hc, p⟩ := t
  refine ⟨γ, σw, h, sl, hc, ?_⟩
  unfold xChain at p
  cases ea : xa cl σw h with
  | exn cc aa h1 => rw [ea] at p; exact p
  | no => rw [ea] at p; exact p
  | ok w h1 =>
    rw [ea] at p
    intro γ1 v H1 e1 k1 c1 r1
    have p1 := PoE.step p e1 k1
    refine ⟨γ1, σw, h1, sl.ext e1, c1, ?_⟩
    dsimp only [R.bind] at p1
    cases eb : xb cl σw h1 with
    | exn cc aa h1 => rw [eb] at p1; exact p1
    | no => rw [eb] at p1; exact p1
    | ok u h2 =>
      rw [eb] at p1
      intro γ2 v2 H2 e2 k2 c2 r2
      have p2 := PoE.step p1 e2 k2
      dsimp only [R.bind] at p2
      refine ⟨fun _ _ _ => True, γ2, h2, w, u, c2, e2.rw r1, r2, ?_⟩
      cases ec : cmpW o w u h2 with
      | exn cc aa h1 => exact fun _ _ _ _ _ _ _ _ => trivial
      | no => rw [ec] at p2; exact p2
      | ok z h3 =>
        rw [ec] at p2
        intro γ3 v3 H3 e3 k3 c3 r3
        have p3 := PoE.step p2 e3 k3
        dsimp only [R.bind] at p3
        cases z with
        | bl k =>
          cases r3
          refine ⟨k, rfl, ?_⟩
          cases k with
          | false => rw [if_neg (by decide)]; exact PoE.here p3 c3 rfl
          | true =>
            rw [if_pos rfl]
            refine ⟨γ3, σw, h3, ((sl.ext e1).ext e2).ext e3, c3, ?_⟩
            dsimp only at p3
            cases ed : xc cl σw h3 with
            | exn cc aa h1 => rw [ed] at p3; exact p3
            | no => rw [ed] at p3; exact p3
            | ok y h4 =>
              rw [ed] at p3
              intro γ4 v4 H4 e4 k4 c4 r4
              exact ⟨_, γ4, h4, u, y, c4, e4.rw (e3.rw r2), r4, PoE.step p3 e4 k4⟩
        | _ => exact p3.elim
theorem pv_chain (hu : X.A.units + 65 < cLine) (hK : C.K = X.K) {op op' : CmpOp} {o o' : COp} (ho : op = copOf o) (ho' : op' = copOf o') (ha : PE X a (tev C cl Wx xa)) (hb : PE X b (tev C cl Wx xb)) (hc : PE X c (tev C cl Wx xc)) (hm : lastMarks [op, op'] [b, c] = false) :
    PE X (.Compare a [op, op'] [b, c] pos) (tev C cl Wx (xChain o o' xa xb xc)) := by
  subst ho; subst ho'
  exact PE.imp (pe_chain (of_cmp hu hK o) (of_cmp hu hK o') ha hb hc hm) fun σ H Q t => chain_sem hu t
theorem ptv_chain (hu : X.A.units + 65 < cLine) (hK : C.K = X.K) {op op' : CmpOp} {o o' : COp} (ho : op = copOf o) (ho' : op' = copOf o') (ha : PE X a (tev C cl Wx xa)) (hb : PE X b (tev C cl Wx xb)) (hc : PE X c (tev C cl Wx xc)) (hm : lastMarks [op, op'] [b, c] = false) :
    PT X (.Compare a [op, op'] [b, c] pos) (ttv C cl Wx (xChain o o' xa xb xc)) := by
  subst ho; subst ho'
  exact PT.imp (pt_chain (of_cmp hu hK o) (of_cmp hu hK o') ha hb hc hm) fun σ H Q t => chain_sem hu (ttv_tev t)
/-! ### e.f -/
theorem lookup_rw {γ : Gh} {nm : Nat} {w : W} (inj : ∀ i j, C.nm i = C.nm j → i = j) : ∀ {ns : List Nat} {ws : List W} {vs : List V}, RWs C γ ws vs → (ns.zip ws).lookup nm = some w → ∃ v, ((ns.map C.nm).zip vs).lookup (C.nm nm) = some v ∧ RW C γ w v
  | [], _, _, _, e => by simp at e
  | _ :: _, [], _, _, e => by simp at e
  | n :: ns, u :: us, _, ⟨v, r, e1, a, b⟩, e => by
    subst e1
    by_cases z : nm = n
    · subst z
      simp at e
      subst e
      exact ⟨v, by simp, a⟩
    · have z' : C.nm nm ≠ C.nm n := fun q => z (inj _ _ q)
      have e' : (ns.zip us).lookup nm = some w := by
        have : (nm == n) = false := by simpa using z
        simpa [List.lookup, this] using e
      obtain ⟨v', q1, q2⟩ := lookup_rw inj b e'
      refine ⟨v', ?_, q2⟩
      have : (C.nm nm == C.nm n) = false := by simpa using z'
      simpa [List.lookup, this] using q1
theorem look_obj {γ : Gh} {h : Hw} {H : Hp} {w : W} {x : V} {k : Nat} {ns : List Nat} {ws : List W} (c : HC C γ h H) (r : RW C γ w x) (e : look h w = .obj k ns ws) : ∃ a dx vs, x = .ref a ∧ H a = some (.ins (C.ca k) dx ((ns.map C.nm).zip vs)) ∧ ns.length = vs.length ∧ RWs C γ ws vs := by
  cases w with
  | obj k' ns' us =>
    cases e
    obtain ⟨a, dx, vs, rfl, f1, f2, l, r'⟩ := r
    exact ⟨a, dx, vs, rfl, c.frz _ _ f1, l, r'⟩
  | ref n =>
    obtain ⟨a, rfl, i⟩ := r
    simp only [look] at e
    cases hn : h[n]? with
    | none => rw [hn] at e; cases e
    | some cc =>
      rw [hn] at e
      cases cc with
      | obj k' ns' us =>
        cases e
        obtain ⟨_, dx, vs, _, hh, _, l, r'⟩ := c.cell n a _ i hn
        exact ⟨a, dx, vs, rfl, hh, l, r'⟩
      | _ => cases e
  | _ => simp [look] at e
theorem pv_attr {cs : List Nat} {nm : Nat} {f : Str} {e : Expr} {xe : Ex} (hK : C.K = X.K) (inj : ∀ i j, C.nm i = C.nm j → i = j) (hf : C.nm nm = f) (hcs : ∀ k ∈ cs, Cls X.K (C.ca k) ∧ NoAttr X.K (C.ca k) f) (he : PE X e (tev C cl Wx xe)) (hb : attributeBase e f X.env (eval e X.env) = eval e X.env) :
    PE X (.Attribute e f pos) (tev C cl Wx (xAttr cs nm xe)) := by
  subst hf
  refine PE.imp (pe_fld he hb) fun σ H Q t => (tev1' t).imp fun x H1 ⟨γ, h, w, hc, r, p⟩ => ?_
  dsimp only at p
  cases hl : look h w with
  | obj k ns ws =>
    rw [hl] at p
    dsimp only at p
    cases ha : cs.any (Nat.beq k) with
    | false => rw [ha] at p; exact p.elim
    | true =>
      rw [ha] at p
      dsimp only at p
      obtain ⟨w', e1, p'⟩ := PoE.ofSome p
      obtain ⟨a, dx, vs, rfl, hh, l, r'⟩ := look_obj hc r hl
      obtain ⟨v, q1, q2⟩ := lookup_rw inj r' e1
      have mem : k ∈ cs := by
        obtain ⟨y, y1, y2⟩ := List.any_eq_true.mp ha
        rw [Nat.eq_of_beq_eq_true y2]; exact y1
      exact ⟨a, C.ca k, dx, _, v, rfl, hh, (hcs k mem).1, (hcs k mem).2, q1, PoE.here p' hc q2⟩
  | _ => rw [hl] at p; exact p.elim
end
end Ov
/-! statements -/
namespace Ov
open PySem PySem.Spec PyProof.Rows L2
section
variable {X : Cx} {C : Cf} {cl : CL} {Wx : WX} {st : Stmt} {rest body : List Stmt} {a b : Sx} {e c : Expr} {xe xc : Ex} {xs : Exs} {pos : Pos} {t : Tx} {vs : List Nat}
/-- an expression within a statement: the exception's road -/
theorem st_cases {α : Type} {r : R α} {f : α → Hw → RS} {γ : Gh} {σw : Sw} {σ : L2.St} {H : Hp} {D : Ends} (sl : SL C γ σw σ) (p : PoS C γ H (r.st σw f) D Wx) :
    (∃ a h1, r = .ok a h1 ∧ PoS C γ H (f a h1) D Wx) ∨ (∃ c a h1, r = .exn c a h1 ∧ ∀ γ' H' cls d, Ext γ γ' H → Keep γ H H' → HC C γ' h1 H' → RX C γ' H' c a cls d → Wx cls d σ H') := by
  cases r with
  | ok a h1 => exact .inl ⟨a, h1, rfl, p⟩
  | exn c a h1 => exact .inr ⟨c, a, h1, rfl, fun γ' H' cls d e k cc x => p γ' σ H' cls d e k cc (sl.ext e) x⟩
  | no => exact p.elim
theorem pss_nilv : PSs X [] (tst C cl Wx sPass) := PSs.imp pss_nil fun D σ H ⟨γ, σw, h, sl, hc, p⟩ => p γ σ H (Ext.refl _ _) (Keep.refl _ _) hc sl
theorem psv_pass : PS X (.Pass pos) (tst C cl Wx sPass) := PS.imp ps_pass fun D σ H ⟨γ, σw, h, sl, hc, p⟩ => p γ σ H (Ext.refl _ _) (Keep.refl _ _) hc sl
theorem psv_doc {x j pos pos'} : PS X (.Expr (.Constant (.str x) j pos) pos') (tst C cl Wx sPass) := PS.imp ps_doc fun D σ H ⟨γ, σw, h, sl, hc, p⟩ => p γ σ H (Ext.refl _ _) (Keep.refl _ _) hc sl
theorem psv_brk : PS X (.Break pos) (tst C cl Wx sBrk) := PS.imp ps_break fun D σ H ⟨γ, σw, h, sl, hc, p⟩ => p γ σ H (Ext.refl _ _) (Keep.refl _ _) hc sl
theorem pss_consv (h1 : PS X st (tst C cl Wx a)) (h2 : PSs X rest (tst C cl Wx b)) : PSs X (st :: rest) (tst C cl Wx (sSeq a b)) :=
  PSs.imp (pss_cons h1 h2) fun D σ H ⟨γ, σw, h, sl, hc, p⟩ => by
    refine ⟨γ, σw, h, sl, hc, ?_⟩
    unfold sSeq at p
    cases ea : a cl σw h with
    | no => rw [ea] at p; exact p
    | exn cc aa σ1 h1 => rw [ea] at p; exact p
    | ok fl h1 =>
      rw [ea] at p
      cases fl with
      | nx σ1 => exact fun γ' σ' H' e k c s => ⟨γ', σ1, h1, s, c, PoS.step p e k⟩
      | brk σ1 => exact p
      | ret w => exact p
theorem pss_onev (h1 : PS X st (tst C cl Wx a)) : PSs X [st] (tst C cl Wx a) := pss_one h1
theorem psv_ret (he : PE X e (tev C cl Wx xe)) : PS X (.Return (some e) pos) (tst C cl Wx (sRet xe)) := PS.imp (ps_ret he) fun D σ H ⟨γ, σw, h, sl, hc, p⟩ => by
  refine ⟨γ, σw, h, sl, hc, ?_⟩
  rcases st_cases sl p with ⟨w, h1, ea, q⟩ | ⟨cc, aa, h1, ea, q⟩ <;> rw [ea] <;> exact q
theorem psv_retN : PS X (.Return none pos) (tst C cl Wx sRetn) := PS.imp ps_retN fun D σ H ⟨γ, σw, h, sl, hc, p⟩ => p γ .non H (Ext.refl _ _) (Keep.refl _ _) hc rfl
theorem psv_expr (he : PE X e (tev C cl Wx xe)) (hs : swapsWith e none pos.line X.env = pure false) : PS X (.Expr e pos) (tst C cl Wx (sEx xe)) := PS.imp (ps_expr he hs) fun D σ H ⟨γ, σw, h, sl, hc, p⟩ => by
  refine ⟨γ, σw, h, sl, hc, ?_⟩
  rcases st_cases sl p with ⟨w, h1, ea, q⟩ | ⟨cc, aa, h1, ea, q⟩
  · rw [ea]; exact fun γ' v H' e k c r => q γ' σ H' e k c (sl.ext e)
  · rw [ea]; exact q
theorem psv_if {p q : List Stmt} (hc : PT X c (ttv C cl Wx xc)) (ha : PSs X p (tst C cl Wx a)) (hb : PSs X q (tst C cl Wx b)) : PS X (.If c p q pos) (tst C cl Wx (sIf xc a b)) := PS.imp (ps_if hc ha hb) fun D σ H ⟨γ, σw, h, sl, hcc, p⟩ => by
  refine ⟨γ, σw, h, sl, hcc, ?_⟩
  unfold sIf at p
  rcases st_cases sl p with ⟨w, h1, ea, q⟩ | ⟨cc, aa, h1, ea, q⟩
  · rw [ea]
    cases w with
    | bl b =>
      intro γ1 H1 e1 k1 c1
      cases b with
      | true => rw [if_pos rfl]; exact ⟨γ1, σw, h1, sl.ext e1, c1, PoS.step q e1 k1⟩
      | false => rw [if_neg (by decide)]; exact ⟨γ1, σw, h1, sl.ext e1, c1, PoS.step q e1 k1⟩
    | _ => exact q.elim
  · rw [ea]; exact q
/-- what is left of an assignment once its value is known -/
theorem asg_sem {D : Ends} {σ : L2.St} {H : Hp} (tt : tst C cl Wx (sAsg t xe) D σ H) : tAsg (tev C cl Wx xe) (ttg' C cl vs t) D σ H := by
  obtain ⟨γ, σw, h, sl, hc, p⟩ := tt
  refine ⟨γ, σw, h, sl, hc, ?_⟩
  unfold sAsg at p
  rcases st_cases sl p with ⟨w, h1, ea, q⟩ | ⟨cc, aa, h1, ea, q⟩
  · rw [ea]
    intro γ1 v H1 e1 k1 c1 r1
    have q1 := PoS.step q e1 k1
    refine ⟨γ1, σw, h1, w, sl.ext e1, c1, r1, ?_⟩
    cases et : t cl w σw h1 with
    | no => rw [et] at q1; exact q1.elim
    | exn c a h2 => rw [et] at q1; exact q1.elim
    | ok σ1 h2 => rw [et] at q1; exact fun γ2 σ2 H2 e2 k2 c2 s2 _ => q1 γ2 σ2 H2 e2 k2 c2 s2
  · rw [ea]; exact q
theorem psv_asg {tg : Expr} (he : PE X e (tev C cl Wx xe)) (hg : PG X tg (ttg' C cl vs t)) (hs : swapsWithSole [tg] e pos.line X.env = pure false) (hw : swappedStores [tg] e X.env = pure none) (h1 : (assignEach [tg] X.env).map (·.2) = [assign tg X.env]) :
    PS X (.Assign [tg] e pos) (tst C cl Wx (sAsg t xe)) := PS.imp (ps_asg he hg hs hw h1) fun D σ H q => asg_sem q
/-- to a name -/
theorem name_sem {i : Nat} {te : TE} {D : Ends} {σ : L2.St} {H : Hp} (q : tAsg te (ttg' C cl [i] (tName i)) D σ H) (hi : ∀ v H1, ttg' C cl [i] (tName i) v σ H1 D.nx → gName i v σ H1 D.nx) (mono : ∀ Q Q' : VK, (∀ v H, Q v H → Q' v H) → te σ H Q → te σ H Q') : tAsg te (gName i) D σ H := mono _ _ hi q
theorem gname_of {i : Nat} {v : V} {σ : L2.St} {H : Hp} {Q : L2.St → Hp → Prop} (q : ttg' C cl [i] (tName i) v σ H Q) : gName i v σ H Q := by
  obtain ⟨γ, σw, h, w, sl, hc, r, p⟩ := q
  unfold tName at p
  split at p
  · exact p γ _ H (Ext.refl _ _) (Keep.refl _ _) hc (sl.set r) (wipe_set List.mem_cons_self)
  · exact p.elim
theorem psv_set {i : Nat} {x : Str} {pos' : Pos} (hN : X.N.Nodup) (hi : X.N[i]? = some x) (hx : Loc X.env.scope x) (he : PE X e (tev C cl Wx xe)) (hs : swapsWith e (some (.Name x pos')) pos.line X.env = pure false) (hf : X.fn x = true ∨ X.env.scope.names.lookup x = some .local) :
    PS X (.Assign [.Name x pos'] e pos) (tst C cl Wx (sAsg (tName i) xe)) := PS.imp (ps_set hN hi hx he hs hf) fun D σ H q => by
  have z : tAsg (tev C cl Wx xe) (ttg' C cl [i] (tName i)) D σ H := asg_sem q
  exact tev.imp z fun v H' y => gname_of y
/-- name = [.. for ..] on one line -/
theorem psv_setLc {i : Nat} {y : Str} {py : Pos} {elt tg iter : Expr} {ifs : List Expr} {scope : Scope} {own : List (Str × Nat)} {pos spos : Pos} {k : IK} {its : Exs} {xi : Exb} {m : Bool} (hc : X.calm = true) (hN : X.N.Nodup) (hy : X.N[i]? = some y) (hyl : X.env.scope.names.lookup y = some .local)
    (hsw : swapsWith (.ListComp elt [⟨tg, iter, ifs, 0⟩] scope pos) (some (.Name y py)) spos.line X.env = pure true) (hi : PI X tg iter (tit C cl Wx k its)) (ok : BlkOk X.N X.env.scope scope own)
    (hg : ∀ (s : Shared) (H : Hp) (C' : Addr) (cls : List (Str × Addr)) (fp : List Addr), PG (X.blk s H scope (compEnvC scope cls C' X.env) fp) tg (ttg' C cl (own.map (·.2)) t)) (ht : ∀ (s : Shared) (H : Hp) (C' : Addr) (cls : List (Str × Addr)) (fp : List Addr), PTs (X.blk s H scope (compEnvC scope cls C' X.env) fp) ifs (tfs C cl WF xi))
    (he : ∀ (s : Shared) (H : Hp) (C' : Addr) (cls : List (Str × Addr)) (fp : List Addr), PE (X.blk s H scope (compEnvC scope cls C' X.env) fp) elt (tev C cl WF xe)) (hs : ∀ x, foldedSetIterable iter X.env x = pure x) :
    PS X (.Assign [.Name y py] (.ListComp elt [⟨tg, iter, ifs, 0⟩] scope pos) spos) (tst C cl Wx (sAsg (tName i) (xComp m (own.map (·.2)) t k its xi xe))) :=
  PS.imp (ps_setLc hc hN hy hyl hsw hi ok hg ht he hs) fun D σ H q => by
    have z : tAsg (tev C cl Wx (xComp m (own.map (·.2)) t k its xi xe)) (ttg' C cl [i] (tName i)) D σ H := asg_sem q
    exact lc_sem (tev.imp z fun v H' y => gname_of y)
/-- a comprehension as a value -/
theorem pv_lc {elt tg iter : Expr} {ifs : List Expr} {scope : Scope} {own : List (Str × Nat)} {pos : Pos} {k : IK} {its : Exs} {xi : Exb} {m : Bool} (hc : X.calm = true) (hN : X.N.Nodup) (hi : PI X tg iter (tit C cl Wx k its)) (ok : BlkOk X.N X.env.scope scope own)
    (hg : ∀ (s : Shared) (H : Hp) (C' : Addr) (cls : List (Str × Addr)) (fp : List Addr), PG (X.blk s H scope (compEnvC scope cls C' X.env) fp) tg (ttg' C cl (own.map (·.2)) t)) (ht : ∀ (s : Shared) (H : Hp) (C' : Addr) (cls : List (Str × Addr)) (fp : List Addr), PTs (X.blk s H scope (compEnvC scope cls C' X.env) fp) ifs (tfs C cl WF xi))
    (he : ∀ (s : Shared) (H : Hp) (C' : Addr) (cls : List (Str × Addr)) (fp : List Addr), PE (X.blk s H scope (compEnvC scope cls C' X.env) fp) elt (tev C cl WF xe)) (hs : ∀ x, foldedSetIterable iter X.env x = pure x) :
    PE X (.ListComp elt [⟨tg, iter, ifs, 0⟩] scope pos) (tev C cl Wx (xComp m (own.map (·.2)) t k its xi xe)) :=
  PE.imp (pe_lc hc hN hi ok hg ht he hs) fun σ H Q q => lc_sem q
/-- a, b = x, y -/
theorem psv_par {i j : Nat} {x y : Str} {a b : Expr} {px py pt : Pos} {kt k2 pt2} (hc : X.calm = true) (hN : X.N.Nodup) (hi : X.N[i]? = some x) (hj : X.N[j]? = some y) (hij : i ≠ j)
    (hx : X.env.scope.names.lookup x = some .local) (hy : X.env.scope.names.lookup y = some .local) (ha : PA X [a, b] (tes C cl Wx xs))
    (hw : swappedStores [.Tuple [.Name x px, .Name y py] kt pt] (.Tuple [a, b] k2 pt2) X.env = pure (some [x, y]))
    (hs : swapsWithSole [.Tuple [.Name x px, .Name y py] kt pt] (.Tuple [a, b] k2 pt2) pos.line X.env = pure false) :
    PS X (.Assign [.Tuple [.Name x px, .Name y py] kt pt] (.Tuple [a, b] k2 pt2) pos) (tst C cl Wx (sPar i j xs)) := PS.imp (ps_par hc hN hi hj hij hx hy ha hw hs) fun D σ H ⟨γ, σw, h, sl, hcc, p⟩ => by
  refine ⟨γ, σw, h, sl, hcc, ?_⟩
  unfold sPar at p
  rcases st_cases sl p with ⟨ws, h1, ea, q⟩ | ⟨cc, aa, h1, ea, q⟩
  · rw [ea]
    intro γ1 us H1 e1 k1 c1 r1
    match ws, q with
    | [w1, w2], q =>
      obtain ⟨v1, v2, rfl, g1, g2⟩ := two_rw r1
      exact ⟨v1, v2, rfl, q γ1 _ H1 e1 k1 c1 (((sl.ext e1).set g1).set g2)⟩
    | [], q => exact q.elim
    | [_], q => exact q.elim
    | _ :: _ :: _ :: _, q => exact q.elim
  · rw [ea]; exact q
theorem three_rw {γ : Gh} {w u z : W} {vs : List V} (r : RWs C γ [w, u, z] vs) : ∃ v v2 v3, vs = [v, v2, v3] ∧ RW C γ w v ∧ RW C γ u v2 ∧ RW C γ z v3 := by
  obtain ⟨v, r1, rfl, a1, v2, r2, rfl, a2, v3, r3, rfl, a3, rfl⟩ := r
  exact ⟨v, v2, v3, rfl, a1, a2, a3⟩
theorem psv_par3 {i j l : Nat} {x y z : Str} {a b c : Expr} {px py pz pt pos : Pos} {kt k2 pt2} (hc : X.calm = true) (hN : X.N.Nodup) (hi : X.N[i]? = some x) (hj : X.N[j]? = some y) (hl : X.N[l]? = some z) (hij : i ≠ j) (hil : i ≠ l) (hjl : j ≠ l)
    (hx : X.env.scope.names.lookup x = some .local) (hy : X.env.scope.names.lookup y = some .local) (hz : X.env.scope.names.lookup z = some .local) (ha : PA X [a, b, c] (tes C cl Wx xs))
    (hw : swappedStores [.Tuple [.Name x px, .Name y py, .Name z pz] kt pt] (.Tuple [a, b, c] k2 pt2) X.env = pure (some [x, y, z]))
    (hs : swapsWithSole [.Tuple [.Name x px, .Name y py, .Name z pz] kt pt] (.Tuple [a, b, c] k2 pt2) pos.line X.env = pure false) :
    PS X (.Assign [.Tuple [.Name x px, .Name y py, .Name z pz] kt pt] (.Tuple [a, b, c] k2 pt2) pos) (tst C cl Wx (sPar3 i j l xs)) := PS.imp (ps_par3 hc hN hi hj hl hij hil hjl hx hy hz ha hw hs) fun D σ H ⟨γ, σw, h, sl, hcc, p⟩ => by
  refine ⟨γ, σw, h, sl, hcc, ?_⟩
  unfold sPar3 at p
  rcases st_cases sl p with ⟨ws, h1, ea, q⟩ | ⟨cc, aa, h1, ea, q⟩
  · rw [ea]
    intro γ1 us H1 e1 k1 c1 r1
    match ws, q with
    | [w1, w2, w3], q =>
      obtain ⟨v1, v2, v3, rfl, g1, g2, g3⟩ := three_rw r1
      exact ⟨v1, v2, v3, rfl, q γ1 _ H1 e1 k1 c1 ((((sl.ext e1).set g1).set g2).set g3)⟩
    | [], q => exact q.elim
    | [_], q => exact q.elim
    | [_, _], q => exact q.elim
    | _ :: _ :: _ :: _ :: _, q => exact q.elim
  · rw [ea]; exact q
theorem psv_while (hp : PassesOwn (model X.prog X.w) X.A X.env X.xe) (hc : PT X c (ttv C cl Wx xc)) (hb : PSs X body (tst C cl Wx b)) : PS X (.While c body [] pos) (tst C cl Wx (sWh xc b)) := PS.imp (ps_while hp hc hb) fun D σ H ⟨γ, σw, h, sl, hcc, p⟩ => by
  refine ⟨fun m σ H => ∃ γ σw h, SL C γ σw σ ∧ HC C γ h H ∧ PoS C γ H (whGo (xc cl) (b cl) m σw h) D Wx, ⟨wfuel, γ, σw, h, sl, hcc, p⟩, ?_⟩
  rintro m σ H ⟨γ, σw, h, sl, hcc, p⟩
  cases m with
  | zero => exact p.elim
  | succ m =>
    unfold whGo at p
    refine ⟨γ, σw, h, sl, hcc, ?_⟩
    rcases st_cases sl p with ⟨w, h1, ea, q⟩ | ⟨cc, aa, h1, ea, q⟩
    · rw [ea]
      cases w with
      | bl k =>
        intro γ1 H1 e1 k1 c1
        have q1 := PoS.step q e1 k1
        cases k with
        | false => rw [if_neg (by decide)]; exact q1 γ1 σ H1 (Ext.refl _ _) (Keep.refl _ _) c1 (sl.ext e1)
        | true =>
          rw [if_pos rfl]
          refine ⟨fun σ' H' => ∃ γ σw h, SL C γ σw σ' ∧ HC C γ h H' ∧ PoS C γ H' (whGo (xc cl) (b cl) m σw h) D Wx, fun σ' H' n => ⟨m, Nat.lt_succ_self m, n⟩, γ1, σw, h1, sl.ext e1, c1, ?_⟩
          dsimp only at q1
          cases eb : b cl σw h1 with
          | no => rw [eb] at q1; exact q1
          | exn cc aa σ2 h2 => rw [eb] at q1; exact q1
          | ok fl h2 =>
            rw [eb] at q1
            cases fl with
            | nx σ2 => exact fun γ2 σ3 H2 e2 k2 c2 s2 => ⟨γ2, σ2, h2, s2, c2, PoS.step q1 e2 k2⟩
            | brk σ2 => exact q1
            | ret w => exact q1
      | _ => exact q.elim
    · rw [ea]; exact q
end
end Ov
/-! calls: of defs, of classes, of methods -/
namespace Ov
open PySem PySem.Spec PyProof.Rows L2
/-- what a def keeps -/
def spC (C : Cf) (cl : CL) (f : Nat) : Sp := fun vs H Q E => ∃ γ h ws, HC C γ h H ∧ RWs C γ ws vs ∧ PoE C γ H (cl f ws h) Q E
section
variable {C : Cf} {γ γ' : Gh} {h : Hw} {H H' : Hp} {Q : VK} {E : XK}
/-! ### what a def's end forgets -/
theorem unders_rw {n : Nat} {γ2 : Gh} (hi : ∀ (m : Nat) (a : Addr), m < n → γ.ι[m]? = some a → γ2.ι[m]? = some a) (hf : ∀ a o, γ.F a = some o → γ2.F a = some o) {c : Cell} {a : Addr} (u : Cell.under n c = true) (q : CellIs C γ H a c) (hF : γ2.F = γ.F) : CellIs C γ2 H a c := by
  cases c with
  | lst us => obtain ⟨f, ys, hh, r⟩ := q; exact ⟨by rw [hF]; exact f, ys, hh, RWs.cut hi hf _ _ u r⟩
  | dct _ => exact q
  | obj k ns us => obtain ⟨f, dx, ys, fd, hh, hd, l, r⟩ := q; exact ⟨by rw [hF]; exact f, dx, ys, by rw [hF]; exact fd, hh, hd, l, RWs.cut hi hf _ _ u r⟩
  | dead => trivial
theorem HC.trim (c : HC C γ h H) {h1 : Hw} {H1 : Hp} (e : Ext γ γ' H) (c1 : HC C γ' h1 H1) {w : W} (u : (W.under h.length w && (h1.take h.length).all (Cell.under h.length)) = true) :
    HC C { γ' with ι := γ.ι } (h1.take h.length) H1 ∧ ∀ v, RW C γ' w v → RW C { γ' with ι := γ.ι } w v := by
  rw [Bool.and_eq_true] at u
  obtain ⟨l, q, ln⟩ := e.pre
  have ll : h.length ≤ h1.length := by rw [c1.len, q, List.length_append, c.len]; omega
  have ix : ∀ (m : Nat) (a : Addr), m < h.length → γ'.ι[m]? = some a → γ.ι[m]? = some a := fun m a hm i => by
    rw [q, List.getElem?_append_left (by rw [← c.len]; exact hm)] at i
    exact i
  refine ⟨⟨by rw [List.length_take, Nat.min_eq_left ll, c.len], c.nd, fun m a cc i hm => ?_, fun a i => c1.there a (by rw [q]; exact List.mem_append_left _ i), c1.frz, fun a pa => ?_, c1.own⟩, fun v r => RW.cut (γ' := { γ' with ι := γ.ι }) ix (fun _ _ z => z) w v u.1 r⟩
  · have hml : m < h.length := by rw [c.len]; exact (List.getElem?_eq_some_iff.mp i).1
    have hm' : h1[m]? = some cc := by rw [List.getElem?_take_of_lt hml] at hm; exact hm
    refine unders_rw (γ := γ') (γ2 := { γ' with ι := γ.ι }) ix (fun _ _ z => z) ?_ (c1.cell m a cc ?_ hm') rfl
    · exact List.all_eq_true.mp u.2 cc (List.mem_of_getElem? hm)
    · rw [q, List.getElem?_append_left (by rw [← c.len]; exact hml)]; exact i
  · obtain ⟨p1, p2, p3, p4⟩ := c1.prot a pa
    exact ⟨p1, p2, fun m => p3 (by rw [q]; exact List.mem_append_left _ m), fun b hb => p4 b (by rw [q]; exact List.mem_append_left _ hb)⟩
theorem PoE.trim {r : R W} (c : HC C γ h H) (p : PoE C γ H (trimR h.length r) Q E) : PoE C γ H r Q E := by
  cases r with
  | no => exact p
  | ok w h1 =>
    intro γ' v H' e k c1 rw'
    unfold trimR Ov.trim at p
    dsimp only at p
    split at p
    · rename_i u
      obtain ⟨c2, r2⟩ := c.trim e c1 u
      exact p { γ' with ι := γ.ι } v H' ⟨⟨[], by simp, fun _ z => nomatch z⟩, e.frz, e.prot⟩ k c2 (r2 v rw')
    · exact p γ' v H' e k c1 rw'
  | exn cc a h1 =>
    intro γ' H' cls d e k c1 x
    unfold trimR Ov.trim at p
    dsimp only at p
    split at p
    · rename_i u
      obtain ⟨c2, r2⟩ := c.trim e c1 u
      refine p { γ' with ι := γ.ι } H' cls d ⟨⟨[], by simp, fun _ z => nomatch z⟩, e.frz, e.prot⟩ k c2 ⟨x.1, ?_⟩
      cases a with
      | none => trivial
      | some w =>
        obtain ⟨dd, v, e1, e2, e3⟩ := x.2
        exact ⟨dd, v, e1, e2, r2 v e3⟩
    · exact p γ' H' cls d e k c1 x
/-- a def's end -/
theorem PoS.back {r : RS} (p : PoE C γ H r.back Q E) : PoS C γ H r { nx := fun _ H' => Q .non H', rt := Q } (fun cls d _ H' => E cls d H') := by
  cases r with
  | no => exact p
  | exn c a σ h => exact fun γ' σ H' cls d e k cc _ x => p γ' H' cls d e k cc x
  | ok fl h =>
    cases fl with
    | nx σ => exact fun γ' σ H' e k c _ => p γ' .non H' e k c rfl
    | brk σ => exact p.elim
    | ret w => exact p
/-! ### a def without cells -/
theorem HC.bare (c : HC C γ h H) : HC C { ι := [], F := γ.F, P := fun a => H a ≠ none ∧ γ.F a = none } [] H :=
  ⟨rfl, .nil, fun m a cc i _ => by simp at i, fun a i => (by simp at i), c.frz, fun a p => ⟨p.1, p.2, by simp, fun b i => (by simp at i)⟩, c.own⟩
theorem HC.clothe (c : HC C γ h H) {h1 : Hw} (e : Ext { ι := [], F := γ.F, P := fun a => H a ≠ none ∧ γ.F a = none } γ' H) (k : Keep { ι := [], F := γ.F, P := fun a => H a ≠ none ∧ γ.F a = none } H H') (c1 : HC C γ' h1 H') :
    HC C { ι := γ.ι, F := γ'.F, P := γ.P } h H' ∧ Ext γ { ι := γ.ι, F := γ'.F, P := γ.P } H ∧ Keep γ H H' := by
  have st : ∀ a o, H a = some o → H' a = some o := fun a o q => k.same a o q fun m => by simp at m
  have nf : ∀ a, H a ≠ none → γ.F a = none → γ'.F a = none := fun a q f => by
    have pr := c1.prot a
    rw [e.prot] at pr
    exact (pr ⟨q, f⟩).2.1
  have mo : ∀ {ws vs}, RWs C γ ws vs → RWs C { ι := γ.ι, F := γ'.F, P := γ.P } ws vs := fun r => (⟨fun _ _ z => z, e.frz⟩ : Mor γ { ι := γ.ι, F := γ'.F, P := γ.P }).rws r
  refine ⟨⟨c.len, c.nd, fun m a cc i hm => ?_, fun a i => k.there a (c.there a i), c1.frz, fun a p => ?_, c1.own⟩, ⟨⟨[], by simp, fun _ z => nomatch z⟩, e.frz, rfl⟩, ⟨fun a o q _ => st a o q, k.there⟩⟩
  · have q := c.cell m a cc i hm
    cases cc with
    | lst us => obtain ⟨f, ys, hh, r⟩ := q; exact ⟨nf a (by rw [hh]; simp) f, ys, st _ _ hh, mo r⟩
    | dct _ => exact q
    | obj k ns us => obtain ⟨f, dx, ys, fd, hh, hd, l, r⟩ := q; exact ⟨nf a (by rw [hh]; simp) f, dx, ys, nf dx (by rw [hd]; simp) fd, st _ _ hh, st _ _ hd, l, mo r⟩
    | dead => trivial
  · obtain ⟨p1, p2, p3, p4⟩ := c.prot a p
    refine ⟨k.there a p1, nf a p1 p2, p3, fun b hb => ?_⟩
    cases q : H a with
    | none => exact absurd q p1
    | some o => rw [st a o q]; exact fun z => p4 b hb (q.trans z)
theorem PoE.pure {r : R W} (c : HC C γ h H) (p : PoE C γ H (runPure r h) Q E) : PoE C { ι := [], F := γ.F, P := fun a => H a ≠ none ∧ γ.F a = none } H r Q E := by
  cases r with
  | no => exact p
  | ok w h1 =>
    intro γ' v H' e k c1 r
    unfold runPure at p
    dsimp only at p
    split at p
    · rename_i u
      obtain ⟨c2, e2, k2⟩ := c.clothe e k c1
      exact p { ι := γ.ι, F := γ'.F, P := γ.P } v H' e2 k2 c2 (RW.pure (γ := γ') (γ' := { ι := γ.ι, F := γ'.F, P := γ.P }) (fun _ _ z => z) w v u r)
    · exact p.elim
  | exn cc a h1 =>
    intro γ' H' cls d e k c1 x
    unfold runPure at p
    dsimp only at p
    split at p
    · rename_i u
      obtain ⟨c2, e2, k2⟩ := c.clothe e k c1
      refine p { ι := γ.ι, F := γ'.F, P := γ.P } H' cls d e2 k2 c2 ⟨x.1, ?_⟩
      cases a with
      | none => trivial
      | some w =>
        obtain ⟨dd, v, e1, e2, e3⟩ := x.2
        exact ⟨dd, v, e1, e2, RW.pure (γ := γ') (γ' := { ι := γ.ι, F := γ'.F, P := γ.P }) (fun _ _ z => z) w v u e3⟩
    · exact p.elim
theorem sl_start : ∀ {N : List Str} {ws : List W} {vs : List V}, RWs C γ ws vs → SL C γ (enter N.length ws) (L2.start N vs) := by
  intro N ws vs r
  have l := r.length
  refine ⟨by simp [enter, L2.start, l], fun i w e => ?_⟩
  unfold enter at e
  by_cases hi : i < ws.length
  · rw [List.getElem?_append_left (by simpa using hi), List.getElem?_map] at e
    cases e2 : ws[i]? with
    | none => rw [e2] at e; cases e
    | some u =>
      rw [e2] at e; cases e
      obtain ⟨v, q1, q2⟩ := r.get e2
      refine ⟨v, ?_, q2⟩
      unfold L2.start
      rw [List.getElem?_append_left (by simpa [← l] using hi), List.getElem?_map, q1]
      rfl
  · rw [List.getElem?_append_right (by simpa using Nat.le_of_not_lt hi), List.getElem?_replicate] at e
    split at e <;> cases e
end
/-- the def by its body -/
theorem def_ok {P : Program} {w : World} {C : Cf} {mg : Str → Option Value} {base : Heap} {fns : List Fn} {k f : Nat} {fn : Fn} {x qual : Str} {st : Stmt} {fa : Addr} {fd : FuncData} {N ps : List Str}
    (hf : fns[f]? = some fn) (F : L2.Fun C.K x qual st fa fd) (S : FnScope N ps (defScope st)) (hnp : fn.np = ps.length) (hnl : fn.nl = N.length)
    (hbody : ∀ (cdv : Value) (A : Around) (outer : List Env) (s : Shared) (H : Hp) (E : XK), Room (2 * k + 2) (A.deeper (envOfC qual (defScope st) s.heap.objs.size fa cdv)) → A.guards = some [] →
      PSs (cxOf (L2.CX P w) P w C.K mg base N qual (defScope st) fa cdv A outer s H E) (defBody st) (tst C (callF fns k) (fun cls d _ H => E cls d H) fn.body)) :
    FnG P w C.K mg base (2 * (k + 1) + 1) fa fd ps (spC C (callF fns (k + 1)) f) := by
  obtain ⟨oc, od, kV, doc, pm, an, cdv, ct, osl, rfl, lk, hcd⟩ := F.ex
  have one : ∀ ws h, callF fns (k + 1) f ws h = runF fn (callF fns k) ws h := fun ws h => by simp only [callF, hf]
  refine fnG_of (k := 2 * k + 2) lk hcd S (fun vs H Q E q => ?_) fun A outer s H vs Q E hr hg q => ?_
  · obtain ⟨γ, h, ws, hc, r, p⟩ := q
    rw [one] at p
    unfold runF at p
    split at p
    · rename_i z
      rw [← r.length, Nat.eq_of_beq_eq_true z, hnp]
    · exact p.elim
  · obtain ⟨γ, h, ws, hc, r, p⟩ := q
    rw [one] at p
    refine ⟨_, hbody cdv A outer s H E hr hg, ?_⟩
    unfold runF at p
    split at p
    · split at p
      · split at p
        · rename_i u
          rw [hnl] at p
          exact ⟨{ ι := [], F := γ.F, P := fun a => H a ≠ none ∧ γ.F a = none }, enter N.length ws, [], sl_start (RWs.pure (γ := γ) (γ' := { ι := [], F := γ.F, P := fun a => H a ≠ none ∧ γ.F a = none }) (fun _ _ z => z) ws vs u r), hc.bare, PoS.back (PoE.pure hc p)⟩
        · exact p.elim
      · rw [hnl] at p
        exact ⟨γ, enter N.length ws, h, sl_start r, hc, PoS.back (PoE.trim hc p)⟩
    · exact p.elim
theorem def_zero {P : Program} {w : World} {C : Cf} {mg : Str → Option Value} {base : Heap} {fns : List Fn} {j f : Nat} {fa : Addr} {fd : FuncData} {ps : List Str} : FnG P w C.K mg base j fa fd ps (spC C (callF fns 0) f) :=
  .none fun vs H Q E ⟨γ, h, ws, hc, r, p⟩ => p
section
variable {X : Cx} {C : Cf} {cl : CL} {Wx : WX} {k : Nat} {f : Nat} {fa : Addr} {fd : FuncData} {ps : List Str} {x : Str} {p pos apos : Pos} {a o : Expr} {es : List Expr} {xs : Exs} {xo : Ex}
/-- f(..) -/
theorem pv_call (F : FnG X.prog X.w X.K X.mg X.base k fa fd ps (spC C cl f)) (hr : Room k X.A) (hgd : X.A.guards = some []) (hb : Binds X.K fd ps []) (tk : Takes X Wx) (hg : Gl X x) (hm : X.mg x = some (.ref fa)) (hk : PySem.W.keepIn X.K (.ref fa) = true)
    (ha : PA X (a :: es) (tes C cl Wx xs)) (hdb : (x == ("__debug__" : Str)) = false) (he : starEach (a :: es) X.env = (false, eval a X.env) :: starEach es X.env) (hpl : (backTo pos (starEach es X.env)).any (·.1) = false) :
    PE X (.Call (.Name x p) (a :: es) [] pos) (tev C cl Wx (xCall f xs)) := by
  refine ⟨fun pins s σ H Q I h => ?_⟩
  refine wpAny_Call_Name_kw (ld_glob I hg hm ?_ hdb)
  refine PySem.W.callWith_K (h₀ := X.base) I.ok.mod.kin hk (thn (ha.run pos pins s σ H _ I (tes1 (f := cl f) h)) fun us s1 ⟨vs, H1, I1, r, q⟩ => ⟨I1.kIn, ?_⟩) he hpl
  exact goG F hr hgd hb tk I1 r q
theorem pv_call0 (F : FnG X.prog X.w X.K X.mg X.base k fa fd ps (spC C cl f)) (hr : Room k X.A) (hgd : X.A.guards = some []) (hb : Binds X.K fd ps []) (tk : Takes X Wx) (hg : Gl X x) (hm : X.mg x = some (.ref fa)) (hk : PySem.W.keepIn X.K (.ref fa) = true)
    (hdb : (x == ("__debug__" : Str)) = false) : PE X (.Call (.Name x p) [] [] pos) (tev C cl Wx (xCall f xsNil)) := by
  refine ⟨fun pins s σ H Q I h => ?_⟩
  refine wpAny_Call_Name_kw (ld_glob I hg hm ?_ hdb)
  obtain ⟨γ, σw, h0, sl, hc, p⟩ := h
  exact PySem.W.callWith_K0 I.kIn hk (goG F hr hgd hb tk I .nil ⟨γ, h0, [], hc, rfl, p⟩)
end
end Ov
/-! instances: made, their attributes written, their methods called -/
namespace Ov
open PySem PySem.Spec PyProof.Rows L2
section
variable {C : Cf} {γ γ' : Gh} {h : Hw} {H H' : Hp} {Q : VK} {E : XK}
/-- a new instance, a cell -/
theorem HC.cellO (c : HC C γ h H) {x dx : Addr} {k : Nat} (nx : H x = none) (nd : H dx = none) (ne : dx ≠ x) :
    ∃ γ', Ext γ γ' H ∧ Keep γ H (upd (upd H dx (.own x)) x (.ins (C.ca k) dx [])) ∧ HC C γ' (h ++ [.obj k [] []]) (upd (upd H dx (.own x)) x (.ins (C.ca k) dx [])) ∧ γ'.ι[h.length]? = some x := by
  have old : ∀ a, H a ≠ none → upd (upd H dx (.own x)) x (.ins (C.ca k) dx []) a = H a := fun a q => by
    rw [upd_ne (fun z => by subst z; exact q nx), upd_ne (fun z => by subst z; exact q nd)]
  have old' : ∀ a o, H a = some o → upd (upd H dx (.own x)) x (.ins (C.ca k) dx []) a = some o := fun a o q => by
    rw [old a (by rw [q]; simp)]; exact q
  have fn : ∀ a, H a = none → γ.F a = none := fun a n => by
    cases e : γ.F a with
    | none => rfl
    | some u => rw [c.frz _ _ e] at n; cases n
  have nι : x ∉ γ.ι := fun hp => c.there x hp nx
  have E : Ext γ { γ with ι := γ.ι ++ [x] } H := ⟨⟨[x], rfl, fun a ha => (List.mem_singleton.mp ha) ▸ nx⟩, fun _ _ e => e, rfl⟩
  refine ⟨{ γ with ι := γ.ι ++ [x] }, E, ⟨fun a u e _ => old' a u e, fun a e => by rw [old a e]; exact e⟩, ⟨by simp [c.len], nodup_append_one c.nd nι, fun m a cc i hm => ?_, fun a i => ?_, fun a u e => old' a u (c.frz a u e), fun a pa => ?_, fun d y e => ?_⟩, ?_⟩
  · by_cases hlt : m < γ.ι.length
    · have i : (γ.ι ++ [x])[m]? = some a := i
      rw [List.getElem?_append_left hlt] at i
      rw [List.getElem?_append_left (by rw [c.len]; exact hlt)] at hm
      have q := c.cell m a cc i hm
      cases cc with
      | lst us =>
        obtain ⟨f, ys, hh, r'⟩ := q
        exact ⟨f, ys, old' _ _ hh, E.rws r'⟩
      | dct _ => exact q
      | obj k ns us =>
        obtain ⟨f, dx, ys, fd, hh, hd, l, r'⟩ := q
        exact ⟨f, dx, ys, fd, old' _ _ hh, old' _ _ hd, l, E.rws r'⟩
      | dead => trivial
    · have hm' : m = γ.ι.length := by
        have h1 : m < γ.ι.length + 1 := by simpa using (List.getElem?_eq_some_iff.mp i).1
        omega
      subst hm'
      have : a = x := by simpa using i.symm
      subst this
      have : cc = .obj k [] [] := by
        rw [← c.len] at hm
        simpa using hm.symm
      subst this
      exact ⟨fn _ nx, dx, [], fn _ nd, upd_same, by rw [upd_ne ne, upd_same], rfl, rfl⟩
  · rcases List.mem_append.mp i with i | i
    · rw [old a (c.there a i)]; exact c.there a i
    · have : a = x := by simpa using i
      subst this; rw [upd_same]; simp
  · obtain ⟨a1, a2, a3, a4⟩ := c.prot a pa
    refine ⟨by rw [old a a1]; exact a1, a2, fun hm => ?_, fun b hb => ?_⟩
    · rcases List.mem_append.mp hm with hm | hm
      · exact a3 hm
      · exact a1 (by rw [show a = x by simpa using hm]; exact nx)
    · rw [old a a1]
      rcases List.mem_append.mp hb with hb | hb
      · exact a4 b hb
      · have : b = x := by simpa using hb
        subst this
        exact fun e => c.own a _ e nx
  · by_cases z : d = x
    · subst z; rw [upd_same] at e; cases e
    · rw [upd_ne z] at e
      by_cases z2 : d = dx
      · subst z2; rw [upd_same] at e; cases e; rw [upd_same]; simp
      · rw [upd_ne z2] at e
        have := c.own d y e
        rw [old y this]; exact this
  · rw [c.len]; simp
/-- a cell with an instance is written -/
theorem HC.setO (c : HC C γ h H) {n : Nat} {a dx : Addr} {k : Nat} {ns ms : List Nat} {ws us : List W} {vs : List V} {xs' : List (Str × V)} (i : γ.ι[n]? = some a) (hn : h[n]? = some (.obj k ns ws)) (ha : H a = some (.ins (C.ca k) dx xs')) (l : ms.length = vs.length) (r : RWs C γ us vs) :
    Keep γ H (upd H a (.ins (C.ca k) dx ((ms.map C.nm).zip vs))) ∧ HC C γ (h.set n (.obj k ms us)) (upd H a (.ins (C.ca k) dx ((ms.map C.nm).zip vs))) := by
  obtain ⟨fa, dx', xs, fd, ha', hd', _⟩ := c.cell n a _ i hn
  rw [ha] at ha'; cases ha'
  have mem : a ∈ γ.ι := List.mem_of_getElem? i
  have nda : dx ≠ a := fun z => by subst z; rw [ha] at hd'; cases hd'
  have key : ∀ b, H b ≠ none → upd H a (.ins (C.ca k) dx ((ms.map C.nm).zip vs)) b ≠ none := fun b e => by
    by_cases z : b = a
    · subst z; rw [upd_same]; simp
    · rw [upd_ne z]; exact e
  refine ⟨⟨fun b o e q => ?_, key⟩, ⟨by rw [List.length_set]; exact c.len, c.nd, fun m b cc im hm => ?_, fun b ib => key b (c.there b ib), fun b o e => ?_, fun b pb => ?_, fun d y e => ?_⟩⟩
  · by_cases z : b = a
    · subst z; have := q mem; rw [fa] at this; cases this
    · rw [upd_ne z]; exact e
  · by_cases z : m = n
    · subst z
      rw [i] at im; cases im
      have hl : m < h.length := (List.getElem?_eq_some_iff.mp hn).1
      rw [List.getElem?_set_self hl] at hm
      cases hm
      exact ⟨fa, dx, vs, fd, upd_same, by rw [upd_ne nda]; exact hd', l, r⟩
    · rw [List.getElem?_set_ne (Ne.symm z)] at hm
      have za : b ≠ a := fun e => by subst e; exact z (nodup_get c.nd im i)
      have q := c.cell m b cc im hm
      cases cc with
      | lst us => obtain ⟨f, ys, hh, r'⟩ := q; exact ⟨f, ys, by rw [upd_ne za]; exact hh, r'⟩
      | dct _ => exact q
      | obj k ns us =>
        obtain ⟨f, dx, ys, fd, hh, hd, l, r'⟩ := q
        have zd : dx ≠ a := fun e => by subst e; rw [ha] at hd; cases hd
        exact ⟨f, dx, ys, fd, by rw [upd_ne za]; exact hh, by rw [upd_ne zd]; exact hd, l, r'⟩
      | dead => trivial
  · by_cases z : b = a
    · subst z; rw [fa] at e; cases e
    · rw [upd_ne z]; exact c.frz b o e
  · obtain ⟨p1, p2, p3, p4⟩ := c.prot b pb
    have z : b ≠ a := fun e => by subst e; exact p3 mem
    exact ⟨key b p1, p2, p3, fun d hd => by rw [upd_ne z]; exact p4 d hd⟩
  · by_cases z : d = a
    · subst z; rw [upd_same] at e; cases e
    · rw [upd_ne z] at e
      exact key y (c.own d y e)
/-- a cell with an instance stands for good -/
theorem HC.frzO (c : HC C γ h H) {n : Nat} {a : Addr} {k : Nat} {ns : List Nat} {ws : List W} (i : γ.ι[n]? = some a) (hn : h[n]? = some (.obj k ns ws)) :
    ∃ γ', Ext γ γ' H ∧ γ'.ι = γ.ι ∧ HC C γ' (h.set n .dead) H ∧ RW C γ' (.obj k ns ws) (.ref a) := by
  obtain ⟨fa, dx, xs, fd, ha, hd, l, r⟩ := c.cell n a _ i hn
  have mem : a ∈ γ.ι := List.mem_of_getElem? i
  have nda : dx ≠ a := fun z => by subst z; rw [ha] at hd; cases hd
  have fz : ∀ b o, γ.F b = some o → upd (upd γ.F a (.ins (C.ca k) dx ((ns.map C.nm).zip xs))) dx (.own a) b = some o := fun b o e => by
    have z1 : b ≠ a := fun z => by subst z; rw [fa] at e; cases e
    have z2 : b ≠ dx := fun z => by subst z; rw [fd] at e; cases e
    rw [upd_ne z2, upd_ne z1]; exact e
  have ff : ∀ b, b ≠ a → b ≠ dx → upd (upd γ.F a (.ins (C.ca k) dx ((ns.map C.nm).zip xs))) dx (.own a) b = γ.F b := fun b z1 z2 => by rw [upd_ne z2, upd_ne z1]
  have mo : Mor γ { γ with F := upd (upd γ.F a (.ins (C.ca k) dx ((ns.map C.nm).zip xs))) dx (.own a) } := ⟨fun _ _ z => z, fz⟩
  refine ⟨{ γ with F := upd (upd γ.F a (.ins (C.ca k) dx ((ns.map C.nm).zip xs))) dx (.own a) }, ⟨⟨[], by simp, fun _ z => nomatch z⟩, fz, rfl⟩, rfl, ⟨by rw [List.length_set]; exact c.len, c.nd, fun m b cc im hm => ?_, c.there, fun b o e => ?_, fun b pb => ?_, c.own⟩, a, dx, xs, rfl, by show upd _ dx _ a = _; rw [upd_ne (Ne.symm nda), upd_same], upd_same, l, mo.rws r⟩
  · by_cases z : m = n
    · subst z
      have hl : m < h.length := (List.getElem?_eq_some_iff.mp hn).1
      rw [List.getElem?_set_self hl] at hm
      cases hm
      trivial
    · rw [List.getElem?_set_ne (Ne.symm z)] at hm
      have za : b ≠ a := fun e => by subst e; exact z (nodup_get c.nd im i)
      have q := c.cell m b cc im hm
      cases cc with
      | lst us =>
        obtain ⟨f, ys, hh, r'⟩ := q
        exact ⟨(ff b za fun e => by subst e; rw [hd] at hh; cases hh).trans f, ys, hh, mo.rws r'⟩
      | dct _ => exact q
      | obj k' ns' us =>
        obtain ⟨f, dx', ys, fd', hh, hd', l', r'⟩ := q
        refine ⟨(ff b za fun e => by subst e; rw [hd] at hh; cases hh).trans f, dx', ys, (ff dx' (fun e => by subst e; rw [ha] at hd'; cases hd') fun e => by subst e; rw [hd] at hd'; cases hd'; exact za rfl).trans fd', hh, hd', l', mo.rws r'⟩
      | dead => trivial
  · have e' : upd (upd γ.F a (.ins (C.ca k) dx ((ns.map C.nm).zip xs))) dx (.own a) b = some o := e
    by_cases z2 : b = dx
    · subst z2; rw [upd_same] at e'; cases e'; exact hd
    · rw [upd_ne z2] at e'
      by_cases z1 : b = a
      · subst z1; rw [upd_same] at e'; cases e'; exact ha
      · rw [upd_ne z1] at e'; exact c.frz b o e'
  · obtain ⟨p1, p2, p3, p4⟩ := c.prot b pb
    exact ⟨p1, (ff b (fun z => by subst z; exact p3 mem) fun z => by subst z; exact p4 a mem hd).trans p2, p3, p4⟩
/-- attributes put -/
theorem put_rw (inj : ∀ i j, C.nm i = C.nm j → i = j) {nm : Nat} {w : W} {y : V} (ry : RW C γ w y) : ∀ {ns : List Nat} {ws : List W} {vs : List V}, ns.length = vs.length → RWs C γ ws vs →
    ∃ us, putF (C.nm nm) y ((ns.map C.nm).zip vs) = ((putAttr nm w ns ws).1.map C.nm).zip us ∧ (putAttr nm w ns ws).1.length = us.length ∧ RWs C γ (putAttr nm w ns ws).2 us
  | [], ws, vs, l, r => by
    have : vs = [] := List.length_eq_zero_iff.mp l.symm
    subst this
    have : ws = [] := by cases ws with | nil => rfl | cons _ _ => obtain ⟨_, _, e, _⟩ := r; cases e
    subst this
    exact ⟨[y], rfl, rfl, RWs.cons ry RWs.nil⟩
  | n :: ns, ws, vs, l, r => by
    cases ws with
    | nil => cases r; cases l
    | cons u ws =>
      obtain ⟨v, vr, rfl, a, b⟩ := r
      by_cases z : Nat.beq n nm = true
      · have e := Nat.eq_of_beq_eq_true z
        subst e
        refine ⟨y :: vr, ?_, ?_, ?_⟩
        · show (if C.nm n = C.nm n then _ else _) = _
          rw [if_pos rfl]
          simp only [putAttr, z, if_true]
          rfl
        · simp only [putAttr, z, if_true]; exact l
        · simp only [putAttr, z, if_true]; exact RWs.cons ry b
      · have ne : C.nm n ≠ C.nm nm := fun e => z (by rw [inj _ _ e]; exact Nat.beq_refl nm)
        obtain ⟨us, e1, e2, e3⟩ := put_rw inj ry (nm := nm) (ns := ns) (Nat.succ.inj l) b
        refine ⟨v :: us, ?_, ?_, ?_⟩
        · show (if C.nm n = C.nm nm then _ else _) = _
          rw [if_neg ne]
          show (C.nm n, v) :: putF (C.nm nm) y ((ns.map C.nm).zip vr) = _
          rw [e1]
          simp only [putAttr, z]
          rfl
        · simp only [putAttr, z]; simp [e2]
        · simp only [putAttr, z]; exact RWs.cons a e3
end
section
variable {X : Cx} {C : Cf} {cl : CL} {Wx : WX} {k c : Nat} {f : Nat} {fz : Bool} {fa : Addr} {fd : FuncData} {ps : List Str} {x m : Str} {p pos apos : Pos} {a o value : Expr} {es : List Expr} {xs : Exs} {xo xe : Ex}
/-- what is left to show of C(..) -/
theorem new_sem {γ : Gh} {h : Hw} {H : Hp} {ws : List W} {vs : List V} {Q : VK} {E : XK} (hc : HC C γ h H) (r : RWs C γ ws vs) (p : PoE C γ H (newObj cl c f fz ws h) Q E) {y dx : Addr} (ny : H y = none) (nd : H dx = none) (ne : dx ≠ y) :
    spC C cl f (.ref y :: vs) (upd (upd H dx (.own y)) y (.ins (C.ca c) dx [])) (fun v H2 => v = .non ∧ Q (.ref y) H2) E := by
  obtain ⟨γ1, e1, k1, c1, ix⟩ := hc.cellO (k := c) ny nd ne
  refine ⟨γ1, h ++ [.obj c [] []], .ref h.length :: ws, c1, ⟨_, _, rfl, ⟨y, rfl, ix⟩, e1.rws r⟩, ?_⟩
  unfold newObj at p
  cases ec : cl f (.ref h.length :: ws) (h ++ [.obj c [] []]) with
  | no => rw [ec] at p; exact p
  | exn cc aa h1 =>
    rw [ec] at p
    have p' : PoE C γ H (.exn cc aa h1) Q E := PoE.trim hc p
    exact PoE.step p' e1 k1
  | ok w h1 =>
    rw [ec] at p
    cases w with
    | non =>
      intro γ2 v H2 e2 k2 c2 r2
      refine ⟨r2, ?_⟩
      have i2 := e2.ix _ _ ix
      cases fz with
      | false => exact p γ2 (.ref y) H2 (e1.trans k1 e2) (k1.trans e1 k2) c2 ⟨y, rfl, i2⟩
      | true =>
        have p' : PoE C γ H ((freezeO h1 h.length).bind fun w h2 => .ok w (trim h.length w h2)) Q E := p
        unfold freezeO at p'
        cases hn : h1[h.length]? with
        | none => rw [hn] at p'; exact p'.elim
        | some cc =>
          rw [hn] at p'
          cases cc with
          | obj k ns us =>
            dsimp only at p'
            split at p'
            · have p2 : PoE C γ H (.ok (.obj k ns us) (h1.set h.length .dead)) Q E := PoE.trim hc p'
              obtain ⟨γ3, e3, i3, c3, r3⟩ := c2.frzO i2 hn
              exact p2 γ3 (.ref y) H2 ((e1.trans k1 e2).trans (k1.trans e1 k2) e3) (k1.trans e1 k2) c3 r3
            · exact p'.elim
          | _ => exact p'.elim
    | _ => exact p.elim
theorem pv_new (M : Mk X.K (C.ca c) fa) (F : FnG X.prog X.w X.K X.mg X.base k fa fd ps (spC C cl f)) (hr : Room (k + 1) X.A) (hgd : X.A.guards = some []) (hb : Binds X.K fd ps []) (tk : Takes X Wx) (hg : Gl X x) (hm : X.mg x = some (.ref (C.ca c)))
    (ha : PA X (a :: es) (tes C cl Wx xs)) (hdb : (x == ("__debug__" : Str)) = false) (he : starEach (a :: es) X.env = (false, eval a X.env) :: starEach es X.env) (hpl : (backTo pos (starEach es X.env)).any (·.1) = false) :
    PE X (.Call (.Name x p) (a :: es) [] pos) (tev C cl Wx (xNew c f fz xs)) := by
  refine ⟨fun pins s σ H Q I h => ?_⟩
  refine wpAny_Call_Name_kw (ld_glob I hg hm ?_ hdb)
  refine PySem.W.callWith_K (h₀ := X.base) I.ok.mod.kin M.kp (thn (ha.run pos pins s σ H _ I (tes1 (f := newObj cl c f fz) h)) fun us s1 ⟨vs, H1, I1, r, γ, h0, ws, hc, rw', q⟩ => ⟨I1.kIn, ?_⟩) he hpl
  exact makeG M F hr hgd hb tk I1 r fun y dx ny nd ne => new_sem hc rw' q ny nd ne
/-- C.m(..), m a static method -/
structure SMet (K : PySem.W.Frag) (D : Addr) (m : Str) (q g : Addr) : Prop where
  rd : PySem.W.readsIn K D (.type "type") = true
  ga : PySem.W.specialIn K (.ref D) "__getattribute__" = some (some (.builtin "type.__getattribute__"))
  at_ : PySem.W.findCls K (.ref D) (.type "type") m = some (.get (.builtin "staticmethod.__get__") (.ref q) .none (.ref D))
  rc : ∃ rest, PySem.W.recIn K q "staticmethod" = some (.ref g :: rest)
  kp : PySem.W.keepIn K (.ref g) = true
theorem pv_static {D q : Addr} {pl : Sem Bool} (S : SMet X.K D m q fa) (F : FnG X.prog X.w X.K X.mg X.base k fa fd ps (spC C cl f)) (hr : Room k X.A) (hgd : X.A.guards = some []) (hb : Binds X.K fd ps []) (tk : Takes X Wx) (hg : Gl X x) (hm : X.mg x = some (.ref D))
    (ha : PA X (a :: es) (tes C cl Wx xs)) (hdb : (x == ("__debug__" : Str)) = false) (he : starEach (a :: es) X.env = (false, eval a X.env) :: starEach es X.env) (hpl : (backTo pos (starEach es X.env)).any (·.1) = false)
    (ht : eval (.Call (.Attribute (.Name x p) m apos) (a :: es) [] pos) X.env = (do
      let ov ← eval (.Name x p) X.env
      standAt apos.atName
      let (f, first) ← holding [ov] (getMethod ov m pl)
      callWith pos f first (backTo pos (starEach (a :: es) X.env)) (backToKw pos (keywordEach [] X.env)))) :
    PE X (.Call (.Attribute (.Name x p) m apos) (a :: es) [] pos) (tev C cl Wx (xCall f xs)) := by
  refine ⟨fun pins s σ H Q I h => ?_⟩
  refine PySem.W.methodCall_KW (pl := pl) (ld_glob I hg hm ?_ hdb) ht
  obtain ⟨rest, hp⟩ := S.rc
  refine PySem.W.method_cls I.kIn S.ga (PySem.W.cls_bind I.kIn S.rd S.at_ (wpAny_call (PySem.W.sm_get (s := { s with toks := s.toks + 1 }) I.kIn hp (PySem.W.handed_on rfl ?_))))
  have J : Inv X pins σ H { s with toks := s.toks + 1 } := I.tok _
  refine PySem.W.callWith_K (h₀ := X.base) J.ok.mod.kin S.kp (thn (ha.run pos pins _ σ H _ J (tes1 (f := cl f) h)) fun us s1 ⟨vs, H1, I1, r, q⟩ => ⟨I1.kIn, ?_⟩) he hpl
  exact goG F hr hgd hb tk I1 r q
/-- o.m(..) -/
theorem um_sem {tab : List (Nat × Nat)} {nm : Nat} {σ : L2.St} {H : Hp} {Q : VK} (t : tev C cl Wx (xUm tab nm xo xs) σ H Q) (inj : ∀ i j, C.nm i = C.nm j → i = j) :
    tev C cl Wx xo σ H (fun v H1 => ∃ a k f dx fs, v = .ref a ∧ tab.lookup k = some f ∧ H1 a = some (.ins (C.ca k) dx fs) ∧ fs.lookup (C.nm nm) = none ∧
      tes C cl Wx xs σ H1 (fun vs H2 => spC C cl f (.ref a :: vs) H2 Q (fun cls d H' => Wx cls d σ H'))) := by
  refine (tev1s (f := fun x σ h1 => match look h1 x with
    | .obj c ns _ => if ns.any (Nat.beq nm) then .no else (match tab.lookup c with
      | some f => (xs cl σ h1).bind fun ws h2 => cl f (x :: ws) h2
      | none => .no)
    | _ => .no) t).imp fun v H1 ⟨γ, σw, h, w, sl, hc, r, p⟩ => ?_
  dsimp only at p
  cases hl : look h w with
  | obj k ns us =>
    rw [hl] at p
    dsimp only at p
    cases hn : ns.any (Nat.beq nm) with
    | true => rw [hn] at p; exact p.elim
    | false =>
      rw [hn] at p
      cases ht : tab.lookup k with
      | none => rw [ht] at p; exact p.elim
      | some f =>
        rw [ht] at p
        dsimp only at p
        rw [if_neg (by decide)] at p
        obtain ⟨a, dx, vs, rfl, hh, l, r'⟩ := look_obj hc r hl
        refine ⟨a, k, f, dx, _, rfl, ht, hh, ?_, γ, σw, h, sl, hc, ?_⟩
        · have nf : ∀ (ns : List Nat) (vs : List V), ns.any (Nat.beq nm) = false → ((ns.map C.nm).zip vs).lookup (C.nm nm) = none := by
            intro ns
            induction ns with
            | nil => intro vs _; rfl
            | cons n ns ih =>
              intro vs e
              rw [List.any_cons, Bool.or_eq_false_iff] at e
              cases vs with
              | nil => rfl
              | cons v vs =>
                have ne : C.nm nm ≠ C.nm n := fun q => by
                  have := inj _ _ q
                  subst this
                  rw [Nat.beq_refl] at e; exact absurd e.1 (by decide)
                have b : (C.nm nm == C.nm n) = false := by simpa using ne
                simp [List.lookup, b, ih vs e.2]
          exact nf ns vs hn
        · cases ex : xs cl σw h with
          | no => rw [ex] at p; exact p
          | exn c aa h1 => rw [ex] at p; exact p
          | ok ws h1 =>
            rw [ex] at p
            intro γ1 us' H2 e2 k2 c2 r2
            exact ⟨γ1, h1, w :: ws, c2, ⟨_, _, rfl, e2.rw r, r2⟩, PoE.step p e2 k2⟩
  | _ => rw [hl] at p; exact p.elim
/-- what stands behind a method's name for the classes of a table -/
def UmOk (X : Cx) (C : Cf) (cl : CL) (k : Nat) (m : Str) (tab : List (Nat × Nat)) : Prop := ∀ c f, tab.lookup c = some f → ∃ g fd ps, Cls X.K (C.ca c) ∧ Meth X.K (C.ca c) m g ∧ FnG X.prog X.w X.K X.mg X.base k g fd ps (spC C cl f) ∧ Binds X.K fd ps []
theorem pv_um {tab : List (Nat × Nat)} {nm : Nat} {pl : Sem Bool} (hK : C.K = X.K) (inj : ∀ i j, C.nm i = C.nm j → i = j) (hf : C.nm nm = m) (U : UmOk X C cl k m tab) (hr : Room k X.A) (hgd : X.A.guards = some []) (tk : Takes X Wx)
    (ho : PE X o (tev C cl Wx xo)) (ha : PA X (a :: es) (tes C cl Wx xs)) (he : starEach (a :: es) X.env = (false, eval a X.env) :: starEach es X.env) (hpl : (backTo pos (starEach es X.env)).any (·.1) = false)
    (ht : eval (.Call (.Attribute o m apos) (a :: es) [] pos) X.env = (do
      let ov ← eval o X.env
      standAt apos.atName
      let (f, first) ← holding [ov] (getMethod ov m pl)
      callWith pos f first (backTo pos (starEach (a :: es) X.env)) (backToKw pos (keywordEach [] X.env)))) :
    PE X (.Call (.Attribute o m apos) (a :: es) [] pos) (tev C cl Wx (xUm tab nm xo xs)) := by
  subst hf
  refine ⟨fun pins s σ H Q I h => ?_⟩
  refine PySem.W.methodCall_KW (pl := pl) (thn (ho.run pins s σ H _ I (um_sem h inj)) fun u s1 ⟨x, H1, I1, rx, b, c, f, dx, fs, ex, et, eb, l, q⟩ => ?_) ht
  subst ex
  obtain rfl : u = Value.ref b := rx
  obtain ⟨g, fd, ps, c1, c2, F, hb⟩ := U c f et
  refine getmeth_ok I1 eb c1 c2 l ?_
  refine PySem.W.callWith_K (h₀ := X.base) I1.ok.mod.kin c2.kp (thn (ha.run pos pins s1 σ H1 _ I1 q) fun us s2 ⟨vs, H2, I2, r, q2⟩ => ⟨I2.kIn, ?_⟩) he hpl
  exact goG F hr hgd hb tk I2 (show Vals (V.ref b :: vs) (Value.ref b :: us) from .cons rfl r) q2
theorem pv_um0 {tab : List (Nat × Nat)} {nm : Nat} {pl : Sem Bool} (hK : C.K = X.K) (inj : ∀ i j, C.nm i = C.nm j → i = j) (hf : C.nm nm = m) (U : UmOk X C cl k m tab) (hr : Room k X.A) (hgd : X.A.guards = some []) (tk : Takes X Wx)
    (ho : PE X o (tev C cl Wx xo))
    (ht : eval (.Call (.Attribute o m apos) [] [] pos) X.env = (do
      let ov ← eval o X.env
      standAt apos.atName
      let (f, first) ← holding [ov] (getMethod ov m pl)
      callWith pos f first (backTo pos (starEach [] X.env)) (backToKw pos (keywordEach [] X.env)))) :
    PE X (.Call (.Attribute o m apos) [] [] pos) (tev C cl Wx (xUm tab nm xo xsNil)) := by
  subst hf
  refine ⟨fun pins s σ H Q I h => ?_⟩
  refine PySem.W.methodCall_KW (pl := pl) (thn (ho.run pins s σ H _ I (um_sem h inj)) fun u s1 ⟨x, H1, I1, rx, b, c, f, dx, fs, ex, et, eb, l, q⟩ => ?_) ht
  subst ex
  obtain rfl : u = Value.ref b := rx
  obtain ⟨g, fd, ps, c1, c2, F, hb⟩ := U c f et
  refine getmeth_ok I1 eb c1 c2 l ?_
  obtain ⟨γ, σw, h0, sl, hc, q⟩ := q
  exact PySem.W.callWith_K0 I1.kIn c2.kp (goG F hr hgd hb tk I1 (show Vals [V.ref b] [Value.ref b] from .cons rfl .nil) (q γ [] H1 (Ext.refl _ _) (Keep.refl _ _) hc rfl))
/-- o.f = e -/
theorem psv_fld {cs : List Nat} {nm : Nat} {ff : Str} {pos' : Pos} (hK : C.K = X.K) (inj : ∀ i j, C.nm i = C.nm j → i = j) (hf : C.nm nm = ff) (hcs : ∀ c ∈ cs, Cls X.K (C.ca c) ∧ NoAttr X.K (C.ca c) ff) (ho : PE X o (tev C cl Wx xo)) (he : PE X value (tev C cl Wx xe))
    (hs : swapsWith value (some (.Attribute o ff pos')) pos.line X.env = pure false) : PS X (.Assign [.Attribute o ff pos'] value pos) (tst C cl Wx (sAsg (tAttr cs nm xo) xe)) := by
  subst hf
  refine PS.imp (ps_fld ho he hs) fun D σ H q => ?_
  have z : tAsg (tev C cl Wx xe) (ttg' C cl [] (tAttr cs nm xo)) D σ H := asg_sem q
  refine tev.imp z fun y H1 ⟨γ, σw, h, w, sl, hc, r, p⟩ => ?_
  unfold tAttr at p
  refine ⟨γ, σw, h, sl, hc, ?_⟩
  cases eo : xo cl σw h with
  | no => rw [eo] at p; exact p.elim
  | exn cc aa h1 => rw [eo] at p; exact p.elim
  | ok u h1 =>
    rw [eo] at p
    intro γ1 v H2 e1 k1 c1 r1
    have p1 := PoT.step p e1 k1
    dsimp only [R.bind] at p1
    unfold setAttr at p1
    cases u with
    | ref n =>
      dsimp only at p1
      cases hn : h1[n]? with
      | none => rw [hn] at p1; exact p1.elim
      | some cc =>
        rw [hn] at p1
        cases cc with
        | obj c ns vs =>
          dsimp only at p1
          by_cases hb : (cs.any (Nat.beq c) && Nat.blt ns.length 1000) = true
          · rw [if_pos hb] at p1
            rw [Bool.and_eq_true] at hb
            obtain ⟨b, rfl, i⟩ := r1
            obtain ⟨fa, dx, ys, fd, hh, hd, l, ry⟩ := c1.cell n b _ i hn
            have mem : c ∈ cs := by
              obtain ⟨y, y1, y2⟩ := List.any_eq_true.mp hb.1
              rw [Nat.eq_of_beq_eq_true y2]; exact y1
            have lt : ns.length < 1000 := Nat.le_of_ble_eq_true hb.2
            obtain ⟨us, q1, q2, q3⟩ := put_rw inj (nm := nm) (e1.rw r) l ry
            refine ⟨b, C.ca c, dx, _, rfl, hh, (hcs c mem).1, (hcs c mem).2, by rw [List.length_zip, List.length_map]; omega, ?_⟩
            rw [q1]
            obtain ⟨k2, c2⟩ := c1.setO (ms := (putAttr nm w ns vs).1) (us := (putAttr nm w ns vs).2) (vs := us) i hn hh q2 q3
            exact p1 γ1 σ _ (Ext.refl _ _) k2 c2 (sl.ext e1) rfl
          · rw [if_neg hb] at p1; exact p1.elim
        | _ => exact p1.elim
    | _ => exact p1.elim
end
end Ov
/-! exceptions: raised, caught -/
namespace Ov
open PySem PySem.Spec PyProof.Rows L2
/-! ### the __init__ of an exception with one attribute -/
def spXi (K : PySem.W.Frag) (f : Str) : Sp := fun vs H Q _ => ∃ (e D : Addr) (y : V), vs = [.ref e, y] ∧ OexC K D ∧ PySem.W.findIn K (.ref D) f = some none ∧ H e = some (exo e D none) ∧
  ∀ dx, H dx = none → dx ≠ e → Q .non (upd (upd H dx (exd dx [(f, y)])) e (exo e D (some dx)))
theorem xi_ok {P : Program} {w : World} {K : PySem.W.Frag} {mg : Str → Option Value} {base : Heap} {qual f arg : Str} {st : Stmt} {fI : Addr} {fd : FuncData} {k : Nat} {q1 q2 q3 q4 : Pos} (F : L2.Fun K "__init__" qual st fI fd) (S : FnScope ["self", arg] ["self", arg] (defScope st))
    (hb : defBody st = [.Assign [.Attribute (.Name "self" q1) f q2] (.Name arg q3) q4]) (hl1 : (defScope st).names.lookup ("self" : Str) = some .local) (hl2 : (defScope st).names.lookup arg = some .local) (hd : (arg == ("__debug__" : Str)) = false) (hcd : (arg == ("__classdict__" : Str)) = false) :
    FnOk P w K mg base CX0 (k + 1) fI fd ["self", arg] (spXi K f) := by
  refine F.ok S (fun vs H Q E ⟨e, D, y, h, _⟩ => by rw [h]; rfl) fun cdv A outer s H vs Q E hr ⟨e, D, y, ev, T, no, he, q⟩ => ?_
  subst ev
  rw [hb]
  refine ⟨_, pss_one (ps_ost (pe_var (i := 0) rfl (.inl hl1) (by decide) (by decide)) (pe_var (i := 1) rfl (.inl hl2) hd hcd)), ?_⟩
  exact ⟨y, rfl, .ref e, rfl, e, D, rfl, T, no, .inl ⟨he, fun dx n ne => q dx n ne⟩⟩
/-- a new object beside -/
theorem raised_eq {H : Hp} {a dx D : Addr} {f : Str} {y : V} (na : H a = none) (ne : dx ≠ a) :
    upd (L2.del (upd (upd (upd H a (exo a D none)) dx (exd dx [(f, y)])) a (exo a D (some dx))) a) dx (.xd [(f, y)]) = upd H dx (.xd [(f, y)]) := by
  funext b
  by_cases h1 : b = dx
  · subst h1; rw [upd_same, upd_same]
  · rw [upd_ne h1, upd_ne h1]
    by_cases h2 : b = a
    · subst h2; rw [del_same, na]
    · rw [del_ne h2, upd_ne h2, upd_ne h1, upd_ne h2]
section
variable {X : Cx} {C : Cf} {cl : CL} {Wx : WX} {k c : Nat} {fa : Addr} {fd : FuncData} {x arg : Str} {p pos pos2 : Pos} {e : Expr} {xe : Ex} {b : Sx}
/-- raise C(e) -/
theorem psv_rai (hK : C.K = X.K) (hc : X.calm = true) (tk : Takes X Wx) (T : OexC X.K (C.ca c)) (iC : PySem.W.findIn X.K (.ref (C.ca c)) "__init__" = some (some (.ref fa))) (tI : PySem.W.typeIn X.K (.ref fa) = some (.type "function"))
    (F : FnOk X.prog X.w X.K X.mg X.base CX0 k fa fd ["self", arg] (spXi X.K (C.xf c))) (hno : PySem.W.findIn X.K (.ref (C.ca c)) (C.xf c) = some none) (hr : Room (k + 1) X.A) (hb : Binds X.K fd ["self", arg] []) (hg : Gl X x) (hm : X.mg x = some (.ref (C.ca c)))
    (he : PE X e (tev C cl Wx xe)) (hdb : (x == ("__debug__" : Str)) = false) (hs : starEach [e] X.env = (false, eval e X.env) :: starEach [] X.env) (hpl : (backTo pos (starEach [] X.env)).any (·.1) = false) :
    PS X (.Raise (some (.Call (.Name x p) [e] [] pos)) none pos2) (tst C cl Wx (sRai c xe)) := by
  have ha : PA X [e] (tes C cl Wx (xsCons xe xsNil)) := pas_cons he pas_nil hs
  refine PS.imp (ps_raise hc tk (pmk_oex (ds := []) (dvs := []) T iC tI F hr hb .nil pass0 hg hm ha hdb hs hpl)) fun D σ H ⟨γ, σw, h, sl, hcc, q⟩ => ⟨γ, σw, h, sl, hcc, ?_⟩
  unfold sRai at q
  unfold xsCons xsNil
  rcases st_cases sl q with ⟨w, h1, ea, q⟩ | ⟨cc, aa, h1, ea, q⟩
  · rw [ea]
    intro γ1 vs H1 e1 k1 c1 r1
    obtain ⟨v, rfl, rv⟩ := one_rw r1
    refine ⟨by simp, fun a na => ⟨a, C.ca c, v, rfl, T, hno, upd_same, fun dx nd ne => ⟨rfl, dx, _, upd_same, by rw [upd_ne ne, upd_same], ?_, ?_⟩⟩⟩
    · rw [upd_ne ne] at nd; exact nd
    · rw [raised_eq na ne]
      have nd' : H1 dx = none := by rw [upd_ne ne] at nd; exact nd
      obtain ⟨e2, k2, c2, _⟩ := c1.lay (o := .xd [(C.xf c, v)]) nd' (fun y z => by cases z)
      exact q _ σ _ _ _ (e1.trans k1 e2) (k1.trans e1 k2) c2 (sl.ext (e1.trans k1 e2)) ⟨rfl, dx, v, rfl, upd_same, e2.rw rv⟩
  · rw [ea]; exact q
/-! ### try: .. except C as n: .. -/
def tevX (C : Cf) (cl : CL) (i : Nat) (tab : List (Nat × Bool)) (a : Addr) (cls : Value) (d : Option Addr) (x : Option W → Ex) : TE := fun σ H Q => ∃ γ σw h c' ao, SL C γ σw σ ∧ HC C γ h H ∧ tab.lookup c' = some true ∧ σ[i]? = some (some (.ref a)) ∧ RX C γ H c' ao cls d ∧ PoE C γ H (x ao cl σw h) Q (fun _ _ _ => False)
def tesX (C : Cf) (cl : CL) (i : Nat) (tab : List (Nat × Bool)) (a : Addr) (cls : Value) (d : Option Addr) (x : Option W → Exs) : TA := fun σ H Q => ∃ γ σw h c' ao, SL C γ σw σ ∧ HC C γ h H ∧ tab.lookup c' = some true ∧ σ[i]? = some (some (.ref a)) ∧ RX C γ H c' ao cls d ∧ PoEs C γ H (x ao cl σw h) Q (fun _ _ _ => False)
def tstX (C : Cf) (cl : CL) (i : Nat) (tab : List (Nat × Bool)) (x : Option W → Sx) (a : Addr) (cls : Value) (d : Option Addr) : TS := fun D σ H => ∃ γ σw h c' ao, SL C γ σw σ ∧ HC C γ h H ∧ tab.lookup c' = some true ∧ σ[i]? = some (some (.ref a)) ∧ RX C γ H c' ao cls d ∧ PoS C γ H (x ao cl σw h) D WF
section
variable {X' : Cx} {i : Nat} {tab : List (Nat × Bool)} {a : Addr} {cls : Value} {d : Option Addr} {oe : Obj} {pn : List (Addr × Obj)} {f n : Str} {es : List Expr} {xX : Option W → Ex} {xsX : Option W → Exs}
theorem pvX_of (h : PE X' e (tev C cl WF xe)) : PE X' e (tevX C cl i tab a cls d (fun _ => xe)) := PE.imp h fun σ H Q ⟨γ, σw, h, c', ao, sl, hc, _, _, _, p⟩ => ⟨γ, σw, h, sl, hc, p⟩
theorem psX_of {l : List Stmt} (h : PSs X' l (tst C cl WF b)) : PSs X' l (tstX C cl i tab (fun _ => b) a cls d) := PSs.imp h fun D σ H ⟨γ, σw, h, c', ao, sl, hc, _, _, _, p⟩ => ⟨γ, σw, h, sl, hc, p⟩
theorem pvX_attr (hK : C.K = X.K) (T : ∀ c', tab.lookup c' = some true → XfC X.K (C.ca c') ∧ PySem.W.findIn X.K (.ref (C.ca c')) f = some none ∧ C.xf c' = f) (hz : Zc cls d oe) (hf : ∃ vs, oe.data = .fields vs)
    (hn : PE (X.suite a ((a, oe) :: pn)) (.Name n p) (tVar i)) (hb : attributeBase (.Name n p) f X.env (eval (.Name n p) X.env) = eval (.Name n p) X.env) :
    PE (X.suite a ((a, oe) :: pn)) (.Attribute (.Name n p) f pos) (tevX C cl i tab a cls d xExc) := ⟨fun pins s σ H Q I ⟨γ, σw, h, c', ao, sl, hc, ht, hi, rx, q⟩ => by
  obtain ⟨t1, t2, t3⟩ := T c' ht
  refine (pe_xf t1 t2 hz hf hn hb).run pins s σ H Q I ⟨.ref a, hi, rfl, rx.1, ?_⟩
  have r2 := rx.2
  unfold xExc at q
  cases ao with
  | none => exact q.elim
  | some w =>
    obtain ⟨dd, v, e1, e2, e3⟩ := r2
    rw [t3] at e2
    exact ⟨dd, _, v, e1, e2, by simp, PoE.here q hc e3⟩⟩
/-- name = e, in a suite -/
theorem psX_set {j : Nat} {y : Str} {pos' : Pos} (hN : X'.N.Nodup) (hj : X'.N[j]? = some y) (hy : Loc X'.env.scope y) (he : PE X' e (tevX C cl i tab a cls d xX)) (hs : swapsWith e (some (.Name y pos')) pos.line X'.env = pure false) (hf : X'.fn y = true ∨ X'.env.scope.names.lookup y = some .local) :
    PSs X' [.Assign [.Name y pos'] e pos] (tstX C cl i tab (fun o => sAsg (tName j) (xX o)) a cls d) := PSs.imp (pss_one (ps_set hN hj hy he hs hf)) fun D σ H ⟨γ, σw, h, c', ao, sl, hc, ht, hi, rx, q⟩ => by
  refine ⟨γ, σw, h, c', ao, sl, hc, ht, hi, rx, ?_⟩
  unfold sAsg at q
  rcases st_cases sl q with ⟨w, h1, ea, q⟩ | ⟨cc, aa, h1, ea, q⟩
  · rw [ea]
    intro γ1 v H1 e1 k1 c1 r1
    have q1 := PoS.step q e1 k1
    refine gname_of (C := C) (cl := cl) ⟨γ1, σw, h1, w, sl.ext e1, c1, r1, ?_⟩
    cases et : tName j cl w σw h1 with
    | no => rw [et] at q1; exact q1.elim
    | exn c a h2 => rw [et] at q1; exact q1.elim
    | ok σ1 h2 => rw [et] at q1; exact fun γ2 σ2 H2 e2 k2 c2 s2 _ => q1 γ2 σ2 H2 e2 k2 c2 s2
  · rw [ea]; exact q
theorem psX_ret (he : PE X' e (tevX C cl i tab a cls d xX)) : PSs X' [.Return (some e) pos] (tstX C cl i tab (fun o => sRet (xX o)) a cls d) := PSs.imp (pss_one (ps_ret he)) fun D σ H ⟨γ, σw, h, c', ao, sl, hc, ht, hi, rx, q⟩ => by
  refine ⟨γ, σw, h, c', ao, sl, hc, ht, hi, rx, ?_⟩
  unfold sRet at q
  rcases st_cases sl q with ⟨w, h1, ea, q⟩ | ⟨cc, aa, h1, ea, q⟩ <;> rw [ea] <;> exact q
end
/-- try: .. except x as n: .. -/
theorem psv_tryAs {i : Nat} {n : Str} {tab : List (Nat × Bool)} {cv : Value} {body suite : List Stmt} {b₀ : Stmt} {np pos pos' : Pos} {sx : Option W → Sx} (hs : X.stack = X.env :: X.outer) (hf : X.env.frame = some X.env.locals) (hN : X.N.Nodup) (hi : X.N[i]? = some n) (hln : X.env.kindOf n = some .local) (hc : Names X x cv) (tk : Takes X Wx)
    (htab : ∀ c' t, tab.lookup c' = some t → PySem.W.exmOne X.K (.ref (C.ca c')) cv = some t)
    (hb : ∀ (W : WX) (pn : List (Addr × Obj)) (xe : Value → Shared → Prop), Takes (X.tr pn xe) W → PassesOwn (model X.prog X.w) X.A X.env xe → PSs (X.tr pn xe) body (tst C cl W b))
    (hsu : ∀ (a : Addr) (oe : Obj) (cls : Value) (d : Option Addr) (pn : List (Addr × Obj)), Zc cls d oe → (∃ vs, oe.data = .fields vs) → PSs (X.suite a ((a, oe) :: pn)) (b₀ :: suite) (tstX C cl i tab sx a cls d)) :
    PS X (.Try body [.ExceptHandler (some (.Name x np)) (some n) (b₀ :: suite) pos'] [] [] pos) (tst C cl Wx (sTryAs tab i sx b)) := by
  refine PS.imp (ps_try_as hs hf hN hi hln hc tk hb hsu) fun D σ H ⟨γ, σw, h, sl, hcc, q⟩ => ⟨γ, σw, h, sl, hcc, ?_⟩
  unfold sTryAs at q
  cases eb : b cl σw h with
  | no => rw [eb] at q; exact q
  | ok fl h1 => rw [eb] at q; cases fl <;> exact q
  | exn c' ao σ1 h1 =>
    rw [eb] at q
    dsimp only at q
    intro γ1 σ' H1 cls d e1 k1 c1 s1 rx
    have q1 := PoS.step q e1 k1
    cases et : tab.lookup c' with
    | none => rw [et] at q1; exact q1.elim
    | some t =>
      rw [et] at q1
      refine ⟨t, by rw [rx.1]; exact htab c' t et, fun e a na => ?_, fun e => ?_⟩
      · subst e
        dsimp only at q1
        by_cases hlt : Nat.blt i σ1.length = true
        · rw [if_pos hlt] at q1
          have hl : i < σ'.length := by rw [← s1.1]; exact Nat.le_of_ble_eq_true hlt
          refine ⟨γ1, σ1.set i none, h1, c', ao, ?_, c1, et, by rw [List.getElem?_set_self hl], rx, ?_⟩
          · refine ⟨by simp [s1.1], fun j u e => ?_⟩
            have z := (s1.setN i).2 j u e
            by_cases hj : i = j
            · subst hj
              rw [List.getElem?_set_self (by rw [s1.1]; exact hl)] at e; cases e
            · rw [List.getElem?_set_ne hj] at z ⊢
              exact z
          · cases es : sx ao cl (σ1.set i none) h1 with
            | no => rw [es] at q1; exact q1.elim
            | exn c2 a2 σ2 h2 => rw [es] at q1; exact q1.elim
            | ok fl h2 =>
              rw [es] at q1
              cases fl with
              | nx σ2 => exact fun γ2 σ3 H2 e2 k2 c2 s2 => q1 γ2 _ H2 e2 k2 c2 (s2.setN i)
              | brk σ2 => exact fun γ2 σ3 H2 e2 k2 c2 s2 => q1 γ2 _ H2 e2 k2 c2 (s2.setN i)
              | ret w => exact q1
        · rw [if_neg hlt] at q1; exact q1.elim
      · subst e
        exact q1 γ1 σ' H1 cls d (Ext.refl _ _) (Keep.refl _ _) c1 s1 rx
end
end Ov
/-! a law that does not look at its script -/
namespace Ov
open PySem PySem.Spec PyProof.Rows L2
/-- nothing is tracked -/
def nil : Hp := fun _ => none
theorem callerA_guards : callerA.guards = some [] := by first | rfl | decide
/-- a law's promise at a heap in which nothing is tracked -/
theorem law_free {P : Program} {w : World} {K : PySem.W.Frag} {mg mb : Str → Option Value} {k : Nat} {fa : Addr} {fd : FuncData} {x : Str} {sp : Sp} {s : Shared} {u : Value} {v : V}
    (KX : K.In s.heap) (hns : s.heap.Ns mainGlobals mg) (hb : s.heap.Ns builtinsNs mb) (hbb : ∀ x : Str, x ≠ "__name__" → mb x = bootBuiltins x) (hlim : s.heap.NoLimit) (hg : s.gens = #[]) (hr : Room k callerA)
    (F : FnG P w K mg s.heap k fa fd [x] sp) (hbind : BindsTo s fd ⟨[u], []⟩ [(x, u)]) (r : RelV v u) (hsp : sp [v] nil (fun v _ => v = .bl true) fun _ _ _ => False) :
    codeAny (model P w) callerA (.call (.ref fa) ⟨[u], []⟩) (fun r s' => r = .ok (.ret (.bool true)) ∧ OldK s.heap s'.heap ∧ s'.os = s.os ∧ AllBare s'.gens) s := by
  have e0 : Env0 P w K mg s.heap callerA [] s nil := ⟨rfl, ⟨KX, hns, ⟨mb, hb, hbb⟩, hlim⟩, fun b o e => ⟨e, rfl⟩, Nat.le_refl _, trivial, fun _ _ => rfl, fun a o e => (by cases e), .of_eq hg⟩
  refine codeAny_mono (F.run callerA [] s nil ⟨[u], []⟩ [u] [v] _ _ hr callerA_guards e0 hbind (.cons r .nil) hsp) fun res s' h => ?_
  match res, h with
  | .ok (.ret z), h =>
    obtain ⟨y, H', os, bare, un, _, ry, ey⟩ := h
    have ey' : y = V.bl true := ey
    subst ey'
    have ez : z = Value.bool true := ry
    subst ez
    exact ⟨rfl, OldK.of_keep fun b o e => un.keep b o e rfl (fun m => by cases m) (fun m => by cases m), os, bare⟩
  | .error e, h =>
    obtain ⟨_, _, _, _, _, _, _, _, _, _, _, _, f⟩ := h
    exact f.elim
theorem walk_free {l : PySem.W.OpenLaw} {n k : Nat} {q : Program} {loose : List Str} {XP : (Str → Option Value) → Heap → Prop} {YP : World → Heap → Prop} {d : DefRec} {K : Params → PySem.W.Frag} {x : Str}
    (hn : l.most = some n) (hdf : d.params.defaults = []) (hr : Room k callerA) (hY : ∀ (w : World) (h : Heap), YP w h → (K w.params).In h)
    (F : ∀ (w : World) (mg : Str → Option Value) (fa : Addr) (h : Heap), (K w.params).In h → h.Ns mainGlobals mg → mg d.name = some (.ref fa) →
      ∃ fd : FuncData, (∀ (s : Shared) (u : Value), BindsTo s fd ⟨[u], []⟩ [(x, u)]) ∧ ∃ sp : Sp, (∀ v, sp [v] nil (fun v _ => v = .bl true) fun _ _ _ => False) ∧ FnG l.prog w (K w.params) mg h k fa fd [x] sp) :
    PySem.W.WalkO q loose XP YP l.row.toRowW d [] (fun f vs => PySem.call f vs) := by
  refine Att.attach_call hn hdf fun w s₀ s₁ mg mb fa o pm cd doc a vs ns G Y ho hd hcd hmg hobj hints hlen hg => ?_
  have KX := hY w _ Y
  obtain ⟨fd, hb, sp, hs, hF⟩ := F w mg fa _ KX G.T.g hmg
  exact law_free KX G.T.g G.T.b G.T.builtins G.T.nolimit hg hr hF (hb _ _) (v := .ref a) rfl (hs _)
end Ov
/-! the rules in short, their side conditions filled in -/
namespace Ov
open PySem PySem.Spec PyProof.Rows L2
/-- names of attributes by numbers -/
def padS (i : Nat) : Str := ⟨Array.replicate (1000 + i) 0⟩
def nmOf (l : List Str) (i : Nat) : Str := match l[i]? with
  | some s => s
  | none => padS i
theorem nmOf_inj {l : List Str} (nd : l.Nodup) (sm : ∀ s ∈ l, s.length < 1000) : ∀ i j, nmOf l i = nmOf l j → i = j := by
  have pl : ∀ i, (padS i).length = 1000 + i := fun i => by show (Array.replicate (1000 + i) 0).size = _; simp
  intro i j e
  unfold nmOf at e
  cases hi : l[i]? with
  | some s =>
    cases hj : l[j]? with
    | some t =>
      rw [hi, hj] at e
      have e' : s = t := e
      subst e'
      obtain ⟨l1, e1⟩ := List.getElem?_eq_some_iff.mp hi
      obtain ⟨l2, e2⟩ := List.getElem?_eq_some_iff.mp hj
      exact (List.getElem_inj nd).mp (e1.trans e2.symm)
    | none =>
      rw [hi, hj] at e
      have e' : s = padS j := e
      have := sm s (List.mem_of_getElem? hi)
      rw [e', pl] at this; omega
  | none =>
    cases hj : l[j]? with
    | some t =>
      rw [hi, hj] at e
      have e' : padS i = t := e
      have := sm t (List.mem_of_getElem? hj)
      rw [← e', pl] at this; omega
    | none =>
      rw [hi, hj] at e
      have e' : padS i = padS j := e
      have := congrArg Str.length e'
      rw [pl, pl] at this; omega
/-- what a place in the code has -/
structure Rm (X : Cx) (C : Cf) (k : Nat) (Wx : WX) : Prop where
  room : Room (2 * k + 2) X.A
  gd : X.A.guards = some []
  K : C.K = X.K
  calm : X.calm = true
  tk : Takes X Wx
  ps : PassesOwn (model X.prog X.w) X.A X.env X.xe
section
variable {X : Cx} {C : Cf} {cl : CL} {k : Nat} {Wx : WX}
theorem Rm.hu (R : Rm X C k Wx) : X.A.units + 65 < cLine := by have := R.room.un; omega
theorem Rm.r0 (R : Rm X C k Wx) : Room (2 * k + 1) X.A := R.room.mono (Nat.le_succ _)
theorem Rm.blk (R : Rm X C k Wx) {s : Shared} {H : Hp} {scope : Scope} {ce : Env} {fp : List Addr} : Rm (X.blk s H scope ce fp) C k WF := ⟨R.room, R.gd, R.K, R.calm, takes0, PassesOwn.never⟩
theorem Rm.tr (R : Rm X C k Wx) {pn : List (Addr × Obj)} {xe : Value → Shared → Prop} {W : WX} (tk : Takes (X.tr pn xe) W) (ps : PassesOwn (model X.prog X.w) X.A X.env xe) : Rm (X.tr pn xe) C k W := ⟨R.room, R.gd, R.K, R.calm, tk, ps⟩
theorem Rm.start {P : Program} {w : World} {C : Cf} {mg : Str → Option Value} {base : Heap} {N : List Str} {qual : Str} {sc : Scope} {fa : Addr} {cdv : Value} {A : Around} {outer : List Env} {s : Shared} {H : Hp} {E : XK} {k : Nat}
    (hr : Room (2 * k + 2) (A.deeper (envOfC qual sc s.heap.objs.size fa cdv))) (hg : A.guards = some []) : Rm (cxOf (L2.CX P w) P w C.K mg base N qual sc fa cdv A outer s H E) C k (fun cls d _ H => E cls d H) :=
  ⟨hr, hg, rfl, rfl, takes_of rfl rfl rfl rfl, passes_of rfl⟩
variable {a b c e : Expr} {es : List Expr} {xa xb xc xe : Ex} {xs : Exs} {pos p p2 : Pos}
theorem q_var (i : Nat) {x : Str} (hN : X.N[i]? = some x := by rfl) (hv : Vis X.env.scope x := by first | exact Or.inl rfl | exact Or.inr (Or.inl rfl) | exact Or.inr (Or.inr rfl)) (hd : (x == ("__debug__" : Str)) = false := by decide) (hcd : (x == ("__classdict__" : Str)) = false := by decide) :
    PE X (.Name x pos) (tev C cl Wx (xVar i)) := pv_var hN hv hd hcd
theorem q_int {i : Int} {j} : PE X (.Constant (.int i) j pos) (tev C cl Wx (xCon (.int i))) := PE.imp pe_int fun σ H Q t => con_imp (w := .int i) (fun _ => rfl) t
theorem q_bl {b : Bool} {j} : PE X (.Constant (.bool b) j pos) (tev C cl Wx (xCon (.bl b))) := PE.imp pe_bl fun σ H Q t => con_imp (w := .bl b) (fun _ => rfl) t
theorem q_non {j} : PE X (.Constant .none j pos) (tev C cl Wx (xCon .non)) := PE.imp pe_non fun σ H Q t => con_imp (w := .non) (fun _ => rfl) t
theorem q_str {s : List Nat} {m : Str} {j} (h : m = mkS s := by kernel_rfl) : PE X (.Constant (.str m) j pos) (tev C cl Wx (xCon (.str s))) := by
  subst h
  exact PE.imp pe_str fun σ H Q t => con_imp (w := .str s) (fun _ => rfl) t
/-- a constant of the module -/
theorem q_gstr {s : List Nat} {x : Str} (hm : ∃ t, X.mg x = some (.str (mkS s) t)) (hg : Gl X x := by rfl) (hd : (x == ("__debug__" : Str)) = false := by decide) : PE X (.Name x pos) (tev C cl Wx (xCon (.str s))) := by
  obtain ⟨t, hm⟩ := hm
  exact PE.imp (pe_glob (v := strV s) hg hm ⟨t, rfl⟩ hd) fun σ H Q t => con_imp (w := .str s) (fun _ => rfl) t
theorem q_gint {i : Int} {x : Str} (hm : ∃ t, X.mg x = some (.int i t)) (hg : Gl X x := by rfl) (hd : (x == ("__debug__" : Str)) = false := by decide) : PE X (.Name x pos) (tev C cl Wx (xCon (.int i))) := by
  obtain ⟨t, hm⟩ := hm
  exact PE.imp (pe_glob (v := .int i) hg hm ⟨t, rfl⟩ hd) fun σ H Q t => con_imp (w := .int i) (fun _ => rfl) t
theorem q_bin (R : Rm X C k Wx) {o : BOp} {op : Operator} (ha : PE X a (tev C cl Wx xa)) (hb : PE X b (tev C cl Wx xb)) (ho : op = opOf o := by rfl) : PE X (.BinOp a op b pos) (tev C cl Wx (xBin o xa xb)) := pv_bin R.K ho ha hb
theorem q_cmp (R : Rm X C k Wx) {o : COp} {op : CmpOp} (ha : PE X a (tev C cl Wx xa)) (hb : PE X b (tev C cl Wx xb)) (ho : op = copOf o := by rfl) (hm : behindInMarks op b = false := by rfl) : PE X (.Compare a [op] [b] pos) (tev C cl Wx (xCmp o xa xb)) := pv_cmp R.hu R.K ho ha hb hm
theorem q_cmpT (R : Rm X C k Wx) {o : COp} {op : CmpOp} (ha : PE X a (tev C cl Wx xa)) (hb : PE X b (tev C cl Wx xb)) (ho : op = copOf o := by rfl) (hm : behindInMarks op b = false := by rfl) : PT X (.Compare a [op] [b] pos) (ttv C cl Wx (xCmp o xa xb)) := ptv_cmp R.hu R.K ho ha hb hm
theorem q_chain (R : Rm X C k Wx) {o o' : COp} {op op' : CmpOp} (ha : PE X a (tev C cl Wx xa)) (hb : PE X b (tev C cl Wx xb)) (hc : PE X c (tev C cl Wx xc)) (ho : op = copOf o := by rfl) (ho' : op' = copOf o' := by rfl) (hm : lastMarks [op, op'] [b, c] = false := by with_unfolding_all rfl) :
    PE X (.Compare a [op, op'] [b, c] pos) (tev C cl Wx (xChain o o' xa xb xc)) := pv_chain R.hu R.K ho ho' ha hb hc hm
theorem q_chainT (R : Rm X C k Wx) {o o' : COp} {op op' : CmpOp} (ha : PE X a (tev C cl Wx xa)) (hb : PE X b (tev C cl Wx xb)) (hc : PE X c (tev C cl Wx xc)) (ho : op = copOf o := by rfl) (ho' : op' = copOf o' := by rfl) (hm : lastMarks [op, op'] [b, c] = false := by with_unfolding_all rfl) :
    PT X (.Compare a [op, op'] [b, c] pos) (ttv C cl Wx (xChain o o' xa xb xc)) := ptv_chain R.hu R.K ho ho' ha hb hc hm
theorem q_T (ha : PE X a (tev C cl Wx xa)) (he : ∀ whole, isTrue a X.env whole = (do let v ← whole; standAt a.pos; holding [v] (truthy v)) := by intro _; rfl) : PT X a (ttv C cl Wx xa) := pt_plain ha he
theorem q_bool {t : Ex} (h : PW X (.BoolOp op es pos) (ttv C cl Wx t)) : PT X (.BoolOp op es pos) (ttv C cl Wx t) := h.pt
theorem q_cons (ha : PE X a (tev C cl Wx xa)) (hr : PA X es (tes C cl Wx xs)) (hs : starEach (a :: es) X.env = (false, eval a X.env) :: starEach es X.env := by rfl) : PA X (a :: es) (tes C cl Wx (xsCons xa xs)) := pas_cons ha hr hs
theorem q_idx (R : Rm X C k Wx) (ha : PE X a (tev C cl Wx xa)) (hb : PE X b (tev C cl Wx xb)) (hs : PlainIx b := by intro _ _; rfl) : PE X (.Subscript a b pos) (tev C cl Wx (xIdx xa xb)) := pv_idx R.K ha hb hs
theorem q_slc (R : Rm X C k Wx) {m : Bool} {lo hi : Option Expr} {xl xh : Exo} (ha : PE X a (tev C cl Wx xa)) (hl : PO X lo (teo C cl Wx xl)) (hu : PO X hi (teo C cl Wx xh)) : PE X (.Subscript a (.Slice lo hi none p2) pos) (tev C cl Wx (xSlc m xa xl xh)) := pv_slc R.K ha hl hu
theorem q_attr (R : Rm X C k Wx) {cs : List Nat} {nm : Nat} {f : Str} (inj : ∀ i j, C.nm i = C.nm j → i = j) (hcs : ∀ k ∈ cs, Cls X.K (C.ca k) ∧ NoAttr X.K (C.ca k) f) (he : PE X e (tev C cl Wx xe)) (hf : C.nm nm = f := by rfl) (hb : attributeBase e f X.env (eval e X.env) = eval e X.env := by rfl) :
    PE X (.Attribute e f pos) (tev C cl Wx (xAttr cs nm xe)) := pv_attr R.K inj hf hcs he hb
/-- a built-in function -/
theorem q_B (id : String) {g : Gf} {x : Str} (hc : CallR X (.builtin id) (rG C g)) (hm : X.mg x = none) (ha : PA X (a :: es) (tes C cl Wx xs)) (hv : bootBuiltins x = some (.builtin id) := by decide +kernel) (hg : Gl X x := by rfl) (hn : x ≠ "__name__" := by decide) (hdb : (x == ("__debug__" : Str)) = false := by decide)
    (he : starEach (a :: es) X.env = (false, eval a X.env) :: starEach es X.env := by rfl) (hpl : (backTo pos (starEach es X.env)).any (·.1) = false := by rfl) : PE X (.Call (.Name x p) (a :: es) [] pos) (tev C cl Wx (xF g xs)) := pv_B hc hg hm hv ha hn hdb he hpl
theorem q_Ty (T : String) {g : Gf} {x : Str} (hc : CallR X (.type T) (rG C g)) (hm : X.mg x = none) (ha : PA X (a :: es) (tes C cl Wx xs)) (hv : bootBuiltins x = some (.type T) := by decide +kernel) (hg : Gl X x := by rfl) (hn : x ≠ "__name__" := by decide) (hdb : (x == ("__debug__" : Str)) = false := by decide)
    (he : starEach (a :: es) X.env = (false, eval a X.env) :: starEach es X.env := by rfl) (hpl : (backTo pos (starEach es X.env)).any (·.1) = false := by rfl) : PE X (.Call (.Name x p) (a :: es) [] pos) (tev C cl Wx (xF g xs)) := pv_T hc hg hm hv ha hn hdb he hpl
theorem q_isTy (R : Rm X C k Wx) {ty : Str} (t : Ty) (hm : X.mg "isinstance" = none) (hm2 : X.mg ty = none) (ha : PE X a (tev C cl Wx xa)) (hg : Gl X "isinstance" := by rfl) (hg2 : Gl X ty := by rfl) (hv2 : bootBuiltins ty = some (.type (tyName t)) := by decide +kernel) (hn2 : ty ≠ "__name__" := by decide) (hd2 : (ty == ("__debug__" : Str)) = false := by decide)
    (he : starEach [a, .Name ty p2] X.env = (false, eval a X.env) :: starEach [.Name ty p2] X.env := by rfl) (he2 : starEach [.Name ty p2] X.env = (false, eval (.Name ty p2) X.env) :: starEach [] X.env := by rfl) (hpl : (backTo pos (starEach [.Name ty p2] X.env)).any (·.1) = false := by rfl) :
    PE X (.Call (.Name "isinstance" p) [a, .Name ty p2] [] pos) (tev C cl Wx (xF (gIsTy t) (xsCons xa xsNil))) := pv_isTy R.K hg hm hg2 hm2 hv2 hn2 hd2 ha he he2 hpl
/-- methods of texts and lists -/
theorem q_M (R : Rm X C k Wx) {kd : Kd} {g : Gm} {name : Str} {id : String} {apos : Pos} (pa : PlainAttrs (kdT kd)) (slot : Slot (kdT kd) name id) (hty : typeOf (.builtin id) = pure (.type "method_descriptor")) (hm : MtR X id (rM C g)) (ho : PE X a (tev C cl Wx xa)) (ha : PA X (e :: es) (tes C cl Wx xs))
    (hbase : attributeBase a name X.env (eval a X.env) = eval a X.env := by rfl)
    (hfew : ((backTo pos (starEach (e :: es) X.env)).all (fun x => !x.1) && (backToKw pos (keywordEach [] X.env)).all (fun x => x.1.isSome)
      && decide ((e :: es).length + ([] : List Keyword).length + (if ([] : List Keyword).isEmpty then 0 else 1) < 30)) = true := by rfl)
    (hline : (apos.endLine == pos.line) = true := by rfl) (hs : starEach (e :: es) X.env = (false, eval e X.env) :: starEach es X.env := by rfl) (hpl : (backTo pos (starEach es X.env)).any (·.1) = false := by rfl) :
    PE X (.Call (.Attribute a name apos) (e :: es) [] pos) (tev C cl Wx (xM kd g xa xs)) := pv_M R.K pa slot hty hm ho ha hbase hfew hline hs hpl
/-! calls -/
theorem q_call (R : Rm X C k Wx) {f : Nat} {fa : Addr} {fd : FuncData} {ps : List Str} {x : Str} (F : FnG X.prog X.w X.K X.mg X.base (2 * k + 1) fa fd ps (spC C cl f)) (hb : Binds X.K fd ps []) (hm : X.mg x = some (.ref fa)) (hk : PySem.W.keepIn X.K (.ref fa) = true)
    (ha : PA X (a :: es) (tes C cl Wx xs)) (hg : Gl X x := by rfl) (hdb : (x == ("__debug__" : Str)) = false := by decide) (he : starEach (a :: es) X.env = (false, eval a X.env) :: starEach es X.env := by rfl) (hpl : (backTo pos (starEach es X.env)).any (·.1) = false := by rfl) :
    PE X (.Call (.Name x p) (a :: es) [] pos) (tev C cl Wx (xCall f xs)) := pv_call F R.r0 R.gd hb R.tk hg hm hk ha hdb he hpl
theorem q_call0 (R : Rm X C k Wx) {f : Nat} {fa : Addr} {fd : FuncData} {ps : List Str} {x : Str} (F : FnG X.prog X.w X.K X.mg X.base (2 * k + 1) fa fd ps (spC C cl f)) (hb : Binds X.K fd ps []) (hm : X.mg x = some (.ref fa)) (hk : PySem.W.keepIn X.K (.ref fa) = true)
    (hg : Gl X x := by rfl) (hdb : (x == ("__debug__" : Str)) = false := by decide) : PE X (.Call (.Name x p) [] [] pos) (tev C cl Wx (xCall f xsNil)) := pv_call0 F R.r0 R.gd hb R.tk hg hm hk hdb
theorem q_new (R : Rm X C k Wx) {c f : Nat} {fz : Bool} {fa : Addr} {fd : FuncData} {ps : List Str} {x : Str} (M : Mk X.K (C.ca c) fa) (F : FnG X.prog X.w X.K X.mg X.base (2 * k + 1) fa fd ps (spC C cl f)) (hb : Binds X.K fd ps []) (hm : X.mg x = some (.ref (C.ca c)))
    (ha : PA X (a :: es) (tes C cl Wx xs)) (hg : Gl X x := by rfl) (hdb : (x == ("__debug__" : Str)) = false := by decide) (he : starEach (a :: es) X.env = (false, eval a X.env) :: starEach es X.env := by rfl) (hpl : (backTo pos (starEach es X.env)).any (·.1) = false := by rfl) :
    PE X (.Call (.Name x p) (a :: es) [] pos) (tev C cl Wx (xNew c f fz xs)) := pv_new M F R.room R.gd hb R.tk hg hm ha hdb he hpl
theorem q_static (R : Rm X C k Wx) {f : Nat} {D q fa : Addr} {fd : FuncData} {ps : List Str} {x m : Str} {apos : Pos} {pl : Sem Bool} (S : SMet X.K D m q fa) (F : FnG X.prog X.w X.K X.mg X.base (2 * k + 1) fa fd ps (spC C cl f)) (hb : Binds X.K fd ps []) (hm : X.mg x = some (.ref D))
    (ha : PA X (a :: es) (tes C cl Wx xs)) (hg : Gl X x := by rfl) (hdb : (x == ("__debug__" : Str)) = false := by decide) (he : starEach (a :: es) X.env = (false, eval a X.env) :: starEach es X.env := by rfl) (hpl : (backTo pos (starEach es X.env)).any (·.1) = false := by rfl)
    (ht : eval (.Call (.Attribute (.Name x p) m apos) (a :: es) [] pos) X.env = (do
      let ov ← eval (.Name x p) X.env
      standAt apos.atName
      let (f, first) ← holding [ov] (getMethod ov m pl)
      callWith pos f first (backTo pos (starEach (a :: es) X.env)) (backToKw pos (keywordEach [] X.env))) := by rfl) :
    PE X (.Call (.Attribute (.Name x p) m apos) (a :: es) [] pos) (tev C cl Wx (xCall f xs)) := pv_static S F R.r0 R.gd hb R.tk hg hm ha hdb he hpl ht
theorem q_um (R : Rm X C k Wx) {tab : List (Nat × Nat)} {nm : Nat} {m : Str} {apos : Pos} {pl : Sem Bool} (inj : ∀ i j, C.nm i = C.nm j → i = j) (U : UmOk X C cl (2 * k + 1) m tab) (ho : PE X b (tev C cl Wx xb)) (ha : PA X (a :: es) (tes C cl Wx xs)) (hf : C.nm nm = m := by rfl)
    (he : starEach (a :: es) X.env = (false, eval a X.env) :: starEach es X.env := by rfl) (hpl : (backTo pos (starEach es X.env)).any (·.1) = false := by rfl)
    (ht : eval (.Call (.Attribute b m apos) (a :: es) [] pos) X.env = (do
      let ov ← eval b X.env
      standAt apos.atName
      let (f, first) ← holding [ov] (getMethod ov m pl)
      callWith pos f first (backTo pos (starEach (a :: es) X.env)) (backToKw pos (keywordEach [] X.env))) := by rfl) :
    PE X (.Call (.Attribute b m apos) (a :: es) [] pos) (tev C cl Wx (xUm tab nm xb xs)) := pv_um R.K inj hf U R.r0 R.gd R.tk ho ha he hpl ht
theorem q_um0 (R : Rm X C k Wx) {tab : List (Nat × Nat)} {nm : Nat} {m : Str} {apos : Pos} {pl : Sem Bool} (inj : ∀ i j, C.nm i = C.nm j → i = j) (U : UmOk X C cl (2 * k + 1) m tab) (ho : PE X b (tev C cl Wx xb)) (hf : C.nm nm = m := by rfl)
    (ht : eval (.Call (.Attribute b m apos) [] [] pos) X.env = (do
      let ov ← eval b X.env
      standAt apos.atName
      let (f, first) ← holding [ov] (getMethod ov m pl)
      callWith pos f first (backTo pos (starEach [] X.env)) (backToKw pos (keywordEach [] X.env))) := by rfl) :
    PE X (.Call (.Attribute b m apos) [] [] pos) (tev C cl Wx (xUm tab nm xb xsNil)) := pv_um0 R.K inj hf U R.r0 R.gd R.tk ho ht
/-! sources, targets -/
variable {tg : Expr} {elts : List Expr} {kk : Nat} {tpos : Pos} {vs : List Nat} {t : Tx} {ts : Txs}
theorem q_seq (ha : PE X e (tev C cl Wx xe)) : PI X tg e (tit C cl Wx .seq (xsCons xe xsNil)) := piv_seq ha
theorem q_enum (hm : X.mg "enumerate" = none) (ha : PE X e (tev C cl Wx xe)) (hg : Gl X "enumerate" := by rfl) (hs : starEach [e] X.env = [(false, eval e X.env)] := by rfl) :
    PI X (.Tuple elts kk tpos) (.Call (.Name "enumerate" p) [e] [] pos) (tit C cl Wx .enum (xsCons xe xsNil)) := piv_enum hg hm (pas_cons ha pas_nil hs) hs
theorem q_zip (hm : X.mg "zip" = none) (ha : PE X a (tev C cl Wx xa)) (hb : PE X b (tev C cl Wx xb)) (hg : Gl X "zip" := by rfl) (hs : starEach [a, b] X.env = (false, eval a X.env) :: starEach [b] X.env := by rfl) (hs2 : starEach [b] X.env = (false, eval b X.env) :: starEach [] X.env := by rfl) (hpl : (backTo pos (starEach [b] X.env)).any (·.1) = false := by rfl) :
    PI X (.Tuple elts kk tpos) (.Call (.Name "zip" p) [a, b] [] pos) (tit C cl Wx .zip (xsCons xa (xsCons xb xsNil))) := piv_zip hg hm (pas_cons ha (pas_cons hb pas_nil hs2) hs) hs hpl
theorem q_rng1 (hm : X.mg "range" = none) (ha : PE X e (tev C cl Wx xe)) (hg : Gl X "range" := by rfl) (hs : starEach [e] X.env = [(false, eval e X.env)] := by rfl) :
    PI X tg (.Call (.Name "range" p) [e] [] pos) (tit C cl Wx .range (xsCons xe xsNil)) := piv_range1 hg hm (pas_cons ha pas_nil hs) hs
theorem q_rng2 (hm : X.mg "range" = none) (ha : PE X a (tev C cl Wx xa)) (hb : PE X b (tev C cl Wx xb)) (hg : Gl X "range" := by rfl) (hs : starEach [a, b] X.env = [(false, eval a X.env), (false, eval b X.env)] := by rfl) (hs2 : starEach [b] X.env = [(false, eval b X.env)] := by rfl) :
    PI X tg (.Call (.Name "range" p) [a, b] [] pos) (tit C cl Wx .range2 (xsCons xa (xsCons xb xsNil))) := piv_range2 hg hm (pas_cons ha (pas_cons hb pas_nil hs2) (hs.trans (by rw [hs2]))) hs hs2
theorem g_name (i : Nat) {x : Str} (hN : X.N.Nodup) (hi : X.N[i]? = some x := by rfl) (hx : Loc X.env.scope x := by first | exact Or.inl rfl | exact Or.inr rfl) (hf : X.fn x = true ∨ X.env.scope.names.lookup x = some .local := by first | exact .inl rfl | exact .inr rfl) (hv : i ∈ vs := by decide) : PG X (.Name x pos) (ttg' C cl vs (tName i)) := pgv_name hN hi hx hf hv
theorem g_cons (h1 : PG X e (ttg' C cl vs t)) (h2 : PGs X es (ttgs C cl vs ts)) (hs : (assignEach (e :: es) X.env).map (·.2) = assign e X.env :: (assignEach es X.env).map (·.2) := by rfl) : PGs X (e :: es) (ttgs C cl vs (tsCons t ts)) := pgvs_cons h1 h2 hs
theorem g_tup (R : Rm X C k Wx) {n kk : Nat} (h : PGs X es (ttgs C cl vs ts)) (hn : (assignEach es X.env).length = n := by rfl) (hst : (assignEach es X.env).findIdx? (·.1) = none := by rfl) : PG X (.Tuple es kk pos) (ttg' C cl vs (tTup n ts)) := pgv_tup R.calm h hn hst
/-! statements -/
variable {st : Stmt} {body rest : List Stmt} {sa sb : Sx}
theorem q_set (i : Nat) {x : Str} (hN : X.N.Nodup) (he : PE X e (tev C cl Wx xe)) (hi : X.N[i]? = some x := by rfl) (hx : Loc X.env.scope x := by first | exact Or.inl rfl | exact Or.inr rfl) (hs : swapsWith e (some (.Name x p)) pos.line X.env = pure false := by rfl) (hf : X.fn x = true ∨ X.env.scope.names.lookup x = some .local := by first | exact .inl rfl | exact .inr rfl) :
    PS X (.Assign [.Name x p] e pos) (tst C cl Wx (sAsg (tName i) xe)) := psv_set hN hi hx he hs hf
theorem q_asg (vs : List Nat) (he : PE X e (tev C cl Wx xe)) (hg : PG X tg (ttg' C cl vs t)) (hs : swapsWithSole [tg] e pos.line X.env = pure false := by rfl) (hw : swappedStores [tg] e X.env = pure none := by rfl) (h1 : (assignEach [tg] X.env).map (·.2) = [assign tg X.env] := by rfl) :
    PS X (.Assign [tg] e pos) (tst C cl Wx (sAsg t xe)) := psv_asg he hg hs hw h1
theorem q_fld (R : Rm X C k Wx) {cs : List Nat} {nm : Nat} {ff : Str} (inj : ∀ i j, C.nm i = C.nm j → i = j) (hcs : ∀ c ∈ cs, Cls X.K (C.ca c) ∧ NoAttr X.K (C.ca c) ff) (ho : PE X a (tev C cl Wx xa)) (he : PE X e (tev C cl Wx xe)) (hf : C.nm nm = ff := by rfl)
    (hs : swapsWith e (some (.Attribute a ff p)) pos.line X.env = pure false := by rfl) : PS X (.Assign [.Attribute a ff p] e pos) (tst C cl Wx (sAsg (tAttr cs nm xa) xe)) := psv_fld R.K inj hf hcs ho he hs
theorem q_par (R : Rm X C k Wx) (i j : Nat) {x y : Str} {px py pt : Pos} {kt k2 pt2} (hN : X.N.Nodup) (ha : PA X [a, b] (tes C cl Wx xs)) (hij : i ≠ j := by decide) (hi : X.N[i]? = some x := by rfl) (hj : X.N[j]? = some y := by rfl) (hx : X.env.scope.names.lookup x = some .local := by rfl) (hy : X.env.scope.names.lookup y = some .local := by rfl)
    (hw : swappedStores [.Tuple [.Name x px, .Name y py] kt pt] (.Tuple [a, b] k2 pt2) X.env = pure (some [x, y]) := by rfl)
    (hs : swapsWithSole [.Tuple [.Name x px, .Name y py] kt pt] (.Tuple [a, b] k2 pt2) pos.line X.env = pure false := by rfl) :
    PS X (.Assign [.Tuple [.Name x px, .Name y py] kt pt] (.Tuple [a, b] k2 pt2) pos) (tst C cl Wx (sPar i j xs)) := psv_par R.calm hN hi hj hij hx hy ha hw hs
theorem q_ex (he : PE X e (tev C cl Wx xe)) (hs : swapsWith e none pos.line X.env = pure false := by rfl) : PS X (.Expr e pos) (tst C cl Wx (sEx xe)) := psv_expr he hs
theorem q_for (R : Rm X C k Wx) (vs : List Nat) {iter : Expr} {ik : IK} {its : Exs} (hi : PI X tg iter (tit C cl Wx ik its)) (hg : PG X tg (ttg' C cl vs t)) (hb : PSs X body (tst C cl Wx sb)) (hs : ∀ x, foldedSetIterable iter X.env x = pure x := by intro _; rfl) :
    PS X (.For tg iter body [] pos) (tst C cl Wx (sFor t ik its sb)) := psv_for R.ps R.calm hi hg hb hs
theorem q_while (R : Rm X C k Wx) (hc : PT X c (ttv C cl Wx xc)) (hb : PSs X body (tst C cl Wx sb)) : PS X (.While c body [] pos) (tst C cl Wx (sWh xc sb)) := psv_while R.ps hc hb
theorem q_lc (R : Rm X C k Wx) (own : List (Str × Nat)) {elt iter : Expr} {ifs : List Expr} {scope : Scope} {ik : IK} {its : Exs} {xi : Exb} {m : Bool} (hN : X.N.Nodup) (hi : PI X tg iter (tit C cl Wx ik its))
    (hg : ∀ (s : Shared) (H : Hp) (C' : Addr) (cls : List (Str × Addr)) (fp : List Addr), Rm (X.blk s H scope (compEnvC scope cls C' X.env) fp) C k WF → PG (X.blk s H scope (compEnvC scope cls C' X.env) fp) tg (ttg' C cl (own.map (·.2)) t)) (ht : ∀ (s : Shared) (H : Hp) (C' : Addr) (cls : List (Str × Addr)) (fp : List Addr), Rm (X.blk s H scope (compEnvC scope cls C' X.env) fp) C k WF → PTs (X.blk s H scope (compEnvC scope cls C' X.env) fp) ifs (tfs C cl WF xi))
    (he : ∀ (s : Shared) (H : Hp) (C' : Addr) (cls : List (Str × Addr)) (fp : List Addr), Rm (X.blk s H scope (compEnvC scope cls C' X.env) fp) C k WF → PE (X.blk s H scope (compEnvC scope cls C' X.env) fp) elt (tev C cl WF xe)) (ok : blkC X.N X.env.scope scope own = true := by rfl) (hs : ∀ x, foldedSetIterable iter X.env x = pure x := by intro _; rfl) :
    PE X (.ListComp elt [⟨tg, iter, ifs, 0⟩] scope pos) (tev C cl Wx (xComp m (own.map (·.2)) t ik its xi xe)) := pv_lc R.calm hN hi (blkOk_by ok) (fun s H C' cls fp => hg s H C' cls fp R.blk) (fun s H C' cls fp => ht s H C' cls fp R.blk) (fun s H C' cls fp => he s H C' cls fp R.blk) hs
theorem q_setLc (R : Rm X C k Wx) (i : Nat) (own : List (Str × Nat)) {y : Str} {py spos : Pos} {elt iter : Expr} {ifs : List Expr} {scope : Scope} {ik : IK} {its : Exs} {xi : Exb} {m : Bool} (hN : X.N.Nodup) (hi : PI X tg iter (tit C cl Wx ik its))
    (hg : ∀ (s : Shared) (H : Hp) (C' : Addr) (cls : List (Str × Addr)) (fp : List Addr), Rm (X.blk s H scope (compEnvC scope cls C' X.env) fp) C k WF → PG (X.blk s H scope (compEnvC scope cls C' X.env) fp) tg (ttg' C cl (own.map (·.2)) t)) (ht : ∀ (s : Shared) (H : Hp) (C' : Addr) (cls : List (Str × Addr)) (fp : List Addr), Rm (X.blk s H scope (compEnvC scope cls C' X.env) fp) C k WF → PTs (X.blk s H scope (compEnvC scope cls C' X.env) fp) ifs (tfs C cl WF xi))
    (he : ∀ (s : Shared) (H : Hp) (C' : Addr) (cls : List (Str × Addr)) (fp : List Addr), Rm (X.blk s H scope (compEnvC scope cls C' X.env) fp) C k WF → PE (X.blk s H scope (compEnvC scope cls C' X.env) fp) elt (tev C cl WF xe)) (ok : blkC X.N X.env.scope scope own = true := by rfl) (hs : ∀ x, foldedSetIterable iter X.env x = pure x := by intro _; rfl)
    (hy : X.N[i]? = some y := by rfl) (hyl : X.env.scope.names.lookup y = some .local := by rfl) (hsw : swapsWith (.ListComp elt [⟨tg, iter, ifs, 0⟩] scope pos) (some (.Name y py)) spos.line X.env = pure true := by rfl) :
    PS X (.Assign [.Name y py] (.ListComp elt [⟨tg, iter, ifs, 0⟩] scope pos) spos) (tst C cl Wx (sAsg (tName i) (xComp m (own.map (·.2)) t ik its xi xe))) := psv_setLc R.calm hN hy hyl hsw hi (blkOk_by ok) (fun s H C' cls fp => hg s H C' cls fp R.blk) (fun s H C' cls fp => ht s H C' cls fp R.blk) (fun s H C' cls fp => he s H C' cls fp R.blk) hs
theorem q_rai (R : Rm X C k Wx) {c : Nat} {fa : Addr} {fd : FuncData} {x arg : Str} {pos2 : Pos} (T : OexC X.K (C.ca c)) (iC : PySem.W.findIn X.K (.ref (C.ca c)) "__init__" = some (some (.ref fa))) (tI : PySem.W.typeIn X.K (.ref fa) = some (.type "function"))
    (F : FnOk X.prog X.w X.K X.mg X.base CX0 (2 * k + 1) fa fd ["self", arg] (spXi X.K (C.xf c))) (hno : PySem.W.findIn X.K (.ref (C.ca c)) (C.xf c) = some none) (hb : Binds X.K fd ["self", arg] []) (hm : X.mg x = some (.ref (C.ca c)))
    (he : PE X e (tev C cl Wx xe)) (hg : Gl X x := by rfl) (hdb : (x == ("__debug__" : Str)) = false := by decide) (hs : starEach [e] X.env = (false, eval e X.env) :: starEach [] X.env := by rfl) (hpl : (backTo pos (starEach [] X.env)).any (·.1) = false := by rfl) :
    PS X (.Raise (some (.Call (.Name x p) [e] [] pos)) none pos2) (tst C cl Wx (sRai c xe)) := psv_rai R.K R.calm R.tk T iC tI F hno R.room hb hg hm he hdb hs hpl
theorem q_tryAs (R : Rm X C k Wx) (i : Nat) {x n : Str} {tab : List (Nat × Bool)} {cv : Value} {suite : List Stmt} {b₀ : Stmt} {np pos' : Pos} {sx : Option W → Sx} (hN : X.N.Nodup) (hm : X.mg x = some cv)
    (htab : ∀ c' t, tab.lookup c' = some t → PySem.W.exmOne X.K (.ref (C.ca c')) cv = some t)
    (hb : ∀ (W : WX) (pn : List (Addr × Obj)) (xe : Value → Shared → Prop), Rm (X.tr pn xe) C k W → PSs (X.tr pn xe) body (tst C cl W sb))
    (hsu : ∀ (a : Addr) (oe : Obj) (cls : Value) (d : Option Addr) (pn : List (Addr × Obj)), Zc cls d oe → (∃ vs, oe.data = .fields vs) → PSs (X.suite a ((a, oe) :: pn)) (b₀ :: suite) (tstX C cl i tab sx a cls d))
    (hs : X.stack = X.env :: X.outer := by rfl) (hf : X.env.frame = some X.env.locals := by rfl) (hi : X.N[i]? = some n := by rfl) (hln : X.env.kindOf n = some .local := by rfl) (hg : Gl X x := by rfl) (hdb : (x == ("__debug__" : Str)) = false := by decide) :
    PS X (.Try body [.ExceptHandler (some (.Name x np)) (some n) (b₀ :: suite) pos'] [] [] pos) (tst C cl Wx (sTryAs tab i sx sb)) :=
  psv_tryAs hs hf hN hi hln ⟨hg, hdb, .inl hm⟩ R.tk htab (fun W pn xe tk ps => hb W pn xe (R.tr tk ps)) hsu
theorem q_xattr (R : Rm X C k Wx) {i : Nat} {tab : List (Nat × Bool)} {a : Addr} {cls : Value} {d : Option Addr} {oe : Obj} {pn : List (Addr × Obj)} {f n : Str} (T : ∀ c', tab.lookup c' = some true → XfC X.K (C.ca c') ∧ PySem.W.findIn X.K (.ref (C.ca c')) f = some none ∧ C.xf c' = f) (hz : Zc cls d oe) (hf : ∃ vs, oe.data = .fields vs)
    (hN : X.N[i]? = some n := by rfl) (hv : Vis X.env.scope n := by first | exact Or.inl rfl | exact Or.inr (Or.inl rfl) | exact Or.inr (Or.inr rfl)) (hd : (n == ("__debug__" : Str)) = false := by decide) (hcd : (n == ("__classdict__" : Str)) = false := by decide) (hb : attributeBase (.Name n p) f X.env (eval (.Name n p) X.env) = eval (.Name n p) X.env := by rfl) :
    PE (X.suite a ((a, oe) :: pn)) (.Attribute (.Name n p) f pos) (tevX C cl i tab a cls d xExc) := pvX_attr R.K T hz hf (pe_var (X := X.suite a ((a, oe) :: pn)) hN hv hd hcd) hb
theorem qX_set (j : Nat) {X' : Cx} {i : Nat} {tab : List (Nat × Bool)} {a : Addr} {cls : Value} {d : Option Addr} {y : Str} {xX : Option W → Ex} (hN : X'.N.Nodup) (he : PE X' e (tevX C cl i tab a cls d xX)) (hj : X'.N[j]? = some y := by rfl) (hy : Loc X'.env.scope y := by first | exact Or.inl rfl | exact Or.inr rfl)
    (hs : swapsWith e (some (.Name y p)) pos.line X'.env = pure false := by rfl) (hf : X'.fn y = true ∨ X'.env.scope.names.lookup y = some .local := by first | exact .inl rfl | exact .inr rfl) : PSs X' [.Assign [.Name y p] e pos] (tstX C cl i tab (fun o => sAsg (tName j) (xX o)) a cls d) := psX_set hN hj hy he hs hf
end
/-- tables -/
theorem tab_nil {β : Type} {Pr : Nat → β → Prop} : ∀ c' t', List.lookup c' ([] : List (Nat × β)) = some t' → Pr c' t' := fun _ _ h => by cases h
theorem tab_cons {β : Type} {Pr : Nat → β → Prop} {c : Nat} {t : β} {l : List (Nat × β)} (h : Pr c t) (r : ∀ c' t', List.lookup c' l = some t' → Pr c' t') : ∀ c' t', List.lookup c' ((c, t) :: l) = some t' → Pr c' t' := fun c' t' e => by
  by_cases z : c' = c
  · subst z
    simp at e
    subst e; exact h
  · have : (c' == c) = false := by simpa using z
    simp only [List.lookup, this] at e
    exact r c' t' e
theorem mem_one {Pr : Nat → Prop} {c : Nat} (h : Pr c) : ∀ k ∈ [c], Pr k := fun k m => by rw [List.mem_singleton.mp m]; exact h
theorem mem_more {Pr : Nat → Prop} {c : Nat} {l : List Nat} (h : Pr c) (r : ∀ k ∈ l, Pr k) : ∀ k ∈ c :: l, Pr k := fun k m => by
  rcases List.mem_cons.mp m with e | m
  · rw [e]; exact h
  · exact r k m
/-- which clause takes which exception -/
theorem exm_of {K : PySem.W.Frag} {S D : Addr} {b : Bool} (h1 : PySem.W.subIn K (.ref D) (.type "BaseException") = some true) (h2 : PySem.W.isClsIn K D = true) (h3 : PySem.W.typeIn K (.ref D) = some (.type "type")) (h4 : PySem.W.subIn K (.ref S) (.ref D) = some b) : PySem.W.exmOne K (.ref S) (.ref D) = some b := by
  have h2' : (PySem.W.clsIn K D).isSome = true := h2
  unfold PySem.W.exmOne
  simp [h1, PySem.W.kitCls, h2', h3, h4]
/-! the end -/
def isTrueR : R W → Bool
  | .ok (.bl true) _ => true
  | _ => false
theorem law_sp {C : Cf} {cl : CL} {f : Nat} (g : isTrueR (cl f [.any] []) = true) (v : V) : spC C cl f [v] nil (fun v _ => v = .bl true) fun _ _ _ => False := by
  refine ⟨⟨[], fun _ => none, fun _ => False⟩, [], [.any], ⟨rfl, .nil, fun n a c i => by simp at i, fun a i => (by simp at i), fun a o e => (by cases e), fun a p => p.elim, fun d x e => (by cases e)⟩, ⟨v, [], rfl, trivial, rfl⟩, ?_⟩
  cases e : cl f [.any] [] with
  | no => rw [e] at g; cases g
  | exn c a h => rw [e] at g; cases g
  | ok w h =>
    rw [e] at g
    cases w with
    | bl b =>
      cases b with
      | true => exact fun γ' v H' _ _ _ r => r
      | false => cases g
    | _ => cases g
end Ov
/-! K12: what ovgen.py has printed of the law -/
namespace K12
open PySem PySem.Spec PyProof.Rows L2 Ov
abbrev pw := PySem.Challenge.pw_sharedlines_k12_typed_texts_judged
def top (i : Nat) : Stmt := pw.main.body.getD i (.Pass ⟨0, 0, 0, 0⟩)
/-! the defs as the evaluator has them -/
/-- law -/
def b0 : Sx := sSeq (sFor (tName 1) .seq (xsCons (xCall 1 xsNil) xsNil) (sFor (tName 2) .seq (xsCons (xTup (xsCons (xVar 1) (xsCons (xBin .add (xVar 1) (xCon (.str [10, 119, 114, 105, 116, 101, 32, 121]))) (xsCons (xBin .add (xCon (.str [119, 114, 105, 116, 101, 32, 121, 32, 45, 62, 32, 49, 10])) (xVar 1)) (xsCons (xBin .add (xBin .add (xCon (.str [119, 114, 105, 116, 101, 32, 121, 10])) (xVar 1)) (xCon (.str [10, 114, 101, 97, 100, 32, 122, 32, 45, 62, 32, 48, 32, 50]))) (xsNil)))))) xsNil) (sIf (xCmp .ne (xF gRepr (xsCons (xCall 2 (xsCons (xVar 2) (xsNil))) (xsNil))) (xF gRepr (xsCons (xCall 9 (xsCons (xVar 2) (xsNil))) (xsNil)))) (sRet (xCon (.bl false))) (sPass)))) (sSeq (sFor (tName 3) .range2 (xsCons (xCon (.int 7)) (xsCons (xCon (.int 11)) (xsNil))) (sSeq (sAsg (tName 4) (xComp false [6] (tName 6) .range (xsCons (xVar 3) (xsNil)) ifNil (xBin .add (xCon (.str [114, 101, 97, 100, 32, 120, 32, 45, 62, 32])) (xF gStr (xsCons (xBin .fdiv (xBin .add (xBin .mul (xVar 6) (xCon (.int 3))) (xCon (.int 1))) (xCon (.int 4))) (xsNil)))))) (sFor (tName 5) .seq (xsCons (xTup (xsCons (xCon (.str [114, 101, 97, 100, 32, 121])) (xsCons (xCon (.str [114, 101, 97, 100, 32, 121, 32, 45, 62, 32, 55])) (xsCons (xCon (.str [114, 101, 97, 100, 32, 121, 32, 45, 62, 32, 56])) (xsCons (xCon (.str [114, 101, 97, 100, 32, 121, 32, 45, 62, 32, 57])) (xsCons (xCon (.str [114, 101, 97, 100, 32, 121, 32, 45, 62, 32, 48, 32, 55, 32, 101, 110, 100])) (xsCons (xCon (.str [])) (xsNil)))))))) xsNil) (sFor (tName 2) .seq (xsCons (xTup (xsCons (xM .str mJoin (xCon (.str [10])) (xsCons (xBin .add (xVar 4) (xLst false (xsCons (xVar 5) (xsNil)))) (xsNil))) (xsCons (xM .str mJoin (xCon (.str [10])) (xsCons (xBin .add (xLst false (xsCons (xVar 5) (xsNil))) (xVar 4)) (xsNil))) (xsCons (xM .str mJoin (xCon (.str [10])) (xsCons (xBin .add (xSlc false (xVar 4) oNone (oSome (xCon (.int 7)))) (xLst false (xsCons (xVar 5) (xsNil)))) (xsNil))) (xsNil))))) xsNil) (sIf (xCmp .ne (xF gRepr (xsCons (xCall 2 (xsCons (xVar 2) (xsNil))) (xsNil))) (xF gRepr (xsCons (xCall 9 (xsCons (xVar 2) (xsNil))) (xsNil)))) (sRet (xCon (.bl false))) (sPass)))))) (sRet (xCon (.bl true))))
/-- _law_rows -/
def b1 : Sx := sSeq (sAsg (tName 0) (xLst false (xsCons (xCon (.str [114, 101, 97, 100, 32, 120])) (xsCons (xCon (.str [119, 114, 105, 116, 101, 32, 120])) (xsCons (xCon (.str [114, 101, 97, 100, 32, 120, 32, 45, 62, 32, 48])) (xsCons (xCon (.str [114, 101, 97, 100, 32, 120, 32, 45, 62, 32, 48, 32, 49])) (xsCons (xCon (.str [114, 101, 97, 100, 32, 120, 32, 45, 62, 32, 48, 32, 49, 32, 50])) (xsCons (xCon (.str [114, 101, 97, 100, 32, 120, 32, 45, 62, 32, 101, 110, 100])) (xsNil))))))))) (sSeq (sAsg (tName 0) (xBin .add (xVar 0) (xLst false (xsCons (xCon (.str [114, 101, 97, 100, 32, 120, 32, 45, 62, 32, 48, 32, 101, 110, 100])) (xsCons (xCon (.str [114, 101, 97, 100, 32, 120, 32, 45, 62, 32, 48, 32, 49, 32, 101, 110, 100])) (xsCons (xCon (.str [114, 101, 97, 100, 32, 101, 110, 100])) (xsCons (xCon (.str [119, 114, 105, 116, 101, 32, 114, 101, 97, 100, 32, 45, 62, 32, 49])) (xsCons (xCon (.str [114, 101, 97, 100, 32, 119, 114, 105, 116, 101])) (xsNil))))))))) (sSeq (sAsg (tName 0) (xBin .add (xVar 0) (xLst false (xsCons (xCon (.str [114, 101, 97, 100, 32, 120, 32, 45, 62, 32, 49, 32, 48])) (xsCons (xCon (.str [114, 101, 97, 100, 32, 120, 32, 45, 62, 32, 49, 32, 49])) (xsCons (xCon (.str [114, 101, 97, 100, 32, 120, 32, 45, 62, 32, 51])) (xsCons (xCon (.str [114, 101, 97, 100, 32, 120, 32, 45, 62, 32, 50])) (xsCons (xCon (.str [114, 101, 97, 100, 32, 120, 32, 45, 62, 32, 49, 48])) (xsNil))))))))) (sSeq (sAsg (tName 0) (xBin .add (xVar 0) (xLst false (xsCons (xCon (.str [114, 101, 97, 100, 32, 120, 32, 45, 62, 32, 48, 48])) (xsCons (xCon (.str [114, 101, 97, 100, 32, 120, 32, 45, 62, 32, 48, 49])) (xsCons (xCon (.str [114, 101, 97, 100, 32, 120, 32, 45, 62, 32, 45, 49])) (xsCons (xCon (.str [114, 101, 97, 100, 32, 120, 32, 45, 62, 32, 43, 49])) (xsCons (xCon (.str [114, 101, 97, 100, 32, 120, 32, 45, 62, 32, 49, 46, 48])) (xsNil))))))))) (sSeq (sAsg (tName 0) (xBin .add (xVar 0) (xLst false (xsCons (xCon (.str [114, 101, 97, 100, 32, 120, 32, 45, 62, 32, 101, 110, 100, 32, 48])) (xsCons (xCon (.str [114, 101, 97, 100, 32, 120, 32, 45, 62, 32, 101, 110, 100, 32, 101, 110, 100])) (xsCons (xCon (.str [114, 101, 97, 100, 32, 120, 32, 45, 62, 32, 48, 32, 101, 110, 100, 32, 49])) (xsCons (xCon (.str [114, 101, 97, 100, 32, 120, 32, 45, 62])) (xsCons (xCon (.str [114, 101, 97, 100, 32, 120, 32, 45, 62, 32])) (xsNil))))))))) (sSeq (sAsg (tName 0) (xBin .add (xVar 0) (xLst false (xsCons (xCon (.str [114, 101, 97, 100, 32, 120, 32, 32, 45, 62, 32, 48])) (xsCons (xCon (.str [114, 101, 97, 100, 32, 32, 120])) (xsCons (xCon (.str [32, 114, 101, 97, 100, 32, 120])) (xsCons (xCon (.str [114, 101, 97, 100, 32, 120, 32])) (xsCons (xCon (.str [114, 101, 97, 100, 32, 120, 45, 62, 48])) (xsCons (xCon (.str [114, 101, 97, 100, 32, 120, 32, 45, 32, 62, 32, 48])) (xsNil)))))))))) (sSeq (sAsg (tName 0) (xBin .add (xVar 0) (xLst false (xsCons (xCon (.str [114, 101, 97, 100, 32, 120, 32, 61, 62, 32, 48])) (xsCons (xCon (.str [114, 101, 97, 100, 32, 120, 32, 48])) (xsCons (xCon (.str [114, 101, 97, 100, 32, 120, 32, 101, 110, 100])) (xsCons (xCon (.str [114, 101, 97, 100, 32, 120, 32, 45, 62, 32, 48, 44, 49])) (xsCons (xCon (.str [114, 101, 97, 100])) (xsCons (xCon (.str [119, 114, 105, 116, 101])) (xsCons (xCon (.str [114, 101, 97, 100, 32])) (xsNil))))))))))) (sSeq (sAsg (tName 0) (xBin .add (xVar 0) (xLst false (xsCons (xCon (.str [82, 101, 97, 100, 32, 120])) (xsCons (xCon (.str [114, 101, 97, 100, 115, 32, 120])) (xsCons (xCon (.str [114, 101, 97, 100, 32, 88])) (xsCons (xCon (.str [114, 101, 97, 100, 32, 120, 49])) (xsCons (xCon (.str [114, 101, 97, 100, 32, 120, 32, 121])) (xsCons (xCon (.str [114, 101, 97, 100, 32, 97, 98, 99, 100, 101, 102, 103, 104])) (xsCons (xCon (.str [114, 101, 97, 100, 32, 97, 98, 99, 100, 101, 102, 103, 104, 105])) (xsNil))))))))))) (sRet (xBin .add (xVar 0) (xLst false (xsCons (xCon (.str [])) (xsCons (xCon (.str [45, 62, 32, 48])) (xsCons (xCon (.str [120, 32, 45, 62, 32, 48])) (xsCons (xCon (.str [119, 114, 105, 116, 101, 32, 120, 32, 45, 62, 32, 69, 78, 68])) (xsCons (xCon (.str [119, 114, 105, 116, 101, 32, 120, 32, 45, 62, 32, 49, 95, 48])) (xsCons (xBin .add (xCon (.str [114, 101, 97, 100, 32, 120, 32, 45, 62, 32])) (xBin .mul (xCon (.str [57])) (xCon (.int 5000)))) (xsNil)))))))))))))))))
/-- _law_told -/
def b2 : Sx := sSeq (sAsg (tName 1) (xCon .non)) (sSeq (sTryAs [(1, true)] 2 (fun o => sAsg (tName 1) (xExc o)) (sAsg (tName 1) (xAttr [2] 0 (xCall 3 (xsCons (xVar 0) (xsNil)))))) (sRet (xVar 1)))
/-- Program.parse -/
def b3 : Sx := sSeq (sIf (xNot (xF (gIsTy .str) (xsCons (xVar 0) xsNil))) (sRai 1 (xCon (.int 0))) (sPass)) (sSeq (sPar 1 2 (xsCons (xM .str (mSplit false) (xVar 0) (xsCons (xCon (.str [10])) (xsNil))) (xsCons (xLst true (xsNil)) (xsNil)))) (sSeq (sFor (tTup 2 (tsCons (tName 3) (tsCons (tName 4) (tsNil)))) .enum (xsCons (xVar 1) (xsNil)) (sSeq (sAsg (tName 5) (xIte (xCmp .lt (xVar 3) (xCon (.int 8))) (xCall 4 (xsCons (xVar 4) (xsCons (xF gLen (xsCons (xVar 1) (xsNil))) (xsNil)))) (xCon .non))) (sSeq (sIf (xIsN true (xVar 5)) (sRai 1 (xVar 3)) (sPass)) (sEx (xM .list mAppend (xVar 2) (xsCons (xVar 5) (xsNil))))))) (sRet (xNew 2 8 true (xsCons (xVar 0) (xsCons (xF gTuple (xsCons (xVar 2) (xsNil))) (xsNil)))))))
/-- read_row -/
def b4 : Sx := sSeq (sAsg (tName 2) (xM .str (mSplit false) (xVar 0) (xsCons (xCon (.str [32])) (xsNil)))) (sSeq (sIf (xOr (xCmp .lt (xF gLen (xsCons (xVar 2) (xsNil))) (xCon (.int 2))) (xOr (xCmp .notin (xIdx (xVar 2) (xCon (.int 0))) (xLst false (xsCons (xCon (.str [114, 101, 97, 100])) (xsCons (xCon (.str [119, 114, 105, 116, 101])) (xsNil))))) (xNot (xCall 5 (xsCons (xIdx (xVar 2) (xCon (.int 1))) (xsNil)))))) (sRet (xCon .non)) (sPass)) (sSeq (sAsg (tName 3) (xLst false (xsCons (xCon .non) (xsNil)))) (sSeq (sIf (xCmp .gt (xF gLen (xsCons (xVar 2) (xsNil))) (xCon (.int 2))) (sSeq (sIf (xOr (xCmp .ne (xIdx (xVar 2) (xCon (.int 2))) (xCon (.str [45, 62]))) (xCmp .eq (xF gLen (xsCons (xVar 2) (xsNil))) (xCon (.int 3)))) (sRet (xCon .non)) (sPass)) (sAsg (tName 3) (xCall 6 (xsCons (xSlc false (xVar 2) (oSome (xCon (.int 3))) oNone) (xsCons (xVar 1) (xsNil)))))) (sPass)) (sRet (xIte (xIsN true (xVar 3)) (xCon .non) (xTup (xsCons (xIdx (xVar 2) (xCon (.int 0))) (xsCons (xIdx (xVar 2) (xCon (.int 1))) (xsCons (xF gTuple (xsCons (xVar 3) (xsNil))) (xsNil))))))))))
/-- is_name -/
def b5 : Sx := sSeq (sIf (xOr (xNot (xF (gIsTy .str) (xsCons (xVar 0) xsNil))) (xNot (xChain .le .le (xCon (.int 1)) (xF gLen (xsCons (xVar 0) (xsNil))) (xCon (.int 8))))) (sRet (xCon (.bl false))) (sPass)) (sRet (xF gAll (xsCons (xComp false [1] (tName 1) .seq (xsCons (xVar 0) xsNil) ifNil (xCmp .isin (xVar 1) (xCon (.str [97, 98, 99, 100, 101, 102, 103, 104, 105, 106, 107, 108, 109, 110, 111, 112, 113, 114, 115, 116, 117, 118, 119, 120, 121, 122])))) (xsNil))))
/-- read_targets -/
def b6 : Sx := sSeq (sAsg (tName 2) (xIte (xCmp .eq (xIdx (xVar 0) (xNeg (xCon (.int 1)))) (xCon (.str [101, 110, 100]))) (xSlc false (xVar 0) oNone (oSome (xNeg (xCon (.int 1))))) (xVar 0))) (sSeq (sAsg (tName 3) (xComp false [4] (tName 4) .seq (xsCons (xVar 2) xsNil) ifNil (xCall 7 (xsCons (xVar 4) (xsNil))))) (sSeq (sIf (xOr (xCmp .isin (xCon .non) (xVar 3)) (xCmp .ne (xComp false [5] (tName 5) .seq (xsCons (xVar 3) xsNil) (ifCons (xCmp .ge (xVar 5) (xVar 1)) ifNil) (xVar 5)) (xLst false (xsNil)))) (sRet (xCon .non)) (sPass)) (sSeq (sIf (xCmp .ne (xComp false [6, 7] (tTup 2 (tsCons (tName 6) (tsCons (tName 7) (tsNil)))) .zip (xsCons (xSlc false (xVar 3) oNone (oSome (xNeg (xCon (.int 1))))) (xsCons (xSlc false (xVar 3) (oSome (xCon (.int 1))) oNone) (xsNil))) (ifCons (xCmp .ge (xVar 6) (xVar 7)) ifNil) (xVar 6)) (xLst false (xsNil))) (sRet (xCon .non)) (sPass)) (sRet (xIte (xCmp .eq (xIdx (xVar 0) (xNeg (xCon (.int 1)))) (xCon (.str [101, 110, 100]))) (xBin .add (xVar 3) (xLst false (xsCons (xCon .non) (xsNil)))) (xVar 3))))))
/-- read_number -/
def b7 : Sx := sSeq (sIf (xOr (xNot (xChain .le .le (xCon (.int 1)) (xF gLen (xsCons (xVar 0) (xsNil))) (xCon (.int 9)))) (xNot (xF gAll (xsCons (xComp false [1] (tName 1) .seq (xsCons (xVar 0) xsNil) ifNil (xCmp .isin (xVar 1) (xCon (.str [48, 49, 50, 51, 52, 53, 54, 55, 56, 57])))) (xsNil))))) (sRet (xCon .non)) (sPass)) (sRet (xIte (xAnd (xCmp .eq (xIdx (xVar 0) (xCon (.int 0))) (xCon (.str [48]))) (xCmp .ne (xVar 0) (xCon (.str [48])))) (xCon .non) (xF gInt (xsCons (xVar 0) (xsNil)))))
/-- Program.__init__ -/
def b8 : Sx := sSeq (sAsg (tAttr [2] 1 (xVar 0)) (xVar 1)) (sAsg (tAttr [2] 0 (xVar 0)) (xVar 2))
/-- _law_due -/
def b9 : Sx := sSeq (sIf (xOr (xNot (xF (gIsTy .str) (xsCons (xVar 0) xsNil))) (xCmp .eq (xVar 0) (xCon (.str [])))) (sRet (xCon (.int 0))) (sPass)) (sSeq (sPar 1 2 (xsCons (xM .str (mSplit false) (xVar 0) (xsCons (xCon (.str [10])) (xsNil))) (xsCons (xLst true (xsNil)) (xsNil)))) (sSeq (sFor (tTup 2 (tsCons (tName 3) (tsCons (tName 4) (tsNil)))) .enum (xsCons (xVar 1) (xsNil)) (sSeq (sAsg (tName 5) (xIte (xCmp .lt (xVar 3) (xCon (.int 8))) (xCall 10 (xsCons (xVar 4) (xsCons (xF gLen (xsCons (xVar 1) (xsNil))) (xsNil)))) (xCon .non))) (sSeq (sIf (xIsN true (xVar 5)) (sRet (xVar 3)) (sPass)) (sEx (xM .list mAppend (xVar 2) (xsCons (xVar 5) (xsNil))))))) (sRet (xF gTuple (xsCons (xVar 2) (xsNil))))))
/-- _law_node -/
def b10 : Sx := sSeq (sAsg (tName 2) (xM .str (mSplit false) (xVar 0) (xsCons (xCon (.str [32])) (xsNil)))) (sSeq (sIf (xOr (xCmp .lt (xF gLen (xsCons (xVar 2) (xsNil))) (xCon (.int 2))) (xOr (xCmp .notin (xIdx (xVar 2) (xCon (.int 0))) (xTup (xsCons (xCon (.str [114, 101, 97, 100])) (xsCons (xCon (.str [119, 114, 105, 116, 101])) (xsNil))))) (xNot (xChain .le .le (xCon (.int 1)) (xF gLen (xsCons (xIdx (xVar 2) (xCon (.int 1))) (xsNil))) (xCon (.int 8)))))) (sRet (xCon .non)) (sPass)) (sSeq (sIf (xCmp .ne (xComp false [8] (tName 8) .seq (xsCons (xIdx (xVar 2) (xCon (.int 1))) xsNil) (ifCons (xCmp .notin (xVar 8) (xCon (.str [97, 98, 99, 100, 101, 102, 103, 104, 105, 106, 107, 108, 109, 110, 111, 112, 113, 114, 115, 116, 117, 118, 119, 120, 121, 122]))) ifNil) (xVar 8)) (xLst false (xsNil))) (sRet (xCon .non)) (sPass)) (sSeq (sIf (xCmp .eq (xF gLen (xsCons (xVar 2) (xsNil))) (xCon (.int 2))) (sRet (xTup (xsCons (xIdx (xVar 2) (xCon (.int 0))) (xsCons (xIdx (xVar 2) (xCon (.int 1))) (xsCons (xTup (xsCons (xCon .non) (xsNil))) (xsNil)))))) (sPass)) (sSeq (sIf (xOr (xCmp .ne (xIdx (xVar 2) (xCon (.int 2))) (xCon (.str [45, 62]))) (xCmp .eq (xF gLen (xsCons (xVar 2) (xsNil))) (xCon (.int 3)))) (sRet (xCon .non)) (sPass)) (sSeq (sPar 3 4 (xsCons (xLst true (xsNil)) (xsCons (xNeg (xCon (.int 1))) (xsNil)))) (sSeq (sFor (tTup 2 (tsCons (tName 5) (tsCons (tName 6) (tsNil)))) .enum (xsCons (xSlc false (xVar 2) (oSome (xCon (.int 3))) oNone) (xsNil)) (sIf (xAnd (xCmp .eq (xVar 6) (xCon (.str [101, 110, 100]))) (xCmp .eq (xBin .add (xVar 5) (xCon (.int 4))) (xF gLen (xsCons (xVar 2) (xsNil))))) (sEx (xM .list mAppend (xVar 3) (xsCons (xCon .non) (xsNil)))) (sSeq (sAsg (tName 7) (xCall 11 (xsCons (xVar 6) (xsNil)))) (sSeq (sIf (xOr (xIsN true (xVar 7)) (xNot (xChain .lt .lt (xVar 4) (xVar 7) (xVar 1)))) (sRet (xCon .non)) (sPass)) (sSeq (sAsg (tName 4) (xVar 7)) (sEx (xM .list mAppend (xVar 3) (xsCons (xVar 7) (xsNil))))))))) (sRet (xTup (xsCons (xIdx (xVar 2) (xCon (.int 0))) (xsCons (xIdx (xVar 2) (xCon (.int 1))) (xsCons (xF gTuple (xsCons (xVar 3) (xsNil))) (xsNil))))))))))))
/-- _law_number -/
def b11 : Sx := sSeq (sIf (xOr (xCmp .eq (xVar 0) (xCon (.str []))) (xOr (xAnd (xCmp .gt (xF gLen (xsCons (xVar 0) (xsNil))) (xCon (.int 1))) (xCmp .eq (xIdx (xVar 0) (xCon (.int 0))) (xCon (.str [48])))) (xCmp .gt (xF gLen (xsCons (xVar 0) (xsNil))) (xCon (.int 4))))) (sRet (xCon .non)) (sPass)) (sRet (xIte (xCmp .eq (xComp false [1] (tName 1) .seq (xsCons (xVar 0) xsNil) (ifCons (xCmp .notin (xVar 1) (xCon (.str [48, 49, 50, 51, 52, 53, 54, 55, 56, 57]))) ifNil) (xVar 1)) (xLst false (xsNil))) (xF gInt (xsCons (xVar 0) (xsNil))) (xCon .non)))
def fns : List Fn := [⟨1, 7, true, b0⟩,
  ⟨0, 1, true, b1⟩,
  ⟨1, 3, true, b2⟩,
  ⟨1, 6, true, b3⟩,
  ⟨2, 4, true, b4⟩,
  ⟨1, 2, true, b5⟩,
  ⟨2, 8, true, b6⟩,
  ⟨1, 2, true, b7⟩,
  ⟨3, 3, false, b8⟩,
  ⟨1, 6, true, b9⟩,
  ⟨2, 9, true, b10⟩,
  ⟨1, 2, true, b11⟩]
/-- where the text's objects stand -/
structure Ad where
  (f0 f1 f2 f3 f4 f5 f6 f7 f8 f9 f10 f11 q3 c_Program c_InvalidText x_InvalidText : Addr)
  (d0 d1 d2 d3 d4 d5 d6 d7 d8 d9 d10 d11 xd_InvalidText : FuncData)
def nms : List Str := ["nodes", "text"]
def cf (K : PySem.W.Frag) (a : Ad) : Cf := ⟨K, nmOf nms, fun i => [0, a.c_InvalidText, a.c_Program].getD i 0, fun i => (["", "row", ""] : List Str).getD i ""⟩
/-- what the top has written -/
structure Txt (K : PySem.W.Frag) (mg : Str → Option Value) (a : Ad) : Prop where
  F0 : L2.Fun K "law" "law" (top 20) a.f0 a.d0
  B0 : Binds K a.d0 ["script"] []
  G0 : mg "law" = some (.ref a.f0)
  F1 : L2.Fun K "_law_rows" "_law_rows" (top 19) a.f1 a.d1
  B1 : Binds K a.d1 [] []
  G1 : mg "_law_rows" = some (.ref a.f1)
  F2 : L2.Fun K "_law_told" "_law_told" (top 18) a.f2 a.d2
  B2 : Binds K a.d2 ["value"] []
  G2 : mg "_law_told" = some (.ref a.f2)
  F3 : L2.Fun K "parse" "Program.parse" (L2.inClass (top 13) 3) a.f3 a.d3
  B3 : Binds K a.d3 ["text"] []
  S3 : SMet K a.c_Program "parse" a.q3 a.f3
  F4 : L2.Fun K "read_row" "read_row" (top 12) a.f4 a.d4
  B4 : Binds K a.d4 ["row", "many"] []
  G4 : mg "read_row" = some (.ref a.f4)
  F5 : L2.Fun K "is_name" "is_name" (top 6) a.f5 a.d5
  B5 : Binds K a.d5 ["value"] []
  G5 : mg "is_name" = some (.ref a.f5)
  F6 : L2.Fun K "read_targets" "read_targets" (top 11) a.f6 a.d6
  B6 : Binds K a.d6 ["words", "many"] []
  G6 : mg "read_targets" = some (.ref a.f6)
  F7 : L2.Fun K "read_number" "read_number" (top 10) a.f7 a.d7
  B7 : Binds K a.d7 ["word"] []
  G7 : mg "read_number" = some (.ref a.f7)
  F8 : L2.Fun K "__init__" "Program.__init__" (L2.inClass (top 13) 0) a.f8 a.d8
  B8 : Binds K a.d8 ["self", "text", "nodes"] []
  F9 : L2.Fun K "_law_due" "_law_due" (top 17) a.f9 a.d9
  B9 : Binds K a.d9 ["value"] []
  G9 : mg "_law_due" = some (.ref a.f9)
  F10 : L2.Fun K "_law_node" "_law_node" (top 16) a.f10 a.d10
  B10 : Binds K a.d10 ["row", "many"] []
  G10 : mg "_law_node" = some (.ref a.f10)
  F11 : L2.Fun K "_law_number" "_law_number" (top 15) a.f11 a.d11
  B11 : Binds K a.d11 ["word"] []
  G11 : mg "_law_number" = some (.ref a.f11)
  GC_Program : mg "Program" = some (.ref a.c_Program)
  GC_InvalidText : mg "InvalidText" = some (.ref a.c_InvalidText)
  Cl_Program : Cls K a.c_Program
  na_Program_text : NoAttr K a.c_Program "text"
  na_Program_nodes : NoAttr K a.c_Program "nodes"
  Mk_Program : Mk K a.c_Program a.f8
  Ox_InvalidText : OexC K a.c_InvalidText
  xi_InvalidText : PySem.W.findIn K (.ref a.c_InvalidText) "__init__" = some (some (.ref a.x_InvalidText))
  xt_InvalidText : PySem.W.typeIn K (.ref a.x_InvalidText) = some (.type "function")
  xU_InvalidText : L2.Fun K "__init__" "InvalidText.__init__" (L2.inClass (top 2) 0) a.x_InvalidText a.xd_InvalidText
  xB_InvalidText : Binds K a.xd_InvalidText ["self", "row"] []
  xn_InvalidText : PySem.W.findIn K (.ref a.c_InvalidText) "row" = some none
  Xf_InvalidText : XfC K a.c_InvalidText
  xm_InvalidText_InvalidText : PySem.W.exmOne K (.ref a.c_InvalidText) (.ref a.c_InvalidText) = some true
  n_repr : mg "repr" = none
  n_isinstance : mg "isinstance" = none
  n_str : mg "str" = none
  n_enumerate : mg "enumerate" = none
  n_len : mg "len" = none
  n_all : mg "all" = none
  n_int : mg "int" = none
  n_zip : mg "zip" = none
  n_tuple : mg "tuple" = none
  n_range : mg "range" = none
  s_MAX_NODES : ∃ t, mg "MAX_NODES" = some (.int 8 t)
  s_MAX_NAME : ∃ t, mg "MAX_NAME" = some (.int 8 t)
  s_LETTERS : ∃ t, mg "LETTERS" = some (.str (mkS [97, 98, 99, 100, 101, 102, 103, 104, 105, 106, 107, 108, 109, 110, 111, 112, 113, 114, 115, 116, 117, 118, 119, 120, 121, 122]) t)
  s_DIGITS : ∃ t, mg "DIGITS" = some (.str (mkS [48, 49, 50, 51, 52, 53, 54, 55, 56, 57]) t)
section
variable {P : Program} {w : World} {K : PySem.W.Frag} {mg : Str → Option Value} {base : Heap} {a : Ad}
theorem nm_inj (T : Txt K mg a) : ∀ i j, (cf K a).nm i = (cf K a).nm j → i = j := nmOf_inj (by decide +kernel) (by decide +kernel)
theorem xsc_InvalidText : FnScope ["self", "row"] ["self", "row"] (defScope (L2.inClass (top 2) 0)) := ⟨rfl, rfl, rfl, by decide +kernel, rfl, by decide +kernel, by decide +kernel⟩
theorem Txt.xF_InvalidText (T : Txt K mg a) {X : Cx} {k : Nat} {Wx : WX} (R : Rm X (cf K a) k Wx) : FnOk X.prog X.w K X.mg X.base CX0 (2 * k + 1) a.x_InvalidText a.xd_InvalidText ["self", "row"] (spXi K ((cf K a).xf 1)) :=
  FnOk.mono (xi_ok (k := 0) T.xU_InvalidText xsc_InvalidText rfl rfl rfl (by decide) (by decide)) (by omega)
theorem xt_InvalidText (T : Txt K mg a) : ∀ c', List.lookup c' [(1, true)] = some true → L2.XfC K ((cf K a).ca c') ∧ PySem.W.findIn K (.ref ((cf K a).ca c')) "row" = some none ∧ (cf K a).xf c' = "row" :=
  fun c' h => tab_cons (c := 1) (Pr := fun c _ => L2.XfC K ((cf K a).ca c) ∧ PySem.W.findIn K (.ref ((cf K a).ca c)) "row" = some none ∧ (cf K a).xf c = "row") ⟨T.Xf_InvalidText, T.xn_InvalidText, rfl⟩ tab_nil c' true h
theorem sc0 : FnScope ["script", "row", "text", "many", "rows", "last", "k"] ["script"] (defScope (top 20)) := ⟨rfl, rfl, rfl, by decide +kernel, rfl, by decide +kernel, by decide +kernel⟩
theorem sc1 : FnScope ["found"] [] (defScope (top 19)) := ⟨rfl, rfl, rfl, by decide +kernel, rfl, by decide +kernel, by decide +kernel⟩
theorem sc2 : FnScope ["value", "found", "error"] ["value"] (defScope (top 18)) := ⟨rfl, rfl, rfl, by decide +kernel, rfl, by decide +kernel, by decide +kernel⟩
theorem sc3 : FnScope ["text", "rows", "found", "index", "row", "node"] ["text"] (defScope (L2.inClass (top 13) 3)) := ⟨rfl, rfl, rfl, by decide +kernel, rfl, by decide +kernel, by decide +kernel⟩
theorem sc4 : FnScope ["row", "many", "words", "targets"] ["row", "many"] (defScope (top 12)) := ⟨rfl, rfl, rfl, by decide +kernel, rfl, by decide +kernel, by decide +kernel⟩
theorem sc5 : FnScope ["value", "letter"] ["value"] (defScope (top 6)) := ⟨rfl, rfl, rfl, by decide +kernel, rfl, by decide +kernel, by decide +kernel⟩
theorem sc6 : FnScope ["words", "many", "numbers", "found", "word", "number", "one", "other"] ["words", "many"] (defScope (top 11)) := ⟨rfl, rfl, rfl, by decide +kernel, rfl, by decide +kernel, by decide +kernel⟩
theorem sc7 : FnScope ["word", "digit"] ["word"] (defScope (top 10)) := ⟨rfl, rfl, rfl, by decide +kernel, rfl, by decide +kernel, by decide +kernel⟩
theorem sc8 : FnScope ["self", "text", "nodes"] ["self", "text", "nodes"] (defScope (L2.inClass (top 13) 0)) := ⟨rfl, rfl, rfl, by decide +kernel, rfl, by decide +kernel, by decide +kernel⟩
theorem sc9 : FnScope ["value", "rows", "found", "place", "row", "node"] ["value"] (defScope (top 17)) := ⟨rfl, rfl, rfl, by decide +kernel, rfl, by decide +kernel, by decide +kernel⟩
theorem sc10 : FnScope ["row", "many", "words", "targets", "last", "place", "word", "number", "sign"] ["row", "many"] (defScope (top 16)) := ⟨rfl, rfl, rfl, by decide +kernel, rfl, by decide +kernel, by decide +kernel⟩
theorem sc11 : FnScope ["word", "sign"] ["word"] (defScope (top 15)) := ⟨rfl, rfl, rfl, by decide +kernel, rfl, by decide +kernel, by decide +kernel⟩
/-- each def at a depth k -/
structure AllF (P : Program) (w : World) (K : PySem.W.Frag) (mg : Str → Option Value) (base : Heap) (a : Ad) (k : Nat) : Prop where
  h0 : FnG P w K mg base (2 * k + 1) a.f0 a.d0 ["script"] (spC (cf K a) (callF fns k) 0)
  h1 : FnG P w K mg base (2 * k + 1) a.f1 a.d1 [] (spC (cf K a) (callF fns k) 1)
  h2 : FnG P w K mg base (2 * k + 1) a.f2 a.d2 ["value"] (spC (cf K a) (callF fns k) 2)
  h3 : FnG P w K mg base (2 * k + 1) a.f3 a.d3 ["text"] (spC (cf K a) (callF fns k) 3)
  h4 : FnG P w K mg base (2 * k + 1) a.f4 a.d4 ["row", "many"] (spC (cf K a) (callF fns k) 4)
  h5 : FnG P w K mg base (2 * k + 1) a.f5 a.d5 ["value"] (spC (cf K a) (callF fns k) 5)
  h6 : FnG P w K mg base (2 * k + 1) a.f6 a.d6 ["words", "many"] (spC (cf K a) (callF fns k) 6)
  h7 : FnG P w K mg base (2 * k + 1) a.f7 a.d7 ["word"] (spC (cf K a) (callF fns k) 7)
  h8 : FnG P w K mg base (2 * k + 1) a.f8 a.d8 ["self", "text", "nodes"] (spC (cf K a) (callF fns k) 8)
  h9 : FnG P w K mg base (2 * k + 1) a.f9 a.d9 ["value"] (spC (cf K a) (callF fns k) 9)
  h10 : FnG P w K mg base (2 * k + 1) a.f10 a.d10 ["row", "many"] (spC (cf K a) (callF fns k) 10)
  h11 : FnG P w K mg base (2 * k + 1) a.f11 a.d11 ["word"] (spC (cf K a) (callF fns k) 11)
theorem ok0 (T : Txt K mg a) {k : Nat} (I : AllF P w K mg base a k) : FnG P w K mg base (2 * (k + 1) + 1) a.f0 a.d0 ["script"] (spC (cf K a) (callF fns (k + 1)) 0) :=
  def_ok (C := cf K a) (f := 0) (fn := ⟨1, 7, true, b0⟩) rfl T.F0 sc0 rfl rfl fun cdv A outer s H E hr hg => by
    have R := Rm.start (P := P) (w := w) (C := cf K a) (mg := mg) (base := base) (N := ["script", "row", "text", "many", "rows", "last", "k"]) (outer := outer) (s := s) (H := H) (E := E) hr hg
    exact pss_consv (q_for R [1] (q_seq (q_call0 R I.h1 T.B1 T.G1 T.F1.kp)) (g_name 1 (sc0).nd) (pss_onev (q_for R [2] (q_seq (pv_tup (q_cons (q_var 1) (q_cons (q_bin R (q_var 1) (q_str)) (q_cons (q_bin R (q_str) (q_var 1)) (q_cons (q_bin R (q_bin R (q_str) (q_var 1)) (q_str)) (pas_nil))))))) (g_name 2 (sc0).nd) (pss_onev (psv_if (q_cmpT R (q_B "repr" (c_repr R.hu R.gd R.K) T.n_repr (q_cons (q_call R I.h2 T.B2 T.G2 T.F2.kp (q_cons (q_var 2) (pas_nil))) (pas_nil))) (q_B "repr" (c_repr R.hu R.gd R.K) T.n_repr (q_cons (q_call R I.h9 T.B9 T.G9 T.F9.kp (q_cons (q_var 2) (pas_nil))) (pas_nil)))) (pss_onev (psv_ret (q_bl))) (pss_nilv)))))) (pss_consv (q_for R [3] (q_rng2 T.n_range (q_int) (q_int)) (g_name 3 (sc0).nd) (pss_consv (q_setLc R 4 [("k", 6)] (sc0).nd (q_rng1 T.n_range (q_var 3)) (fun _ _ _ _ _ R => g_name 6 (sc0).nd) (fun _ _ _ _ _ R => pfs_nil) (fun _ _ _ _ _ R => q_bin R (q_str) (q_Ty "str" (c_str) T.n_str (q_cons (q_bin R (q_bin R (q_bin R (q_var 6) (q_int)) (q_int)) (q_int)) (pas_nil))))) (pss_onev (q_for R [5] (q_seq (pv_tup (q_cons (q_str) (q_cons (q_str) (q_cons (q_str) (q_cons (q_str) (q_cons (q_str) (q_cons (q_str) (pas_nil))))))))) (g_name 5 (sc0).nd) (pss_onev (q_for R [2] (q_seq (pv_tup (q_cons (q_M R F.plainAttrs_str F.slot_str_join F.type_str_join m_join (q_str) (q_cons (q_bin R (q_var 4) (pv_lst (q_cons (q_var 5) (pas_nil)))) (pas_nil))) (q_cons (q_M R F.plainAttrs_str F.slot_str_join F.type_str_join m_join (q_str) (q_cons (q_bin R (pv_lst (q_cons (q_var 5) (pas_nil))) (q_var 4)) (pas_nil))) (q_cons (q_M R F.plainAttrs_str F.slot_str_join F.type_str_join m_join (q_str) (q_cons (q_bin R (q_slc R (q_var 4) pov_none (pov_some (q_int))) (pv_lst (q_cons (q_var 5) (pas_nil)))) (pas_nil))) (pas_nil)))))) (g_name 2 (sc0).nd) (pss_onev (psv_if (q_cmpT R (q_B "repr" (c_repr R.hu R.gd R.K) T.n_repr (q_cons (q_call R I.h2 T.B2 T.G2 T.F2.kp (q_cons (q_var 2) (pas_nil))) (pas_nil))) (q_B "repr" (c_repr R.hu R.gd R.K) T.n_repr (q_cons (q_call R I.h9 T.B9 T.G9 T.F9.kp (q_cons (q_var 2) (pas_nil))) (pas_nil)))) (pss_onev (psv_ret (q_bl))) (pss_nilv))))))))) (pss_onev (psv_ret (q_bl))))
theorem ok1 (T : Txt K mg a) {k : Nat} (I : AllF P w K mg base a k) : FnG P w K mg base (2 * (k + 1) + 1) a.f1 a.d1 [] (spC (cf K a) (callF fns (k + 1)) 1) :=
  def_ok (C := cf K a) (f := 1) (fn := ⟨0, 1, true, b1⟩) rfl T.F1 sc1 rfl rfl fun cdv A outer s H E hr hg => by
    have R := Rm.start (P := P) (w := w) (C := cf K a) (mg := mg) (base := base) (N := ["found"]) (outer := outer) (s := s) (H := H) (E := E) hr hg
    exact pss_consv (q_set 0 (sc1).nd (pv_lst (q_cons (q_str) (q_cons (q_str) (q_cons (q_str) (q_cons (q_str) (q_cons (q_str) (q_cons (q_str) (pas_nil))))))))) (pss_consv (q_set 0 (sc1).nd (q_bin R (q_var 0) (pv_lst (q_cons (q_str) (q_cons (q_str) (q_cons (q_str) (q_cons (q_str) (q_cons (q_str) (pas_nil))))))))) (pss_consv (q_set 0 (sc1).nd (q_bin R (q_var 0) (pv_lst (q_cons (q_str) (q_cons (q_str) (q_cons (q_str) (q_cons (q_str) (q_cons (q_str) (pas_nil))))))))) (pss_consv (q_set 0 (sc1).nd (q_bin R (q_var 0) (pv_lst (q_cons (q_str) (q_cons (q_str) (q_cons (q_str) (q_cons (q_str) (q_cons (q_str) (pas_nil))))))))) (pss_consv (q_set 0 (sc1).nd (q_bin R (q_var 0) (pv_lst (q_cons (q_str) (q_cons (q_str) (q_cons (q_str) (q_cons (q_str) (q_cons (q_str) (pas_nil))))))))) (pss_consv (q_set 0 (sc1).nd (q_bin R (q_var 0) (pv_lst (q_cons (q_str) (q_cons (q_str) (q_cons (q_str) (q_cons (q_str) (q_cons (q_str) (q_cons (q_str) (pas_nil)))))))))) (pss_consv (q_set 0 (sc1).nd (q_bin R (q_var 0) (pv_lst (q_cons (q_str) (q_cons (q_str) (q_cons (q_str) (q_cons (q_str) (q_cons (q_str) (q_cons (q_str) (q_cons (q_str) (pas_nil))))))))))) (pss_consv (q_set 0 (sc1).nd (q_bin R (q_var 0) (pv_lst (q_cons (q_str) (q_cons (q_str) (q_cons (q_str) (q_cons (q_str) (q_cons (q_str) (q_cons (q_str) (q_cons (q_str) (pas_nil))))))))))) (pss_onev (psv_ret (q_bin R (q_var 0) (pv_lst (q_cons (q_str) (q_cons (q_str) (q_cons (q_str) (q_cons (q_str) (q_cons (q_str) (q_cons (q_bin R (q_str) (q_bin R (q_str) (q_int))) (pas_nil))))))))))))))))))
theorem ok2 (T : Txt K mg a) {k : Nat} (I : AllF P w K mg base a k) : FnG P w K mg base (2 * (k + 1) + 1) a.f2 a.d2 ["value"] (spC (cf K a) (callF fns (k + 1)) 2) :=
  def_ok (C := cf K a) (f := 2) (fn := ⟨1, 3, true, b2⟩) rfl T.F2 sc2 rfl rfl fun cdv A outer s H E hr hg => by
    have R := Rm.start (P := P) (w := w) (C := cf K a) (mg := mg) (base := base) (N := ["value", "found", "error"]) (outer := outer) (s := s) (H := H) (E := E) hr hg
    exact pss_consv (q_set 1 (sc2).nd (q_non)) (pss_consv (q_tryAs R 2 (sc2).nd T.GC_InvalidText (tab_cons T.xm_InvalidText_InvalidText tab_nil) (fun W_ pn_ xe_ R => pss_onev (q_set 1 (sc2).nd (q_attr R (nm_inj T) (mem_one ⟨T.Cl_Program, T.na_Program_nodes⟩) (q_static R T.S3 I.h3 T.B3 T.GC_Program (q_cons (q_var 0) (pas_nil)))))) (fun a_ oe_ cls_ d_ pn_ hz_ hf_ => qX_set 1 (sc2).nd (q_xattr R (xt_InvalidText T) hz_ hf_))) (pss_onev (psv_ret (q_var 1))))
theorem ok3 (T : Txt K mg a) {k : Nat} (I : AllF P w K mg base a k) : FnG P w K mg base (2 * (k + 1) + 1) a.f3 a.d3 ["text"] (spC (cf K a) (callF fns (k + 1)) 3) :=
  def_ok (C := cf K a) (f := 3) (fn := ⟨1, 6, true, b3⟩) rfl T.F3 sc3 rfl rfl fun cdv A outer s H E hr hg => by
    have R := Rm.start (P := P) (w := w) (C := cf K a) (mg := mg) (base := base) (N := ["text", "rows", "found", "index", "row", "node"]) (outer := outer) (s := s) (H := H) (E := E) hr hg
    exact pss_consv (psv_if (pt_notv (q_T (q_isTy R .str T.n_isinstance T.n_str (q_var 0)))) (pss_onev (q_rai R T.Ox_InvalidText T.xi_InvalidText T.xt_InvalidText (T.xF_InvalidText R) T.xn_InvalidText T.xB_InvalidText T.GC_InvalidText (q_int))) (pss_nilv)) (pss_consv (q_par R 1 2 (sc3).nd (q_cons (q_M R F.plainAttrs_str F.slot_str_split F.type_str_split m_split (q_var 0) (q_cons (q_str) (pas_nil))) (q_cons (pv_lst (pas_nil)) (pas_nil)))) (pss_consv (q_for R [3, 4] (q_enum T.n_enumerate (q_var 1)) (g_tup R (g_cons (g_name 3 (sc3).nd) (g_cons (g_name 4 (sc3).nd) (pgvs_nil)))) (pss_consv (q_set 5 (sc3).nd (pv_ite (q_cmpT R (q_var 3) (q_gint T.s_MAX_NODES)) (q_call R I.h4 T.B4 T.G4 T.F4.kp (q_cons (q_var 4) (q_cons (q_B "len" (c_len R.K) T.n_len (q_cons (q_var 1) (pas_nil))) (pas_nil)))) (q_non))) (pss_consv (psv_if (ptv_isN (q_var 5)) (pss_onev (q_rai R T.Ox_InvalidText T.xi_InvalidText T.xt_InvalidText (T.xF_InvalidText R) T.xn_InvalidText T.xB_InvalidText T.GC_InvalidText (q_var 3))) (pss_nilv)) (pss_onev (q_ex (q_M R F.plainAttrs_list F.slot_list_append F.type_list_append m_append (q_var 2) (q_cons (q_var 5) (pas_nil)))))))) (pss_onev (psv_ret (q_new R T.Mk_Program I.h8 T.B8 T.GC_Program (q_cons (q_var 0) (q_cons (q_Ty "tuple" (c_tuple R.K) T.n_tuple (q_cons (q_var 2) (pas_nil))) (pas_nil))))))))
theorem ok4 (T : Txt K mg a) {k : Nat} (I : AllF P w K mg base a k) : FnG P w K mg base (2 * (k + 1) + 1) a.f4 a.d4 ["row", "many"] (spC (cf K a) (callF fns (k + 1)) 4) :=
  def_ok (C := cf K a) (f := 4) (fn := ⟨2, 4, true, b4⟩) rfl T.F4 sc4 rfl rfl fun cdv A outer s H E hr hg => by
    have R := Rm.start (P := P) (w := w) (C := cf K a) (mg := mg) (base := base) (N := ["row", "many", "words", "targets"]) (outer := outer) (s := s) (H := H) (E := E) hr hg
    exact pss_consv (q_set 2 (sc4).nd (q_M R F.plainAttrs_str F.slot_str_split F.type_str_split m_split (q_var 0) (q_cons (q_str) (pas_nil)))) (pss_consv (psv_if (q_bool (pw_orv (q_cmpT R (q_B "len" (c_len R.K) T.n_len (q_cons (q_var 2) (pas_nil))) (q_int)) (pw_orv (q_cmpT R (q_idx R (q_var 2) (q_int)) (pv_lst (q_cons (q_str) (q_cons (q_str) (pas_nil))))) (pw_onev (pt_notv (q_T (q_call R I.h5 T.B5 T.G5 T.F5.kp (q_cons (q_idx R (q_var 2) (q_int)) (pas_nil))))))))) (pss_onev (psv_ret (q_non))) (pss_nilv)) (pss_consv (q_set 3 (sc4).nd (pv_lst (q_cons (q_non) (pas_nil)))) (pss_consv (psv_if (q_cmpT R (q_B "len" (c_len R.K) T.n_len (q_cons (q_var 2) (pas_nil))) (q_int)) (pss_consv (psv_if (q_bool (pw_orv (q_cmpT R (q_idx R (q_var 2) (q_int)) (q_str)) (pw_onev (q_cmpT R (q_B "len" (c_len R.K) T.n_len (q_cons (q_var 2) (pas_nil))) (q_int))))) (pss_onev (psv_ret (q_non))) (pss_nilv)) (pss_onev (q_set 3 (sc4).nd (q_call R I.h6 T.B6 T.G6 T.F6.kp (q_cons (q_slc R (q_var 2) (pov_some (q_int)) pov_none) (q_cons (q_var 1) (pas_nil))))))) (pss_nilv)) (pss_onev (psv_ret (pv_ite (ptv_isN (q_var 3)) (q_non) (pv_tup (q_cons (q_idx R (q_var 2) (q_int)) (q_cons (q_idx R (q_var 2) (q_int)) (q_cons (q_Ty "tuple" (c_tuple R.K) T.n_tuple (q_cons (q_var 3) (pas_nil))) (pas_nil)))))))))))
theorem ok5 (T : Txt K mg a) {k : Nat} (I : AllF P w K mg base a k) : FnG P w K mg base (2 * (k + 1) + 1) a.f5 a.d5 ["value"] (spC (cf K a) (callF fns (k + 1)) 5) :=
  def_ok (C := cf K a) (f := 5) (fn := ⟨1, 2, true, b5⟩) rfl T.F5 sc5 rfl rfl fun cdv A outer s H E hr hg => by
    have R := Rm.start (P := P) (w := w) (C := cf K a) (mg := mg) (base := base) (N := ["value", "letter"]) (outer := outer) (s := s) (H := H) (E := E) hr hg
    exact pss_consv (psv_if (q_bool (pw_orv (pt_notv (q_T (q_isTy R .str T.n_isinstance T.n_str (q_var 0)))) (pw_onev (pt_notv (q_chainT R (q_int) (q_B "len" (c_len R.K) T.n_len (q_cons (q_var 0) (pas_nil))) (q_gint T.s_MAX_NAME)))))) (pss_onev (psv_ret (q_bl))) (pss_nilv)) (pss_onev (psv_ret (q_B "all" (c_all R.calm R.K) T.n_all (q_cons (q_lc R [("letter", 1)] (sc5).nd (q_seq (q_var 0)) (fun _ _ _ _ _ R => g_name 1 (sc5).nd) (fun _ _ _ _ _ R => pfs_nil) (fun _ _ _ _ _ R => q_cmp R (q_var 1) (q_gstr T.s_LETTERS))) (pas_nil)))))
theorem ok6 (T : Txt K mg a) {k : Nat} (I : AllF P w K mg base a k) : FnG P w K mg base (2 * (k + 1) + 1) a.f6 a.d6 ["words", "many"] (spC (cf K a) (callF fns (k + 1)) 6) :=
  def_ok (C := cf K a) (f := 6) (fn := ⟨2, 8, true, b6⟩) rfl T.F6 sc6 rfl rfl fun cdv A outer s H E hr hg => by
    have R := Rm.start (P := P) (w := w) (C := cf K a) (mg := mg) (base := base) (N := ["words", "many", "numbers", "found", "word", "number", "one", "other"]) (outer := outer) (s := s) (H := H) (E := E) hr hg
    exact pss_consv (q_set 2 (sc6).nd (pv_ite (q_cmpT R (q_idx R (q_var 0) (pv_neg (q_int))) (q_str)) (q_slc R (q_var 0) pov_none (pov_some (pv_neg (q_int)))) (q_var 0))) (pss_consv (q_setLc R 3 [("word", 4)] (sc6).nd (q_seq (q_var 2)) (fun _ _ _ _ _ R => g_name 4 (sc6).nd) (fun _ _ _ _ _ R => pfs_nil) (fun _ _ _ _ _ R => q_call R I.h7 T.B7 T.G7 T.F7.kp (q_cons (q_var 4) (pas_nil)))) (pss_consv (psv_if (q_bool (pw_orv (q_cmpT R (q_non) (q_var 3)) (pw_onev (q_cmpT R (q_lc R [("number", 5)] (sc6).nd (q_seq (q_var 3)) (fun _ _ _ _ _ R => g_name 5 (sc6).nd) (fun _ _ _ _ _ R => pfs_one (q_cmpT R (q_var 5) (q_var 1))) (fun _ _ _ _ _ R => q_var 5)) (pv_lst (pas_nil)))))) (pss_onev (psv_ret (q_non))) (pss_nilv)) (pss_consv (psv_if (q_cmpT R (q_lc R [("one", 6), ("other", 7)] (sc6).nd (q_zip T.n_zip (q_slc R (q_var 3) pov_none (pov_some (pv_neg (q_int)))) (q_slc R (q_var 3) (pov_some (q_int)) pov_none)) (fun _ _ _ _ _ R => g_tup R (g_cons (g_name 6 (sc6).nd) (g_cons (g_name 7 (sc6).nd) (pgvs_nil)))) (fun _ _ _ _ _ R => pfs_one (q_cmpT R (q_var 6) (q_var 7))) (fun _ _ _ _ _ R => q_var 6)) (pv_lst (pas_nil))) (pss_onev (psv_ret (q_non))) (pss_nilv)) (pss_onev (psv_ret (pv_ite (q_cmpT R (q_idx R (q_var 0) (pv_neg (q_int))) (q_str)) (q_bin R (q_var 3) (pv_lst (q_cons (q_non) (pas_nil)))) (q_var 3)))))))
theorem ok7 (T : Txt K mg a) {k : Nat} (I : AllF P w K mg base a k) : FnG P w K mg base (2 * (k + 1) + 1) a.f7 a.d7 ["word"] (spC (cf K a) (callF fns (k + 1)) 7) :=
  def_ok (C := cf K a) (f := 7) (fn := ⟨1, 2, true, b7⟩) rfl T.F7 sc7 rfl rfl fun cdv A outer s H E hr hg => by
    have R := Rm.start (P := P) (w := w) (C := cf K a) (mg := mg) (base := base) (N := ["word", "digit"]) (outer := outer) (s := s) (H := H) (E := E) hr hg
    exact pss_consv (psv_if (q_bool (pw_orv (pt_notv (q_chainT R (q_int) (q_B "len" (c_len R.K) T.n_len (q_cons (q_var 0) (pas_nil))) (q_int))) (pw_onev (pt_notv (q_T (q_B "all" (c_all R.calm R.K) T.n_all (q_cons (q_lc R [("digit", 1)] (sc7).nd (q_seq (q_var 0)) (fun _ _ _ _ _ R => g_name 1 (sc7).nd) (fun _ _ _ _ _ R => pfs_nil) (fun _ _ _ _ _ R => q_cmp R (q_var 1) (q_gstr T.s_DIGITS))) (pas_nil)))))))) (pss_onev (psv_ret (q_non))) (pss_nilv)) (pss_onev (psv_ret (pv_ite (q_bool (pw_andv (q_cmpT R (q_idx R (q_var 0) (q_int)) (q_str)) (pw_onev (q_cmpT R (q_var 0) (q_str))))) (q_non) (q_Ty "int" (c_int) T.n_int (q_cons (q_var 0) (pas_nil))))))
theorem ok8 (T : Txt K mg a) {k : Nat} (I : AllF P w K mg base a k) : FnG P w K mg base (2 * (k + 1) + 1) a.f8 a.d8 ["self", "text", "nodes"] (spC (cf K a) (callF fns (k + 1)) 8) :=
  def_ok (C := cf K a) (f := 8) (fn := ⟨3, 3, false, b8⟩) rfl T.F8 sc8 rfl rfl fun cdv A outer s H E hr hg => by
    have R := Rm.start (P := P) (w := w) (C := cf K a) (mg := mg) (base := base) (N := ["self", "text", "nodes"]) (outer := outer) (s := s) (H := H) (E := E) hr hg
    exact pss_consv (q_fld R (nm_inj T) (mem_one ⟨T.Cl_Program, T.na_Program_text⟩) (q_var 0) (q_var 1)) (pss_onev (q_fld R (nm_inj T) (mem_one ⟨T.Cl_Program, T.na_Program_nodes⟩) (q_var 0) (q_var 2)))
theorem ok9 (T : Txt K mg a) {k : Nat} (I : AllF P w K mg base a k) : FnG P w K mg base (2 * (k + 1) + 1) a.f9 a.d9 ["value"] (spC (cf K a) (callF fns (k + 1)) 9) :=
  def_ok (C := cf K a) (f := 9) (fn := ⟨1, 6, true, b9⟩) rfl T.F9 sc9 rfl rfl fun cdv A outer s H E hr hg => by
    have R := Rm.start (P := P) (w := w) (C := cf K a) (mg := mg) (base := base) (N := ["value", "rows", "found", "place", "row", "node"]) (outer := outer) (s := s) (H := H) (E := E) hr hg
    exact pss_consv (psv_if (q_bool (pw_orv (pt_notv (q_T (q_isTy R .str T.n_isinstance T.n_str (q_var 0)))) (pw_onev (q_cmpT R (q_var 0) (q_str))))) (pss_onev (psv_ret (q_int))) (pss_nilv)) (pss_consv (q_par R 1 2 (sc9).nd (q_cons (q_M R F.plainAttrs_str F.slot_str_split F.type_str_split m_split (q_var 0) (q_cons (q_str) (pas_nil))) (q_cons (pv_lst (pas_nil)) (pas_nil)))) (pss_consv (q_for R [3, 4] (q_enum T.n_enumerate (q_var 1)) (g_tup R (g_cons (g_name 3 (sc9).nd) (g_cons (g_name 4 (sc9).nd) (pgvs_nil)))) (pss_consv (q_set 5 (sc9).nd (pv_ite (q_cmpT R (q_var 3) (q_int)) (q_call R I.h10 T.B10 T.G10 T.F10.kp (q_cons (q_var 4) (q_cons (q_B "len" (c_len R.K) T.n_len (q_cons (q_var 1) (pas_nil))) (pas_nil)))) (q_non))) (pss_consv (psv_if (ptv_isN (q_var 5)) (pss_onev (psv_ret (q_var 3))) (pss_nilv)) (pss_onev (q_ex (q_M R F.plainAttrs_list F.slot_list_append F.type_list_append m_append (q_var 2) (q_cons (q_var 5) (pas_nil)))))))) (pss_onev (psv_ret (q_Ty "tuple" (c_tuple R.K) T.n_tuple (q_cons (q_var 2) (pas_nil)))))))
theorem ok10 (T : Txt K mg a) {k : Nat} (I : AllF P w K mg base a k) : FnG P w K mg base (2 * (k + 1) + 1) a.f10 a.d10 ["row", "many"] (spC (cf K a) (callF fns (k + 1)) 10) :=
  def_ok (C := cf K a) (f := 10) (fn := ⟨2, 9, true, b10⟩) rfl T.F10 sc10 rfl rfl fun cdv A outer s H E hr hg => by
    have R := Rm.start (P := P) (w := w) (C := cf K a) (mg := mg) (base := base) (N := ["row", "many", "words", "targets", "last", "place", "word", "number", "sign"]) (outer := outer) (s := s) (H := H) (E := E) hr hg
    exact pss_consv (q_set 2 (sc10).nd (q_M R F.plainAttrs_str F.slot_str_split F.type_str_split m_split (q_var 0) (q_cons (q_str) (pas_nil)))) (pss_consv (psv_if (q_bool (pw_orv (q_cmpT R (q_B "len" (c_len R.K) T.n_len (q_cons (q_var 2) (pas_nil))) (q_int)) (pw_orv (q_cmpT R (q_idx R (q_var 2) (q_int)) (pv_tup (q_cons (q_str) (q_cons (q_str) (pas_nil))))) (pw_onev (pt_notv (q_chainT R (q_int) (q_B "len" (c_len R.K) T.n_len (q_cons (q_idx R (q_var 2) (q_int)) (pas_nil))) (q_int))))))) (pss_onev (psv_ret (q_non))) (pss_nilv)) (pss_consv (psv_if (q_cmpT R (q_lc R [("sign", 8)] (sc10).nd (q_seq (q_idx R (q_var 2) (q_int))) (fun _ _ _ _ _ R => g_name 8 (sc10).nd) (fun _ _ _ _ _ R => pfs_one (q_cmpT R (q_var 8) (q_str))) (fun _ _ _ _ _ R => q_var 8)) (pv_lst (pas_nil))) (pss_onev (psv_ret (q_non))) (pss_nilv)) (pss_consv (psv_if (q_cmpT R (q_B "len" (c_len R.K) T.n_len (q_cons (q_var 2) (pas_nil))) (q_int)) (pss_onev (psv_ret (pv_tup (q_cons (q_idx R (q_var 2) (q_int)) (q_cons (q_idx R (q_var 2) (q_int)) (q_cons (pv_tup (q_cons (q_non) (pas_nil))) (pas_nil))))))) (pss_nilv)) (pss_consv (psv_if (q_bool (pw_orv (q_cmpT R (q_idx R (q_var 2) (q_int)) (q_str)) (pw_onev (q_cmpT R (q_B "len" (c_len R.K) T.n_len (q_cons (q_var 2) (pas_nil))) (q_int))))) (pss_onev (psv_ret (q_non))) (pss_nilv)) (pss_consv (q_par R 3 4 (sc10).nd (q_cons (pv_lst (pas_nil)) (q_cons (pv_neg (q_int)) (pas_nil)))) (pss_consv (q_for R [5, 6] (q_enum T.n_enumerate (q_slc R (q_var 2) (pov_some (q_int)) pov_none)) (g_tup R (g_cons (g_name 5 (sc10).nd) (g_cons (g_name 6 (sc10).nd) (pgvs_nil)))) (pss_onev (psv_if (q_bool (pw_andv (q_cmpT R (q_var 6) (q_str)) (pw_onev (q_cmpT R (q_bin R (q_var 5) (q_int)) (q_B "len" (c_len R.K) T.n_len (q_cons (q_var 2) (pas_nil))))))) (pss_onev (q_ex (q_M R F.plainAttrs_list F.slot_list_append F.type_list_append m_append (q_var 3) (q_cons (q_non) (pas_nil))))) (pss_consv (q_set 7 (sc10).nd (q_call R I.h11 T.B11 T.G11 T.F11.kp (q_cons (q_var 6) (pas_nil)))) (pss_consv (psv_if (q_bool (pw_orv (ptv_isN (q_var 7)) (pw_onev (pt_notv (q_chainT R (q_var 4) (q_var 7) (q_var 1)))))) (pss_onev (psv_ret (q_non))) (pss_nilv)) (pss_consv (q_set 4 (sc10).nd (q_var 7)) (pss_onev (q_ex (q_M R F.plainAttrs_list F.slot_list_append F.type_list_append m_append (q_var 3) (q_cons (q_var 7) (pas_nil))))))))))) (pss_onev (psv_ret (pv_tup (q_cons (q_idx R (q_var 2) (q_int)) (q_cons (q_idx R (q_var 2) (q_int)) (q_cons (q_Ty "tuple" (c_tuple R.K) T.n_tuple (q_cons (q_var 3) (pas_nil))) (pas_nil)))))))))))))
theorem ok11 (T : Txt K mg a) {k : Nat} (I : AllF P w K mg base a k) : FnG P w K mg base (2 * (k + 1) + 1) a.f11 a.d11 ["word"] (spC (cf K a) (callF fns (k + 1)) 11) :=
  def_ok (C := cf K a) (f := 11) (fn := ⟨1, 2, true, b11⟩) rfl T.F11 sc11 rfl rfl fun cdv A outer s H E hr hg => by
    have R := Rm.start (P := P) (w := w) (C := cf K a) (mg := mg) (base := base) (N := ["word", "sign"]) (outer := outer) (s := s) (H := H) (E := E) hr hg
    exact pss_consv (psv_if (q_bool (pw_orv (q_cmpT R (q_var 0) (q_str)) (pw_orv (q_bool (pw_andv (q_cmpT R (q_B "len" (c_len R.K) T.n_len (q_cons (q_var 0) (pas_nil))) (q_int)) (pw_onev (q_cmpT R (q_idx R (q_var 0) (q_int)) (q_str))))) (pw_onev (q_cmpT R (q_B "len" (c_len R.K) T.n_len (q_cons (q_var 0) (pas_nil))) (q_int)))))) (pss_onev (psv_ret (q_non))) (pss_nilv)) (pss_onev (psv_ret (pv_ite (q_cmpT R (q_lc R [("sign", 1)] (sc11).nd (q_seq (q_var 0)) (fun _ _ _ _ _ R => g_name 1 (sc11).nd) (fun _ _ _ _ _ R => pfs_one (q_cmpT R (q_var 1) (q_str))) (fun _ _ _ _ _ R => q_var 1)) (pv_lst (pas_nil))) (q_Ty "int" (c_int) T.n_int (q_cons (q_var 0) (pas_nil))) (q_non))))
theorem all (T : Txt K mg a) : ∀ k, AllF P w K mg base a k
  | 0 => ⟨def_zero (C := cf K a), def_zero (C := cf K a), def_zero (C := cf K a), def_zero (C := cf K a), def_zero (C := cf K a), def_zero (C := cf K a), def_zero (C := cf K a), def_zero (C := cf K a), def_zero (C := cf K a), def_zero (C := cf K a), def_zero (C := cf K a), def_zero (C := cf K a)⟩
  | k + 1 => ⟨ok0 T (all T k), ok1 T (all T k), ok2 T (all T k), ok3 T (all T k), ok4 T (all T k), ok5 T (all T k), ok6 T (all T k), ok7 T (all T k), ok8 T (all T k), ok9 T (all T k), ok10 T (all T k), ok11 T (all T k)⟩
end
/-- the law by its evaluation -/
theorem go : isTrueR (callF fns 8 0 [.any] []) = true := by decide +kernel
theorem all_mk {P : Program} {w : World} {K : PySem.W.Frag} {h : Heap} {mg : Str → Option Value} {fa : Addr} (X : K.In h) (G : h.Ns mainGlobals mg) (hfa : mg "law" = some (.ref fa))
    {oc0 kV0 dc0 pm0 cd0 ct0 : Value} {od0 an0 : Option Addr} {sl0 : Array (Option Value)} {f0 : Addr} {oc1 kV1 dc1 pm1 cd1 ct1 : Value} {od1 an1 : Option Addr} {sl1 : Array (Option Value)} {f1 : Addr} {oc2 kV2 dc2 pm2 cd2 ct2 : Value} {od2 an2 : Option Addr} {sl2 : Array (Option Value)} {f2 : Addr} {oc3 kV3 dc3 pm3 cd3 ct3 : Value} {od3 an3 : Option Addr} {sl3 : Array (Option Value)} {f3 : Addr} {q3 : Addr} {r3 : List Value} {oc4 kV4 dc4 pm4 cd4 ct4 : Value} {od4 an4 : Option Addr} {sl4 : Array (Option Value)} {f4 : Addr} {oc5 kV5 dc5 pm5 cd5 ct5 : Value} {od5 an5 : Option Addr} {sl5 : Array (Option Value)} {f5 : Addr} {oc6 kV6 dc6 pm6 cd6 ct6 : Value} {od6 an6 : Option Addr} {sl6 : Array (Option Value)} {f6 : Addr} {oc7 kV7 dc7 pm7 cd7 ct7 : Value} {od7 an7 : Option Addr} {sl7 : Array (Option Value)} {f7 : Addr} {oc8 kV8 dc8 pm8 cd8 ct8 : Value} {od8 an8 : Option Addr} {sl8 : Array (Option Value)} {f8 : Addr} {oc9 kV9 dc9 pm9 cd9 ct9 : Value} {od9 an9 : Option Addr} {sl9 : Array (Option Value)} {f9 : Addr} {oc10 kV10 dc10 pm10 cd10 ct10 : Value} {od10 an10 : Option Addr} {sl10 : Array (Option Value)} {f10 : Addr} {oc11 kV11 dc11 pm11 cd11 ct11 : Value} {od11 an11 : Option Addr} {sl11 : Array (Option Value)} {f11 : Addr} {c_Program : Addr} {c_InvalidText : Addr} {nm_InvalidText qn_InvalidText : Str} {N_InvalidText x_InvalidText : Addr} {bs_InvalidText bm_InvalidText : List Value} {sn_InvalidText : List Str} {sub_InvalidText : List Value} {ab_InvalidText : Bool} {col_InvalidText : Option Bool} {dd_InvalidText xod_InvalidText xan_InvalidText : Option Addr} {m0_InvalidText m1_InvalidText m2_InvalidText m3_InvalidText m5_InvalidText : Option Value} {xoc_InvalidText xkV_InvalidText xdc_InvalidText xpm_InvalidText xcd_InvalidText xct_InvalidText : Value} {xsl_InvalidText : Array (Option Value)} {t_MAX_NODES : Tok} {t_MAX_NAME : Tok} {sv_LETTERS : Str} {t_LETTERS : Tok} {sv_DIGITS : Str} {t_DIGITS : Tok}
    (gc_Program : PySem.W.nsIn K mainGlobals "Program" = some (some (.ref c_Program)))
    (gc_InvalidText : PySem.W.nsIn K mainGlobals "InvalidText" = some (some (.ref c_InvalidText)))
    (pg_Program : PySem.W.plainGet K c_Program Str.empty = true)
    (hd_Program : PySem.W.hasDictIn K c_Program = true)
    (po_Program : PySem.W.plainOver K c_Program = true)
    (sa_Program : PySem.W.findIn K (.ref c_Program) "__setattr__" = some (some (.builtin "object.__setattr__")))
    (na_Program_text : PySem.W.findIn K (.ref c_Program) "text" = some none)
    (na_Program_nodes : PySem.W.findIn K (.ref c_Program) "nodes" = some none)
    (mk_Program : PySem.W.makesIn K c_Program = true)
    (kc_Program : PySem.W.keepIn K (.ref c_Program) = true)
    (xL_InvalidText : K.lookup c_InvalidText = some (excClassObj nm_InvalidText qn_InvalidText c_InvalidText N_InvalidText bs_InvalidText bm_InvalidText true sn_InvalidText sub_InvalidText ab_InvalidText col_InvalidText dd_InvalidText m0_InvalidText m1_InvalidText m2_InvalidText m3_InvalidText m5_InvalidText "ValueError.__new__"))
    (xV_InvalidText : PySem.HandSPX.refsVE bm_InvalidText = true)
    (xs_InvalidText : PySem.W.findIn K (.ref c_InvalidText) "__setattr__" = some (some (.builtin "object.__setattr__")))
    (xe_InvalidText : PySem.W.subIn K (.ref c_InvalidText) (.type "BaseException") = some true)
    (xy_InvalidText : PySem.W.typeIn K (.ref c_InvalidText) = some (.type "type"))
    (xk_InvalidText : PySem.W.keepIn K (.ref c_InvalidText) = true)
    (xi_InvalidText : PySem.W.findIn K (.ref c_InvalidText) "__init__" = some (some (.ref x_InvalidText)))
    (xt_InvalidText : PySem.W.typeIn K (.ref x_InvalidText) = some (.type "function"))
    (xl_InvalidText : K.lookup x_InvalidText = some ⟨xoc_InvalidText, xod_InvalidText, .func (PySem.W.fnOf "__init__" "InvalidText.__init__" (defArgs (L2.inClass (top 2) 0)) (defBody (L2.inClass (top 2) 0)) (defScope (L2.inClass (top 2) 0)) .none xkV_InvalidText xdc_InvalidText xpm_InvalidText xan_InvalidText xcd_InvalidText xct_InvalidText), xsl_InvalidText⟩)
    (xc_InvalidText : PySem.W.codeIn K xcd_InvalidText "InvalidText.__init__" = true)
    (xkk_InvalidText : PySem.W.keepIn K (.ref x_InvalidText) = true)
    (xn_InvalidText : PySem.W.findIn K (.ref c_InvalidText) "row" = some none)
    (xg_InvalidText : PySem.W.findIn K (.ref c_InvalidText) "__getattribute__" = some (some (.builtin "BaseException.__getattribute__")))
    (xgg_InvalidText : PySem.W.findIn K (.ref c_InvalidText) "__getattr__" = some none)
    (xh_InvalidText : PySem.W.hasDictIn K c_InvalidText = true)
    (xic_InvalidText : PySem.W.isClsIn K c_InvalidText = true)
    (xss_InvalidText : PySem.W.subIn K (.ref c_InvalidText) (.ref c_InvalidText) = some true)
    (g0 : PySem.W.nsIn K mainGlobals "law" = some (some (.ref f0)))
    (l0 : K.lookup f0 = some ⟨oc0, od0, .func (PySem.W.fnOf "law" "law" (defArgs (top 20)) (defBody (top 20)) (defScope (top 20)) .none kV0 dc0 pm0 an0 cd0 ct0), sl0⟩)
    (c0 : PySem.W.codeIn K cd0 "law" = true)
    (k0 : PySem.W.keepIn K (.ref f0) = true)
    (g1 : PySem.W.nsIn K mainGlobals "_law_rows" = some (some (.ref f1)))
    (l1 : K.lookup f1 = some ⟨oc1, od1, .func (PySem.W.fnOf "_law_rows" "_law_rows" (defArgs (top 19)) (defBody (top 19)) (defScope (top 19)) .none kV1 dc1 pm1 an1 cd1 ct1), sl1⟩)
    (c1 : PySem.W.codeIn K cd1 "_law_rows" = true)
    (k1 : PySem.W.keepIn K (.ref f1) = true)
    (g2 : PySem.W.nsIn K mainGlobals "_law_told" = some (some (.ref f2)))
    (l2 : K.lookup f2 = some ⟨oc2, od2, .func (PySem.W.fnOf "_law_told" "_law_told" (defArgs (top 18)) (defBody (top 18)) (defScope (top 18)) .none kV2 dc2 pm2 an2 cd2 ct2), sl2⟩)
    (c2 : PySem.W.codeIn K cd2 "_law_told" = true)
    (k2 : PySem.W.keepIn K (.ref f2) = true)
    (sr3 : PySem.W.readsIn K c_Program (.type "type") = true)
    (sg3 : PySem.W.specialIn K (.ref c_Program) "__getattribute__" = some (some (.builtin "type.__getattribute__")))
    (sf3 : PySem.W.findCls K (.ref c_Program) (.type "type") "parse" = some (.get (.builtin "staticmethod.__get__") (.ref q3) .none (.ref c_Program)))
    (sc3_ : PySem.W.recIn K q3 "staticmethod" = some (.ref f3 :: r3))
    (l3 : K.lookup f3 = some ⟨oc3, od3, .func (PySem.W.fnOf "parse" "Program.parse" (defArgs (L2.inClass (top 13) 3)) (defBody (L2.inClass (top 13) 3)) (defScope (L2.inClass (top 13) 3)) .none kV3 dc3 pm3 an3 cd3 ct3), sl3⟩)
    (c3 : PySem.W.codeIn K cd3 "Program.parse" = true)
    (k3 : PySem.W.keepIn K (.ref f3) = true)
    (g4 : PySem.W.nsIn K mainGlobals "read_row" = some (some (.ref f4)))
    (l4 : K.lookup f4 = some ⟨oc4, od4, .func (PySem.W.fnOf "read_row" "read_row" (defArgs (top 12)) (defBody (top 12)) (defScope (top 12)) .none kV4 dc4 pm4 an4 cd4 ct4), sl4⟩)
    (c4 : PySem.W.codeIn K cd4 "read_row" = true)
    (k4 : PySem.W.keepIn K (.ref f4) = true)
    (g5 : PySem.W.nsIn K mainGlobals "is_name" = some (some (.ref f5)))
    (l5 : K.lookup f5 = some ⟨oc5, od5, .func (PySem.W.fnOf "is_name" "is_name" (defArgs (top 6)) (defBody (top 6)) (defScope (top 6)) .none kV5 dc5 pm5 an5 cd5 ct5), sl5⟩)
    (c5 : PySem.W.codeIn K cd5 "is_name" = true)
    (k5 : PySem.W.keepIn K (.ref f5) = true)
    (g6 : PySem.W.nsIn K mainGlobals "read_targets" = some (some (.ref f6)))
    (l6 : K.lookup f6 = some ⟨oc6, od6, .func (PySem.W.fnOf "read_targets" "read_targets" (defArgs (top 11)) (defBody (top 11)) (defScope (top 11)) .none kV6 dc6 pm6 an6 cd6 ct6), sl6⟩)
    (c6 : PySem.W.codeIn K cd6 "read_targets" = true)
    (k6 : PySem.W.keepIn K (.ref f6) = true)
    (g7 : PySem.W.nsIn K mainGlobals "read_number" = some (some (.ref f7)))
    (l7 : K.lookup f7 = some ⟨oc7, od7, .func (PySem.W.fnOf "read_number" "read_number" (defArgs (top 10)) (defBody (top 10)) (defScope (top 10)) .none kV7 dc7 pm7 an7 cd7 ct7), sl7⟩)
    (c7 : PySem.W.codeIn K cd7 "read_number" = true)
    (k7 : PySem.W.keepIn K (.ref f7) = true)
    (m8 : PySem.W.findIn K (.ref c_Program) "__init__" = some (some (.ref f8)))
    (mf8 : PySem.W.isFn K (.ref f8) = true)
    (l8 : K.lookup f8 = some ⟨oc8, od8, .func (PySem.W.fnOf "__init__" "Program.__init__" (defArgs (L2.inClass (top 13) 0)) (defBody (L2.inClass (top 13) 0)) (defScope (L2.inClass (top 13) 0)) .none kV8 dc8 pm8 an8 cd8 ct8), sl8⟩)
    (c8 : PySem.W.codeIn K cd8 "Program.__init__" = true)
    (k8 : PySem.W.keepIn K (.ref f8) = true)
    (g9 : PySem.W.nsIn K mainGlobals "_law_due" = some (some (.ref f9)))
    (l9 : K.lookup f9 = some ⟨oc9, od9, .func (PySem.W.fnOf "_law_due" "_law_due" (defArgs (top 17)) (defBody (top 17)) (defScope (top 17)) .none kV9 dc9 pm9 an9 cd9 ct9), sl9⟩)
    (c9 : PySem.W.codeIn K cd9 "_law_due" = true)
    (k9 : PySem.W.keepIn K (.ref f9) = true)
    (g10 : PySem.W.nsIn K mainGlobals "_law_node" = some (some (.ref f10)))
    (l10 : K.lookup f10 = some ⟨oc10, od10, .func (PySem.W.fnOf "_law_node" "_law_node" (defArgs (top 16)) (defBody (top 16)) (defScope (top 16)) .none kV10 dc10 pm10 an10 cd10 ct10), sl10⟩)
    (c10 : PySem.W.codeIn K cd10 "_law_node" = true)
    (k10 : PySem.W.keepIn K (.ref f10) = true)
    (g11 : PySem.W.nsIn K mainGlobals "_law_number" = some (some (.ref f11)))
    (l11 : K.lookup f11 = some ⟨oc11, od11, .func (PySem.W.fnOf "_law_number" "_law_number" (defArgs (top 15)) (defBody (top 15)) (defScope (top 15)) .none kV11 dc11 pm11 an11 cd11 ct11), sl11⟩)
    (c11 : PySem.W.codeIn K cd11 "_law_number" = true)
    (k11 : PySem.W.keepIn K (.ref f11) = true)
    (n_repr : PySem.W.nsIn K mainGlobals "repr" = some none)
    (n_isinstance : PySem.W.nsIn K mainGlobals "isinstance" = some none)
    (n_str : PySem.W.nsIn K mainGlobals "str" = some none)
    (n_enumerate : PySem.W.nsIn K mainGlobals "enumerate" = some none)
    (n_len : PySem.W.nsIn K mainGlobals "len" = some none)
    (n_all : PySem.W.nsIn K mainGlobals "all" = some none)
    (n_int : PySem.W.nsIn K mainGlobals "int" = some none)
    (n_zip : PySem.W.nsIn K mainGlobals "zip" = some none)
    (n_tuple : PySem.W.nsIn K mainGlobals "tuple" = some none)
    (n_range : PySem.W.nsIn K mainGlobals "range" = some none)
    (s_MAX_NODES : PySem.W.nsIn K mainGlobals "MAX_NODES" = some (some (.int 8 t_MAX_NODES)))
    (s_MAX_NAME : PySem.W.nsIn K mainGlobals "MAX_NAME" = some (some (.int 8 t_MAX_NAME)))
    (s_LETTERS : PySem.W.nsIn K mainGlobals "LETTERS" = some (some (.str sv_LETTERS t_LETTERS)))
    (e_LETTERS : sv_LETTERS = mkS [97, 98, 99, 100, 101, 102, 103, 104, 105, 106, 107, 108, 109, 110, 111, 112, 113, 114, 115, 116, 117, 118, 119, 120, 121, 122])
    (s_DIGITS : PySem.W.nsIn K mainGlobals "DIGITS" = some (some (.str sv_DIGITS t_DIGITS)))
    (e_DIGITS : sv_DIGITS = mkS [48, 49, 50, 51, 52, 53, 54, 55, 56, 57])
    : ∃ fd : FuncData, (∀ (s : Shared) (u : Value), BindsTo s fd ⟨[u], []⟩ [("script", u)]) ∧ ∃ sp : Sp, (∀ v, sp [v] Ov.nil (fun v _ => v = .bl true) fun _ _ _ => False) ∧ FnG P w K mg h 17 fa fd ["script"] sp := by
  have e := (PySem.W.mg_of X G g0).symm.trans hfa
  have e2 : f0 = fa := by cases e; rfl
  subst e2
  have F0 := fun_mk (st := (top 20)) l0 c0 k0
  have F1 := fun_mk (st := (top 19)) l1 c1 k1
  have F2 := fun_mk (st := (top 18)) l2 c2 k2
  have F3 := fun_mk (st := (L2.inClass (top 13) 3)) l3 c3 k3
  have F4 := fun_mk (st := (top 12)) l4 c4 k4
  have F5 := fun_mk (st := (top 6)) l5 c5 k5
  have F6 := fun_mk (st := (top 11)) l6 c6 k6
  have F7 := fun_mk (st := (top 10)) l7 c7 k7
  have F8 := fun_mk (st := (L2.inClass (top 13) 0)) l8 c8 k8
  have F9 := fun_mk (st := (top 17)) l9 c9 k9
  have F10 := fun_mk (st := (top 16)) l10 c10 k10
  have F11 := fun_mk (st := (top 15)) l11 c11 k11
  have xU_InvalidText := fun_mk (st := L2.inClass (top 2) 0) xl_InvalidText xc_InvalidText xkk_InvalidText
  have T : Txt K mg { f0 := f0, d0 := PySem.W.fnOf "law" "law" (defArgs (top 20)) (defBody (top 20)) (defScope (top 20)) .none kV0 dc0 pm0 an0 cd0 ct0, f1 := f1, d1 := PySem.W.fnOf "_law_rows" "_law_rows" (defArgs (top 19)) (defBody (top 19)) (defScope (top 19)) .none kV1 dc1 pm1 an1 cd1 ct1, f2 := f2, d2 := PySem.W.fnOf "_law_told" "_law_told" (defArgs (top 18)) (defBody (top 18)) (defScope (top 18)) .none kV2 dc2 pm2 an2 cd2 ct2, f3 := f3, d3 := PySem.W.fnOf "parse" "Program.parse" (defArgs (L2.inClass (top 13) 3)) (defBody (L2.inClass (top 13) 3)) (defScope (L2.inClass (top 13) 3)) .none kV3 dc3 pm3 an3 cd3 ct3, f4 := f4, d4 := PySem.W.fnOf "read_row" "read_row" (defArgs (top 12)) (defBody (top 12)) (defScope (top 12)) .none kV4 dc4 pm4 an4 cd4 ct4, f5 := f5, d5 := PySem.W.fnOf "is_name" "is_name" (defArgs (top 6)) (defBody (top 6)) (defScope (top 6)) .none kV5 dc5 pm5 an5 cd5 ct5, f6 := f6, d6 := PySem.W.fnOf "read_targets" "read_targets" (defArgs (top 11)) (defBody (top 11)) (defScope (top 11)) .none kV6 dc6 pm6 an6 cd6 ct6, f7 := f7, d7 := PySem.W.fnOf "read_number" "read_number" (defArgs (top 10)) (defBody (top 10)) (defScope (top 10)) .none kV7 dc7 pm7 an7 cd7 ct7, f8 := f8, d8 := PySem.W.fnOf "__init__" "Program.__init__" (defArgs (L2.inClass (top 13) 0)) (defBody (L2.inClass (top 13) 0)) (defScope (L2.inClass (top 13) 0)) .none kV8 dc8 pm8 an8 cd8 ct8, f9 := f9, d9 := PySem.W.fnOf "_law_due" "_law_due" (defArgs (top 17)) (defBody (top 17)) (defScope (top 17)) .none kV9 dc9 pm9 an9 cd9 ct9, f10 := f10, d10 := PySem.W.fnOf "_law_node" "_law_node" (defArgs (top 16)) (defBody (top 16)) (defScope (top 16)) .none kV10 dc10 pm10 an10 cd10 ct10, f11 := f11, d11 := PySem.W.fnOf "_law_number" "_law_number" (defArgs (top 15)) (defBody (top 15)) (defScope (top 15)) .none kV11 dc11 pm11 an11 cd11 ct11, q3 := q3, c_Program := c_Program, c_InvalidText := c_InvalidText, x_InvalidText := x_InvalidText, xd_InvalidText := PySem.W.fnOf "__init__" "InvalidText.__init__" (defArgs (L2.inClass (top 2) 0)) (defBody (L2.inClass (top 2) 0)) (defScope (L2.inClass (top 2) 0)) .none xkV_InvalidText xdc_InvalidText xpm_InvalidText xan_InvalidText xcd_InvalidText xct_InvalidText } := {
    F0 := F0,
    B0 := F0.binds fun _ _ _ _ _ _ us hl => match us, hl with | [_], _ => rfl,
    G0 := PySem.W.mg_of X G g0,
    F1 := F1,
    B1 := F1.binds fun _ _ _ _ _ _ us hl => match us, hl with | [], _ => rfl,
    G1 := PySem.W.mg_of X G g1,
    F2 := F2,
    B2 := F2.binds fun _ _ _ _ _ _ us hl => match us, hl with | [_], _ => rfl,
    G2 := PySem.W.mg_of X G g2,
    F3 := F3,
    B3 := F3.binds fun _ _ _ _ _ _ us hl => match us, hl with | [_], _ => rfl,
    S3 := ⟨sr3, sg3, sf3, ⟨_, sc3_⟩, k3⟩,
    F4 := F4,
    B4 := F4.binds fun _ _ _ _ _ _ us hl => match us, hl with | [_, _], _ => rfl,
    G4 := PySem.W.mg_of X G g4,
    F5 := F5,
    B5 := F5.binds fun _ _ _ _ _ _ us hl => match us, hl with | [_], _ => rfl,
    G5 := PySem.W.mg_of X G g5,
    F6 := F6,
    B6 := F6.binds fun _ _ _ _ _ _ us hl => match us, hl with | [_, _], _ => rfl,
    G6 := PySem.W.mg_of X G g6,
    F7 := F7,
    B7 := F7.binds fun _ _ _ _ _ _ us hl => match us, hl with | [_], _ => rfl,
    G7 := PySem.W.mg_of X G g7,
    F8 := F8,
    B8 := F8.binds fun _ _ _ _ _ _ us hl => match us, hl with | [_, _, _], _ => rfl,
    F9 := F9,
    B9 := F9.binds fun _ _ _ _ _ _ us hl => match us, hl with | [_], _ => rfl,
    G9 := PySem.W.mg_of X G g9,
    F10 := F10,
    B10 := F10.binds fun _ _ _ _ _ _ us hl => match us, hl with | [_, _], _ => rfl,
    G10 := PySem.W.mg_of X G g10,
    F11 := F11,
    B11 := F11.binds fun _ _ _ _ _ _ us hl => match us, hl with | [_], _ => rfl,
    G11 := PySem.W.mg_of X G g11,
    GC_Program := PySem.W.mg_of X G gc_Program,
    GC_InvalidText := PySem.W.mg_of X G gc_InvalidText,
    Cl_Program := ⟨pg_Program, hd_Program, po_Program, sa_Program⟩,
    na_Program_text := na_Program_text,
    na_Program_nodes := na_Program_nodes,
    Mk_Program := ⟨mk_Program, m8, mf8, kc_Program⟩,
    Ox_InvalidText := ⟨⟨_, _, _, _, _, _, _, _, _, _, _, _, _, _, _, xL_InvalidText, xV_InvalidText⟩, xs_InvalidText, xe_InvalidText, xy_InvalidText, xk_InvalidText⟩,
    xi_InvalidText := xi_InvalidText,
    xt_InvalidText := xt_InvalidText,
    xU_InvalidText := xU_InvalidText,
    xB_InvalidText := xU_InvalidText.binds fun _ _ _ _ _ _ us hl => match us, hl with | [_, _], _ => rfl,
    xn_InvalidText := xn_InvalidText,
    Xf_InvalidText := ⟨xg_InvalidText, xgg_InvalidText, xe_InvalidText, xh_InvalidText⟩,
    xm_InvalidText_InvalidText := exm_of xe_InvalidText xic_InvalidText xy_InvalidText xss_InvalidText,
    n_repr := PySem.W.mg_none_of X G n_repr,
    n_isinstance := PySem.W.mg_none_of X G n_isinstance,
    n_str := PySem.W.mg_none_of X G n_str,
    n_enumerate := PySem.W.mg_none_of X G n_enumerate,
    n_len := PySem.W.mg_none_of X G n_len,
    n_all := PySem.W.mg_none_of X G n_all,
    n_int := PySem.W.mg_none_of X G n_int,
    n_zip := PySem.W.mg_none_of X G n_zip,
    n_tuple := PySem.W.mg_none_of X G n_tuple,
    n_range := PySem.W.mg_none_of X G n_range,
    s_MAX_NODES := ⟨_, PySem.W.mg_of X G s_MAX_NODES⟩,
    s_MAX_NAME := ⟨_, PySem.W.mg_of X G s_MAX_NAME⟩,
    s_LETTERS := ⟨_, by rw [← e_LETTERS]; exact PySem.W.mg_of X G s_LETTERS⟩,
    s_DIGITS := ⟨_, by rw [← e_DIGITS]; exact PySem.W.mg_of X G s_DIGITS⟩ }
  exact ⟨_, fun s u => .of_eq rfl, _, fun v => law_sp go v, (all T 8).h0⟩
end K12
open PySem PySem.W PyProof.Rows
set_option maxRecDepth 100000 in
set_option maxHeartbeats 0 in
theorem PySem.Challenge.cw_sharedlines_k12_typed_texts_judged_holds : PySem.Challenge.rw_sharedlines_k12_typed_texts_judged.Holds := by
  w_on; o_law; k_head; (case hw => w_witness2)
  k_fill
  refine Ov.walk_free (l := PySem.Challenge.rw_sharedlines_k12_typed_texts_judged) (x := "script") (k := 17) rfl rfl ⟨rfl, by decide, by decide⟩ (fun w h Y => PySem.W.kIn_of Y) ?F
  case F =>
    intro w mg fa h KX G hmg
    refine' K12.all_mk KX G hmg ?h_gc_Program ?h_gc_InvalidText ?h_pg_Program ?h_hd_Program ?h_po_Program ?h_sa_Program ?h_na_Program_text ?h_na_Program_nodes ?h_mk_Program ?h_kc_Program ?h_xL_InvalidText ?h_xV_InvalidText ?h_xs_InvalidText ?h_xe_InvalidText ?h_xy_InvalidText ?h_xk_InvalidText ?h_xi_InvalidText ?h_xt_InvalidText ?h_xl_InvalidText ?h_xc_InvalidText ?h_xkk_InvalidText ?h_xn_InvalidText ?h_xg_InvalidText ?h_xgg_InvalidText ?h_xh_InvalidText ?h_xic_InvalidText ?h_xss_InvalidText ?h_g0 ?h_l0 ?h_c0 ?h_k0 ?h_g1 ?h_l1 ?h_c1 ?h_k1 ?h_g2 ?h_l2 ?h_c2 ?h_k2 ?h_sr3 ?h_sg3 ?h_sf3 ?h_sc3_ ?h_l3 ?h_c3 ?h_k3 ?h_g4 ?h_l4 ?h_c4 ?h_k4 ?h_g5 ?h_l5 ?h_c5 ?h_k5 ?h_g6 ?h_l6 ?h_c6 ?h_k6 ?h_g7 ?h_l7 ?h_c7 ?h_k7 ?h_m8 ?h_mf8 ?h_l8 ?h_c8 ?h_k8 ?h_g9 ?h_l9 ?h_c9 ?h_k9 ?h_g10 ?h_l10 ?h_c10 ?h_k10 ?h_g11 ?h_l11 ?h_c11 ?h_k11 ?h_n_repr ?h_n_isinstance ?h_n_str ?h_n_enumerate ?h_n_len ?h_n_all ?h_n_int ?h_n_zip ?h_n_tuple ?h_n_range ?h_s_MAX_NODES ?h_s_MAX_NAME ?h_s_LETTERS ?h_e_LETTERS ?h_s_DIGITS ?h_e_DIGITS
    (case h_gc_Program => k_is)
    (case h_gc_InvalidText => k_is)
    (case h_pg_Program => k_is)
    (case h_hd_Program => k_is)
    (case h_po_Program => k_is)
    (case h_sa_Program => k_is)
    (case h_na_Program_text => k_is)
    (case h_na_Program_nodes => k_is)
    (case h_mk_Program => k_is)
    (case h_kc_Program => k_is)
    (case h_xL_InvalidText => k_is)
    (case h_xV_InvalidText => first | rfl | kernel_rfl | decide +kernel)
    (case h_xs_InvalidText => k_is)
    (case h_xe_InvalidText => k_is)
    (case h_xy_InvalidText => k_is)
    (case h_xk_InvalidText => k_is)
    (case h_xi_InvalidText => k_is)
    (case h_xt_InvalidText => k_is)
    (case h_xl_InvalidText => k_is)
    (case h_xc_InvalidText => k_is)
    (case h_xkk_InvalidText => k_is)
    (case h_xn_InvalidText => k_is)
    (case h_xg_InvalidText => k_is)
    (case h_xgg_InvalidText => k_is)
    (case h_xh_InvalidText => k_is)
    (case h_xic_InvalidText => k_is)
    (case h_xss_InvalidText => first | rfl | k_is)
    (case h_g0 => k_is)
    (case h_l0 => k_is)
    (case h_c0 => k_is)
    (case h_k0 => k_is)
    (case h_g1 => k_is)
    (case h_l1 => k_is)
    (case h_c1 => k_is)
    (case h_k1 => k_is)
    (case h_g2 => k_is)
    (case h_l2 => k_is)
    (case h_c2 => k_is)
    (case h_k2 => k_is)
    (case h_sr3 => k_is)
    (case h_sg3 => k_is)
    (case h_sf3 => k_is)
    (case h_sc3_ => k_is)
    (case h_l3 => k_is)
    (case h_c3 => k_is)
    (case h_k3 => k_is)
    (case h_g4 => k_is)
    (case h_l4 => k_is)
    (case h_c4 => k_is)
    (case h_k4 => k_is)
    (case h_g5 => k_is)
    (case h_l5 => k_is)
    (case h_c5 => k_is)
    (case h_k5 => k_is)
    (case h_g6 => k_is)
    (case h_l6 => k_is)
    (case h_c6 => k_is)
    (case h_k6 => k_is)
    (case h_g7 => k_is)
    (case h_l7 => k_is)
    (case h_c7 => k_is)
    (case h_k7 => k_is)
    (case h_m8 => k_is)
    (case h_mf8 => k_is)
    (case h_l8 => k_is)
    (case h_c8 => k_is)
    (case h_k8 => k_is)
    (case h_g9 => k_is)
    (case h_l9 => k_is)
    (case h_c9 => k_is)
    (case h_k9 => k_is)
    (case h_g10 => k_is)
    (case h_l10 => k_is)
    (case h_c10 => k_is)
    (case h_k10 => k_is)
    (case h_g11 => k_is)
    (case h_l11 => k_is)
    (case h_c11 => k_is)
    (case h_k11 => k_is)
    (case h_n_repr => k_is)
    (case h_n_isinstance => k_is)
    (case h_n_str => k_is)
    (case h_n_enumerate => k_is)
    (case h_n_len => k_is)
    (case h_n_all => k_is)
    (case h_n_int => k_is)
    (case h_n_zip => k_is)
    (case h_n_tuple => k_is)
    (case h_n_range => k_is)
    (case h_s_MAX_NODES => k_is)
    (case h_s_MAX_NAME => k_is)
    (case h_s_LETTERS => k_is)
    (case h_e_LETTERS => first | rfl | kernel_rfl | decide +kernel)
    (case h_s_DIGITS => k_is)
    (case h_e_DIGITS => first | rfl | kernel_rfl | decide +kernel)
