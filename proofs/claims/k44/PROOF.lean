import PyProof.Rows.All
import Wide.All
import OpenK.AllK
import Wide.FinOn
import HandS.ForMost
import KE.DataMinMax
import KE.LtSeq
import KE.DataEq
import HandS.TupAny
import HandS.Conv
import HandS.TupMul
import HandS.Style
import KE.KDictPairs
import HandS.Exc
import HandS.ExcOwn
import HandS.Wide
import HandS.WideBits
import HandS.Deep
import HandS.Flow
import HandS.Gcd
import HandS.IsInst
import HandS.SortInts
import HandS.ExcInit
import HandS.CallSlots
import HandS.TryOnly
import HandS.TryMany
import HandS.WordsExc
import HandS.Defaults
import HandS.More
import HandS.Zip
import HandS.Iter
import HandS.ExcField
import HandS.ExcIs
import HandS.Strs
import HandS.Head0
import HandS.Head1
import HandS.Head2
import HandS.HeadEnd
import HandS.HeadHook1
import HandS.HeadHook2
import HandS.HeadHook3
import HandS.Head3
import PySem.Challenge.RW_turnpens_k44_plans_cut
set_option Elab.async false
set_option linter.all false
set_option maxRecDepth 100000
namespace DI
abbrev Tx := List Nat
/-- data: immutable things by what they are, mutable ones by a number -/
inductive D where
  | non | bl (b : Bool) | int (i : Int) | str (s : Tx)
  | tup (xs : List D) | lst (xs : List D) | ro (xs : List D) | loc (n : Nat)
  | exc (c : Nat) (fs : List (Nat × D))
instance : Inhabited D := ⟨.non⟩
inductive Ob where
  | lst (xs : List D)
  | dct (kvs : List (D × D))
abbrev Sto := List Ob
abbrev Env := List (Option D)
inductive R (α : Type) where
  | ok (a : α) (st : Sto)
  | err (c : Nat) (fs : List (Nat × D)) (st : Sto)
  | bad
def R.bind {α β : Type} : R α → (α → Sto → R β) → R β
  | .ok a st, f => f a st
  | .err c fs st, _ => .err c fs st
  | .bad, _ => .bad
/-- nothing is raised -/
def R.noE {α : Type} : R α → R α
  | .err _ _ _ => .bad
  | r => r
/-- from a value that is there or not -/
def R.of {α : Type} (o : Option α) (st : Sto) : R α := match o with
  | some a => .ok a st
  | none => .bad
inductive BO where | add | sub | mul | fdiv | mod | pow | shl | shr | band
inductive CO where | eq | ne | lt | le | gt | ge | mem | nmem
inductive IO where | isN | isnN | isB (b : Bool) | isnB (b : Bool)
inductive Ty where | int | bool | str | tuple | list | dict | cls (k : Nat) | ve
inductive Bi where | len | abs | int | str | max2 | min2 | maxL | minL | minD | min2D | sum | gcd | tuple | list | listM | sorted | bool
inductive Mt where | append | pop | popAt | insert | extend | index | bitlen | reverse | tix
inductive Tg where | nm (i : Nat) | tp (ts : List Tg)
mutual
inductive Ex where
  | var (i : Nat) | cst (d : D)
  | tup (es : List Ex) | lst (mu : Bool) (es : List Ex)
  | bin (op : BO) (a b : Ex) | neg (a : Ex)
  | cmp (op : CO) (a b : Ex) | is_ (op : IO) (a : Ex) | chain (op op' : CO) (a b c : Ex)
  | and (a b : Ex) | or (a b : Ex) | not (a : Ex) | ife (c a b : Ex)
  | idx (a b : Ex) | slc (mu : Bool) (a : Ex) (lo hi : Option Ex) | rev (mu : Bool) (a : Ex) | cat (a b : Ex)
  | call (k : Nat) (es : List Ex) (pm : List Nat)
  | bi (f : Bi) (es : List Ex)
  | isi (a : Ex) (ts : List Ty)
  | mth (m : Mt) (o : Ex) (es : List Ex)
  | lc (mu : Bool) (t : Tg) (it : Ir) (cs : List Ex) (e : Ex) (own : List Nat)
  | fld (a : Ex) (f : Nat)
  | isx (i : Nat) (ks : List Nat)
  | dct (ks : List D) (es : List Ex)
  | dg1 (o k : Ex) | dg2 (o k d : Ex) | tg1 (kvs : List (D × D)) (ms : List D) (k : Ex) | tg2 (kvs : List (D × D)) (ms : List D) (k d : Ex) | tix (kvs : List (D × D)) (k : Ex) | dcp (e : Ex)
inductive Ir where
  | seq (e : Ex) | rng1 (a : Ex) | rng2 (a b : Ex) | rng3 (a b c : Ex) | enum (e : Ex) | zip (a b : Ex)
end
inductive Cm where
  | asg (t : Tg) (e : Ex) | par (i j : Nat) (a b : Ex) | setIx (o i e : Ex) | aug (i : Nat) (op : BO) (e : Ex)
  | expr (e : Ex) | ret (e : Ex) | retN | ife (c : Ex) (a b : List Cm) | whl (c : Ex) (b : List Cm) | for_ (t : Tg) (it : Ir) (b : List Cm)
  | pass | brk | cont | rais (c : Nat) (fl : List Nat) (es : List Ex)
  | try_ (b : List Cm) (hs : List (Nat × Option Nat × List Cm))
  | par3 (i j l : Nat) (a b c : Ex) | bad
/-! ### ground operations -/
def SZ : Nat := 10000000
mutual
def D.depth : D → Nat
  | .tup xs => D.depthL xs + 1
  | .lst xs => D.depthL xs + 1
  | .ro xs => D.depthL xs + 1
  | _ => 1
def D.depthL : List D → Nat
  | [] => 0
  | x :: r => max (D.depth x) (D.depthL r)
end
mutual
/-- == of Python, of things without numbers of mutable ones -/
def D.eqv : D → D → Bool
  | .non, .non => true
  | .bl a, .bl b => a == b
  | .bl a, .int j => (if a then 1 else 0) == j
  | .int i, .bl b => i == (if b then 1 else 0)
  | .int i, .int j => i == j
  | .str x, .str y => x == y
  | .lst xs, .lst ys => D.eqvL xs ys
  | .tup xs, .tup ys => D.eqvL xs ys
  | _, _ => false
def D.eqvL : List D → List D → Bool
  | [], [] => true
  | x :: xs, y :: ys => D.eqv x y && D.eqvL xs ys
  | _, _ => false
end
mutual
/-- every number of a mutable thing in it told by g -/
def D.sub (g : Nat → Option D) : D → Option D
  | .tup xs => (D.subL g xs).map .tup
  | .lst xs => (D.subL g xs).map .lst
  | .ro xs => (D.subL g xs).map .lst
  | .loc i => g i
  | .exc _ _ => none
  | .non => some .non
  | .bl b => some (.bl b)
  | .int i => some (.int i)
  | .str s => some (.str s)
def D.subL (g : Nat → Option D) : List D → Option (List D)
  | [] => some []
  | x :: r => match D.sub g x with
    | none => none
    | some y => match D.subL g r with
      | none => none
      | some ys => some (y :: ys)
end
/-- mutable things from number n on told as what they hold, f levels deep -/
def frz (st : Sto) (n : Nat) : Nat → D → Option D
  | 0, d => d.sub fun i => if i < n then some (.loc i) else none
  | f + 1, d => d.sub fun i => if i < n then some (.loc i) else match st[i]? with
    | some (.lst xs) => frz st n f (.lst xs)
    | _ => none
def full (st : Sto) (d : D) : Option D := frz st 0 5 d
mutual
/-- every number in it is below n -/
def D.lo (n : Nat) : D → Bool
  | .tup xs => D.loL n xs
  | .lst xs => D.loL n xs
  | .ro xs => D.loL n xs
  | .loc i => decide (i < n)
  | .exc _ fs => D.loF n fs
  | .non | .bl _ | .int _ | .str _ => true
def D.loL (n : Nat) : List D → Bool
  | [] => true
  | x :: r => D.lo n x && D.loL n r
def D.loF (n : Nat) : List (Nat × D) → Bool
  | [] => true
  | (_, x) :: r => D.lo n x && D.loF n r
end
def Ob.lo (n : Nat) : Ob → Bool
  | .lst xs => D.loL n xs
  | .dct kvs => kvs.all fun p => p.1.lo n && p.2.lo n
/-- the items of a sequence -/
def seqD (st : Sto) : D → Option (List D)
  | .tup xs => some xs
  | .lst xs => some xs
  | .ro xs => some xs
  | .loc i => match st[i]? with
    | some (.lst xs) => some xs
    | _ => none
  | _ => none
def lstD (st : Sto) : D → Option (List D)
  | .lst xs => some xs
  | .loc i => match st[i]? with
    | some (.lst xs) => some xs
    | _ => none
  | _ => none
def truD (st : Sto) : D → Option Bool
  | .non => some false
  | .bl b => some b
  | .int i => some (i != 0)
  | .str s => some (!s.isEmpty)
  | .tup xs => some (!xs.isEmpty)
  | .lst xs => some (!xs.isEmpty)
  | .ro xs => some (!xs.isEmpty)
  | .loc i => match st[i]? with
    | some (.lst xs) => some (!xs.isEmpty)
    | some (.dct kvs) => some (!kvs.isEmpty)
    | none => none
  | .exc _ _ => none
def mulOk (i j : Int) : Bool := decide (i.natAbs.log2 + j.natAbs.log2 < 1000000)
def opB (op : BO) (x y : D) (st : Sto) : Option D := match op, x, y with
  | .add, .int i, .int j => some (.int (i + j))
  | .sub, .int i, .int j => some (.int (i - j))
  | .sub, .bl p, .bl q => some (.int ((if p = true then 1 else 0) - (if q = true then 1 else 0)))
  | .mul, .int i, .int j => if mulOk i j then some (.int (i * j)) else none
  | .fdiv, .int i, .int j => if 0 < j ∧ j.natAbs.log2 < 9000 then some (.int (i / j)) else if j < 0 ∧ j.natAbs < 1073741824 then some (.int (i.fdiv j)) else none
  | .mod, .int i, .int j => if 0 < j then some (.int (i % j)) else if j < 0 then some (.int (i.fmod j)) else none
  | .pow, .int i, .int j => if 0 ≤ j ∧ j ≤ 1000000 ∧ i.natAbs < 2 ^ 64 then some (.int (i ^ j.toNat)) else none
  | .shl, .int i, .int j => if 0 ≤ j ∧ j ≤ 1000000 ∧ i.natAbs < 2 ^ 64 then some (.int (i * 2 ^ j.toNat)) else none
  | .shr, .int i, .int j => if 0 ≤ j then some (.int (i / 2 ^ j.toNat)) else none
  | .band, .int i, .int j => some (.int (PySem.Builtin.bitAnd i j))
  | .mul, .tup xs, .int k => if k.natAbs ≤ 1000 ∧ xs.length * k.natAbs ≤ 1000000 then some (.tup (List.replicate k.toNat xs).flatten) else none
  | .mul, x, .int k => match lstD st x with
    | some xs => if xs.length * k.toNat ≤ SZ ∧ k.natAbs < 4000000000000000000 then some (.lst (List.replicate k.toNat xs).flatten) else none
    | none => none
  | .add, .str x, .str y => if x.length + y.length ≤ SZ then some (.str (x ++ y)) else none
  | .add, .tup xs, .tup ys => if xs.length + ys.length ≤ SZ then some (.tup (xs ++ ys)) else none
  | .add, x, y => match lstD st x, lstD st y with
    | some xs, some ys => if xs.length + ys.length ≤ SZ then some (.lst (xs ++ ys)) else none
    | _, _ => none
  | _, _, _ => none
/-- in place: numbers and texts alone -/
def opA (op : BO) (x y : D) : Option D := match op, x, y with
  | .add, .int i, .int j => some (.int (i + j))
  | .sub, .int i, .int j => some (.int (i - j))
  | .add, .str x, .str y => if x.length + y.length ≤ SZ then some (.str (x ++ y)) else none
  | _, _, _ => none
def eqD (st : Sto) (x y : D) : Option Bool := match full st x, full st y with
  | some a, some b => if min a.depth b.depth ≤ 60 then some (D.eqv a b) else none
  | _, _ => none
/-- the dict that it is -/
def dctD (st : Sto) : D → Option (List (D × D))
  | .loc i => match st[i]? with
    | some (.dct kvs) => some kvs
    | _ => none
  | _ => none
def isKey : D → Bool
  | .int _ => true
  | .str _ => true
  | _ => false
/-- are these keys one? -/
def kEq : D → D → Bool
  | .int i, .int j => i == j
  | .str x, .str y => x == y
  | _, _ => false
def getK : List (D × D) → D → Option D
  | [], _ => none
  | (k, v) :: r, x => if kEq k x then some v else getK r x
def putKD (kvs : List (D × D)) (x v : D) : List (D × D) := if (getK kvs x).isSome then kvs.map (fun p => if kEq p.1 x then (p.1, v) else p) else kvs ++ [(x, v)]
/-- d.get(x, z) -/
def dgD (d x z : D) (st : Sto) : Option D := match dctD st d with
  | some kvs => if isKey x then some ((getK kvs x).getD z) else none
  | none => none
/-- the same of a dict of the module: ms are texts that are no keys of it -/
def tgD (kvs : List (D × D)) (ms : List D) (x z : D) : Option D := match x with
  | .str s => (match getK kvs (.str s) with
    | some v => some v
    | none => if ms.any (fun m => kEq m (.str s)) then some z else none)
  | _ => none
def txD (kvs : List (D × D)) (x : D) : Option D := match x with
  | .str s => getK kvs (.str s)
  | _ => none
/-- pairs, their first things keys -/
def pairsD : List D → Option (List (D × D))
  | [] => some []
  | .tup [k, v] :: r => if isKey k then (pairsD r).map ((k, v) :: ·) else none
  | _ => none
def cpDct (kvs : List (D × D)) (st : Sto) : R D := .ok (.loc st.length) (st ++ [.dct kvs])
/-- dict(x): a copy of a dict, or made of pairs -/
def dcpD (x : D) (st : Sto) : R D := match x with
  | .tup xs => (match pairsD xs with
    | some ps => cpDct (ps.foldl (fun acc p => putKD acc p.1 p.2) []) st
    | none => .bad)
  | x => (match dctD st x with
    | some kvs => cpDct kvs st
    | none => .bad)
def memD (st : Sto) (x y : D) : Option Bool := match dctD st y with
  | some kvs => if isKey x then some (getK kvs x).isSome else none
  | none => match full st x, full st y with
  | some a, some (.tup ys) => if a.depth ≤ 60 ∧ D.depthL ys ≤ 60 then some (ys.any fun z => D.eqv z a) else none
  | some a, some (.lst ys) => if a.depth ≤ 60 ∧ D.depthL ys ≤ 60 then some (ys.any fun z => D.eqv z a) else none
  | some (.str [c]), some (.str s) => some (decide (c ∈ s))
  | _, _ => none
def opC (op : CO) (x y : D) (st : Sto) : Option Bool := match op with
  | .eq => eqD st x y
  | .ne => (eqD st x y).map (!·)
  | .mem => memD st x y
  | .nmem => (memD st x y).map (!·)
  | .lt => match x, y with
    | .int i, .int j => some (decide (i < j))
    | _, _ => none
  | .le => match x, y with
    | .int i, .int j => some (decide (i ≤ j))
    | _, _ => none
  | .gt => match x, y with
    | .int i, .int j => some (decide (j < i))
    | _, _ => none
  | .ge => match x, y with
    | .int i, .int j => some (decide (j ≤ i))
    | _, _ => none
def opI (op : IO) (x : D) : Option Bool := match op, x with
  | .isN, .non => some true
  | .isN, _ => some false
  | .isnN, .non => some false
  | .isnN, _ => some true
  | .isB b, .bl c => some (c == b)
  | .isnB b, .bl c => some (!(c == b))
  | _, _ => none
/-- the place that an index means -/
def ixD (n : Nat) (i : Int) : Option Nat := if 0 ≤ i then (if i < n then some i.toNat else none) else if -(n : Int) ≤ i then some (i + n).toNat else none
def idxD (x y : D) (st : Sto) : Option D := match dctD st x with
  | some kvs => if isKey y then getK kvs y else none
  | none => match y with
  | .int i => match x with
    | .str s => (ixD s.length i).bind fun j => (s[j]?).map fun c => .str [c]
    | _ => (seqD st x).bind fun xs => (ixD xs.length i).bind fun j => xs[j]?
  | .bl b => (lstD st x).bind fun xs => xs[if b = true then 1 else 0]?
  | _ => none
/-- a slice's bound -/
def sIxD (n d : Nat) : Option Int → Nat
  | none => d
  | some v => if v < 0 then (v + (n : Int)).toNat else min v.toNat n
def cutD {α : Type} (xs : List α) (lo hi : Option Int) : List α := (xs.drop (sIxD xs.length 0 lo)).take (sIxD xs.length xs.length hi - sIxD xs.length 0 lo)
def slcD (x : D) (lo hi : Option Int) (st : Sto) : Option D := match x with
  | .str s => some (.str (cutD s lo hi))
  | .tup xs => some (.tup (cutD xs lo hi))
  | x => (seqD st x).map fun xs => .lst (cutD xs lo hi)
/-- a fresh list: kept as it is, or laid as a mutable thing -/
def newL (mu : Bool) (xs : List D) (st : Sto) : R D := if xs.length ≤ SZ then (if mu then .ok (.loc st.length) (st ++ [.lst xs]) else .ok (.lst xs) st) else .bad
def mkL (mu : Bool) (d : D) (st : Sto) : R D := match mu, d with
  | true, .lst xs => .ok (.loc st.length) (st ++ [.lst xs])
  | _, d => .ok d st
/-- one list behind the other, as a new mutable one -/
def catD (x y : D) (st : Sto) : R D := match lstD st x, lstD st y with
  | some xs, some ys => if xs.length + ys.length ≤ SZ then .ok (.loc st.length) (st ++ [.lst (xs ++ ys)]) else .bad
  | _, _ => .bad
/-- a sequence told backwards -/
def revD (x : D) (st : Sto) : Option D := match x with
  | .tup xs => some (.tup xs.reverse)
  | x => (lstD st x).map fun xs => .lst xs.reverse
mutual
/-- numbers, texts and tuples of such -/
def D.sc : D → Bool
  | .int _ => true
  | .str _ => true
  | .tup xs => D.scL xs
  | _ => false
def D.scL : List D → Bool
  | [] => true
  | x :: r => D.sc x && D.scL r
end
mutual
/-- <, where Python has one -/
def D.lt : D → D → Option Bool
  | .int i, .int j => some (decide (i < j))
  | .str x, .str y => some (decide (x < y))
  | .tup xs, .tup ys => D.ltL xs ys
  | _, _ => none
def D.ltL : List D → List D → Option Bool
  | [], [] => some false
  | [], _ :: _ => some true
  | _ :: _, [] => some false
  | x :: xs, y :: ys => if D.eqv x y = true then D.ltL xs ys else D.lt x y
end
def ltB (x y : D) : Bool := (D.lt x y).getD false
/-- all can be compared -/
def cmpAll (xs : List D) : Bool := D.scL xs && decide (D.depthL xs ≤ 40) && xs.all fun a => xs.all fun b => (D.lt a b).isSome
def minF : List D → Option D
  | [] => none
  | x :: xs => some (xs.foldl (fun m y => if ltB y m = true then y else m) x)
def intsOf : List D → Option (List Int)
  | [] => some []
  | .int i :: r => (intsOf r).map (i :: ·)
  | _ => none
def isiD (anc : Nat → Nat → Option Bool) (st : Sto) (x : D) (t : Ty) : Bool := match t, x with
  | .int, .int _ => true
  | .int, .bl _ => true
  | .bool, .bl _ => true
  | .str, .str _ => true
  | .tuple, .tup _ => true
  | .list, .lst _ => true
  | .list, .ro _ => true
  | .list, .loc i => match st[i]? with
    | some (.lst _) => true
    | _ => false
  | .dict, .loc i => match st[i]? with
    | some (.dct _) => true
    | _ => false
  | .cls k, .exc c _ => anc c k == some true
  | .ve, .exc _ _ => true
  | _, _ => false
/-- built-in types are asked of anything but errors, own classes of errors alone -/
def tyOk : Ty → D → Bool
  | .cls _, .exc _ _ => true
  | .ve, .exc _ _ => true
  | .cls _, _ => false
  | .ve, _ => false
  | _, .exc _ _ => false
  | _, _ => true
/-- a number as Python writes it -/
def intTx (i : Int) : Tx := (toString i).toList.map Char.toNat
def insSort (x : Int) : List Int → List Int
  | [] => [x]
  | y :: r => if x ≤ y then x :: y :: r else y :: insSort x r
def biD (f : Bi) (vs : List D) (st : Sto) : R D := match f, vs with
  | .len, [.str s] => .ok (.int s.length) st
  | .len, [x] => match x with
    | .loc i => match st[i]? with
      | some (.lst xs) => .ok (.int xs.length) st
      | some (.dct kvs) => .ok (.int kvs.length) st
      | none => .bad
    | x => match seqD st x with
      | some xs => .ok (.int xs.length) st
      | none => .bad
  | .abs, [.int i] => .ok (.int (if i < 0 then -i else i)) st
  | .int, [.int i] => .ok (.int i) st
  | .int, [.bl b] => .ok (.int (if b then 1 else 0)) st
  | .bool, [x] => R.of ((truD st x).map .bl) st
  | .str, [.int i] => if i.natAbs.log2 < 1900 then .ok (.str (intTx i)) st else .bad
  | .max2, [.int i, .int j] => .ok (.int (if j > i then j else i)) st
  | .min2, [.int i, .int j] => .ok (.int (if j < i then j else i)) st
  | .sum, [x] => match lstD st x with
    | some xs => match intsOf xs with
      | some ns => .ok (.int ns.sum) st
      | none => .bad
    | none => .bad
  | .maxL, [x] => match lstD st x with
    | some xs => match intsOf xs with
      | some (n :: ns) => .ok (.int (ns.foldl (fun m y => if m < y then y else m) n)) st
      | _ => .bad
    | none => .bad
  | .minL, [x] => match lstD st x with
    | some xs => match intsOf xs with
      | some (n :: ns) => .ok (.int (ns.foldl (fun m y => if y < m then y else m) n)) st
      | _ => .bad
    | none => .bad
  | .minD, [x] => match lstD st x with
    | some xs => if cmpAll xs = true then R.of (minF xs) st else .bad
    | none => .bad
  | .min2D, [x, y] => if cmpAll [x, y] = true then .ok (if ltB y x = true then y else x) st else .bad
  | .gcd, [.int i, .int j] => .ok (.int (Nat.gcd i.natAbs j.natAbs)) st
  | .tuple, [x] => match seqD st x with
    | some xs => .ok (.tup xs) st
    | none => .bad
  | .list, [x] => match seqD st x with
    | some xs => .ok (.lst xs) st
    | none => .bad
  | .listM, [x] => match seqD st x with
    | some xs => .ok (.loc st.length) (st ++ [.lst xs])
    | none => .bad
  | .sorted, [x] => match lstD st x with
    | some xs => match intsOf xs with
      | some ns => .ok (.lst ((ns.foldr insSort []).map .int)) st
      | none => .bad
    | none => .bad
  | _, _ => .bad
def small62 (i : Int) : Bool := i == 0 || decide (i.natAbs.log2 < 62)
theorem small62_ok {i : Int} (h : small62 i = true) : -(2 ^ 62) ≤ i ∧ i < 2 ^ 62 := by
  unfold small62 at h
  rw [Bool.or_eq_true, beq_iff_eq, decide_eq_true_eq] at h
  rcases h with rfl | h
  · decide
  · have : i.natAbs < 2 ^ 62 := by
      by_cases h0 : i.natAbs = 0
      · rw [h0]; decide
      · exact (Nat.log2_lt h0).mp h
    have e : (2 : Int) ^ 62 = 4611686018427387904 := by decide
    have e2 : (2 : Nat) ^ 62 = 4611686018427387904 := by decide
    rw [e]
    rw [e2] at this
    omega
def mtD (m : Mt) (o : D) (vs : List D) (st : Sto) : R D := match m, o with
  | .index, x => match full st x, vs with
    | some (.lst ys), [y] => match full st y with
      | some a => if a.depth ≤ 60 ∧ D.depthL ys ≤ 60 then (match ys.findIdx? fun z => D.eqv z a with
          | some j => .ok (.int (j : Nat)) st
          | none => .bad) else .bad
      | none => .bad
    | _, _ => .bad
  | .tix, x => match full st x, vs with
    | some (.tup ys), [y] => match full st y with
      | some a => if a.depth ≤ 60 ∧ D.depthL ys ≤ 60 then (match ys.findIdx? fun z => D.eqv z a with
          | some j => .ok (.int (j : Nat)) st
          | none => .bad) else .bad
      | none => .bad
    | _, _ => .bad
  | .bitlen, .int i => match vs with
    | [] => .ok (.int (if i = 0 then 0 else i.natAbs.log2 + 1)) st
    | _ => .bad
  | m, .loc i => match st[i]? with
    | some (.lst xs) => match m, vs with
      | .append, [y] => if xs.length < SZ then .ok .non (st.set i (.lst (xs ++ [y]))) else .bad
      | .pop, [] => match xs[xs.length - 1]? with
        | some y => .ok y (st.set i (.lst xs.dropLast))
        | none => .bad
      | .popAt, [.int k] => if small62 k then match ixD xs.length k with
        | some j => match xs[j]? with
          | some y => .ok y (st.set i (.lst (xs.eraseIdx j)))
          | none => .bad
        | none => .bad
        else .bad
      | .insert, [.int k, y] => if xs.length < SZ ∧ 0 ≤ k ∧ k < 2 ^ 63 then .ok .non (st.set i (.lst (xs.take k.toNat ++ y :: xs.drop k.toNat))) else .bad
      | .extend, [z] => match lstD st z with
        | some ys => if xs.length + ys.length ≤ SZ then .ok .non (st.set i (.lst (xs ++ ys))) else .bad
        | none => .bad
      | .reverse, [] => .ok .non (st.set i (.lst xs.reverse))
      | _, _ => .bad
    | _ => .bad
  | _, _ => .bad
/-- a method's receiver is of the method's type -/
def okM (m : Mt) (x : D) (st : Sto) : Bool := match m, x with
  | .bitlen, .int _ => true
  | .bitlen, _ => false
  | .tix, .tup _ => true
  | .tix, _ => false
  | .index, .lst _ => true
  | .index, .ro _ => true
  | _, .loc i => match st[i]? with
    | some (.lst _) => true
    | _ => false
  | _, _ => false
def setD (o i v : D) (st : Sto) : Option Sto := match o with
  | .loc a => match st[a]? with
    | some (.lst xs) => (match i with
      | .int k => (ixD xs.length k).map fun j => st.set a (.lst (xs.set j v))
      | _ => none)
    | some (.dct kvs) => if isKey i ∧ kvs.length < SZ then some (st.set a (.dct (putKD kvs i v))) else none
    | none => none
  | _ => none
mutual
def setT : Tg → D → Env → Option Env
  | .nm i, d, ρ => some (ρ.set i (some d))
  | .tp ts, .tup xs, ρ => setTs ts xs ρ
  | .tp _, _, _ => none
def setTs : List Tg → List D → Env → Option Env
  | [], [], ρ => some ρ
  | t :: ts, x :: xs, ρ => match setT t x ρ with
    | some ρ' => setTs ts xs ρ'
    | none => none
  | _, _, _ => none
end
def wipeD (ρ : Env) : List Nat → Env
  | [] => ρ
  | v :: vs => (wipeD ρ vs).set v none
mutual
/-- a target's places are among these -/
def Tg.inn (own : List Nat) : Tg → Bool
  | .nm i => own.contains i
  | .tp ts => Tg.innL own ts
def Tg.innL (own : List Nat) : List Tg → Bool
  | [] => true
  | t :: ts => Tg.inn own t && Tg.innL own ts
end
/-- what a loop walks: things told ahead; a mutable list as it stands; the same numbered -/
inductive Src where | st (xs : List D) | lv (i : Nat) | lvE (i : Nat)
def srcD (st : Sto) : D → Option Src
  | .loc i => match st[i]? with
    | some (.lst _) => some (.lv i)
    | _ => none
  | .str s => some (.st (s.map fun c => .str [c]))
  | x => (seqD st x).map .st
def enumL (xs : List D) : List D := xs.zipIdx.map fun p => .tup [.int (p.2 : Nat), p.1]
def srcE (st : Sto) : D → Option Src
  | .loc i => match st[i]? with
    | some (.lst _) => some (.lvE i)
    | _ => none
  | .lst xs => some (.st (enumL xs))
  | .ro xs => some (.st (enumL xs))
  | _ => none
def rngD (lo hi : Int) : List D := (List.range (hi - lo).toNat).map fun k => .int (lo + (k : Nat))
def rng3D (lo hi c : Int) : List D := if 0 < c then (List.range ((hi - lo + c - 1) / c).toNat).map fun k => .int (lo + (k : Nat) * c)
  else (List.range ((lo - hi + (-c) - 1) / (-c)).toNat).map fun k => .int (lo + (k : Nat) * c)
/-- a comprehension's turns -/
def compS (f : D → Sto → R (Option D)) : List D → List D → Sto → R (List D)
  | [], acc, st => .ok acc st
  | x :: xs, acc, st => (f x st).bind fun o st => compS f xs (match o with | some d => acc ++ [d] | none => acc) st
def compV (f : D → Sto → R (Option D)) (en : Bool) (i : Nat) : Nat → Nat → List D → Sto → R (List D)
  | 0, _, _, _ => .bad
  | n + 1, j, acc, st => match st[i]? with
    | some (.lst xs) => match xs[j]? with
      | none => .ok acc st
      | some x => (f (if en then .tup [.int (j : Nat), x] else x) st).bind fun o st => compV f en i n (j + 1) (match o with | some d => acc ++ [d] | none => acc) st
    | _ => .bad
def lenOb : Option Ob → Nat
  | some (.lst xs) => xs.length
  | _ => 0
def compD (f : D → Sto → R (Option D)) (s : Src) (st : Sto) : R (List D) := match s with
  | .st xs => compS f xs [] st
  | .lv i => compV f false i (lenOb st[i]? + 1) 0 [] st
  | .lvE i => compV f true i (lenOb st[i]? + 1) 0 [] st
/-- what calls do, what classes there are -/
structure Cal where
  call : Nat → List D → Sto → R D
  anc : Nat → Nat → Option Bool
def permD (vs : List D) (pm : List Nat) : List D := pm.filterMap fun j => vs[j]?
/-- an error of class c: is it of one of these? -/
def ancAny (anc : Nat → Nat → Option Bool) (c : Nat) : List Nat → Option Bool
  | [] => some false
  | k :: ks => match anc c k with
    | some true => some true
    | some false => ancAny anc c ks
    | none => none
mutual
def evE (C : Cal) : Ex → Env → Sto → R D
  | .var i, ρ, st => match ρ[i]? with
    | some (some d) => .ok d st
    | _ => .bad
  | .cst d, _, st => .ok d st
  | .tup es, ρ, st => (evEs C es ρ st).bind fun ds st => if ds.length ≤ SZ then .ok (.tup ds) st else .bad
  | .lst mu es, ρ, st => (evEs C es ρ st).bind fun ds st => newL mu ds st
  | .bin op a b, ρ, st => (evE C a ρ st).bind fun x st => (evE C b ρ st).bind fun y st => R.of (opB op x y st) st
  | .neg a, ρ, st => (evE C a ρ st).bind fun x st => match x with
    | .int i => .ok (.int (-i)) st
    | _ => .bad
  | .cmp op a b, ρ, st => (evE C a ρ st).bind fun x st => (evE C b ρ st).bind fun y st => R.of ((opC op x y st).map .bl) st
  | .is_ op a, ρ, st => (evE C a ρ st).bind fun x st => R.of ((opI op x).map .bl) st
  | .chain op op' a b c, ρ, st => (evE C a ρ st).bind fun x st => (evE C b ρ st).bind fun y st => match opC op x y st with
    | some true => (evE C c ρ st).bind fun z st => R.of ((opC op' y z st).map .bl) st
    | some false => .ok (.bl false) st
    | none => .bad
  | .and a b, ρ, st => (evE C a ρ st).bind fun x st => match truD st x with
    | some true => evE C b ρ st
    | some false => .ok x st
    | none => .bad
  | .or a b, ρ, st => (evE C a ρ st).bind fun x st => match truD st x with
    | some true => .ok x st
    | some false => evE C b ρ st
    | none => .bad
  | .not a, ρ, st => (evE C a ρ st).bind fun x st => match truD st x with
    | some b => .ok (.bl (!b)) st
    | none => .bad
  | .ife c a b, ρ, st => (evE C c ρ st).bind fun x st => match truD st x with
    | some true => evE C a ρ st
    | some false => evE C b ρ st
    | none => .bad
  | .idx a b, ρ, st => (evE C a ρ st).bind fun x st => (evE C b ρ st).bind fun y st => R.of (idxD x y st) st
  | .slc mu a lo hi, ρ, st => (evE C a ρ st).bind fun x st => (evO C lo ρ st).bind fun l st => (evO C hi ρ st).bind fun h st => (R.of (slcD x l h st) st).bind fun d st => mkL mu d st
  | .cat a b, ρ, st => (evE C a ρ st).bind fun x st => (evE C b ρ st).bind fun y st => catD x y st
  | .rev mu a, ρ, st => (evE C a ρ st).bind fun x st => (R.of (revD x st) st).bind fun d st => mkL mu d st
  | .call k es pm, ρ, st => (evEs C es ρ st).bind fun vs st => C.call k (permD vs pm) st
  | .bi f es, ρ, st => (evEs C es ρ st).bind fun vs st => biD f vs st
  | .isi a ts, ρ, st => (evE C a ρ st).bind fun x st => if ts.all fun t => tyOk t x then .ok (.bl (ts.any fun t => isiD C.anc st x t)) st else .bad
  | .mth m o es, ρ, st => (evE C o ρ st).bind fun x st => if okM m x st then (evEs C es ρ st).bind fun vs st => mtD m x vs st else .bad
  | .lc mu t it cs e own, ρ, st => (evIt C it ρ st).bind fun src st => (compD (fun x st => match setT t x (wipeD ρ own) with
      | none => .bad
      | some ρ' => (evCs C cs ρ' st).bind fun b st => if b then (evE C e ρ' st).bind fun d st => .ok (some d) st else .ok none st) src st).noE.bind fun ds st => newL mu ds st
  | .fld a f, ρ, st => (evE C a ρ st).bind fun x st => match x with
    | .exc _ fs => R.of (fs.lookup f) st
    | _ => .bad
  | .isx i ks, ρ, st => match ρ[i]? with
    | some (some (.exc c _)) => R.of ((ancAny C.anc c ks).map .bl) st
    | _ => .bad
  | .dct ks es, ρ, st => (evEs C es ρ st).bind fun vs st => .ok (.loc st.length) (st ++ [.dct ((ks.zip vs).foldl (fun acc p => putKD acc p.1 p.2) [])])
  | .dg1 o k, ρ, st => (evE C o ρ st).bind fun x st => if (dctD st x).isSome then (evE C k ρ st).bind fun y st => R.of (dgD x y .non st) st else .bad
  | .dg2 o k d, ρ, st => (evE C o ρ st).bind fun x st => if (dctD st x).isSome then (evE C k ρ st).bind fun y st => (evE C d ρ st).bind fun z st => R.of (dgD x y z st) st else .bad
  | .tg1 kvs ms k, ρ, st => (evE C k ρ st).bind fun y st => R.of (tgD kvs ms y .non) st
  | .tg2 kvs ms k d, ρ, st => (evE C k ρ st).bind fun y st => (evE C d ρ st).bind fun z st => R.of (tgD kvs ms y z) st
  | .tix kvs k, ρ, st => (evE C k ρ st).bind fun y st => R.of (txD kvs y) st
  | .dcp e, ρ, st => (evE C e ρ st).bind fun x st => dcpD x st
def evEs (C : Cal) : List Ex → Env → Sto → R (List D)
  | [], _, st => .ok [] st
  | e :: es, ρ, st => (evE C e ρ st).bind fun d st => (evEs C es ρ st).bind fun ds st => .ok (d :: ds) st
def evO (C : Cal) : Option Ex → Env → Sto → R (Option Int)
  | none, _, st => .ok none st
  | some e, ρ, st => (evE C e ρ st).bind fun x st => match x with
    | .int i => .ok (some i) st
    | _ => .bad
/-- the tests of a comprehension -/
def evCs (C : Cal) : List Ex → Env → Sto → R Bool
  | [], _, st => .ok true st
  | e :: es, ρ, st => (evE C e ρ st).bind fun x st => match truD st x with
    | some true => evCs C es ρ st
    | some false => .ok false st
    | none => .bad
def evIt (C : Cal) : Ir → Env → Sto → R Src
  | .seq e, ρ, st => (evE C e ρ st).bind fun x st => R.of (srcD st x) st
  | .rng1 a, ρ, st => (evE C a ρ st).bind fun x st => match x with
    | .int i => if small62 i then .ok (.st (rngD 0 i)) st else .bad
    | _ => .bad
  | .rng2 a b, ρ, st => (evE C a ρ st).bind fun x st => (evE C b ρ st).bind fun y st => match x, y with
    | .int i, .int j => if small62 i && small62 j then .ok (.st (rngD i j)) st else .bad
    | _, _ => .bad
  | .rng3 a b c, ρ, st => (evE C a ρ st).bind fun x st => (evE C b ρ st).bind fun y st => (evE C c ρ st).bind fun z st => match x, y, z with
    | .int i, .int j, .int k => if small62 i && small62 j && decide (k ≠ 0 ∧ k.natAbs < 2 ^ 29) then .ok (.st (rng3D i j k)) st else .bad
    | _, _, _ => .bad
  | .enum e, ρ, st => (evE C e ρ st).bind fun x st => R.of (srcE st x) st
  | .zip a b, ρ, st => .bad
end
/-! ### equality of data, as a test -/
mutual
def D.beq : D → D → Bool
  | .non, .non => true
  | .bl a, .bl b => a == b
  | .int a, .int b => a == b
  | .str a, .str b => a == b
  | .tup a, .tup b => D.beqL a b
  | .lst a, .lst b => D.beqL a b
  | .ro a, .ro b => D.beqL a b
  | .loc a, .loc b => a == b
  | .exc a f, .exc b g => a == b && D.beqF f g
  | _, _ => false
def D.beqL : List D → List D → Bool
  | [], [] => true
  | x :: xs, y :: ys => D.beq x y && D.beqL xs ys
  | _, _ => false
def D.beqF : List (Nat × D) → List (Nat × D) → Bool
  | [], [] => true
  | (i, x) :: xs, (j, y) :: ys => i == j && D.beq x y && D.beqF xs ys
  | _, _ => false
end
mutual
theorem D.beq_refl : ∀ x : D, D.beq x x = true
  | .non => rfl
  | .bl a => by simp [D.beq]
  | .int a => by simp [D.beq]
  | .str a => by simp [D.beq]
  | .tup a => by simp [D.beq, D.beqL_refl a]
  | .lst a => by simp [D.beq, D.beqL_refl a]
  | .ro a => by simp [D.beq, D.beqL_refl a]
  | .loc a => by simp [D.beq]
  | .exc a f => by simp [D.beq, D.beqF_refl f]
theorem D.beqL_refl : ∀ xs : List D, D.beqL xs xs = true
  | [] => rfl
  | x :: xs => by simp [D.beqL, D.beq_refl x, D.beqL_refl xs]
theorem D.beqF_refl : ∀ xs : List (Nat × D), D.beqF xs xs = true
  | [] => rfl
  | (i, x) :: xs => by simp [D.beqF, D.beq_refl x, D.beqF_refl xs]
end
mutual
theorem D.beq_eq : ∀ x y : D, D.beq x y = true → x = y
  | .non, y, h => by cases y <;> simp_all [D.beq]
  | .bl a, y, h => by cases y <;> simp_all [D.beq]
  | .int a, y, h => by cases y <;> simp_all [D.beq]
  | .str a, y, h => by cases y <;> simp_all [D.beq]
  | .loc a, y, h => by cases y <;> simp_all [D.beq]
  | .tup a, y, h => by
    cases y <;> simp only [D.beq] at h <;> first | (rw [D.beqL_eq a _ h]; done) | (cases h; done)
  | .lst a, y, h => by
    cases y <;> simp only [D.beq] at h <;> first | (rw [D.beqL_eq a _ h]; done) | (cases h; done)
  | .ro a, y, h => by
    cases y <;> simp only [D.beq] at h <;> first | (rw [D.beqL_eq a _ h]; done) | (cases h; done)
  | .exc a f, y, h => by
    cases y <;> simp only [D.beq] at h <;> first | (obtain ⟨h1, h2⟩ := Bool.and_eq_true_iff.mp h; rw [D.beqF_eq f _ h2, eq_of_beq h1]; done) | (cases h; done)
theorem D.beqL_eq : ∀ xs ys : List D, D.beqL xs ys = true → xs = ys
  | [], ys, h => by cases ys <;> simp_all [D.beqL]
  | x :: xs, [], h => by simp [D.beqL] at h
  | x :: xs, y :: ys, h => by
    simp only [D.beqL, Bool.and_eq_true] at h
    rw [D.beq_eq x y h.1, D.beqL_eq xs ys h.2]
theorem D.beqF_eq : ∀ xs ys : List (Nat × D), D.beqF xs ys = true → xs = ys
  | [], ys, h => by cases ys <;> simp_all [D.beqF]
  | (i, x) :: xs, [], h => by simp [D.beqF] at h
  | (i, x) :: xs, (j, y) :: ys, h => by
    simp only [D.beqF, Bool.and_eq_true, beq_iff_eq] at h
    rw [h.1.1, D.beq_eq x y h.1.2, D.beqF_eq xs ys h.2]
end
def kvEq : List (D × D) → List (D × D) → Bool
  | [], [] => true
  | (a, b) :: r, (c, d) :: s => D.beq a c && D.beq b d && kvEq r s
  | _, _ => false
def Ob.beq : Ob → Ob → Bool
  | .lst a, .lst b => D.beqL a b
  | .dct a, .dct b => kvEq a b
  | _, _ => false
theorem kvEq_refl : ∀ l : List (D × D), kvEq l l = true
  | [] => rfl
  | (a, b) :: r => by simp [kvEq, D.beq_refl, kvEq_refl r]
theorem kvEq_eq : ∀ l m : List (D × D), kvEq l m = true → l = m
  | [], m, h => by cases m <;> simp_all [kvEq]
  | (a, b) :: r, [], h => by simp [kvEq] at h
  | (a, b) :: r, (c, d) :: s, h => by
    simp only [kvEq, Bool.and_eq_true] at h
    rw [D.beq_eq _ _ h.1.1, D.beq_eq _ _ h.1.2, kvEq_eq r s h.2]
theorem Ob.beq_refl : ∀ o : Ob, Ob.beq o o = true
  | .lst a => D.beqL_refl a
  | .dct a => kvEq_refl a
theorem Ob.beq_eq : ∀ o u : Ob, Ob.beq o u = true → o = u
  | .lst a, u, h => by cases u <;> simp only [Ob.beq] at h <;> first | (rw [D.beqL_eq _ _ h]; done) | (cases h; done)
  | .dct a, u, h => by cases u <;> simp only [Ob.beq] at h <;> first | (rw [kvEq_eq _ _ h]; done) | (cases h; done)
/-- the old things are as they were, or name old things alone -/
def keeps (n : Nat) : Sto → Sto → Bool
  | [], _ => true
  | o :: st0, u :: st => (Ob.beq o u || u.lo n) && keeps n st0 st
  | _ :: _, [] => false
/-! ### no error in it -/
mutual
def D.noX : D → Bool
  | .tup xs => D.noXL xs
  | .lst xs => D.noXL xs
  | .ro xs => D.noXL xs
  | .exc _ _ => false
  | .non | .bl _ | .int _ | .str _ | .loc _ => true
def D.noXL : List D → Bool
  | [] => true
  | x :: r => D.noX x && D.noXL r
end
def Ob.noX : Ob → Bool
  | .lst xs => D.noXL xs
  | .dct kvs => kvs.all fun p => p.1.noX && p.2.noX
/-- each thing of the store as it stood, or without an error in it -/
def cleanS : Sto → Sto → Bool
  | o :: st0, u :: st => (Ob.beq o u || u.noX) && cleanS st0 st
  | [], st => st.all Ob.noX
  | _ :: _, [] => true
def cleanE (ρ : Env) : Bool := ρ.all fun o => match o with
  | some d => d.noX
  | none => true
/-! ### statements -/
inductive Fl where | nx | rt (d : D) | bk | ct
inductive RS where
  | ok (f : Fl) (ρ : Env) (st : Sto)
  | err (c : Nat) (fs : List (Nat × D)) (ρ : Env) (st : Sto)
  | bad
def RS.of {α : Type} (r : R α) (ρ : Env) (f : α → Sto → RS) : RS := match r with
  | .ok a st => f a st
  | .err c fs st => .err c fs ρ st
  | .bad => .bad
/-- one statement, then the rest -/
def RS.seq (r : RS) (f : Env → Sto → RS) : RS := match r with
  | .ok .nx ρ st => f ρ st
  | r => r
/-- an except suite's end: the error's name is forgotten, the error itself is nowhere -/
def catchD (i : Nat) (st0 : Sto) : RS → RS
  | .ok (.rt d) ρ st => if d.noX && cleanS st0 st then .ok (.rt d) (ρ.map fun _ => none) st else .bad
  | .ok f ρ st => if cleanE (ρ.set i none) && cleanS st0 st then .ok f (ρ.set i none) st else .bad
  | _ => .bad
def FUEL : Nat := 10 ^ 100
def whileF (t : Env → Sto → R Bool) (b : Env → Sto → RS) : Nat → Env → Sto → RS
  | 0, _, _ => .bad
  | n + 1, ρ, st => match t ρ st with
    | .ok true st => (match b ρ st with
      | .ok .nx ρ st => whileF t b n ρ st
      | .ok .ct ρ st => whileF t b n ρ st
      | .ok .bk ρ st => .ok .nx ρ st
      | r => r)
    | .ok false st => .ok .nx ρ st
    | .err c fs st => .err c fs ρ st
    | .bad => .bad
def forS (b : D → Env → Sto → RS) : List D → Env → Sto → RS
  | [], ρ, st => .ok .nx ρ st
  | x :: xs, ρ, st => match b x ρ st with
    | .ok .nx ρ st => forS b xs ρ st
    | .ok .ct ρ st => forS b xs ρ st
    | .ok .bk ρ st => .ok .nx ρ st
    | r => r
def forV (b : D → Env → Sto → RS) (en : Bool) (i : Nat) : Nat → Nat → Env → Sto → RS
  | 0, _, _, _ => .bad
  | n + 1, j, ρ, st => match st[i]? with
    | some (.lst xs) => (match xs[j]? with
      | none => .ok .nx ρ st
      | some x => (match b (if en then .tup [.int (j : Nat), x] else x) ρ st with
        | .ok .nx ρ st => forV b en i n (j + 1) ρ st
        | .ok .ct ρ st => forV b en i n (j + 1) ρ st
        | .ok .bk ρ st => .ok .nx ρ st
        | r => r))
    | _ => .bad
def forD (b : D → Env → Sto → RS) (s : Src) (ρ : Env) (st : Sto) : RS := match s with
  | .st xs => forS b xs ρ st
  | .lv i => forV b false i (lenOb st[i]? + 1) 0 ρ st
  | .lvE i => forV b true i (lenOb st[i]? + 1) 0 ρ st
def evT (C : Cal) (e : Ex) (ρ : Env) (st : Sto) : R Bool := (evE C e ρ st).bind fun x st => R.of (truD st x) st
mutual
def evS (C : Cal) : Cm → Env → Sto → RS
  | .asg t e, ρ, st => RS.of (evE C e ρ st) ρ fun d st => match setT t d ρ with
    | some ρ' => .ok .nx ρ' st
    | none => .bad
  | .par i j a b, ρ, st => RS.of (evE C a ρ st) ρ fun x st => RS.of (evE C b ρ st) ρ fun y st => .ok .nx ((ρ.set i (some x)).set j (some y)) st
  | .par3 i j l a b c, ρ, st => RS.of (evE C a ρ st) ρ fun x st => RS.of (evE C b ρ st) ρ fun y st => RS.of (evE C c ρ st) ρ fun z st => .ok .nx (((ρ.set i (some x)).set j (some y)).set l (some z)) st
  | .bad, _, _ => .bad
  | .setIx o i e, ρ, st => RS.of (evE C e ρ st) ρ fun v st => RS.of (evE C o ρ st) ρ fun a st => RS.of (evE C i ρ st) ρ fun k st => match setD a k v st with
    | some st' => .ok .nx ρ st'
    | none => .bad
  | .aug i op e, ρ, st => match ρ[i]? with
    | some (some x) => RS.of (evE C e ρ st) ρ fun y st => match opA op x y with
      | some z => .ok .nx (ρ.set i (some z)) st
      | none => .bad
    | _ => .bad
  | .expr e, ρ, st => RS.of (evE C e ρ st) ρ fun _ st => .ok .nx ρ st
  | .ret e, ρ, st => RS.of (evE C e ρ st) ρ fun d st => .ok (.rt d) ρ st
  | .retN, ρ, st => .ok (.rt .non) ρ st
  | .ife c a b, ρ, st => RS.of (evT C c ρ st) ρ fun k st => if k then evSs C a ρ st else evSs C b ρ st
  | .whl c b, ρ, st => whileF (fun ρ st => evT C c ρ st) (fun ρ st => evSs C b ρ st) FUEL ρ st
  | .for_ t it b, ρ, st => RS.of (evIt C it ρ st) ρ fun s st => forD (fun x ρ st => match setT t x ρ with
    | some ρ' => evSs C b ρ' st
    | none => .bad) s ρ st
  | .pass, ρ, st => .ok .nx ρ st
  | .brk, ρ, st => .ok .bk ρ st
  | .cont, ρ, st => .ok .ct ρ st
  | .rais c fl es, ρ, st => RS.of (evEs C es ρ st) ρ fun vs st => .err c (fl.zip vs).reverse ρ st
  | .try_ b hs, ρ, st => match evSs C b ρ st with
    | .err c fs ρ st => evHs C hs c fs ρ st
    | r => r
def evSs (C : Cal) : List Cm → Env → Sto → RS
  | [], ρ, st => .ok .nx ρ st
  | c :: cs, ρ, st => (evS C c ρ st).seq fun ρ st => evSs C cs ρ st
def evHs (C : Cal) : List (Nat × Option Nat × List Cm) → Nat → List (Nat × D) → Env → Sto → RS
  | [], c, fs, ρ, st => .err c fs ρ st
  | (k, o, b) :: hs, c, fs, ρ, st => match C.anc c k with
    | none => .bad
    | some false => evHs C hs c fs ρ st
    | some true => match o with
      | none => match evSs C b ρ st with
        | .ok f ρ st => .ok f ρ st
        | _ => .bad
      | some i => catchD i st (evSs C b (ρ.set i (some (.exc c fs))) st)
end
/-! ### a def's end, calls -/
mutual
def D.subX (g : Nat → Option D) : D → Option D
  | .tup xs => (D.subXL g xs).map .tup
  | .lst xs => (D.subXL g xs).map .lst
  | .ro xs => (D.subXL g xs).map .ro
  | .loc i => g i
  | .exc _ _ => none
  | .non => some .non
  | .bl b => some (.bl b)
  | .int i => some (.int i)
  | .str s => some (.str s)
def D.subXL (g : Nat → Option D) : List D → Option (List D)
  | [] => some []
  | x :: r => match D.subX g x with
    | none => none
    | some y => match D.subXL g r with
      | none => none
      | some ys => some (y :: ys)
end
/-- mutable things from number n on told as what they hold, f levels deep -/
def frzX (st : Sto) (n : Nat) : Nat → D → Option D
  | 0, d => d.subX fun i => if i < n then some (.loc i) else none
  | f + 1, d => d.subX fun i => if i < n then some (.loc i) else match st[i]? with
    | some (.lst xs) => frzX st n f (.lst xs)
    | _ => none
def frzF (st : Sto) (n : Nat) : List (Nat × D) → Option (List (Nat × D))
  | [] => some []
  | (i, x) :: r => match frzX st n 5 x with
    | none => none
    | some y => (frzF st n r).map ((i, y) :: ·)
def finD (keep : Bool) (st0 : Sto) (d : D) (st : Sto) : R D :=
  if keep then .ok d st else match frzX st st0.length 5 d with
    | some d' => if keeps st0.length st0 st then .ok d' (st.take st0.length) else .bad
    | none => .bad
def finX (keep : Bool) (st0 : Sto) (c : Nat) (fs : List (Nat × D)) (st : Sto) : R D :=
  if keep then .err c fs st else match frzF st st0.length fs with
    | some fs' => if keeps st0.length st0 st then .err c fs' (st.take st0.length) else .bad
    | none => .bad
def endD (keep : Bool) (st0 : Sto) : RS → R D
  | .ok .nx _ st => finD keep st0 .non st
  | .ok (.rt d) _ st => finD keep st0 d st
  | .err c fs _ st => finX keep st0 c fs st
  | _ => .bad
structure Fd where
  np : Nat
  nn : Nat
  keep : Bool
  body : List Cm
def callD (fds : List Fd) (anc : Nat → Nat → Option Bool) : Nat → Nat → List D → Sto → R D
  | 0, _, _, _ => .bad
  | n + 1, k, vs, st => match fds[k]? with
    | none => .bad
    | some f => if vs.length = f.np then endD f.keep st (evSs ⟨callD fds anc n, anc⟩ f.body (vs.map some ++ List.replicate (f.nn - vs.length) none) st) else .bad
end DI
set_option Elab.async false
set_option linter.all false
set_option maxRecDepth 100000
set_option maxHeartbeats 4000000
set_option autoImplicit false
namespace DN
open PySem PySem.SeqAt PySem.W PyProof.Rows
open AutoSeq1 (wpAny_loadPart')
open MeetsSeq MeetsSeq2 MeetsSeq3 SeqRoads2
section
/-- < of tuples: only the first places that differ are compared -/
theorem tupLtGo (la lb : Addr) (us ws : Array Value) (n1 n2 : Nat) (d1 d2 : Option Addr) (s1 s2 : Array (Option Value)) (e : Nat → Bool) (Go : Nat → Prop) (k : Bool) :
    Meets (Builtin.«tuple.__lt__» ⟨[.ref la, .ref lb], []⟩) (fun A R s =>
      s.heap.get? la = some { cls := .type "tuple", dict := d1, data := .seq us n1, slots := s1 } ∧
      s.heap.get? lb = some { cls := .type "tuple", dict := d2, data := .seq ws n2, slots := s2 } ∧
      Go 0 ∧ (∀ j (p : j < us.size) (q : j < ws.size), Go j → EqAt A.in1 s us[j] ws[j] (e j)) ∧
      (∀ j (p : j < us.size) (q : j < ws.size), Go j → e j = true → Go (j + 1)) ∧
      (∀ j (p : j < us.size) (q : j < ws.size), Go j → e j = false → RcLt A.in1 s us[j] ws[j] k) ∧
      (Go (min us.size ws.size) → k = decide (us.size < ws.size)) ∧ R (.ok (.ret (.bool k))) s) :=
  .of_wp fun prog w A R s h => by
    obtain ⟨hp, g, d, tk, os⟩ := s
    obtain ⟨h1, h2, g0, hE, hG, hL, hN, hR⟩ := h
    have f2 := AutoSeq1.sub_tuple_tuple
    have zl : (us.toList.zip ws.toList).length = min us.size ws.size := by simp
    wp_walk using wpAny_loadPart' h1, wpAny_loadPart' h2, wpAny_forIn_list _ (fun rest b s' => b.1 = none ∧ s' = ⟨hp, g, d, tk, os⟩ ∧ ∃ i, rest = (us.toList.zip ws.toList).drop i ∧ i ≤ min us.size ws.size ∧ Go i) _
    case turn =>
      rintro ⟨y, x⟩ rest b s' ⟨hb', rfl, i, hz, hi, gi⟩
      have il : i < (us.toList.zip ws.toList).length := by
        by_cases hq : i < (us.toList.zip ws.toList).length
        · exact hq
        · rw [List.drop_of_length_le (by omega)] at hz; cases hz
      have im : i < min us.size ws.size := by rw [zl] at il; exact il
      have p : i < us.size := by omega
      have q : i < ws.size := by omega
      rw [List.drop_eq_getElem_cons il] at hz
      injection hz with hyx hrest
      have ey : y = us[i] := by have := congrArg Prod.fst hyx; simpa using this
      have ex : x = ws[i] := by have := congrArg Prod.snd hyx; simpa using this
      subst ey ex
      refine wpAny_bind (hE i p q gi prog w _ _ ?_)
      cases hc : e i with
      | true =>
        wp_walk
        exact ⟨rfl, rfl, i + 1, hrest, by omega, hG i p q gi hc⟩
      | false =>
        have hri := hL i p q gi hc prog w
        wp_walk using hri
        exact ⟨_, rfl, by simpa using hR⟩
    case fin =>
      rintro ⟨b1, b2⟩ s' ⟨hb', rfl, i, hz, hi, gi⟩
      simp only at hb'
      subst hb'
      have ge : i = min us.size ws.size := by
        by_cases hq : i < (us.toList.zip ws.toList).length
        · rw [List.drop_eq_getElem_cons hq] at hz; cases hz
        · rw [zl] at hq; omega
      rw [ge] at gi
      have hk := hN gi
      subst hk
      wp_walk
      exact ⟨_, rfl, by simpa [Builtin.Tuple.tupleCompareSizes] using hR⟩
    case h =>
      exact ⟨rfl, rfl, 0, rfl, by omega, g0⟩
theorem rcLt_tupGo {A : Around} {s : Shared} {la lb : Addr} {us ws : Array Value} {e : Nat → Bool} {Go : Nat → Prop} {k : Bool} (h1 : s.heap.IsTuple la us) (h2 : s.heap.IsTuple lb ws) (hu : A.units < cLine) (g0 : Go 0)
    (hE : ∀ j (p : j < us.size) (q : j < ws.size), Go j → EqAt A.in1 s us[j] ws[j] (e j))
    (hG : ∀ j (p : j < us.size) (q : j < ws.size), Go j → e j = true → Go (j + 1))
    (hL : ∀ j (p : j < us.size) (q : j < ws.size), Go j → e j = false → RcLt A.in1 s us[j] ws[j] k)
    (hN : Go (min us.size ws.size) → k = decide (us.size < ws.size)) : RcLt A s (.ref la) (.ref lb) k := fun prog w E Q h => by
  obtain ⟨⟨c1, d1, t1, s1⟩, o1, e1, n1, q1⟩ := id h1
  obtain ⟨⟨c2, d2, t2, s2⟩, o2, e2, n2, q2⟩ := id h2
  simp only at e1 q1 e2 q2
  subst e1 q1 e2 q2
  exact richCompare_meets_room (op := .Lt) ⟨_, o1, rfl⟩ ⟨_, o2, rfl⟩ F.slot_tuple_lt F.entry_tuple_lt (F.args_tuple_lt_2 _ _) (tupLtGo la lb us ws n1 n2 d1 d2 s1 s2 e Go k)
    ⟨o1, o2, g0, hE, hG, hL, hN, show Value.bool k ≠ Value.notImplemented ∧ Q (.bool k) s from ⟨(fun x => nomatch x), h⟩⟩ hu
end
mutual
/-- < of data, where Python has one: none where it may fail -/
def pLt : PyData → PyData → Option Bool
  | .int i, .int j => some (decide (i < j))
  | .str x, .str y => some (decide (x.cps.toList < y.cps.toList))
  | .tuple xs, .tuple ys => pLtL xs ys
  | _, _ => none
def pLtL : List PyData → List PyData → Option Bool
  | [], [] => some false
  | [], _ :: _ => some true
  | _ :: _, [] => some false
  | x :: xs, y :: ys => if PyData.eqv x y = true then pLtL xs ys else pLt x y
end
theorem canLay_at : ∀ {xs : List PyData} {j : Nat}, PyData.canLayAll0 xs = true → j < xs.length → (xs.getD j .none).canLay0 = true
  | [], _, _, h => by simp at h
  | x :: xs, 0, h, _ => by simp only [PyData.canLayAll0, Bool.and_eq_true] at h; exact h.1
  | x :: xs, j + 1, h, hj => by
    simp only [PyData.canLayAll0, Bool.and_eq_true] at h
    exact canLay_at (xs := xs) (j := j) h.2 (by simpa using hj)
theorem pLtL_drop {xs ys : List PyData} {j : Nat} (h1 : j < xs.length) (h2 : j < ys.length) : pLtL (xs.drop j) (ys.drop j) = if PyData.eqv (xs.getD j .none) (ys.getD j .none) = true then pLtL (xs.drop (j + 1)) (ys.drop (j + 1)) else pLt (xs.getD j .none) (ys.getD j .none) := by
  rw [List.drop_eq_getElem_cons h1, List.drop_eq_getElem_cons h2, pLtL]
  simp [List.getD_eq_getElem?_getD, h1, h2]
theorem depthAll_at : ∀ {xs : List PyData} {j : Nat}, (xs.getD j .none).depth ≤ PyData.depthAll xs
  | [], j => by simp [PyData.depth]
  | x :: xs, 0 => by simp only [List.getD_cons_zero, PyData.depthAll]; omega
  | x :: xs, j + 1 => by
    have := depthAll_at (xs := xs) (j := j)
    simp only [List.getD_cons_succ, PyData.depthAll]; omega
theorem rcLt_py : ∀ (n : Nat) (da db : PyData) (A : Around) (s : Shared) (a b : Value) (as bs : List Addr) (k : Bool), da.depth < n → Reads s.heap a da as → Reads s.heap b db bs → da.canLay0 = true → db.canLay0 = true → A.units + da.depth + db.depth < cLine → pLt da db = some k → RcLt A s a b k
  | 0, da, db, A, s, a, b, as, bs, k, hn, ra, rb, ca, cb, hu, h => by
    exact absurd hn (Nat.not_lt_zero _)
  | n + 1, da, db, A, s, a, b, as, bs, k, hn, ra, rb, ca, cb, hu, h => by
    cases da with
    | int i =>
      cases db with
      | int j =>
        cases ra
        cases rb
        simp only [pLt, Option.some.injEq] at h
        intro prog w E Q q
        subst h
        exact P.lt_int q
      | _ => simp [pLt] at h
    | str x =>
      cases db with
      | str y =>
        cases ra
        cases rb
        simp only [pLt, Option.some.injEq] at h
        intro prog w E Q q
        subst h
        exact P.lt_str q
      | _ => simp [pLt] at h
    | tuple xs =>
      cases db with
      | tuple ys =>
        cases ra with
        | @tuple l o vs m _ as₁ x1 x2 x3 x4 =>
          cases rb with
          | @tuple l' o' vs' m' _ bs₁ y1 y2 y3 y4 =>
            have l1 : vs.size = xs.length := by simpa using ReadsAll.length _ _ _ x4
            have l2 : vs'.size = ys.length := by simpa using ReadsAll.length _ _ _ y4
            simp only [pLt] at h
            simp only [PyData.depth] at hn hu
            have ca : PyData.canLayAll0 xs = true := by simpa [PyData.canLay0] using ca
            have cb : PyData.canLayAll0 ys = true := by simpa [PyData.canLay0] using cb
            have hat1 : ∀ j (p : j < vs.size), ∃ cs, Reads s.heap vs[j] (xs.getD j .none) cs := fun j p => by
              obtain ⟨cs, r, _⟩ := readsAll_atA x4 j vs[j] (by simp [p])
              exact ⟨cs, r⟩
            have hat2 : ∀ j (p : j < vs'.size), ∃ cs, Reads s.heap vs'[j] (ys.getD j .none) cs := fun j p => by
              obtain ⟨cs, r, _⟩ := readsAll_atA y4 j vs'[j] (by simp [p])
              exact ⟨cs, r⟩
            have du : A.in1.units = A.units + 1 := rfl
            refine rcLt_tupGo (e := fun j => PyData.eqv (xs.getD j .none) (ys.getD j .none)) (Go := fun j => pLtL (xs.drop j) (ys.drop j) = some k) ⟨_, x1, x2, _, x3⟩ ⟨_, y1, y2, _, y3⟩ (by omega) h (fun j p q g => ?_) (fun j p q g c => ?_) (fun j p q g c => ?_) fun g => ?_
            · obtain ⟨c1, r1⟩ := hat1 j p
              obtain ⟨c2, r2⟩ := hat2 j q
              have z1 := depthAll_at (xs := xs) (j := j)
              have z2 := depthAll_at (xs := ys) (j := j)
              exact eqAt_reads _ _ A.in1 s _ _ _ _ r1 r2 (canLay_at ca (by omega)) (canLay_at cb (by omega)) (by rw [du]; omega)
            · have g : pLtL (xs.drop j) (ys.drop j) = some k := g
              rw [pLtL_drop (by omega) (by omega), if_pos c] at g
              exact g
            · have g : pLtL (xs.drop j) (ys.drop j) = some k := g
              rw [pLtL_drop (by omega) (by omega), if_neg (by rw [c]; simp)] at g
              obtain ⟨c1, r1⟩ := hat1 j p
              obtain ⟨c2, r2⟩ := hat2 j q
              have z1 := depthAll_at (xs := xs) (j := j)
              have z2 := depthAll_at (xs := ys) (j := j)
              have z3 : (xs.getD j .none).depth < n := by omega
              exact rcLt_py n _ _ A.in1 s _ _ _ _ k z3 r1 r2 (canLay_at ca (by omega)) (canLay_at cb (by omega)) (by rw [du]; omega) g
            · have g : pLtL (xs.drop (min vs.size vs'.size)) (ys.drop (min vs.size vs'.size)) = some k := g
              rw [l1, l2] at g ⊢
              by_cases hh : xs.length < ys.length
              · rw [show min xs.length ys.length = xs.length by omega, List.drop_length] at g
                rw [List.drop_eq_getElem_cons hh] at g
                simp [pLtL] at g
                simp [hh, g]
              · rw [show min xs.length ys.length = ys.length by omega, List.drop_length] at g
                have : k = false := by
                  cases hq : xs.drop ys.length with
                  | nil => rw [hq] at g; simp [pLtL] at g; exact (by first | exact g | exact g.symm)
                  | cons _ _ => rw [hq] at g; simp [pLtL] at g; exact (by first | exact g | exact g.symm)
                simp [hh, this]
      | _ => simp [pLt] at h
    | _ => cases db <;> simp [pLt] at h
section
variable {prog : Program} {w : World} {A : Around} {E : Value → Shared → Prop} {s : Shared}
/-- min(xs) of a list whose items can be compared -/
theorem minList_cmp {l : Addr} {vs : Array Value} {bt : Nat → Nat → Bool} {Q : Value → Shared → Prop} (hh : A.handled = none) (hl : s.heap.IsList l vs) (hn : 0 < vs.size)
    (hc : CmpIn prog w A.in1 .Lt s.heap (fun i v => vs[i]? = some v) bt)
    (h : ∀ v h' tk, vs[argBest bt (vs.size - 1)]? = some v → (∀ b o, s.heap.get? b = some o → h'.get? b = some o) → Q v { s with heap := h', toks := tk }) :
    wpAny (model prog w) A (call (.builtin "min") [.ref l]) Q E s := by
  refine call_min_walkH (iter_listW (A := A.in1) hh hl fun s2 e W st hfp hw hk => ?_)
  refine ⟨_, _, _, _, _, _, _, s.heap, _, rfl, W, st, hfp, hn, hw, hk, hc, fun v s' hP m => ?_⟩
  obtain ⟨h', tk, rfl, hk'⟩ := moved_old e rfl m
  exact h v h' tk hP hk'
/-- max(xs) of a list whose items can be compared -/
theorem maxList_cmp {l : Addr} {vs : Array Value} {bt : Nat → Nat → Bool} {Q : Value → Shared → Prop} (hh : A.handled = none) (hl : s.heap.IsList l vs) (hn : 0 < vs.size)
    (hc : CmpIn prog w A.in1 .Gt s.heap (fun i v => vs[i]? = some v) bt)
    (h : ∀ v h' tk, vs[argBest bt (vs.size - 1)]? = some v → (∀ b o, s.heap.get? b = some o → h'.get? b = some o) → Q v { s with heap := h', toks := tk }) :
    wpAny (model prog w) A (call (.builtin "max") [.ref l]) Q E s := by
  refine call_max_walkH (iter_listW (A := A.in1) hh hl fun s2 e W st hfp hw hk => ?_)
  refine ⟨_, _, _, _, _, _, _, s.heap, _, rfl, W, st, hfp, hn, hw, hk, hc, fun v s' hP m => ?_⟩
  obtain ⟨h', tk, rfl, hk'⟩ := moved_old e rfl m
  exact h v h' tk hP hk'
/-- min(a, b) of two things that can be compared -/
theorem minTwo_cmp {a b : Value} {bt : Nat → Nat → Bool} {Q : Value → Shared → Prop} (hh : A.handled = none)
    (hc : CmpIn prog w A.in1 .Lt s.heap (fun i v => #[a, b][i]? = some v) bt)
    (h : ∀ v h' tk, #[a, b][argBest bt 1]? = some v → (∀ b o, s.heap.get? b = some o → h'.get? b = some o) → Q v { s with heap := h', toks := tk }) :
    wpAny (model prog w) A (call (.builtin "min") [a, b]) Q E s := by
  have nm : (toString "min" ++ toString ".loop" : String) = "min.loop" := by decide
  refine call_function_tree F.kind_min F.plain_min F.entry_min (F.args_min2 _ _) ?_
  show wpAny _ A.in1 (Builtin.Builtins.bindParams "min" ["key", "default"] 0 ⟨[], []⟩ >>= _) _ _ s
  refine wpAny_bind (wpAny_of_eq (show Builtin.Builtins.bindParams "min" ["key", "default"] 0 ⟨[], []⟩ = pure [none, none] from rfl) ?_)
  show wpAny _ A.in1 (newTuple [a, b] >>= _) _ _ s
  refine wpAny_bind (wpAny_newObj_type ?_)
  have tT : (s.heap.push { cls := .type "tuple", data := .seq #[a, b] }).IsTuple s.heap.objs.size #[a, b] := ⟨_, Heap.get?_push_size _ rfl, rfl, 0, rfl⟩
  have k0 : ∀ c o, s.heap.get? c = some o → (s.heap.push { cls := .type "tuple", data := .seq #[a, b] }).get? c = some o := fun c o e => Heap.get?_push_of_some _ e
  refine wpAny_bind (iter_tupleW (A := A.in1) hh tT fun s2 e W st hfp hw hk => ?_)
  refine wpAny_bind (wpAny_newObj_type ?_)
  have nS : s2.heap.objs.size ∉ [(s.heap.push { cls := .type "tuple", data := .seq #[a, b] }).objs.size, s.heap.objs.size] := fun hm => Nat.lt_irrefl _ (hfp _ hm)
  have keep : ∀ c o, s.heap.get? c = some o → s2.heap.get? c = some o := fun c o q => hk c o (k0 c o q)
  rw [nm]
  refine wpAny_pure ⟨plainId_quiet F.plain_min_loop _, codeAny_min_loop_firstH W s.heap (fun c o q => hw c o (k0 c o q)) bt hc s2.heap.objs.size nS (fresh_in keep) _ (Nat.zero_lt_succ _) (fun c o q => Heap.get?_push_of_some _ (keep c o q)) (W.frame 0 s2 _ s2.toks st (Nat.le_refl _) fun c _ o q => Heap.get?_push_of_some _ q) (Heap.get?_push_size _ rfl) fun v s' hP hm => ?_⟩
  have m := Moved.drop_new (tk := s2.toks) hm (Nat.le_refl _)
  obtain ⟨h', tk, rfl, hk'⟩ := moved_old (s := { s with heap := s.heap.push { cls := .type "tuple", data := .seq #[a, b] } }) e rfl m
  exact h v h' tk hP fun c o q => hk' c o (k0 c o q)
end
end DN
set_option Elab.async false
set_option linter.all false
set_option maxRecDepth 100000
set_option maxHeartbeats 4000000
set_option autoImplicit false
namespace DN
open PySem PySem.Spec PyProof.Rows L2
/-! tuples laid as objects that are told whole (no dict of their own) -/
abbrev newF (H : Hp) (Q : VK) (xs : List V) : Prop := ∀ (p : Addr) (o : Obj), H p = none → o.dict = none → Q (.ref p) (upd H p (.frz o (.tup xs)))
section
variable {X : Cx}
theorem lay_F {pins : List (Addr × Obj)} {σ : L2.St} {H : Hp} {s : Shared} {xs : List V} {us : List Value} {Q : VK} (I : Inv X pins σ H s) (r : Vals xs us) (hz : xs.length ≤ sizeLine) (q : newF H Q xs) :
    EP X pins σ Q (.ref s.heap.objs.size) { s with heap := s.heap.push { cls := .type "tuple", data := .seq us.toArray } } :=
  ⟨.ref s.heap.objs.size, _, I.laid (t' := s.toks) (o := .frz { cls := .type "tuple", data := .seq us.toArray } (.tup xs)) (fun b ob q => Heap.get?_push_of_some _ q) (Nat.le_refl _) ⟨Heap.get?_push_size _ rfl, hz, us, r, IsTup.new _ _⟩, rfl, q _ _ (I.hok.fresh (Nat.le_refl _)) rfl⟩
def tTupF (t : TA) : TE := fun σ H Q => t σ H fun xs H1 => xs.length ≤ sizeLine ∧ newF H1 Q xs
theorem pe_tupF {es : List Expr} {k : Nat} {pos : Pos} {t : TA} (h : PA X es t) : PE X (.Tuple es k pos) (tTupF t) := by
  refine ⟨fun pins s σ H Q I hq => ?_⟩
  exact wpAny_Tuple_spliced (thn (h.run pos pins s σ H _ I hq) fun us s1 ⟨xs, H1, I1, r, z, q⟩ => ⟨by rw [← r.length]; exact z, lay_F I1 r z q⟩)
def rCatF (K : PySem.W.Frag) : R2 := fun x y H Q => ∃ a b xs ys, x = .ref a ∧ y = .ref b ∧ SqT K H a xs ∧ SqT K H b ys ∧ xs.length + ys.length ≤ sizeLine ∧
  (xs = [] → Q (.ref b) H) ∧ (xs ≠ [] → ys = [] → Q (.ref a) H) ∧ (xs ≠ [] → ys ≠ [] → newF H Q (xs ++ ys))
theorem op_catF : OpR X (binaryOp .Add) (rCatF X.K) := by
  intro pins s σ H x y v u Q I rx ry h
  obtain ⟨a, b, xs, ys, rfl, rfl, ha, hb, hz, q0, q1, q2⟩ := h
  cases rx
  cases ry
  obtain ⟨its, r1, p1, _⟩ := I.tuple ha
  obtain ⟨its2, r2, p2, _⟩ := I.tuple hb
  by_cases hx : xs = []
  · subst hx
    cases r1
    exact cat_tup0 p1 p2 ⟨.ref b, H, I, rfl, q0 rfl⟩
  · refine HT.cat_tup p1 p2 (fun z => hx (r1.nil_iff.mp z)) (fun z => ⟨.ref a, H, I, rfl, q1 hx (r2.nil_iff.mp z)⟩) (fun z => ?_) (by rw [← r1.length, ← r2.length]; exact hz)
    exact lay_F I (r1.append r2) (by rw [List.length_append]; exact hz) (q2 hx fun w => z (r2.nil_iff.mpr w))
def rSlF (K : PySem.W.Frag) : V → Option Int → Option Int → Hp → VK → Prop := fun x lo hi H Q => ∃ a xs, x = .ref a ∧ SqT K H a xs ∧
  (HT.sIx xs.length 0 lo = 0 ∧ HT.sIx xs.length xs.length hi = xs.length → Q (.ref a) H) ∧ (¬ (HT.sIx xs.length 0 lo = 0 ∧ HT.sIx xs.length xs.length hi = xs.length) → newF H Q (cutV xs lo hi))
theorem sl_tupF : SlR X (rSlF X.K) := by
  intro pins s σ H x v vl vu lo hi sl Q I rx hs pl pu h
  obtain ⟨a, xs, rfl, hx, q1, q2⟩ := h
  cases rx
  obtain ⟨its, r, ht, hz⟩ := I.tuple hx
  have hl : its.toArray.size = xs.length := by rw [List.size_toArray]; exact r.length.symm
  refine ⟨"tuple", _, PyProof.Rows.slot_tuple_getitem.lookup, ht.typeIs, ?_⟩
  by_cases hw : HT.sIx xs.length 0 lo = 0 ∧ HT.sIx xs.length xs.length hi = xs.length
  · exact getItem_tuple_whole ht hs pl pu (by rw [hl]; exact hw) ⟨.ref a, H, I, rfl, q1 hw⟩
  · refine HT.getItem_tuple_cut ht hs pl pu (by rw [hl]; exact hw) ?_ (by rw [hl]; exact hz)
    rw [hl]
    exact lay_F I ((r.drop (HT.sIx xs.length 0 lo)).take (HT.sIx xs.length xs.length hi - HT.sIx xs.length 0 lo)) (Nat.le_trans (cutV_length xs lo hi) hz) (q2 hw)
theorem call_tupF : CallR X (.type "tuple") (fun xs H Q => ∃ a ys, xs = [.ref a] ∧ ((SqL X.K H a ys ∧ newF H Q ys) ∨ (SqT X.K H a ys ∧ Q (.ref a) H))) := by
  intro pins s σ H xs us Q I r h
  obtain ⟨a, ys, rfl, h⟩ := h
  obtain ⟨u, rfl, ru⟩ := vals1 r
  cases ru
  rcases h with ⟨hs, q⟩ | ⟨hs, q⟩
  · obtain ⟨its, rv, pl, hz⟩ := I.list hs
    refine call_tuple_list pl.isList (fun h' hk => ?_) (by rw [List.size_toArray, ← rv.length]; exact hz)
    have J : Inv X pins σ H { s with heap := h' } := I.kept (t' := s.toks) hk
    exact lay_F J rv hz q
  · obtain ⟨its, rv, pl, hz⟩ := I.tuple hs
    exact call_tuple_tup pl ⟨.ref a, H, I, rfl, q⟩
/-- dict(t) of a tuple of pairs that has no dict of its own -/
theorem pairs_V {pins : List (Addr × Obj)} {σ : L2.St} {H : Hp} {s : Shared} (I : Inv X pins σ H s) : ∀ {ps : List Addr} {kvs : List (Key × V)}, Paired (fun p kv => SqT X.K H p [kV kv.1, kv.2]) ps kvs →
    ∃ (prs : List (Key × Value)) (vs : List (Value × Value)), KV kvs prs ∧ prs.length = ps.length ∧ vs.length = ps.length ∧ ∀ (j : Nat) (u y : Value), vs[j]? = some (u, y) → ∃ (b : Addr) (k : Key), ps[j]? = some b ∧ s.heap.IsTuple b #[u, y] ∧ prs[j]? = some (k, y) ∧ keyIs k u = true
  | _, _, .nil => ⟨[], [], .nil, rfl, rfl, fun j u y e => by simp at e⟩
  | _, _, .cons (a := p) (b := kv) h t => by
    obtain ⟨prs, vs, r, hl, hv, hp⟩ := pairs_V I t
    obtain ⟨its, rv, ht, _⟩ := I.tuple h
    obtain ⟨u, y, ei, ru, ry⟩ := vals2 rv
    subst ei
    refine ⟨(kv.1, y) :: prs, (u, y) :: vs, .cons ⟨rfl, ry⟩ r, by rw [List.length_cons, List.length_cons, hl], by rw [List.length_cons, List.length_cons, hv], fun j u' y' e => ?_⟩
    cases j with
    | zero =>
      simp only [List.getElem?_cons_zero, Option.some.injEq, Prod.mk.injEq] at e
      obtain ⟨rfl, rfl⟩ := e
      exact ⟨p, kv.1, rfl, ht, rfl, kV_is (P := X.prog) (w := X.w) ru⟩
    | succ j =>
      obtain ⟨b, k, e1, e2, e3, e4⟩ := hp j u' y' (by simpa using e)
      exact ⟨b, k, by simpa using e1, e2, by simpa using e3, e4⟩
theorem call_dictF (hc : X.calm = true) : CallR X (.type "dict") (fun xs H Q => ∃ (a : Addr) (ps : List Addr) (kvs : List (Key × V)), xs = [.ref a] ∧ SqT X.K H a (ps.map V.ref) ∧ (∃ o, o.dict = none ∧ ((∃ u, H a = some (.frz o u)) ∨ X.K.lookup a = some o)) ∧ Paired (fun p kv => SqT X.K H p [kV kv.1, kv.2]) ps kvs ∧
    ∀ p, H p = none → Q (.ref p) (upd H p (.dK (mergeK [] kvs)))) := by
  intro pins s σ H xs us Q I r ⟨a, ps, kvs, ex, hq, ⟨o, od, ho⟩, hp, q⟩
  subst ex
  obtain ⟨u, eu, rx⟩ := vals1 r
  subst eu
  cases rx
  obtain ⟨its, rv, ⟨o2, ho2, hcl, n, hdt⟩, hz⟩ := I.tuple hq
  have ha : s.heap.get? a = some o := by
    rcases ho with ⟨u, h⟩ | h
    · exact (I.hok a _ h).1
    · exact I.kIn _ _ h
  have eo : o2 = o := Option.some.inj (ho2.symm.trans ha)
  subst eo
  have ei := refs_at rv
  subst ei
  rw [List.length_map] at hz
  obtain ⟨prs, vs, rel, hl, hv, hpr⟩ := pairs_V I hp
  have hTs : ∀ (j : Nat) (b : Addr), ps[j]? = some b → (fun j => ps.getD j 0) j = b := fun j b e => by
    show ps.getD j 0 = b
    rw [List.getD_eq_getElem?_getD, e]; rfl
  refine PySem.call_dict_pairs (knd := mixKind X.prog X.w) (kvs := prs) (PairArg.tuple a (ps.map Value.ref).toArray (fun j => ps.getD j 0) vs) (I.ok.hd hc) ⟨⟨o2, n, ho2, hcl, od, hdt⟩, by simp [hv], fun j key v e => ?_⟩ ⟨by omega, fun j key v e => ?_⟩ (by rw [hv]; exact hz) fun h' tk hd' k => ?_
  · obtain ⟨b, k, e1, e2, _, _⟩ := hpr j key v e
    rw [hTs j b e1]
    exact ⟨by simp [e1], .inl e2⟩
  · obtain ⟨b, k, e1, e2, e3, e4⟩ := hpr j key v e
    exact ⟨k, e3, e4⟩
  · have hm : (s.heap.objs.size == sysModules) = false := beq_eq_false_iff_ne.mpr (Nat.ne_of_gt I.big)
    have hlen : (mergeK [] kvs).length ≤ sizeLine := by
      refine Nat.le_trans (length_mergeK kvs []) ?_
      rw [List.length_nil, Nat.zero_add, rel.length, hl]
      exact hz
    exact ⟨.ref s.heap.objs.size, upd H s.heap.objs.size (.dK (mergeK [] kvs)), I.laid (t' := tk) (fun b o e => k b o (by simp) e) (Nat.le_refl _) (show ObjOk X.prog X.w _ _ _ (.dK (mergeK [] kvs)) from ⟨hlen, hm, merged [] prs, KV.merge rel .nil, hd'⟩), rfl, q _ (I.hok.fresh (Nat.le_refl _))⟩
end
end DN
set_option Elab.async false
set_option linter.all false
set_option maxRecDepth 100000
set_option maxHeartbeats 4000000
set_option autoImplicit false
namespace DN
open PySem PySem.Spec PyProof.Rows L2
open AutoSeq1 (wpAny_loadPart')
open MeetsSeq MeetsSeq2 MeetsSeq3 SeqRoads2
/-- the same tuple once, or an empty one taken any number of times -/
theorem tmulSame (l : Addr) (us : Array Value) (n : Nat) (d : Option Addr) (ss : Array (Option Value)) (k : Int) (t : Tok) (h0 : (decide (k < -(2 ^ 63)) || decide (k ≥ 2 ^ 63)) = false) (h1 : (us.isEmpty || k == 1) = true) :
    Meets (Builtin.«tuple.__mul__» ⟨[.ref l, .int k t], []⟩) (fun _ R s => s.heap.get? l = some { cls := .type "tuple", dict := d, data := .seq us n, slots := ss } ∧ R (.ok (.ret (.ref l))) s) :=
  .of_wp fun prog w A R s h => by
    obtain ⟨hp, g, dr, tk, os⟩ := s
    obtain ⟨hl, h⟩ := h
    have f1 := AutoSeq1.idx_int
    wp_walk using wpAny_loadPart' hl
    repeat (first
      | (refine wpAny_ite_false (decide_eq_false (by rw [h0]; exact Bool.false_ne_true)) ?_; wp_walk using wpAny_loadPart' hl)
      | (refine wpAny_ite_true (decide_eq_true (by rw [h1])) ?_; wp_walk using wpAny_loadPart' hl))
    all_goals first | exact ⟨_, rfl, h⟩ | skip
/-- nothing left of it -/
theorem tmulNone (l : Addr) (us : Array Value) (n : Nat) (d : Option Addr) (ss : Array (Option Value)) (k : Int) (t : Tok) (h0 : (decide (k < -(2 ^ 63)) || decide (k ≥ 2 ^ 63)) = false) (h1 : (us.isEmpty || k == 1) = false) (h2 : (decide (k ≤ 0) || us.isEmpty) = true) :
    Meets (Builtin.«tuple.__mul__» ⟨[.ref l, .int k t], []⟩) (fun _ R s => s.heap.get? l = some { cls := .type "tuple", dict := d, data := .seq us n, slots := ss } ∧
      R (.ok (.ret (.ref s.heap.objs.size))) { s with heap := s.heap.push { cls := .type "tuple", data := .seq #[] } }) :=
  .of_wp fun prog w A R s h => by
    obtain ⟨hp, g, dr, tk, os⟩ := s
    obtain ⟨hl, h⟩ := h
    have f1 := AutoSeq1.idx_int
    wp_walk using wpAny_loadPart' hl
    repeat (first
      | (refine wpAny_ite_false (decide_eq_false (by rw [h0]; exact Bool.false_ne_true)) ?_; wp_walk using wpAny_loadPart' hl)
      | (refine wpAny_ite_false (decide_eq_false (by rw [h1]; exact Bool.false_ne_true)) ?_; wp_walk using wpAny_loadPart' hl)
      | (refine wpAny_ite_true (decide_eq_true (by rw [h2])) ?_; wp_walk using wpAny_loadPart' hl))
    all_goals first | exact ⟨_, rfl, h⟩ | skip
/-- t * k, for any k that is not great -/
def rRepAny (K : PySem.W.Frag) : R2 := fun x y H Q => ∃ l k xs, x = .ref l ∧ y = .int k ∧ SqT K H l xs ∧ k.natAbs ≤ 1000 ∧ xs.length * k.natAbs ≤ 1000000 ∧
  ((xs = [] ∨ k = 1) → Q (.ref l) H) ∧ (¬(xs = [] ∨ k = 1) → newF H Q (List.replicate k.toNat xs).flatten)
section
variable {X : Cx}
theorem op_repAny : OpR X (binaryOp .Mult) (rRepAny X.K) := by
  intro pins s σ H x y v u Q I rx ry h
  obtain ⟨l, k, xs, rfl, rfl, hT, hk, hz, q1, q2⟩ := h
  by_cases hc : xs = [] ∨ k = 1 ∨ k ≤ 0
  · cases rx
    obtain ⟨t, rfl⟩ := ry
    obtain ⟨us, r, ⟨⟨cls, d, dt, sl⟩, ho, hcl, n, hd⟩, hs⟩ := I.tuple hT
    simp only at hcl hd
    subst hcl hd
    have le : us.length = xs.length := r.length.symm
    have e0 : (decide (k < -(2 ^ 63)) || decide (k ≥ 2 ^ 63)) = false := by
      rw [decide_eq_false (by omega), decide_eq_false (by omega)] <;> rfl
    have ie : us.toArray.isEmpty = decide (xs = []) := by
      cases us with
      | nil => cases xs with
        | nil => rfl
        | cons _ _ => simp at le
      | cons _ _ => cases xs with
        | nil => simp at le
        | cons _ _ => rfl
    by_cases hsame : xs = [] ∨ k = 1
    · have e1 : (us.toArray.isEmpty || k == 1) = true := by
        rw [ie]
        rcases hsame with h | h <;> simp [h]
      refine wpAny_binaryOp_repeat_ref (T := "tuple") (U := "int") (by decide) ⟨_, ho, rfl⟩ (fun s' => typeIs_int s' k t) noFill_tuple_mul F.fills_int_mul F.slot_int_rmul repeat_tuple F.slot_int_index.lookup
        (call_meets F.slot_int_rmul (typeIs_int s k t) F.entry_int_rmul (F.args_int_rmul_2 _ _) (int_rmul_tuple k t l us.toArray n d sl)
          ⟨ho, rfl, ⟨_, ho, rfl⟩, call_meets F.slot_tuple_mul ⟨_, ho, rfl⟩ F.entry_tuple_mul (F.args_tuple_mul_2 _ _) (tmulSame l us.toArray n d sl k t e0 e1) ⟨ho, ?_⟩⟩)
      exact ⟨.ref l, H, I, rfl, q1 hsame⟩
    · have k0 : k ≤ 0 := by
        rcases hc with h | h | h
        · exact absurd (.inl h) hsame
        · exact absurd (.inr h) hsame
        · exact h
      have nx : xs ≠ [] := fun h => hsame (.inl h)
      have e1 : (us.toArray.isEmpty || k == 1) = false := by
        rw [ie, decide_eq_false nx, Bool.false_or]
        exact beq_eq_false_iff_ne.mpr (by omega)
      have e2 : (decide (k ≤ 0) || us.toArray.isEmpty) = true := by
        rw [decide_eq_true k0]; rfl
      have ez : (List.replicate k.toNat xs).flatten = [] := by
        rw [show k.toNat = 0 by omega]; rfl
      have q3 := q2 hsame
      rw [ez] at q3
      refine wpAny_binaryOp_repeat_ref (T := "tuple") (U := "int") (by decide) ⟨_, ho, rfl⟩ (fun s' => typeIs_int s' k t) noFill_tuple_mul F.fills_int_mul F.slot_int_rmul repeat_tuple F.slot_int_index.lookup
        (call_meets F.slot_int_rmul (typeIs_int s k t) F.entry_int_rmul (F.args_int_rmul_2 _ _) (int_rmul_tuple k t l us.toArray n d sl)
          ⟨ho, rfl, ⟨_, ho, rfl⟩, call_meets F.slot_tuple_mul ⟨_, ho, rfl⟩ F.entry_tuple_mul (F.args_tuple_mul_2 _ _) (tmulNone l us.toArray n d sl k t e0 e1 e2) ⟨ho, ?_⟩⟩)
      exact lay_F (us := []) I .nil (by simp) q3
  · have h1 : 2 ≤ k := by
      have : k ≠ 1 := fun h => hc (.inr (.inl h))
      have : ¬ k ≤ 0 := fun h => hc (.inr (.inr h))
      omega
    have nx : xs ≠ [] := fun h => hc (.inl h)
    cases rx
    obtain ⟨t, rfl⟩ := ry
    obtain ⟨us, r, ⟨⟨cls, d, dt, sl⟩, ho, hcl, n, hd⟩, hs⟩ := I.tuple hT
    simp only at hcl hd
    subst hcl hd
    have le : us.length = xs.length := r.length.symm
    have ie : us.toArray.isEmpty = false := by
      cases us with
      | nil => cases xs with
        | nil => exact absurd rfl nx
        | cons _ _ => simp at le
      | cons _ _ => rfl
    have z0 : us.toArray.size = xs.length := by rw [List.size_toArray, le]
    have hm : ((us.toArray.size : Nat) : Int) * k ≤ 1000000 := by
      rw [z0]
      have e : ((xs.length * k.natAbs : Nat) : Int) = (xs.length : Int) * k := by
        rw [Int.natCast_mul, show ((k.natAbs : Nat) : Int) = k by omega]
      omega
    have fl : (List.replicate k.toNat us).flatten.length ≤ sizeLine := by
      rw [PyProof.Rows.lm_len_rep_flat, le, sizeLine_eq]
      rw [show k.toNat = k.natAbs by omega, Nat.mul_comm]
      omega
    have e0 : (decide (k < -(2 ^ 63)) || decide (k ≥ 2 ^ 63)) = false := by
      rw [decide_eq_false (by omega), decide_eq_false (by omega)] <;> rfl
    have e1 : (us.toArray.isEmpty || k == 1) = false := by
      rw [ie, Bool.false_or]
      exact beq_eq_false_iff_ne.mpr (by omega)
    have e2 : (decide (k ≤ 0) || us.toArray.isEmpty) = false := by
      rw [ie, Bool.or_false]
      exact decide_eq_false (by omega)
    have e4 : Builtin.Tuple.tupleTooMany (((us.toArray.size : Nat) : Int) * k) = false := by
      unfold Builtin.Tuple.tupleTooMany
      rw [sizeLine_eq]
      exact decide_eq_false (by omega)
    refine wpAny_binaryOp_repeat_ref (T := "tuple") (U := "int") (by decide) ⟨_, ho, rfl⟩ (fun s' => typeIs_int s' k t) noFill_tuple_mul F.fills_int_mul F.slot_int_rmul repeat_tuple F.slot_int_index.lookup
      (call_meets F.slot_int_rmul (typeIs_int s k t) F.entry_int_rmul (F.args_int_rmul_2 _ _) (int_rmul_tuple k t l us.toArray n d sl)
        ⟨ho, rfl, ⟨_, ho, rfl⟩, call_meets F.slot_tuple_mul ⟨_, ho, rfl⟩ F.entry_tuple_mul (F.args_tuple_mul_2 _ _) (tuple_mulW l us.toArray n d sl k t e0 e1 e2 (by omega) e4 (by rw [size_rep, List.size_toArray]; exact fl)) ⟨ho, ?_⟩⟩)
    rw [size_rep]
    refine lay_F I (r.rep k.toNat) (by rw [PyProof.Rows.lm_len_rep_flat, sizeLine_eq, show k.toNat = k.natAbs by omega, Nat.mul_comm]; omega) (q2 fun h => ?_)
    rcases h with h | h
    · exact hc (.inl h)
    · exact hc (.inr (.inl h))
end
end DN
set_option Elab.async false
set_option linter.all false
set_option maxRecDepth 100000
set_option maxHeartbeats 4000000
set_option autoImplicit false
namespace DN
open PySem PySem.Spec PyProof.Rows L2 HT
theorem revPlaces (n : Nat) : Builtin.Slice.sliceAdjust none none (-1) (n : Int) = ((n : Int) - 1, -1) ∧ Builtin.Slice.slicePlaces ((n : Int) - 1) (-1) (-1) = n := by
  constructor
  · rfl
  · unfold Builtin.Slice.slicePlaces
    rw [if_neg (by decide)]
    by_cases h : (n : Int) - 1 > -1
    · rw [if_pos h, show (- -1 : Int) = 1 by decide, Int.ediv_one]; omega
    · rw [if_neg h]; omega
theorem revPick (us : Array Value) : ((List.range us.size).filterMap fun (k : Nat) => us[(((us.size : Int) - 1) + (k : Int) * (-1)).toNat]?).toArray = us.toList.reverse.toArray := by
  congr 1
  have e : (fun (k : Nat) => us[(((us.size : Int) - 1) + (k : Int) * (-1)).toNat]?) = (fun (k : Nat) => us[(((us.size : Int) - 1) - (k : Int)).toNat]?) := by
    funext k
    congr 2
    omega
  rw [e]
  apply List.ext_getElem?
  intro i
  have key : ∀ (m : Nat), m ≤ us.size → (List.range m).filterMap (fun (k : Nat) => us[(((us.size : Int) - 1) - (k : Int)).toNat]?) = us.toList.reverse.take m := by
    intro m
    induction m with
    | zero => intro _; rfl
    | succ m ih =>
      intro hm
      rw [List.range_succ, List.filterMap_append, ih (by omega), List.take_add_one]
      congr 1
      have h1 : (((us.size : Int) - 1) - (m : Int)).toNat = us.size - 1 - m := by omega
      have h2 : us.size - 1 - m < us.size := by omega
      have h3 : m < us.toList.reverse.length := by simp; omega
      simp only [List.filterMap_cons, List.filterMap_nil]
      rw [h1, Array.getElem?_eq_getElem h2, List.getElem?_eq_getElem h3]
      simp [List.getElem_reverse]
  rw [key us.size (Nat.le_refl _)]
  rw [List.take_of_length_le (by simp)]
section
variable {prog : Program} {w : World} {A : Around} {E : Value → Shared → Prop} {s : Shared}
theorem item_tup_rev {t sl : Addr} {us : Array Value} {vl vu vs : Value} {Q : Value → Shared → Prop} (ht : IsTup s.heap t us) (hs : s.heap.IsSliceOf sl vl vu vs) (pl : IsPart vl none) (pu : IsPart vu none) (ps : IsPart vs (some (-1)))
    (h : Q (.ref s.heap.objs.size) { s with heap := s.heap.push { cls := .type "tuple", data := .seq us.toList.reverse.toArray } })
    (hz : us.size ≤ sizeLine) : wpAny (model prog w) A (getItem (.ref t) (.ref sl)) Q E s := by
  obtain ⟨os, hos, hcs, hds⟩ := id hs
  have tS : s.TypeIs (.ref sl) "slice" := ⟨os, hos, hcs⟩
  unfold getItem
  try with_reducible refine wpAny_holding ?_
  first | refine wpAny_bind (wpAny_pure ?_) | skip
  refine wpAny_bind (wpAny_sequenceKey ht.typeIs (by decide) ?_)
  refine wpAny_bind (wpAny_callSpecial?_slot (name := Str.ofString "__getitem__") ht.typeIs PyProof.Rows.slot_tuple_getitem (wpAny_call_entry PyProof.Rows.slot_tuple_getitem ht.typeIs entry_tuple_getitem ?_ (args_tuple_getitem _ _)))
  show wpAny _ _ (Builtin.Tuple.tupleItemsOf (.ref t) >>= _) _ _ s
  refine wpAny_bind (tupleItemsOf_ ht ?_)
  refine wpAny_bind (wpAny_typeOf tS ?_)
  rw [if_pos (by decide)]
  have ap : ∀ {R : Int × Int × Nat → Shared → Prop} {E' : Value → Shared → Prop} {A' : Around}, R (((us.size : Int) - 1), -1, us.size) s → wpAny (model prog w) A' (Builtin.Slice.sliceApplied (.ref sl) (pure (us.size : Int))) R E' s := by
    intro R E' A' hR
    unfold Builtin.Slice.sliceApplied Builtin.Slice.sliceFields
    refine wpAny_bind (wpAny_bind (wpAny_field hos hds (x := vl) rfl (wpAny_bind (wpAny_field hos hds (x := vu) rfl (wpAny_bind (wpAny_field hos hds (x := vs) rfl (wpAny_pure ?_)))))))
    refine wpAny_bind (slicePart_ ps ?_)
    show wpAny _ _ (if ((-1 : Int) == 0) = true then _ else _) _ _ s
    rw [if_neg (by decide)]
    refine wpAny_bind (slicePart_ pl (wpAny_bind (slicePart_ pu (wpAny_bind (wpAny_pure ?_)))))
    obtain ⟨z1, z2⟩ := revPlaces us.size
    show wpAny _ _ (match Builtin.Slice.sliceAdjust none none (-1) (us.size : Int) with | (lo, hi) => pure (lo, (-1 : Int), Builtin.Slice.slicePlaces lo hi (-1))) _ _ s
    rw [z1]
    show wpAny _ _ (pure (((us.size : Int) - 1), (-1 : Int), Builtin.Slice.slicePlaces ((us.size : Int) - 1) (-1) (-1))) _ _ s
    rw [z2]
    exact wpAny_pure hR
  refine wpAny_bind (ap ?_)
  have no : ¬ ((((us.size : Int) - 1) == 0 && (-1 : Int) == 1 && us.size == us.size) = true) := by
    intro q
    rw [Bool.and_eq_true, Bool.and_eq_true] at q
    exact absurd (eq_of_beq q.1.2) (by decide)
  show wpAny _ _ (if ((((us.size : Int) - 1) == 0 && (-1 : Int) == 1 && us.size == us.size) = true) then _ else _) _ _ s
  rw [if_neg no, revPick]
  have so : sizeOk (.seq us.toList.reverse.toArray) := by
    show us.toList.reverse.toArray.size ≤ sizeLine
    rw [List.size_toArray, List.length_reverse, Array.length_toList]
    exact hz
  first
    | exact wpAny_bind (m := Builtin.Tuple.tupleExact _) (wpAny_newObj_type (wpAny_pure ⟨_, rfl, wpAny_pure h⟩) so)
    | exact wpAny_bind (m := Builtin.Tuple.tupleExact _) (wpAny_newObj_type (wpAny_bind (wpAny_pure (wpAny_pure ⟨_, rfl, wpAny_pure h⟩))) so)
    | exact wpAny_bind (wpAny_bind (m := Builtin.Tuple.tupleExact _) (wpAny_newObj_type (wpAny_pure (wpAny_pure ⟨_, rfl, wpAny_pure h⟩)) so))
    | exact wpAny_bind (wpAny_bind (m := Builtin.Tuple.tupleExact _) (wpAny_newObj_type (wpAny_pure ⟨_, rfl, wpAny_pure h⟩) so))
end
/-- e[::-1] of a list or of a tuple -/
def tRevA (K : PySem.W.Frag) (te : TE) : TE := fun σ H Q => te σ H fun x H1 => ∃ a xs, x = .ref a ∧
  ((SqL K H1 a xs ∧ ∀ p, H1 p = none → Q (.ref p) (upd H1 p (.lst xs.reverse))) ∨ (SqT K H1 a xs ∧ newF H1 Q xs.reverse))
section
variable {X : Cx}
theorem pe_revA {e : Expr} {te : TE} {k : Nat} {p1 p2 p3 pos : Pos} (he : PE X e te) : PE X (.Subscript e (.Slice none none (some (.UnaryOp .USub (.Constant (.int 1) k p1) p2)) p3) pos) (tRevA X.K te) := by
  refine ⟨fun pins s σ H Q I h => ?_⟩
  refine Subscript_ (thn (he.run pins s σ H _ I h) fun v s1 ⟨x, H1, I1, r1, a, xs, ex, q⟩ => ?_)
  subst ex
  cases r1
  have sp : PO X (some (.UnaryOp .USub (.Constant (.int 1) k p1) p2)) (tPart (tUn (rU fun i => .int (-i)) (tC (.int 1)))) := po_some (pe_un un_neg pe_int)
  refine wpAny_Slice (thn (po_none.run pins s1 σ H1 (fun o H2 => o = none ∧ H2 = H1) I1 ⟨rfl, rfl⟩) fun vl s2 ⟨l, H2, I2, pl, el, e2⟩ => ?_)
  subst el e2
  refine thn (po_none.run pins s2 σ H2 (fun o H3 => o = none ∧ H3 = H2) I2 ⟨rfl, rfl⟩) fun vu s3 ⟨u, H3, I3, pu, eu, e3⟩ => ?_
  subst eu e3
  refine thn (sp.run pins s3 σ H3 (fun o H4 => o = some (-1) ∧ H4 = H3) I3 ⟨1, rfl, -1, rfl, rfl, rfl⟩) fun vs s4 ⟨o, H4, I4, ps, eo, e4⟩ => ?_
  subst eo e4
  have J : Inv X pins σ H4 { s4 with heap := s4.heap.push { cls := .type "slice", data := .fields #[vl, vu, vs] } } := I4.kept (t' := s4.toks) fun b ob q => Heap.get?_push_of_some _ q
  rcases q with ⟨hx, q⟩ | ⟨hx, q⟩
  · obtain ⟨its, r, ht, hz⟩ := J.list hx
    have hl := r.length
    show wpAny (model X.prog X.w) X.A (subscriptTail e (.Slice none none (some (.UnaryOp .USub (.Constant (.int 1) k p1) p2)) p3) (.ref a) (.ref s4.heap.objs.size)) (EP X pins σ Q) X.xe { s4 with heap := s4.heap.push { cls := .type "slice", data := .fields #[vl, vu, vs] } }
    refine tail_any (ops := [.ref a, .ref s4.heap.objs.size]) ht.isList.typeIs (PySem.slot_list_getitem.lookup) ?_ (by with_unfolding_all rfl)
    refine wpAny_getItem_list_slice ht.isList (Heap.IsSliceOf.new _ vl vu vs) pl pu ps (by decide) ?_ (by rw [List.size_toArray]; omega)
    rw [PySem.W.krv_pick]
    exact ⟨.ref _, _, J.laid (t' := s4.toks) (o := .lst xs.reverse) (fun b ob z => Heap.get?_push_of_some _ z) (Nat.le_refl _) ⟨by rw [List.length_reverse]; exact hz, _, 0, r.reverse, Heap.get?_push_size _ rfl⟩, rfl, q _ (J.hok.fresh (Nat.le_refl _))⟩
  · obtain ⟨its, r, ht, hz⟩ := J.tuple hx
    have hl := r.length
    show wpAny (model X.prog X.w) X.A (subscriptTail e (.Slice none none (some (.UnaryOp .USub (.Constant (.int 1) k p1) p2)) p3) (.ref a) (.ref s4.heap.objs.size)) (EP X pins σ Q) X.xe { s4 with heap := s4.heap.push { cls := .type "slice", data := .fields #[vl, vu, vs] } }
    refine tail_any (ops := [.ref a, .ref s4.heap.objs.size]) ht.typeIs (PyProof.Rows.slot_tuple_getitem.lookup) ?_ (by with_unfolding_all rfl)
    refine item_tup_rev ht (Heap.IsSliceOf.new _ vl vu vs) pl pu ps ?_ (by rw [List.size_toArray]; omega)
    exact lay_F (us := its.reverse) J r.reverse (by rw [List.length_reverse]; exact hz) q
end
end DN
set_option Elab.async false
set_option linter.all false
set_option maxRecDepth 100000
set_option maxHeartbeats 4000000
set_option autoImplicit false
namespace DI
open PySem PySem.Spec PyProof.Rows L2
/-- what is fixed through a law: the written part, where the classes stand, the fields' names, the exception in hand -/
structure Tb where
  K : PySem.W.Frag
  cl : Nat → Addr
  fn : Nat → Str
  xa : Option (Addr × Nat × Addr)
  hv : Nat → Value
abbrev txS (s : Tx) : Str := ⟨s.toArray⟩
/-- a text as the machine holds it -/
def TxOk (s : Tx) : Prop := PyData.strOk (txS s) = true ∧ s.length ≤ sizeLine
/-- an object of the heap that has no dict of its own -/
def PlT (K : PySem.W.Frag) (G : Hp) (a : Addr) : Prop := ∃ o : Obj, o.dict = none ∧ ((∃ u, G a = some (.frz o u)) ∨ K.lookup a = some o)
/-- .. or what enumerate yields -/
def Pq (K : PySem.W.Frag) (G : Hp) (a : Addr) (ds : List D) : Prop := PlT K G a ∨ ∃ i d, ds = [.int i, d]
mutual
inductive Rp (T : Tb) (G : Hp) (μ : List Addr) : V → D → Prop
  | non : Rp T G μ .non .non
  | bl (b : Bool) : Rp T G μ (.bl b) (.bl b)
  | int (i : Int) : Rp T G μ (.int i) (.int i)
  | str (s : Tx) : TxOk s → Rp T G μ (.str (txS s)) (.str s)
  | tup {a : Addr} {vs : List V} {ds : List D} : SqT T.K G a vs → RpL T G μ vs ds → Pq T.K G a ds → Rp T G μ (.ref a) (.tup ds)
  | lst {a : Addr} {vs : List V} {ds : List D} : G a = some (.lst vs) → RpL T G μ vs ds → Rp T G μ (.ref a) (.lst ds)
  | ro {a : Addr} {vs : List V} {ds : List D} : SqL T.K G a vs → RpL T G μ vs ds → Rp T G μ (.ref a) (.ro ds)
  | loc {a : Addr} {i : Nat} : μ[i]? = some a → Rp T G μ (.ref a) (.loc i)
  | exc {a : Addr} {c : Nat} {fs : List (Nat × D)} {d : Addr} {fv : List (Str × V)} : T.xa = some (a, c, d) → G d = some (.xd fv) → RpF T G μ fv fs → Rp T G μ (.ref a) (.exc c fs)
inductive RpL (T : Tb) (G : Hp) (μ : List Addr) : List V → List D → Prop
  | nil : RpL T G μ [] []
  | cons {v : V} {vs : List V} {d : D} {ds : List D} : Rp T G μ v d → RpL T G μ vs ds → RpL T G μ (v :: vs) (d :: ds)
inductive RpF (T : Tb) (G : Hp) (μ : List Addr) : List (Str × V) → List (Nat × D) → Prop
  | nil : RpF T G μ [] []
  | cons {f : Str} {v : V} {fv : List (Str × V)} {i : Nat} {d : D} {fs : List (Nat × D)} : T.fn i = f → Rp T G μ v d → RpF T G μ fv fs → RpF T G μ ((f, v) :: fv) ((i, d) :: fs)
end
/-- what is known grows -/
structure Gm (G : Hp) (μ : List Addr) (G' : Hp) (μ' : List Addr) : Prop where
  g : ∀ a o, G a = some o → G' a = some o
  m : ∀ (i : Nat) (a : Addr), μ[i]? = some a → μ'[i]? = some a
/-- .. and what is neither known nor numbered stands as it stood -/
structure Gx (G : Hp) (μ : List Addr) (H : Hp) (G' : Hp) (μ' : List Addr) (H' : Hp) : Prop extends Gm G μ G' μ' where
  fr : ∀ a o, H a = some o → (∀ i : Nat, μ[i]? ≠ some a) → H' a = some o
  kp : ∀ a o, H a = some o → ∃ u, H' a = some u
  ng : ∀ a o, G' a = some o → G a = some o ∨ H a = none
  nm : ∀ (i : Nat) (a : Addr), μ'[i]? = some a → μ[i]? = some a ∨ H a = none
theorem Gx.refl {G : Hp} {μ : List Addr} {H : Hp} : Gx G μ H G μ H := ⟨⟨fun _ _ h => h, fun _ _ h => h⟩, fun _ _ h _ => h, fun _ o h => ⟨o, h⟩, fun _ _ h => .inl h, fun _ _ h => .inl h⟩
theorem Gx.trans {G1 G2 G3 : Hp} {m1 m2 m3 : List Addr} {H1 H2 H3 : Hp} (a : Gx G1 m1 H1 G2 m2 H2) (b : Gx G2 m2 H2 G3 m3 H3) : Gx G1 m1 H1 G3 m3 H3 := by
  have n0 : ∀ x, H2 x = none → H1 x = none := fun x h => by
    cases q : H1 x with
    | none => rfl
    | some o =>
      obtain ⟨u, hu⟩ := a.kp x o q
      rw [hu] at h
      cases h
  refine ⟨⟨fun x o h => b.g x o (a.g x o h), fun i x h => b.m i x (a.m i x h)⟩, fun x o h hn => b.fr x o (a.fr x o h hn) fun i z => ?_, fun x o h => ?_, fun x o h => ?_, fun i x h => ?_⟩
  · rcases a.nm i x z with z | z
    · exact hn i z
    · rw [z] at h; cases h
  · obtain ⟨u, hu⟩ := a.kp x o h
    exact b.kp x u hu
  · rcases b.ng x o h with z | z
    · exact a.ng x o z
    · exact .inr (n0 x z)
  · rcases b.nm i x h with z | z
    · exact a.nm i x z
    · exact .inr (n0 x z)
theorem pq_mono {K : PySem.W.Frag} {G G' : Hp} {a : Addr} {ds : List D} (e : ∀ a o, G a = some o → G' a = some o) (h : Pq K G a ds) : Pq K G' a ds := by
  rcases h with ⟨o, od, ⟨u, h⟩ | h⟩ | h
  · exact .inl ⟨o, od, .inl ⟨u, e _ _ h⟩⟩
  · exact .inl ⟨o, od, .inr h⟩
  · exact .inr h
theorem pq_new {K : PySem.W.Frag} {G : Hp} {p : Addr} {o : Obj} {xs : List V} {ds : List D} (h : o.dict = none) : Pq K (upd G p (.frz o (.tup xs))) p ds := .inl ⟨o, h, .inl ⟨_, upd_same⟩⟩
theorem sqt_new {K : PySem.W.Frag} {G : Hp} {p : Addr} {o : Obj} {xs : List V} : SqT K (upd G p (.frz o (.tup xs))) p xs := .inl (.inr ⟨o, upd_same⟩)
theorem sqt_mono {K : PySem.W.Frag} {G G' : Hp} {a : Addr} {xs : List V} (e : ∀ a o, G a = some o → G' a = some o) (h : SqT K G a xs) : SqT K G' a xs := by
  rcases h with (h | ⟨o, h⟩) | h
  · exact .inl (.inl (e _ _ h))
  · exact .inl (.inr ⟨o, e _ _ h⟩)
  · exact .inr h
theorem sql_mono {K : PySem.W.Frag} {G G' : Hp} {a : Addr} {xs : List V} (e : ∀ a o, G a = some o → G' a = some o) (h : SqL K G a xs) : SqL K G' a xs := by
  rcases h with (h | ⟨o, h⟩) | h
  · exact .inl (.inl (e _ _ h))
  · exact .inl (.inr ⟨o, e _ _ h⟩)
  · exact .inr h
section
variable {T : Tb} {G G' : Hp} {μ μ' : List Addr}
mutual
theorem Rp.mono (e : Gm G μ G' μ') : ∀ {v : V} {d : D}, Rp T G μ v d → Rp T G' μ' v d
  | _, _, .non => .non
  | _, _, .bl b => .bl b
  | _, _, .int i => .int i
  | _, _, .str s h => .str s h
  | _, _, .tup h r k => .tup (sqt_mono e.g h) (RpL.mono e r) (pq_mono e.g k)
  | _, _, .lst h r => .lst (e.g _ _ h) (RpL.mono e r)
  | _, _, .ro h r => .ro (sql_mono e.g h) (RpL.mono e r)
  | _, _, .loc h => .loc (e.m _ _ h)
  | _, _, .exc h1 h2 r => .exc h1 (e.g _ _ h2) (RpF.mono e r)
theorem RpL.mono (e : Gm G μ G' μ') : ∀ {vs : List V} {ds : List D}, RpL T G μ vs ds → RpL T G' μ' vs ds
  | _, _, .nil => .nil
  | _, _, .cons r t => .cons (Rp.mono e r) (RpL.mono e t)
theorem RpF.mono (e : Gm G μ G' μ') : ∀ {vs : List (Str × V)} {ds : List (Nat × D)}, RpF T G μ vs ds → RpF T G' μ' vs ds
  | _, _, .nil => .nil
  | _, _, .cons h r t => .cons h (Rp.mono e r) (RpF.mono e t)
end
theorem RpL.len : ∀ {vs : List V} {ds : List D}, RpL T G μ vs ds → vs.length = ds.length
  | _, _, .nil => rfl
  | _, _, .cons _ t => congrArg Nat.succ t.len
theorem RpL.get : ∀ {vs : List V} {ds : List D} {i : Nat} {d : D}, RpL T G μ vs ds → ds[i]? = some d → ∃ v, vs[i]? = some v ∧ Rp T G μ v d
  | _, _, _, _, .nil, e => by simp at e
  | _, _, 0, _, .cons r _, e => by simp at e; subst e; exact ⟨_, rfl, r⟩
  | _, _, i + 1, x, .cons _ t, e => by
    obtain ⟨u, h1, h2⟩ := RpL.get (i := i) (d := x) t (by simpa using e)
    exact ⟨u, by simpa using h1, h2⟩
theorem RpL.app : ∀ {vs ws : List V} {ds es : List D}, RpL T G μ vs ds → RpL T G μ ws es → RpL T G μ (vs ++ ws) (ds ++ es)
  | _, _, _, _, .nil, s => s
  | _, _, _, _, .cons r t, s => .cons r (t.app s)
theorem RpL.take : ∀ {vs : List V} {ds : List D} (n : Nat), RpL T G μ vs ds → RpL T G μ (vs.take n) (ds.take n)
  | _, _, 0, _ => .nil
  | _, _, _ + 1, .nil => .nil
  | _, _, n + 1, .cons r t => .cons r (t.take n)
theorem RpL.drop : ∀ {vs : List V} {ds : List D} (n : Nat), RpL T G μ vs ds → RpL T G μ (vs.drop n) (ds.drop n)
  | _, _, 0, r => r
  | _, _, _ + 1, .nil => .nil
  | _, _, n + 1, .cons _ t => t.drop n
theorem RpL.set {v : V} {d : D} (q : Rp T G μ v d) : ∀ {vs : List V} {ds : List D} (i : Nat), RpL T G μ vs ds → RpL T G μ (vs.set i v) (ds.set i d)
  | _, _, _, .nil => .nil
  | _, _, 0, .cons _ t => .cons q t
  | _, _, i + 1, .cons r t => .cons r (RpL.set q i t)
theorem RpL.erase : ∀ {vs : List V} {ds : List D} (i : Nat), RpL T G μ vs ds → RpL T G μ (vs.eraseIdx i) (ds.eraseIdx i)
  | _, _, _, .nil => .nil
  | _, _, 0, .cons _ t => t
  | _, _, i + 1, .cons r t => .cons r (RpL.erase i t)
theorem RpL.dropLast {vs : List V} {ds : List D} (h : RpL T G μ vs ds) : RpL T G μ vs.dropLast ds.dropLast := by
  rw [List.dropLast_eq_take, List.dropLast_eq_take, h.len]
  exact h.take _
theorem RpL.reverse : ∀ {vs : List V} {ds : List D}, RpL T G μ vs ds → RpL T G μ vs.reverse ds.reverse
  | _, _, .nil => .nil
  | _, _, .cons r t => by
    rw [List.reverse_cons, List.reverse_cons]
    exact t.reverse.app (.cons r .nil)
theorem RpL.ofInts : ∀ (ns : List Int), RpL T G μ (ns.map V.int) (ns.map D.int)
  | [] => .nil
  | n :: r => .cons (.int n) (RpL.ofInts r)
theorem RpL.ints : ∀ {vs : List V} {ds : List D} {ns : List Int}, RpL T G μ vs ds → intsOf ds = some ns → vs = ns.map V.int
  | _, _, _, .nil, e => by cases e; rfl
  | _, _, _, .cons r t, e => by
    cases r with
    | int i =>
      simp only [intsOf, Option.map_eq_some_iff] at e
      obtain ⟨ms, e1, rfl⟩ := e
      rw [List.map_cons, t.ints e1]
    | _ => cases e
end
/-! ### the heap and the store -/
/-- a dict's entries -/
abbrev RpK (T : Tb) (G : Hp) (μ : List Addr) : List (Key × V) → List (D × D) → Prop := Paired fun p q => Rp T G μ (kV p.1) q.1 ∧ Rp T G μ p.2 q.2
theorem RpK.mono {T : Tb} {G G' : Hp} {μ μ' : List Addr} (e : Gm G μ G' μ') {kv : List (Key × V)} {kvs : List (D × D)} (r : RpK T G μ kv kvs) : RpK T G' μ' kv kvs := by
  unfold RpK at *
  induction r with
  | nil => exact .nil
  | cons h t ih => exact .cons ⟨h.1.mono e, h.2.mono e⟩ ih
inductive ObR (T : Tb) (G : Hp) (μ : List Addr) (H : Hp) (a : Addr) : Ob → Prop
  | lst {vs : List V} {ds : List D} : H a = some (.lst vs) → RpL T G μ vs ds → ObR T G μ H a (.lst ds)
  | dct {kv : List (Key × V)} {kvs : List (D × D)} : H a = some (.dK kv) → RpK T G μ kv kvs → ObR T G μ H a (.dct kvs)
theorem ObR.mono {T : Tb} {G G' : Hp} {μ μ' : List Addr} {H : Hp} {a : Addr} {ob : Ob} (e : Gm G μ G' μ') (r : ObR T G μ H a ob) : ObR T G' μ' H a ob := by
  cases r with
  | lst h r => exact .lst h (r.mono e)
  | dct h r => exact .dct h (RpK.mono e r)
theorem ObR.here {T : Tb} {G : Hp} {μ : List Addr} {H H' : Hp} {a : Addr} {ob : Ob} (r : ObR T G μ H a ob) (e : H' a = H a) : ObR T G μ H' a ob := by
  cases r with
  | lst h r => exact .lst (e.trans h) r
  | dct h r => exact .dct (e.trans h) r
theorem ObR.there {T : Tb} {G : Hp} {μ : List Addr} {H : Hp} {a : Addr} {ob : Ob} (r : ObR T G μ H a ob) : ∃ o, H a = some o := by
  cases r with
  | lst h r => exact ⟨_, h⟩
  | dct h r => exact ⟨_, h⟩
theorem ObR.ne {T : Tb} {G : Hp} {μ : List Addr} {H : Hp} {a p : Addr} {ob : Ob} (r : ObR T G μ H a ob) (hp : H p = none) : a ≠ p := by
  obtain ⟨o, h⟩ := r.there
  exact ne_of_none h hp
structure Hr (T : Tb) (G : Hp) (μ : List Addr) (st : Sto) (H : Hp) : Prop where
  sub : ∀ a o, G a = some o → H a = some o
  len : μ.length = st.length
  obj : ∀ (i : Nat) (a : Addr), μ[i]? = some a → G a = none ∧ ∃ o, st[i]? = some o ∧ ObR T G μ H a o
  nd : ∀ (i j : Nat) (a : Addr), μ[i]? = some a → μ[j]? = some a → i = j
structure Er (T : Tb) (G : Hp) (μ : List Addr) (ρ : Env) (σ : L2.St) : Prop where
  len : σ.length = ρ.length
  at_ : ∀ (i : Nat) (d : D), ρ[i]? = some (some d) → ∃ v, σ[i]? = some (some v) ∧ Rp T G μ v d
section
variable {T : Tb} {G G' : Hp} {μ μ' : List Addr} {st : Sto} {H : Hp} {ρ : Env} {σ : L2.St}
theorem Er.mono (e : Gm G μ G' μ') (h : Er T G μ ρ σ) : Er T G' μ' ρ σ := ⟨h.len, fun i d q => by
  obtain ⟨v, h1, h2⟩ := h.at_ i d q
  exact ⟨v, h1, h2.mono e⟩⟩
theorem Er.set {v : V} {d : D} (h : Er T G μ ρ σ) (r : Rp T G μ v d) (i : Nat) : Er T G μ (ρ.set i (some d)) (σ.set i (some v)) := ⟨by simp [h.len], fun j x q => by
  by_cases e : i = j
  · subst e
    by_cases hi : i < ρ.length
    · rw [List.getElem?_set_self hi] at q
      cases q
      exact ⟨v, by rw [List.getElem?_set_self (by rw [h.len]; exact hi)], r⟩
    · rw [List.getElem?_eq_none (by simpa using hi)] at q
      cases q
  · rw [List.getElem?_set_ne e] at q
    obtain ⟨u, h1, h2⟩ := h.at_ j x q
    exact ⟨u, by rw [List.getElem?_set_ne e]; exact h1, h2⟩⟩
theorem Er.unset (h : Er T G μ ρ σ) (i : Nat) : Er T G μ (ρ.set i none) (σ.set i none) := ⟨by simp [h.len], fun j x q => by
  by_cases e : i = j
  · subst e
    by_cases hi : i < ρ.length
    · rw [List.getElem?_set_self hi] at q
      cases q
    · rw [List.getElem?_eq_none (by simpa using hi)] at q
      cases q
  · rw [List.getElem?_set_ne e] at q
    obtain ⟨u, h1, h2⟩ := h.at_ j x q
    exact ⟨u, by rw [List.getElem?_set_ne e]; exact h1, h2⟩⟩
theorem Er.wipe (h : Er T G μ ρ σ) : ∀ vs : List Nat, Er T G μ (wipeD ρ vs) (wipe σ vs)
  | [] => h
  | v :: vs => (Er.wipe h vs).unset v
/-- a new thing that is not to change: known -/
theorem Hr.known {p : Addr} {o : HO} (h : Hr T G μ st H) (hp : H p = none) : Hr T (upd G p o) μ st (upd H p o) ∧ Gx G μ H (upd G p o) μ (upd H p o) := by
  have gp : G p = none := by
    cases q : G p with
    | none => rfl
    | some u => rw [h.sub p u q] at hp; cases hp
  have e : Gx G μ H (upd G p o) μ (upd H p o) := by
    refine ⟨⟨fun a u q => by rw [upd_ne (ne_of_none q gp)]; exact q, fun _ _ q => q⟩, fun a u q _ => by rw [upd_ne (ne_of_none q hp)]; exact q, fun a u q => ⟨u, by rw [upd_ne (ne_of_none q hp)]; exact q⟩, fun a u q => ?_, fun _ _ q => .inl q⟩
    by_cases ha : a = p
    · subst ha; exact .inr hp
    · rw [upd_ne ha] at q; exact .inl q
  refine ⟨⟨fun a u q => ?_, h.len, fun i a q => ?_, h.nd⟩, e⟩
  · by_cases ha : a = p
    · subst ha; rw [upd_same] at q ⊢; exact q
    · rw [upd_ne ha] at q ⊢; exact h.sub a u q
  · obtain ⟨h1, ob, h2, h3⟩ := h.obj i a q
    have ne := h3.ne hp
    exact ⟨by rw [upd_ne ne]; exact h1, _, h2, (h3.here (upd_ne ne)).mono e.1⟩
/-- a new thing that may change: numbered -/
theorem Hr.laidO {p : Addr} {o : HO} {ob : Ob} (h : Hr T G μ st H) (hp : H p = none) (r : ObR T G μ (upd H p o) p ob) : Hr T G (μ ++ [p]) (st ++ [ob]) (upd H p o) ∧ Gx G μ H G (μ ++ [p]) (upd H p o) := by
  have gp : G p = none := by
    cases q : G p with
    | none => rfl
    | some u => rw [h.sub p u q] at hp; cases hp
  have np : ∀ (i : Nat) (a : Addr), μ[i]? = some a → a ≠ p := fun i a q => by
    obtain ⟨_, ob, _, h3⟩ := h.obj i a q
    exact h3.ne hp
  have split : ∀ (i : Nat) (a : Addr), (μ ++ [p])[i]? = some a → μ[i]? = some a ∨ (i = μ.length ∧ a = p) := fun i a q => by
    by_cases hi : i < μ.length
    · rw [List.getElem?_append_left hi] at q; exact .inl q
    · rw [List.getElem?_append_right (by omega)] at q
      have h0 : i - μ.length = 0 := by
        have := (List.getElem?_eq_some_iff.mp q).1
        simp at this; omega
      rw [h0] at q
      simp at q
      exact .inr ⟨by omega, q.symm⟩
  have e : Gx G μ H G (μ ++ [p]) (upd H p o) := by
    refine ⟨⟨fun _ _ q => q, fun i a q => by rw [List.getElem?_append_left (List.getElem?_eq_some_iff.mp q).1]; exact q⟩, fun a u q _ => by rw [upd_ne (ne_of_none q hp)]; exact q, fun a u q => ⟨u, by rw [upd_ne (ne_of_none q hp)]; exact q⟩, fun a u q => .inl q, fun i a q => ?_⟩
    rcases split i a q with q | ⟨_, rfl⟩
    · exact .inl q
    · exact .inr hp
  refine ⟨⟨fun a u q => ?_, by simp [h.len], fun i a q => ?_, fun i j a q1 q2 => ?_⟩, e⟩
  · rw [upd_ne (ne_of_none q gp)]; exact h.sub a u q
  · rcases split i a q with q | ⟨rfl, rfl⟩
    · obtain ⟨h1, ob, h2, h3⟩ := h.obj i a q
      refine ⟨h1, ob, by rw [List.getElem?_append_left (List.getElem?_eq_some_iff.mp h2).1]; exact h2, ?_⟩
      exact (h3.here (upd_ne (np i a q))).mono e.1
    · exact ⟨gp, ob, by rw [h.len]; simp, r.mono e.1⟩
  · rcases split i a q1 with z1 | ⟨e1, z1⟩ <;> rcases split j a q2 with z2 | ⟨e2, z2⟩
    · exact h.nd i j a z1 z2
    · exact absurd z2 (np i a z1)
    · exact absurd z1 (np j a z2)
    · omega
theorem Hr.laid {p : Addr} {vs : List V} {ds : List D} (h : Hr T G μ st H) (hp : H p = none) (r : RpL T G μ vs ds) : Hr T G (μ ++ [p]) (st ++ [.lst ds]) (upd H p (.lst vs)) ∧ Gx G μ H G (μ ++ [p]) (upd H p (.lst vs)) := h.laidO hp (.lst upd_same r)
theorem Gx.put {i : Nat} {a : Addr} {o : HO} (hi : μ[i]? = some a) : Gx G μ H G μ (upd H a o) := by
  refine ⟨⟨fun _ _ q => q, fun _ _ q => q⟩, fun b u q hn => ?_, fun b u q => ?_, fun _ _ q => .inl q, fun _ _ q => .inl q⟩
  · have : b ≠ a := fun z => hn i (z ▸ hi)
    rw [upd_ne this]; exact q
  · by_cases hb : b = a
    · subst hb; exact ⟨o, upd_same⟩
    · exact ⟨u, by rw [upd_ne hb]; exact q⟩
/-- a mutable list is changed -/
theorem Hr.putO {i : Nat} {a : Addr} {o : HO} {ob : Ob} (h : Hr T G μ st H) (hi : μ[i]? = some a) (r : ObR T G μ (upd H a o) a ob) : Hr T G μ (st.set i ob) (upd H a o) := by
  have ga := (h.obj i a hi).1
  refine ⟨fun b u q => ?_, by simp [h.len], fun j b q => ?_, h.nd⟩
  · rw [upd_ne (ne_of_none q ga)]; exact h.sub b u q
  · obtain ⟨h1, ob2, h2, h3⟩ := h.obj j b q
    refine ⟨h1, ?_⟩
    by_cases e : i = j
    · subst e
      have e2 : a = b := Option.some.inj (hi.symm.trans q)
      subst e2
      exact ⟨ob, by rw [List.getElem?_set_self (List.getElem?_eq_some_iff.mp h2).1], r⟩
    · refine ⟨ob2, by rw [List.getElem?_set_ne e]; exact h2, ?_⟩
      have ne : b ≠ a := fun z => e (h.nd i j a hi (z ▸ q))
      exact h3.here (upd_ne ne)
theorem Hr.put {i : Nat} {a : Addr} {vs : List V} {ds : List D} (h : Hr T G μ st H) (hi : μ[i]? = some a) (r : RpL T G μ vs ds) : Hr T G μ (st.set i (.lst ds)) (upd H a (.lst vs)) := h.putO hi (.lst upd_same r)
theorem Hr.atD {i : Nat} {kvs : List (D × D)} {a : Addr} (h : Hr T G μ st H) (hi : μ[i]? = some a) (hs : st[i]? = some (.dct kvs)) : ∃ kv, H a = some (.dK kv) ∧ RpK T G μ kv kvs := by
  obtain ⟨_, ob, h2, h3⟩ := h.obj i a hi
  rw [hs] at h2
  cases h2
  cases h3 with
  | dct h4 r => exact ⟨_, h4, r⟩
theorem Hr.at_ {i : Nat} {ds : List D} {a : Addr} (h : Hr T G μ st H) (hi : μ[i]? = some a) (hs : st[i]? = some (.lst ds)) : ∃ vs, H a = some (.lst vs) ∧ RpL T G μ vs ds := by
  obtain ⟨_, ob, h2, h3⟩ := h.obj i a hi
  rw [hs] at h2
  cases h2
  cases h3 with
  | lst h4 r => exact ⟨_, h4, r⟩
end
/-! ### what is wanted behind a run -/
/-- Rel: how a value of the run shows in the machine -/
def Pr {α β : Type} (T : Tb) (Rel : Hp → List Addr → β → α → Prop) (W : XK) (G : Hp) (μ : List Addr) (H : Hp) (Q : β → Hp → Prop) : R α → Prop
  | .ok a st' => ∀ (G' : Hp) (μ' : List Addr) (H' : Hp) (v : β), Gx G μ H G' μ' H' → Hr T G' μ' st' H' → Rel G' μ' v a → Q v H'
  | .err c fs st' => ∀ (G' : Hp) (μ' : List Addr) (H' : Hp) (d : Addr) (fv : List (Str × V)), Gx G μ H G' μ' H' → Hr T G' μ' st' H' → G' d = some (.xd fv) → RpF T G' μ' fv fs → W (.ref (T.cl c)) (some d) H'
  | .bad => False
section
variable {α β γ δ : Type} {T : Tb} {Rel : Hp → List Addr → β → α → Prop} {Rel' : Hp → List Addr → δ → γ → Prop} {W : XK} {G G' H H' : Hp} {μ μ' : List Addr}
theorem Pr.mono {Q : β → Hp → Prop} {r : R α} (e : Gx G μ H G' μ' H') (h : Pr T Rel W G μ H Q r) : Pr T Rel W G' μ' H' Q r := by
  cases r with
  | ok a st' => exact fun G2 m2 H2 v e2 hr rv => h G2 m2 H2 v (e.trans e2) hr rv
  | err c fs st' => exact fun G2 m2 H2 d fv e2 hr hd rf => h G2 m2 H2 d fv (e.trans e2) hr hd rf
  | bad => exact h
theorem Pr.bind {Q : δ → Hp → Prop} {r : R α} {f : α → Sto → R γ} (h : Pr T Rel' W G μ H Q (r.bind f)) :
    Pr T Rel W G μ H (fun v H' => ∃ G' μ' st' a, Gx G μ H G' μ' H' ∧ Hr T G' μ' st' H' ∧ Rel G' μ' v a ∧ Pr T Rel' W G' μ' H' Q (f a st')) r := by
  cases r with
  | ok a st' => exact fun G2 m2 H2 v e2 hr rv => ⟨G2, m2, st', a, e2, hr, rv, Pr.mono e2 h⟩
  | err c fs st' => exact h
  | bad => exact h
theorem Pr.imp {Q Q' : β → Hp → Prop} {r : R α} (h : Pr T Rel W G μ H Q r) (k : ∀ v H, Q v H → Q' v H) : Pr T Rel W G μ H Q' r := by
  cases r with
  | ok a st' => exact fun G2 m2 H2 v e2 hr rv => k _ _ (h G2 m2 H2 v e2 hr rv)
  | err c fs st' => exact h
  | bad => exact h
theorem Pr.here {Q : β → Hp → Prop} {a : α} {st : Sto} {v : β} (h : Pr T Rel W G μ H Q (.ok a st)) (hr : Hr T G μ st H) (rv : Rel G μ v a) : Q v H := h G μ H v .refl hr rv
theorem Pr.of {Q : β → Hp → Prop} {o : Option α} {st : Sto} (h : Pr T Rel W G μ H Q (R.of o st)) : ∃ a, o = some a ∧ Pr T Rel W G μ H Q (.ok a st) := by
  cases o with
  | none => exact h.elim
  | some a => exact ⟨a, rfl, h⟩
end
/-- a run as a reading -/
def tR {α β : Type} (T : Tb) (Rel : Hp → List Addr → β → α → Prop) (W : L2.St → XK) (f : Env → Sto → R α) : L2.St → Hp → (β → Hp → Prop) → Prop := fun σ H Q =>
  ∃ (G : Hp) (μ : List Addr) (ρ : Env) (st : Sto), Hr T G μ st H ∧ Er T G μ ρ σ ∧ Pr T Rel (W σ) G μ H Q (f ρ st)
abbrev tEx (T : Tb) (W : L2.St → XK) (f : Env → Sto → R D) : TE := tR T (fun G μ v d => Rp T G μ v d) W f
abbrev tBo (T : Tb) (W : L2.St → XK) (f : Env → Sto → R Bool) : TT := tR T (fun _ _ (v : Bool) (b : Bool) => v = b) W f
abbrev tLi (T : Tb) (W : L2.St → XK) (f : Env → Sto → R (List D)) : TA := tR T (fun G μ v d => RpL T G μ v d) W f
theorem tR.bind {α β γ δ : Type} {T : Tb} {Rel : Hp → List Addr → β → α → Prop} {Rel' : Hp → List Addr → δ → γ → Prop} {W : L2.St → XK} {σ : L2.St} {H : Hp} {G : Hp} {μ : List Addr} {ρ : Env} {st : Sto} {Q : δ → Hp → Prop}
    {f : Env → Sto → R α} {g : α → Sto → R γ} (hr : Hr T G μ st H) (er : Er T G μ ρ σ) (h : Pr T Rel' (W σ) G μ H Q ((f ρ st).bind g)) :
    tR T Rel W f σ H fun v H' => ∃ G' μ' st' a, Gx G μ H G' μ' H' ∧ Hr T G' μ' st' H' ∧ Rel G' μ' v a ∧ Pr T Rel' (W σ) G' μ' H' Q (g a st') := ⟨G, μ, ρ, st, hr, er, h.bind⟩
theorem tR.imp {α β : Type} {T : Tb} {Rel : Hp → List Addr → β → α → Prop} {W : L2.St → XK} {f : Env → Sto → R α} {σ : L2.St} {H : Hp} {Q Q' : β → Hp → Prop} (h : tR T Rel W f σ H Q) (k : ∀ v H, Q v H → Q' v H) : tR T Rel W f σ H Q' := by
  obtain ⟨G, μ, ρ, st, hr, er, p⟩ := h
  exact ⟨G, μ, ρ, st, hr, er, p.imp k⟩
/-! ### weaker readings -/
theorem pe_of {X : Cx} {e : Expr} {t t' : TE} (h : PE X e t) (k : ∀ σ H Q, t' σ H Q → t σ H Q) : PE X e t' := ⟨fun pins s σ H Q I q => h.run pins s σ H Q I (k σ H Q q)⟩
theorem pt_of {X : Cx} {e : Expr} {t t' : TT} (h : PT X e t) (k : ∀ σ H Q, t' σ H Q → t σ H Q) : PT X e t' := ⟨fun pins s σ H Q I q => h.run pins s σ H Q I (k σ H Q q)⟩
theorem pa_of {X : Cx} {e : List Expr} {t t' : TA} (h : PA X e t) (k : ∀ σ H Q, t' σ H Q → t σ H Q) : PA X e t' := ⟨fun pos pins s σ H Q I q => h.run pos pins s σ H Q I (k σ H Q q)⟩
theorem ps_of {X : Cx} {e : Stmt} {t t' : TS} (h : PS X e t) (k : ∀ D σ H, t' D σ H → t D σ H) : PS X e t' := ⟨fun pins s σ H D I q => h.run pins s σ H D I (k D σ H q)⟩
theorem pss_of {X : Cx} {e : List Stmt} {t t' : TS} (h : PSs X e t) (k : ∀ D σ H, t' D σ H → t D σ H) : PSs X e t' := ⟨fun pins s σ H D I q => h.run pins s σ H D I (k D σ H q)⟩
end DI
set_option Elab.async false
set_option linter.all false
set_option maxRecDepth 100000
set_option maxHeartbeats 4000000
set_option autoImplicit false
namespace DI
open PySem PySem.Spec PyProof.Rows L2
theorem sz_le {n : Nat} (h : n ≤ SZ) : n ≤ sizeLine := Nat.le_trans h (by decide)
theorem sz_lt {n : Nat} (h : n < SZ) : n < sizeLine := Nat.lt_of_lt_of_le h (by decide)
/-! ### data as the library's data -/
mutual
def D.py : D → PyData
  | .non => .none
  | .bl b => .bool b
  | .int i => .int i
  | .str s => .str (txS s)
  | .tup xs => .tuple (D.pyL xs)
  | .lst xs => .list (D.pyL xs)
  | .ro _ => .dict []
  | .loc _ => .dict []
  | .exc _ _ => .dict []
def D.pyL : List D → List PyData
  | [] => []
  | x :: r => D.py x :: D.pyL r
end
theorem txS_inj (a b : Tx) : (txS a == txS b) = (a == b) := by
  by_cases h : a = b
  · subst h
    simp
  · have h1 : (a == b) = false := by simpa using h
    rw [h1]
    have h2 : txS a ≠ txS b := fun e => h (by
      have := congrArg (fun z : Str => z.cps.toList) e
      simpa [txS] using this)
    simpa using h2
theorem pyL_len : ∀ xs : List D, (D.pyL xs).length = xs.length
  | [] => rfl
  | _ :: r => congrArg Nat.succ (pyL_len r)
mutual
theorem eqv_py : ∀ a b : D, PyData.eqv (D.py a) (D.py b) = D.eqv a b
  | .non, b => by cases b <;> simp [D.py, D.eqv, PyData.eqv]
  | .bl x, b => by cases b <;> simp [D.py, D.eqv, PyData.eqv]
  | .int x, b => by cases b <;> simp [D.py, D.eqv, PyData.eqv]
  | .str x, b => by cases b <;> simp [D.py, D.eqv, PyData.eqv, txS_inj]
  | .tup x, b => by cases b <;> simp [D.py, D.eqv, PyData.eqv, eqvL_py x]
  | .lst x, b => by cases b <;> simp [D.py, D.eqv, PyData.eqv, eqvL_py x]
  | .ro x, b => by cases b <;> simp [D.py, D.eqv, PyData.eqv]
  | .loc x, b => by cases b <;> simp [D.py, D.eqv, PyData.eqv]
  | .exc x f, b => by cases b <;> simp [D.py, D.eqv, PyData.eqv]
theorem eqvL_py : ∀ a b : List D, PyData.eqvAll (D.pyL a) (D.pyL b) = D.eqvL a b
  | [], [] => by simp [D.pyL, D.eqvL, PyData.eqvAll]
  | [], _ :: _ => by simp [D.pyL, D.eqvL, PyData.eqvAll]
  | _ :: _, [] => by simp [D.pyL, D.eqvL, PyData.eqvAll]
  | x :: xs, y :: ys => by simp [D.pyL, D.eqvL, PyData.eqvAll, eqv_py x y, eqvL_py xs ys]
end
mutual
theorem depth_py : ∀ a : D, PyData.depth (D.py a) ≤ D.depth a
  | .non => by simp [D.py, D.depth, PyData.depth]
  | .bl x => by simp [D.py, D.depth, PyData.depth]
  | .int x => by simp [D.py, D.depth, PyData.depth]
  | .str x => by simp [D.py, D.depth, PyData.depth]
  | .tup x => by have := depthL_py x; simp [D.py, D.depth, PyData.depth]; omega
  | .lst x => by have := depthL_py x; simp [D.py, D.depth, PyData.depth]; omega
  | .ro x => by simp [D.py, D.depth, PyData.depth, PyData.depthKv]
  | .loc x => by simp [D.py, D.depth, PyData.depth, PyData.depthKv]
  | .exc x f => by simp [D.py, D.depth, PyData.depth, PyData.depthKv]
theorem depthL_py : ∀ a : List D, PyData.depthAll (D.pyL a) ≤ D.depthL a
  | [] => by simp [D.pyL, D.depthL, PyData.depthAll]
  | x :: r => by have := depth_py x; have := depthL_py r; simp [D.pyL, D.depthL, PyData.depthAll]; omega
end
section
variable {T : Tb} {G : Hp} {μ : List Addr} {st : Sto} {H : Hp}
/-- how a thing that is told whole lies -/
def Lies (K : PySem.W.Frag) (H : Hp) (v : V) (d : D) : Prop := Dp K H v (D.py d) ∧ (D.py d).canLay0 = true
theorem sqt_sub (hr : Hr T G μ st H) {a : Addr} {xs : List V} (h : SqT T.K G a xs) : SqT T.K H a xs := sqt_mono hr.sub h
theorem sql_sub (hr : Hr T G μ st H) {a : Addr} {xs : List V} (h : SqL T.K G a xs) : SqL T.K H a xs := sql_mono hr.sub h
mutual
theorem sub_lies {g : Nat → Option D} (hg : ∀ (i : Nat) (a : Addr) (d : D), μ[i]? = some a → g i = some d → Lies T.K H (.ref a) d) :
    ∀ (d : D) {v : V} {d' : D}, Rp T H μ v d → D.sub g d = some d' → Lies T.K H v d'
  | .non, _, _, r, e => by cases r; cases e; exact ⟨.non, rfl⟩
  | .bl b, _, _, r, e => by cases r; cases e; exact ⟨.bl b, rfl⟩
  | .int i, _, _, r, e => by cases r; cases e; exact ⟨.int i, rfl⟩
  | .str s, _, _, r, e => by
    cases r with
    | str _ h => cases e; exact ⟨.str _, h.1⟩
  | .tup xs, _, _, r, e => by
    cases r with
    | tup h1 h2 h9 =>
      simp only [D.sub, Option.map_eq_some_iff] at e
      obtain ⟨ys, e1, rfl⟩ := e
      obtain ⟨q1, q2⟩ := subL_lies hg xs h2 e1
      exact ⟨.tup h1 q1, q2⟩
  | .lst xs, _, _, r, e => by
    cases r with
    | lst h1 h2 =>
      simp only [D.sub, Option.map_eq_some_iff] at e
      obtain ⟨ys, e1, rfl⟩ := e
      obtain ⟨q1, q2⟩ := subL_lies hg xs h2 e1
      exact ⟨.lst (.inl (.inl h1)) q1, q2⟩
  | .ro xs, _, _, r, e => by
    cases r with
    | ro h1 h2 =>
      simp only [D.sub, Option.map_eq_some_iff] at e
      obtain ⟨ys, e1, rfl⟩ := e
      obtain ⟨q1, q2⟩ := subL_lies hg xs h2 e1
      exact ⟨.lst h1 q1, q2⟩
  | .loc i, _, d', r, e => by
    cases r with
    | loc h => exact hg i _ d' h e
  | .exc _ _, _, _, _, e => by cases e
theorem subL_lies {g : Nat → Option D} (hg : ∀ (i : Nat) (a : Addr) (d : D), μ[i]? = some a → g i = some d → Lies T.K H (.ref a) d) :
    ∀ (ds : List D) {vs : List V} {es : List D}, RpL T H μ vs ds → D.subL g ds = some es → DpAll T.K H vs (D.pyL es) ∧ PyData.canLayAll0 (D.pyL es) = true
  | [], _, _, r, e => by cases r; cases e; exact ⟨.nil, rfl⟩
  | x :: xs, _, es, r, e => by
    cases r with
    | cons r1 r2 =>
      simp only [D.subL] at e
      cases h1 : D.sub g x with
      | none => rw [h1] at e; cases e
      | some y =>
        rw [h1] at e
        simp only at e
        cases h2 : D.subL g xs with
        | none => rw [h2] at e; cases e
        | some ys =>
          rw [h2] at e
          cases e
          obtain ⟨p1, p2⟩ := sub_lies hg x r1 h1
          obtain ⟨q1, q2⟩ := subL_lies hg xs r2 h2
          exact ⟨.cons p1 q1, by simp [D.pyL, PyData.canLayAll0, p2, q2]⟩
end
theorem Hr.toH (hr : Hr T G μ st H) : Gm G μ H μ := ⟨hr.sub, fun _ _ h => h⟩
theorem frz_lies (hr : Hr T G μ st H) : ∀ (f : Nat) {d : D} {v : V} {d' : D}, Rp T H μ v d → frz st 0 f d = some d' → Lies T.K H v d' := by
  intro f
  induction f with
  | zero => exact fun {d v d'} r e => sub_lies (fun i a x _ q => by simp at q) d r e
  | succ f ih =>
    intro d v d' r e
    refine sub_lies (fun i a x hi q => ?_) d r e
    simp only [Nat.not_lt_zero, if_false] at q
    obtain ⟨_, o, ho, hob⟩ := hr.obj i a hi
    rw [ho] at q
    cases hob with
    | @lst vs ds h1 h2 => exact ih (.lst h1 (h2.mono hr.toH)) q
    | dct _ _ => cases q
theorem full_lies (hr : Hr T G μ st H) {d : D} {v : V} {d' : D} (r : Rp T G μ v d) (e : full st d = some d') : Lies T.K H v d' := frz_lies hr 5 (r.mono hr.toH) e
end
/-! ### dicts -/
section
variable {T : Tb} {G : Hp} {μ : List Addr}
theorem key_rp {x : V} {d : D} (h : isKey d = true) (r : Rp T G μ x d) : ∃ k : Key, x = kV k := by
  cases r with
  | int i => exact ⟨.inl i, rfl⟩
  | str s _ => exact ⟨.inr (txS s), rfl⟩
  | _ => cases h
theorem kEq_rp {a b : Key} {x y : D} (r1 : Rp T G μ (kV a) x) (r2 : Rp T G μ (kV b) y) : kEq x y = decide (a = b) := by
  cases a with
  | inl i =>
    have r1 : Rp T G μ (.int i) x := r1
    cases r1
    cases b with
    | inl j =>
      have r2 : Rp T G μ (.int j) y := r2
      cases r2
      rw [Bool.eq_iff_iff]
      simp [kEq]
    | inr z =>
      have r2 : Rp T G μ (.str z) y := r2
      cases r2
      rw [Bool.eq_iff_iff]
      simp [kEq]
  | inr w =>
    have r1 : Rp T G μ (.str w) x := r1
    cases r1
    cases b with
    | inl j =>
      have r2 : Rp T G μ (.int j) y := r2
      cases r2
      rw [Bool.eq_iff_iff]
      simp [kEq]
    | inr z =>
      have r2 : Rp T G μ (.str z) y := r2
      cases r2
      rename_i s _ t _
      have := txS_inj s t
      rw [Bool.eq_iff_iff] at this ⊢
      simp only [kEq, beq_iff_eq, decide_eq_true_eq, Sum.inr.injEq] at this ⊢
      exact this.symm
theorem rpk_get {k : Key} {x : D} (rx : Rp T G μ (kV k) x) : ∀ {kv : List (Key × V)} {kvs : List (D × D)}, RpK T G μ kv kvs → (getK kvs x = none ∧ valV kv k = none) ∨ ∃ d v, getK kvs x = some d ∧ valV kv k = some v ∧ Rp T G μ v d
  | [], _, r => by cases r; exact .inl ⟨rfl, rfl⟩
  | p :: kv, _, r => by
    cases r with
    | @cons a b as bs h t =>
      have e := kEq_rp h.1 rx
      by_cases hk : p.1 = k
      · right
        refine ⟨b.2, p.2, ?_, valV_pos hk, h.2⟩
        rw [decide_eq_true hk] at e
        unfold getK
        rw [if_pos e]
      · rw [decide_eq_false hk] at e
        have e2 : getK (b :: bs) x = getK bs x := by
          show (if kEq b.1 x then some b.2 else getK bs x) = _
          rw [e]; rfl
        rw [e2, valV_neg hk]
        exact rpk_get rx t
theorem rpk_len {kv : List (Key × V)} {kvs : List (D × D)} (r : RpK T G μ kv kvs) : kv.length = kvs.length := Paired.length r
theorem rpk_put {k : Key} {x d : D} {v : V} (rx : Rp T G μ (kV k) x) (rv : Rp T G μ v d) {kv : List (Key × V)} {kvs : List (D × D)} (r : RpK T G μ kv kvs) : RpK T G μ (putK kv k v) (putKD kvs x d) := by
  unfold putK putKD
  have ha := valV_any k kv
  have e : (getK kvs x).isSome = (valV kv k).isSome := by
    rcases rpk_get rx r with ⟨h1, h2⟩ | ⟨d, v, h1, h2, _⟩ <;> rw [h1, h2] <;> rfl
  rw [e, ha]
  split
  · rename_i hsp
    clear ha e hsp
    unfold RpK at *
    induction r with
    | nil => exact .nil
    | @cons a b as bs h t ih =>
      rw [List.map_cons, List.map_cons]
      refine .cons ?_ ih
      have e := kEq_rp h.1 rx
      by_cases hk : a.1 = k
      · rw [decide_eq_true hk] at e
        rw [if_pos hk, if_pos e]
        exact ⟨h.1, rv⟩
      · rw [decide_eq_false hk] at e
        rw [if_neg hk, e]
        exact h
  · rename_i hsp
    clear ha e hsp
    unfold RpK at *
    induction r with
    | nil => exact .cons ⟨rx, rv⟩ .nil
    | cons h t ih => exact .cons h ih
theorem dctD_at {st : Sto} {H : Hp} (hr : Hr T G μ st H) {d : D} {v : V} {kvs : List (D × D)} (r : Rp T G μ v d) (e : dctD st d = some kvs) : ∃ a i kv, v = .ref a ∧ d = .loc i ∧ μ[i]? = some a ∧ st[i]? = some (.dct kvs) ∧ H a = some (.dK kv) ∧ RpK T G μ kv kvs := by
  unfold dctD at e
  split at e
  · split at e
    · rename_i i _ h
      cases e
      cases r with
      | loc hm =>
        obtain ⟨kv, h1, h2⟩ := hr.atD hm h
        exact ⟨_, _, kv, rfl, rfl, hm, h, h1, h2⟩
    · cases e
  · cases e
theorem dct_get {st : Sto} {H : Hp} (hr : Hr T G μ st H) {d y : D} {v w : V} {kvs : List (D × D)} (r : Rp T G μ v d) (e : dctD st d = some kvs) (ry : Rp T G μ w y) (hk : isKey y = true) : ∃ a o, v = .ref a ∧ DGet H a w o ∧ o.isSome = (getK kvs y).isSome ∧ ∀ z, getK kvs y = some z → ∃ u, o = some u ∧ Rp T G μ u z := by
  obtain ⟨a, i, kv, rfl, rfl, hm, hs, h1, h2⟩ := dctD_at hr r e
  obtain ⟨k, rfl⟩ := key_rp hk ry
  refine ⟨a, valV kv k, rfl, .k h1, ?_, fun z hz => ?_⟩
  · rcases rpk_get ry h2 with ⟨g1, g2⟩ | ⟨d, v, g1, g2, _⟩ <;> rw [g1, g2] <;> rfl
  · rcases rpk_get ry h2 with ⟨g1, g2⟩ | ⟨d, v, g1, g2, g3⟩
    · rw [g1] at hz; cases hz
    · rw [g1] at hz; cases hz; exact ⟨v, g2, g3⟩
end
/-! ### what a thing is, by the store -/
section
variable {T : Tb} {G : Hp} {μ : List Addr} {st : Sto} {H : Hp}
/-- a list that stands at an address of its own -/
theorem lstD_at (hr : Hr T G μ st H) {d : D} {v : V} {xs : List D} (r : Rp T G μ v d) (e : lstD st d = some xs) : ∃ a vs, v = .ref a ∧ H a = some (.lst vs) ∧ RpL T G μ vs xs := by
  cases r with
  | lst h1 h2 => cases e; exact ⟨_, _, rfl, hr.sub _ _ h1, h2⟩
  | @loc a i h =>
    simp only [lstD] at e
    cases q : st[i]? with
    | none => rw [q] at e; cases e
    | some o =>
      rw [q] at e
      cases o with
      | dct _ => cases e
      | lst ys =>
        cases e
        obtain ⟨vs, h1, h2⟩ := hr.at_ h q
        exact ⟨a, vs, rfl, h1, h2⟩
  | _ => cases e
/-- a list or a tuple -/
theorem seqD_at (hr : Hr T G μ st H) {d : D} {v : V} {xs : List D} (r : Rp T G μ v d) (e : seqD st d = some xs) : ∃ a vs, v = .ref a ∧ RpL T G μ vs xs ∧ ((SqL T.K H a vs ∧ ∀ ys, d ≠ .tup ys) ∨ (SqT T.K H a vs ∧ d = .tup xs)) := by
  cases r with
  | tup h1 h2 h9 => cases e; exact ⟨_, _, rfl, h2, .inr ⟨sqt_sub hr h1, rfl⟩⟩
  | lst h1 h2 => cases e; exact ⟨_, _, rfl, h2, .inl ⟨.inl (.inl (hr.sub _ _ h1)), fun _ z => by cases z⟩⟩
  | ro h1 h2 => cases e; exact ⟨_, _, rfl, h2, .inl ⟨sql_sub hr h1, fun _ z => by cases z⟩⟩
  | @loc a i h =>
    simp only [seqD] at e
    cases q : st[i]? with
    | none => rw [q] at e; cases e
    | some o =>
      rw [q] at e
      cases o with
      | dct _ => cases e
      | lst ys =>
        cases e
        obtain ⟨vs, h1, h2⟩ := hr.at_ h q
        exact ⟨a, vs, rfl, h2, .inl ⟨.inl (.inl h1), fun _ z => by cases z⟩⟩
  | _ => cases e
theorem txS_len (s : Tx) : (txS s).length = s.length := by simp [txS, Str.length]
theorem txS_app (a b : Tx) : txS (a ++ b) = txS a ++ txS b := by
  show (⟨(a ++ b).toArray⟩ : Str) = Str.append ⟨a.toArray⟩ ⟨b.toArray⟩
  simp [Str.append]
theorem strOk_app {a b : Tx} (h1 : PyData.strOk (txS a) = true) (h2 : PyData.strOk (txS b) = true) : PyData.strOk (txS (a ++ b)) = true := by
  simp only [PyData.strOk, List.all_toArray, List.all_append, Bool.and_eq_true] at *
  exact ⟨h1, h2⟩
theorem strOk_sub {a b : Tx} (h1 : PyData.strOk (txS a) = true) (h : ∀ c ∈ b, c ∈ a) : PyData.strOk (txS b) = true := by
  simp only [PyData.strOk, List.all_toArray, List.all_eq_true] at *
  exact fun c hc => h1 c (h c hc)
end
/-! ### operators -/
def BO.op : BO → Operator
  | .add => .Add | .sub => .Sub | .mul => .Mult | .fdiv => .FloorDiv | .mod => .Mod | .pow => .Pow | .shl => .LShift | .shr => .RShift | .band => .BitAnd
def rB (T : Tb) (op : BO) (W : XK) : R2 := fun x y H Q => ∃ (G : Hp) (μ : List Addr) (st : Sto) (dx dy : D), Hr T G μ st H ∧ Rp T G μ x dx ∧ Rp T G μ y dy ∧ Pr T (fun G μ v d => Rp T G μ v d) W G μ H Q (R.of (opB op dx dy st) st)
section
variable {X : Cx} {T : Tb} {W : XK}
theorem rpl_rep {G : Hp} {μ : List Addr} {vs : List V} {ds : List D} (r : RpL T G μ vs ds) : ∀ n : Nat, RpL T G μ (List.replicate n vs).flatten (List.replicate n ds).flatten
  | 0 => .nil
  | n + 1 => by
    rw [List.replicate_succ, List.replicate_succ, List.flatten_cons, List.flatten_cons]
    exact r.app (rpl_rep r n)
theorem op_B (hK : T.K = X.K) (op : BO) : OpR X (binaryOp op.op) (rB T op W) := by
  intro pins s σ H x y v u Q I rx ry h
  obtain ⟨G, μ, st, dx, dy, hr, px, py, p⟩ := h
  obtain ⟨z, e, p⟩ := p.of
  cases op with
  | sub =>
    cases px with
    | int i => cases py with
      | int j => cases e; exact op_sub pins s σ H _ _ v u Q I rx ry ⟨i, j, rfl, rfl, p.here hr (.int _)⟩
      | _ => cases e
    | bl i => cases py with
      | bl j =>
        cases e
        cases rx
        cases ry
        exact sub_bool (show EP X pins σ Q _ _ from ⟨.int ((if i = true then 1 else 0) - (if j = true then 1 else 0)), H, I.tok _, ⟨_, rfl⟩, p.here hr (.int _)⟩)
      | _ => cases e
    | _ => cases e
  | mul =>
    have reps : ∀ {xs : List D} {j : Int}, lstD st dx = some xs → y = .int j → xs.length * j.toNat ≤ SZ ∧ j.natAbs < 4000000000000000000 → z = .lst (List.replicate j.toNat xs).flatten → wpAny (model X.prog X.w) X.A (binaryOp BO.mul.op v u) (EP X pins σ Q) X.xe s := by
      intro xs j h1 hy hc hz
      obtain ⟨a, vs, rfl, ha, ra⟩ := lstD_at hr px h1
      subst hy
      refine op_rep pins s σ H _ _ v u Q I rx ry ⟨a, j, vs, rfl, rfl, ha, by omega, by omega, sz_le (by rw [ra.len]; exact hc.1), fun q hq => ?_⟩
      obtain ⟨k1, k2⟩ := hr.known (o := .lst (List.replicate j.toNat vs).flatten) hq
      subst hz
      exact p _ _ _ _ k2 k1 (.lst upd_same ((rpl_rep ra j.toNat).mono k2.1))
    cases px with
    | int i => cases py with
      | int j =>
        simp only [opB] at e
        split at e
        · rename_i hc
          cases e
          exact op_mulW pins s σ H _ _ v u Q I rx ry ⟨i, j, rfl, rfl, (show i.natAbs.log2 + j.natAbs.log2 < 1000000 from of_decide_eq_true hc), p.here hr (.int _)⟩
        · cases e
      | _ => cases e
    | @tup a vs ds h1 h2 h9 => cases py with
      | int j =>
        simp only [opB] at e
        split at e
        · rename_i hc
          cases e
          refine DN.op_repAny pins s σ H _ _ v u Q I rx ry ⟨a, j, vs, rfl, rfl, hK ▸ sqt_sub hr h1, hc.1, by rw [h2.len]; exact hc.2, fun hs => ?_, fun _ q ob hq od => ?_⟩
          · have e2 : (List.replicate j.toNat ds).flatten = ds := by
              rcases hs with hs | hs
              · subst hs
                cases h2
                induction j.toNat with
                | zero => rfl
                | succ n ih => rw [List.replicate_succ]; simpa using ih
              · subst hs
                simp
            rw [e2] at p
            exact p.here hr (.tup h1 h2 h9)
          · obtain ⟨k1, k2⟩ := hr.known (o := .frz ob (.tup (List.replicate j.toNat vs).flatten)) hq
            exact p _ _ _ _ k2 k1 (.tup sqt_new ((rpl_rep h2 j.toNat).mono k2.1) (pq_new od))
        · cases e
      | _ => cases e
    | lst h1 h2 => cases py with
      | int j =>
        simp only [opB] at e
        split at e
        · split at e
          · cases e; exact reps (by assumption) rfl (by assumption) rfl
          · cases e
        · cases e
      | _ => cases e
    | loc h1 => cases py with
      | int j =>
        simp only [opB] at e
        split at e
        · split at e
          · cases e; exact reps (by assumption) rfl (by assumption) rfl
          · cases e
        · cases e
      | _ => cases e
    | _ => cases py <;> cases e
  | fdiv =>
    cases px with
    | int i => cases py with
      | int j =>
        simp only [opB] at e
        split at e
        · rename_i hc
          cases e
          exact op_fdivW pins s σ H _ _ v u Q I rx ry ⟨i, j, rfl, rfl, hc, p.here hr (.int _)⟩
        · split at e
          · rename_i hc
            cases e
            exact op_fdivN pins s σ H _ _ v u Q I rx ry ⟨i, j, rfl, rfl, ⟨by omega, hc.2⟩, p.here hr (.int _)⟩
          · cases e
      | _ => cases e
    | _ => cases e
  | mod =>
    cases px with
    | int i => cases py with
      | int j =>
        simp only [opB] at e
        split at e
        · rename_i hc
          cases e
          exact op_mod pins s σ H _ _ v u Q I rx ry ⟨i, j, rfl, rfl, hc, p.here hr (.int _)⟩
        · split at e
          · rename_i hc
            cases e
            exact op_modN pins s σ H _ _ v u Q I rx ry ⟨i, j, rfl, rfl, by omega, p.here hr (.int _)⟩
          · cases e
      | _ => cases e
    | _ => cases e
  | pow =>
    cases px with
    | int i => cases py with
      | int j =>
        simp only [opB] at e
        split at e
        · rename_i hc
          cases e
          exact op_pow pins s σ H _ _ v u Q I rx ry ⟨i, j, rfl, rfl, hc, p.here hr (.int _)⟩
        · cases e
      | _ => cases e
    | _ => cases e
  | shl =>
    cases px with
    | int i => cases py with
      | int j =>
        simp only [opB] at e
        split at e
        · rename_i hc
          cases e
          exact op_shl pins s σ H _ _ v u Q I rx ry ⟨i, j, rfl, rfl, hc, p.here hr (.int _)⟩
        · cases e
      | _ => cases e
    | _ => cases e
  | shr =>
    cases px with
    | int i => cases py with
      | int j =>
        simp only [opB] at e
        split at e
        · rename_i hc
          cases e
          exact op_shr pins s σ H _ _ v u Q I rx ry ⟨i, j, rfl, rfl, hc, p.here hr (.int _)⟩
        · cases e
      | _ => cases e
    | _ => cases e
  | band =>
    cases px with
    | int i => cases py with
      | int j => cases e; exact op_and pins s σ H _ _ v u Q I rx ry ⟨i, j, rfl, rfl, p.here hr (.int _)⟩
      | _ => cases e
    | _ => cases e
  | add =>
    have lists : ∀ {xs ys : List D}, lstD st dx = some xs → lstD st dy = some ys → xs.length + ys.length ≤ SZ → z = .lst (xs ++ ys) → wpAny (model X.prog X.w) X.A (binaryOp BO.add.op v u) (EP X pins σ Q) X.xe s := by
      intro xs ys h1 h2 hz ez
      obtain ⟨a, vs, rfl, ha, ra⟩ := lstD_at hr px h1
      obtain ⟨b, ws, rfl, hb, rb⟩ := lstD_at hr py h2
      refine op_cat pins s σ H _ _ v u Q I rx ry ⟨a, b, vs, ws, rfl, rfl, ha, hb, sz_le (by rw [ra.len, rb.len]; exact hz), fun q hq => ?_⟩
      obtain ⟨k1, k2⟩ := hr.known (o := .lst (vs ++ ws)) hq
      subst ez
      exact p _ _ _ _ k2 k1 (.lst upd_same ((ra.app rb).mono k2.1))
    cases px with
    | int i => cases py with
      | int j => cases e; exact op_add pins s σ H _ _ v u Q I rx ry ⟨i, j, rfl, rfl, p.here hr (.int _)⟩
      | _ => cases e
    | str a ha => cases py with
      | str b hb =>
        simp only [opB] at e
        split at e
        · rename_i hc
          cases e
          refine op_add_str pins s σ H _ _ v u Q I rx ry ⟨_, _, rfl, rfl, sz_le (by rw [txS_len, txS_len]; exact hc), ?_⟩
          rw [← txS_app]
          exact p.here hr (.str _ ⟨strOk_app ha.1 hb.1, sz_le (by rw [List.length_append]; exact hc)⟩)
        · cases e
      | _ => cases e
    | @tup a vs ds h1 h2 h9 => cases py with
      | @tup b ws es k1 k2 k9 =>
        simp only [opB] at e
        split at e
        · rename_i hc
          cases e
          refine DN.op_catF pins s σ H _ _ v u Q I rx ry ⟨a, b, vs, ws, rfl, rfl, hK ▸ sqt_sub hr h1, hK ▸ sqt_sub hr k1, sz_le (by rw [h2.len, k2.len]; exact hc), fun z0 => ?_, fun _ z0 => ?_, fun _ _ q ob hq od => ?_⟩
          · subst z0
            cases h2
            exact p.here hr (.tup k1 k2 k9)
          · subst z0
            cases k2
            exact p.here hr (.tup h1 (by rw [List.append_nil]; exact h2) (by rw [List.append_nil]; exact h9))
          · obtain ⟨k1, k3⟩ := hr.known (o := .frz ob (.tup (vs ++ ws))) hq
            exact p _ _ _ _ k3 k1 (.tup sqt_new ((h2.app k2).mono k3.1) (pq_new od))
        · cases e
      | _ => cases e
    | lst h1 h2 =>
      simp only [opB] at e
      split at e
      · split at e
        · cases e; exact lists (by assumption) (by assumption) (by assumption) rfl
        · cases e
      · cases e
    | loc h1 =>
      simp only [opB] at e
      split at e
      · split at e
        · cases e; exact lists (by assumption) (by assumption) (by assumption) rfl
        · cases e
      · cases e
    | _ => cases py <;> cases e
end
/-! ### comparisons -/
def CO.op : CO → CmpOp
  | .eq => .Eq | .ne => .NotEq | .lt => .Lt | .le => .LtE | .gt => .Gt | .ge => .GtE | .mem => .In | .nmem => .NotIn
def IO.op : IO → CmpOp
  | .isN => .Is | .isnN => .IsNot | .isB _ => .Is | .isnB _ => .IsNot
def rC (T : Tb) (op : CO) : R2 := fun x y H Q => ∃ (G : Hp) (μ : List Addr) (st : Sto) (dx dy : D) (b : Bool), Hr T G μ st H ∧ Rp T G μ x dx ∧ Rp T G μ y dy ∧ opC op dx dy st = some b ∧ Q (.bl b) H
section
variable {X : Cx} {T : Tb}
theorem op_C (hK : T.K = X.K) (hu : X.A.units + 100 < cLine) (op : CO) : OpR X (compareOp op.op) (rC T op) := by
  intro pins s σ H x y v u Q I rx ry h
  obtain ⟨G, μ, st, dx, dy, b, hr, px, py, e, q⟩ := h
  have eqs : ∀ {c : Bool}, eqD st dx dy = some c → ∃ da db as bs, Reads s.heap v da as ∧ Reads s.heap u db bs ∧ da.canLay0 = true ∧ db.canLay0 = true ∧ X.A.units + min da.depth db.depth < cLine ∧ c = PyData.eqv da db := by
    intro c e
    unfold eqD at e
    cases h1 : full st dx with
    | none => rw [h1] at e; cases e
    | some a =>
      cases h2 : full st dy with
      | none => rw [h1, h2] at e; cases e
      | some a2 =>
        rw [h1, h2] at e
        simp only at e
        split at e
        · rename_i hd
          cases e
          obtain ⟨d1, l1⟩ := full_lies hr px h1
          obtain ⟨d2, l2⟩ := full_lies hr py h2
          rw [hK] at d1 d2
          obtain ⟨as, r1⟩ := Dp.reads I _ x v d1 rx
          obtain ⟨bs, r2⟩ := Dp.reads I _ y u d2 ry
          have k1 := depth_py a
          have k2 := depth_py a2
          exact ⟨_, _, as, bs, r1, r2, l1, l2, by omega, (eqv_py _ _).symm⟩
        · cases e
  have nums : ∀ {f : Int → Int → Bool}, (∀ i j, dx = .int i → dy = .int j → OpR X (compareOp op.op) (rI0 fun i j => .bl (f i j)) ∧ b = f i j) → (∃ i j, dx = .int i ∧ dy = .int j) → wpAny (model X.prog X.w) X.A (compareOp op.op v u) (EP X pins σ Q) X.xe s := by
    intro f k ⟨i, j, e1, e2⟩
    subst e1 e2
    cases px
    cases py
    obtain ⟨k1, k2⟩ := k i j rfl rfl
    subst k2
    exact k1 pins s σ H _ _ v u Q I rx ry ⟨i, j, rfl, rfl, q⟩
  have mems : ∀ {c : Bool}, memD st dx dy = some c → (∃ a o, y = .ref a ∧ DGet H a x o ∧ c = o.isSome) ∨ (∃ (c1 : Nat) (z : Str), x = .str ⟨#[c1]⟩ ∧ y = .str z ∧ c = decide (c1 ∈ z.cps.toList)) ∨
      ∃ da xs as bs, ((Reads s.heap u (.list xs) as) ∨ (Reads s.heap u (.tuple xs) as)) ∧ Reads s.heap v da bs ∧ PyData.canLayAll0 xs = true ∧ da.canLay0 = true ∧ X.A.units + 1 + min (PyData.depthAll xs) da.depth < cLine ∧ c = xs.any (fun z => PyData.eqv z da) := by
    intro c e
    have go : ∀ (a : D) (ys : List D), full st dx = some a → (full st dy = some (.tup ys) ∨ full st dy = some (.lst ys)) → D.depth a ≤ 60 ∧ D.depthL ys ≤ 60 → c = ys.any (fun z => D.eqv z a) →
      ∃ da xs as bs, ((Reads s.heap u (.list xs) as) ∨ (Reads s.heap u (.tuple xs) as)) ∧ Reads s.heap v da bs ∧ PyData.canLayAll0 xs = true ∧ da.canLay0 = true ∧ X.A.units + 1 + min (PyData.depthAll xs) da.depth < cLine ∧ c = xs.any (fun z => PyData.eqv z da) := by
      intro a ys h1 h2 hd ec
      obtain ⟨d1, l1⟩ := full_lies hr px h1
      rw [hK] at d1
      obtain ⟨bs, r1⟩ := Dp.reads I _ x v d1 rx
      have k1 := depth_py a
      have k2 := depthL_py ys
      have hany : ∀ ys : List D, ys.any (fun z => D.eqv z a) = (D.pyL ys).any (fun z => PyData.eqv z (D.py a)) := by
        intro ys
        induction ys with
        | nil => rfl
        | cons z r ih => simp [D.pyL, ih, eqv_py]
      rcases h2 with h2 | h2
      · obtain ⟨d2, l2⟩ := full_lies hr py h2
        rw [hK] at d2
        obtain ⟨as, r2⟩ := Dp.reads I _ y u d2 ry
        exact ⟨_, _, as, bs, .inr r2, r1, l2, l1, by omega, ec.trans (hany ys)⟩
      · obtain ⟨d2, l2⟩ := full_lies hr py h2
        rw [hK] at d2
        obtain ⟨as, r2⟩ := Dp.reads I _ y u d2 ry
        exact ⟨_, _, as, bs, .inl r2, r1, l2, l1, by omega, ec.trans (hany ys)⟩
    unfold memD at e
    split at e
    · rename_i kvs hd
      split at e
      · rename_i hk
        cases e
        obtain ⟨a, o, h1, h2, h3, _⟩ := dct_get hr py hd px hk
        exact .inl ⟨a, o, h1, h2, h3.symm⟩
      · cases e
    right
    split at e
    · rename_i a ys h1 h2
      split at e
      · rename_i hd
        cases e
        exact .inr (go a ys h1 (.inl h2) hd rfl)
      · cases e
    · rename_i a ys h1 h2
      split at e
      · rename_i hd
        cases e
        exact .inr (go a ys h1 (.inr h2) hd rfl)
      · cases e
    · rename_i c1 z h1 h2
      cases e
      have f1 : dx = .str [c1] := by
        unfold full frz at h1
        cases px <;> simp [D.sub] at h1
        · exact congrArg D.str h1
        · rename_i i hi
          have key : ∀ k d', frz st 0 k (.lst d') ≠ some (.str [c1]) := by
            intro k d' z
            cases k <;> simp [frz, D.sub] at z
          split at h1
          · exact absurd h1 (key _ _)
          · cases h1
      have f2 : dy = .str z := by
        unfold full frz at h2
        cases py <;> simp [D.sub] at h2
        · exact congrArg D.str h2
        · rename_i i hi
          have key : ∀ k d', frz st 0 k (.lst d') ≠ some (.str z) := by
            intro k d' z
            cases k <;> simp [frz, D.sub] at z
          split at h2
          · exact absurd h2 (key _ _)
          · cases h2
      subst f1 f2
      cases px
      cases py
      exact .inl ⟨c1, txS z, rfl, rfl, by simp [txS]⟩
    · cases e
  cases op with
  | lt => 
    simp only [opC] at e
    split at e
    · cases e; exact nums (fun i j e1 e2 => by cases e1; cases e2; exact ⟨op_lt, rfl⟩) ⟨_, _, rfl, rfl⟩
    · cases e
  | le => 
    simp only [opC] at e
    split at e
    · cases e; exact nums (fun i j e1 e2 => by cases e1; cases e2; exact ⟨op_le, rfl⟩) ⟨_, _, rfl, rfl⟩
    · cases e
  | gt => 
    simp only [opC] at e
    split at e
    · cases e; exact nums (f := fun i j => decide (j < i)) (fun i j e1 e2 => by cases e1; cases e2; exact ⟨op_gt, rfl⟩) ⟨_, _, rfl, rfl⟩
    · cases e
  | ge => 
    simp only [opC] at e
    split at e
    · cases e; exact nums (f := fun i j => decide (j ≤ i)) (fun i j e1 e2 => by cases e1; cases e2; exact ⟨op_ge, rfl⟩) ⟨_, _, rfl, rfl⟩
    · cases e
  | eq =>
    obtain ⟨da, db, as, bs, r1, r2, l1, l2, hd, ec⟩ := eqs e
    exact SeqAt.compareEq_reads r1 r2 l1 l2 hd ⟨.bl _, H, I, rfl, ec ▸ q⟩
  | ne =>
    simp only [opC, Option.map_eq_some_iff] at e
    obtain ⟨c, e1, rfl⟩ := e
    obtain ⟨da, db, as, bs, r1, r2, l1, l2, hd, ec⟩ := eqs e1
    exact SeqAt.compareNe_reads r1 r2 l1 l2 hd ⟨.bl _, H, I, rfl, ec ▸ q⟩
  | mem =>
    rcases mems e with ⟨a, o, rfl, g, ec⟩ | ⟨c1, z, rfl, rfl, ec⟩ | ⟨da, xs, as, bs, ru | ru, rv, l1, l2, hd, ec⟩
    · cases (show u = Value.ref a from ry)
      exact d_in (by omega) I g rx fun s' I' => ⟨.bl _, H, I', rfl, ec ▸ q⟩
    · exact op_in_sign pins s σ H _ _ v u Q I rx ry ⟨c1, z, rfl, rfl, ec ▸ q⟩
    · exact SeqAt.in_list_reads ru rv l1 l2 hd ⟨.bl _, H, I, rfl, ec ▸ q⟩
    · exact SeqAt.in_tuple_reads ru rv l1 l2 hd ⟨.bl _, H, I, rfl, ec ▸ q⟩
  | nmem =>
    simp only [opC, Option.map_eq_some_iff] at e
    obtain ⟨c, e1, rfl⟩ := e
    rcases mems e1 with ⟨a, o, rfl, g, ec⟩ | ⟨c1, z, rfl, rfl, ec⟩ | ⟨da, xs, as, bs, ru | ru, rv, l1, l2, hd, ec⟩
    · cases (show u = Value.ref a from ry)
      exact d_notIn (by omega) I g rx fun s' I' => ⟨.bl _, H, I', rfl, ec ▸ q⟩
    · exact op_notIn_sign pins s σ H _ _ v u Q I rx ry ⟨c1, z, rfl, rfl, ec ▸ q⟩
    · exact SeqAt.notIn_list_reads ru rv l1 l2 hd ⟨.bl _, H, I, rfl, ec ▸ q⟩
    · exact SeqAt.notIn_tuple_reads ru rv l1 l2 hd ⟨.bl _, H, I, rfl, ec ▸ q⟩
end
end DI
set_option Elab.async false
set_option linter.all false
set_option maxRecDepth 100000
set_option maxHeartbeats 4000000
set_option autoImplicit false
namespace DI
open PySem PySem.Spec PyProof.Rows L2
abbrev RpD (T : Tb) : Hp → List Addr → V → D → Prop := fun G μ v d => Rp T G μ v d
abbrev WF0 : XK := fun _ _ _ => False
theorem Pr.ofW {α β : Type} {T : Tb} {Rel : Hp → List Addr → β → α → Prop} {W W' : XK} {G H : Hp} {μ : List Addr} {Q : β → Hp → Prop} {o : Option α} {st : Sto} (h : Pr T Rel W G μ H Q (R.of o st)) : Pr T Rel W' G μ H Q (R.of o st) := by
  cases o with
  | none => exact h
  | some a => exact h
section
variable {X : Cx} {T : Tb} {W : L2.St → XK} {a b c : Expr} {fa fb fc : Env → Sto → R D} {pos : Pos}
theorem ex_bin (hK : T.K = X.K) (op : BO) (ha : PE X a (tEx T W fa)) (hb : PE X b (tEx T W fb)) :
    PE X (.BinOp a op.op b pos) (tEx T W fun ρ st => (fa ρ st).bind fun x st => (fb ρ st).bind fun y st => R.of (opB op x y st) st) := by
  refine pe_of (pe_op (op_B (W := WF0) hK op) ha hb) fun σ H Q h => ?_
  obtain ⟨G, μ, ρ, st, hr, er, p⟩ := h
  refine tR.imp (tR.bind (Rel := RpD T) hr er p) fun x H1 ⟨G1, m1, s1, dx, e1, hr1, r1, p1⟩ => ?_
  refine tR.imp (tR.bind (Rel := RpD T) hr1 (er.mono e1.1) p1) fun y H2 ⟨G2, m2, s2, dy, e2, hr2, r2, p2⟩ => ?_
  exact ⟨G2, m2, s2, dx, dy, hr2, r1.mono e2.1, r2, p2.ofW⟩
theorem ex_neg (ha : PE X a (tEx T W fa)) : PE X (.UnaryOp .USub a pos) (tEx T W fun ρ st => (fa ρ st).bind fun x st => match x with
    | .int i => .ok (.int (-i)) st
    | _ => .bad) := by
  refine pe_of (pe_un un_neg ha) fun σ H Q h => ?_
  obtain ⟨G, μ, ρ, st, hr, er, p⟩ := h
  refine tR.imp (tR.bind (Rel := RpD T) hr er p) fun x H1 ⟨G1, m1, s1, dx, e1, hr1, r1, p1⟩ => ?_
  cases r1 with
  | int i => exact ⟨i, rfl, p1.here hr1 (.int _)⟩
  | _ => exact p1.elim
theorem ex_cmp (hK : T.K = X.K) (hu : X.A.units + 100 < cLine) (op : CO) (hm : behindInMarks op.op b = false) (ha : PE X a (tEx T W fa)) (hb : PE X b (tEx T W fb)) :
    PE X (.Compare a [op.op] [b] pos) (tEx T W fun ρ st => (fa ρ st).bind fun x st => (fb ρ st).bind fun y st => R.of ((opC op x y st).map .bl) st) := by
  refine pe_of (pe_cmpR (op_C hK hu op) ha hb hm) fun σ H Q h => ?_
  obtain ⟨G, μ, ρ, st, hr, er, p⟩ := h
  refine tR.imp (tR.bind (Rel := RpD T) hr er p) fun x H1 ⟨G1, m1, s1, dx, e1, hr1, r1, p1⟩ => ?_
  refine tR.imp (tR.bind (Rel := RpD T) hr1 (er.mono e1.1) p1) fun y H2 ⟨G2, m2, s2, dy, e2, hr2, r2, p2⟩ => ?_
  obtain ⟨z, ez, p3⟩ := p2.of
  simp only [Option.map_eq_some_iff] at ez
  obtain ⟨k, ek, rfl⟩ := ez
  exact ⟨G2, m2, s2, dx, dy, k, hr2, r1.mono e2.1, r2, ek, p3.here hr2 (.bl _)⟩
def IO.lit : IO → Expr → Bool
  | .isN, .Constant .none _ _ => true
  | .isnN, .Constant .none _ _ => true
  | .isB b, .Constant (.bool c) _ _ => b == c
  | .isnB b, .Constant (.bool c) _ _ => b == c
  | _, _ => false
theorem rp_non {G : Hp} {μ : List Addr} {x : V} {d : D} (r : Rp T G μ x d) : opI .isN d = some (decide (x = .non)) ∧ opI .isnN d = some (!decide (x = .non)) := by
  cases r <;> exact ⟨rfl, rfl⟩
theorem ex_is {op : IO} (hl : op.lit b = true) (ha : PE X a (tEx T W fa)) : PE X (.Compare a [op.op] [b] pos) (tEx T W fun ρ st => (fa ρ st).bind fun x st => R.of ((opI op x).map .bl) st) := by
  have go : ∀ {r : R2} {tb : TE}, PE X (.Compare a [op.op] [b] pos) (tOp r (tEx T W fa) tb) → (∀ (x : V) (G : Hp) (μ : List Addr) (dx : D) (k : Bool) (σ : L2.St) (H : Hp) (Q : VK), Rp T G μ x dx → opI op dx = some k → Q (.bl k) H → tb σ H fun y H2 => r x y H2 Q) →
      PE X (.Compare a [op.op] [b] pos) (tEx T W fun ρ st => (fa ρ st).bind fun x st => R.of ((opI op x).map .bl) st) := by
    intro r tb h k
    refine pe_of h fun σ H Q h => ?_
    obtain ⟨G, μ, ρ, st, hr, er, p⟩ := h
    refine tR.imp (tR.bind (Rel := RpD T) hr er p) fun x H1 ⟨G1, m1, s1, dx, e1, hr1, r1, p1⟩ => ?_
    obtain ⟨z, ez, p3⟩ := p1.of
    simp only [Option.map_eq_some_iff] at ez
    obtain ⟨kb, ek, rfl⟩ := ez
    exact k x G1 m1 dx kb σ H1 Q r1 ek (p3.here hr1 (.bl _))
  cases op with
  | isN =>
    cases b <;> try (simp [IO.lit] at hl; done)
    rename_i c k p
    cases c <;> try (simp [IO.lit] at hl; done)
    refine go (pe_cmpR op_isN ha pe_non (nomark _)) fun x G μ dx k σ H Q r e q => ⟨rfl, ?_⟩
    rw [(rp_non r).1] at e
    cases e
    exact q
  | isnN =>
    cases b <;> try (simp [IO.lit] at hl; done)
    rename_i c k p
    cases c <;> try (simp [IO.lit] at hl; done)
    refine go (pe_cmpR op_notN ha pe_non (nomark _)) fun x G μ dx k σ H Q r e q => ⟨rfl, ?_⟩
    rw [(rp_non r).2] at e
    cases e
    exact q
  | isB c0 =>
    cases b <;> try (simp [IO.lit] at hl; done)
    rename_i c k p
    cases c <;> try (simp [IO.lit] at hl; done)
    rename_i c1
    have ec : c0 = c1 := by simpa [IO.lit] using hl
    subst ec
    refine go (pe_cmpR (op := .Is) op_isBl ha pe_bl (by rfl)) fun x G μ dx k σ H Q r e q => ?_
    cases r with
    | bl z =>
      cases e
      exact ⟨_, _, rfl, rfl, by rw [show decide (z = c0) = (z == c0) from by cases z <;> cases c0 <;> rfl]; exact q⟩
    | _ => cases e
  | isnB c0 =>
    cases b <;> try (simp [IO.lit] at hl; done)
    rename_i c k p
    cases c <;> try (simp [IO.lit] at hl; done)
    rename_i c1
    have ec : c0 = c1 := by simpa [IO.lit] using hl
    subst ec
    refine go (pe_cmpR (op := .IsNot) op_notBl ha pe_bl (by rfl)) fun x G μ dx k σ H Q r e q => ?_
    cases r with
    | bl z =>
      cases e
      exact ⟨_, _, rfl, rfl, by rw [show (!decide (z = c0)) = !(z == c0) from by cases z <;> cases c0 <;> rfl]; exact q⟩
    | _ => cases e
theorem ex_chain (hK : T.K = X.K) (hu : X.A.units + 100 < cLine) (op op' : CO) (hm : lastMarks [op.op, op'.op] [b, c] = false) (ha : PE X a (tEx T W fa)) (hb : PE X b (tEx T W fb)) (hc : PE X c (tEx T W fc)) :
    PE X (.Compare a [op.op, op'.op] [b, c] pos) (tEx T W fun ρ st => (fa ρ st).bind fun x st => (fb ρ st).bind fun y st => match opC op x y st with
      | some true => (fc ρ st).bind fun z st => R.of ((opC op' y z st).map .bl) st
      | some false => .ok (.bl false) st
      | none => .bad) := by
  refine pe_of (pe_chain (op_C hK hu op) (op_C hK hu op') ha hb hc hm) fun σ H Q h => ?_
  obtain ⟨G, μ, ρ, st, hr, er, p⟩ := h
  refine tR.imp (tR.bind (Rel := RpD T) hr er p) fun x H1 ⟨G1, m1, s1, dx, e1, hr1, r1, p1⟩ => ?_
  refine tR.imp (tR.bind (Rel := RpD T) hr1 (er.mono e1.1) p1) fun y H2 ⟨G2, m2, s2, dy, e2, hr2, r2, p2⟩ => ?_
  cases h1 : opC op dx dy s2 with
  | none => rw [h1] at p2; exact p2.elim
  | some k =>
    refine ⟨G2, m2, s2, dx, dy, k, hr2, r1.mono e2.1, r2, h1, k, rfl, ?_⟩
    rw [h1] at p2
    cases k with
    | false => exact p2.here hr2 (.bl _)
    | true =>
      refine tR.imp (tR.bind (Rel := RpD T) hr2 ((er.mono e1.1).mono e2.1) p2) fun z H3 ⟨G3, m3, s3, dz, e3, hr3, r3, p3⟩ => ?_
      obtain ⟨z, ez, p4⟩ := p3.of
      simp only [Option.map_eq_some_iff] at ez
      obtain ⟨k, ek, rfl⟩ := ez
      exact ⟨G3, m3, s3, dy, dz, k, hr3, r2.mono e3.1, r3, ek, p4.here hr3 (.bl _)⟩
/-! ### truth -/
theorem tru_V {G : Hp} {μ : List Addr} {st : Sto} {H : Hp} {x : V} {d : D} {k : Bool} (hK : T.K = X.K) (hr : Hr T G μ st H) (r : Rp T G μ x d) (e : truD st d = some k) : TruV X.K x H k := by
  cases r with
  | non => cases e; rfl
  | bl b => cases e; rfl
  | int i => cases e; rfl
  | str s h =>
    cases e
    refine ⟨by rw [txS_len]; exact h.2, ?_⟩
    rw [txS_len]
    cases s with
    | nil => rfl
    | cons c s => simp; omega
  | tup h1 h2 h9 =>
    cases e
    refine .inr (.inl ⟨_, hK ▸ sqt_sub hr h1, ?_⟩)
    cases h2 <;> rfl
  | lst h1 h2 =>
    cases e
    refine .inl ⟨_, .inl (.inl (hr.sub _ _ h1)), ?_⟩
    cases h2 <;> rfl
  | ro h1 h2 =>
    cases e
    refine .inl ⟨_, hK ▸ sql_sub hr h1, ?_⟩
    cases h2 <;> rfl
  | @loc a i h =>
    simp only [truD] at e
    obtain ⟨_, o, ho, hob⟩ := hr.obj i a h
    rw [ho] at e
    cases hob with
    | lst h1 h2 =>
      cases e
      refine .inl ⟨_, .inl (.inl h1), ?_⟩
      cases h2 <;> rfl
    | dct h1 h2 =>
      cases e
      refine .inr (.inr ⟨_, h1, ?_⟩)
      cases h2 <;> rfl
  | exc h1 h2 h3 => cases e
def teT (f : Env → Sto → R D) : Env → Sto → R Bool := fun ρ st => (f ρ st).bind fun x st => R.of (truD st x) st
theorem et_truth (hK : T.K = X.K) (ha : PE X a (tEx T W fa)) (he : ∀ whole, isTrue a X.env whole = (do let v ← whole; standAt a.pos; holding [v] (truthy v))) : PT X a (tBo T W (teT fa)) := by
  refine pt_of (pt_truth ha he) fun σ H Q h => ?_
  obtain ⟨G, μ, ρ, st, hr, er, p⟩ := h
  refine tR.imp (tR.bind (Rel := RpD T) hr er p) fun x H1 ⟨G1, m1, s1, dx, e1, hr1, r1, p1⟩ => ?_
  obtain ⟨k, ek, p2⟩ := p1.of
  exact ⟨k, tru_V hK hr1 r1 ek, p2.here hr1 rfl⟩
def fAnd (fa fb : Env → Sto → R D) : Env → Sto → R D := fun ρ st => (fa ρ st).bind fun x st => match truD st x with
  | some true => fb ρ st
  | some false => .ok x st
  | none => .bad
def fOr (fa fb : Env → Sto → R D) : Env → Sto → R D := fun ρ st => (fa ρ st).bind fun x st => match truD st x with
  | some true => .ok x st
  | some false => fb ρ st
  | none => .bad
def fNot (fa : Env → Sto → R D) : Env → Sto → R D := fun ρ st => (fa ρ st).bind fun x st => match truD st x with
  | some b => .ok (.bl (!b)) st
  | none => .bad
def fIfe (fc fa fb : Env → Sto → R D) : Env → Sto → R D := fun ρ st => (fc ρ st).bind fun x st => match truD st x with
  | some true => fa ρ st
  | some false => fb ρ st
  | none => .bad
theorem te_and (ρ : Env) (st : Sto) : teT (fAnd fa fb) ρ st = (teT fa ρ st).bind fun k st => if k then teT fb ρ st else .ok false st := by
  unfold teT fAnd
  cases h : fa ρ st with
  | ok x st' =>
    simp only [R.bind]
    cases ht : truD st' x with
    | none => rfl
    | some k => cases k with
      | true => rfl
      | false => simp [R.bind, R.of, ht]
  | _ => rfl
theorem te_or (ρ : Env) (st : Sto) : teT (fOr fa fb) ρ st = (teT fa ρ st).bind fun k st => if k then .ok true st else teT fb ρ st := by
  unfold teT fOr
  cases h : fa ρ st with
  | ok x st' =>
    simp only [R.bind]
    cases ht : truD st' x with
    | none => rfl
    | some k => cases k with
      | false => rfl
      | true => simp [R.bind, R.of, ht]
  | _ => rfl
theorem te_not (ρ : Env) (st : Sto) : teT (fNot fa) ρ st = (teT fa ρ st).bind fun k st => .ok (!k) st := by
  unfold teT fNot
  cases h : fa ρ st with
  | ok x st' =>
    simp only [R.bind]
    cases ht : truD st' x with
    | none => rfl
    | some k => rfl
  | _ => rfl
theorem ex_and {rest : List Expr} (hK : T.K = X.K) (ha : PE X a (tEx T W fa)) (hb : PE X (.BoolOp .And (b :: rest) pos) (tEx T W fb)) : PE X (.BoolOp .And (a :: b :: rest) pos) (tEx T W (fAnd fa fb)) := by
  refine pe_of (pe_andT ha hb) fun σ H Q h => ?_
  obtain ⟨G, μ, ρ, st, hr, er, p⟩ := h
  refine tR.imp (tR.bind (Rel := RpD T) hr er p) fun x H1 ⟨G1, m1, s1, dx, e1, hr1, r1, p1⟩ => ?_
  cases ht : truD s1 dx with
  | none => rw [ht] at p1; exact p1.elim
  | some k =>
    rw [ht] at p1
    refine ⟨k, tru_V hK hr1 r1 ht, ?_⟩
    cases k with
    | true => exact ⟨G1, m1, ρ, s1, hr1, er.mono e1.1, p1⟩
    | false => exact p1.here hr1 r1
theorem ex_or {rest : List Expr} (hK : T.K = X.K) (ha : PE X a (tEx T W fa)) (hb : PE X (.BoolOp .Or (b :: rest) pos) (tEx T W fb)) : PE X (.BoolOp .Or (a :: b :: rest) pos) (tEx T W (fOr fa fb)) := by
  refine pe_of (pe_orT ha hb) fun σ H Q h => ?_
  obtain ⟨G, μ, ρ, st, hr, er, p⟩ := h
  refine tR.imp (tR.bind (Rel := RpD T) hr er p) fun x H1 ⟨G1, m1, s1, dx, e1, hr1, r1, p1⟩ => ?_
  cases ht : truD s1 dx with
  | none => rw [ht] at p1; exact p1.elim
  | some k =>
    rw [ht] at p1
    refine ⟨k, tru_V hK hr1 r1 ht, ?_⟩
    cases k with
    | false => exact ⟨G1, m1, ρ, s1, hr1, er.mono e1.1, p1⟩
    | true => exact p1.here hr1 r1
theorem ex_not (hK : T.K = X.K) (ha : PE X a (tEx T W fa)) : PE X (.UnaryOp .Not a pos) (tEx T W (fNot fa)) := by
  refine pe_of (pe_notT ha) fun σ H Q h => ?_
  obtain ⟨G, μ, ρ, st, hr, er, p⟩ := h
  refine tR.imp (tR.bind (Rel := RpD T) hr er p) fun x H1 ⟨G1, m1, s1, dx, e1, hr1, r1, p1⟩ => ?_
  cases ht : truD s1 dx with
  | none => rw [ht] at p1; exact p1.elim
  | some k =>
    rw [ht] at p1
    exact ⟨k, tru_V hK hr1 r1 ht, p1.here hr1 (.bl _)⟩
theorem ex_ife {ga : Env → Sto → R Bool} (hK : T.K = X.K) (hc : PT X c (tBo T W (teT fc))) (ha : PE X a (tEx T W fa)) (hb : PE X b (tEx T W fb)) : PE X (.IfExp c a b pos) (tEx T W (fIfe fc fa fb)) := by
  refine pe_of (pe_ifExp hc ha hb) fun σ H Q h => ?_
  obtain ⟨G, μ, ρ, st, hr, er, p⟩ := h
  have e : fIfe fc fa fb ρ st = (teT fc ρ st).bind fun k st => if k then fa ρ st else fb ρ st := by
    unfold teT fIfe
    cases h : fc ρ st with
    | ok x st' =>
      simp only [R.bind]
      cases ht : truD st' x with
      | none => rfl
      | some k => cases k <;> rfl
    | _ => rfl
  rw [e] at p
  refine tR.imp (tR.bind (Rel := fun _ _ (v : Bool) (b : Bool) => v = b) hr er p) fun x H1 ⟨G1, m1, s1, dx, e1, hr1, r1, p1⟩ => ?_
  subst r1
  cases x with
  | true => exact ⟨G1, m1, ρ, s1, hr1, er.mono e1.1, p1⟩
  | false => exact ⟨G1, m1, ρ, s1, hr1, er.mono e1.1, p1⟩
/-! tests -/
theorem et_and {rest : List Expr} (ha : PT X a (tBo T W (teT fa))) (hb : PW X (.BoolOp .And (b :: rest) pos) (tBo T W (teT fb))) : PW X (.BoolOp .And (a :: b :: rest) pos) (tBo T W (teT (fAnd fa fb))) := by
  refine ⟨fun wh pins s σ H Q I h => (pw_and ha hb).run wh pins s σ H Q I ?_⟩
  obtain ⟨G, μ, ρ, st, hr, er, p⟩ := h
  rw [te_and] at p
  refine tR.imp (tR.bind (Rel := fun _ _ (v : Bool) (b : Bool) => v = b) hr er p) fun x H1 ⟨G1, m1, s1, dx, e1, hr1, r1, p1⟩ => ?_
  subst r1
  cases x with
  | true => exact ⟨G1, m1, ρ, s1, hr1, er.mono e1.1, p1⟩
  | false => exact p1.here hr1 rfl
theorem et_or {rest : List Expr} (ha : PT X a (tBo T W (teT fa))) (hb : PW X (.BoolOp .Or (b :: rest) pos) (tBo T W (teT fb))) : PW X (.BoolOp .Or (a :: b :: rest) pos) (tBo T W (teT (fOr fa fb))) := by
  refine ⟨fun wh pins s σ H Q I h => (pw_or ha hb).run wh pins s σ H Q I ?_⟩
  obtain ⟨G, μ, ρ, st, hr, er, p⟩ := h
  rw [te_or] at p
  refine tR.imp (tR.bind (Rel := fun _ _ (v : Bool) (b : Bool) => v = b) hr er p) fun x H1 ⟨G1, m1, s1, dx, e1, hr1, r1, p1⟩ => ?_
  subst r1
  cases x with
  | false => exact ⟨G1, m1, ρ, s1, hr1, er.mono e1.1, p1⟩
  | true => exact p1.here hr1 rfl
theorem et_not (ha : PT X a (tBo T W (teT fa))) : PT X (.UnaryOp .Not a pos) (tBo T W (teT (fNot fa))) := by
  refine pt_of (pt_not ha) fun σ H Q h => ?_
  obtain ⟨G, μ, ρ, st, hr, er, p⟩ := h
  rw [te_not] at p
  refine tR.imp (tR.bind (Rel := fun _ _ (v : Bool) (b : Bool) => v = b) hr er p) fun x H1 ⟨G1, m1, s1, dx, e1, hr1, r1, p1⟩ => ?_
  subst r1
  exact p1.here hr1 rfl
theorem et_is {op : IO} (hl : op.lit b = true) (ha : PE X a (tEx T W fa)) : PT X (.Compare a [op.op] [b] pos) (tBo T W (teT fun ρ st => (fa ρ st).bind fun x st => R.of ((opI op x).map .bl) st)) := by
  have go : ∀ {r : R2} {tb : TE}, PT X (.Compare a [op.op] [b] pos) (tTest (tOp r (tEx T W fa) tb)) → (∀ (x : V) (G : Hp) (μ : List Addr) (dx : D) (k : Bool) (σ : L2.St) (H : Hp) (Q : VK), Rp T G μ x dx → opI op dx = some k → Q (.bl k) H → tb σ H fun y H2 => r x y H2 Q) →
      PT X (.Compare a [op.op] [b] pos) (tBo T W (teT fun ρ st => (fa ρ st).bind fun x st => R.of ((opI op x).map .bl) st)) := by
    intro r tb h k
    refine pt_of h fun σ H Q h => ?_
    obtain ⟨G, μ, ρ, st, hr, er, p⟩ := h
    have e : teT (fun ρ st => (fa ρ st).bind fun x st => R.of ((opI op x).map .bl) st) ρ st = (fa ρ st).bind fun x st => R.of (opI op x) st := by
      simp only [teT]
      cases h1 : fa ρ st with
      | ok x s1 => simp only [R.bind]; cases opI op x <;> rfl
      | _ => rfl
    rw [e] at p
    refine tR.imp (tR.bind (Rel := RpD T) hr er p) fun x H1 ⟨G1, m1, s1, dx, e1, hr1, r1, p1⟩ => ?_
    obtain ⟨kb, ek, p3⟩ := p1.of
    exact k x G1 m1 dx kb σ H1 _ r1 ek ⟨kb, rfl, p3.here hr1 rfl⟩
  cases op with
  | isN =>
    cases b <;> try (simp [IO.lit] at hl; done)
    rename_i c k p
    cases c <;> try (simp [IO.lit] at hl; done)
    refine go (pt_cmpR op_isN ha pe_non (nomark _)) fun x G μ dx k σ H Q r e q => ⟨rfl, ?_⟩
    rw [(rp_non r).1] at e
    cases e
    exact q
  | isnN =>
    cases b <;> try (simp [IO.lit] at hl; done)
    rename_i c k p
    cases c <;> try (simp [IO.lit] at hl; done)
    refine go (pt_cmpR op_notN ha pe_non (nomark _)) fun x G μ dx k σ H Q r e q => ⟨rfl, ?_⟩
    rw [(rp_non r).2] at e
    cases e
    exact q
  | isB c0 =>
    cases b <;> try (simp [IO.lit] at hl; done)
    rename_i c k p
    cases c <;> try (simp [IO.lit] at hl; done)
    rename_i c1
    have ec : c0 = c1 := by simpa [IO.lit] using hl
    subst ec
    refine go (pt_cmpR (op := .Is) op_isBl ha pe_bl (by rfl)) fun x G μ dx k σ H Q r e q => ?_
    cases r with
    | bl z =>
      cases e
      exact ⟨_, _, rfl, rfl, by rw [show decide (z = c0) = (z == c0) from by cases z <;> cases c0 <;> rfl]; exact q⟩
    | _ => cases e
  | isnB c0 =>
    cases b <;> try (simp [IO.lit] at hl; done)
    rename_i c k p
    cases c <;> try (simp [IO.lit] at hl; done)
    rename_i c1
    have ec : c0 = c1 := by simpa [IO.lit] using hl
    subst ec
    refine go (pt_cmpR (op := .IsNot) op_notBl ha pe_bl (by rfl)) fun x G μ dx k σ H Q r e q => ?_
    cases r with
    | bl z =>
      cases e
      exact ⟨_, _, rfl, rfl, by rw [show (!decide (z = c0)) = !(z == c0) from by cases z <;> cases c0 <;> rfl]; exact q⟩
    | _ => cases e
def fChain (op op' : CO) (fa fb fc : Env → Sto → R D) : Env → Sto → R D := fun ρ st => (fa ρ st).bind fun x st => (fb ρ st).bind fun y st => match opC op x y st with
      | some true => (fc ρ st).bind fun z st => R.of ((opC op' y z st).map .bl) st
      | some false => .ok (.bl false) st
      | none => .bad
theorem et_chain (hK : T.K = X.K) (hu : X.A.units + 100 < cLine) (op op' : CO) (hm : lastMarks [op.op, op'.op] [b, c] = false) (ha : PE X a (tEx T W fa)) (hb : PE X b (tEx T W fb)) (hc : PE X c (tEx T W fc)) :
    PT X (.Compare a [op.op, op'.op] [b, c] pos) (tBo T W (teT (fChain op op' fa fb fc))) := by
  refine pt_of (pt_chain (op_C hK hu op) (op_C hK hu op') ha hb hc hm) fun σ H Q h => ?_
  obtain ⟨G, μ, ρ, st, hr, er, p⟩ := h
  have e : teT (fChain op op' fa fb fc) ρ st = (fa ρ st).bind fun x st => (fb ρ st).bind fun y st => match opC op x y st with
      | some true => (fc ρ st).bind fun z st => R.of (opC op' y z st) st
      | some false => .ok false st
      | none => .bad := by
    simp only [teT, fChain]
    cases h1 : fa ρ st with
    | ok x s1 =>
      simp only [R.bind]
      cases h2 : fb ρ s1 with
      | ok y s2 =>
        simp only [R.bind]
        cases opC op x y s2 with
        | none => rfl
        | some k =>
          cases k with
          | false => rfl
          | true =>
            simp only
            cases h3 : fc ρ s2 with
            | ok z s3 => simp only [R.bind]; cases opC op' y z s3 <;> rfl
            | _ => rfl
      | _ => rfl
    | _ => rfl
  rw [e] at p
  refine tR.imp (tR.bind (Rel := RpD T) hr er p) fun x H1 ⟨G1, m1, s1, dx, e1, hr1, r1, p1⟩ => ?_
  refine tR.imp (tR.bind (Rel := RpD T) hr1 (er.mono e1.1) p1) fun y H2 ⟨G2, m2, s2, dy, e2, hr2, r2, p2⟩ => ?_
  cases h1 : opC op dx dy s2 with
  | none => rw [h1] at p2; exact p2.elim
  | some k =>
    refine ⟨G2, m2, s2, dx, dy, k, hr2, r1.mono e2.1, r2, h1, k, rfl, ?_⟩
    rw [h1] at p2
    cases k with
    | false => exact ⟨false, rfl, p2.here hr2 rfl⟩
    | true =>
      refine tR.imp (tR.bind (Rel := RpD T) hr2 ((er.mono e1.1).mono e2.1) p2) fun z H3 ⟨G3, m3, s3, dz, e3, hr3, r3, p3⟩ => ?_
      obtain ⟨k, ek, p4⟩ := p3.of
      exact ⟨G3, m3, s3, dy, dz, k, hr3, r2.mono e3.1, r3, ek, k, rfl, p4.here hr3 rfl⟩
/-- a comparison, as a test: its value is a bool -/
theorem et_cmp (hK : T.K = X.K) (hu : X.A.units + 100 < cLine) (op : CO) (hm : behindInMarks op.op b = false) (ha : PE X a (tEx T W fa)) (hb : PE X b (tEx T W fb)) :
    PT X (.Compare a [op.op] [b] pos) (tBo T W (teT fun ρ st => (fa ρ st).bind fun x st => (fb ρ st).bind fun y st => R.of ((opC op x y st).map .bl) st)) := by
  refine pt_of (pt_cmpR (op_C hK hu op) ha hb hm) fun σ H Q h => ?_
  obtain ⟨G, μ, ρ, st, hr, er, p⟩ := h
  have e : teT (fun ρ st => (fa ρ st).bind fun x st => (fb ρ st).bind fun y st => R.of ((opC op x y st).map .bl) st) ρ st = (fa ρ st).bind fun x st => (fb ρ st).bind fun y st => R.of (opC op x y st) st := by
    simp only [teT]
    cases h1 : fa ρ st with
    | ok x s1 =>
      simp only [R.bind]
      cases h2 : fb ρ s1 with
      | ok y s2 => simp only [R.bind]; cases opC op x y s2 <;> rfl
      | _ => rfl
    | _ => rfl
  rw [e] at p
  refine tR.imp (tR.bind (Rel := RpD T) hr er p) fun x H1 ⟨G1, m1, s1, dx, e1, hr1, r1, p1⟩ => ?_
  refine tR.imp (tR.bind (Rel := RpD T) hr1 (er.mono e1.1) p1) fun y H2 ⟨G2, m2, s2, dy, e2, hr2, r2, p2⟩ => ?_
  obtain ⟨k, ek, p3⟩ := p2.of
  exact ⟨G2, m2, s2, dx, dy, k, hr2, r1.mono e2.1, r2, ek, k, rfl, p3.here hr2 rfl⟩
end
end DI
set_option Elab.async false
set_option linter.all false
set_option maxRecDepth 100000
set_option maxHeartbeats 4000000
set_option autoImplicit false
namespace DI
open PySem PySem.Spec PyProof.Rows L2
abbrev RpLs (T : Tb) : Hp → List Addr → List V → List D → Prop := fun G μ v d => RpL T G μ v d
def nst : Expr → Bool
  | .Starred _ _ => false
  | _ => true
def nsl : Expr → Bool
  | .Slice _ _ _ _ => false
  | _ => true
theorem star_cons {e : Expr} {es : List Expr} {env : PySem.Env} (h : nst e = true) : starEach (e :: es) env = (false, eval e env) :: starEach es env := by
  cases e <;> first | rfl | cases h
theorem star_plain (pos : Pos) (env : PySem.Env) : ∀ es : List Expr, es.all nst = true → (backTo pos (starEach es env)).any (·.1) = false
  | [], _ => rfl
  | e :: es, h => by
    simp only [List.all_cons, Bool.and_eq_true] at h
    rw [star_cons h.1]
    simp only [backTo, List.map_cons, List.any_cons, Bool.false_or]
    exact star_plain pos env es h.2
theorem star_few (pos : Pos) (env : PySem.Env) : ∀ es : List Expr, es.all nst = true → (backTo pos (starEach es env)).all (fun x => !x.1) = true
  | [], _ => rfl
  | e :: es, h => by
    simp only [List.all_cons, Bool.and_eq_true] at h
    rw [star_cons h.1]
    simp only [backTo, List.map_cons, List.all_cons, Bool.not_false, Bool.true_and]
    exact star_few pos env es h.2
theorem plain_ix {b : Expr} (h : nsl b = true) : PlainIx b := fun o i => by
  cases b <;> first | rfl | cases h
section
variable {X : Cx} {T : Tb} {W : L2.St → XK} {a b c e : Expr} {es : List Expr} {fa fb fc : Env → Sto → R D} {fs : Env → Sto → R (List D)} {pos : Pos}
theorem ea_nil : PA X [] (tLi T W fun _ st => .ok [] st) := pa_of pa_nil fun σ H Q h => by
  obtain ⟨G, μ, ρ, st, hr, er, p⟩ := h
  exact p.here hr .nil
theorem ea_cons (hn : nst e = true) (ha : PE X e (tEx T W fa)) (hs : PA X es (tLi T W fs)) : PA X (e :: es) (tLi T W fun ρ st => (fa ρ st).bind fun d st => (fs ρ st).bind fun ds st => .ok (d :: ds) st) := by
  refine pa_of (pa_cons ha hs (star_cons hn)) fun σ H Q h => ?_
  obtain ⟨G, μ, ρ, st, hr, er, p⟩ := h
  refine tR.imp (tR.bind (Rel := RpD T) hr er p) fun x H1 ⟨G1, m1, s1, dx, e1, hr1, r1, p1⟩ => ?_
  refine tR.imp (tR.bind (Rel := RpLs T) hr1 (er.mono e1.1) p1) fun y H2 ⟨G2, m2, s2, dy, e2, hr2, r2, p2⟩ => ?_
  exact p2.here hr2 (.cons (r1.mono e2.1) r2)
theorem ex_tup {k : Nat} (hs : PA X es (tLi T W fs)) : PE X (.Tuple es k pos) (tEx T W fun ρ st => (fs ρ st).bind fun ds st => if ds.length ≤ SZ then .ok (.tup ds) st else .bad) := by
  refine pe_of (DN.pe_tupF hs) fun σ H Q h => ?_
  obtain ⟨G, μ, ρ, st, hr, er, p⟩ := h
  refine tR.imp (tR.bind (Rel := RpLs T) hr er p) fun xs H1 ⟨G1, m1, s1, ds, e1, hr1, r1, p1⟩ => ?_
  split at p1
  · rename_i hz
    refine ⟨by rw [r1.len]; exact sz_le hz, fun q ob hq od => ?_⟩
    obtain ⟨k1, k2⟩ := hr1.known (o := .frz ob (.tup xs)) hq
    exact p1 _ _ _ _ k2 k1 (.tup sqt_new (r1.mono k2.1) (pq_new od))
  · exact p1.elim
/-- a new list, kept or numbered -/
theorem new_list {G : Hp} {μ : List Addr} {st : Sto} {H : Hp} {xs : List V} {ds : List D} {mu : Bool} {Q : VK} {w : XK} {p : Addr} (hr : Hr T G μ st H) (r : RpL T G μ xs ds) (h : Pr T (RpD T) w G μ H Q (mkL mu (.lst ds) st)) (hp : H p = none) : Q (.ref p) (upd H p (.lst xs)) := by
  cases mu with
  | false =>
    obtain ⟨k1, k2⟩ := hr.known (o := .lst xs) hp
    exact h _ _ _ _ k2 k1 (.lst upd_same (r.mono k2.1))
  | true =>
    obtain ⟨k1, k2⟩ := hr.laid hp r
    exact h _ _ _ _ k2 k1 (.loc (by rw [← hr.len]; simp))
theorem newL_mk {mu : Bool} {ds : List D} {st : Sto} : newL mu ds st = if ds.length ≤ SZ then mkL mu (.lst ds) st else .bad := by
  unfold newL mkL
  cases mu <;> rfl
theorem ex_lst (mu : Bool) (hs : PA X es (tLi T W fs)) : PE X (.List es pos) (tEx T W fun ρ st => (fs ρ st).bind fun ds st => newL mu ds st) := by
  refine pe_of (pe_lst hs) fun σ H Q h => ?_
  obtain ⟨G, μ, ρ, st, hr, er, p⟩ := h
  refine tR.imp (tR.bind (Rel := RpLs T) hr er p) fun xs H1 ⟨G1, m1, s1, ds, e1, hr1, r1, p1⟩ => ?_
  rw [newL_mk] at p1
  split at p1
  · rename_i hz
    exact ⟨by rw [r1.len]; exact sz_le hz, fun q hq => new_list hr1 r1 p1 hq⟩
  · exact p1.elim
theorem ixD_N : ixD = ixN := rfl
def rIxG : R2 := fun x y H Q => ∃ a v, x = .ref a ∧ DGet H a y (some v) ∧ Q v H
theorem ix_dct (hu : X.A.units + 1 < cLine) : IxR X rIxG := by
  intro value slice pins s σ H x y v u Q I rx ry h hs
  obtain ⟨a, w, rfl, g, q⟩ := h
  obtain rfl : v = Value.ref a := rx
  exact tail_any (dict_typeIs I g) PySem.F.slot_dict_getitem.lookup (d_getItem hu I g ry fun w' s3 I3 rw' => ⟨w, H, I3, rw', q⟩) hs
section
variable {prog : Program} {w : World} {A : Around} {E : Value → Shared → Prop} {s : Shared}
theorem listSub_bool {k : Bool} {Q : Option Int → Shared → Prop} (h : Q (some (if k = true then 1 else 0)) s) : wpAny (model prog w) A (Builtin.List.listSubscript? (.bool k)) Q E s := by
  unfold Builtin.List.listSubscript?
  refine wpAny_bind (wpAny_specialOf (T := "bool") (typeIs_bool' s k) F.slot_bool_index.lookup ?_)
  show wpAny _ A (asIndex (.bool k) >>= _) Q E s
  cases k
  · refine wpAny_bind (wpAny_of_eq (a := 0) rfl ?_)
    show wpAny _ A (if (!Builtin.List.listFitsIndex 0) = true then _ else _) Q E s
    rw [if_neg (by decide)]
    exact wpAny_pure h
  · refine wpAny_bind (wpAny_of_eq (a := 1) rfl ?_)
    show wpAny _ A (if (!Builtin.List.listFitsIndex 1) = true then _ else _) Q E s
    rw [if_neg (by decide)]
    exact wpAny_pure h
theorem getItem_list_bool {l : Addr} {items : Array Value} {k : Bool} {x : Value} {Q : Value → Shared → Prop} (hl : s.heap.IsList l items)
    (hx : items[if k = true then 1 else 0]? = some x) (h : Q x s) : wpAny (model prog w) A (getItem (.ref l) (.bool k)) Q E s := by
  obtain ⟨o, ho, hc, ne, hd⟩ := id hl
  unfold getItem
  try with_reducible refine wpAny_holding ?_
  first | refine wpAny_bind (wpAny_pure ?_) | skip
  refine wpAny_bind (wpAny_sequenceKey hl.typeIs (by decide) ?_)
  refine wpAny_bind (wpAny_callSpecial?_slot (name := Str.ofString "__getitem__") hl.typeIs slot_list_getitem
    (wpAny_call_entry slot_list_getitem hl.typeIs entry_list_getitem ?_ (args_list_getitem _ _)))
  show wpAny _ _ (Builtin.List.listSubscript? (.bool k) >>= _) _ _ s
  refine wpAny_bind (listSub_bool ?_)
  cases k
  · show wpAny _ _ ((seqItemAt l 0 >>= fun r => pure (r.map (0, ·))) >>= _) _ _ s
    have hx : items[0]? = some x := hx
    refine wpAny_bind (wpAny_bind (wpAny_seqItemAt ho hd (wpAny_pure ?_)))
    rw [hx]
    first
      | exact wpAny_bind (wpAny_pure (wpAny_pure ⟨x, rfl, wpAny_pure h⟩))
      | exact wpAny_pure ⟨x, rfl, wpAny_pure h⟩
  · show wpAny _ _ ((seqItemAt l 1 >>= fun r => pure (r.map (1, ·))) >>= _) _ _ s
    have hx : items[1]? = some x := hx
    refine wpAny_bind (wpAny_bind (wpAny_seqItemAt ho hd (wpAny_pure ?_)))
    rw [hx]
    first
      | exact wpAny_bind (wpAny_pure (wpAny_pure ⟨x, rfl, wpAny_pure h⟩))
      | exact wpAny_pure ⟨x, rfl, wpAny_pure h⟩
end
def rIxB (K : PySem.W.Frag) : R2 := fun x y H Q => ∃ a vs b v, x = .ref a ∧ y = .bl b ∧ SqL K H a vs ∧ vs[if b = true then 1 else 0]? = some v ∧ Q v H
theorem ix_bool : IxR X (rIxB X.K) := by
  intro value slice pins s σ H x y v u Q I rx ry h hs
  obtain ⟨p, xs, b, z, rfl, rfl, hq, he, q⟩ := h
  cases rx
  cases ry
  obtain ⟨its, r, pl, hz⟩ := I.list hq
  obtain ⟨w, ew, rw'⟩ := r.get he
  have fin : EP X pins σ Q w s := ⟨z, H, I, rw', q⟩
  exact subscriptTail_builtinR (x := w) pl.isList.typeIs slot_list_getitem.lookup
    (getItem_list_bool (Q := fun r s' => r = w ∧ EP X pins σ Q r s') pl.isList (by simpa using ew) ⟨rfl, fin⟩) hs
theorem ex_idx (hK : T.K = X.K) (hu : X.A.units + 100 < cLine) (hn : nsl b = true) (ha : PE X a (tEx T W fa)) (hb : PE X b (tEx T W fb)) : PE X (.Subscript a b pos) (tEx T W fun ρ st => (fa ρ st).bind fun x st => (fb ρ st).bind fun y st => R.of (idxD x y st) st) := by
  refine pe_of (pe_ix (ix_bool.or (ix_seq.or (ix_dct (by omega)))) ha hb (plain_ix hn)) fun σ H Q h => ?_
  obtain ⟨G, μ, ρ, st, hr, er, p⟩ := h
  refine tR.imp (tR.bind (Rel := RpD T) hr er p) fun x H1 ⟨G1, m1, s1, dx, e1, hr1, r1, p1⟩ => ?_
  refine tR.imp (tR.bind (Rel := RpD T) hr1 (er.mono e1.1) p1) fun y H2 ⟨G2, m2, s2, dy, e2, hr2, r2, p2⟩ => ?_
  obtain ⟨z, ez, p3⟩ := p2.of
  have r1 := r1.mono e2.1
  unfold idxD at ez
  split at ez
  · rename_i kvs hd
    split at ez
    · rename_i hk
      obtain ⟨ad, o, rfl, g, _, hz⟩ := dct_get hr2 r1 hd r2 hk
      obtain ⟨u, rfl, ru⟩ := hz z ez
      exact .inr (.inr ⟨ad, u, rfl, g, p3.here hr2 ru⟩)
    · cases ez
  cases r2 with
  | bl b =>
    left
    obtain ⟨xs, h1, ez⟩ := Option.bind_eq_some_iff.mp ez
    obtain ⟨ad, vs, rfl, ha, rl⟩ := lstD_at hr2 r1 h1
    obtain ⟨v, hv, rv⟩ := rl.get ez
    exact ⟨ad, vs, b, v, rfl, rfl, .inl (.inl ha), hv, p3.here hr2 rv⟩
  | int i =>
    right
    left
    have seqs : (seqD s2 dx).bind (fun xs => (ixD xs.length i).bind fun j => xs[j]?) = some z → rIx X.K x (.int i) H2 Q := fun ez => by
      obtain ⟨xs, h1, ez⟩ := Option.bind_eq_some_iff.mp ez
      obtain ⟨j, h2, ez⟩ := Option.bind_eq_some_iff.mp ez
      obtain ⟨ad, vs, rfl, rl, hh⟩ := seqD_at hr2 r1 h1
      obtain ⟨v, hv, rv⟩ := rl.get ez
      have ha : atI vs i = some v := by
        unfold atI
        rw [rl.len, ← ixD_N, h2]
        exact hv
      rcases hh with ⟨hl, _⟩ | ⟨ht, _⟩
      · exact .inl ⟨ad, vs, i, v, rfl, rfl, hK ▸ hl, ha, p3.here hr2 rv⟩
      · exact .inr (.inl ⟨ad, vs, i, v, rfl, rfl, hK ▸ ht, ha, p3.here hr2 rv⟩)
    cases r1 with
    | str s hs =>
      obtain ⟨j, h2, ez⟩ := Option.bind_eq_some_iff.mp ez
      simp only [Option.map_eq_some_iff] at ez
      obtain ⟨cd, hc, rfl⟩ := ez
      refine .inr (.inr ⟨_, i, cd, rfl, rfl, by rw [txS_len]; exact hs.2, ?_, p3.here hr2 (.str [cd] ⟨strOk_sub hs.1 fun z hz => ?_, by show 1 ≤ sizeLine; decide⟩)⟩)
      · show atI s i = some cd
        unfold atI
        rw [← ixD_N, h2]
        exact hc
      · simp at hz
        subst hz
        exact List.mem_of_getElem? hc
    | tup h1 h2 h9 => exact seqs ez
    | lst h1 h2 => exact seqs ez
    | ro h1 h2 => exact seqs ez
    | loc h1 => exact seqs ez
    | non => exact seqs ez
    | bl _ => exact seqs ez
    | int _ => exact seqs ez
    | exc _ _ _ => exact seqs ez
  | _ => cases ez
/-! ### slices -/
abbrev tOo (T : Tb) (W : L2.St → XK) (f : Env → Sto → R (Option Int)) : TO := tR T (fun _ _ (v : Option Int) (b : Option Int) => v = b) W f
theorem eo_none : PO X none (tOo T W fun _ st => .ok none st) := ⟨fun pins s σ H Q I h => po_none.run pins s σ H Q I (by
  obtain ⟨G, μ, ρ, st, hr, er, p⟩ := h
  exact p.here hr rfl)⟩
theorem eo_some (ha : PE X a (tEx T W fa)) : PO X (some a) (tOo T W fun ρ st => (fa ρ st).bind fun x st => match x with
    | .int i => .ok (some i) st
    | _ => .bad) := ⟨fun pins s σ H Q I h => (po_some ha).run pins s σ H Q I (by
  obtain ⟨G, μ, ρ, st, hr, er, p⟩ := h
  refine tR.imp (tR.bind (Rel := RpD T) hr er p) fun x H1 ⟨G1, m1, s1, dx, e1, hr1, r1, p1⟩ => ?_
  cases r1 with
  | int i => exact ⟨i, rfl, p1.here hr1 rfl⟩
  | _ => exact p1.elim)⟩
theorem sIxD_eq (n d : Nat) : sIxD n d = HT.sIx n d := by
  funext o
  cases o <;> rfl
theorem rpl_cut {G : Hp} {μ : List Addr} {vs : List V} {ds : List D} (r : RpL T G μ vs ds) (lo hi : Option Int) : RpL T G μ (cutV vs lo hi) (cutD ds lo hi) := by
  unfold cutV cutD
  rw [sIxD_eq, sIxD_eq, r.len]
  exact (r.drop _).take _
theorem ex_cat (ha : PE X a (tEx T W fa)) (hb : PE X b (tEx T W fb)) :
    PE X (.BinOp a .Add b pos) (tEx T W fun ρ st => (fa ρ st).bind fun x st => (fb ρ st).bind fun y st => catD x y st) := by
  refine pe_of (pe_op op_cat ha hb) fun σ H Q h => ?_
  obtain ⟨G, μ, ρ, st, hr, er, p⟩ := h
  refine tR.imp (tR.bind (Rel := RpD T) hr er p) fun x H1 ⟨G1, m1, s1, dx, e1, hr1, r1, p1⟩ => ?_
  refine tR.imp (tR.bind (Rel := RpD T) hr1 (er.mono e1.1) p1) fun y H2 ⟨G2, m2, s2, dy, e2, hr2, r2, p2⟩ => ?_
  have r1 := r1.mono e2.1
  unfold catD at p2
  split at p2
  · rename_i xs ys hx hy
    split at p2
    · rename_i hz
      obtain ⟨l, vs, rfl, hl, rl⟩ := lstD_at hr2 r1 hx
      obtain ⟨b, ws, rfl, hb, rb⟩ := lstD_at hr2 r2 hy
      exact ⟨l, b, vs, ws, rfl, rfl, hl, hb, sz_le (by rw [rl.len, rb.len]; exact hz), fun q hq => new_list (mu := true) hr2 (rl.app rb) p2 hq⟩
    · exact p2.elim
  · exact p2.elim
theorem ex_rev {k : Nat} {p1 p2 p3 : Pos} (hK : T.K = X.K) (mu : Bool) (ha : PE X a (tEx T W fa)) :
    PE X (.Subscript a (.Slice none none (some (.UnaryOp .USub (.Constant (.int 1) k p1) p2)) p3) pos) (tEx T W fun ρ st => (fa ρ st).bind fun x st => (R.of (revD x st) st).bind fun d st => mkL mu d st) := by
  refine pe_of (DN.pe_revA ha) fun σ H Q h => ?_
  obtain ⟨G, μ, ρ, st, hr, er, p⟩ := h
  refine tR.imp (tR.bind (Rel := RpD T) hr er p) fun x H1 ⟨G1, m1, s1, dx, e1, hr1, r1, p1⟩ => ?_
  have lists : (∃ xs, lstD s1 dx = some xs ∧ Pr T (RpD T) (W σ) G1 m1 H1 Q (mkL mu (.lst xs.reverse) s1)) → ∃ a vs, x = .ref a ∧ ((SqL X.K H1 a vs ∧ ∀ q, H1 q = none → Q (.ref q) (upd H1 q (.lst vs.reverse))) ∨ (SqT X.K H1 a vs ∧ DN.newF H1 Q vs.reverse)) := by
    rintro ⟨xs, hd, p1⟩
    obtain ⟨a, vs, rfl, ha, ra⟩ := lstD_at hr1 r1 hd
    exact ⟨a, vs, rfl, .inl ⟨.inl (.inl ha), fun q hq => new_list hr1 ra.reverse p1 hq⟩⟩
  have other : (∀ ys, dx ≠ .tup ys) → ∃ xs, lstD s1 dx = some xs ∧ Pr T (RpD T) (W σ) G1 m1 H1 Q (mkL mu (.lst xs.reverse) s1) := by
    intro nt
    have e : revD dx s1 = (lstD s1 dx).map fun xs => .lst xs.reverse := by
      cases dx <;> first | rfl | exact absurd rfl (nt _)
    rw [e] at p1
    cases hd : lstD s1 dx with
    | none => rw [hd] at p1; exact p1.elim
    | some xs => rw [hd] at p1; exact ⟨xs, rfl, p1⟩
  cases dx with
  | tup ys =>
    cases r1 with
    | @tup a vs _ h1 h2 h9 =>
      have p1 : Pr T (RpD T) (W σ) G1 m1 H1 Q (mkL mu (.tup ys.reverse) s1) := p1
      have p1 : Pr T (RpD T) (W σ) G1 m1 H1 Q (.ok (.tup ys.reverse) s1) := by
        cases mu <;> exact p1
      refine ⟨a, vs, rfl, .inr ⟨hK ▸ sqt_sub hr1 h1, fun q ob hq od => ?_⟩⟩
      obtain ⟨k1, k3⟩ := hr1.known (o := .frz ob (.tup vs.reverse)) hq
      exact p1 _ _ _ _ k3 k1 (.tup sqt_new (h2.reverse.mono k3.1) (pq_new od))
  | _ => exact lists (other fun _ h => nomatch h)
theorem ex_slc {lo hi : Option Expr} {fl fh : Env → Sto → R (Option Int)} {p2 : Pos} (hK : T.K = X.K) (mu : Bool) (ha : PE X a (tEx T W fa)) (hl : PO X lo (tOo T W fl)) (hh : PO X hi (tOo T W fh)) :
    PE X (.Subscript a (.Slice lo hi none p2) pos) (tEx T W fun ρ st => (fa ρ st).bind fun x st => (fl ρ st).bind fun l st => (fh ρ st).bind fun h st => (R.of (slcD x l h st) st).bind fun d st => mkL mu d st) := by
  refine pe_of (pe_slice (sl_list.or (DN.sl_tupF.or sl_str)) ha hl hh) fun σ H Q h => ?_
  obtain ⟨G, μ, ρ, st, hr, er, p⟩ := h
  refine tR.imp (tR.bind (Rel := RpD T) hr er p) fun x H1 ⟨G1, m1, s1, dx, e1, hr1, r1, p1⟩ => ?_
  refine tR.imp (tR.bind (Rel := fun _ _ (v : Option Int) (b : Option Int) => v = b) hr1 (er.mono e1.1) p1) fun l H2 ⟨G2, m2, s2, dl, e2, hr2, r2, p2⟩ => ?_
  refine tR.imp (tR.bind (Rel := fun _ _ (v : Option Int) (b : Option Int) => v = b) hr2 ((er.mono e1.1).mono e2.1) p2) fun h H3 ⟨G3, m3, s3, dh, e3, hr3, r3, p3⟩ => ?_
  subst r2 r3
  have r1 := (r1.mono e2.1).mono e3.1
  cases hd : slcD dx l h s3 with
  | none => rw [hd] at p3; exact p3.elim
  | some d =>
    rw [hd] at p3
    have p3 : Pr T (RpD T) (W σ) G3 m3 H3 Q (mkL mu d s3) := p3
    have seqs : (seqD s3 dx).map (fun xs => D.lst (cutD xs l h)) = some d → (∀ ys, dx ≠ .tup ys) → rSlL X.K x l h H3 Q := fun ez nt => by
      simp only [Option.map_eq_some_iff] at ez
      obtain ⟨xs, h1, rfl⟩ := ez
      obtain ⟨ad, vs, rfl, rl, hh⟩ := seqD_at hr3 r1 h1
      rcases hh with ⟨hl, _⟩ | ⟨_, z⟩
      · exact ⟨ad, vs, rfl, hK ▸ hl, fun q hq => new_list hr3 (rpl_cut rl l h) p3 hq⟩
      · exact absurd z (nt xs)
    cases r1 with
    | str s hs =>
      cases hd
      have e4 : mkL mu (.str (cutD s l h)) s3 = .ok (.str (cutD s l h)) s3 := by cases mu <;> rfl
      rw [e4] at p3
      refine .inr (.inr ⟨_, rfl, by rw [txS_len]; exact hs.2, ?_⟩)
      have e5 : cutS (txS s) l h = txS (cutD s l h) := by
        unfold cutS cutD txS
        rw [sIxD_eq, sIxD_eq]
        simp [Str.length]
      rw [e5]
      have hsub : ∀ z ∈ cutD s l h, z ∈ s := fun z hz => List.mem_of_mem_drop (List.mem_of_mem_take hz)
      have hlen : (cutD s l h).length ≤ s.length := by
        unfold cutD
        rw [List.length_take, List.length_drop]
        omega
      exact p3.here hr3 (.str _ ⟨strOk_sub hs.1 hsub, Nat.le_trans hlen hs.2⟩)
    | @tup ad vs ds h1 h2 h9 =>
      cases hd
      have e4 : mkL mu (.tup (cutD ds l h)) s3 = .ok (.tup (cutD ds l h)) s3 := by cases mu <;> rfl
      rw [e4] at p3
      have rc := rpl_cut h2 l h
      refine .inr (.inl ⟨ad, vs, rfl, hK ▸ sqt_sub hr3 h1, fun hw => ?_, fun _ q ob hq od => ?_⟩)
      · have e5 : cutV vs l h = vs := by
          unfold cutV
          rw [hw.1, hw.2]
          simp
        have e6 : cutD ds l h = ds := by
          have hl := h2.len
          have e1 : sIxD ds.length 0 l = HT.sIx vs.length 0 l := by rw [hl]; cases l <;> rfl
          have e2 : sIxD ds.length ds.length h = HT.sIx vs.length vs.length h := by rw [hl]; cases h <;> rfl
          unfold cutD
          rw [e1, e2, hw.1, hw.2, hl]
          simp
        rw [e5] at rc
        rw [e6] at rc p3
        exact p3.here hr3 (.tup h1 rc h9)
      · obtain ⟨k1, k2⟩ := hr3.known (o := .frz ob (.tup (cutV vs l h))) hq
        exact p3 _ _ _ _ k2 k1 (.tup sqt_new (rc.mono k2.1) (pq_new od))
    | lst h1 h2 => exact .inl (seqs hd fun _ z => by cases z)
    | ro h1 h2 => exact .inl (seqs hd fun _ z => by cases z)
    | loc h1 => exact .inl (seqs hd fun _ z => by cases z)
    | non => exact .inl (seqs hd fun _ z => by cases z)
    | bl _ => exact .inl (seqs hd fun _ z => by cases z)
    | int _ => exact .inl (seqs hd fun _ z => by cases z)
    | exc _ _ _ => exact .inl (seqs hd fun _ z => by cases z)
end
end DI
set_option Elab.async false
set_option linter.all false
set_option maxRecDepth 100000
set_option maxHeartbeats 4000000
set_option autoImplicit false
namespace DI
open PySem PySem.Spec PyProof.Rows L2
/-- what a def promises: its run -/
def spD (T : Tb) (np : Nat) (cal : List D → Sto → R D) : Sp := fun vs H Q E => ∃ (G : Hp) (μ : List Addr) (st : Sto) (ds : List D), Hr T G μ st H ∧ RpL T G μ vs ds ∧ ds.length = np ∧ Pr T (RpD T) E G μ H Q (cal ds st)
section
variable {X : Cx} {T : Tb} {W : L2.St → XK} {e : Expr} {es : List Expr} {kws : List Keyword} {fa : Env → Sto → R D} {fs fk : Env → Sto → R (List D)} {pos p : Pos} {x : Str}
variable {CX : CXT} {n np : Nat} {f : Addr} {fd : FuncData} {ps : List Str} {cal : List D → Sto → R D}
theorem ex_call (F : FnOk X.prog X.w X.K X.mg X.base CX n f fd ps (spD T np cal)) (hr : Room n X.A) (hg : Gl X x) (hm : X.mg x = some (.ref f)) (hk : PySem.W.keepIn X.K (.ref f) = true) (hb : Binds X.K fd ps []) (hx : ∀ σ, PassesAt CX X σ (W σ))
    (hdb : (x == ("__debug__" : Str)) = false) (hn : (e :: es).all nst = true) (hl : (∀ ρ st vs st', fs ρ st = .ok vs st' → vs.length = np)) (ha : PA X (e :: es) (tLi T W fs)) :
    PE X (.Call (.Name x p) (e :: es) [] pos) (tEx T W fun ρ st => (fs ρ st).bind fun vs st => cal vs st) := by
  have hn' : nst e = true ∧ es.all nst = true := by simpa using hn
  refine pe_of (pe_callSD F hr hg hm hk hb .nil hx ha hdb (star_cons hn'.1) (star_plain pos X.env es hn'.2)) fun σ H Q h => ?_
  obtain ⟨G, μ, ρ, st, hr, er, p⟩ := h
  have hl' : ∀ vs st', fs ρ st = .ok vs st' → vs.length = np := fun vs st' q => hl ρ st vs st' q
  dsimp only at p
  cases hf : fs ρ st with
  | ok vs s1 =>
    refine ⟨G, μ, ρ, st, hr, er, ?_⟩
    rw [hf] at p ⊢
    intro G1 m1 H1 us e1 hr1 r1
    refine ⟨G1, m1, s1, vs, hr1, ?_, hl' vs s1 hf, Pr.mono e1 p⟩
    rw [List.append_nil]
    exact r1
  | err c q s1 =>
    refine ⟨G, μ, ρ, st, hr, er, ?_⟩
    rw [hf] at p ⊢
    exact p
  | bad => rw [hf] at p; exact p.elim
theorem ex_call0 (F : FnOk X.prog X.w X.K X.mg X.base CX n f fd ps (spD T 0 cal)) (hr : Room n X.A) (hg : Gl X x) (hm : X.mg x = some (.ref f)) (hk : PySem.W.keepIn X.K (.ref f) = true) (hb : Binds X.K fd ps []) (hx : ∀ σ, PassesAt CX X σ (W σ))
    (hdb : (x == ("__debug__" : Str)) = false) : PE X (.Call (.Name x p) [] [] pos) (tEx T W fun ρ st => cal [] st) := by
  refine ⟨fun pins s σ H Q I h => ?_⟩
  obtain ⟨G, μ, ρ, st, hrr, er, q⟩ := h
  refine wpAny_Call_Name_kw (ld_glob I hg hm ?_ hdb)
  exact PySem.W.callWith_K0 I.kIn hk (run_fnSD (E := W) (us := []) F hr hb .nil (hx σ) I .nil ⟨G, μ, st, [], hrr, .nil, rfl, q⟩)
/-! ### keywords -/
theorem ek_nil : PK X [] (tLi T W fun _ st => .ok [] st) := ⟨fun pos pins s σ H Q I h => pk_nil.run pos pins s σ H Q I (by
  obtain ⟨G, μ, ρ, st, hr, er, p⟩ := h
  exact p.here hr .nil)⟩
theorem ek_cons {nm : Option Str} {kp : Pos} (ha : PE X e (tEx T W fa)) (hs : PK X kws (tLi T W fs)) : PK X (⟨nm, e, kp⟩ :: kws) (tLi T W fun ρ st => (fa ρ st).bind fun d st => (fs ρ st).bind fun ds st => .ok (d :: ds) st) :=
  ⟨fun pos pins s σ H Q I h => (pk_cons ha hs).run pos pins s σ H Q I (by
  obtain ⟨G, μ, ρ, st, hr, er, p⟩ := h
  refine tR.imp (tR.bind (Rel := RpD T) hr er p) fun x H1 ⟨G1, m1, s1, dx, e1, hr1, r1, p1⟩ => ?_
  refine tR.imp (tR.bind (Rel := RpLs T) hr1 (er.mono e1.1) p1) fun y H2 ⟨G2, m2, s2, dy, e2, hr2, r2, p2⟩ => ?_
  exact p2.here hr2 (.cons (r1.mono e2.1) r2))⟩
theorem kw_all (pos : Pos) (env : PySem.Env) : ∀ kws : List Keyword, kws.all (fun k => k.arg.isSome) = true → (backToKw pos (keywordEach kws env)).all (·.1.isSome) = true
  | [], _ => rfl
  | ⟨nm, e, kp⟩ :: r, h => by
    simp only [List.all_cons, Bool.and_eq_true] at h
    simp only [keywordEach, backToKw, List.map_cons, List.all_cons, Bool.and_eq_true]
    exact ⟨h.1, kw_all pos env r h.2⟩
theorem kw_none (pos : Pos) (env : PySem.Env) : ∀ kws : List Keyword, kws.all (fun k => k.arg.isSome) = true → (backToKw pos (keywordEach kws env)).any (·.1.isNone) = false
  | [], _ => rfl
  | ⟨nm, e, kp⟩ :: r, h => by
    simp only [List.all_cons, Bool.and_eq_true] at h
    simp only [keywordEach, backToKw, List.map_cons, List.any_cons, Bool.or_eq_false_iff]
    refine ⟨?_, kw_none pos env r h.2⟩
    cases nm with
    | none => simp at h
    | some _ => rfl
theorem kw_names (pos : Pos) (env : PySem.Env) : ∀ kws : List Keyword, (backToKw pos (keywordEach kws env)).filterMap (·.1) = kws.filterMap (·.arg)
  | [] => rfl
  | ⟨nm, e, kp⟩ :: r => by
    have ih := kw_names pos env r
    simp only [backToKw] at ih
    simp only [keywordEach, backToKw, List.map_cons, List.filterMap_cons]
    rw [ih]
def permV {α : Type} (pm : List Nat) (vs : List α) : List α := pm.filterMap fun j => vs[j]?
theorem rpl_perm {G : Hp} {μ : List Addr} {vs : List V} {ds : List D} (r : RpL T G μ vs ds) : ∀ pm : List Nat, RpL T G μ (permV pm vs) (permD ds pm)
  | [] => .nil
  | j :: pm => by
    have ih := rpl_perm r pm
    unfold permV permD at *
    rw [List.filterMap_cons, List.filterMap_cons]
    cases h : ds[j]? with
    | none =>
      have h2 : vs[j]? = none := by
        rw [List.getElem?_eq_none_iff] at h ⊢
        rw [r.len]; exact h
      rw [h2]
      exact ih
    | some d =>
      obtain ⟨v, hv, rv⟩ := r.get h
      rw [hv]
      exact .cons rv ih
/-- how a call with n positional values and the keywords ks binds -/
def KwB (K : PySem.W.Frag) (fd : FuncData) (ps : List Str) (n : Nat) (ks : List Str) (pm : List Nat) : Prop :=
  ∀ (s : Shared) (us ws : List Value), K.In s.heap → us.length = n → ws.length = ks.length → BindsTo s fd ⟨us, ks.zip ws⟩ (ps.zip (permV pm (us ++ ws)))
theorem vals_perm {vs : List V} {us : List Value} (r : Vals vs us) : ∀ pm : List Nat, Vals (permV pm vs) (permV pm us)
  | [] => .nil
  | j :: pm => by
    have ih := vals_perm r pm
    unfold permV at *
    rw [List.filterMap_cons, List.filterMap_cons]
    cases h : vs[j]? with
    | none =>
      rw [Vals.none_of r h]
      exact ih
    | some d =>
      obtain ⟨v, hv, rv⟩ := Vals.get r h
      rw [hv]
      exact .cons rv ih
theorem run_kw {n0 : Nat} {ks : List Str} {pm : List Nat} {pins : List (Addr × Obj)} {σ : L2.St} {H : Hp} {s : Shared} {Q : VK} {us ws : List Value} {vs zs : List V} {E : L2.St → XK} {sp : Sp} (F : FnOk X.prog X.w X.K X.mg X.base CX n f fd ps sp) (hr : Room n X.A) (hb : KwB X.K fd ps n0 ks pm) (hx : PassesAt CX X σ (E σ))
    (I : Inv X pins σ H s) (r : Vals vs us) (rz : Vals zs ws) (l1 : vs.length = n0) (l2 : zs.length = ks.length) (h : sp (permV pm (vs ++ zs)) H Q (E σ)) : wpAny (model X.prog X.w) X.A (call (.ref f) us (ks.zip ws)) (EP X pins σ Q) X.xe s := by
  have r2 := vals_perm (r.append rz) pm
  refine wpAny_call (codeAny_mono (F.run X.A X.stack s H ⟨us, ks.zip ws⟩ (permV pm (us ++ ws)) (permV pm (vs ++ zs)) Q (E σ) hr I.env0 (hb s us ws I.kIn (r.length.symm.trans l1) (rz.length.symm.trans l2)) r2 h) fun r s' hq => ?_)
  cases r with
  | error e => exact hx pins H s e s' I hq
  | ok fl =>
    cases fl with
    | ret u => exact I.after hq
    | next => exact False.elim hq
    | brk => exact False.elim hq
    | cont => exact False.elim hq
def fCat (fs fk : Env → Sto → R (List D)) : Env → Sto → R (List D) := fun ρ st => (fs ρ st).bind fun vs st => (fk ρ st).bind fun ws st => .ok (vs ++ ws) st
section
variable {n0 : Nat} {pm : List Nat}
/-- behind the positional values -/
theorem kw_fin {pins : List (Addr × Obj)} {σ : L2.St} {Q : VK} (F : FnOk X.prog X.w X.K X.mg X.base CX n f fd ps (spD T np cal)) (hr : Room n X.A) (hb : KwB X.K fd ps n0 (kws.filterMap (·.arg)) pm) (hx : ∀ σ, PassesAt CX X σ (W σ))
    (hl2 : (∀ ρ st vs st', fk ρ st = .ok vs st' → vs.length = (kws.filterMap (·.arg)).length)) (hp : pm.length = np) (hpm : ∀ j ∈ pm, j < n0 + (kws.filterMap (·.arg)).length) (hkk : PK X kws (tLi T W fk))
    (us : List Value) (vs : List V) (s1 : Shared) (H1 : Hp) (I1 : Inv X pins σ H1 s1) (r : Vals vs us) (l1 : vs.length = n0) (h : ∃ (G : Hp) (μ : List Addr) (st : Sto) (ds : List D) (ρ : Env), Hr T G μ st H1 ∧ Er T G μ ρ σ ∧ RpL T G μ vs ds ∧ ds.length = n0 ∧ Pr T (RpD T) (W σ) G μ H1 Q ((fk ρ st).bind fun ws st => cal (permD (ds ++ ws) pm) st)) :
      wpAny (model X.prog X.w) X.A (evalAll ((backToKw pos (keywordEach kws X.env)).map (·.2))) (fun ks s₂ => X.K.In s₂.heap ∧ wpAny (model X.prog X.w) X.A (call (.ref f) us (((backToKw pos (keywordEach kws X.env)).filterMap (·.1)).zip ks)) (EP X pins σ Q) X.xe s₂) X.xe s1 := by
  obtain ⟨G, μ, st, ds, ρ, hrr, er, rl, ld, p⟩ := h
  cases hf : fk ρ st with
  | ok wd s2 =>
    have q : tLi T W fk σ H1 fun zs H2 => zs.length = (kws.filterMap (·.arg)).length ∧ spD T np cal (permV pm (vs ++ zs)) H2 Q (W σ) := by
      refine ⟨G, μ, ρ, st, hrr, er, ?_⟩
      rw [hf] at p ⊢
      intro G2 m2 H2 zs e2 hr2 r2
      have ll := hl2 ρ st wd s2 hf
      refine ⟨by rw [r2.len]; exact ll, G2, m2, s2, permD (ds ++ wd) pm, hr2, rpl_perm ((rl.mono e2.1).app r2) pm, ?_, Pr.mono e2 p⟩
      unfold permD
      rw [← hp]
      have : ∀ pm : List Nat, (∀ j ∈ pm, j < n0 + (kws.filterMap (·.arg)).length) → (pm.filterMap fun j => (ds ++ wd)[j]?).length = pm.length := by
        intro pm
        induction pm with
        | nil => intro _; rfl
        | cons j r ih =>
          intro hj
          have h1 : j < (ds ++ wd).length := by rw [List.length_append, ld, ll]; exact hj j (List.mem_cons_self ..)
          rw [List.filterMap_cons, List.getElem?_eq_getElem h1]
          simp only [List.length_cons]
          rw [ih fun j hj' => hj j (List.mem_cons_of_mem _ hj')]
      exact this pm hpm
    refine thn (hkk.run pos pins s1 σ H1 _ I1 q) fun ws s3 ⟨zs, H3, I3, rz, lz, sp⟩ => ⟨I3.kIn, ?_⟩
    rw [kw_names]
    exact run_kw (E := W) F hr hb (hx σ) I3 r rz l1 lz sp
  | err c q s2 =>
    have q' : tLi T W fk σ H1 fun zs H2 => False := by
      refine ⟨G, μ, ρ, st, hrr, er, ?_⟩
      rw [hf] at p ⊢
      exact p
    exact thn (hkk.run pos pins s1 σ H1 _ I1 q') fun ws s3 ⟨zs, H3, I3, rz, z⟩ => z.elim
  | bad => rw [hf] at p; exact p.elim
/-- f(a, .., k = v, ..) -/
theorem ex_callK (F : FnOk X.prog X.w X.K X.mg X.base CX n f fd ps (spD T np cal)) (hr : Room n X.A) (hg : Gl X x) (hm : X.mg x = some (.ref f)) (hk : PySem.W.keepIn X.K (.ref f) = true) (hb : KwB X.K fd ps n0 (kws.filterMap (·.arg)) pm) (hx : ∀ σ, PassesAt CX X σ (W σ))
    (hdb : (x == ("__debug__" : Str)) = false) (hn : (e :: es).all nst = true) (hka : kws.all (fun k => k.arg.isSome) = true) (hl : (∀ ρ st vs st', fs ρ st = .ok vs st' → vs.length = n0)) (hl2 : (∀ ρ st vs st', fk ρ st = .ok vs st' → vs.length = (kws.filterMap (·.arg)).length))
    (hp : pm.length = np) (hpm : ∀ j ∈ pm, j < n0 + (kws.filterMap (·.arg)).length) (ha : PA X (e :: es) (tLi T W fs)) (hkk : PK X kws (tLi T W fk)) :
    PE X (.Call (.Name x p) (e :: es) kws pos) (tEx T W fun ρ st => (fs ρ st).bind fun ds st => (fk ρ st).bind fun ws st => cal (permD (ds ++ ws) pm) st) := by
  refine ⟨fun pins s σ H Q I h => ?_⟩
  refine wpAny_Call_Name_kw (ld_glob I hg hm ?_ hdb)
  obtain ⟨G, μ, ρ, st, hrr, er, q0⟩ := h
  have hn' : nst e = true ∧ es.all nst = true := by simpa using hn
  refine PySem.W.callWith_KW (h₀ := X.base) I.ok.mod.kin hk (kw_all pos X.env kws hka) (thn (ha.run pos pins s σ H (fun vs H1 => vs.length = n0 ∧ ∃ (G : Hp) (μ : List Addr) (st : Sto) (ds : List D) (ρ : Env), Hr T G μ st H1 ∧ Er T G μ ρ σ ∧ RpL T G μ vs ds ∧ ds.length = n0 ∧ Pr T (RpD T) (W σ) G μ H1 Q ((fk ρ st).bind fun ws st => cal (permD (ds ++ ws) pm) st)) I ?_) fun us s1 ⟨vs, H1, I1, r, l1, z⟩ => kw_fin F hr hb hx hl2 hp hpm hkk us vs s1 H1 I1 r l1 z)
    (by rw [star_plain pos X.env (e :: es) hn, kw_none pos X.env kws hka]; rfl) (star_cons hn'.1)
  refine ⟨G, μ, ρ, st, hrr, er, ?_⟩
  dsimp only at q0
  cases hf : fs ρ st with
  | ok vd s1 =>
    rw [hf] at q0
    intro G2 m2 H2 zs e2 hr2 r2
    have ll := hl ρ st vd s1 hf
    exact ⟨by rw [r2.len]; exact ll, G2, m2, s1, vd, ρ, hr2, er.mono e2.1, r2, ll, Pr.mono e2 q0⟩
  | err c qq s1 => rw [hf] at q0; exact q0
  | bad => rw [hf] at q0; exact q0.elim
/-- f(k = v, ..) -/
theorem ex_callK0 (F : FnOk X.prog X.w X.K X.mg X.base CX n f fd ps (spD T np cal)) (hr : Room n X.A) (hg : Gl X x) (hm : X.mg x = some (.ref f)) (hk : PySem.W.keepIn X.K (.ref f) = true) (hb : KwB X.K fd ps 0 (kws.filterMap (·.arg)) pm) (hx : ∀ σ, PassesAt CX X σ (W σ))
    (hdb : (x == ("__debug__" : Str)) = false) (hka : kws.all (fun k => k.arg.isSome) = true) (hl2 : (∀ ρ st vs st', fk ρ st = .ok vs st' → vs.length = (kws.filterMap (·.arg)).length))
    (hp : pm.length = np) (hpm : ∀ j ∈ pm, j < 0 + (kws.filterMap (·.arg)).length) (hkk : PK X kws (tLi T W fk)) :
    PE X (.Call (.Name x p) [] kws pos) (tEx T W fun ρ st => (fk ρ st).bind fun ws st => cal (permD ws pm) st) := by
  refine ⟨fun pins s σ H Q I h => ?_⟩
  refine wpAny_Call_Name_kw (ld_glob I hg hm ?_ hdb)
  obtain ⟨G, μ, ρ, st, hrr, er, q0⟩ := h
  exact PySem.W.callWith_KW0 (h₀ := X.base) I.ok.mod.kin hk (kw_all pos X.env kws hka) (kw_fin (n0 := 0) F hr hb hx hl2 hp hpm hkk [] [] s H I .nil rfl ⟨G, μ, st, [], ρ, hrr, er, .nil, rfl, q0⟩) (by rw [kw_none pos X.env kws hka]; rfl)
end
end
end DI
set_option Elab.async false
set_option linter.all false
set_option maxRecDepth 100000
set_option maxHeartbeats 4000000
set_option autoImplicit false
namespace DI
open PySem PySem.Spec PyProof.Rows L2
def rBi (T : Tb) (fb : Bi) : List V → Hp → VK → Prop := fun xs H Q => ∃ (W : XK) (G : Hp) (μ : List Addr) (st : Sto) (ds : List D), Hr T G μ st H ∧ RpL T G μ xs ds ∧ Pr T (RpD T) W G μ H Q (biD fb ds st)
theorem max_uniq : ∀ (ns : List Int) (n m : Int), m ∈ n :: ns → (∀ y ∈ n :: ns, y ≤ m) → m = ns.foldl (fun m y => if m < y then y else m) n
  | [], n, m, h, _ => by simpa using h
  | y :: ns, n, m, h, k => by
    rw [List.foldl_cons]
    refine max_uniq ns _ m ?_ fun z hz => ?_
    · have h1 := k n (by simp)
      have h2 := k y (by simp)
      split
      · rcases List.mem_cons.mp h with e | h
        · subst e; omega
        · exact h
      · rcases List.mem_cons.mp h with e | h
        · subst e; exact List.mem_cons_self ..
        · rcases List.mem_cons.mp h with e | h
          · subst e
            have : m = n := by omega
            rw [this]; exact List.mem_cons_self ..
          · exact List.mem_cons_of_mem _ h
    · rcases List.mem_cons.mp hz with e | hz
      · subst e
        split
        · exact k y (by simp)
        · exact k n (by simp)
      · exact k z (by simp [hz])
theorem min_uniq : ∀ (ns : List Int) (n m : Int), m ∈ n :: ns → (∀ y ∈ n :: ns, m ≤ y) → m = ns.foldl (fun m y => if y < m then y else m) n
  | [], n, m, h, _ => by simpa using h
  | y :: ns, n, m, h, k => by
    rw [List.foldl_cons]
    refine min_uniq ns _ m ?_ fun z hz => ?_
    · have h1 := k n (by simp)
      have h2 := k y (by simp)
      split
      · rcases List.mem_cons.mp h with e | h
        · subst e; omega
        · exact h
      · rcases List.mem_cons.mp h with e | h
        · subst e; exact List.mem_cons_self ..
        · rcases List.mem_cons.mp h with e | h
          · subst e
            have : m = n := by omega
            rw [this]; exact List.mem_cons_self ..
          · exact List.mem_cons_of_mem _ h
    · rcases List.mem_cons.mp hz with e | hz
      · subst e
        split
        · exact k y (by simp)
        · exact k n (by simp)
      · exact k z (by simp [hz])
theorem ins_perm (x : Int) : ∀ l : List Int, (insSort x l).Perm (x :: l)
  | [] => .refl _
  | y :: r => by
    unfold insSort
    split
    · exact .refl _
    · exact ((ins_perm x r).cons y).trans (.swap x y r)
theorem ins_sorted (x : Int) : ∀ l : List Int, l.Pairwise (· ≤ ·) → (insSort x l).Pairwise (· ≤ ·)
  | [], _ => by simp [insSort]
  | y :: r, h => by
    unfold insSort
    have h1 := List.pairwise_cons.mp h
    split
    · rename_i hxy
      refine List.pairwise_cons.mpr ⟨fun z hz => ?_, h⟩
      rcases List.mem_cons.mp hz with e | hz
      · subst e; exact hxy
      · have := h1.1 z hz; omega
    · rename_i hxy
      refine List.pairwise_cons.mpr ⟨fun z hz => ?_, ins_sorted x r h1.2⟩
      rcases List.mem_cons.mp ((ins_perm x r).mem_iff.mp hz) with e | hz
      · subst e; omega
      · exact h1.1 z hz
theorem sort_perm : ∀ l : List Int, (l.foldr insSort []).Perm l
  | [] => .refl _
  | x :: r => (ins_perm x _).trans ((sort_perm r).cons x)
theorem sort_sorted : ∀ l : List Int, (l.foldr insSort []).Pairwise (· ≤ ·)
  | [] => .nil
  | x :: r => ins_sorted x _ (sort_sorted r)
theorem sort_uniq {l m : List Int} (h : m.Perm l) (hs : m.Pairwise (· ≤ ·)) : m = l.foldr insSort [] :=
  List.Perm.eq_of_pairwise (fun a b _ _ h1 h2 => by omega) hs (sort_sorted l) (h.trans (sort_perm l).symm)
theorem intTx_len (i : Int) (h : i.natAbs.log2 < 1900) : (intTx i).length ≤ 1000000 := by
  have h1 : i.natAbs < 10 ^ 1900 := by
    have : i.natAbs < 2 ^ 1900 := by
      by_cases e : i.natAbs = 0
      · rw [e]; exact Nat.two_pow_pos 1900
      · exact (Nat.log2_lt e).mp h
    exact Nat.lt_of_lt_of_le this (Nat.pow_le_pow_left (by decide) 1900)
  have h2 := (Nat.length_repr_le_iff (n := i.natAbs) (k := 1900) (by decide)).mpr h1
  unfold intTx
  rw [List.length_map, Int.toString_eq_repr]
  cases i with
  | ofNat n =>
    show (Nat.repr n).length ≤ _
    have h2 : (Nat.repr n).length ≤ 1900 := h2
    omega
  | negSucc n =>
    show (("-" ++ Nat.repr (n + 1) : String)).length ≤ _
    rw [String.length_append]
    have h2 : (Nat.repr (n + 1)).length ≤ 1900 := h2
    have : "-".length = 1 := rfl
    omega
theorem intTx_ok (i : Int) (h : i.natAbs.log2 < 1900) : (Str.ofString (toString i)) = txS (intTx i) ∧ TxOk (intTx i) := by
  have e : (Str.ofString (toString i)) = txS (intTx i) := Str.ofString_eq_toList _
  refine ⟨e, ?_, ?_⟩
  · simp only [PyData.strOk, txS, intTx, List.all_toArray, List.all_map, List.all_eq_true]
    intro c _
    simp only [Function.comp, decide_eq_true_eq]
    have h : c.toNat.isValidChar := c.valid
    rcases h with h | h <;> omega
  · exact Nat.le_trans (intTx_len i h) (by decide)
section
variable {X : Cx} {T : Tb}
theorem pr_here {W : XK} {G : Hp} {μ : List Addr} {Q : VK} {d : D} {st : Sto} {H : Hp} {v : V} (h : Pr T (RpD T) W G μ H Q (.ok d st)) (hr : Hr T G μ st H) (rv : Rp T G μ v d) : Q v H := h.here hr rv
theorem call_len_D (hK : T.K = X.K) : CallR X (.builtin "len") (rBi T .len) := by
  intro pins s σ H xs us Q I r h
  obtain ⟨W, G, μ, st, ds, hr, rl, p⟩ := h
  by_cases hd : ∃ a kv, xs = [V.ref a] ∧ H a = some (.dK kv) ∧ Q (.int kv.length) H
  · obtain ⟨a, kv, rfl, ha, q⟩ := hd
    cases r with
    | cons r1 r2 =>
      cases r2
      rename_i u
      cases (show u = Value.ref a from r1)
      exact d_len I (.inl ha) fun t s' I' => ⟨.int kv.length, H, I', ⟨t, rfl⟩, q⟩
  refine call_len pins s σ H xs us Q I r ?_
  cases rl with
  | nil => exact p.elim
  | cons r1 r2 =>
    cases r2 with
    | cons _ _ => cases r1 <;> exact p.elim
    | nil =>
      cases r1 with
      | str s hs => exact ⟨_, s.length, rfl, ⟨by rw [txS_len]; exact hs.2, (txS_len s).symm⟩, pr_here p hr (.int _)⟩
      | tup h1 h2 h9 => exact ⟨_, _, rfl, .inr ⟨_, hK ▸ sqt_sub hr h1, h2.len.symm⟩, pr_here p hr (.int _)⟩
      | lst h1 h2 => exact ⟨_, _, rfl, .inl ⟨_, .inl (.inl (hr.sub _ _ h1)), h2.len.symm⟩, pr_here p hr (.int _)⟩
      | ro h1 h2 => exact ⟨_, _, rfl, .inl ⟨_, hK ▸ sql_sub hr h1, h2.len.symm⟩, pr_here p hr (.int _)⟩
      | @loc a i h =>
        simp only [biD] at p
        obtain ⟨_, o, ho, hob⟩ := hr.obj i a h
        rw [ho] at p
        cases hob with
        | lst h1 h2 => exact ⟨_, _, rfl, .inl ⟨_, .inl (.inl h1), h2.len.symm⟩, pr_here p hr (.int _)⟩
        | dct h1 h2 => exact absurd ⟨_, _, rfl, h1, by rw [rpk_len h2]; exact pr_here p hr (.int _)⟩ hd
      | _ => exact p.elim
theorem call_abs_D : CallR X (.builtin "abs") (rBi T .abs) := by
  intro pins s σ H xs us Q I r h
  obtain ⟨W, G, μ, st, ds, hr, rl, p⟩ := h
  refine call_abs pins s σ H xs us Q I r ?_
  cases rl with
  | nil => exact p.elim
  | cons r1 r2 => cases r2 with
    | cons _ _ => cases r1 <;> exact p.elim
    | nil => cases r1 with
      | int i => exact ⟨i, rfl, pr_here p hr (.int _)⟩
      | _ => exact p.elim
theorem call_int_D : CallR X (.type "int") (rBi T .int) := by
  intro pins s σ H xs us Q I r h
  obtain ⟨W, G, μ, st, ds, hr, rl, p⟩ := h
  refine call_int1 pins s σ H xs us Q I r ?_
  cases rl with
  | nil => exact p.elim
  | cons r1 r2 => cases r2 with
    | cons _ _ => cases r1 <;> exact p.elim
    | nil => cases r1 with
      | int i => exact .inl ⟨i, rfl, pr_here p hr (.int _)⟩
      | bl b => exact .inr ⟨b, rfl, pr_here p hr (.int _)⟩
      | _ => exact p.elim
theorem call_str_D : CallR X (.type "str") (rBi T .str) := by
  intro pins s σ H xs us Q I r h
  obtain ⟨W, G, μ, st, ds, hr, rl, p⟩ := h
  refine call_str_int pins s σ H xs us Q I r ?_
  cases rl with
  | nil => exact p.elim
  | cons r1 r2 => cases r2 with
    | cons _ _ => cases r1 <;> exact p.elim
    | nil => cases r1 with
      | int i =>
        simp only [biD] at p
        split at p
        · rename_i hz
          obtain ⟨e1, e2⟩ := intTx_ok i hz
          refine ⟨i, rfl, by omega, ?_⟩
          rw [e1]
          exact pr_here p hr (.str _ e2)
        · exact p.elim
      | _ => exact p.elim
theorem call_max2_D (hc : X.calm = true) : CallR X (.builtin "max") (rBi T .max2) := by
  intro pins s σ H xs us Q I r h
  obtain ⟨W, G, μ, st, ds, hr, rl, p⟩ := h
  refine call_max2 hc pins s σ H xs us Q I r ?_
  cases rl with
  | nil => exact p.elim
  | cons r1 r2 => cases r2 with
    | nil => cases r1 <;> exact p.elim
    | cons r2 r3 => cases r3 with
      | cons _ _ => cases r1 <;> first | exact p.elim | (cases r2 <;> exact p.elim)
      | nil => cases r1 with
        | int i => cases r2 with
          | int j => exact ⟨i, j, rfl, pr_here p hr (.int _)⟩
          | _ => exact p.elim
        | _ => exact p.elim
theorem call_min2_D (hc : X.calm = true) : CallR X (.builtin "min") (rBi T .min2) := by
  intro pins s σ H xs us Q I r h
  obtain ⟨W, G, μ, st, ds, hr, rl, p⟩ := h
  refine call_min2 hc pins s σ H xs us Q I r ?_
  cases rl with
  | nil => exact p.elim
  | cons r1 r2 => cases r2 with
    | nil => cases r1 <;> exact p.elim
    | cons r2 r3 => cases r3 with
      | cons _ _ => cases r1 <;> first | exact p.elim | (cases r2 <;> exact p.elim)
      | nil => cases r1 with
        | int i => cases r2 with
          | int j => exact ⟨i, j, rfl, pr_here p hr (.int _)⟩
          | _ => exact p.elim
        | _ => exact p.elim
mutual
theorem lt_py : ∀ a b : D, DN.pLt (D.py a) (D.py b) = D.lt a b
  | .int i, b => by cases b <;> simp [D.py, D.lt, DN.pLt]
  | .str x, b => by cases b <;> simp [D.py, D.lt, DN.pLt, txS]
  | .tup xs, b => by cases b <;> simp [D.py, D.lt, DN.pLt, ltL_py xs]
  | .non, b => by cases b <;> simp [D.py, D.lt, DN.pLt]
  | .bl _, b => by cases b <;> simp [D.py, D.lt, DN.pLt]
  | .lst _, b => by cases b <;> simp [D.py, D.lt, DN.pLt]
  | .ro _, b => by cases b <;> simp [D.py, D.lt, DN.pLt]
  | .loc _, b => by cases b <;> simp [D.py, D.lt, DN.pLt]
  | .exc _ _, b => by cases b <;> simp [D.py, D.lt, DN.pLt]
theorem ltL_py : ∀ a b : List D, DN.pLtL (D.pyL a) (D.pyL b) = D.ltL a b
  | [], [] => by simp [D.pyL, D.ltL, DN.pLtL]
  | [], _ :: _ => by simp [D.pyL, D.ltL, DN.pLtL]
  | _ :: _, [] => by simp [D.pyL, D.ltL, DN.pLtL]
  | x :: xs, y :: ys => by simp [D.pyL, D.ltL, DN.pLtL, lt_py x y, ltL_py xs ys, eqv_py]
end
mutual
theorem sub_sc (g : Nat → Option D) : ∀ d : D, D.sc d = true → D.sub g d = some d
  | .int _, _ => by simp [D.sub]
  | .str _, _ => by simp [D.sub]
  | .tup xs, h => by simp [D.sub, subL_sc g xs (by simpa [D.sc] using h)]
  | .non, h => by simp [D.sc] at h
  | .bl _, h => by simp [D.sc] at h
  | .lst _, h => by simp [D.sc] at h
  | .ro _, h => by simp [D.sc] at h
  | .loc _, h => by simp [D.sc] at h
  | .exc _ _, h => by simp [D.sc] at h
theorem subL_sc (g : Nat → Option D) : ∀ xs : List D, D.scL xs = true → D.subL g xs = some xs
  | [], _ => by simp [D.subL]
  | x :: r, h => by
    simp only [D.scL, Bool.and_eq_true] at h
    simp [D.subL, sub_sc g x h.1, subL_sc g r h.2]
end
theorem full_sc {st : Sto} {d : D} (h : D.sc d = true) : full st d = some d := by
  unfold full frz
  exact sub_sc _ d h
theorem items_at {T : Tb} {G : Hp} {μ : List Addr} : ∀ {vs : List V} {ds : List D} {us : List Value} {i : Nat} {u : Value}, RpL T G μ vs ds → Vals vs us → us[i]? = some u → ∃ x d, vs[i]? = some x ∧ ds[i]? = some d ∧ RelV x u ∧ Rp T G μ x d
  | _, _, _, i, u, .nil, r, h => by cases r; simp at h
  | _, _, _, 0, u, .cons r1 _, r, h => by
    cases r with
    | cons q1 q2 =>
      simp at h
      subst h
      exact ⟨_, _, rfl, rfl, q1, r1⟩
  | _, _, _, i + 1, u, .cons _ r2, r, h => by
    cases r with
    | cons q1 q2 =>
      obtain ⟨x, d, h1, h2, h3, h4⟩ := items_at (i := i) (u := u) r2 q2 (by simpa using h)
      exact ⟨x, d, by simpa using h1, by simpa using h2, h3, h4⟩
theorem scL_at : ∀ {xs : List D} {i : Nat} {d : D}, D.scL xs = true → xs[i]? = some d → D.sc d = true ∧ d.depth ≤ D.depthL xs
  | [], _, _, _, h => by simp at h
  | x :: r, 0, d, h, e => by
    simp only [D.scL, Bool.and_eq_true] at h
    simp at e
    subst e
    exact ⟨h.1, by simp only [D.depthL]; omega⟩
  | x :: r, i + 1, d, h, e => by
    simp only [D.scL, Bool.and_eq_true] at h
    obtain ⟨h1, h2⟩ := scL_at (i := i) (d := d) h.2 (by simpa using e)
    exact ⟨h1, by simp only [D.depthL]; omega⟩
/-- the items compared, wherever the heap is kept -/
theorem cmp_D {G : Hp} {μ : List Addr} {st : Sto} {H : Hp} {pins : List (Addr × Obj)} {σ : L2.St} {s : Shared} {vs : List V} {us : List Value} {ds : List D} (hK : T.K = X.K) (hu : X.A.units + 100 < cLine) (I : Inv X pins σ H s) (hr : Hr T G μ st H) (rl : RpL T G μ vs ds) (rv : Vals vs us) (h : cmpAll ds = true) :
    CmpIn X.prog X.w X.A.in1 .Lt s.heap (fun i v => us.toArray[i]? = some v) (fun i j => ltB (ds.getD i .non) (ds.getD j .non)) := by
  simp only [cmpAll, Bool.and_eq_true, decide_eq_true_eq] at h
  obtain ⟨⟨h1, h2⟩, h3⟩ := h
  intro i j vi vj s' Q' E' hk hi hj hq
  obtain ⟨x, d, a1, a2, a3, a4⟩ := items_at rl rv (by simpa using hi)
  obtain ⟨y, e, b1, b2, b3, b4⟩ := items_at rl rv (by simpa using hj)
  obtain ⟨c1, c2⟩ := scL_at h1 a2
  obtain ⟨f1, f2⟩ := scL_at h1 b2
  obtain ⟨d1, l1⟩ := full_lies hr a4 (full_sc c1)
  obtain ⟨d2, l2⟩ := full_lies hr b4 (full_sc f1)
  rw [hK] at d1 d2
  obtain ⟨as, r1⟩ := Dp.reads I _ x vi d1 a3
  obtain ⟨bs, r2⟩ := Dp.reads I _ y vj d2 b3
  have k1 := depth_py d
  have k2 := depth_py e
  have cmp := List.all_eq_true.mp (List.all_eq_true.mp h3 d (List.mem_of_getElem? a2)) e (List.mem_of_getElem? b2)
  obtain ⟨k, hk2⟩ := Option.isSome_iff_exists.mp cmp
  have g1 : ds.getD i .non = d := by rw [List.getD_eq_getElem?_getD, a2]; rfl
  have g2 : ds.getD j .non = e := by rw [List.getD_eq_getElem?_getD, b2]; rfl
  have hb : ltB (ds.getD i .non) (ds.getD j .non) = k := by
    rw [g1, g2]
    unfold ltB
    rw [hk2]
    rfl
  have hq : Q' (.bool k) s' := by
    have := hq
    simp only [hb] at this
    exact this
  have du : X.A.in1.units = X.A.units + 1 := rfl
  exact DN.rcLt_py (D.py d).depth.succ _ _ X.A.in1 s' vi vj _ _ k (Nat.lt_succ_self _) (Reads.keeps hk r1) (Reads.keeps hk r2) l1 l2 (by rw [du]; omega) (by rw [lt_py]; exact hk2) X.prog X.w E' Q' hq
theorem call_minD_D (hK : T.K = X.K) (hc : X.calm = true) (hu : X.A.units + 100 < cLine) : CallR X (.builtin "min") (rBi T .minD) := by
  intro pins s σ H xs us Q I r h
  obtain ⟨W, G, μ, st, ds, hr, rl, p⟩ := h
  cases rl with
  | nil => exact p.elim
  | cons r1 r2 => cases r2 with
    | cons _ _ => exact p.elim
    | nil =>
      simp only [biD] at p
      split at p
      · rename_i ys hl
        split at p
        · rename_i hcmp
          obtain ⟨z, hz, p9⟩ := p.of
          obtain ⟨a, vs, rfl, ha, ra⟩ := lstD_at hr r1 hl
          obtain ⟨its, rv, pl, hsz⟩ := I.list (show SqL X.K H a vs from .inl (.inl ha))
          cases ys with
          | nil => cases hz
          | cons y ys =>
            have n1 := ra.len
            have n2 := rv.length
            simp only [List.length_cons] at n1
            rw [Vals.ref1 r]
            refine DN.minList_cmp (I.ok.hd hc) pl.isList (by rw [List.size_toArray]; omega) (cmp_D hK hu I hr ra rv hcmp) fun v h' tk hv hk => ?_
            obtain ⟨x, d, q1, q2, q3, q4⟩ := items_at ra rv (by rw [List.getElem?_toArray] at hv; exact hv)
            have e1 : its.toArray.size - 1 = ys.length := by rw [List.size_toArray]; omega
            have e2 := (PySem.W.argBest_fold ltB D.non y ys ys.length (Nat.le_refl _)).2
            rw [List.take_length] at e2
            rw [e1] at q2
            have e3 : z = d := by
              have := hz
              simp only [minF, Option.some.injEq] at this
              rw [← this, ← e2, List.getD_eq_getElem?_getD, q2]
              rfl
            subst e3
            exact ⟨x, H, I.kept hk, q3, pr_here p9 hr q4⟩
        · exact p.elim
      · exact p.elim
theorem call_min2D_D (hK : T.K = X.K) (hc : X.calm = true) (hu : X.A.units + 100 < cLine) : CallR X (.builtin "min") (rBi T .min2D) := by
  intro pins s σ H xs us Q I r h
  obtain ⟨W, G, μ, st, ds, hr, rl, p⟩ := h
  cases rl with
  | nil => exact p.elim
  | cons r1 r2 => cases r2 with
    | nil => exact p.elim
    | cons r2 r3 => cases r3 with
      | cons _ _ => exact p.elim
      | @nil =>
        simp only [biD] at p
        split at p
        · rename_i hcmp
          cases r with
          | cons v1 r => cases r with
            | cons v2 r =>
              cases r
              refine DN.minTwo_cmp (I.ok.hd hc) (cmp_D hK hu I hr (.cons r1 (.cons r2 .nil)) (.cons v1 (.cons v2 .nil)) hcmp) fun v h' tk hv hk => ?_
              simp only [argBest, List.getD_cons_succ, List.getD_cons_zero] at hv
              split at p
              · rename_i hb
                rw [if_pos hb] at hv
                simp at hv
                subst hv
                exact ⟨_, H, I.kept hk, v2, pr_here p hr r2⟩
              · rename_i hb
                rw [if_neg hb] at hv
                simp at hv
                subst hv
                exact ⟨_, H, I.kept hk, v1, pr_here p hr r1⟩
        · exact p.elim
theorem call_gcd_D : CallR X (.builtin "math.gcd") (rBi T .gcd) := by
  intro pins s σ H xs us Q I r h
  obtain ⟨W, G, μ, st, ds, hr, rl, p⟩ := h
  refine cr_gcd pins s σ H xs us Q I r ?_
  cases rl with
  | nil => exact p.elim
  | cons r1 r2 => cases r2 with
    | nil => cases r1 <;> exact p.elim
    | cons r2 r3 => cases r3 with
      | cons _ _ => cases r1 <;> first | exact p.elim | (cases r2 <;> exact p.elim)
      | nil => cases r1 with
        | int i => cases r2 with
          | int j => exact ⟨i, j, rfl, pr_here p hr (.int _)⟩
          | _ => exact p.elim
        | _ => exact p.elim
/-- of one list of ints -/
theorem ints_at {W : XK} {G : Hp} {μ : List Addr} {st : Sto} {H : Hp} {xs : List V} {ds : List D} {Q : VK} {f : List Int → Option D} (hr : Hr T G μ st H) (rl : RpL T G μ xs ds)
    (h : ∃ d, ds = [d] ∧ ∃ ys, lstD st d = some ys ∧ ∃ ns, intsOf ys = some ns ∧ ∃ z, f ns = some z ∧ Pr T (RpD T) W G μ H Q (.ok z st)) :
    ∃ a ns z, xs = [V.ref a] ∧ H a = some (.lst (ns.map V.int)) ∧ f ns = some z ∧ Pr T (RpD T) W G μ H Q (.ok z st) := by
  obtain ⟨d, rfl, ys, h1, ns, h2, z, h3, p⟩ := h
  cases rl with
  | cons r1 r2 =>
    cases r2
    obtain ⟨a, vs, rfl, ha, rv⟩ := lstD_at hr r1 h1
    have e := rv.ints h2
    subst e
    exact ⟨a, ns, z, rfl, ha, h3, p⟩
theorem one_list {W : XK} {G H : Hp} {μ : List Addr} {st : Sto} {Q : VK} {ds : List D} {fb : Bi} {f : List Int → Option D} (hf : ∀ vs st, biD fb vs st = match vs with
    | [x] => (match lstD st x with
      | some xs => (match intsOf xs with
        | some ns => R.of (f ns) st
        | none => .bad)
      | none => .bad)
    | _ => .bad) (p : Pr T (RpD T) W G μ H Q (biD fb ds st)) : ∃ d, ds = [d] ∧ ∃ ys, lstD st d = some ys ∧ ∃ ns, intsOf ys = some ns ∧ ∃ z, f ns = some z ∧ Pr T (RpD T) W G μ H Q (.ok z st) := by
  rw [hf] at p
  split at p
  · rename_i x
    split at p
    · rename_i ys h1
      split at p
      · rename_i ns h2
        obtain ⟨z, h3, p⟩ := p.of
        exact ⟨_, rfl, ys, h1, ns, h2, z, h3, p⟩
      · exact p.elim
    · exact p.elim
  · exact p.elim
theorem call_sum_D (hK : T.K = X.K) (hc : X.calm = true) : CallR X (.builtin "sum") (rBi T .sum) := by
  intro pins s σ H xs us Q I r h
  obtain ⟨W, G, μ, st, ds, hr, rl, p⟩ := h
  obtain ⟨a, ns, z, rfl, ha, h3, p⟩ := ints_at hr rl (one_list (f := fun ns => some (.int ns.sum)) (fun vs st => by cases vs with | nil => rfl | cons x r => cases r with | cons _ _ => rfl | nil => (simp only [biD]; cases lstD st x with | none => rfl | some ys => (simp only; cases intsOf ys <;> rfl))) p)
  cases h3
  exact cr_sum hc pins s σ H _ us Q I r ⟨a, ns, rfl, .inl (.inl ha), pr_here p hr (.int _)⟩
theorem call_maxL_D (hc : X.calm = true) : CallR X (.builtin "max") (rBi T .maxL) := by
  intro pins s σ H xs us Q I r h
  obtain ⟨W, G, μ, st, ds, hr, rl, p⟩ := h
  obtain ⟨a, ns, z, rfl, ha, h3, p⟩ := ints_at hr rl (one_list (f := fun ns => match ns with | n :: ns => some (.int (ns.foldl (fun m y => if m < y then y else m) n)) | [] => none) (fun vs st => by cases vs with | nil => rfl | cons x r => cases r with | cons _ _ => rfl | nil => (simp only [biD]; cases lstD st x with | none => rfl | some ys => (simp only; cases intsOf ys with | none => rfl | some ns => cases ns <;> rfl))) p)
  cases ns with
  | nil => cases h3
  | cons n ns =>
    cases h3
    exact cr_max hc pins s σ H _ us Q I r ⟨a, n :: ns, rfl, .inl (.inl ha), by simp, fun m h1 h2 => by rw [max_uniq ns n m h1 h2]; exact pr_here p hr (.int _)⟩
theorem call_minL_D (hc : X.calm = true) : CallR X (.builtin "min") (rBi T .minL) := by
  intro pins s σ H xs us Q I r h
  obtain ⟨W, G, μ, st, ds, hr, rl, p⟩ := h
  obtain ⟨a, ns, z, rfl, ha, h3, p⟩ := ints_at hr rl (one_list (f := fun ns => match ns with | n :: ns => some (.int (ns.foldl (fun m y => if y < m then y else m) n)) | [] => none) (fun vs st => by cases vs with | nil => rfl | cons x r => cases r with | cons _ _ => rfl | nil => (simp only [biD]; cases lstD st x with | none => rfl | some ys => (simp only; cases intsOf ys with | none => rfl | some ns => cases ns <;> rfl))) p)
  cases ns with
  | nil => cases h3
  | cons n ns =>
    cases h3
    exact cr_min hc pins s σ H _ us Q I r ⟨a, n :: ns, rfl, .inl (.inl ha), by simp, fun m h1 h2 => by rw [min_uniq ns n m h1 h2]; exact pr_here p hr (.int _)⟩
theorem call_sorted_D : CallR X (.builtin "sorted") (rBi T .sorted) := by
  intro pins s σ H xs us Q I r h
  obtain ⟨W, G, μ, st, ds, hr, rl, p⟩ := h
  obtain ⟨a, ns, z, rfl, ha, h3, p⟩ := ints_at hr rl (one_list (f := fun ns => some (.lst ((ns.foldr insSort []).map .int))) (fun vs st => by cases vs with | nil => rfl | cons x r => cases r with | cons _ _ => rfl | nil => (simp only [biD]; cases lstD st x with | none => rfl | some ys => (simp only; cases intsOf ys <;> rfl))) p)
  cases h3
  refine cr_sortedI pins s σ H _ us Q I r ⟨a, ns, rfl, .inl (.inl ha), fun ns' q h1 h2 hq => ?_⟩
  rw [sort_uniq h1 h2]
  exact new_list (mu := false) hr (.ofInts _) p hq
/-- of one sequence -/
theorem call_tuple_D (hK : T.K = X.K) : CallR X (.type "tuple") (rBi T .tuple) := by
  intro pins s σ H xs us Q I r h
  obtain ⟨W, G, μ, st, ds, hr, rl, p⟩ := h
  refine DN.call_tupF pins s σ H xs us Q I r ?_
  cases rl with
  | nil => exact p.elim
  | cons r1 r2 => cases r2 with
    | cons _ _ => cases r1 <;> exact p.elim
    | nil =>
      simp only [biD] at p
      split at p
      · rename_i ys hs
        obtain ⟨a, vs, rfl, rv, hh⟩ := seqD_at hr r1 hs
        rcases hh with ⟨hl, _⟩ | ⟨ht, rfl⟩
        · refine ⟨a, vs, rfl, .inl ⟨hK ▸ hl, fun q ob hq od => ?_⟩⟩
          obtain ⟨k1, k2⟩ := hr.known (o := .frz ob (.tup vs)) hq
          exact p _ _ _ _ k2 k1 (.tup sqt_new (rv.mono k2.1) (pq_new od))
        · exact ⟨a, vs, rfl, .inr ⟨hK ▸ ht, pr_here p hr r1⟩⟩
      · exact p.elim
theorem call_list_D (hK : T.K = X.K) : CallR X (.type "list") (rBi T .list) := by
  intro pins s σ H xs us Q I r h
  obtain ⟨W, G, μ, st, ds, hr, rl, p⟩ := h
  refine call_list_of pins s σ H xs us Q I r ?_
  cases rl with
  | nil => exact p.elim
  | cons r1 r2 => cases r2 with
    | cons _ _ => cases r1 <;> exact p.elim
    | nil =>
      simp only [biD] at p
      split at p
      · rename_i ys hs
        obtain ⟨a, vs, rfl, rv, hh⟩ := seqD_at hr r1 hs
        refine ⟨a, vs, rfl, ?_, fun q hq => new_list (mu := false) hr rv p hq⟩
        rcases hh with ⟨hl, _⟩ | ⟨ht, _⟩
        · exact .inl (hK ▸ hl)
        · exact .inr (hK ▸ ht)
      · exact p.elim
theorem call_listM_D (hK : T.K = X.K) : CallR X (.type "list") (rBi T .listM) := by
  intro pins s σ H xs us Q I r h
  obtain ⟨W, G, μ, st, ds, hr, rl, p⟩ := h
  refine call_list_of pins s σ H xs us Q I r ?_
  cases rl with
  | nil => exact p.elim
  | cons r1 r2 => cases r2 with
    | cons _ _ => cases r1 <;> exact p.elim
    | nil =>
      simp only [biD] at p
      split at p
      · rename_i ys hs
        obtain ⟨a, vs, rfl, rv, hh⟩ := seqD_at hr r1 hs
        refine ⟨a, vs, rfl, ?_, fun q hq => new_list (mu := true) hr rv p hq⟩
        rcases hh with ⟨hl, _⟩ | ⟨ht, _⟩
        · exact .inl (hK ▸ hl)
        · exact .inr (hK ▸ ht)
      · exact p.elim
end
end DI
set_option Elab.async false
set_option linter.all false
set_option maxRecDepth 100000
set_option maxHeartbeats 4000000
set_option autoImplicit false
namespace DI
open PySem PySem.Spec PyProof.Rows L2
/-! ### isinstance -/
def Ty.nm : Ty → String
  | .int => "int" | .bool => "bool" | .str => "str" | .tuple => "tuple" | .list => "list" | .dict => "dict" | _ => ""
def Ty.id : Ty → Str
  | .int => "int" | .bool => "bool" | .str => "str" | .tuple => "tuple" | .list => "list" | .dict => "dict" | _ => ""
def Ty.blt : Ty → Bool
  | .cls _ => false
  | .ve => false
  | _ => true
theorem ty_boot {t : Ty} (h : t.blt = true) : bootBuiltins t.id = some (.type t.nm) ∧ t.id ≠ "__name__" ∧ (t.id == ("__debug__" : Str)) = false := by
  cases t <;> first | (cases h; done) | exact ⟨by decide +kernel, by decide +kernel, by decide +kernel⟩
/-- the type's name of a thing -/
def dTy (st : Sto) : D → String
  | .non => "NoneType" | .bl _ => "bool" | .int _ => "int" | .str _ => "str" | .tup _ => "tuple" | .lst _ => "list" | .ro _ => "list" | .exc _ _ => ""
  | .loc i => match st[i]? with
    | some (.dct _) => "dict"
    | _ => "list"
section
variable {X : Cx} {T : Tb} {W : L2.St → XK} {a e : Expr} {es : List Expr} {fa : Env → Sto → R D} {fs : Env → Sto → R (List D)} {pos p : Pos}
theorem ty_D {G : Hp} {μ : List Addr} {st : Sto} {H : Hp} {v : V} {d : D} (hr : Hr T G μ st H) (r : Rp T G μ v d) (ne : ∀ c fs, d ≠ .exc c fs) : TyX T.K H v (.type (dTy st d)) := by
  cases r with
  | non => exact .base .non
  | bl b => exact .base (.bl b)
  | int i => exact .base (.int i)
  | str s _ => exact .base (.str _)
  | tup h1 h2 h9 =>
    rcases sqt_sub hr h1 with (h | ⟨o, h⟩) | ⟨o, its, n, h, hc, _⟩
    · exact .base (.tup h)
    · exact .fTuple h
    · exact .kTuple h hc
  | lst h1 h2 => exact .base (.lst (hr.sub _ _ h1))
  | ro h1 h2 =>
    rcases sql_sub hr h1 with (h | ⟨o, h⟩) | ⟨o, its, n, h, hc, _⟩
    · exact .base (.lst h)
    · exact .base (.frz h)
    · exact .kList h hc
  | @loc a i h =>
    obtain ⟨_, o, ho, hob⟩ := hr.obj i a h
    cases hob with
    | lst h1 h2 =>
      simp only [dTy, ho]
      exact .base (.lst h1)
    | dct h1 h2 =>
      simp only [dTy, ho]
      exact .base (.dK h1)
  | exc _ _ _ => exact absurd rfl (ne _ _)
theorem kit_D {anc : Nat → Nat → Option Bool} {st : Sto} {d : D} {t : Ty} (hb : t.blt = true) (ht : tyOk t d = true) {K : PySem.W.Frag} (ho : ∀ i, d = .loc i → ∃ o, st[i]? = some o) : PySem.W.kitOne K (.type (dTy st d)) (.type t.nm) = some (isiD anc st d t) := by
  refine kit_ty ?_
  cases d with
  | loc i =>
    obtain ⟨o, q⟩ := ho i rfl
    cases o <;> cases t <;> first | (cases hb; done) | (simp only [dTy, isiD, Ty.nm, q]; decide)
  | exc _ _ => cases t <;> first | (cases hb; done) | (cases ht; done)
  | _ => cases t <;> first | (cases hb; done) | (simp only [dTy, isiD, Ty.nm]; decide)
theorem kit_any {anc : Nat → Nat → Option Bool} {st : Sto} {d : D} {K : PySem.W.Frag} (ho : ∀ i, d = .loc i → ∃ o, st[i]? = some o) : ∀ {ts : List Ty}, ts.all Ty.blt = true → (ts.all fun t => tyOk t d) = true → PySem.W.kitAny K (.type (dTy st d)) (ts.map fun t => .type t.nm) = some (ts.any fun t => isiD anc st d t)
  | [], _, _ => kitAny_nil
  | t :: ts, h1, h2 => by
    simp only [List.all_cons, Bool.and_eq_true] at h1 h2
    rw [List.map_cons, List.any_cons]
    refine kitAny_cons (kit_D (anc := anc) h1.1 h2.1 ho) (fun hf => ?_) fun hf => ?_
    · rw [hf, Bool.false_or]
      exact kit_any ho h1.2 h2.2
    · rw [hf]; rfl
/-- the one type, or several in a tuple, as written -/
def tyLit (t : Ty) : Expr → Bool
  | .Name x _ => x == t.id
  | _ => false
theorem pe_ty {t : Ty} (hb : t.blt = true) (hl : tyLit t e = true) (hg : Gl X t.id) (hm : X.mg t.id = none) : PE X e (tC (.ty t.nm)) := by
  cases e <;> try (cases hl; done)
  rename_i x q
  have ex : x = t.id := beq_iff_eq.mp hl
  subst ex
  obtain ⟨h1, h2, h3⟩ := ty_boot hb
  exact pe_bltn hg hm h1 rfl h2 h3
def isiO (anc : Nat → Nat → Option Bool) (ts : List Ty) (f : Env → Sto → R D) : Env → Sto → R D := fun ρ st => (f ρ st).bind fun x st => if ts.all fun t => tyOk t x then .ok (.bl (ts.any fun t => isiD anc st x t)) st else .bad
theorem not_exc {ts : List Ty} (hb : ts.all Ty.blt = true) (hne : ts ≠ []) {d : D} (h : (ts.all fun t => tyOk t d) = true) : ∀ c fs, d ≠ .exc c fs := by
  intro c fs e
  subst e
  cases ts with
  | nil => exact hne rfl
  | cons t ts =>
    simp only [List.all_cons, Bool.and_eq_true] at hb h
    cases t <;> first | (cases hb.1; done) | (cases h.1; done)
theorem there_D {G : Hp} {μ : List Addr} {st : Sto} {H : Hp} {v : V} {d : D} (hr : Hr T G μ st H) (r : Rp T G μ v d) : ∀ i, d = .loc i → ∃ o, st[i]? = some o := by
  intro i e
  subst e
  cases r with
  | loc h =>
    obtain ⟨_, o, ho, _⟩ := hr.obj i _ h
    exact ⟨o, ho⟩
theorem ex_isi1 {anc : Nat → Nat → Option Bool} {t : Ty} {c : Expr} (hK : T.K = X.K) (hb : t.blt = true) (hl : tyLit t c = true) (hg : Gl X t.id) (hm : X.mg t.id = none) (hgi : Gl X "isinstance") (hmi : X.mg "isinstance" = none) (hn : nst a = true) (ha : PE X a (tEx T W fa)) :
    PE X (.Call (.Name "isinstance" p) [a, c] [] pos) (tEx T W (isiO anc [t] fa)) := by
  have hc : nst c = true := by cases c <;> first | rfl | (cases hl; done)
  refine pe_of (pe_callB call_isi hgi hmi (by decide +kernel) (pa_cons ha (pa_cons (pe_ty hb hl hg hm) pa_nil (star_cons hc)) (star_cons hn)) (by decide) (by decide) (star_cons hn) (star_plain _ _ _ (by simp [hc]))) fun σ H Q h => ?_
  obtain ⟨G, μ, ρ, st, hr, er, q⟩ := h
  refine tR.imp (tR.bind (Rel := RpD T) hr er q) fun x H1 ⟨G1, m1, s1, dx, e1, hr1, r1, p1⟩ => ?_
  split at p1
  · rename_i ht
    have hb' : [t].all Ty.blt = true := by simp [hb]
    refine ⟨x, .ty t.nm, .type (dTy s1 dx), .type t.nm, isiD anc s1 dx t, rfl, .ty _, hK ▸ ty_D hr1 r1 (not_exc hb' (by simp) ht), kit_D hb (by simpa using ht) (there_D hr1 r1), ?_⟩
    have := p1.here hr1 (.bl _)
    simpa using this
  · exact p1.elim
theorem pa_tys {ts : List Ty} (hb : ts.all Ty.blt = true) (hg : ∀ t ∈ ts, Gl X t.id ∧ X.mg t.id = none) : ∀ {cs : List Expr}, cs.length = ts.length → (cs.zip ts).all (fun p => tyLit p.2 p.1) = true → cs.all nst = true ∧ PA X cs (fun _ H Q => Q (ts.map fun t => V.ty t.nm) H) := by
  induction ts with
  | nil =>
    intro cs hl _
    cases cs with
    | nil => exact ⟨rfl, pa_nil⟩
    | cons _ _ => cases hl
  | cons t ts ih =>
    intro cs hl hz
    cases cs with
    | nil => cases hl
    | cons c cs =>
      simp only [List.all_cons, Bool.and_eq_true] at hb
      simp only [List.zip_cons_cons, List.all_cons, Bool.and_eq_true] at hz
      obtain ⟨h1, h2⟩ := ih hb.2 (fun t ht => hg t (List.mem_cons_of_mem _ ht)) (by simpa using hl) hz.2
      have hc : nst c = true := by cases c <;> first | rfl | (cases hz.1; done)
      obtain ⟨g1, g2⟩ := hg t (List.mem_cons_self ..)
      exact ⟨by simp [hc]; simpa using h1, pa_cons (pe_ty hb.1 hz.1 g1 g2) h2 (star_cons hc)⟩
theorem paired_tys : ∀ ts : List Ty, Paired ClsV (ts.map fun t => V.ty t.nm) (ts.map fun t => Value.type t.nm)
  | [] => .nil
  | t :: ts => .cons (.ty _) (paired_tys ts)
theorem ex_isiT {anc : Nat → Nat → Option Bool} {ts : List Ty} {cs : List Expr} {k : Nat} {p2 : Pos} (hK : T.K = X.K) (hb : ts.all Ty.blt = true) (hne : ts ≠ []) (hsz : ts.length ≤ 1000) (hlen : cs.length = ts.length) (hl : (cs.zip ts).all (fun p => tyLit p.2 p.1) = true) (hg : ∀ t ∈ ts, Gl X t.id ∧ X.mg t.id = none) (hgi : Gl X "isinstance") (hmi : X.mg "isinstance" = none) (hn : nst a = true) (ha : PE X a (tEx T W fa)) :
    PE X (.Call (.Name "isinstance" p) [a, .Tuple cs k p2] [] pos) (tEx T W (isiO anc ts fa)) := by
  obtain ⟨hcs, hpa⟩ := pa_tys hb hg hlen hl
  refine pe_of (pe_callB call_isiT hgi hmi (by decide +kernel) (pa_cons ha (pa_cons (pe_tup hpa) pa_nil rfl) (star_cons hn)) (by decide) (by decide) (star_cons hn) (star_plain _ _ _ (by simp [nst]))) fun σ H Q h => ?_
  obtain ⟨G, μ, ρ, st, hr, er, q⟩ := h
  refine tR.imp (tR.bind (Rel := RpD T) hr er q) fun x H1 ⟨G1, m1, s1, dx, e1, hr1, r1, p1⟩ => ?_
  split at p1
  · rename_i ht
    refine ⟨by rw [List.length_map]; exact Nat.le_trans hsz (by decide), fun q hq => ?_⟩
    obtain ⟨k1, k2⟩ := hr1.known (o := .tup (ts.map fun t => V.ty t.nm)) hq
    refine ⟨x, q, _, .type (dTy s1 dx), _, ts.any fun t => isiD anc s1 dx t, rfl, upd_same, paired_tys ts, hK ▸ ty_D k1 (r1.mono k2.1) (not_exc hb hne ht), kit_any (there_D hr1 r1) hb ht, ?_⟩
    exact p1 _ _ _ _ k2 k1 (.bl _)
  · exact p1.elim
/-! ### methods of lists -/
def mthO (m : Mt) (fa : Env → Sto → R D) (fs : Env → Sto → R (List D)) : Env → Sto → R D := fun ρ st => (fa ρ st).bind fun x st => if okM m x st then (fs ρ st).bind fun vs st => mtD m x vs st else .bad
/-- a mutable list, changed -/
theorem put_here {G : Hp} {μ : List Addr} {st : Sto} {H : Hp} {i : Nat} {a : Addr} {vs : List V} {ds : List D} {v : V} {d : D} {Q : VK} {w : XK} (hr : Hr T G μ st H) (hi : μ[i]? = some a) (r : RpL T G μ vs ds) (rv : Rp T G μ v d) (h : Pr T (RpD T) w G μ H Q (.ok d (st.set i (.lst ds)))) : Q v (upd H a (.lst vs)) :=
  h _ _ _ _ (Gx.put hi) (hr.put hi r) rv
theorem loc_of {m : Mt} {x : D} {st : Sto} (h : okM m x st = true) (h1 : m ≠ .bitlen) (h2 : m ≠ .index) (h3 : m ≠ .tix) : ∃ i xs, x = .loc i ∧ st[i]? = some (.lst xs) := by
  cases x with
  | loc i =>
    cases q : st[i]? with
    | none => cases m <;> simp [okM, q] at h
    | some o => cases o with
      | lst xs => exact ⟨i, xs, rfl, q⟩
      | dct _ => cases m <;> simp [okM, q] at h
  | _ => cases m <;> first | (exact absurd rfl h1) | (exact absurd rfl h2) | (exact absurd rfl h3) | (cases h; done)
/-- what a method's rule asks, from what its run asks -/
theorem mth_go {m : Mt} {r : V → List V → Hp → VK → Prop} (h1 : m ≠ .bitlen) (h2 : m ≠ .index) (h3 : m ≠ .tix)
    (k : ∀ (w : XK) (G : Hp) (μ : List Addr) (st : Sto) (H : Hp) (i : Nat) (a : Addr) (xs : List D) (vs : List V) (ds : List D) (us : List V) (Q : VK), Hr T G μ st H → μ[i]? = some a → st[i]? = some (.lst xs) → H a = some (.lst vs) → RpL T G μ vs xs → RpL T G μ us ds → Pr T (RpD T) w G μ H Q (mtD m (.loc i) ds st) → r (.ref a) us H Q)
    (σ : L2.St) (H : Hp) (Q : VK) (h : tEx T W (mthO m fa fs) σ H Q) : tBM X.K "list" r (tEx T W fa) (tLi T W fs) σ H Q := by
  obtain ⟨G, μ, ρ, st, hr, er, q⟩ := h
  refine tR.imp (tR.bind (Rel := RpD T) hr er q) fun x H1 ⟨G1, m1, s1, dx, e1, hr1, r1, p1⟩ => ?_
  split at p1
  · rename_i hk
    obtain ⟨i, xs, rfl, hi⟩ := loc_of hk h1 h2 h3
    cases r1 with
    | @loc a _ hm =>
      obtain ⟨vs, ha, rv⟩ := hr1.at_ hm hi
      refine ⟨.inl ⟨rfl, _, .inl (.inl ha)⟩, ?_⟩
      refine tR.imp (tR.bind (Rel := RpLs T) hr1 (er.mono e1.1) p1) fun us H2 ⟨G2, m2, s2, ds, e2, hr2, r2, p2⟩ => ?_
      have hm2 := e2.m _ _ hm
      obtain ⟨_, o, ho, hob⟩ := hr2.obj i a hm2
      cases hob with
      | lst h5 h4 => exact k (W σ) G2 m2 s2 H2 i a _ _ ds us Q hr2 hm2 ho h5 h4 r2 p2
      | dct h3 h4 =>
        exfalso
        cases m <;> first | exact absurd rfl h1 | exact absurd rfl h2 | exact absurd rfl h3 | (simp only [mtD, ho] at p2; exact p2.elim)
  · exact p1.elim
theorem mth_go0 {m : Mt} {r : V → List V → Hp → VK → Prop} (h1 : m ≠ .bitlen) (h2 : m ≠ .index) (h3 : m ≠ .tix)
    (k : ∀ (w : XK) (G : Hp) (μ : List Addr) (st : Sto) (H : Hp) (i : Nat) (a : Addr) (xs : List D) (vs : List V) (Q : VK), Hr T G μ st H → μ[i]? = some a → st[i]? = some (.lst xs) → H a = some (.lst vs) → RpL T G μ vs xs → Pr T (RpD T) w G μ H Q (mtD m (.loc i) [] st) → r (.ref a) [] H Q)
    (σ : L2.St) (H : Hp) (Q : VK) (h : tEx T W (mthO m fa fun _ st => .ok [] st) σ H Q) : tBM0 X.K "list" r (tEx T W fa) σ H Q := by
  obtain ⟨G, μ, ρ, st, hr, er, q⟩ := h
  refine tR.imp (tR.bind (Rel := RpD T) hr er q) fun x H1 ⟨G1, m1, s1, dx, e1, hr1, r1, p1⟩ => ?_
  split at p1
  · rename_i hk
    obtain ⟨i, xs, rfl, hi⟩ := loc_of hk h1 h2 h3
    cases r1 with
    | @loc a _ hm =>
      obtain ⟨vs, ha, rv⟩ := hr1.at_ hm hi
      exact ⟨.inl ⟨rfl, _, .inl (.inl ha)⟩, k (W σ) G1 m1 s1 H1 i a _ _ Q hr1 hm hi ha rv p1⟩
  · exact p1.elim
theorem kw_few : (backToKw pos (keywordEach [] X.env)).all (fun x => x.1.isSome) = true := rfl
theorem few_ok (hn : (e :: es).all nst = true) (hl : (e :: es).length < 30) : ((backTo pos (starEach (e :: es) X.env)).all (fun x => !x.1) && (backToKw pos (keywordEach [] X.env)).all (fun x => x.1.isSome)
      && decide ((e :: es).length + ([] : List Keyword).length + (if ([] : List Keyword).isEmpty then 0 else 1) < 30)) = true := by
  have e : (backToKw pos (keywordEach [] X.env)).all (fun x => x.1.isSome) = true := rfl
  rw [star_few pos X.env _ hn, e]
  simpa using hl
def attB (o : Expr) : Bool := match o with
  | .Call (.Name x _) [] [] _ => x != "super"
  | _ => true
theorem att_base {o : Expr} {f : Str} {env : PySem.Env} {w : Sem Value} (h : attB o = true) : attributeBase o f env w = w := by
  unfold attributeBase
  split
  · rename_i id p1 p2
    have h : (id != "super") = true := h
    rw [h]
    simp
  · rfl
theorem ex_append {apos : Pos} (hb : attB a = true) (hline : (apos.endLine == pos.line) = true) (hn : nst e = true) (ha : PE X a (tEx T W fa)) (hs : PA X [e] (tLi T W fs)) : PE X (.Call (.Attribute a "append" apos) [e] [] pos) (tEx T W (mthO .append fa fs)) := by
  have hn' : [e].all nst = true := by simp [hn]
  refine pe_of (pe_bm PySem.F.plainAttrs_list PySem.F.slot_list_append PySem.F.type_list_append mt_append ha hs (att_base hb) (few_ok hn' (by simp)) hline (star_cons hn) (star_plain _ _ _ rfl)) (mth_go (by simp) (by simp) (by simp) ?_)
  intro w G μ st H i a xs vs ds us Q hr hm hi h3 h4 ru p
  simp only [mtD, hi] at p
  split at p
  · split at p
    · rename_i y hz
      cases ru with
      | cons r1 r2 =>
        cases r2
        exact ⟨a, vs, _, rfl, rfl, h3, by rw [h4.len]; exact sz_lt hz, put_here hr hm (h4.app (.cons r1 .nil)) .non p⟩
    · exact p.elim
  all_goals first | (rename_i hh; cases hh; done) | exact p.elim
theorem ex_extend (hb : attB a = true) {apos : Pos} (hline : (apos.endLine == pos.line) = true) (hn : nst e = true) (ha : PE X a (tEx T W fa)) (hs : PA X [e] (tLi T W fs)) : PE X (.Call (.Attribute a "extend" apos) [e] [] pos) (tEx T W (mthO .extend fa fs)) := by
  have hn' : [e].all nst = true := by simp [hn]
  refine pe_of (pe_bm PySem.F.plainAttrs_list PySem.F.slot_list_extend PySem.F.type_list_extend mt_extend ha hs (att_base hb) (few_ok hn' (by simp)) hline (star_cons hn) (star_plain _ _ _ rfl)) (mth_go (by simp) (by simp) (by simp) ?_)
  intro w G μ st H i a xs vs ds us Q hr hm hi h3 h4 ru p
  simp only [mtD, hi] at p
  split at p
  all_goals try (first | (rename_i hh; cases hh; done) | exact p.elim)
  rename_i z
  split at p
  · rename_i ys hy
    split at p
    · rename_i hz
      cases ru with
      | cons r1 r2 =>
        cases r2
        obtain ⟨b, ws, rfl, hb, rb⟩ := lstD_at hr r1 hy
        exact ⟨a, b, vs, ws, rfl, rfl, h3, hb, sz_le (by rw [h4.len, rb.len]; exact hz), put_here hr hm (h4.app rb) .non p⟩
    · exact p.elim
  · exact p.elim
theorem ex_insert (hb : attB a = true) {apos : Pos} {e2 : Expr} (hline : (apos.endLine == pos.line) = true) (hn : nst e = true) (hn2 : nst e2 = true) (ha : PE X a (tEx T W fa)) (hs : PA X [e, e2] (tLi T W fs)) : PE X (.Call (.Attribute a "insert" apos) [e, e2] [] pos) (tEx T W (mthO .insert fa fs)) := by
  have hn' : [e, e2].all nst = true := by simp [hn, hn2]
  refine pe_of (pe_bm PySem.F.plainAttrs_list PySem.F.slot_list_insert PySem.F.type_list_insert mt_insert ha hs (att_base hb) (few_ok hn' (by simp)) hline (star_cons hn) (star_plain _ _ _ (by simp [hn2]))) (mth_go (by simp) (by simp) (by simp) ?_)
  intro w G μ st H i a xs vs ds us Q hr hm hi h3 h4 ru p
  cases ru with
  | nil => simp only [mtD, hi] at p; exact p.elim
  | cons r1 r2 =>
    cases r2 with
    | nil => cases r1 <;> (simp only [mtD, hi] at p; exact p.elim)
    | cons r2 r3 =>
      cases r3 with
      | cons _ _ => cases r1 <;> (simp only [mtD, hi] at p; exact p.elim)
      | nil =>
        cases r1 with
        | int k =>
          simp only [mtD, hi] at p
          split at p
          · rename_i hz
            refine ⟨a, vs, k, _, rfl, rfl, h3, by rw [h4.len]; exact sz_lt hz.1, hz.2.1, hz.2.2, ?_⟩
            refine put_here hr hm ?_ .non p
            rw [List.append_assoc]
            exact (h4.take _).app (.cons r2 (h4.drop _))
          · exact p.elim
        | _ => simp only [mtD, hi] at p; exact p.elim
theorem ex_popAt (hb : attB a = true) {apos : Pos} (hline : (apos.endLine == pos.line) = true) (hn : nst e = true) (ha : PE X a (tEx T W fa)) (hs : PA X [e] (tLi T W fs)) : PE X (.Call (.Attribute a "pop" apos) [e] [] pos) (tEx T W (mthO .popAt fa fs)) := by
  have hn' : [e].all nst = true := by simp [hn]
  refine pe_of (pe_bm PySem.F.plainAttrs_list PySem.F.slot_list_pop PySem.F.type_list_pop mt_popAt ha hs (att_base hb) (few_ok hn' (by simp)) hline (star_cons hn) (star_plain _ _ _ rfl)) (mth_go (by simp) (by simp) (by simp) ?_)
  intro w G μ st H i a xs vs ds us Q hr hm hi h3 h4 ru p
  cases ru with
  | nil => simp only [mtD, hi] at p; exact p.elim
  | cons r1 r2 =>
    cases r2 with
    | cons _ _ => cases r1 <;> (simp only [mtD, hi] at p; exact p.elim)
    | nil =>
      cases r1 with
      | int k =>
        simp only [mtD, hi] at p
        split at p
        · rename_i hk
          have hk : -(2 ^ 62) ≤ k ∧ k < 2 ^ 62 := small62_ok hk
          split at p
          · rename_i j hj
            split at p
            · rename_i y hy
              obtain ⟨v, hv, rv⟩ := h4.get hy
              have hj' : ixN vs.length k = some j := by rw [h4.len]; exact hj
              obtain ⟨q1, q2, q3, q4⟩ := ixN_seq hj'
              exact ⟨a, vs, k, j, v, rfl, rfl, h3, by omega, by omega, q1, hv, put_here hr hm (h4.erase j) rv p⟩
            · exact p.elim
          · exact p.elim
        · exact p.elim
      | _ => simp only [mtD, hi] at p; exact p.elim
theorem ex_pop (hb : attB a = true) {apos : Pos} (hline : (apos.endLine == pos.line) = true) (ha : PE X a (tEx T W fa)) : PE X (.Call (.Attribute a "pop" apos) [] [] pos) (tEx T W (mthO .pop fa fun _ st => .ok [] st)) := by
  refine pe_of (pe_bm0 PySem.F.plainAttrs_list PySem.F.slot_list_pop PySem.F.type_list_pop mt_pop ha (att_base hb) hline) (mth_go0 (by simp) (by simp) (by simp) ?_)
  intro w G μ st H i a xs vs Q hr hm hi h3 h4 p
  simp only [mtD, hi] at p
  split at p
  · rename_i y hy
    have hy' : xs[vs.length - 1]? = some y := by rw [h4.len]; exact hy
    obtain ⟨v, hv, rv⟩ := h4.get hy'
    exact ⟨a, vs, v, rfl, rfl, h3, hv, put_here hr hm h4.dropLast rv p⟩
  · exact p.elim
theorem ex_reverse (hb : attB a = true) {apos : Pos} (hline : (apos.endLine == pos.line) = true) (ha : PE X a (tEx T W fa)) : PE X (.Call (.Attribute a "reverse" apos) [] [] pos) (tEx T W (mthO .reverse fa fun _ st => .ok [] st)) := by
  refine pe_of (pe_bm0 PySem.F.plainAttrs_list PySem.F.slot_list_reverse PySem.F.type_list_reverse mt_reverse ha (att_base hb) hline) (mth_go0 (by simp) (by simp) (by simp) ?_)
  intro w G μ st H i a xs vs Q hr hm hi h3 h4 p
  simp only [mtD, hi] at p
  exact ⟨a, vs, rfl, rfl, h3, put_here hr hm h4.reverse .non p⟩
theorem ex_bits (hb : attB a = true) {apos : Pos} (hline : (apos.endLine == pos.line) = true) (ha : PE X a (tEx T W fa)) : PE X (.Call (.Attribute a "bit_length" apos) [] [] pos) (tEx T W (mthO .bitlen fa fun _ st => .ok [] st)) := by
  refine pe_of (pe_bits ha (att_base hb) hline) fun σ H Q h => ?_
  obtain ⟨G, μ, ρ, st, hr, er, q⟩ := h
  refine tR.imp (tR.bind (Rel := RpD T) hr er q) fun x H1 ⟨G1, m1, s1, dx, e1, hr1, r1, p1⟩ => ?_
  cases r1 with
  | int i =>
    have p1 : Pr T (RpD T) (W σ) G1 m1 H1 Q (.ok (.int (if i = 0 then (0 : Int) else (i.natAbs.log2 : Int) + 1)) s1) := p1
    refine ⟨i, rfl, ?_⟩
    have e : ((Builtin.Int.intBits i : Nat) : Int) = (if i = 0 then (0 : Int) else (i.natAbs.log2 : Int) + 1) := by
      unfold Builtin.Int.intBits
      split <;> split <;> first | rfl | omega | simp_all
    rw [e]
    exact p1.here hr1 (.int _)
  | _ => exact p1.elim
/-! ### d.get(k), d.get(k, x) -/
theorem m1_of (hb : attB a = true) {m : Str} {apos : Pos} {e : Expr} (hl : (apos.endLine == pos.line) = true) (hn : nst e = true) : M1 X a m apos e pos :=
  ⟨att_base hb, few_ok (by simp [hn]) (by simp), hl, by cases e <;> first | rfl | cases hn⟩
theorem m2_of (hb : attB a = true) {m : Str} {apos : Pos} {e f : Expr} (hl : (apos.endLine == pos.line) = true) (hn : nst e = true) (hf : nst f = true) : M2 X a m apos e f pos :=
  ⟨att_base hb, few_ok (by simp [hn, hf]) (by simp), hl, by cases e <;> first | (cases hn; done) | (cases f <;> first | rfl | cases hf)⟩
theorem dg_end {G : Hp} {μ : List Addr} {st : Sto} {H : Hp} {Q : VK} {w : XK} {x dy dz : D} {a0 : Addr} {y z : V} (hr : Hr T G μ st H) (r1 : Rp T G μ (.ref a0) x) (r2 : Rp T G μ y dy) (r3 : Rp T G μ z dz) (p : Pr T (RpD T) w G μ H Q (R.of (dgD x dy dz st) st)) : ∃ o, DGet H a0 y o ∧ Q (o.getD z) H := by
  obtain ⟨v, ev, p⟩ := p.of
  unfold dgD at ev
  split at ev
  · rename_i kvs hd
    split at ev
    · rename_i hk
      obtain ⟨a, o, ea, g, o1, o2⟩ := dct_get hr r1 hd r2 hk
      cases ea
      refine ⟨o, g, ?_⟩
      cases hg : getK kvs dy with
      | none =>
        rw [hg] at o1 ev
        cases o with
        | some _ => cases o1
        | none =>
          cases ev
          exact p.here hr r3
      | some d =>
        rw [hg] at ev
        obtain ⟨u, rfl, ru⟩ := o2 d hg
        cases ev
        exact p.here hr ru
    · cases ev
  · cases ev
theorem is_dct {G : Hp} {μ : List Addr} {st : Sto} {H : Hp} {x : D} {v : V} (hr : Hr T G μ st H) (r : Rp T G μ v x) (h : (dctD st x).isSome = true) : ∃ a, v = .ref a ∧ IsD H a := by
  obtain ⟨kvs, hk⟩ := Option.isSome_iff_exists.mp h
  obtain ⟨a, i, kv, rfl, rfl, hm, hs, h1, h2⟩ := dctD_at hr r hk
  exact ⟨a, rfl, .inl ⟨kv, .inl h1⟩⟩
theorem ex_dg1 {apos : Pos} {b : Expr} {fb : Env → Sto → R D} (hu : X.A.units + 1 < cLine) (hat : attB a = true) (hl : (apos.endLine == pos.line) = true) (hn : nst b = true) (ha : PE X a (tEx T W fa)) (hb : PE X b (tEx T W fb)) :
    PE X (.Call (.Attribute a "get" apos) [b] [] pos) (tEx T W fun ρ st => (fa ρ st).bind fun x st => if (dctD st x).isSome then (fb ρ st).bind fun y st => R.of (dgD x y .non st) st else .bad) := by
  refine pe_of (pe_dget1 hu ha hb (m1_of hat hl hn)) fun σ H Q ⟨G, μ, ρ, st, hr, er, q⟩ => ?_
  refine tR.imp (tR.bind (Rel := RpD T) hr er q) fun x H1 ⟨G1, m1, s1, dx, e1, hr1, r1, p1⟩ => ?_
  split at p1
  · rename_i hs
    obtain ⟨a0, rfl, hd⟩ := is_dct hr1 r1 hs
    refine ⟨a0, rfl, hd, ?_⟩
    refine tR.imp (tR.bind (Rel := RpD T) hr1 (er.mono e1.1) p1) fun y H2 ⟨G2, m2, s2, dy, e2, hr2, r2, p2⟩ => ?_
    exact dg_end hr2 (r1.mono e2.1) r2 .non p2
  · exact p1.elim
theorem ex_dg2 {apos : Pos} {b c : Expr} {fb fc : Env → Sto → R D} (hu : X.A.units + 1 < cLine) (hat : attB a = true) (hl : (apos.endLine == pos.line) = true) (hn : nst b = true) (hn2 : nst c = true) (ha : PE X a (tEx T W fa)) (hb : PE X b (tEx T W fb)) (hc : PE X c (tEx T W fc)) :
    PE X (.Call (.Attribute a "get" apos) [b, c] [] pos) (tEx T W fun ρ st => (fa ρ st).bind fun x st => if (dctD st x).isSome then (fb ρ st).bind fun y st => (fc ρ st).bind fun z st => R.of (dgD x y z st) st else .bad) := by
  refine pe_of (pe_dget2 hu ha hb hc (m2_of hat hl hn hn2)) fun σ H Q ⟨G, μ, ρ, st, hr, er, q⟩ => ?_
  refine tR.imp (tR.bind (Rel := RpD T) hr er q) fun x H1 ⟨G1, m1, s1, dx, e1, hr1, r1, p1⟩ => ?_
  split at p1
  · rename_i hs
    obtain ⟨a0, rfl, hd⟩ := is_dct hr1 r1 hs
    refine ⟨a0, rfl, hd, ?_⟩
    refine tR.imp (tR.bind (Rel := RpD T) hr1 (er.mono e1.1) p1) fun y H2 ⟨G2, m2, s2, dy, e2, hr2, r2, p2⟩ => ?_
    refine tR.imp (tR.bind (Rel := RpD T) hr2 ((er.mono e1.1).mono e2.1) p2) fun z H3 ⟨G3, m3, s3, dz, e3, hr3, r3, p3⟩ => ?_
    exact dg_end hr3 ((r1.mono e2.1).mono e3.1) (r2.mono e3.1) r3 p3
  · exact p1.elim
/-- a dict of the module: where it stands, what it holds, what it doesn't -/
def KdF (K : PySem.W.Frag) (w : World) (T : Tb) (mg : Str → Option Value) (x : Str) (kvs : List (D × D)) (ms : List D) : Prop := ∃ (d : Addr) (es : Array DictEntry) (n : Nat), mg x = some (.ref d) ∧ KDict K w d es n ∧
  (∀ k z, getK kvs (.str k) = some z → ∃ (u : Value) (v : V), PySem.W.nsIn K d (txS k) = some (some u) ∧ RelV v u ∧ ∀ G μ, Rp T G μ v z) ∧ ∀ k, ms.any (fun m => kEq m (.str k)) = true → PySem.W.nsIn K d (txS k) = some none
def kdQ (K : PySem.W.Frag) (d : Addr) (y z : V) (Q : V → Prop) : Prop := ∃ (k : Str) (r : Option Value), y = .str k ∧ PySem.W.nsIn K d k = some r ∧ ∀ v, RelO (some v) r ∨ (r = none ∧ v = z) → Q v
theorem kd_dict0 {d : Addr} {es : Array DictEntry} {n : Nat} {pins : List (Addr × Obj)} {σ : L2.St} {H : Hp} {s : Shared} (D : KDict X.K X.w d es n) (I : Inv X pins σ H s) : ∀ b, Value.ref d = .ref b → ∃ ob, s.heap.get? b = some ob ∧ ob.dict = none := by
  intro b e
  cases e
  exact ⟨_, I.kIn _ _ D.at_, rfl⟩
theorem pe_kdget1 {o e : Expr} {apos : Pos} {d : Addr} {es : Array DictEntry} {n : Nat} {ty : TE} (D : KDict X.K X.w d es n) (ho : PE X o (tC (.ref d))) (he : PE X e ty) (m : M1 X o "get" apos e pos) :
    PE X (.Call (.Attribute o "get" apos) [e] [] pos) (fun σ H Q => ty σ H fun y H2 => ∃ (k : Str) (r : Option Value) (v : V), y = .str k ∧ PySem.W.nsIn X.K d k = some r ∧ RelV v (r.getD .none) ∧ Q v H2) := by
  refine ⟨fun pins s σ H Q I h => ?_⟩
  refine wpAny_Call_method m.base m.few m.line PySem.F.plainAttrs_dict PySem.F.slot_dict_get PySem.F.type_dict_get (thn (ho.run pins s σ H (fun x H1 => x = .ref d ∧ H1 = H) I ⟨rfl, rfl⟩) fun u s1 ⟨x, H1, I1, rx, ex, e1⟩ => ?_)
  subst ex e1
  obtain rfl : u = Value.ref d := rx
  refine ⟨kd_type D I1, kd_dict0 D I1, ?_⟩
  rw [m.trees]
  refine Calls.callWith_builtin rfl (Calls.evalArgs_plain (Calls.spliced_cons (thn (he.run pins s1 σ H1 _ I1 h) fun iv s2 ⟨y, H2, I2, ry, k, r, v, ey, hn, hv, q2⟩ => Calls.spliced_nil ?_)))
  subst ey
  obtain ⟨t, rfl⟩ := ry
  have hm := PySem.W.mapOf_K (prog := X.prog) (w := X.w) I2.kIn D.at_ D.lit
  refine call_meetsIn PySem.F.slot_dict_get hm.typeIs PySem.F.entry_dict_get (PySem.F.args_dict_get_2 _ _) (meets_dict_get (strKind X.prog X.w) d (PySem.strKind_is X.prog X.w k t) D.low) ⟨_, hm, ?_⟩
  rw [PySem.W.find_K D.at_ hn]
  exact ⟨v, H2, I2.tok _, hv, q2⟩
theorem pe_kdget2 {o e f : Expr} {apos : Pos} {d : Addr} {es : Array DictEntry} {n : Nat} {ty tz : TE} (D : KDict X.K X.w d es n) (ho : PE X o (tC (.ref d))) (he : PE X e ty) (hf : PE X f tz) (m : M2 X o "get" apos e f pos) :
    PE X (.Call (.Attribute o "get" apos) [e, f] [] pos) (fun σ H Q => ty σ H fun y H2 => tz σ H2 fun z H3 => ∃ (k : Str) (r : Option Value), y = .str k ∧ PySem.W.nsIn X.K d k = some r ∧ (match r with | none => Q z H3 | some u => ∃ v, RelV v u ∧ Q v H3)) := by
  refine ⟨fun pins s σ H Q I h => ?_⟩
  refine wpAny_Call_method m.base m.few m.line PySem.F.plainAttrs_dict PySem.F.slot_dict_get PySem.F.type_dict_get (thn (ho.run pins s σ H (fun x H1 => x = .ref d ∧ H1 = H) I ⟨rfl, rfl⟩) fun u s1 ⟨x, H1, I1, rx, ex, e1⟩ => ?_)
  subst ex e1
  obtain rfl : u = Value.ref d := rx
  refine ⟨kd_type D I1, kd_dict0 D I1, ?_⟩
  rw [m.trees]
  refine Calls.callWith_builtin rfl (Calls.evalArgs_plain (Calls.spliced_cons (thn (he.run pins s1 σ H1 _ I1 h) fun iv s2 ⟨y, H2, I2, ry, q1⟩ =>
    Calls.spliced_cons (thn (hf.run pins s2 σ H2 _ I2 q1) fun fv s3 ⟨z, H3, I3, rz, k, r, ey, hn, q2⟩ => Calls.spliced_nil ?_))))
  subst ey
  obtain ⟨t, rfl⟩ := ry
  have hm := PySem.W.mapOf_K (prog := X.prog) (w := X.w) I3.kIn D.at_ D.lit
  refine call_meetsIn PySem.F.slot_dict_get hm.typeIs PySem.F.entry_dict_get (PySem.F.args_dict_get_3 _ _ _) (meets_dict_get_default (strKind X.prog X.w) d (PySem.strKind_is X.prog X.w k t) D.low fv) ⟨_, hm, ?_⟩
  rw [PySem.W.find_K D.at_ hn]
  cases r with
  | none => exact ⟨z, H3, I3.tok _, rz, q2⟩
  | some u => 
    obtain ⟨v, hv, q2⟩ := q2
    exact ⟨v, H3, I3.tok _, hv, q2⟩
theorem ex_tg1 {apos p2 : Pos} {x : Str} {b : Expr} {fb : Env → Sto → R D} {kvs : List (D × D)} {ms : List D} (hF : KdF X.K X.w T X.mg x kvs ms) (hg : Gl X x) (hdb : (x == ("__debug__" : Str)) = false) (hl : (apos.endLine == pos.line) = true) (hn : nst b = true) (hb : PE X b (tEx T W fb)) :
    PE X (.Call (.Attribute (.Name x p2) "get" apos) [b] [] pos) (tEx T W fun ρ st => (fb ρ st).bind fun y st => R.of (tgD kvs ms y .non) st) := by
  obtain ⟨d, es, n, hm, hD, h1, h2⟩ := hF
  refine pe_of (pe_kdget1 hD (pe_glob hg hm (show RelV (.ref d) (.ref d) from rfl) hdb) hb (m1_of (a := .Name x p2) rfl hl hn)) fun σ H Q ⟨G, μ, ρ, st, hr, er, q⟩ => ?_
  refine tR.imp (tR.bind (Rel := RpD T) hr er q) fun y H2 ⟨G2, m2, s2, dy, e2, hr2, r2, p2⟩ => ?_
  obtain ⟨z, ez, p3⟩ := p2.of
  cases r2 with
  | str k hk =>
    simp only [tgD] at ez
    split at ez
    · rename_i v hv
      cases ez
      obtain ⟨u, w, n1, n2, n3⟩ := h1 k _ hv
      exact ⟨_, _, w, rfl, n1, n2, p3.here hr2 (n3 _ _)⟩
    · split at ez
      · rename_i hms
        cases ez
        exact ⟨_, _, .non, rfl, h2 k hms, rfl, p3.here hr2 .non⟩
      · cases ez
  | _ => cases ez
theorem ex_tg2 {apos p2 : Pos} {x : Str} {b c : Expr} {fb fc : Env → Sto → R D} {kvs : List (D × D)} {ms : List D} (hF : KdF X.K X.w T X.mg x kvs ms) (hg : Gl X x) (hdb : (x == ("__debug__" : Str)) = false) (hl : (apos.endLine == pos.line) = true) (hn : nst b = true) (hn2 : nst c = true) (hb : PE X b (tEx T W fb)) (hc : PE X c (tEx T W fc)) :
    PE X (.Call (.Attribute (.Name x p2) "get" apos) [b, c] [] pos) (tEx T W fun ρ st => (fb ρ st).bind fun y st => (fc ρ st).bind fun z st => R.of (tgD kvs ms y z) st) := by
  obtain ⟨d, es, n, hm, hD, h1, h2⟩ := hF
  refine pe_of (pe_kdget2 hD (pe_glob hg hm (show RelV (.ref d) (.ref d) from rfl) hdb) hb hc (m2_of (a := .Name x p2) rfl hl hn hn2)) fun σ H Q ⟨G, μ, ρ, st, hr, er, q⟩ => ?_
  refine tR.imp (tR.bind (Rel := RpD T) hr er q) fun y H1 ⟨G1, m1, s1, dy, e1, hr1, r1, p1⟩ => ?_
  refine tR.imp (tR.bind (Rel := RpD T) hr1 (er.mono e1.1) p1) fun z H2 ⟨G2, m2, s2, dz, e2, hr2, r2, p2⟩ => ?_
  obtain ⟨v, ev, p3⟩ := p2.of
  cases r1 with
  | str k hk =>
    simp only [tgD] at ev
    split at ev
    · rename_i v0 hv
      cases ev
      obtain ⟨u, w, n1, n2, n3⟩ := h1 k _ hv
      exact ⟨_, _, rfl, n1, w, n2, p3.here hr2 (n3 _ _)⟩
    · split at ev
      · rename_i hms
        cases ev
        exact ⟨_, _, rfl, h2 k hms, p3.here hr2 r2⟩
      · cases ev
  | _ => cases ev
/-- D[k] of a dict of the module -/
theorem ex_tix2 {p2 : Pos} {x : Str} {b : Expr} {fb : Env → Sto → R D} {kvs : List (D × D)} {ms : List D} (hF : KdF X.K X.w T X.mg x kvs ms) (hg : Gl X x) (hdb : (x == ("__debug__" : Str)) = false) (hs : nsl b = true) (hb : PE X b (tEx T W fb)) :
    PE X (.Subscript (.Name x p2) b pos) (tEx T W fun ρ st => (fb ρ st).bind fun y st => R.of (txD kvs y) st) := by
  obtain ⟨d, es, n, hm, hD, h1, h2⟩ := hF
  have ho : PE X (.Name x p2) (tC (.ref d)) := pe_glob hg hm (show RelV (.ref d) (.ref d) from rfl) hdb
  refine ⟨fun pins s σ H Q I h => ?_⟩
  refine Subscript_ (binT ho hb I (R := fun x y H2 => ∃ (v : V) (z : Str), x = .ref d ∧ y = .str z ∧ KDct X.K X.w d z v ∧ Q v H2) ?_ fun v u s2 x y H2 I2 rx ry q => ?_)
  · obtain ⟨G, μ, ρ, st, hr, er, q⟩ := h
    show tEx T W fb σ H _
    refine tR.imp (tR.bind (Rel := RpD T) hr er q) fun y H2 ⟨G2, m2, s2, dy, e2, hr2, r2, p2⟩ => ?_
    obtain ⟨z, ez, p3⟩ := p2.of
    cases r2 with
    | str k hk =>
      simp only [txD] at ez
      obtain ⟨u, w, n1, n2, n3⟩ := h1 k _ ez
      exact ⟨w, _, rfl, rfl, ⟨es, n, u, hD.at_, hD.lit, n1, n2⟩, p3.here hr2 (n3 _ _)⟩
    | _ => cases ez
  · obtain ⟨v0, z, ex, ey, kd, q⟩ := q
    subst ex ey
    exact ix_kdict _ b pins s2 σ H2 (.ref d) (.str z) v u Q I2 rx ry ⟨d, z, v0, rfl, rfl, kd, q⟩ (plain_ix hs _ _)
/-! ### dict(d), dict(t) -/
theorem pairs_rp {G : Hp} {μ : List Addr} : ∀ {vs : List V} {xs : List D} {ps : List (D × D)}, RpL T G μ vs xs → pairsD xs = some ps → ∃ (as : List Addr) (kvs : List (Key × V)), vs = as.map V.ref ∧ Paired (fun p kv => SqT T.K G p [kV kv.1, kv.2]) as kvs ∧
    ∀ {a : List (Key × V)} {b : List (D × D)}, RpK T G μ a b → RpK T G μ (mergeK a kvs) (ps.foldl (fun acc p => putKD acc p.1 p.2) b)
  | [], _, ps, r, h => by
    cases r
    cases h
    exact ⟨[], [], rfl, .nil, fun r => r⟩
  | v :: vs, _, ps, r, h => by
    cases r with
    | @cons _ _ d ds r1 r2 =>
      cases d with
      | tup zs =>
        match zs, r1, h with
        | [], _, h => cases h
        | [_], _, h => cases h
        | _ :: _ :: _ :: _, _, h => cases h
        | [k, x], r1, h =>
          simp only [pairsD] at h
          split at h
          · rename_i hk
            simp only [Option.map_eq_some_iff] at h
            obtain ⟨qs, hq, rfl⟩ := h
            obtain ⟨as, kvs, e1, e2, e3⟩ := pairs_rp r2 hq
            cases r1 with
            | @tup a ws _ h1 h2 h9 =>
              cases h2 with
              | cons q1 q2 => cases q2 with
                | cons q2 q3 =>
                  cases q3
                  obtain ⟨key, rfl⟩ := key_rp hk q1
                  exact ⟨a :: as, (key, _) :: kvs, by rw [e1]; rfl, .cons h1 e2, fun r => e3 (rpk_put q1 q2 r)⟩
          · cases h
      | _ => cases h
theorem ex_dcp {p2 : Pos} {b : Expr} {fb : Env → Sto → R D} (hK : T.K = X.K) (hc : X.calm = true) (hg : Gl X "dict") (hm : X.mg "dict" = none) (hn : nst b = true) (hb : PE X b (tEx T W fb)) :
    PE X (.Call (.Name "dict" p2) [b] [] pos) (tEx T W fun ρ st => (fb ρ st).bind fun x st => dcpD x st) := by
  have cr : CallR X (.type "dict") (fun xs H Q => (∃ (a : Addr) (kvs : List (Key × V)), xs = [.ref a] ∧ Rd H a (.dK kvs) ∧ ∀ p, H p = none → Q (.ref p) (upd H p (.dK kvs))) ∨
      (∃ (a : Addr) (ps : List Addr) (kvs : List (Key × V)), xs = [.ref a] ∧ SqT X.K H a (ps.map V.ref) ∧ (∃ o, o.dict = none ∧ ((∃ u, H a = some (.frz o u)) ∨ X.K.lookup a = some o)) ∧ Paired (fun p kv => SqT X.K H p [kV kv.1, kv.2]) ps kvs ∧ ∀ p, H p = none → Q (.ref p) (upd H p (.dK (mergeK [] kvs))))) := by
    intro pins s σ H xs us Q I r q
    rcases q with ⟨a, kvs, e1, e2, q⟩ | q
    · subst e1
      obtain ⟨u, eu, rx⟩ := vals1 r
      subst eu
      cases rx
      exact d_copyOf I e2 fun p s' hp I' => ⟨.ref p, _, I', rfl, q p hp⟩
    · exact DN.call_dictF hc pins s σ H xs us Q I r q
  refine pe_of (pe_callTy cr hg hm (by decide +kernel) (pa_cons hb pa_nil (star_cons hn)) (by decide) (by decide) (star_cons hn) (star_plain _ _ _ (by simp [hn]))) fun σ H Q ⟨G, μ, ρ, st, hr, er, q⟩ => ?_
  refine tR.imp (tR.bind (Rel := RpD T) hr er q) fun x H1 ⟨G1, m1, s1, dx, e1, hr1, r1, p1⟩ => ?_
  have copy : (∃ kvs, dctD s1 dx = some kvs ∧ Pr T (RpD T) (W σ) G1 m1 H1 Q (cpDct kvs s1)) → ∃ (a : Addr) (kvs : List (Key × V)), [x] = [.ref a] ∧ Rd H1 a (.dK kvs) ∧ ∀ p, H1 p = none → Q (.ref p) (upd H1 p (.dK kvs)) := by
    rintro ⟨kvs, hd, p9⟩
    obtain ⟨a, i, kv, rfl, rfl, hm, hs, h1, h2⟩ := dctD_at hr1 r1 hd
    refine ⟨a, kv, rfl, .inl h1, fun q hq => ?_⟩
    have p1 : Pr T (RpD T) (W σ) G1 m1 H1 Q (.ok (.loc s1.length) (s1 ++ [.dct kvs])) := p9
    obtain ⟨hr2, e2⟩ := hr1.laidO (o := .dK kv) (ob := .dct kvs) hq (.dct upd_same h2)
    exact p1 _ _ _ (.ref q) e2 hr2 (.loc (by rw [← hr1.len]; simp))
  have other : (∀ ys, dx ≠ .tup ys) → ∃ kvs, dctD s1 dx = some kvs ∧ Pr T (RpD T) (W σ) G1 m1 H1 Q (cpDct kvs s1) := by
    intro nt
    have e : dcpD dx s1 = (match dctD s1 dx with
      | some kvs => cpDct kvs s1
      | none => .bad) := by
      cases dx <;> first | rfl | exact absurd rfl (nt _)
    rw [e] at p1
    cases hd : dctD s1 dx with
    | none => rw [hd] at p1; exact p1.elim
    | some kvs => rw [hd] at p1; exact ⟨kvs, rfl, p1⟩
  cases dx with
  | tup ys =>
    cases r1 with
    | @tup a vs _ h1 h2 h9 =>
      cases hp : pairsD ys with
      | none =>
        simp only [dcpD, hp] at p1
        exact p1.elim
      | some ps =>
        simp only [dcpD, hp] at p1
        obtain ⟨as, kvs, e2, e3, e4⟩ := pairs_rp h2 hp
        subst e2
        have pl : PlT T.K G1 a := by
          rcases h9 with h9 | ⟨i, d, rfl⟩
          · exact h9
          · cases hp
        obtain ⟨o, od, ho⟩ := pl
        refine .inr ⟨a, as, kvs, rfl, hK ▸ sqt_sub hr1 h1, ⟨o, od, ?_⟩, L2.Paired.mapP e3 (fun p kv h => hK ▸ sqt_sub hr1 h), fun q hq => ?_⟩
        · rcases ho with ⟨u, h⟩ | h
          · exact .inl ⟨u, hr1.sub _ _ h⟩
          · exact .inr (hK ▸ h)
        · have p1 : Pr T (RpD T) (W σ) G1 m1 H1 Q (.ok (.loc s1.length) (s1 ++ [.dct (ps.foldl (fun acc p => putKD acc p.1 p.2) [])])) := p1
          have hk := e4 (a := []) (b := []) .nil
          obtain ⟨hr2, e5⟩ := hr1.laidO (o := .dK (mergeK [] kvs)) (ob := .dct (ps.foldl (fun acc p => putKD acc p.1 p.2) [])) hq (.dct upd_same hk)
          exact p1 _ _ _ (.ref q) e5 hr2 (.loc (by rw [← hr1.len]; simp))
  | _ => exact .inl (copy (other fun _ h => nomatch h))
end
end DI
set_option Elab.async false
set_option linter.all false
set_option maxRecDepth 100000
set_option maxHeartbeats 4000000
set_option autoImplicit false
namespace DI
open PySem PySem.Spec PyProof.Rows L2
/-! ### what a loop walks -/
/-- in every heap behind: the turn i is there and yields the item i, or there is none -/
def SrcR (T : Tb) : Hp → List Addr → L2.It → Src → Prop := fun G μ J src => ∀ (G1 : Hp) (μ1 : List Addr) (st1 : Sto) (H1 : Hp), Gm G μ G1 μ1 → Hr T G1 μ1 st1 H1 → ∀ i : Nat,
  match src with
  | .st xs => (xs.length ≤ i → J.stop i H1) ∧ ∀ d, xs[i]? = some d → J.go i H1 ∧ ∀ x H2, J.yld i H1 x H2 → ∃ G2, Gx G1 μ1 H1 G2 μ1 H2 ∧ Hr T G2 μ1 st1 H2 ∧ Rp T G2 μ1 x d
  | .lv k => ∀ ys, st1[k]? = some (.lst ys) → (ys.length ≤ i → J.stop i H1) ∧ ∀ d, ys[i]? = some d → J.go i H1 ∧ ∀ x H2, J.yld i H1 x H2 → ∃ G2, Gx G1 μ1 H1 G2 μ1 H2 ∧ Hr T G2 μ1 st1 H2 ∧ Rp T G2 μ1 x d
  | .lvE k => ∀ ys, st1[k]? = some (.lst ys) → (ys.length ≤ i → J.stop i H1) ∧ ∀ d, ys[i]? = some d → J.go i H1 ∧ ∀ x H2, J.yld i H1 x H2 → ∃ G2, Gx G1 μ1 H1 G2 μ1 H2 ∧ Hr T G2 μ1 st1 H2 ∧ Rp T G2 μ1 x (.tup [.int (i : Nat), d])
abbrev tIt (T : Tb) (W : L2.St → XK) (f : Env → Sto → R Src) : TI := tR T (SrcR T) W f
section
variable {X : Cx} {T : Tb} {W : L2.St → XK} {a b c tg : Expr} {fa fb fc : Env → Sto → R D} {pos p : Pos}
/-- an iterable by its value: a list, a tuple, a text -/
def iAny (K : PySem.W.Frag) (te : TE) : TI := fun σ H Rq => te σ H fun x H1 => (∃ a, x = .ref a ∧ (∃ xs, SqL K H1 a xs) ∧ Rq (Itl K a) H1) ∨ (∃ a, x = .ref a ∧ (∃ xs, SqT K H1 a xs) ∧ Rq (Itt K a) H1) ∨ ∃ z, x = .str z ∧ Rq (Its z) H1
theorem pi_any {te : TE} (h : PE X a te) : PI X tg a (iAny X.K te) := by
  refine ⟨fun pins s σ H Rq I hq => thn (h.run pins s σ H _ I hq) fun v s1 ⟨x, H1, I1, r1, q1⟩ => ?_⟩
  rcases q1 with ⟨ad, rfl, ⟨xs, hx⟩, q⟩ | ⟨ad, rfl, ⟨xs, hx⟩, q⟩ | ⟨z, rfl, q⟩
  · cases r1
    obtain ⟨its, rv, pl, hz⟩ := I1.list hx
    exact wpAny_pyIter_list pl.isList (pi_one (tk := s1.toks) I1 _ (turn_list ad _) ⟨_, Heap.get?_push_size _ rfl, rfl, rfl⟩ q)
  · cases r1
    obtain ⟨its, rv, pl, hz⟩ := I1.tuple hx
    exact wpAny_pyIter_tuple (show s1.heap.IsTuple ad its.toArray from pl) (pi_one (tk := s1.toks) I1 _ (turn_tuple ad _) ⟨_, Heap.get?_push_size _ rfl, rfl, rfl⟩ q)
  · obtain ⟨t, rfl⟩ := r1
    cases ha : z.cps.all (· < 128) with
    | false => exact wpAny_pyIter_wide ha (pi_one (tk := s1.toks) I1 _ (turn_str _ z t "str_iterator" (.inr rfl)) ⟨_, Heap.get?_push_size _ rfl, rfl, rfl⟩ q)
    | true => exact wpAny_pyIter_ascii ha (pi_one (tk := s1.toks) I1 _ (turn_str _ z t "str_ascii_iterator" (.inl rfl)) ⟨_, Heap.get?_push_size _ rfl, rfl, rfl⟩ q)
theorem sql_inj {K : PySem.W.Frag} {H : Hp} {a : Addr} {xs : List V} (I : ∀ ys, SqL K H a ys → ys = xs) : True := trivial
/-- a list is one list in the machine -/
theorem src_seq {G : Hp} {μ : List Addr} {st : Sto} {H : Hp} {x : V} {d : D} {src : Src} (hK : T.K = X.K) (hr : Hr T G μ st H) (r : Rp T G μ x d) (e : srcD st d = some src) {Rq : L2.It → Hp → Prop} (q : ∀ J, SrcR T G μ J src → Rq J H) :
    (∃ a, x = .ref a ∧ (∃ xs, SqL X.K H a xs) ∧ Rq (Itl X.K a) H) ∨ (∃ a, x = .ref a ∧ (∃ xs, SqT X.K H a xs) ∧ Rq (Itt X.K a) H) ∨ ∃ z, x = .str z ∧ Rq (Its z) H := by
  have fixL : ∀ {a : Addr} {vs : List V} {ds : List D}, SqL T.K G a vs → RpL T G μ vs ds → src = .st ds → Rq (Itl X.K a) H := by
    intro a vs ds h1 h2 es
    subst es
    refine q _ fun G1 m1 s1 H1 e1 hr1 i => ⟨fun hi => ?_, fun d hd => ?_⟩
    · exact ⟨vs, hK ▸ sql_mono (fun b o z => hr1.sub b o (e1.g b o z)) h1, by rw [h2.len]; exact hi⟩
    · obtain ⟨v, hv, rv⟩ := h2.get hd
      have hs : SqL X.K H1 a vs := hK ▸ sql_mono (fun b o z => hr1.sub b o (e1.g b o z)) h1
      refine ⟨⟨vs, v, hs, hv⟩, fun x H2 ⟨y1, y2⟩ => ?_⟩
      have := y2 vs hs
      rw [hv] at this
      cases this
      subst y1
      exact ⟨G1, .refl, hr1, rv.mono e1⟩
  cases r with
  | str s hs =>
    cases e
    refine .inr (.inr ⟨_, rfl, q _ fun G1 m1 s1 H1 e1 hr1 i => ⟨fun hi => ?_, fun d hd => ?_⟩⟩)
    · show (txS s).cps.size ≤ i
      simpa [txS] using hi
    · simp only [List.getElem?_map, Option.map_eq_some_iff] at hd
      obtain ⟨c, hc, rfl⟩ := hd
      refine ⟨?_, fun x H2 ⟨y1, c2, y2, y3⟩ => ?_⟩
      · show i < (txS s).cps.size
        have := (List.getElem?_eq_some_iff.mp hc).1
        simpa [txS] using this
      · have : c = c2 := by
          simp [txS] at y2
          rw [hc] at y2
          exact Option.some.inj y2
        subst this y1 y3
        refine ⟨G1, .refl, hr1, .str [c] ⟨strOk_sub hs.1 fun z hz => ?_, by show 1 ≤ sizeLine; decide⟩⟩
        simp at hz
        subst hz
        exact List.mem_of_getElem? hc
  | @tup a vs ds h1 h2 h9 =>
    cases e
    refine .inr (.inl ⟨a, rfl, ⟨vs, hK ▸ sqt_sub hr h1⟩, q _ fun G1 m1 s1 H1 e1 hr1 i => ⟨fun hi => ?_, fun d hd => ?_⟩⟩)
    · exact ⟨vs, hK ▸ sqt_mono (fun b o z => hr1.sub b o (e1.g b o z)) h1, by rw [h2.len]; exact hi⟩
    · obtain ⟨v, hv, rv⟩ := h2.get hd
      have hs : SqT X.K H1 a vs := hK ▸ sqt_mono (fun b o z => hr1.sub b o (e1.g b o z)) h1
      refine ⟨⟨vs, v, hs, hv⟩, fun x H2 ⟨y1, y2⟩ => ?_⟩
      have := y2 vs hs
      rw [hv] at this
      cases this
      subst y1
      exact ⟨G1, .refl, hr1, rv.mono e1⟩
  | @lst a vs ds h1 h2 => cases e; exact .inl ⟨a, rfl, ⟨vs, .inl (.inl (hr.sub _ _ h1))⟩, fixL (.inl (.inl h1)) h2 rfl⟩
  | @ro a vs ds h1 h2 => cases e; exact .inl ⟨a, rfl, ⟨vs, hK ▸ sql_sub hr h1⟩, fixL h1 h2 rfl⟩
  | @loc a i h =>
    obtain ⟨_, o, ho, hob⟩ := hr.obj i a h
    simp only [srcD, ho] at e
    cases hob with
    | dct _ _ => cases e
    | @lst vs ds h1 h2 =>
      cases e
      refine .inl ⟨a, rfl, ⟨vs, .inl (.inl h1)⟩, q _ fun G1 m1 s1 H1 e1 hr1 j ys hys => ?_⟩
      obtain ⟨ws, h3, h4⟩ := hr1.at_ (e1.m _ _ h) hys
      have hs : SqL X.K H1 a ws := .inl (.inl h3)
      refine ⟨fun hi => ⟨ws, hs, by rw [h4.len]; exact hi⟩, fun d hd => ?_⟩
      obtain ⟨v, hv, rv⟩ := h4.get hd
      refine ⟨⟨ws, v, hs, hv⟩, fun x H2 ⟨y1, y2⟩ => ?_⟩
      have := y2 ws hs
      rw [hv] at this
      cases this
      subst y1
      exact ⟨G1, .refl, hr1, rv⟩
  | non => cases e
  | bl _ => cases e
  | int _ => cases e
  | exc _ _ _ => cases e
theorem ei_seq (hK : T.K = X.K) (ha : PE X a (tEx T W fa)) : PI X tg a (tIt T W fun ρ st => (fa ρ st).bind fun x st => R.of (srcD st x) st) := by
  refine ⟨fun pins s σ H Rq I h => (pi_any ha).run pins s σ H Rq I ?_⟩
  obtain ⟨G, μ, ρ, st, hr, er, q⟩ := h
  refine tR.imp (tR.bind (Rel := RpD T) hr er q) fun x H1 ⟨G1, m1, s1, dx, e1, hr1, r1, p1⟩ => ?_
  obtain ⟨src, es, p2⟩ := p1.of
  exact src_seq hK hr1 r1 es fun J hJ => p2.here hr1 hJ
theorem src_rng {G : Hp} {μ : List Addr} (lo hi : Int) : SrcR T G μ (Itr lo (hi - lo).toNat) (.st (rngD lo hi)) := by
  intro G1 m1 s1 H1 e1 hr1 i
  have hl : (rngD lo hi).length = (hi - lo).toNat := by simp [rngD]
  refine ⟨fun h => by rw [hl] at h; exact h, fun d hd => ?_⟩
  have hi' := (List.getElem?_eq_some_iff.mp hd).1
  rw [hl] at hi'
  refine ⟨hi', fun x H2 ⟨y1, y2⟩ => ?_⟩
  subst y1 y2
  have : d = .int (lo + (i : Nat)) := by
    unfold rngD at hd
    rw [List.getElem?_map, List.getElem?_range hi'] at hd
    exact (Option.some.inj hd).symm
  subst this
  exact ⟨G1, .refl, hr1, .int _⟩
theorem ei_rng1 (hg : Gl X "range") (hm : X.mg "range" = none) (hn : nst a = true) (ha : PE X a (tEx T W fa)) : PI X tg (.Call (.Name "range" p) [a] [] pos) (tIt T W fun ρ st => (fa ρ st).bind fun x st => match x with
    | .int i => if small62 i then .ok (.st (rngD 0 i)) st else .bad
    | _ => .bad) := by
  refine ⟨fun pins s σ H Rq I h => (pi_range1 hg hm (pa_cons ha pa_nil (star_cons hn)) (star_cons hn)).run pins s σ H Rq I ?_⟩
  obtain ⟨G, μ, ρ, st, hr, er, q⟩ := h
  refine tR.imp (tR.bind (Rel := RpD T) hr er q) fun x H1 ⟨G1, m1, s1, dx, e1, hr1, r1, p1⟩ => ?_
  cases r1 with
  | int i =>
    replace p1 : Pr T (SrcR T) (W σ) G1 m1 H1 Rq (if small62 i then .ok (.st (rngD 0 i)) s1 else .bad) := p1
    split at p1
    · rename_i hs
      have hs : -(2 ^ 62) ≤ i ∧ i < 2 ^ 62 := small62_ok hs
      refine ⟨i, rfl, hs.1, hs.2, ?_⟩
      have := src_rng (T := T) (G := G1) (μ := m1) 0 i
      rw [Int.sub_zero] at this
      exact p1.here hr1 this
    · exact p1.elim
  | _ => exact p1.elim
theorem ei_rng2 (hg : Gl X "range") (hm : X.mg "range" = none) (hn : nst a = true) (hn2 : nst b = true) (ha : PE X a (tEx T W fa)) (hb : PE X b (tEx T W fb)) : PI X tg (.Call (.Name "range" p) [a, b] [] pos) (tIt T W fun ρ st => (fa ρ st).bind fun x st => (fb ρ st).bind fun y st => match x, y with
    | .int i, .int j => if small62 i && small62 j then .ok (.st (rngD i j)) st else .bad
    | _, _ => .bad) := by
  refine ⟨fun pins s σ H Rq I h => (pi_range2 hg hm (pa_cons ha (pa_cons hb pa_nil (star_cons hn2)) (star_cons hn)) (by rw [star_cons hn, star_cons hn2]; rfl) (by rw [star_cons hn2]; rfl)).run pins s σ H Rq I ?_⟩
  obtain ⟨G, μ, ρ, st, hr, er, q⟩ := h
  refine tR.imp (tR.bind (Rel := RpD T) hr er q) fun x H1 ⟨G1, m1, s1, dx, e1, hr1, r1, p1⟩ => ?_
  refine tR.imp (tR.bind (Rel := RpD T) hr1 (er.mono e1.1) p1) fun y H2 ⟨G2, m2, s2, dy, e2, hr2, r2, p2⟩ => ?_
  cases r1 with
  | int i =>
    cases r2 with
    | int j =>
      replace p2 : Pr T (SrcR T) (W σ) G2 m2 H2 Rq (if small62 i && small62 j then .ok (.st (rngD i j)) s2 else .bad) := p2
      split at p2
      · rename_i hs
        obtain ⟨h1, h2⟩ := Bool.and_eq_true_iff.mp hs
        have h1 : -(2 ^ 62) ≤ i ∧ i < 2 ^ 62 := small62_ok h1
        have h2 : -(2 ^ 62) ≤ j ∧ j < 2 ^ 62 := small62_ok h2
        exact ⟨i, j, rfl, ⟨h1.1, h1.2, h2.1, h2.2⟩, p2.here hr2 (src_rng i j)⟩
      · exact p2.elim
    | _ => exact p2.elim
  | _ => exact False.elim p2
theorem ei_enum {elts : List Expr} {kk : Nat} {tpos : Pos} (hK : T.K = X.K) (hg : Gl X "enumerate") (hm : X.mg "enumerate" = none) (hn : nst a = true) (ha : PE X a (tEx T W fa)) : PI X (.Tuple elts kk tpos) (.Call (.Name "enumerate" p) [a] [] pos) (tIt T W fun ρ st => (fa ρ st).bind fun x st => R.of (srcE st x) st) := by
  refine ⟨fun pins s σ H Rq I h => (pi_enum hg hm (pa_cons ha pa_nil (star_cons hn)) (star_cons hn)).run pins s σ H Rq I ?_⟩
  obtain ⟨G, μ, ρ, st, hr, er, q⟩ := h
  refine tR.imp (tR.bind (Rel := RpD T) hr er q) fun x H1 ⟨G1, m1, s1, dx, e1, hr1, r1, p1⟩ => ?_
  obtain ⟨src, es, p2⟩ := p1.of
  have fixL : ∀ {a : Addr} {vs : List V} {ds : List D}, SqL T.K G1 a vs → RpL T G1 m1 vs ds → src = .st (enumL ds) → Rq (Ite X.K a) H1 := by
    intro a vs ds h1 h2 es
    subst es
    refine p2.here hr1 fun G2 m2 s2 H2 e2 hr2 i => ⟨fun hi => ?_, fun d hd => ?_⟩
    · have hi : ds.length ≤ i := by simpa [enumL] using hi
      exact ⟨vs, hK ▸ sql_mono (fun b o z => hr2.sub b o (e2.g b o z)) h1, by rw [h2.len]; exact hi⟩
    · have hd' : ∃ y, ds[i]? = some y ∧ d = .tup [.int (i : Nat), y] := by
        unfold enumL at hd
        rw [List.getElem?_map, List.getElem?_zipIdx] at hd
        cases q : ds[i]? with
        | none => rw [q] at hd; cases hd
        | some y =>
          rw [q] at hd
          refine ⟨y, rfl, ?_⟩
          have := (Option.some.inj hd).symm
          simpa using this
      obtain ⟨y, hy, rfl⟩ := hd'
      obtain ⟨v, hv, rv⟩ := h2.get hy
      have hs : SqL X.K H2 a vs := hK ▸ sql_mono (fun b o z => hr2.sub b o (e2.g b o z)) h1
      refine ⟨⟨vs, v, hs, hv⟩, fun x H3 ⟨q, z, y1, y2, y3, y4⟩ => ?_⟩
      have := y4 vs hs
      rw [hv] at this
      cases this
      subst y1 y3
      obtain ⟨k1, k2⟩ := hr2.known (o := .tup [.int (i : Nat), v]) y2
      exact ⟨_, k2, k1, .tup (.inl (.inl upd_same)) (.cons (.int _) (.cons ((rv.mono e2).mono k2.1) .nil)) (.inr ⟨_, _, rfl⟩)⟩
  cases r1 with
  | @lst a vs ds h1 h2 => cases es; exact ⟨a, vs, rfl, .inl (.inl (hr1.sub _ _ h1)), fixL (.inl (.inl h1)) h2 rfl⟩
  | @ro a vs ds h1 h2 => cases es; exact ⟨a, vs, rfl, hK ▸ sql_sub hr1 h1, fixL h1 h2 rfl⟩
  | @loc a i h =>
    obtain ⟨_, o, ho, hob⟩ := hr1.obj i a h
    simp only [srcE, ho] at es
    cases hob with
    | dct _ _ => cases es
    | @lst vs ds h1 h2 =>
      cases es
      refine ⟨a, vs, rfl, .inl (.inl h1), p2.here hr1 fun G2 m2 s2 H2 e2 hr2 j ys hys => ?_⟩
      obtain ⟨ws, h3, h4⟩ := hr2.at_ (e2.m _ _ h) hys
      have hs : SqL X.K H2 a ws := .inl (.inl h3)
      refine ⟨fun hi => ⟨ws, hs, by rw [h4.len]; exact hi⟩, fun d hd => ?_⟩
      obtain ⟨v, hv, rv⟩ := h4.get hd
      refine ⟨⟨ws, v, hs, hv⟩, fun x H3 ⟨q, z, y1, y2, y3, y4⟩ => ?_⟩
      have := y4 ws hs
      rw [hv] at this
      cases this
      subst y1 y3
      obtain ⟨k1, k2⟩ := hr2.known (o := .tup [.int (j : Nat), v]) y2
      exact ⟨_, k2, k1, .tup (.inl (.inl upd_same)) (.cons (.int _) (.cons (rv.mono k2.1) .nil)) (.inr ⟨_, _, rfl⟩)⟩
  | _ => cases es
end
end DI
set_option Elab.async false
set_option linter.all false
set_option maxRecDepth 100000
set_option maxHeartbeats 4000000
set_option autoImplicit false
namespace DI
open PySem PySem.Spec PyProof.Rows L2
/-! ### targets -/
def tTg (T : Tb) (t : Tg) : TG := fun v σ H Q => ∃ (G : Hp) (μ : List Addr) (ρ : Env) (d : D) (ρ' : Env), (∀ a o, G a = some o → H a = some o) ∧ Er T G μ ρ σ ∧ Rp T G μ v d ∧ setT t d ρ = some ρ' ∧ ∀ σ', Er T G μ ρ' σ' → (∀ own, Tg.inn own t = true → wipe σ' own = wipe σ own) → Q σ' H
def tTgs (T : Tb) (ts : List Tg) : TGs := fun vs σ H Q => ∃ (G : Hp) (μ : List Addr) (ρ : Env) (ds : List D) (ρ' : Env), (∀ a o, G a = some o → H a = some o) ∧ Er T G μ ρ σ ∧ RpL T G μ vs ds ∧ setTs ts ds ρ = some ρ' ∧ ∀ σ', Er T G μ ρ' σ' → (∀ own, Tg.innL own ts = true → wipe σ' own = wipe σ own) → Q σ' H
theorem pg_of {X : Cx} {e : Expr} {t t' : TG} (h : PG X e t) (k : ∀ v σ H Q, t' v σ H Q → t v σ H Q) : PG X e t' := ⟨fun pins s σ H v u Q I r q => h.run pins s σ H v u Q I r (k v σ H Q q)⟩
theorem pgs_of {X : Cx} {e : List Expr} {t t' : TGs} (h : PGs X e t) (k : ∀ v σ H Q, t' v σ H Q → t v σ H Q) : PGs X e t' := ⟨fun pins s σ H v u Q I r q => h.run pins s σ H v u Q I r (k v σ H Q q)⟩
section
variable {X : Cx} {T : Tb} {W : L2.St → XK} {a b c e : Expr} {es : List Expr} {fa fb fc : Env → Sto → R D} {fs : Env → Sto → R (List D)} {pos p : Pos}
theorem wipe_in {x : Option V} {i : Nat} : ∀ (own : List Nat) (σ : L2.St), (i ∈ own → wipe (σ.set i x) own = wipe σ own) ∧ (i ∉ own → wipe (σ.set i x) own = (wipe σ own).set i x)
  | [], σ => ⟨fun h => by simp at h, fun _ => rfl⟩
  | v :: vs, σ => by
    obtain ⟨h1, h2⟩ := wipe_in vs σ
    unfold wipe
    by_cases hi : i ∈ vs
    · rw [h1 hi]
      exact ⟨fun _ => rfl, fun h => absurd (List.mem_cons_of_mem _ hi) h⟩
    · rw [h2 hi]
      by_cases hv : v = i
      · subst hv
        rw [List.set_set]
        exact ⟨fun _ => rfl, fun h => absurd (List.mem_cons_self ..) h⟩
      · rw [List.set_comm _ _ (fun z => hv z.symm)]
        refine ⟨fun h => ?_, fun _ => rfl⟩
        rcases List.mem_cons.mp h with z | z
        · exact absurd z.symm hv
        · exact absurd z hi
theorem eg_name {i : Nat} {x : Str} (hN : X.N.Nodup) (hi : X.N[i]? = some x) (hx : Loc X.env.scope x) (hf : X.fn x = true ∨ X.env.scope.names.lookup x = some .local) : PG X (.Name x pos) (tTg T (.nm i)) := by
  refine pg_of (pg_name hN hi hx hf) fun v σ H Q ⟨G, μ, ρ, d, ρ', sub, er, r, es, q⟩ => ?_
  cases es
  exact q _ (er.set r i) fun own ho => (wipe_in own σ).1 (by simpa [Tg.inn] using ho)
theorem egs_nil : PGs X [] (tTgs T []) := by
  refine pgs_of pgs_nil fun vs σ H Q ⟨G, μ, ρ, ds, ρ', sub, er, r, es, q⟩ => ?_
  cases r with
  | nil => cases es; exact ⟨rfl, q _ er fun _ _ => rfl⟩
  | cons _ _ => cases es
def asg1 (e : Expr) : Bool := match e with
  | .Name _ _ => true
  | .Tuple _ _ _ => true
  | _ => false
theorem egs_cons {t : Tg} {ts : List Tg} (hc : asg1 e = true) (h1 : PG X e (tTg T t)) (h2 : PGs X es (tTgs T ts)) : PGs X (e :: es) (tTgs T (t :: ts)) := by
  have k : (assignEach (e :: es) X.env).map (·.2) = assign e X.env :: (assignEach es X.env).map (·.2) := by
    cases e <;> first | rfl | (cases hc; done)
  refine pgs_of (pgs_cons h1 h2 k) fun vs σ H Q ⟨G, μ, ρ, ds, ρ', sub, er, r, es, q⟩ => ?_
  cases r with
  | nil => cases es
  | cons r1 r2 =>
    simp only [setTs] at es
    cases h : setT t _ ρ with
    | none => rw [h] at es; cases es
    | some ρ1 =>
      rw [h] at es
      refine ⟨_, _, rfl, G, μ, ρ, _, ρ1, sub, er, r1, h, fun σ' er' hw => ⟨G, μ, ρ1, _, ρ', sub, er', r2, es, fun σ2 er2 hw2 => q σ2 er2 fun own ho => ?_⟩⟩
      have ho : Tg.inn own t = true ∧ Tg.innL own ts = true := by simpa [Tg.innL] using ho
      exact (hw2 own ho.2).trans (hw own ho.1)
theorem asg_len : ∀ es : List Expr, es.all asg1 = true → (assignEach es X.env).length = es.length ∧ (assignEach es X.env).findIdx? (·.1) = none
  | [], _ => ⟨rfl, rfl⟩
  | e :: es, h => by
    simp only [List.all_cons, Bool.and_eq_true] at h
    obtain ⟨h1, h2⟩ := asg_len es h.2
    have k : ∃ z, assignEach (e :: es) X.env = (false, z) :: assignEach es X.env := by
      cases e <;> first | exact ⟨_, rfl⟩ | (cases h.1; done)
    obtain ⟨z, k⟩ := k
    rw [k]
    refine ⟨by simp [h1], ?_⟩
    rw [List.findIdx?_cons]
    simp [h2]
theorem eg_tup {ts : List Tg} {k : Nat} (hK : T.K = X.K) (hc : X.calm = true) (ha : es.all asg1 = true) (hl : es.length = ts.length) (h : PGs X es (tTgs T ts)) : PG X (.Tuple es k pos) (tTg T (.tp ts)) := by
  obtain ⟨h1, h2⟩ := asg_len (X := X) es ha
  refine pg_of (pg_tup hc h (n := es.length) h1 h2) fun v σ H Q ⟨G, μ, ρ, d, ρ', sub, er, r, e2, q⟩ => ?_
  cases r with
  | tup q1 q2 =>
    simp only [setT] at e2
    have hlen : ∀ (ts : List Tg) (ds : List D) (ρ ρ' : Env), setTs ts ds ρ = some ρ' → ds.length = ts.length := by
      intro ts
      induction ts with
      | nil => intro ds ρ ρ' e; cases ds with
        | nil => rfl
        | cons _ _ => cases e
      | cons t ts ih =>
        intro ds ρ ρ' e
        cases ds with
        | nil => cases e
        | cons d ds =>
          simp only [setTs] at e
          cases hh : setT t d ρ with
          | none => rw [hh] at e; cases e
          | some ρ1 => rw [hh] at e; exact congrArg Nat.succ (ih ds ρ1 ρ' e)
    refine ⟨_, _, rfl, hK ▸ sqt_mono sub q1, by rw [q2.len, hlen ts _ ρ ρ' e2, hl], G, μ, ρ, _, ρ', sub, er, q2, e2, fun σ' er' hw => q σ' er' fun own ho => hw own (by simpa [Tg.inn] using ho)⟩
  | _ => cases e2
end
/-! ### statements -/
/-- what is wanted behind a statement's run -/
def Ps (T : Tb) (W : WX) (De : Ends) (G : Hp) (μ : List Addr) (H : Hp) : RS → Prop
  | .ok fl ρ' st' => ∀ (G' : Hp) (μ' : List Addr) (H' : Hp) (σ' : L2.St), Gx G μ H G' μ' H' → Hr T G' μ' st' H' → Er T G' μ' ρ' σ' → (match fl with
    | .nx => De.nx σ' H'
    | .bk => De.bk σ' H'
    | .ct => De.ct σ' H'
    | .rt d => ∀ v, Rp T G' μ' v d → De.rt v H')
  | .err c fs ρ' st' => ∀ (G' : Hp) (μ' : List Addr) (H' : Hp) (σ' : L2.St) (d : Addr) (fv : List (Str × V)), Gx G μ H G' μ' H' → Hr T G' μ' st' H' → Er T G' μ' ρ' σ' → G' d = some (.xd fv) → RpF T G' μ' fv fs → W (.ref (T.cl c)) (some d) σ' H'
  | .bad => False
def tSt (T : Tb) (W : WX) (f : Env → Sto → RS) : TS := fun De σ H => ∃ (G : Hp) (μ : List Addr) (ρ : Env) (st : Sto), Hr T G μ st H ∧ Er T G μ ρ σ ∧ Ps T W De G μ H (f ρ st)
abbrev WE' (W : WX) : L2.St → XK := fun σ cls d H => W cls d σ H
section
variable {X : Cx} {T : Tb} {W : WX} {a b c e : Expr} {es : List Expr} {fa fb fc : Env → Sto → R D} {fs : Env → Sto → R (List D)} {pos p : Pos} {st : Stmt} {rest : List Stmt} {f g : Env → Sto → RS}
theorem Ps.mono {De : Ends} {G G' H H' : Hp} {μ μ' : List Addr} {r : RS} (e : Gx G μ H G' μ' H') (h : Ps T W De G μ H r) : Ps T W De G' μ' H' r := by
  cases r with
  | ok fl ρ' st' => exact fun G2 m2 H2 s2 e2 hr er => h G2 m2 H2 s2 (e.trans e2) hr er
  | err c fs ρ' st' => exact fun G2 m2 H2 s2 d fv e2 hr er hd rf => h G2 m2 H2 s2 d fv (e.trans e2) hr er hd rf
  | bad => exact h
/-- from an expression's run to what is behind it -/
theorem Ps.of {α β : Type} {Rel : Hp → List Addr → β → α → Prop} {De : Ends} {G H : Hp} {μ : List Addr} {r : R α} {ρ : Env} {σ : L2.St} {k : α → Sto → RS} (er : Er T G μ ρ σ) (h : Ps T W De G μ H (RS.of r ρ k)) :
    Pr T Rel (WE' W σ) G μ H (fun v H' => ∃ G' μ' st' a, Gx G μ H G' μ' H' ∧ Hr T G' μ' st' H' ∧ Rel G' μ' v a ∧ Ps T W De G' μ' H' (k a st')) r := by
  cases r with
  | ok a st' => exact fun G2 m2 H2 v e2 hr rv => ⟨G2, m2, st', a, e2, hr, rv, Ps.mono e2 h⟩
  | err c fs st' => exact fun G2 m2 H2 d fv e2 hr hd rf => h G2 m2 H2 σ d fv e2 hr (er.mono e2.1) hd rf
  | bad => exact h
theorem tR.toS {α β : Type} {Rel : Hp → List Addr → β → α → Prop} {De : Ends} {G : Hp} {μ : List Addr} {ρ : Env} {st : Sto} {σ : L2.St} {H : Hp} {r : Env → Sto → R α} {k : α → Sto → RS} (hr : Hr T G μ st H) (er : Er T G μ ρ σ) (h : Ps T W De G μ H (RS.of (r ρ st) ρ k)) :
    tR T Rel (WE' W) r σ H fun v H' => ∃ G' μ' st' a, Gx G μ H G' μ' H' ∧ Hr T G' μ' st' H' ∧ Rel G' μ' v a ∧ Ps T W De G' μ' H' (k a st') := ⟨G, μ, ρ, st, hr, er, Ps.of er h⟩
theorem Ps.nx {De : Ends} {G : Hp} {μ : List Addr} {ρ : Env} {st : Sto} {H : Hp} {σ : L2.St} (h : Ps T W De G μ H (.ok .nx ρ st)) (hr : Hr T G μ st H) (er : Er T G μ ρ σ) : De.nx σ H := h G μ H σ .refl hr er
theorem Ps.rt {De : Ends} {G : Hp} {μ : List Addr} {ρ : Env} {st : Sto} {H : Hp} {σ : L2.St} {d : D} {v : V} (h : Ps T W De G μ H (.ok (.rt d) ρ st)) (hr : Hr T G μ st H) (er : Er T G μ ρ σ) (r : Rp T G μ v d) : De.rt v H := h G μ H σ .refl hr er v r
theorem Ps.seq {De : Ends} {G H : Hp} {μ : List Addr} {r : RS} {k : Env → Sto → RS} (h : Ps T W De G μ H (r.seq k)) : Ps T W { De with nx := fun σ' H' => ∃ G' μ' ρ' st', Gx G μ H G' μ' H' ∧ Hr T G' μ' st' H' ∧ Er T G' μ' ρ' σ' ∧ Ps T W De G' μ' H' (k ρ' st') } G μ H r := by
  cases r with
  | ok fl ρ' st' =>
    cases fl with
    | nx => exact fun G2 m2 H2 s2 e2 hr er => ⟨G2, m2, ρ', st', e2, hr, er, Ps.mono e2 h⟩
    | _ => exact h
  | err c fs ρ' st' => exact h
  | bad => exact h
theorem es_nil : PSs X [] (tSt T W fun ρ st => .ok .nx ρ st) := pss_of pss_nil fun De σ H ⟨G, μ, ρ, st, hr, er, p⟩ => p.nx hr er
theorem es_cons (h1 : PS X st (tSt T W f)) (h2 : PSs X rest (tSt T W g)) : PSs X (st :: rest) (tSt T W fun ρ st => (f ρ st).seq g) := by
  refine pss_of (pss_cons h1 h2) fun De σ H ⟨G, μ, ρ, s0, hr, er, p⟩ => ?_
  refine ⟨G, μ, ρ, s0, hr, er, ?_⟩
  have q := p.seq
  revert q
  generalize f ρ s0 = r
  intro q
  cases r with
  | ok fl ρ' st' =>
    cases fl with
    | nx =>
      intro G2 m2 H2 s2 e2 hr2 er2
      obtain ⟨G3, m3, r3, t3, e3, hr3, er3, p3⟩ := q G2 m2 H2 s2 e2 hr2 er2
      exact ⟨G3, m3, r3, t3, hr3, er3, p3⟩
    | _ => exact q
  | err c fs ρ' st' => exact q
  | bad => exact q
theorem es_pass : PS X (.Pass pos) (tSt T W fun ρ st => .ok .nx ρ st) := ps_of ps_pass fun De σ H ⟨G, μ, ρ, st, hr, er, p⟩ => p.nx hr er
theorem es_brk : PS X (.Break pos) (tSt T W fun ρ st => .ok .bk ρ st) := ps_of ps_break fun De σ H ⟨G, μ, ρ, st, hr, er, p⟩ => p G μ H σ .refl hr er
theorem es_cont : PS X (.Continue pos) (tSt T W fun ρ st => .ok .ct ρ st) := ps_of ps_continue fun De σ H ⟨G, μ, ρ, st, hr, er, p⟩ => p G μ H σ .refl hr er
theorem es_retN : PS X (.Return none pos) (tSt T W fun ρ st => .ok (.rt .non) ρ st) := ps_of ps_retN fun De σ H ⟨G, μ, ρ, st, hr, er, p⟩ => p.rt hr er .non
theorem es_ret (ha : PE X a (tEx T (WE' W) fa)) : PS X (.Return (some a) pos) (tSt T W fun ρ st => RS.of (fa ρ st) ρ fun d st => .ok (.rt d) ρ st) := by
  refine ps_of (ps_ret ha) fun De σ H ⟨G, μ, ρ, st, hr, er, p⟩ => ?_
  exact tR.imp (tR.toS (Rel := RpD T) hr er p) fun x H1 ⟨G1, m1, s1, dx, e1, hr1, r1, p1⟩ => p1.rt hr1 (er.mono e1.1) r1
/-- a value that is no comprehension: its store is the ordinary one -/
def noSw : Expr → Bool
  | .ListComp _ _ _ _ => false
  | .SetComp _ _ _ _ => false
  | .DictComp _ _ _ _ _ => false
  | _ => true
theorem no_sw {t : Option Expr} {l : Nat} {env : PySem.Env} (h : noSw e = true) : swapsWith e t l env = pure false := by
  cases e <;> first | rfl | (cases h; done)
theorem es_expr (hn : noSw a = true) (ha : PE X a (tEx T (WE' W) fa)) : PS X (.Expr a pos) (tSt T W fun ρ st => RS.of (fa ρ st) ρ fun _ st => .ok .nx ρ st) := by
  refine ps_of (ps_expr ha (no_sw hn)) fun De σ H ⟨G, μ, ρ, st, hr, er, p⟩ => ?_
  exact tR.imp (tR.toS (Rel := RpD T) hr er p) fun x H1 ⟨G1, m1, s1, dx, e1, hr1, r1, p1⟩ => p1.nx hr1 (er.mono e1.1)
theorem es_if {q r : List Stmt} (hc : PT X c (tBo T (WE' W) (teT fc))) (ha : PSs X q (tSt T W f)) (hb : PSs X r (tSt T W g)) : PS X (.If c q r pos) (tSt T W fun ρ st => RS.of (teT fc ρ st) ρ fun k st => if k then f ρ st else g ρ st) := by
  refine ps_of (ps_if hc ha hb) fun De σ H ⟨G, μ, ρ, st, hr, er, p⟩ => ?_
  refine tR.imp (tR.toS (Rel := fun _ _ (v : Bool) (b : Bool) => v = b) hr er p) fun x H1 ⟨G1, m1, s1, dx, e1, hr1, r1, p1⟩ => ?_
  subst r1
  cases x with
  | true => exact ⟨G1, m1, ρ, s1, hr1, er.mono e1.1, p1⟩
  | false => exact ⟨G1, m1, ρ, s1, hr1, er.mono e1.1, p1⟩
/-- target = value -/
theorem es_asg {tg : Expr} {t : Tg} (hn : noSw a = true) (h1 : asg1 tg = true) (hw : swappedStores [tg] a X.env = pure none) (ha : PE X a (tEx T (WE' W) fa)) (hg : PG X tg (tTg T t)) :
    PS X (.Assign [tg] a pos) (tSt T W fun ρ st => RS.of (fa ρ st) ρ fun d st => match setT t d ρ with
      | some ρ' => .ok .nx ρ' st
      | none => .bad) := by
  have k : (assignEach [tg] X.env).map (·.2) = [assign tg X.env] := by
    cases tg <;> first | rfl | (cases h1; done)
  refine ps_of (ps_asg ha hg (no_sw hn) hw k) fun De σ H ⟨G, μ, ρ, st, hr, er, p⟩ => ?_
  refine tR.imp (tR.toS (Rel := RpD T) hr er p) fun x H1 ⟨G1, m1, s1, dx, e1, hr1, r1, p1⟩ => ?_
  cases hs : setT t dx ρ with
  | none => rw [hs] at p1; exact p1.elim
  | some ρ' =>
    rw [hs] at p1
    exact ⟨G1, m1, ρ, dx, ρ', hr1.sub, er.mono e1.1, r1, hs, fun σ' er' _ => p1.nx hr1 er'⟩
theorem es_par {i j : Nat} {x y : Str} {px py pt : Pos} {kt k2 : Nat} {pt2 : Pos} (hc : X.calm = true) (hN : X.N.Nodup) (hi : X.N[i]? = some x) (hj : X.N[j]? = some y) (hij : i ≠ j)
    (hx : X.env.scope.names.lookup x = some .local) (hy : X.env.scope.names.lookup y = some .local) (hn : nst a = true) (hn2 : nst b = true)
    (hw : swappedStores [.Tuple [.Name x px, .Name y py] kt pt] (.Tuple [a, b] k2 pt2) X.env = pure (some [x, y])) (ha : PE X a (tEx T (WE' W) fa)) (hb : PE X b (tEx T (WE' W) fb)) :
    PS X (.Assign [.Tuple [.Name x px, .Name y py] kt pt] (.Tuple [a, b] k2 pt2) pos) (tSt T W fun ρ st => RS.of (fa ρ st) ρ fun u st => RS.of (fb ρ st) ρ fun v st => .ok .nx ((ρ.set i (some u)).set j (some v)) st) := by
  refine ps_of (ps_par hc hN hi hj hij hx hy (pa_cons ha (pa_cons hb pa_nil (star_cons hn2)) (star_cons hn)) hw) fun De σ H ⟨G, μ, ρ, st, hr, er, p⟩ => ?_
  refine tR.imp (tR.toS (Rel := RpD T) hr er p) fun x H1 ⟨G1, m1, s1, dx, e1, hr1, r1, p1⟩ => ?_
  refine tR.imp (tR.toS (Rel := RpD T) hr1 (er.mono e1.1) p1) fun y H2 ⟨G2, m2, s2, dy, e2, hr2, r2, p2⟩ => ?_
  exact ⟨x, y, rfl, p2.nx hr2 ((((er.mono e1.1).mono e2.1).set (r1.mono e2.1) i).set r2 j)⟩
theorem op_A {op : BO} {u v z : D} (he : opA op u v = some z) : ∃ r : R2, OpR X (inplaceOp op.op) r ∧ ∀ (G : Hp) (μ : List Addr) (x y : V) (H : Hp) (Q : VK), Rp T G μ x u → Rp T G μ y v → (∀ w, Rp T G μ w z → Q w H) → r x y H Q := by
  unfold opA at he
  split at he
  · cases he
    refine ⟨_, iop_add, fun G μ x y H Q r1 r2 q => ?_⟩
    cases r1; cases r2
    exact ⟨_, _, rfl, rfl, q _ (.int _)⟩
  · cases he
    refine ⟨_, iop_sub, fun G μ x y H Q r1 r2 q => ?_⟩
    cases r1; cases r2
    exact ⟨_, _, rfl, rfl, q _ (.int _)⟩
  · split at he
    · rename_i hz
      cases he
      refine ⟨_, iop_add_str, fun G μ x y H Q r1 r2 q => ?_⟩
      cases r1 with
      | str _ h1 =>
        cases r2 with
        | str _ h2 =>
          refine ⟨_, _, rfl, rfl, sz_le (by rw [txS_len, txS_len]; exact hz), ?_⟩
          rw [← txS_app]
          exact q _ (.str _ ⟨strOk_app h1.1 h2.1, sz_le (by rw [List.length_append]; exact hz)⟩)
    · cases he
  · cases he
theorem es_aug {i : Nat} {x : Str} {p2 : Pos} (op : BO) (hN : X.N.Nodup) (hi : X.N[i]? = some x) (hx : Loc X.env.scope x) (hf : X.fn x = true ∨ X.env.scope.names.lookup x = some .local) (ha : PE X a (tEx T (WE' W) fa)) :
    PS X (.AugAssign (.Name x p2) op.op a pos) (tSt T W fun ρ st => match ρ[i]? with
    | some (some x) => RS.of (fa ρ st) ρ fun y st => match opA op x y with
      | some z => .ok .nx (ρ.set i (some z)) st
      | none => .bad
    | _ => .bad) := by
  refine ps_of (ps_aug hN hi hx ha (ti := fun x y H Q => ∃ (u v z : D) (G : Hp) (μ : List Addr), opA op u v = some z ∧ Rp T G μ x u ∧ Rp T G μ y v ∧ ∀ w, Rp T G μ w z → Q w H) ?_ hf) fun De σ H ⟨G, μ, ρ, st, hr, er, p⟩ => ?_
  · intro pins s σ H x y v u Q I rx ry ⟨du, dv, dz, G, μ, he, r1, r2, q⟩
    obtain ⟨r, ho, k⟩ := op_A (X := X) (T := T) he
    exact ho pins s σ H x y v u Q I rx ry (k G μ x y H Q r1 r2 q)
  · dsimp only at p
    split at p
    · rename_i d hd
      obtain ⟨v, hv, rv⟩ := er.at_ i d hd
      refine ⟨v, hv, tR.imp (tR.toS (Rel := RpD T) hr er p) fun x H1 ⟨G1, m1, s1, dx, e1, hr1, r1, p1⟩ => ?_⟩
      split at p1
      · rename_i z hz
        exact ⟨d, dx, z, G1, m1, hz, rv.mono e1.1, r1, fun w rw' => p1.nx hr1 ((er.mono e1.1).set rw' i)⟩
      · exact p1.elim
    · exact p.elim
def rSetG : V → V → V → Hp → (Hp → Prop) → Prop := fun o i v H Q => rSetL o i v H Q ∨ ∃ a H', o = .ref a ∧ DPut H a i v H' ∧ Q H'
theorem set_any (hu : X.A.units + 1 < cLine) : PSet X rSetG := by
  intro pins s σ H o i v ov iv u Q I ro ri rv h
  rcases h with h | ⟨a, H', eo, g, q⟩
  · exact set_list pins s σ H o i v ov iv u Q I ro ri rv h
  · subst eo
    cases (show ov = Value.ref a from ro)
    exact d_setItem hu I g ri rv fun s' I' => ⟨H', I', q⟩
theorem set_go {G : Hp} {μ : List Addr} {st st' : Sto} {H : Hp} {x y z : V} {dx dy dz : D} (hr : Hr T G μ st H) (r2 : Rp T G μ y dy) (r3 : Rp T G μ z dz) (r1 : Rp T G μ x dx) (hs : setD dy dz dx st = some st') {Q : Hp → Prop} (q : ∀ H', Gx G μ H G μ H' → Hr T G μ st' H' → Q H') : rSetG y z x H Q := by
  unfold setD at hs
  split at hs
  · rename_i l
    cases r2 with
    | @loc ad _ hm =>
      split at hs
      · rename_i xs hx
        split at hs
        · rename_i k
          simp only [Option.map_eq_some_iff] at hs
          obtain ⟨j, hj, rfl⟩ := hs
          obtain ⟨vs, hv, rv⟩ := hr.at_ hm hx
          cases r3
          exact .inl ⟨ad, vs, k, j, rfl, rfl, hv, by rw [rv.len]; exact hj, q _ (Gx.put hm) (hr.put hm (rv.set r1 j))⟩
        · cases hs
      · rename_i kvs hx
        split at hs
        · rename_i hk
          cases hs
          obtain ⟨kv, hv, rv⟩ := hr.atD hm hx
          obtain ⟨k, rfl⟩ := key_rp hk.1 r3
          refine .inr ⟨ad, _, rfl, .k hv (by rw [rpk_len rv]; exact sz_lt hk.2), q _ (Gx.put hm) (hr.putO hm (.dct upd_same (rpk_put r3 r1 rv)))⟩
        · cases hs
      · cases hs
  · cases hs
theorem es_setIx (hu : X.A.units + 100 < cLine) {o i : Expr} {fo fi : Env → Sto → R D} {p2 : Pos} (hn : noSw a = true) (hnl : nsl i = true) (ha : PE X a (tEx T (WE' W) fa)) (ho : PE X o (tEx T (WE' W) fo)) (hi : PE X i (tEx T (WE' W) fi)) :
    PS X (.Assign [.Subscript o i p2] a pos) (tSt T W fun ρ st => RS.of (fa ρ st) ρ fun v st => RS.of (fo ρ st) ρ fun x st => RS.of (fi ρ st) ρ fun k st => match setD x k v st with
    | some st' => .ok .nx ρ st'
    | none => .bad) := by
  have k1 : ∀ v, assign (.Subscript o i p2) X.env v = (do
      let ov ← holding [v] (eval o X.env)
      let iv ← holding [v, ov] (eval i X.env)
      standAt p2
      holding [v, ov, iv] (setItem ov iv v)
      release [v, ov, iv] []) := by
    intro v
    cases i <;> first | rfl | (cases hnl; done)
  refine ps_of (ps_asg ha (pg_sub ho hi (set_any (by omega)) k1) (no_sw (t := some (.Subscript o i p2)) (l := pos.line) (env := X.env) hn)) fun De σ H ⟨G, μ, ρ, st, hr, er, p⟩ => ?_
  refine tR.imp (tR.toS (Rel := RpD T) hr er p) fun x H1 ⟨G1, m1, s1, dx, e1, hr1, r1, p1⟩ => ?_
  refine tR.imp (tR.toS (Rel := RpD T) hr1 (er.mono e1.1) p1) fun y H2 ⟨G2, m2, s2, dy, e2, hr2, r2, p2⟩ => ?_
  refine tR.imp (tR.toS (Rel := RpD T) hr2 ((er.mono e1.1).mono e2.1) p2) fun z H3 ⟨G3, m3, s3, dz, e3, hr3, r3, p3⟩ => ?_
  have r2 := r2.mono e3.1
  have r1 := (r1.mono e2.1).mono e3.1
  cases hs : setD dy dz dx s3 with
  | none => rw [hs] at p3; exact p3.elim
  | some st' =>
    rw [hs] at p3
    exact set_go hr3 r2 r3 r1 hs fun H' e hr' => p3 _ _ _ _ e hr' (((er.mono e1.1).mono e2.1).mono e3.1)
end
end DI
set_option Elab.async false
set_option linter.all false
set_option maxRecDepth 100000
set_option maxHeartbeats 4000000
set_option autoImplicit false
namespace DI
open PySem PySem.Spec PyProof.Rows L2
section
variable {X : Cx} {T : Tb} {W : WX} {a b c e tg iter : Expr} {es : List Expr} {fa fb fc : Env → Sto → R D} {fs : Env → Sto → R (List D)} {pos p : Pos} {st : Stmt} {body : List Stmt} {f g : Env → Sto → RS}
theorem es_while (hp : PassesOwn (model X.prog X.w) X.A X.env X.xe) (hc : PT X c (tBo T (WE' W) (teT fc))) (hb : PSs X body (tSt T W f)) : PS X (.While c body [] pos) (tSt T W fun ρ st => whileF (teT fc) f FUEL ρ st) := by
  refine ps_of (ps_while hp hc hb) fun De σ H ⟨G, μ, ρ, st, hr, er, p⟩ => ?_
  refine ⟨fun n σ' H' => ∃ (G' : Hp) (μ' : List Addr) (ρ' : Env) (st' : Sto), Gx G μ H G' μ' H' ∧ Hr T G' μ' st' H' ∧ Er T G' μ' ρ' σ' ∧ Ps T W De G' μ' H' (whileF (teT fc) f n ρ' st'), ⟨FUEL, G, μ, ρ, st, .refl, hr, er, p⟩, ?_⟩
  rintro n σ1 H1 ⟨G1, m1, r1, s1, e1, hr1, er1, p1⟩
  cases n with
  | zero => exact p1.elim
  | succ n =>
    rw [whileF] at p1
    refine ⟨G1, m1, r1, s1, hr1, er1, ?_⟩
    revert p1
    generalize teT fc r1 s1 = rt
    intro p1
    cases rt with
    | bad => exact p1.elim
    | err c fs s2 => exact fun G2 m2 H2 d fv e2 hr2 hd rf => p1 G2 m2 H2 σ1 d fv e2 hr2 (er1.mono e2.1) hd rf
    | ok k s2 =>
      intro G2 m2 H2 v e2 hr2 rv
      subst rv
      cases v with
      | false => exact (Ps.mono e2 p1).nx hr2 (er1.mono e2.1)
      | true =>
        refine ⟨_, fun σ' H' h => ⟨n, Nat.lt_succ_self n, h⟩, G2, m2, r1, s2, hr2, er1.mono e2.1, ?_⟩
        replace p1 := Ps.mono e2 p1
        revert p1
        show Ps T W De G2 m2 H2 (match f r1 s2 with
          | .ok .nx ρ st => whileF (teT fc) f n ρ st
          | .ok .ct ρ st => whileF (teT fc) f n ρ st
          | .ok .bk ρ st => .ok .nx ρ st
          | r => r) → _
        generalize f r1 s2 = rb
        intro p1
        cases rb with
        | bad => exact p1.elim
        | err c fs r3 s3 => exact p1
        | ok fl r3 s3 =>
          cases fl with
          | nx => exact fun G3 m3 H3 σ3 e3 hr3 er3 => ⟨G3, m3, r3, s3, (e1.trans e2).trans e3, hr3, er3, Ps.mono e3 p1⟩
          | ct => exact fun G3 m3 H3 σ3 e3 hr3 er3 => ⟨G3, m3, r3, s3, (e1.trans e2).trans e3, hr3, er3, Ps.mono e3 p1⟩
          | bk => exact p1
          | rt d => exact p1
/-- one turn of a for: the target, then the body -/
def fTurn (t : Tg) (f : Env → Sto → RS) : D → Env → Sto → RS := fun x ρ st => match setT t x ρ with
    | some ρ' => f ρ' st
    | none => .bad
theorem turn_ok {t : Tg} {De : Ends} {G : Hp} {μ : List Addr} {ρ : Env} {s : Sto} {H : Hp} {σ : L2.St} {x : V} {d : D} {k : Env → Sto → RS} {N : L2.St → Hp → Prop} (hr : Hr T G μ s H) (er : Er T G μ ρ σ) (rx : Rp T G μ x d)
    (p : Ps T W De G μ H (match fTurn t f d ρ s with
      | .ok .nx ρ st => k ρ st
      | .ok .ct ρ st => k ρ st
      | .ok .bk ρ st => .ok .nx ρ st
      | r => r)) (hN : ∀ (G3 : Hp) (m3 : List Addr) (r3 : Env) (s3 : Sto) (H3 : Hp) (σ3 : L2.St), Gx G μ H G3 m3 H3 → Hr T G3 m3 s3 H3 → Er T G3 m3 r3 σ3 → Ps T W De G3 m3 H3 (k r3 s3) → N σ3 H3) :
    tTg T t x σ H fun σ2 H2 => tSt T W f { De with nx := N, ct := N, bk := De.nx } σ2 H2 := by
  unfold fTurn at p
  cases hs : setT t d ρ with
  | none => rw [hs] at p; exact p.elim
  | some ρ' =>
    rw [hs] at p
    refine ⟨G, μ, ρ, d, ρ', hr.sub, er, rx, hs, fun σ' er' _ => ⟨G, μ, ρ', s, hr, er', ?_⟩⟩
    revert p
    simp only
    generalize f ρ' s = rb
    intro p
    cases rb with
    | bad => exact p.elim
    | err c fs r3 s3 => exact p
    | ok fl r3 s3 =>
      cases fl with
      | nx => exact fun G3 m3 H3 σ3 e3 hr3 er3 => hN G3 m3 r3 s3 H3 σ3 e3 hr3 er3 (Ps.mono e3 p)
      | ct => exact fun G3 m3 H3 σ3 e3 hr3 er3 => hN G3 m3 r3 s3 H3 σ3 e3 hr3 er3 (Ps.mono e3 p)
      | bk => exact p
      | rt d => exact p
def noSet : Expr → Bool
  | .Set _ _ _ => false
  | _ => true
theorem no_fold {env : PySem.Env} (h : noSet iter = true) : ∀ x, foldedSetIterable iter env x = pure x := fun x => by
  cases iter <;> first | rfl | (cases h; done)
theorem es_for {t : Tg} {fi : Env → Sto → R Src} (hp : PassesOwn (model X.prog X.w) X.A X.env X.xe) (hc : X.calm = true) (hn : noSet iter = true) (hi : PI X tg iter (tIt T (WE' W) fi)) (hg : PG X tg (tTg T t)) (hb : PSs X body (tSt T W f)) :
    PS X (.For tg iter body [] pos) (tSt T W fun ρ st => RS.of (fi ρ st) ρ fun s st => forD (fTurn t f) s ρ st) := by
  refine ps_of (ps_for hp hc hi hg hb (no_fold hn)) fun De σ H ⟨G, μ, ρ, st, hr, er, p⟩ => ?_
  refine tR.imp (tR.toS (Rel := SrcR T) hr er p) fun J H1 ⟨G1, m1, s1, src, e1, hr1, r1, p1⟩ => ?_
  have er1 := er.mono e1.1
  cases src with
  | st xs =>
    refine ⟨fun i m σ' H' => ∃ (G' : Hp) (μ' : List Addr) (ρ' : Env) (st' : Sto), Gx G1 m1 H1 G' μ' H' ∧ Hr T G' μ' st' H' ∧ Er T G' μ' ρ' σ' ∧ m = xs.length - i ∧ Ps T W De G' μ' H' (forS (fTurn t f) (xs.drop i) ρ' st'), ⟨_, G1, m1, ρ, s1, .refl, hr1, er1, rfl, p1⟩, ?_⟩
    rintro i m σ2 H2 ⟨G2, m2, r2, s2, e2, hr2, er2, rfl, p2⟩
    obtain ⟨k1, k2⟩ := r1 G2 m2 s2 H2 e2.1 hr2 i
    cases hx : xs[i]? with
    | none =>
      have hl : xs.length ≤ i := List.getElem?_eq_none_iff.mp hx
      rw [List.drop_eq_nil_of_le hl] at p2
      exact .inl ⟨k1 hl, p2.nx hr2 er2⟩
    | some d =>
      obtain ⟨h1, hd⟩ := List.getElem?_eq_some_iff.mp hx
      obtain ⟨q1, q2⟩ := k2 d hx
      refine .inr ⟨q1, fun σ' H' => ∃ (G' : Hp) (μ' : List Addr) (ρ' : Env) (st' : Sto), Gx G1 m1 H1 G' μ' H' ∧ Hr T G' μ' st' H' ∧ Er T G' μ' ρ' σ' ∧ Ps T W De G' μ' H' (forS (fTurn t f) (xs.drop (i + 1)) ρ' st'), fun σ' H' ⟨G', μ', ρ', st', z1, z2, z3, z4⟩ => ⟨xs.length - (i + 1), by omega, G', μ', ρ', st', z1, z2, z3, rfl, z4⟩, fun x H3 y => ?_⟩
      obtain ⟨G3, e3, hr3, rx⟩ := q2 x H3 y
      rw [List.drop_eq_getElem_cons h1, hd] at p2
      replace p2 := Ps.mono e3 p2
      rw [forS] at p2
      exact turn_ok (k := forS (fTurn t f) (xs.drop (i + 1))) hr3 (er2.mono e3.1) rx p2 fun G4 m4 r4 s4 H4 σ4 e4 hr4 er4 p4 => ⟨G4, m4, r4, s4, (e2.trans e3).trans e4, hr4, er4, p4⟩
  | lv l =>
    refine ⟨fun i m σ' H' => ∃ (G' : Hp) (μ' : List Addr) (ρ' : Env) (st' : Sto), Gx G1 m1 H1 G' μ' H' ∧ Hr T G' μ' st' H' ∧ Er T G' μ' ρ' σ' ∧ Ps T W De G' μ' H' (forV (fTurn t f) false l m i ρ' st'), ⟨_, G1, m1, ρ, s1, .refl, hr1, er1, p1⟩, ?_⟩
    rintro i m σ2 H2 ⟨G2, m2, r2, s2, e2, hr2, er2, p2⟩
    cases m with
    | zero => exact p2.elim
    | succ m =>
      rw [forV] at p2
      cases hl : s2[l]? with
      | none => rw [hl] at p2; exact p2.elim
      | some o =>
        rw [hl] at p2
        cases o with
        | dct _ => exact p2.elim
        | lst xs =>
          obtain ⟨k1, k2⟩ := r1 G2 m2 s2 H2 e2.1 hr2 i xs hl
          simp only at p2
          cases hx : xs[i]? with
          | none =>
            rw [hx] at p2
            exact .inl ⟨k1 (List.getElem?_eq_none_iff.mp hx), p2.nx hr2 er2⟩
          | some d =>
            rw [hx] at p2
            obtain ⟨q1, q2⟩ := k2 d hx
            refine .inr ⟨q1, fun σ' H' => ∃ (G' : Hp) (μ' : List Addr) (ρ' : Env) (st' : Sto), Gx G1 m1 H1 G' μ' H' ∧ Hr T G' μ' st' H' ∧ Er T G' μ' ρ' σ' ∧ Ps T W De G' μ' H' (forV (fTurn t f) false l m (i + 1) ρ' st'), fun σ' H' h => ⟨m, Nat.lt_succ_self m, h⟩, fun x H3 y => ?_⟩
            obtain ⟨G3, e3, hr3, rx⟩ := q2 x H3 y
            replace p2 := Ps.mono e3 p2
            exact turn_ok (k := forV (fTurn t f) false l m (i + 1)) hr3 (er2.mono e3.1) rx p2 fun G4 m4 r4 s4 H4 σ4 e4 hr4 er4 p4 => ⟨G4, m4, r4, s4, (e2.trans e3).trans e4, hr4, er4, p4⟩
  | lvE l =>
    refine ⟨fun i m σ' H' => ∃ (G' : Hp) (μ' : List Addr) (ρ' : Env) (st' : Sto), Gx G1 m1 H1 G' μ' H' ∧ Hr T G' μ' st' H' ∧ Er T G' μ' ρ' σ' ∧ Ps T W De G' μ' H' (forV (fTurn t f) true l m i ρ' st'), ⟨_, G1, m1, ρ, s1, .refl, hr1, er1, p1⟩, ?_⟩
    rintro i m σ2 H2 ⟨G2, m2, r2, s2, e2, hr2, er2, p2⟩
    cases m with
    | zero => exact p2.elim
    | succ m =>
      rw [forV] at p2
      cases hl : s2[l]? with
      | none => rw [hl] at p2; exact p2.elim
      | some o =>
        rw [hl] at p2
        cases o with
        | dct _ => exact p2.elim
        | lst xs =>
          obtain ⟨k1, k2⟩ := r1 G2 m2 s2 H2 e2.1 hr2 i xs hl
          simp only at p2
          cases hx : xs[i]? with
          | none =>
            rw [hx] at p2
            exact .inl ⟨k1 (List.getElem?_eq_none_iff.mp hx), p2.nx hr2 er2⟩
          | some d =>
            rw [hx] at p2
            obtain ⟨q1, q2⟩ := k2 d hx
            refine .inr ⟨q1, fun σ' H' => ∃ (G' : Hp) (μ' : List Addr) (ρ' : Env) (st' : Sto), Gx G1 m1 H1 G' μ' H' ∧ Hr T G' μ' st' H' ∧ Er T G' μ' ρ' σ' ∧ Ps T W De G' μ' H' (forV (fTurn t f) true l m (i + 1) ρ' st'), fun σ' H' h => ⟨m, Nat.lt_succ_self m, h⟩, fun x H3 y => ?_⟩
            obtain ⟨G3, e3, hr3, rx⟩ := q2 x H3 y
            replace p2 := Ps.mono e3 p2
            exact turn_ok (k := forV (fTurn t f) true l m (i + 1)) hr3 (er2.mono e3.1) rx p2 fun G4 m4 r4 s4 H4 σ4 e4 hr4 er4 p4 => ⟨G4, m4, r4, s4, (e2.trans e3).trans e4, hr4, er4, p4⟩
end
/-! ### comprehensions -/
abbrev WN : L2.St → XK := fun _ _ _ _ => False
section
variable {X : Cx} {T : Tb} {W : L2.St → XK} {e tg iter : Expr} {ifs : List Expr} {fe : Env → Sto → R D} {fcs : Env → Sto → R Bool} {pos : Pos}
theorem wipe_set {ρ : Env} {own : List Nat} : ∀ {t : Tg} {d : D} {ρ' : Env}, True := trivial
theorem ets_nil : PTs X [] (tBo T WN fun _ st => .ok true st) := ⟨fun pins s σ H Q I h => pts_nil.run pins s σ H Q I (by
  obtain ⟨G, μ, ρ, st, hr, er, p⟩ := h
  exact p.here hr rfl)⟩
theorem ets_one {c : Expr} {fc : Env → Sto → R D} (h : PT X c (tBo T WN (teT fc))) : PTs X [c] (tBo T WN fun ρ st => (fc ρ st).bind fun x st => match truD st x with
    | some true => .ok true st
    | some false => .ok false st
    | none => .bad) := ⟨fun pins s σ H Q I q => (pts_one h).run pins s σ H Q I (by
  obtain ⟨G, μ, ρ, st, hr, er, p⟩ := q
  refine ⟨G, μ, ρ, st, hr, er, ?_⟩
  have e : teT fc ρ st = (fc ρ st).bind fun x st => match truD st x with
    | some true => .ok true st
    | some false => .ok false st
    | none => .bad := by
    simp only [teT]
    cases fc ρ st with
    | ok x s1 =>
      simp only [R.bind]
      cases truD s1 x with
      | none => rfl
      | some k => cases k <;> rfl
    | _ => rfl
  rw [e]
  exact p)⟩
/-- one turn of a comprehension -/
def cTurn (t : Tg) (own : List Nat) (fcs : Env → Sto → R Bool) (fe : Env → Sto → R D) (ρ : Env) : D → Sto → R (Option D) := fun x st => match setT t x (wipeD ρ own) with
      | none => .bad
      | some ρ' => (fcs ρ' st).bind fun b st => if b then (fe ρ' st).bind fun d st => .ok (some d) st else .ok none st
end
end DI
set_option Elab.async false
set_option linter.all false
set_option maxRecDepth 100000
set_option maxHeartbeats 4000000
set_option autoImplicit false
namespace DI
open PySem PySem.Spec PyProof.Rows L2
/-! ### a list in the making, hidden from the store -/
structure Hid (G : Hp) (μ : List Addr) (H : Hp) (D : Addr) (vs : List V) : Prop where
  h : H D = some (.lst vs)
  g : G D = none
  m : ∀ i : Nat, μ[i]? ≠ some D
section
variable {T : Tb} {G G' H H' H1 : Hp} {μ μ' : List Addr} {st : Sto} {D : Addr} {vs : List V}
theorem Hid.gx (h : Hid G μ H D vs) (e : Gx G μ H G' μ' H') : Hid G' μ' H' D vs := by
  refine ⟨e.fr D _ h.h h.m, ?_, fun i z => ?_⟩
  · cases q : G' D with
    | none => rfl
    | some o =>
      rcases e.ng D o q with z | z
      · rw [h.g] at z; cases z
      · rw [h.h] at z; cases z
  · rcases e.nm i D z with z | z
    · exact h.m i z
    · rw [h.h] at z; cases z
theorem Hr.hid {o : HO} (hr : Hr T G μ st H) (g : G D = none) (m : ∀ i : Nat, μ[i]? ≠ some D) : Hr T G μ st (upd H D o) := by
  refine ⟨fun a u q => ?_, hr.len, fun i a q => ?_, hr.nd⟩
  · rw [upd_ne (ne_of_none q g)]; exact hr.sub a u q
  · obtain ⟨h1, ob, h2, h3⟩ := hr.obj i a q
    have ne : a ≠ D := fun z => m i (z ▸ q)
    exact ⟨h1, ob, h2, h3.here (upd_ne ne)⟩
theorem Gx.hid {G1 : Hp} {m1 : List Addr} {o : HO} (e : Gx G1 m1 H1 G' μ' H') (hD : H1 D = none) : Gx G1 m1 H1 G' μ' (upd H' D o) := by
  refine ⟨e.1, fun a u q n => ?_, fun a u q => ?_, e.ng, e.nm⟩
  · rw [upd_ne (ne_of_none q hD)]; exact e.fr a u q n
  · rw [upd_ne (ne_of_none q hD)]; exact e.kp a u q
theorem Hid.new (hr : Hr T G μ st H) (hD : H D = none) : Hid G μ (upd H D (.lst [])) D [] := by
  refine ⟨upd_same, ?_, fun i z => ?_⟩
  · cases q : G D with
    | none => rfl
    | some o => rw [hr.sub D o q] at hD; cases hD
  · obtain ⟨_, ob, _, h3⟩ := hr.obj i D z
    exact h3.ne hD rfl
theorem Hid.put {ws : List V} (h : Hid G μ H D vs) : Hid G μ (upd H D (.lst ws)) D ws := ⟨upd_same, h.g, h.m⟩
/-- it comes to light -/
theorem Hid.out {G1 : Hp} {m1 : List Addr} {ds : List DI.D} {mu : Bool} {w : XK} {Q : VK} (h : Hid G μ H D vs) (hD : H1 D = none) (e : Gx G1 m1 H1 G μ H) (hr : Hr T G μ st H) (r : RpL T G μ vs ds) (p : Pr T (RpD T) w G1 m1 H1 Q (newL mu ds st)) : Q (.ref D) H := by
  rw [newL_mk] at p
  split at p
  · cases mu with
    | false =>
      have gm : Gm G μ (upd G D (.lst vs)) μ := ⟨fun a o q => by rw [upd_ne (ne_of_none q h.g)]; exact q, fun _ _ q => q⟩
      refine p (upd G D (.lst vs)) μ H (.ref D) ⟨⟨fun a o q => gm.g a o (e.g a o q), e.m⟩, e.fr, e.kp, fun a o q => ?_, e.nm⟩ ⟨fun a o q => ?_, hr.len, fun i a q => ?_, hr.nd⟩ (.lst upd_same (r.mono gm))
      · by_cases ha : a = D
        · subst ha; exact .inr hD
        · rw [upd_ne ha] at q; exact e.ng a o q
      · by_cases ha : a = D
        · subst ha; rw [upd_same] at q; cases q; exact h.h
        · rw [upd_ne ha] at q; exact hr.sub a o q
      · obtain ⟨h1, ob, h2, h3⟩ := hr.obj i a q
        have ne : a ≠ D := fun z => h.m i (z ▸ q)
        exact ⟨by rw [upd_ne ne]; exact h1, ob, h2, h3.mono gm⟩
    | true =>
      have split : ∀ (i : Nat) (a : Addr), (μ ++ [D])[i]? = some a → μ[i]? = some a ∨ (i = μ.length ∧ a = D) := fun i a q => by
        by_cases hi : i < μ.length
        · rw [List.getElem?_append_left hi] at q; exact .inl q
        · rw [List.getElem?_append_right (by omega)] at q
          have h0 : i - μ.length = 0 := by
            have := (List.getElem?_eq_some_iff.mp q).1
            simp at this; omega
          rw [h0] at q
          simp at q
          exact .inr ⟨by omega, q.symm⟩
      have gm : Gm G μ G (μ ++ [D]) := ⟨fun _ _ q => q, fun i a q => by rw [List.getElem?_append_left (List.getElem?_eq_some_iff.mp q).1]; exact q⟩
      refine p G (μ ++ [D]) H (.ref D) ⟨⟨e.g, fun i a q => gm.m i a (e.m i a q)⟩, e.fr, e.kp, e.ng, fun i a q => ?_⟩ ⟨hr.sub, by simp [hr.len], fun i a q => ?_, fun i j a q1 q2 => ?_⟩ (.loc (by rw [← hr.len]; simp))
      · rcases split i a q with q | ⟨_, rfl⟩
        · exact e.nm i a q
        · exact .inr hD
      · rcases split i a q with q | ⟨rfl, rfl⟩
        · obtain ⟨h1, ob, h2, h3⟩ := hr.obj i a q
          exact ⟨h1, ob, by rw [List.getElem?_append_left (List.getElem?_eq_some_iff.mp h2).1]; exact h2, h3.mono gm⟩
        · exact ⟨h.g, .lst ds, by rw [hr.len]; simp, .lst h.h (r.mono gm)⟩
      · rcases split i a q1 with z1 | ⟨e1, z1⟩ <;> rcases split j a q2 with z2 | ⟨e2, z2⟩
        · exact hr.nd i j a z1 z2
        · exact absurd (z2 ▸ z1) (h.m i)
        · exact absurd (z1 ▸ z2) (h.m j)
        · omega
  · exact p.elim
end
theorem wipe_get (σ : L2.St) (i : Nat) : ∀ vs : List Nat, (wipe σ vs)[i]? = if i ∈ vs then σ[i]?.map fun _ => none else σ[i]?
  | [] => by simp [wipe]
  | v :: vs => by
    unfold wipe
    rw [List.getElem?_set, wipe_length]
    by_cases h : v = i
    · subst h
      by_cases hv : v < σ.length
      · simp [hv]
      · simp [hv, List.getElem?_eq_none (Nat.le_of_not_lt hv)]
    · rw [if_neg h, wipe_get σ i vs]
      have : (i ∈ v :: vs) ↔ i ∈ vs := by simp [Ne.symm h]
      simp only [this]
theorem wipe_wipe (σ : L2.St) (vs : List Nat) : wipe (wipe σ vs) vs = wipe σ vs := by
  apply List.ext_getElem?
  intro i
  rw [wipe_get, wipe_get]
  by_cases h : i ∈ vs
  · simp only [h, if_true]
    cases σ[i]? <;> rfl
  · simp [h]
def accO (acc : List D) : Option D → List D
  | some d => acc ++ [d]
  | none => acc
theorem compS_grow {f : D → Sto → R (Option D)} : ∀ (xs acc : List D) (st : Sto) {ds : List D} {st' : Sto}, compS f xs acc st = .ok ds st' → acc.length ≤ ds.length := by
  intro xs
  induction xs with
  | nil => intro acc st ds st' e; cases e; exact Nat.le_refl _
  | cons x xs ih =>
    intro acc st ds st' e
    simp only [compS] at e
    cases h : f x st with
    | ok o s2 =>
      rw [h] at e
      have := ih _ s2 e
      cases o with
      | none => exact this
      | some d => simp only [List.length_append] at this; omega
    | err _ _ _ => rw [h] at e; cases e
    | bad => rw [h] at e; cases e
theorem compV_grow {f : D → Sto → R (Option D)} {en : Bool} {l : Nat} : ∀ (n j : Nat) (acc : List D) (st : Sto) {ds : List D} {st' : Sto}, compV f en l n j acc st = .ok ds st' → acc.length ≤ ds.length := by
  intro n
  induction n with
  | zero => intro j acc st ds st' e; cases e
  | succ n ih =>
    intro j acc st ds st' e
    simp only [compV] at e
    split at e
    · split at e
      · cases e; exact Nat.le_refl _
      · rename_i x _
        cases h : f (if en = true then .tup [.int (j : Nat), x] else x) st with
        | ok o s2 =>
          rw [h] at e
          have := ih _ _ s2 e
          cases o with
          | none => exact this
          | some d => simp only [List.length_append] at this; omega
        | err _ _ _ => rw [h] at e; cases e
        | bad => rw [h] at e; cases e
    · cases e
section
variable {X : Cx} {T : Tb} {W : L2.St → XK} {e tg iter : Expr} {ifs : List Expr} {fe : Env → Sto → R D} {fcs : Env → Sto → R Bool} {fi : Env → Sto → R Src} {pos : Pos}
abbrev fLc (mu : Bool) (t : Tg) (own : List Nat) (fi : Env → Sto → R Src) (fcs : Env → Sto → R Bool) (fe : Env → Sto → R D) : Env → Sto → R D := fun ρ st => (fi ρ st).bind fun src st => (compD (cTurn t own fcs fe ρ) src st).noE.bind fun ds st => newL mu ds st
/-- what is still to be done -/
abbrev Fin (T : Tb) (w : XK) (G : Hp) (μ : List Addr) (H : Hp) (Q : VK) (mu : Bool) (r : R (List D)) : Prop := Pr T (RpD T) w G μ H Q (r.noE.bind fun ds st => newL mu ds st)
theorem Fin.len {w : XK} {G H : Hp} {μ : List Addr} {Q : VK} {mu : Bool} {r : R (List D)} {n : Nat} (h : Fin T w G μ H Q mu r) (k : ∀ ds st', r = .ok ds st' → n ≤ ds.length) : n ≤ SZ := by
  cases r with
  | ok ds st' =>
    have p : Pr T (RpD T) w G μ H Q (newL mu ds st') := h
    rw [newL_mk] at p
    split at p
    · exact Nat.le_trans (k ds st' rfl) ‹_›
    · exact p.elim
  | err _ _ _ => exact False.elim h
  | bad => exact False.elim h
/-- one turn -/
theorem lc_turn {t : Tg} {own : List Nat} {mu : Bool} {w : XK} {G1 H1 : Hp} {m1 : List Addr} {Q : VK} {G H : Hp} {μ : List Addr} {ρ : Env} {σ : L2.St} {s : Sto} {D : Addr} {vs : List V} {acc : List DI.D} {x : V} {d : DI.D} {k : List DI.D → Sto → R (List DI.D)} {Nx : Hp → Prop}
    (hown : Tg.inn own t = true) (hr : Hr T G μ s H) (er : Er T G μ ρ σ) (hd : Hid G μ H D vs) (ra : RpL T G μ vs acc) (rx : Rp T G μ x d)
    (p : Fin T w G1 m1 H1 Q mu ((cTurn t own fcs fe ρ d s).bind fun o st => k (accO acc o) st)) (hk : ∀ acc st ds st', k acc st = .ok ds st' → acc.length ≤ ds.length)
    (hN : ∀ (G3 : Hp) (m3 : List Addr) (s3 : Sto) (H3 : Hp) (vs3 : List V) (acc3 : List DI.D), Gx G μ H G3 m3 H3 → Hr T G3 m3 s3 H3 → Hid G3 m3 H3 D vs3 → RpL T G3 m3 vs3 acc3 → Fin T w G1 m1 H1 Q mu (k acc3 s3) → Nx H3)
    (hN2 : ∀ (G3 : Hp) (m3 : List Addr) (s3 : Sto) (H3 : Hp) (vs3 ws : List V) (acc3 : List DI.D), Gx G μ H G3 m3 H3 → Hr T G3 m3 s3 H3 → Hid G3 m3 H3 D vs3 → RpL T G3 m3 ws acc3 → Fin T w G1 m1 H1 Q mu (k acc3 s3) → Nx (upd H3 D (.lst ws))) :
    tTg T t x (wipe σ own) H fun σ2 H2 => wipe σ2 own = wipe σ own ∧ tBo T WN fcs σ2 H2 fun b H3 => if b = true then tEx T WN fe σ2 H3 fun y H4 => ∃ a, H4 D = some (.lst a) ∧ a.length < sizeLine ∧ Nx (upd H4 D (.lst (a ++ [y]))) else Nx H3 := by
  cases hs : setT t d (wipeD ρ own) with
  | none => unfold cTurn at p; rw [hs] at p; exact False.elim p
  | some ρ' =>
    unfold cTurn at p
    rw [hs] at p
    refine ⟨G, μ, wipeD ρ own, d, ρ', hr.sub, er.wipe own, rx, hs, fun σ' er' hw => ⟨(hw own hown).trans (wipe_wipe σ own), G, μ, ρ', s, hr, er', ?_⟩⟩
    cases hc : fcs ρ' s with
    | bad => simp only [hc] at p; exact False.elim p
    | err _ _ _ => simp only [hc] at p; exact False.elim p
    | ok b s2 =>
      simp only [hc] at p
      intro G2 m2 H2 v e2 hr2 rv
      subst rv
      cases v with
      | false =>
        simp only [Bool.false_eq_true, if_false]
        exact hN G2 m2 s2 H2 vs acc e2 hr2 (hd.gx e2) (ra.mono e2.1) p
      | true =>
        simp only [if_true]
        refine ⟨G2, m2, ρ', s2, hr2, er'.mono e2.1, ?_⟩
        cases he : fe ρ' s2 with
        | bad => simp only [R.bind, he, if_true] at p; exact False.elim p
        | err _ _ _ => simp only [R.bind, he, if_true] at p; exact False.elim p
        | ok z s3 =>
          simp only [R.bind, he, if_true] at p
          intro G3 m3 H3 y e3 hr3 ry
          have hd3 := (hd.gx e2).gx e3
          have ra3 := (ra.mono e2.1).mono e3.1
          have p : Fin T w G1 m1 H1 Q mu (k (acc ++ [z]) s3) := p
          have hl := Fin.len (n := (acc ++ [z]).length) p fun ds st' e => hk _ _ _ _ e
          refine ⟨vs, hd3.h, ?_, hN2 G3 m3 s3 H3 vs _ _ (e2.trans e3) hr3 hd3 (ra3.app (.cons ry .nil)) p⟩
          rw [ra3.len]
          rw [List.length_append] at hl
          exact sz_lt (Nat.lt_of_lt_of_le (by simp) hl)
theorem lc_go {t : Tg} {own : List Nat} {mu : Bool} (hown : Tg.inn own t = true) (σ : L2.St) (H : Hp) (Q : VK) (h : tEx T W (fLc mu t own fi fcs fe) σ H Q) : tLc (tIt T W fi) (tTg T t) (tBo T WN fcs) (tEx T WN fe) own σ H Q := by
  obtain ⟨G, μ, ρ, st, hr, er, p⟩ := h
  refine tR.imp (tR.bind (Rel := SrcR T) hr er p) fun J H1 ⟨G1, m1, s1, src, e1, hr1, r1, p1⟩ D hD => ?_
  have er1 := er.mono e1.1
  cases src with
  | st xs =>
    refine ⟨fun i m H' => ∃ (G' : Hp) (μ' : List Addr) (st' : Sto) (vs : List V) (acc : List DI.D), Gx G1 m1 H1 G' μ' H' ∧ Hr T G' μ' st' H' ∧ Hid G' μ' H' D vs ∧ RpL T G' μ' vs acc ∧ m = xs.length - i ∧ Fin T (W σ) G1 m1 H1 Q mu (compS (cTurn t own fcs fe ρ) (xs.drop i) acc st'), ⟨_, G1, m1, s1, [], [], Gx.refl.hid hD, hr1.hid (Hid.new hr1 hD).g (Hid.new hr1 hD).m, Hid.new hr1 hD, .nil, rfl, p1⟩, ?_⟩
    rintro i m H2 ⟨G2, m2, s2, vs, acc, e2, hr2, hd2, ra2, rfl, p2⟩
    obtain ⟨k1, k2⟩ := r1 G2 m2 s2 H2 e2.1 hr2 i
    cases hx : xs[i]? with
    | none =>
      have hl : xs.length ≤ i := List.getElem?_eq_none_iff.mp hx
      rw [List.drop_eq_nil_of_le hl] at p2
      exact .inl ⟨k1 hl, hd2.out hD e2 hr2 ra2 p2⟩
    | some d =>
      obtain ⟨h1, hd⟩ := List.getElem?_eq_some_iff.mp hx
      obtain ⟨q1, q2⟩ := k2 d hx
      refine .inr ⟨q1, fun H' => ∃ (G' : Hp) (μ' : List Addr) (st' : Sto) (vs : List V) (acc : List DI.D), Gx G1 m1 H1 G' μ' H' ∧ Hr T G' μ' st' H' ∧ Hid G' μ' H' D vs ∧ RpL T G' μ' vs acc ∧ Fin T (W σ) G1 m1 H1 Q mu (compS (cTurn t own fcs fe ρ) (xs.drop (i + 1)) acc st'), fun H' ⟨G', μ', st', vs, acc, z1, z2, z3, z4, z5⟩ => ⟨xs.length - (i + 1), by omega, G', μ', st', vs, acc, z1, z2, z3, z4, rfl, z5⟩, fun x H3 y => ?_⟩
      obtain ⟨G3, e3, hr3, rx⟩ := q2 x H3 y
      rw [List.drop_eq_getElem_cons h1, hd] at p2
      have e23 := e2.trans e3
      refine lc_turn (G1 := G1) (m1 := m1) (H1 := H1) (Q := Q) (mu := mu) (w := W σ) (k := fun acc st => compS (cTurn t own fcs fe ρ) (xs.drop (i + 1)) acc st) hown hr3 (er1.mono e23.1) (hd2.gx e3) (ra2.mono e3.1) rx ?_ (fun acc st ds st' e => compS_grow _ _ _ e) ?_ ?_
      · rw [compS] at p2
        refine cast (congrArg (fun f => Fin T (W σ) G1 m1 H1 Q mu (R.bind (cTurn t own fcs fe ρ d s2) f)) ?_) p2
        funext o st
        cases o <;> rfl
      · exact fun G4 m4 s4 H4 vs4 acc4 e4 hr4 hd4 ra4 p4 => ⟨G4, m4, s4, vs4, acc4, e23.trans e4, hr4, hd4, ra4, p4⟩
      · exact fun G4 m4 s4 H4 vs4 ws acc4 e4 hr4 hd4 ra4 p4 => ⟨G4, m4, s4, ws, acc4, (e23.trans e4).hid hD, hr4.hid hd4.g hd4.m, hd4.put, ra4, p4⟩
  | lv l =>
    refine ⟨fun i m H' => ∃ (G' : Hp) (μ' : List Addr) (st' : Sto) (vs : List V) (acc : List DI.D), Gx G1 m1 H1 G' μ' H' ∧ Hr T G' μ' st' H' ∧ Hid G' μ' H' D vs ∧ RpL T G' μ' vs acc ∧ Fin T (W σ) G1 m1 H1 Q mu (compV (cTurn t own fcs fe ρ) false l m i acc st'), ⟨_, G1, m1, s1, [], [], Gx.refl.hid hD, hr1.hid (Hid.new hr1 hD).g (Hid.new hr1 hD).m, Hid.new hr1 hD, .nil, p1⟩, ?_⟩
    rintro i m H2 ⟨G2, m2, s2, vs, acc, e2, hr2, hd2, ra2, p2⟩
    cases m with
    | zero => exact False.elim p2
    | succ m =>
      rw [compV] at p2
      cases hl : s2[l]? with
      | none => rw [hl] at p2; exact False.elim p2
      | some o =>
        rw [hl] at p2
        cases o with
        | dct _ => exact False.elim p2
        | lst xs =>
          obtain ⟨k1, k2⟩ := r1 G2 m2 s2 H2 e2.1 hr2 i xs hl
          simp only at p2
          cases hx : xs[i]? with
          | none =>
            rw [hx] at p2
            exact .inl ⟨k1 (List.getElem?_eq_none_iff.mp hx), hd2.out hD e2 hr2 ra2 p2⟩
          | some d =>
            rw [hx] at p2
            obtain ⟨q1, q2⟩ := k2 d hx
            refine .inr ⟨q1, fun H' => ∃ (G' : Hp) (μ' : List Addr) (st' : Sto) (vs : List V) (acc : List DI.D), Gx G1 m1 H1 G' μ' H' ∧ Hr T G' μ' st' H' ∧ Hid G' μ' H' D vs ∧ RpL T G' μ' vs acc ∧ Fin T (W σ) G1 m1 H1 Q mu (compV (cTurn t own fcs fe ρ) false l m (i + 1) acc st'), fun H' h => ⟨m, Nat.lt_succ_self m, h⟩, fun x H3 y => ?_⟩
            obtain ⟨G3, e3, hr3, rx⟩ := q2 x H3 y
            have e23 := e2.trans e3
            refine lc_turn (G1 := G1) (m1 := m1) (H1 := H1) (Q := Q) (mu := mu) (w := W σ) (k := fun acc st => compV (cTurn t own fcs fe ρ) false l m (i + 1) acc st) hown hr3 (er1.mono e23.1) (hd2.gx e3) (ra2.mono e3.1) rx ?_ (fun acc st ds st' e => compV_grow _ _ _ _ e) ?_ ?_
            · refine cast (congrArg (fun f => Fin T (W σ) G1 m1 H1 Q mu (R.bind (cTurn t own fcs fe ρ d s2) f)) ?_) p2
              funext o st
              cases o <;> rfl
            · exact fun G4 m4 s4 H4 vs4 acc4 e4 hr4 hd4 ra4 p4 => ⟨G4, m4, s4, vs4, acc4, e23.trans e4, hr4, hd4, ra4, p4⟩
            · exact fun G4 m4 s4 H4 vs4 ws acc4 e4 hr4 hd4 ra4 p4 => ⟨G4, m4, s4, ws, acc4, (e23.trans e4).hid hD, hr4.hid hd4.g hd4.m, hd4.put, ra4, p4⟩
  | lvE l =>
    refine ⟨fun i m H' => ∃ (G' : Hp) (μ' : List Addr) (st' : Sto) (vs : List V) (acc : List DI.D), Gx G1 m1 H1 G' μ' H' ∧ Hr T G' μ' st' H' ∧ Hid G' μ' H' D vs ∧ RpL T G' μ' vs acc ∧ Fin T (W σ) G1 m1 H1 Q mu (compV (cTurn t own fcs fe ρ) true l m i acc st'), ⟨_, G1, m1, s1, [], [], Gx.refl.hid hD, hr1.hid (Hid.new hr1 hD).g (Hid.new hr1 hD).m, Hid.new hr1 hD, .nil, p1⟩, ?_⟩
    rintro i m H2 ⟨G2, m2, s2, vs, acc, e2, hr2, hd2, ra2, p2⟩
    cases m with
    | zero => exact False.elim p2
    | succ m =>
      rw [compV] at p2
      cases hl : s2[l]? with
      | none => rw [hl] at p2; exact False.elim p2
      | some o =>
        rw [hl] at p2
        cases o with
        | dct _ => exact False.elim p2
        | lst xs =>
          obtain ⟨k1, k2⟩ := r1 G2 m2 s2 H2 e2.1 hr2 i xs hl
          simp only at p2
          cases hx : xs[i]? with
          | none =>
            rw [hx] at p2
            exact .inl ⟨k1 (List.getElem?_eq_none_iff.mp hx), hd2.out hD e2 hr2 ra2 p2⟩
          | some d =>
            rw [hx] at p2
            obtain ⟨q1, q2⟩ := k2 d hx
            refine .inr ⟨q1, fun H' => ∃ (G' : Hp) (μ' : List Addr) (st' : Sto) (vs : List V) (acc : List DI.D), Gx G1 m1 H1 G' μ' H' ∧ Hr T G' μ' st' H' ∧ Hid G' μ' H' D vs ∧ RpL T G' μ' vs acc ∧ Fin T (W σ) G1 m1 H1 Q mu (compV (cTurn t own fcs fe ρ) true l m (i + 1) acc st'), fun H' h => ⟨m, Nat.lt_succ_self m, h⟩, fun x H3 y => ?_⟩
            obtain ⟨G3, e3, hr3, rx⟩ := q2 x H3 y
            have e23 := e2.trans e3
            refine lc_turn (G1 := G1) (m1 := m1) (H1 := H1) (Q := Q) (mu := mu) (w := W σ) (k := fun acc st => compV (cTurn t own fcs fe ρ) true l m (i + 1) acc st) hown hr3 (er1.mono e23.1) (hd2.gx e3) (ra2.mono e3.1) rx ?_ (fun acc st ds st' e => compV_grow _ _ _ _ e) ?_ ?_
            · refine cast (congrArg (fun f => Fin T (W σ) G1 m1 H1 Q mu (R.bind (cTurn t own fcs fe ρ (.tup [.int (i : Nat), d]) s2) f)) ?_) p2
              funext o st
              cases o <;> rfl
            · exact fun G4 m4 s4 H4 vs4 acc4 e4 hr4 hd4 ra4 p4 => ⟨G4, m4, s4, vs4, acc4, e23.trans e4, hr4, hd4, ra4, p4⟩
            · exact fun G4 m4 s4 H4 vs4 ws acc4 e4 hr4 hd4 ra4 p4 => ⟨G4, m4, s4, ws, acc4, (e23.trans e4).hid hD, hr4.hid hd4.g hd4.m, hd4.put, ra4, p4⟩
abbrev Blk (X : Cx) (scope : Scope) (k : Cx → Prop) : Prop := ∀ (s : Shared) (H : Hp) (C : Addr) (cl : List (Str × Addr)) (fp : List Addr), k (X.blk s H scope (compEnvC scope cl C X.env) fp)
theorem ex_lc {t : Tg} {mu : Bool} {scope : Scope} {own : List (Str × Nat)} (hown : Tg.inn (own.map (·.2)) t = true) (hc : X.calm = true) (hN : X.N.Nodup) (hn : noSet iter = true) (hi : PI X tg iter (tIt T W fi)) (ok : BlkOk X.N X.env.scope scope own)
    (hg : Blk X scope fun Y => PG Y tg (tTg T t)) (ht : Blk X scope fun Y => PTs Y ifs (tBo T WN fcs)) (he : Blk X scope fun Y => PE Y e (tEx T WN fe)) :
    PE X (.ListComp e [⟨tg, iter, ifs, 0⟩] scope pos) (tEx T W (fLc mu t (own.map (·.2)) fi fcs fe)) :=
  pe_of (pe_lc hc hN hi ok hg ht he (no_fold hn)) fun σ H Q h => lc_go hown σ H Q h
theorem es_setLc {W : WX} {i : Nat} {y : Str} {py spos : Pos} {t : Tg} {mu : Bool} {scope : Scope} {own : List (Str × Nat)} (hy : X.N[i]? = some y) (hyl : X.env.scope.names.lookup y = some .local) (hl : (py.line == pos.line) = true)
    (ha : (scope.names.any fun (n, k) => n == y && (k == .local || k == .cell)) = false) (hk : X.env.scope.kind = .function)
    (hown : Tg.inn (own.map (·.2)) t = true) (hc : X.calm = true) (hN : X.N.Nodup) (hn : noSet iter = true) (hi : PI X tg iter (tIt T (WE' W) fi)) (ok : BlkOk X.N X.env.scope scope own)
    (hg : Blk X scope fun Y => PG Y tg (tTg T t)) (ht : Blk X scope fun Y => PTs Y ifs (tBo T WN fcs)) (he : Blk X scope fun Y => PE Y e (tEx T WN fe)) :
    PS X (.Assign [.Name y py] (.ListComp e [⟨tg, iter, ifs, 0⟩] scope pos) spos) (tSt T W fun ρ st => RS.of (fLc mu t (own.map (·.2)) fi fcs fe ρ st) ρ fun d st => match setT (.nm i) d ρ with
      | some ρ' => .ok .nx ρ' st
      | none => .bad) := by
  refine ps_of (ps_setLc hc hN hy hyl (sw_true hk hyl hl ha) hi ok hg ht he (no_fold hn)) fun De σ H ⟨G, μ, ρ, st, hr, er, p⟩ => ?_
  refine lc_go (mu := mu) hown σ H _ ?_
  exact tR.imp (tR.toS (Rel := RpD T) hr er p) fun x H1 ⟨G1, m1, s1, dx, e1, hr1, r1, p1⟩ => p1.nx hr1 ((er.mono e1.1).set r1 i)
end
end DI
set_option Elab.async false
set_option linter.all false
set_option maxRecDepth 100000
set_option maxHeartbeats 4000000
set_option autoImplicit false
namespace DI
open PySem PySem.Spec PyProof.Rows L2
def notDbg (x : Str) : Bool := !(x == ("__debug__" : Str))
theorem not_dbg {x : Str} (h : notDbg x = true) : (x == ("__debug__" : Str)) = false := by
  unfold notDbg at h
  simpa using h
/-! ### own exception classes: how they are made -/
def oexB (K : PySem.W.Frag) (C : Addr) : Bool := (match K.lookup C with
  | some ⟨.type ty, _, .cls cd, sl⟩ => (ty == "type") && (match cd.mro, sl.toList with
    | .ref C' :: bm, [_, _, _, _, some (.builtin n), _] => C' == C && n == "ValueError.__new__" && !cd.hasDel && cd.hasDict && PySem.HandSPX.refsVE bm
    | _, _ => false)
  | _ => false) && decide (PySem.W.findIn K (.ref C) "__setattr__" = some (some (.builtin "object.__setattr__"))) && decide (PySem.W.subIn K (.ref C) (.type "BaseException") = some true) && decide (PySem.W.typeIn K (.ref C) = some (.type "type")) && PySem.W.keepIn K (.ref C)
theorem oexB_ok {K : PySem.W.Frag} {C : Addr} (h : oexB K C = true) : OexC K C := by
  unfold oexB at h
  simp only [Bool.and_eq_true, decide_eq_true_eq] at h
  obtain ⟨⟨⟨⟨h1, h2⟩, h3⟩, h4⟩, h5⟩ := h
  refine ⟨?_, h2, h3, h4, h5⟩
  split at h1
  · rename_i ty dd cd sl hl
    simp only [Bool.and_eq_true, beq_iff_eq] at h1
    obtain ⟨e0, h1⟩ := h1
    subst e0
    split at h1
    · rename_i C' bm k0 k1 k2 k3 n k5 e1 e2
      simp only [Bool.and_eq_true, beq_iff_eq, Bool.not_eq_true'] at h1
      obtain ⟨⟨⟨⟨q1, q2⟩, q3⟩, q4⟩, q5⟩ := h1
      subst q1 q2
      obtain ⟨nm, bs, mro, ns, qn, hd, sn, sb, ab, col, del⟩ := cd
      dsimp only at e1 q3 q4
      subst e1 q3 q4
      have e3 : sl = #[k0, k1, k2, k3, some (.builtin "ValueError.__new__"), k5] := by
        have := congrArg List.toArray e2
        simpa using this
      subst e3
      exact ⟨nm, qn, ns, bs, bm, sn, sb, ab, col, dd, k0, k1, k2, k3, k5, hl, q5⟩
    · cases h1
  · cases h1
/-- what C.__init__ promises: the fields, told in the parameters' order -/
def spIni (C : Addr) (fs : List Str) : Sp := fun vs H Q _ => ∃ (a : Addr) (ys : List V), vs = .ref a :: ys ∧ ys.length = fs.length ∧ H a = some (exo a C none) ∧
  ∀ (d : Addr) (H' : Hp), H d = none → d ≠ a → H' a = some (exo a C (some d)) → H' d = some (exd d (fs.zip ys).reverse) → (∀ b, b ≠ a → b ≠ d → H' b = H b) → Q .non H'
/-- the statements of such a body -/
def iniB (slf : Str) : List Str → List Stmt → Bool
  | [], ss => ss.isEmpty
  | f :: fs, ss => (match ss with
    | .Assign [.Attribute (.Name x _) g _] (.Name y _) _ :: ss => x == slf && g == f && y == f && iniB slf fs ss
    | _ => false)
def tIni (K : PySem.W.Frag) : Nat → List Str → TS
  | _, [] => tNext
  | j, f :: fs => tSeq (tOst K f (tVar 0) (tVar j)) (tIni K (j + 1) fs)
theorem pss_ini {X : Cx} {slf : Str} (hv : ∀ x ∈ X.N, Vis X.env.scope x ∧ notDbg x = true ∧ (x == ("__classdict__" : Str)) = false) (h0 : X.N[0]? = some slf) : ∀ (fs : List Str) (ss : List Stmt) (j : Nat), iniB slf fs ss = true → (∀ i f, fs[i]? = some f → X.N[j + i]? = some f) → PSs X ss (tIni X.K j fs)
  | [], ss, j, h, _ => by
    cases ss with
    | nil => exact pss_nil
    | cons _ _ => simp [iniB] at h
  | f :: fs, ss, j, h, hN => by
    simp only [iniB] at h
    split at h
    · simp only [Bool.and_eq_true, beq_iff_eq] at h
      obtain ⟨⟨⟨rfl, rfl⟩, rfl⟩, h4⟩ := h
      have hj := hN 0 _ rfl
      rw [Nat.add_zero] at hj
      obtain ⟨v0, d0, c0⟩ := hv _ (List.mem_of_getElem? h0)
      obtain ⟨v1, d1, c1⟩ := hv _ (List.mem_of_getElem? hj)
      refine pss_cons (ps_ost (pe_var h0 v0 (not_dbg d0) c0) (pe_var hj v1 (not_dbg d1) c1)) (pss_ini hv h0 fs _ (j + 1) h4 fun i f hf => ?_)
      have := hN (i + 1) f (by simpa using hf)
      rw [show j + 1 + i = j + (i + 1) by omega]
      exact this
    · cases h
/-- the fields from the second on -/
theorem ini_more {K : PySem.W.Frag} {C a d : Addr} {σ : L2.St} {D : Ends} (hC : OexC K C) (hσ : σ[0]? = some (some (.ref a))) (hda : d ≠ a) : ∀ (fs : List Str) (ys : List V) (j : Nat) (H : Hp) (done : List (Str × V)), fs.length = ys.length → (∀ i y, ys[i]? = some y → σ[j + i]? = some (some y)) → (∀ f ∈ fs, PySem.W.findIn K (.ref C) f = some none) → done.length + fs.length ≤ 900 →
    H a = some (exo a C (some d)) → H d = some (exd d done) → (∀ H', H' a = some (exo a C (some d)) → H' d = some (exd d ((fs.zip ys).reverse ++ done)) → (∀ b, b ≠ a → b ≠ d → H' b = H b) → D.nx σ H') → tIni K j fs D σ H
  | [], ys, j, H, done, hl, hs, hno, hsz, ha, hd, k => by
    cases ys with
    | nil => exact k H ha hd fun _ _ _ => rfl
    | cons _ _ => cases hl
  | f :: fs, ys, j, H, done, hl, hs, hno, hsz, ha, hd, k => by
    cases ys with
    | nil => cases hl
    | cons y ys =>
      have hy := hs 0 y rfl
      rw [Nat.add_zero] at hy
      refine ⟨y, hy, .ref a, hσ, a, C, rfl, hC, hno f (List.mem_cons_self ..), .inr ⟨d, done, ha, hd, by simp only [List.length_cons] at hsz; omega, ?_⟩⟩
      refine ini_more hC hσ hda fs ys (j + 1) (upd H d (exd d ((f, y) :: done))) ((f, y) :: done) (by simpa using hl) (fun i z hz => by
        have := hs (i + 1) z (by simpa using hz)
        rw [show j + 1 + i = j + (i + 1) by omega]
        exact this) (fun f hf => hno f (List.mem_cons_of_mem _ hf)) (by simp only [List.length_cons] at hsz ⊢; omega) (by rw [upd_ne (Ne.symm hda)]; exact ha) upd_same fun H' h1 h2 h3 => ?_
      refine k H' h1 (by rw [List.zip_cons_cons, List.reverse_cons, List.append_assoc]; exact h2) fun b hb hb2 => ?_
      rw [h3 b hb hb2, upd_ne hb2]
theorem ini_go {K : PySem.W.Frag} {C : Addr} {fs : List Str} {N : List Str} {vs : List V} {H : Hp} {Q : VK} {E : XK} (hC : OexC K C) (hf : fs ≠ []) (hno : ∀ f ∈ fs, PySem.W.findIn K (.ref C) f = some none) (hsz : fs.length ≤ 900) (h : spIni C fs vs H Q E) : tIni K 1 fs { nx := fun _ H' => Q .non H', rt := Q } (L2.start N vs) H := by
  obtain ⟨a, ys, rfl, hl, ha, k⟩ := h
  cases fs with
  | nil => exact absurd rfl hf
  | cons f fs =>
    cases ys with
    | nil => cases hl
    | cons y ys =>
      have st : ∀ i v, (V.ref a :: y :: ys)[i]? = some v → (L2.start N (.ref a :: y :: ys))[i]? = some (some v) := fun i v hv => by
        unfold L2.start
        rw [List.getElem?_append_left (by
          have := (List.getElem?_eq_some_iff.mp hv).1
          simpa using this), List.getElem?_map, hv]
        rfl
      refine ⟨y, st 1 y rfl, .ref a, st 0 _ rfl, a, C, rfl, hC, hno f (List.mem_cons_self ..), .inl ⟨ha, fun dx hdx hne => ?_⟩⟩
      refine ini_more hC (st 0 _ rfl) hne fs ys 2 _ [(f, y)] (by simpa using hl.symm) (fun i z hz => st (2 + i) z (by rw [show 2 + i = i + 1 + 1 by omega]; simpa using hz)) (fun f hf => hno f (List.mem_cons_of_mem _ hf)) (by simp only [List.length_cons, List.length_nil] at hsz ⊢; omega) upd_same (by rw [upd_ne hne]; exact upd_same) fun H' h1 h2 h3 => ?_
      refine k dx H' hdx hne h1 (by rw [List.zip_cons_cons, List.reverse_cons]; exact h2) fun b hb hb2 => ?_
      rw [h3 b hb hb2, upd_ne hb, upd_ne hb2]
/-- an own class over ValueError, by its text: its name, its fields, its __init__, the name of self there -/
structure ClsI where
  nm : Str
  slf : Str
  fs : List Str
  st : Stmt
def nodupB : List Str → Bool
  | [] => true
  | x :: xs => !(xs.contains x) && nodupB xs
theorem nodupB_ok : ∀ {xs : List Str}, nodupB xs = true → xs.Nodup
  | [], _ => .nil
  | x :: xs, h => by
    simp only [nodupB, Bool.and_eq_true, Bool.not_eq_true'] at h
    exact List.nodup_cons.mpr ⟨by simpa using h.1, nodupB_ok h.2⟩
def ClsI.qual (c : ClsI) : Str := c.nm ++ ("." : Str) ++ ("__init__" : Str)
def ClsI.ok (c : ClsI) : Bool := (defArgs c.st).posonlyargs.isEmpty && (defArgs c.st).vararg.isNone && (defArgs c.st).kwonlyargs.isEmpty && (defArgs c.st).kwarg.isNone && (defArgs c.st).args.map (·.arg) == c.slf :: c.fs &&
  nodupB (c.slf :: c.fs) && (c.slf :: c.fs).all (fun x => ((defScope c.st).names.lookup x == some .local) && notDbg x && !(x == ("__classdict__" : Str))) && (defScope c.st).names.all (fun y => !(y.2 == .free)) && (defScope c.st).kind == .function && !(defScope c.st).isCoroutine && !(defScope c.st).isGenerator &&
  !c.fs.isEmpty && decide (c.fs.length ≤ 900) && iniB c.slf c.fs (defBody c.st)
theorem ini_fnok {CX : CXT} {P : Program} {w : World} {K : PySem.W.Frag} {mg : Str → Option Value} {base : Heap} {c : ClsI} {q : Str} {C f : Addr} {fd : FuncData} (h : c.ok = true) (F : FunD K "__init__" q (defArgs c.st) (defBody c.st) (defScope c.st) [] [] f fd) (hC : OexC K C) (hno : ∀ f ∈ c.fs, PySem.W.findIn K (.ref C) f = some none) :
    FnOk P w K mg base CX 1 f fd (c.slf :: c.fs) (spIni C c.fs) := by
  simp only [ClsI.ok, Bool.and_eq_true, Bool.not_eq_true', decide_eq_true_eq] at h
  obtain ⟨⟨⟨⟨⟨⟨⟨⟨⟨⟨⟨⟨⟨h1, h2⟩, h3⟩, h4⟩, h5⟩, h6⟩, h7⟩, h8⟩, h9⟩, h10⟩, h11⟩, h12⟩, h13⟩, h14⟩ := h
  have nm : ∀ x ∈ c.slf :: c.fs, ((defScope c.st).names.lookup x = some .local) ∧ notDbg x = true ∧ (x == ("__classdict__" : Str)) = false := fun x hx => by
    have := List.all_eq_true.mp h7 x hx
    simp only [Bool.and_eq_true, Bool.not_eq_true', beq_iff_eq] at this
    exact ⟨this.1.1, this.1.2, this.2⟩
  have S : FnScope (c.slf :: c.fs) (c.slf :: c.fs) (defScope c.st) := ⟨beq_iff_eq.mp h9, h10, h11, nodupB_ok h6, List.take_length, fun x hx => .inl (nm x hx).1, fun y hy e => by
    have := List.all_eq_true.mp h8 y hy
    rw [e] at this
    cases this⟩
  refine F.ok S (fun vs H Q E ⟨a, ys, e, hl, _⟩ => by rw [e, List.length_cons, List.length_cons, hl]) fun cdv A outer s H vs Q E hr hsp => ⟨tIni K 1 c.fs, ?_, ini_go hC (by simpa using h12) hno h13 hsp⟩
  exact pss_ini (X := cxOf CX P w K mg base (c.slf :: c.fs) q (defScope c.st) f cdv A outer s H E) (slf := c.slf) (fun x hx => ⟨.inl (nm x hx).1, (nm x hx).2.1, (nm x hx).2.2⟩) rfl c.fs (defBody c.st) 1 h14 (fun i f hf => by
    show (c.slf :: c.fs)[1 + i]? = some f
    rw [Nat.add_comm]
    simpa using hf)
/-- what a body's raise rests on -/
structure ClsOk (X : Cx) (C : Addr) (c : ClsI) : Prop where
  mg : X.mg c.nm = some (.ref C)
  ox : OexC X.K C
  ini : ∃ (f : Addr) (fd : FuncData), PySem.W.findIn X.K (.ref C) "__init__" = some (some (.ref f)) ∧ PySem.W.typeIn X.K (.ref f) = some (.type "function") ∧ Binds X.K fd (c.slf :: c.fs) [] ∧ FnOk X.prog X.w X.K X.mg X.base (L2.CX X.prog X.w) 1 f fd (c.slf :: c.fs) (spIni C c.fs)
theorem rpf_zip {T : Tb} {G : Hp} {μ : List Addr} : ∀ {fl : List Nat} {fs : List Str} {vs : List V} {ds : List D}, fl.map T.fn = fs → RpL T G μ vs ds → RpF T G μ (fs.zip vs) (fl.zip ds)
  | [], _, _, _, e, _ => by subst e; exact .nil
  | i :: fl, _, _, _, e, .nil => by subst e; exact .nil
  | i :: fl, _, _, _, e, .cons r t => by
    subst e
    exact .cons rfl r (rpf_zip rfl t)
theorem rpf_app {T : Tb} {G : Hp} {μ : List Addr} : ∀ {fv gv : List (Str × V)} {fs gs : List (Nat × D)}, RpF T G μ fv fs → RpF T G μ gv gs → RpF T G μ (fv ++ gv) (fs ++ gs)
  | _, _, _, _, .nil, s => s
  | _, _, _, _, .cons h r t, s => .cons h r (rpf_app t s)
theorem rpf_rev {T : Tb} {G : Hp} {μ : List Addr} : ∀ {fv : List (Str × V)} {fs : List (Nat × D)}, RpF T G μ fv fs → RpF T G μ fv.reverse fs.reverse
  | _, _, .nil => .nil
  | _, _, .cons h r t => by
    rw [List.reverse_cons, List.reverse_cons]
    exact rpf_app (rpf_rev t) (.cons h r .nil)
/-- raise C(e, ..) -/
theorem es_rais {X : Cx} {T : Tb} {W : WX} {c : ClsI} {k : Nat} {fl : List Nat} {x : Str} {e : Expr} {es : List Expr} {fs : Env → Sto → R (List D)} {p p2 pos : Pos} (hK : T.K = X.K) (hc : X.calm = true) (hr : Room 2 X.A) (tk : Takes X W) (o : ClsOk X (T.cl k) c) (hx : x = c.nm) (hg : Gl X x) (hdb : notDbg x = true) (hn : (e :: es).all nst = true)
    (hfl : fl.map T.fn = c.fs) (hsz : c.fs.length ≤ 900) (hl : ∀ ρ st vs st', fs ρ st = .ok vs st' → vs.length = c.fs.length) (ha : PA X (e :: es) (tLi T (WE' W) fs)) :
    PS X (.Raise (some (.Call (.Name x p) (e :: es) [] p2)) none pos) (tSt T W fun ρ st => RS.of (fs ρ st) ρ fun vs st => .err k (fl.zip vs).reverse ρ st) := by
  subst hx
  obtain ⟨fI, fd, h1, h2, h3, h4⟩ := o.ini
  have hn' : nst e = true ∧ es.all nst = true := by
    rw [List.all_cons, Bool.and_eq_true] at hn
    exact hn
  refine ps_of (ps_raise hc tk (pmk_oex o.ox h1 h2 h4 hr h3 .nil passL hg o.mg ha (not_dbg hdb) (star_cons hn'.1) (star_plain _ _ _ hn'.2))) fun De σ H ⟨G, μ, ρ, st, hrr, er, q⟩ => ?_
  have q : Ps T W De G μ H (RS.of (fs ρ st) ρ fun vs st => .err k (fl.zip vs).reverse ρ st) := q
  cases hf : fs ρ st with
  | bad => rw [hf] at q; exact q.elim
  | err c' f' s' =>
    rw [hf] at q
    refine ⟨G, μ, ρ, st, hrr, er, ?_⟩
    rw [hf]
    exact fun G2 m2 H2 d fv e2 hr2 hd rf => q G2 m2 H2 σ d fv e2 hr2 (er.mono e2.1) hd rf
  | ok vd s1 =>
    have hlen := hl ρ st vd s1 hf
    rw [hf] at q
    refine ⟨G, μ, ρ, st, hrr, er, ?_⟩
    rw [hf]
    intro G1 m1 H1 vs e1 hr1 r1
    have lvs : vs.length = c.fs.length := by rw [r1.len]; exact hlen
    refine ⟨by omega, fun a ha0 => ?_⟩
    refine ⟨a, vs ++ [], rfl, by rw [List.append_nil]; exact lvs, upd_same, fun d H' hd hne k1 k2 k3 => ?_⟩
    have hd1 : H1 d = none := by rw [upd_ne hne] at hd; exact hd
    refine ⟨rfl, d, _, k1, k2, hd1, ?_⟩
    rw [List.append_nil]
    have eH : upd (del H' a) d (.xd (c.fs.zip vs).reverse) = upd H1 d (.xd (c.fs.zip vs).reverse) := by
      funext b
      by_cases hb : b = d
      · subst hb; rw [upd_same, upd_same]
      · rw [upd_ne hb, upd_ne hb]
        by_cases hb2 : b = a
        · subst hb2; rw [del_same, ha0]
        · rw [del_ne hb2, k3 b hb2 hb, upd_ne hb2]
    rw [eH]
    obtain ⟨j1, j2⟩ := hr1.known (o := .xd (c.fs.zip vs).reverse) hd1
    refine q _ _ _ σ d _ (e1.trans j2) j1 ((er.mono e1.1).mono j2.1) upd_same ?_
    refine rpf_rev ?_
    exact rpf_zip hfl (r1.mono j2.1)
end DI
set_option Elab.async false
set_option linter.all false
set_option maxRecDepth 100000
set_option maxHeartbeats 4000000
set_option autoImplicit false
namespace DI
open PySem PySem.Spec PyProof.Rows L2
/-! ### with a caught error at hand, without one -/
abbrev Tb.at_ (T : Tb) (z : Option (Addr × Nat × Addr)) : Tb := { T with xa := z }
section
variable {T : Tb} {G : Hp} {μ : List Addr} {z : Option (Addr × Nat × Addr)}
mutual
theorem rp_up (h0 : T.xa = none) : ∀ {v : V} {d : D}, Rp T G μ v d → Rp (T.at_ z) G μ v d
  | _, _, .non => .non
  | _, _, .bl b => .bl b
  | _, _, .int i => .int i
  | _, _, .str s h => .str s h
  | _, _, .tup h r k => .tup h (rpL_up h0 r) k
  | _, _, .lst h r => .lst h (rpL_up h0 r)
  | _, _, .ro h r => .ro h (rpL_up h0 r)
  | _, _, .loc h => .loc h
  | _, _, .exc h1 h2 r => by rw [h0] at h1; cases h1
theorem rpL_up (h0 : T.xa = none) : ∀ {vs : List V} {ds : List D}, RpL T G μ vs ds → RpL (T.at_ z) G μ vs ds
  | _, _, .nil => .nil
  | _, _, .cons r t => .cons (rp_up h0 r) (rpL_up h0 t)
end
theorem rpF_up (h0 : T.xa = none) : ∀ {vs : List (Str × V)} {ds : List (Nat × D)}, RpF T G μ vs ds → RpF (T.at_ z) G μ vs ds
  | _, _, .nil => .nil
  | _, _, .cons h r t => .cons h (rp_up h0 r) (rpF_up h0 t)
mutual
theorem rp_dn : ∀ {v : V} {d : D}, Rp (T.at_ z) G μ v d → D.noX d = true → Rp T G μ v d
  | _, _, .non, _ => .non
  | _, _, .bl b, _ => .bl b
  | _, _, .int i, _ => .int i
  | _, _, .str s h, _ => .str s h
  | _, _, .tup h r k, e => .tup h (rpL_dn r e) k
  | _, _, .lst h r, e => .lst h (rpL_dn r e)
  | _, _, .ro h r, e => .ro h (rpL_dn r e)
  | _, _, .loc h, _ => .loc h
  | _, _, .exc h1 h2 r, e => by cases e
theorem rpL_dn : ∀ {vs : List V} {ds : List D}, RpL (T.at_ z) G μ vs ds → D.noXL ds = true → RpL T G μ vs ds
  | _, _, .nil, _ => .nil
  | _, _, .cons r t, e => by
    simp only [D.noXL, Bool.and_eq_true] at e
    exact .cons (rp_dn r e.1) (rpL_dn t e.2)
end
mutual
theorem rp_noX (h0 : T.xa = none) : ∀ {v : V} {d : D}, Rp T G μ v d → D.noX d = true
  | _, _, .non => rfl
  | _, _, .bl b => rfl
  | _, _, .int i => rfl
  | _, _, .str s h => rfl
  | _, _, .tup h r _ => rpL_noX h0 r
  | _, _, .lst h r => rpL_noX h0 r
  | _, _, .ro h r => rpL_noX h0 r
  | _, _, .loc h => rfl
  | _, _, .exc h1 h2 r => by rw [h0] at h1; cases h1
theorem rpL_noX (h0 : T.xa = none) : ∀ {vs : List V} {ds : List D}, RpL T G μ vs ds → D.noXL ds = true
  | _, _, .nil => rfl
  | _, _, .cons r t => by simp only [D.noXL, rp_noX h0 r, rpL_noX h0 t]; rfl
end
theorem rpK_up {kv : List (Key × V)} {kvs : List (D × D)} (h0 : T.xa = none) (r : RpK T G μ kv kvs) : RpK (T.at_ z) G μ kv kvs := by
  unfold RpK at *
  induction r with
  | nil => exact .nil
  | cons q t ih => exact .cons ⟨rp_up h0 q.1, rp_up h0 q.2⟩ ih
theorem rpK_dn {kv : List (Key × V)} {kvs : List (D × D)} (r : RpK (T.at_ z) G μ kv kvs) (h : (kvs.all fun p => p.1.noX && p.2.noX) = true) : RpK T G μ kv kvs := by
  unfold RpK at *
  induction r with
  | nil => exact .nil
  | cons q t ih =>
    rw [List.all_cons, Bool.and_eq_true, Bool.and_eq_true] at h
    exact .cons ⟨rp_dn q.1 h.1.1, rp_dn q.2 h.1.2⟩ (ih h.2)
theorem rpK_noX {kv : List (Key × V)} {kvs : List (D × D)} (h0 : T.xa = none) (r : RpK T G μ kv kvs) : (kvs.all fun p => p.1.noX && p.2.noX) = true := by
  unfold RpK at *
  induction r with
  | nil => rfl
  | cons q t ih => rw [List.all_cons, rp_noX h0 q.1, rp_noX h0 q.2, ih]; rfl
theorem obeq_dct' {o : Ob} {kvs : List (D × D)} (h : Ob.beq o (.dct kvs) = true) : o = .dct kvs := by
  cases o with
  | lst xs => cases h
  | dct l => simp only [Ob.beq] at h; rw [kvEq_eq _ _ h]
theorem Hr.up {st : Sto} {H : Hp} (h0 : T.xa = none) (h : Hr T G μ st H) : Hr (T.at_ z) G μ st H := ⟨h.sub, h.len, fun i a q => by
  obtain ⟨h1, ob, h2, h3⟩ := h.obj i a q
  refine ⟨h1, ob, h2, ?_⟩
  cases h3 with
  | lst h4 r => exact .lst h4 (rpL_up h0 r)
  | dct h4 r => exact .dct h4 (rpK_up h0 r), h.nd⟩
theorem Er.up {ρ : Env} {σ : L2.St} (h0 : T.xa = none) (h : Er T G μ ρ σ) : Er (T.at_ z) G μ ρ σ := ⟨h.len, fun i d q => by
  obtain ⟨v, h1, h2⟩ := h.at_ i d q
  exact ⟨v, h1, rp_up h0 h2⟩⟩
theorem Er.dn {ρ : Env} {σ : L2.St} (h : Er (T.at_ z) G μ ρ σ) (e : cleanE ρ = true) : Er T G μ ρ σ := ⟨h.len, fun i d q => by
  obtain ⟨v, h1, h2⟩ := h.at_ i d q
  have := List.all_eq_true.mp e (some d) (List.mem_of_getElem? q)
  exact ⟨v, h1, rp_dn h2 this⟩⟩
theorem clean_at : ∀ {st0 st : Sto}, cleanS st0 st = true → ∀ (i : Nat) (u : Ob), st[i]? = some u → u.noX = true ∨ ∃ o, st0[i]? = some o ∧ Ob.beq o u = true
  | o :: st0, u :: st, h, i, w, e => by
    simp only [cleanS, Bool.and_eq_true, Bool.or_eq_true] at h
    cases i with
    | zero =>
      simp at e
      subst e
      rcases h.1 with k | k
      · exact .inr ⟨o, rfl, k⟩
      · exact .inl k
    | succ i =>
      rcases clean_at h.2 i w (by simpa using e) with k | ⟨o', k1, k2⟩
      · exact .inl k
      · exact .inr ⟨o', by simpa using k1, k2⟩
  | [], st, h, i, w, e => .inl (List.all_eq_true.mp h w (List.mem_of_getElem? e))
  | o :: st0, [], h, i, w, e => by simp at e
theorem obeq_lst' {o : Ob} {ds : List D} (h : Ob.beq o (.lst ds) = true) : o = .lst ds := by
  cases o with
  | lst xs => simp only [Ob.beq] at h; rw [D.beqL_eq _ _ h]
  | dct _ => cases h
theorem Hr.dn {G0 : Hp} {μ0 : List Addr} {st0 st : Sto} {H0 H : Hp} (h0 : T.xa = none) (hr0 : Hr T G0 μ0 st0 H0) (h : Hr (T.at_ z) G μ st H) (e : cleanS st0 st = true) : Hr T G μ st H := ⟨h.sub, h.len, fun i a q => by
  obtain ⟨h1, ob, h2, h3⟩ := h.obj i a q
  refine ⟨h1, ob, h2, ?_⟩
  cases h3 with
  | @lst vs ds h4 r =>
    refine .lst h4 (rpL_dn r ?_)
    rcases clean_at e i _ h2 with k | ⟨o, k1, k2⟩
    · exact k
    · have k3 := obeq_lst' k2
      subst k3
      have hi : i < μ0.length := by rw [hr0.len]; exact (List.getElem?_eq_some_iff.mp k1).1
      obtain ⟨_, o2, q2, q3⟩ := hr0.obj i _ (List.getElem?_eq_getElem hi)
      rw [k1] at q2
      cases q2
      cases q3 with
      | lst _ r0 => exact rpL_noX h0 r0
  | @dct kv kvs h4 r =>
    refine .dct h4 (rpK_dn r ?_)
    rcases clean_at e i _ h2 with k | ⟨o, k1, k2⟩
    · exact k
    · have k3 := obeq_dct' k2
      subst k3
      have hi : i < μ0.length := by rw [hr0.len]; exact (List.getElem?_eq_some_iff.mp k1).1
      obtain ⟨_, o2, q2, q3⟩ := hr0.obj i _ (List.getElem?_eq_getElem hi)
      rw [k1] at q2
      cases q2
      cases q3 with
      | dct _ r0 => exact rpK_noX h0 r0, h.nd⟩
end
/-- what a try's suite leaves behind, told of the store ahead of it -/
theorem catch_ok {T : Tb} {W : WX} {De : Ends} {G0 H0 : Hp} {μ0 : List Addr} {st0 : Sto} {i : Nat} {z : Option (Addr × Nat × Addr)} {r : RS} (h0 : T.xa = none) (hr0 : Hr T G0 μ0 st0 H0) (p : Ps T W De G0 μ0 H0 (catchD i st0 r)) :
    Ps (T.at_ z) (fun _ _ _ _ => False) { nx := fun σ' H' => De.nx (σ'.set i none) H', rt := De.rt, bk := fun σ' H' => De.bk (σ'.set i none) H', ct := fun σ' H' => De.ct (σ'.set i none) H' } G0 μ0 H0 r := by
  cases r with
  | bad => exact p
  | err c fs ρ st => exact False.elim p
  | ok fl ρ st =>
    have key : ∀ (fl : Fl), (∀ d, fl ≠ .rt d) → Ps T W De G0 μ0 H0 (if cleanE (ρ.set i none) && cleanS st0 st then .ok fl (ρ.set i none) st else .bad) → ∀ (G' : Hp) (μ' : List Addr) (H' : Hp) (σ' : L2.St), Gx G0 μ0 H0 G' μ' H' → Hr (T.at_ z) G' μ' st H' → Er (T.at_ z) G' μ' ρ σ' → (match fl with
        | .nx => De.nx (σ'.set i none) H'
        | .bk => De.bk (σ'.set i none) H'
        | .ct => De.ct (σ'.set i none) H'
        | .rt _ => True) := by
      intro fl hfl p G' μ' H' σ' e hr er
      split at p
      · rename_i hc
        rw [Bool.and_eq_true] at hc
        have q := p G' μ' H' (σ'.set i none) e (Hr.dn h0 hr0 hr hc.2) ((er.unset i).dn hc.1)
        cases fl with
        | rt d => exact absurd rfl (hfl d)
        | _ => exact q
      · exact p.elim
    cases fl with
    | nx => exact key .nx (fun d q => by cases q) p
    | bk => exact key .bk (fun d q => by cases q) p
    | ct => exact key .ct (fun d q => by cases q) p
    | rt d =>
      have p : Ps T W De G0 μ0 H0 (if d.noX && cleanS st0 st then .ok (.rt d) (ρ.map fun _ => none) st else .bad) := p
      intro G' μ' H' σ' e hr er v rv
      split at p
      · rename_i hc
        rw [Bool.and_eq_true] at hc
        exact p G' μ' H' σ' e (Hr.dn h0 hr0 hr hc.2) ⟨by rw [List.length_map]; exact er.len, fun j x q => by
          rw [List.getElem?_map] at q
          cases hj : ρ[j]? <;> rw [hj] at q <;> cases q⟩ v (rp_dn rv hc.1)
      · exact p.elim
/-- what a suite's context tells of the error at hand -/
def SuOk (X : Cx) (T : Tb) (n : Nat) (a : Addr) (c : Nat) (d : Addr) : Prop := ∃ (X0 : Cx) (oe : Obj) (pn : List (Addr × Obj)), X = X0.suite a ((a, oe) :: pn) ∧ Zc (.ref (T.cl c)) (some d) oe ∧ (∃ vs, oe.data = .fields vs) ∧ c < n
theorem rpf_look {T : Tb} {G : Hp} {μ : List Addr} (inj : ∀ i j, T.fn i = T.fn j → i = j) {f : Nat} : ∀ {fv : List (Str × V)} {fs : List (Nat × D)} {d : D}, RpF T G μ fv fs → fs.lookup f = some d → ∃ v, fv.lookup (T.fn f) = some v ∧ Rp T G μ v d
  | _, _, _, .nil, e => by cases e
  | _, _, _, .cons (i := i) h r t, e => by
    subst h
    rw [List.lookup_cons] at e ⊢
    by_cases q : f = i
    · subst q
      simp at e
      subst e
      exact ⟨_, by simp, r⟩
    · have q1 : (f == i) = false := by simpa using q
      have q2 : (T.fn f == T.fn i) = false := by
        have : T.fn f ≠ T.fn i := fun z => q (inj _ _ z)
        simpa using this
      rw [q1] at e
      rw [q2]
      exact rpf_look inj t e
/-- e.f of the error at hand -/
theorem ex_fld {X : Cx} {T : Tb} {W : L2.St → XK} {n i f : Nat} {x : Str} {p pos : Pos} (hsu : ∀ a c d, T.xa = some (a, c, d) → SuOk X T n a c d) (hK : T.K = X.K) (hxf : ∀ c, c < n → XfC T.K (T.cl c) ∧ PySem.W.findIn T.K (.ref (T.cl c)) (T.fn f) = some none) (inj : ∀ i j, T.fn i = T.fn j → i = j)
    (hN : X.N[i]? = some x) (hv : Vis X.env.scope x) (hd : notDbg x = true) (hcd : (x == ("__classdict__" : Str)) = false) : PE X (.Attribute (.Name x p) (T.fn f) pos) (tEx T W fun ρ st => match ρ[i]? with
      | some (some (.exc _ fs)) => R.of (fs.lookup f) st
      | _ => .bad) := by
  refine ⟨fun pins s σ H Q I h => ?_⟩
  obtain ⟨G, μ, ρ, st, hr, er, q⟩ := h
  dsimp only at q
  split at q
  · rename_i c fs hρ
    obtain ⟨v, hσ, rv⟩ := er.at_ i _ hρ
    obtain ⟨d, hl, q⟩ := q.of
    cases rv with
    | @exc a _ _ dd fv h1 h2 h3 =>
      obtain ⟨X0, oe, pn, rfl, hz, hf, hc⟩ := hsu _ _ _ h1
      obtain ⟨t1, t2⟩ := hxf c hc
      obtain ⟨w, hw, rw'⟩ := rpf_look inj h3 hl
      rw [hK] at t1 t2
      have base : PE (X0.suite a ((a, oe) :: pn)) (.Name x p) (tVar i) := pe_var hN hv (not_dbg hd) hcd
      exact (pe_xf (X := X0) (pos := pos) (n := T.fn f) (cls := .ref (T.cl c)) (d := some dd) t1 t2 hz hf base (att_base rfl)).run pins s σ H Q I ⟨.ref a, hσ, rfl, rfl, dd, fv, w, rfl, hr.sub _ _ h2, hw, q.here hr rw'⟩
  · exact q.elim
end DI
set_option Elab.async false
set_option linter.all false
set_option maxRecDepth 100000
set_option maxHeartbeats 1000000
set_option autoImplicit false
/-! isinstance of an error that has fields (the library's way, HandS.ExcIs, is for one without a dict) -/
namespace DIX
open PySem PySem.Spec PySem.W PySem.Calls PyProof.Rows
section
variable {prg : Program} {wd : World} {Ar : Around} {Er : Value → Shared → Prop} {sh : Shared} {K : Frag} {ad cl : Addr} {oo : Obj} {own : Option Obj}
theorem obj_data {C : Addr} {nme : Str} {at_ gt : Value} (h1 : (clsIn K C).isSome = true) (h2 : findIn K (.ref C) nme = some (some at_)) (h3 : specialIn K at_ "__get__" = some (some gt)) (h4 : takesIn K at_ = some true) : findObj K C own nme = some (.bind gt at_) := by
  obtain ⟨cd, h1⟩ := Option.isSome_iff_exists.mp h1
  simp only [findObj, h1, Option.bind_some, h2, h3, h4]
theorem class_of_exc (C : L2.ExcC K cl) {Q : Option Value → Shared → Prop} (X : K.In sh.heap) (I : InstAt sh.heap ad oo cl own) (hq : Q (some (.ref cl)) { sh with toks := sh.toks + 1 }) : wpAny (model prg wd) Ar (getAttr? (.ref ad) "__class__") Q Er sh := by
  have is : (clsIn K cl).isSome = true := by
    obtain ⟨cd, hc, _⟩ := any_some C.hd
    rw [hc]
    rfl
  have fnd : findObj K cl own "__class__" = some (.bind (.builtin "getset_descriptor.__get__") (.builtin "object.__class__")) := obj_data is C.ha C.hn C.ht
  obtain ⟨hh, gg, dd, tt, oz⟩ := sh
  have lT := I.type (M := model prg wd)
  have lG := looks_findIn (M := model prg wd) X C.hg
  have lA := looks_findIn (M := model prg wd) X C.hk
  have lF := looks_find (M := model prg wd) X I fnd
  have lS : Looks (model prg wd) hh (isInstance (.ref ad) (.type "BaseException")) true := lT.andThen (looks_subIn X C.hs)
  have b0 : (false && onTheHeap (Value.builtin "BaseException.__getattribute__")) = false := rfl
  have b2 : (Value.builtin "BaseException.__getattribute__" == Value.builtin "object.__getattribute__") = false := by decide +kernel
  have b1 : (onTheHeap (Value.ref cl) && Value.builtin "BaseException.__getattribute__" == Value.builtin "object.__getattribute__") = false := by rw [b2] <;> rfl
  unfold getAttr? getAttrBy? getAttrBy
  refine wpAny_bind (wpAny_mkText (wpAny_bind (wpAny_attempt (wpAny_holding (wpAny_bind (lT.at (wpAny_bind (lG.at ?_))))))))
  show wpAny _ _ (if (onTheHeap (Value.ref cl) && Value.builtin "BaseException.__getattribute__" == Value.builtin "object.__getattribute__") = true then _ else _) _ _ _
  rw [b1, if_neg Bool.false_ne_true]
  unfold getAttrByItsOwn hookBefore
  refine wpAny_bind ?_
  rw [if_pos (show onTheHeap (Value.ref cl) = true from rfl)]
  refine lA.at (wpAny_bind (wpAny_attempt (wpAny_holding ?_)))
  unfold callGetattribute
  rw [b0, if_neg Bool.false_ne_true]
  unfold boundAndCalled
  rw [PySem.F.excAttr_ValueError.ga.bind (.ref ad)]
  refine wpAny_bind (wpAny_pure ?_)
  show wpAny _ _ (call (.builtin "BaseException.__getattribute__") [.ref ad, .str "__class__" tt]) _ _ _
  refine wpAny_call (codeAny_call_builtin PySem.F.excAttr_ValueError.ga.plain PySem.F.entry_bexc_ga ?_)
  refine @check_slot (model prg wd) _ _ ⟨hh, gg, dd, tt + 1, oz⟩ "BaseException.__getattribute__" "BaseException" "__getattribute__" (.ref ad) [.str "__class__" tt] [] _ (by decide +kernel) (by decide +kernel) lS (PySem.F.args_bexc_ga (.ref ad) (.str "__class__" tt)) ?_
  unfold Builtin.«object.__getattribute__»
  refine wpAny_bind (wpAny_of_eq (a := ((Value.ref ad : Value), [Value.str "__class__" tt])) (by first | rfl | (simp only [slotArgs] <;> rfl)) ?_)
  refine wpAny_bind (wpAny_pure (wpAny_bind (lT.at (wpAny_bind (lF.at ?_)))))
  show wpAny _ _ (holding [Value.builtin "object.__class__"] (call (.builtin "getset_descriptor.__get__") [.builtin "object.__class__", .ref ad, .ref cl]) >>= ret) _ _ _
  refine wpAny_bind (wpAny_holding (wpAny_call (class_get (s := ⟨hh, gg, dd, tt + 1, oz⟩) (ox := oo) (od := own) X I C.hm ?_)))
  refine wpAny_pure ?_
  show wpAny _ _ (handedOut (.ref cl)) _ _ _
  rw [handedOut_of (v := .ref cl) rfl]
  first
    | exact wpAny_pure (wpAny_pure hq)
    | exact wpAny_pure hq
    | exact wpAny_pure (wpAny_bind (wpAny_pure (wpAny_pure hq)))
end
end DIX
set_option Elab.async false
set_option linter.all false
set_option maxRecDepth 100000
set_option maxHeartbeats 1000000
set_option autoImplicit false
namespace DIX
open PySem PySem.Spec PySem.W PySem.Calls PyProof.Rows
theorem kit_exc {K : Frag} {x D : Addr} {ox : Obj} {own : Option Obj} (C : L2.ExcC K D) : KitX K (.ref x) (.ref D) (fun h => InstAt h x ox D own) where
  ty := fun _ _ _ I => I.type
  it := fun _ _ kin _ => by
    obtain ⟨cd, hcd, _⟩ := any_some C.hd
    unfold clsIn at hcd
    split at hcd
    · rename_i lk
      intro _ _ _ _ kp q
      unfold isType loadHead
      exact wpAny_bind (wpAny_loadPart (kp _ _ (kin _ _ lk)) (wpAny_pure q))
    · cases hcd
  ne := (handS_kitx_exc (x := x) (ox := ox) C.hg C.hk C.hs C.hd C.ha C.hn C.ht C.hm).ne
  ca := fun kin I _ => class_of_exc C kin I ‹_›
end DIX
namespace DI
open PySem PySem.Spec PyProof.Rows L2
/-- isinstance(e, c), e the error that the suite holds, its dict at d -/
def rIsX (K : PySem.W.Frag) (D a d : Addr) : List V → Hp → VK → Prop := fun xs H Q => ∃ (c : V) (cv : Value) (b : Bool) (fs : List (Str × V)), xs = [.ref a, c] ∧ (∀ u, RelV c u → u = cv) ∧ PySem.W.kitOne K (.ref D) cv = some b ∧ H d = some (.xd fs) ∧ Q (.bl b) H
theorem call_isX {X : Cx} {a D d : Addr} {oe : Obj} {pn : List (Addr × Obj)} (C : ExcC X.K D) (hz : Zc (.ref D) (some d) oe) (hf : ∃ vs, oe.data = .fields vs) : CallR (X.suite a ((a, oe) :: pn)) (.builtin "isinstance") (rIsX X.K D a d) := by
  intro pins s σ H xs us Q I r h
  obtain ⟨c, cv, b, fs, rfl, hcv, e, hd, q⟩ := h
  cases r with
  | cons r1 rr =>
    cases rr with
    | cons r2 rr =>
      cases rr
      cases r1
      have := hcv _ r2
      subst this
      obtain ⟨hget, _⟩ := I.pin (a, oe) (List.mem_append.mpr (.inl List.mem_cons_self))
      obtain ⟨vs, hv⟩ := hf
      have hx : ObjOk X.prog X.w H s.heap d (.xd fs) := I.hok d _ hd
      obtain ⟨mA, hns, _⟩ := hx
      obtain ⟨od, ho, _⟩ := lookIn_ns hns
      have J : PySem.W.InstAt s.heap a oe D (some od) := ⟨hget, hz.1, by unfold PySem.W.notCls; rw [hv] <;> rfl, by rw [hz.2]; exact ho⟩
      exact PySem.W.kia_one (DIX.kit_exc C) I.kIn J e (fun z => nomatch z) fun tk => ⟨.bl b, H, I.kept (t' := tk) fun _ _ z => z, rfl, q⟩
/-- .. of a tuple of classes, laid for this call -/
def rIsXT (K : PySem.W.Frag) (D a d : Addr) : List V → Hp → VK → Prop := fun xs H Q => ∃ (tp : Addr) (cs : List V) (ws : List Value) (b : Bool) (fs : List (Str × V)), xs = [.ref a, .ref tp] ∧ H tp = some (.tup cs) ∧ (∀ us, Vals cs us → us = ws) ∧ PySem.W.kitAny K (.ref D) ws = some b ∧ H d = some (.xd fs) ∧ Q (.bl b) H
theorem call_isXT {X : Cx} {a D d : Addr} {oe : Obj} {pn : List (Addr × Obj)} (C : ExcC X.K D) (hz : Zc (.ref D) (some d) oe) (hf : ∃ vs, oe.data = .fields vs) : CallR (X.suite a ((a, oe) :: pn)) (.builtin "isinstance") (rIsXT X.K D a d) := by
  intro pins s σ H xs us Q I r h
  obtain ⟨tp, cs, ws, b, fs, rfl, hT, hcv, e, hd, q⟩ := h
  cases r with
  | cons r1 rr =>
    cases rr with
    | cons r2 rr =>
      cases rr
      cases r1
      cases r2
      obtain ⟨hget, _⟩ := I.pin (a, oe) (List.mem_append.mpr (.inl List.mem_cons_self))
      obtain ⟨vs, hv⟩ := hf
      have hx : ObjOk X.prog X.w H s.heap d (.xd fs) := I.hok d _ hd
      obtain ⟨mA, hns, _⟩ := hx
      obtain ⟨od, ho, _⟩ := lookIn_ns hns
      have J : PySem.W.InstAt s.heap a oe D (some od) := ⟨hget, hz.1, by unfold PySem.W.notCls; rw [hv] <;> rfl, by rw [hz.2]; exact ho⟩
      obtain ⟨_, its, rv, o, h1, h2, n, h3⟩ := (show ObjOk X.prog X.w H s.heap tp (.tup cs) from I.hok tp _ hT)
      have e3 := hcv _ rv
      subst e3
      obtain ⟨oc, odd, dt, sl⟩ := o
      simp only at h2 h3
      subst h2 h3
      exact PySem.W.kia_tup (DIX.kit_exc C) I.kIn J h1 e (fun z => nomatch z) fun tk => ⟨.bl b, H, I.kept (t' := tk) fun _ _ z => z, rfl, q⟩
/-- a class as a handler or isinstance names it -/
def cvV : Value → V
  | .ref a => .ref a
  | .type n => .ty n
  | _ => .non
def cvOk : Value → Bool
  | .ref _ => true
  | .type _ => true
  | _ => false
theorem cv_rel {v : Value} (h : cvOk v = true) : RelV (cvV v) v ∧ ∀ u, RelV (cvV v) u → u = v := by
  cases v <;> first | (cases h; done) | exact ⟨rfl, fun u r => r⟩
theorem kit_anc {K : PySem.W.Frag} {D : Value} {anc : Nat → Nat → Option Bool} {c : Nat} {hv : Nat → Value} (h : ∀ k b, anc c k = some b → PySem.W.kitOne K D (hv k) = some b) : ∀ {ks : List Nat} {b : Bool}, ancAny anc c ks = some b → PySem.W.kitAny K D (ks.map hv) = some b
  | [], b, e => by cases e; rfl
  | k :: ks, b, e => by
    unfold ancAny at e
    cases ha : anc c k with
    | none => rw [ha] at e; cases e
    | some bb =>
      rw [ha] at e
      have := h k bb ha
      rw [List.map_cons]
      unfold PySem.W.kitAny
      rw [this]
      cases bb with
      | true => cases e; rfl
      | false => exact kit_anc h e
theorem cv_all {hv : Nat → Value} : ∀ {ks : List Nat} {us : List Value}, (∀ k ∈ ks, cvOk (hv k) = true) → Vals (ks.map fun k => cvV (hv k)) us → us = ks.map hv
  | [], us, _, r => by cases r; rfl
  | k :: ks, us, h, r => by
    cases r with
    | cons r1 r2 => rw [(cv_rel (h k (List.mem_cons_self ..))).2 _ r1, cv_all (fun k hk => h k (List.mem_cons_of_mem _ hk)) r2]; rfl
/-- the classes of a tuple, evaluated -/
theorem pa_cls {X : Cx} {hv : Nat → Value} : ∀ {ks : List Nat} {cs : List Expr}, cs.length = ks.length → (∀ p ∈ cs.zip ks, nst p.1 = true ∧ PE X p.1 (tC (cvV (hv p.2)))) → cs.all nst = true ∧ PA X cs (fun _ H Q => Q (ks.map fun k => cvV (hv k)) H)
  | [], cs, hl, _ => by
    cases cs with
    | nil => exact ⟨rfl, pa_nil⟩
    | cons _ _ => cases hl
  | k :: ks, cs, hl, h => by
    cases cs with
    | nil => cases hl
    | cons c cs =>
      obtain ⟨n1, p1⟩ := h (c, k) (List.mem_cons_self ..)
      obtain ⟨n2, p2⟩ := pa_cls (hv := hv) (by simpa using hl) fun p hp => h p (List.mem_cons_of_mem _ hp)
      exact ⟨by rw [List.all_cons, n1, n2]; rfl, pa_cons p1 p2 (star_cons n1)⟩
/-- isinstance(e, C), isinstance(e, (C, ..)) of the error at hand -/
theorem ex_isx {X : Cx} {T : Tb} {W : L2.St → XK} {anc : Nat → Nat → Option Bool} {n i : Nat} {ks : List Nat} {x : Str} {q : Expr} {p p1 pos : Pos} (hsu : ∀ a c d, T.xa = some (a, c, d) → SuOk X T n a c d) (hK : T.K = X.K) (hex : ∀ c, c < n → ExcC T.K (T.cl c)) (hkit : ∀ c k b, anc c k = some b → PySem.W.kitOne T.K (.ref (T.cl c)) (T.hv k) = some b) (hcv : ∀ k ∈ ks, cvOk (T.hv k) = true)
    (hg : Gl X "isinstance") (hm : X.mg "isinstance" = none) (hv : PE X (.Name x p) (tVar i)) (hq : (∃ k, ks = [k] ∧ nst q = true ∧ PE X q (tC (cvV (T.hv k)))) ∨ ∃ cs kk p2, q = .Tuple cs kk p2 ∧ cs.length = ks.length ∧ (∀ r ∈ cs.zip ks, nst r.1 = true ∧ PE X r.1 (tC (cvV (T.hv r.2)))) ∧ ks.length ≤ 1000) :
    PE X (.Call (.Name "isinstance" p1) [.Name x p, q] [] pos) (tEx T W fun ρ st => match ρ[i]? with
      | some (some (.exc c _)) => R.of ((ancAny anc c ks).map .bl) st
      | _ => .bad) := by
  cases hxa : T.xa with
  | none =>
    refine ⟨fun pins s σ H Q I ⟨G, μ, ρ, st, hr, er, z⟩ => ?_⟩
    dsimp only at z
    split at z
    · rename_i c fs hρ
      obtain ⟨v, _, rv⟩ := er.at_ i _ hρ
      cases rv with
      | exc h1 _ _ => rw [hxa] at h1; cases h1
    · exact z.elim
  | some xa =>
    obtain ⟨a, c, d⟩ := xa
    obtain ⟨X0, oe, pn, rfl, hz, hf, hc⟩ := hsu a c d hxa
    have C := hex c hc
    rw [hK] at C
    rcases hq with ⟨k, rfl, hn, hp⟩ | ⟨cs, kk, p2, rfl, hl, hp, hsz⟩
    · refine pe_of (pe_callB (call_isX (X := X0) C hz hf) hg hm (by decide +kernel) (pa_cons hv (pa_cons hp pa_nil (star_cons hn)) rfl) (by decide) (by decide) rfl (star_plain _ _ _ (by simp [hn]))) fun σ H Q ⟨G, μ, ρ, st, hr, er, z⟩ => ?_
      dsimp only at z
      split at z
      · rename_i c' fs hρ
        obtain ⟨v, hσ, rv⟩ := er.at_ i _ hρ
        obtain ⟨dd, hd, z⟩ := z.of
        cases rv with
        | @exc a' _ _ d' fv h1 h2 h3 =>
          rw [hxa] at h1
          cases h1
          rw [Option.map_eq_some_iff] at hd
          obtain ⟨b, hb, rfl⟩ := hd
          have hb1 : anc c k = some b := by
            unfold ancAny at hb
            cases ha : anc c k with
            | none => rw [ha] at hb; cases hb
            | some bb => rw [ha] at hb; cases bb <;> (cases hb; rfl)
          refine ⟨.ref a, hσ, cvV (T.hv k), T.hv k, b, fv, rfl, (cv_rel (hcv k (by simp))).2, by rw [← hK]; exact hkit c k b hb1, hr.sub _ _ h2, z.here hr (.bl _)⟩
      · exact z.elim
    · obtain ⟨hn, hpa⟩ := pa_cls (hv := T.hv) hl hp
      refine pe_of (pe_callB (call_isXT (X := X0) C hz hf) hg hm (by decide +kernel) (pa_cons hv (pa_cons (pe_tup hpa) pa_nil rfl) rfl) (by decide) (by decide) rfl (star_plain _ _ _ (by simp [nst]))) fun σ H Q ⟨G, μ, ρ, st, hr, er, z⟩ => ?_
      dsimp only at z
      split at z
      · rename_i c' fs hρ
        obtain ⟨v, hσ, rv⟩ := er.at_ i _ hρ
        obtain ⟨dd, hd, z⟩ := z.of
        cases rv with
        | @exc a' _ _ d' fv h1 h2 h3 =>
          rw [hxa] at h1
          cases h1
          rw [Option.map_eq_some_iff] at hd
          obtain ⟨b, hb, rfl⟩ := hd
          refine ⟨.ref a, hσ, ⟨by rw [List.length_map]; exact Nat.le_trans hsz (by decide), fun tp htp => ?_⟩⟩
          obtain ⟨k1, k2⟩ := hr.known (o := .tup (ks.map fun k => cvV (T.hv k))) htp
          exact ⟨tp, _, ks.map T.hv, b, fv, rfl, upd_same, fun us r => cv_all hcv r, by rw [← hK]; exact kit_anc (hkit c) hb, by rw [upd_ne (ne_of_none (hr.sub _ _ h2) htp)]; exact hr.sub _ _ h2, z _ _ _ _ k2 k1 (.bl _)⟩
      · exact z.elim
end DI
set_option Elab.async false
set_option linter.all false
set_option maxRecDepth 100000
set_option maxHeartbeats 4000000
set_option autoImplicit false
namespace DI
open PySem PySem.Spec PyProof.Rows L2
/-! ### a dict's display, its keys constants -/
def keyV : D → V
  | .int i => .int i
  | .str s => .str (txS s)
  | _ => .non
def keyK : D → Key
  | .int i => .inl i
  | .str s => .inr (txS s)
  | _ => .inl 0
theorem keyK_V {d : D} (h : isKey d = true) : kV (keyK d) = keyV d := by
  cases d <;> first | rfl | cases h
def keyOk : D → Bool
  | .int _ => true
  | .str s => PyData.strOk (txS s) && decide (s.length ≤ sizeLine)
  | _ => false
theorem keyOk_key {d : D} (h : keyOk d = true) : isKey d = true := by
  cases d <;> first | rfl | cases h
theorem rp_keyV {T : Tb} {G : Hp} {μ : List Addr} {d : D} (h : keyOk d = true) : Rp T G μ (keyV d) d := by
  cases d with
  | int i => exact .int i
  | str s =>
    simp only [keyOk, Bool.and_eq_true, decide_eq_true_eq] at h
    exact .str s h
  | _ => cases h
/-- what stood hidden comes to light, numbered -/
theorem Hr.show {T : Tb} {G H : Hp} {μ : List Addr} {st : Sto} {p : Addr} {o : HO} {ob : Ob} (h : Hr T G μ st H) (gp : G p = none) (np : ∀ i : Nat, μ[i]? ≠ some p) (r : ObR T G μ (upd H p o) p ob) : Hr T G (μ ++ [p]) (st ++ [ob]) (upd H p o) := by
  have gm : Gm G μ G (μ ++ [p]) := ⟨fun _ _ q => q, fun i a q => by rw [List.getElem?_append_left (List.getElem?_eq_some_iff.mp q).1]; exact q⟩
  have split : ∀ (i : Nat) (a : Addr), (μ ++ [p])[i]? = some a → μ[i]? = some a ∨ (i = μ.length ∧ a = p) := fun i a q => by
    by_cases hi : i < μ.length
    · rw [List.getElem?_append_left hi] at q; exact .inl q
    · rw [List.getElem?_append_right (by omega)] at q
      have h0 : i - μ.length = 0 := by
        have := (List.getElem?_eq_some_iff.mp q).1
        simp at this; omega
      rw [h0] at q
      simp at q
      exact .inr ⟨by omega, q.symm⟩
  refine ⟨fun a u q => ?_, by simp [h.len], fun i a q => ?_, fun i j a q1 q2 => ?_⟩
  · rw [upd_ne (ne_of_none q gp)]; exact h.sub a u q
  · rcases split i a q with q | ⟨rfl, rfl⟩
    · obtain ⟨h1, ob2, h2, h3⟩ := h.obj i a q
      refine ⟨h1, ob2, by rw [List.getElem?_append_left (List.getElem?_eq_some_iff.mp h2).1]; exact h2, ?_⟩
      have ne : a ≠ p := fun z => np i (z ▸ q)
      exact (h3.here (upd_ne ne)).mono gm
    · exact ⟨gp, ob, by rw [h.len]; simp, r.mono gm⟩
  · rcases split i a q1 with z1 | ⟨e1, z1⟩ <;> rcases split j a q2 with z2 | ⟨e2, z2⟩
    · exact h.nd i j a z1 z2
    · exact absurd (z2 ▸ z1) (np i)
    · exact absurd (z1 ▸ z2) (np j)
    · omega
theorem foldK {T : Tb} {G : Hp} {μ : List Addr} : ∀ (ks : List D) (ws : List V) (vs : List D) {a : List (Key × V)} {b : List (D × D)}, ks.all keyOk = true → RpL T G μ ws vs → RpK T G μ a b → RpK T G μ (mergeK a ((ks.map keyK).zip ws)) ((ks.zip vs).foldl (fun acc p => putKD acc p.1 p.2) b)
  | [], _, _, _, _, _, _, r => by simpa [mergeK] using r
  | k :: ks, [], _, _, _, _, rl, r => by
    cases rl
    simpa [mergeK] using r
  | k :: ks, w :: ws, _, _, _, h, rl, r => by
    cases rl with
    | @cons _ _ d ds r1 r2 =>
      rw [List.all_cons, Bool.and_eq_true] at h
      have := rpk_put (k := keyK k) (x := k) (by rw [keyK_V (keyOk_key h.1)]; exact rp_keyV h.1) r1 r
      exact foldK ks ws ds h.2 r2 this
section
variable {X : Cx} {T : Tb} {C : Cal} {W : L2.St → XK} {pos : Pos}
theorem pairs_go {σ : L2.St} : ∀ (ks : List D) (es : List Ex) {H G : Hp} {μ : List Addr} {ρ : Env} {st : Sto} {Q : List (V × V) → Hp → Prop}, ks.length = es.length → Hr T G μ st H → Er T G μ ρ σ →
    Pr T (RpLs T) (W σ) G μ H (fun ws H' => Q ((ks.map keyV).zip ws) H') (evEs C es ρ st) → tPairs ((ks.zip es).map fun p => (tC (keyV p.1), tEx T W (evE C p.2))) σ H Q
  | [], [], H, G, μ, ρ, st, Q, _, hr, er, p => p.here hr .nil
  | k :: ks, e :: es, H, G, μ, ρ, st, Q, hl, hr, er, p => by
    show tC (keyV k) σ H fun x H1 => tEx T W (evE C e) σ H1 fun y H2 => tPairs _ σ H2 fun ps H3 => Q ((x, y) :: ps) H3
    refine tR.imp (tR.bind (Rel := RpD T) hr er p) fun y H1 ⟨G1, m1, s1, d, e1, hr1, r1, p1⟩ => ?_
    refine pairs_go ks es (by simpa using hl) hr1 (er.mono e1.1) ?_
    refine p1.bind.imp fun ws H2 ⟨G2, m2, s2, ds, e2, hr2, r2, p2⟩ => ?_
    exact p2.here hr2 (.cons (r1.mono e2.1) r2)
/-- the texts of the keys -/
def keyLit : D → Option Expr → Bool
  | .int i, some (.Constant (.int j) _ _) => i == j
  | .str s, some (.Constant (.str x) _ _) => txS s == x
  | _, _ => false
theorem key_pe {d : D} {e : Option Expr} (h : keyLit d e = true) : ∃ x, e = some x ∧ PE X x (tC (keyV d)) := by
  unfold keyLit at h
  split at h
  · have := beq_iff_eq.mp h
    subst this
    exact ⟨_, rfl, pe_int⟩
  · have := beq_iff_eq.mp h
    subst this
    exact ⟨_, rfl, pe_str⟩
  · cases h
theorem pps_go : ∀ (ks : List D) (xs : List Ex) (keys : List (Option Expr)) (values : List Expr), ks.length = keys.length → xs.length = values.length → ks.length = xs.length → (ks.zip keys).all (fun p => keyLit p.1 p.2) = true →
    (∀ (i : Nat) (x : Ex) (e : Expr), xs[i]? = some x → values[i]? = some e → PE X e (tEx T W (evE C x))) → PPs X pos keys values ((ks.zip xs).map fun p => (tC (keyV p.1), tEx T W (evE C p.2)))
  | [], xs, keys, values, h1, h2, h3, h4, h5 => by
    have e1 : keys = [] := List.eq_nil_of_length_eq_zero h1.symm
    have e2 : xs = [] := List.eq_nil_of_length_eq_zero h3.symm
    subst e1 e2
    have e3 : values = [] := List.eq_nil_of_length_eq_zero h2.symm
    subst e3
    exact pps_nil
  | k :: ks, x :: xs, key :: keys, v :: values, h1, h2, h3, h4, h5 => by
    rw [List.zip_cons_cons, List.all_cons, Bool.and_eq_true] at h4
    obtain ⟨kx, rfl, pk⟩ := key_pe (X := X) h4.1
    exact pps_cons pk (h5 0 x v rfl rfl) (pps_go ks xs keys values (by simpa using h1) (by simpa using h2) (by simpa using h3) h4.2 fun i y e hy he => h5 (i + 1) y e (by simpa using hy) (by simpa using he))
  | k :: ks, [], _, _, _, _, h3, _, _ => by cases h3
  | k :: ks, x :: xs, [], _, h1, _, _, _, _ => by cases h1
  | k :: ks, x :: xs, _ :: _, [], _, h2, _, _, _ => by cases h2
theorem ex_dct {ks : List D} {xs : List Ex} {keys : List (Option Expr)} {values : List Expr} (hk : ks.all keyOk = true) (h1 : ks.length = keys.length) (h2 : xs.length = values.length) (h3 : ks.length = xs.length) (h15 : ks.length ≤ 15) (h4 : (ks.zip keys).all (fun p => keyLit p.1 p.2) = true)
    (h5 : ∀ (i : Nat) (x : Ex) (e : Expr), xs[i]? = some x → values[i]? = some e → PE X e (tEx T W (evE C x))) : PE X (.Dict keys values pos) (tEx T W (evE C (.dct ks xs))) := by
  cases keys with
  | nil =>
    have e1 : ks = [] := List.eq_nil_of_length_eq_zero h1
    subst e1
    have e2 : xs = [] := List.eq_nil_of_length_eq_zero h3.symm
    subst e2
    have e3 : values = [] := List.eq_nil_of_length_eq_zero h2.symm
    subst e3
    refine pe_of pe_dnewK fun σ H Q ⟨G, μ, ρ, st, hr, er, p⟩ => ?_
    intro q hq
    obtain ⟨hr1, e1⟩ := hr.laidO (o := .dK []) (ob := .dct []) hq (.dct upd_same .nil)
    exact p G (μ ++ [q]) _ (.ref q) e1 hr1 (.loc (by rw [← hr.len]; simp))
  | cons key keys =>
    have hall : (key :: keys).all (·.isSome) = true := by
      rw [List.all_eq_true]
      intro o ho
      obtain ⟨i, hi⟩ := List.mem_iff_getElem?.mp ho
      have hlt : i < ks.length := by rw [h1]; exact (List.getElem?_eq_some_iff.mp hi).1
      have hz : (ks.zip (key :: keys))[i]? = some (ks[i], o) := by
        rw [List.getElem?_zip_eq_some]
        exact ⟨List.getElem?_eq_getElem hlt, hi⟩
      obtain ⟨x, rfl, _⟩ := key_pe (X := X) (List.all_eq_true.mp h4 _ (List.mem_of_getElem? hz))
      rfl
    refine pe_of (pe_disp (pps_go ks xs (key :: keys) values h1 h2 h3 h4 h5) hall (by rw [← h1, h3, h2]) (by simp) (by rw [← h1]; exact h15)) fun σ H Q ⟨G, μ, ρ, st, hr, er, p⟩ => ?_
    intro q hq
    have gq : G q = none := by
      cases z : G q with
      | none => rfl
      | some u => rw [hr.sub q u z] at hq; cases hq
    have nq : ∀ i : Nat, μ[i]? ≠ some q := fun i z => by
      obtain ⟨_, ob, _, h3⟩ := hr.obj i q z
      exact h3.ne hq rfl
    refine pairs_go ks xs h3 (hr.hid (o := .dK []) gq nq) er ?_
    have p : Pr T (RpD T) (W σ) G μ H Q ((evEs C xs ρ st).bind fun vs st => .ok (.loc st.length) (st ++ [.dct ((ks.zip vs).foldl (fun acc p => putKD acc p.1 p.2) [])])) := p
    have eH : Gx G μ H G μ (upd H q (.dK [])) := ⟨⟨fun _ _ z => z, fun _ _ z => z⟩, fun a u z _ => by rw [upd_ne (ne_of_none z hq)]; exact z, fun a u z => ⟨u, by rw [upd_ne (ne_of_none z hq)]; exact z⟩, fun _ _ z => .inl z, fun _ _ z => .inl z⟩
    cases hf : evEs C xs ρ st with
    | bad => rw [hf] at p; exact p.elim
    | err c fs s1 =>
      rw [hf] at p
      exact Pr.mono eH p
    | ok vs s1 =>
      rw [hf] at p
      intro G1 m1 H1 ws e1 hr1 rl
      have q1 : H1 q = some (.dK []) := e1.fr q _ upd_same nq
      have gq1 : G1 q = none := by
        cases z : G1 q with
        | none => rfl
        | some u =>
          rcases e1.ng q u z with z | z
          · rw [gq] at z; cases z
          · rw [upd_same] at z; cases z
      have nq1 : ∀ i : Nat, m1[i]? ≠ some q := fun i z => by
        rcases e1.nm i q z with z | z
        · exact nq i z
        · rw [upd_same] at z; cases z
      have lw : ws.length ≤ ws.length := Nat.le_refl _
      refine ⟨q1, (ks.map keyK).zip ws, ?_, ?_, ?_⟩
      · have : ∀ (ks : List D) (ws : List V), ks.all keyOk = true → (ks.map keyV).zip ws = ((ks.map keyK).zip ws).map fun kv => (kV kv.1, kv.2) := by
          intro ks
          induction ks with
          | nil => intro ws _; rfl
          | cons k ks ih =>
            intro ws h
            rw [List.all_cons, Bool.and_eq_true] at h
            cases ws with
            | nil => rfl
            | cons w ws =>
              simp only [List.map_cons, List.zip_cons_cons]
              rw [ih ws h.2, keyK_V (keyOk_key h.1)]
        exact this ks ws hk
      · rw [List.length_zip, List.length_map]
        omega
      · have hm := foldK ks ws vs hk rl (a := []) (b := []) .nil
        have hs := hr1.show (p := q) (o := .dK (mergeK [] ((ks.map keyK).zip ws))) gq1 nq1 (.dct upd_same hm)
        refine p G1 (m1 ++ [q]) _ (.ref q) ⟨⟨e1.g, fun i a z => ?_⟩, fun a u z n => ?_, fun a u z => ?_, fun a u z => ?_, fun i a z => ?_⟩ hs (.loc (by rw [← hr1.len]; simp))
        · have := e1.m i a z
          rw [List.getElem?_append_left (List.getElem?_eq_some_iff.mp this).1]
          exact this
        · have ne := ne_of_none z hq
          rw [upd_ne ne]
          exact e1.fr a u (by rw [upd_ne ne]; exact z) n
        · have ne := ne_of_none z hq
          rw [upd_ne ne]
          exact e1.kp a u (by rw [upd_ne ne]; exact z)
        · rcases e1.ng a u z with w | w
          · exact .inl w
          · by_cases ha : a = q
            · subst ha; exact .inr hq
            · rw [upd_ne ha] at w; exact .inr w
        · by_cases hi : i < m1.length
          · rw [List.getElem?_append_left hi] at z
            rcases e1.nm i a z with w | w
            · exact .inl w
            · by_cases ha : a = q
              · subst ha; exact .inr hq
              · rw [upd_ne ha] at w; exact .inr w
          · rw [List.getElem?_append_right (by omega)] at z
            have h0 : i - m1.length = 0 := by
              have := (List.getElem?_eq_some_iff.mp z).1
              simp at this; omega
            rw [h0] at z
            simp at z
            subst z
            exact .inr hq
end
end DI
set_option linter.all false
set_option maxRecDepth 100000
set_option maxHeartbeats 4000000
set_option autoImplicit false
namespace DI
open PySem PySem.Spec PyProof.Rows L2
/-! ### keywords bind -/
def kwPm (ps ks : List Str) (n0 : Nat) : List Nat := List.range n0 ++ (ps.drop n0).map fun p => n0 + ks.idxOf p
def kwOk (ps : List Str) (n0 : Nat) (ks : List Str) (pm : List Nat) : Bool :=
  decide (n0 + ks.length = ps.length) && nodupB ks && ks.all (fun k => (ps.drop n0).contains k) && (ps.drop n0).all (fun p => ks.contains p) && pm == kwPm ps ks n0
theorem permV_len {α : Type} {vs : List α} : ∀ {pm : List Nat}, (∀ j ∈ pm, j < vs.length) → (permV pm vs).length = pm.length
  | [], _ => rfl
  | j :: pm, h => by
    unfold permV
    rw [List.filterMap_cons, List.getElem?_eq_getElem (h j (List.mem_cons_self ..))]
    simp only [List.length_cons]
    have := permV_len (vs := vs) (pm := pm) fun i hi => h i (List.mem_cons_of_mem _ hi)
    unfold permV at this
    rw [this]
theorem permV_get {α : Type} {vs : List α} : ∀ {pm : List Nat}, (∀ j ∈ pm, j < vs.length) → ∀ (i j : Nat), pm[i]? = some j → (permV pm vs)[i]? = vs[j]?
  | [], _, i, j, h => by simp at h
  | k :: pm, hh, i, j, h => by
    unfold permV
    rw [List.filterMap_cons, List.getElem?_eq_getElem (hh k (List.mem_cons_self ..))]
    cases i with
    | zero =>
      simp at h
      subst h
      simp only [List.getElem?_cons_zero]
      rw [List.getElem?_eq_getElem (hh k (List.mem_cons_self ..))]
    | succ i =>
      simp only [List.getElem?_cons_succ]
      exact permV_get (vs := vs) (pm := pm) (fun i hi => hh i (List.mem_cons_of_mem _ hi)) i j (by simpa using h)
theorem look_app (p : Str) : ∀ (a b : List (Str × Value)), a.lookup p = none → (a ++ b).lookup p = b.lookup p
  | [], b, _ => rfl
  | (q, v) :: a, b, h => by
    rw [List.cons_append, List.lookup_cons]
    rw [List.lookup_cons] at h
    split at h
    · cases h
    · exact look_app p a b h
theorem look_in (p : Str) (u : Value) : ∀ (a b : List (Str × Value)), a.lookup p = some u → (a ++ b).lookup p = some u
  | [], b, h => by cases h
  | (q, v) :: a, b, h => by
    rw [List.cons_append, List.lookup_cons]
    rw [List.lookup_cons] at h
    split at h
    · exact h
    · exact look_in p u a b h
theorem look_no (p : Str) : ∀ (a : List Str) (us : List Value), p ∉ a → (a.zip us).lookup p = none
  | [], us, _ => by simp
  | q :: a, [], _ => by simp
  | q :: a, u :: us, h => by
    rw [List.zip_cons_cons, List.lookup_cons]
    have : (p == q) = false := by
      have : p ≠ q := fun e => h (e ▸ List.mem_cons_self ..)
      simpa using this
    rw [this]
    exact look_no p a us fun z => h (List.mem_cons_of_mem _ z)
theorem zip_look' : ∀ (ps : List Str) (us : List Value), ps.Nodup → us.length = ps.length → ∀ (i : Nat) (p : Str), ps[i]? = some p → ∃ u, us[i]? = some u ∧ (ps.zip us).lookup p = some u
  | [], us, _, _, i, p, h => by simp at h
  | q :: ps, [], _, h, _, _, _ => by cases h
  | q :: ps, u :: us, nd, hl, i, p, h => by
    obtain ⟨n1, n2⟩ := List.nodup_cons.mp nd
    cases i with
    | zero =>
      simp at h
      subst h
      exact ⟨u, rfl, by simp [List.zip_cons_cons, List.lookup_cons]⟩
    | succ i =>
      have h : ps[i]? = some p := by simpa using h
      obtain ⟨w, h1, h2⟩ := zip_look' ps us n2 (by simpa using hl) i p h
      refine ⟨w, by simpa using h1, ?_⟩
      have ne : (p == q) = false := by
        have : p ≠ q := fun e => n1 (e ▸ List.mem_of_getElem? h)
        simpa using this
      rw [List.zip_cons_cons, List.lookup_cons, ne]
      exact h2
theorem zip_fm' {f : Str → Option Value} : ∀ (ps : List Str) (us : List Value), us.length = ps.length → (∀ (i : Nat) (p : Str), ps[i]? = some p → ∃ u, us[i]? = some u ∧ f p = some u) → (ps.filterMap fun n => (f n).map (n, ·)) = ps.zip us
  | [], us, _, _ => by simp
  | q :: ps, [], h, _ => by cases h
  | q :: ps, u :: us, hl, k => by
    obtain ⟨w, h1, h2⟩ := k 0 q rfl
    simp at h1
    subst h1
    rw [List.filterMap_cons, h2]
    simp only [Option.map_some, List.zip_cons_cons]
    rw [zip_fm' ps us (by simpa using hl) fun i p hp => by
      obtain ⟨w, a, b⟩ := k (i + 1) p (by simpa using hp)
      exact ⟨w, by simpa using a, b⟩]
/-- the loop over the keywords -/
theorem kw_loop {f : Str × Value → List (Str × Value) × List (Str × Value) → Sem (ForInStep (List (Str × Value) × List (Str × Value)))} {ok : Str → Prop}
    (hf : ∀ (p : Str × Value) (s e : List (Str × Value)), ok p.1 → s.lookup p.1 = none → f p (s, e) = pure (.yield (s ++ [p], e))) : ∀ (kw s e : List (Str × Value)), (∀ p ∈ kw, ok p.1) → (kw.map (·.1)).Nodup → (∀ p ∈ kw, s.lookup p.1 = none) → forIn kw (s, e) f = pure (s ++ kw, e)
  | [], s, e, _, _, _ => by simp
  | p :: kw, s, e, h1, h2, h3 => by
    rw [List.forIn_cons, hf p s e (h1 p (List.mem_cons_self ..)) (h3 p (List.mem_cons_self ..)), pure_bind]
    simp only
    rw [List.map_cons] at h2
    obtain ⟨n1, n2⟩ := List.nodup_cons.mp h2
    rw [kw_loop hf kw (s ++ [p]) e (fun q hq => h1 q (List.mem_cons_of_mem _ hq)) n2 fun q hq => by
      rw [look_app _ _ _ (h3 q (List.mem_cons_of_mem _ hq))]
      have : (q.1 == p.1) = false := by
        have : q.1 ≠ p.1 := fun z => n1 (z ▸ List.mem_map.mpr ⟨q, hq, rfl⟩)
        simpa using this
      rw [List.lookup_cons, this]
      rfl]
    rw [List.append_assoc]
    rfl
theorem idx_get [DecidableEq Str] {p : Str} : ∀ {ks : List Str}, p ∈ ks → ks[ks.idxOf p]? = some p := by
  intro ks h
  rw [List.getElem?_eq_getElem (List.idxOf_lt_length_of_mem h), List.getElem_idxOf]
theorem bind_kw {x qual : Str} {params : Arguments} {body : List Stmt} {scope : Scope} {kV doc pm' cdv ct : Value} {an : Option Addr} {ps : List Str} (h1 : params.posonlyargs = []) (h2 : params.args.map (·.arg) = ps) (h3 : params.vararg = none) (h4 : params.kwonlyargs = []) (h5 : params.kwarg = none) (nd : ps.Nodup)
    {n0 : Nat} {us ws : List Value} {ks : List Str} {pm : List Nat} (hk : kwOk ps n0 ks pm = true) (hl : us.length = n0) (hw : ws.length = ks.length) : bindArgs (PySem.W.fnOf x qual params body scope .none kV doc pm' an cdv ct) ⟨us, ks.zip ws⟩ = pure (ps.zip (permV pm (us ++ ws))) := by
  simp only [kwOk, Bool.and_eq_true, decide_eq_true_eq] at hk
  obtain ⟨⟨⟨⟨k1, k2⟩, k3⟩, k4⟩, k5⟩ := hk
  have k2 := nodupB_ok k2
  have k5 : pm = kwPm ps ks n0 := beq_iff_eq.mp k5
  have hks : (ks.zip ws).map (·.1) = ks := by
    rw [List.map_fst_zip]
    omega
  have mem3 : ∀ k ∈ ks, k ∈ ps.drop n0 := fun k h => by simpa using List.all_eq_true.mp k3 k h
  have mem4 : ∀ k ∈ ps.drop n0, k ∈ ks := fun k h => by simpa using List.all_eq_true.mp k4 k h
  have split : ps.take n0 ++ ps.drop n0 = ps := List.take_append_drop n0 ps
  have nd' := nd
  rw [← split] at nd'
  have dis : ∀ k ∈ ps.drop n0, k ∉ ps.take n0 := fun k h z => (List.nodup_append.mp nd').2.2 k z k h rfl
  have zt : ps.zip us = (ps.take n0).zip us := by
    have h := List.zip_append (l₁ := ps.take n0) (r₁ := ps.drop n0) (l₂ := us) (r₂ := []) (by rw [List.length_take]; omega)
    rw [split, List.append_nil, List.zip_nil_right, List.append_nil] at h
    exact h
  have nol : ∀ k ∈ ks, (ps.zip us).lookup k = none := fun k h => by
    rw [zt]
    exact look_no k _ us (dis k (mem3 k h))
  -- what the slots hold
  have rng : ∀ j ∈ pm, j < (us ++ ws).length := fun j hj => by
    rw [k5] at hj
    rw [List.length_append, hl, hw]
    rcases List.mem_append.mp hj with hj | hj
    · have := List.mem_range.mp hj; omega
    · obtain ⟨p, hp, rfl⟩ := List.mem_map.mp hj
      have := List.idxOf_lt_length_of_mem (mem4 p hp)
      omega
  have pml : pm.length = ps.length := by
    rw [k5]
    simp only [kwPm, List.length_append, List.length_range, List.length_map, List.length_drop]
    omega
  have at_ : ∀ (i : Nat) (p : Str), ps[i]? = some p → ∃ u, (permV pm (us ++ ws))[i]? = some u ∧ (ps.zip us ++ ks.zip ws).lookup p = some u := by
    intro i p hp
    have hip := (List.getElem?_eq_some_iff.mp hp).1
    by_cases hi : i < n0
    · have hp' : (ps.take n0)[i]? = some p := by rw [List.getElem?_take_of_lt hi]; exact hp
      obtain ⟨u, u1, u2⟩ := zip_look' (ps.take n0) us (List.nodup_append.mp nd').1 (by rw [List.length_take]; omega) i p hp'
      refine ⟨u, ?_, look_in _ _ _ _ (by rw [zt]; exact u2)⟩
      have e : pm[i]? = some i := by
        rw [k5, kwPm, List.getElem?_append_left (by simpa using hi)]
        simp [hi]
      rw [permV_get rng i i e, List.getElem?_append_left (by omega)]
      exact u1
    · have hd : (ps.drop n0)[i - n0]? = some p := by
        rw [List.getElem?_drop, show n0 + (i - n0) = i by omega]
        exact hp
      have hm := List.mem_of_getElem? hd
      have hmk := mem4 p hm
      obtain ⟨u, u1, u2⟩ := zip_look' ks ws k2 hw (ks.idxOf p) p (idx_get hmk)
      refine ⟨u, ?_, by rw [look_app _ _ _ (nol p hmk)]; exact u2⟩
      have e : pm[i]? = some (n0 + ks.idxOf p) := by
        rw [k5, kwPm, List.getElem?_append_right (by simpa using hi), List.getElem?_map, List.length_range, hd]
        rfl
      rw [permV_get rng i _ e, List.getElem?_append_right (by omega), hl, Nat.add_sub_cancel_left]
      exact u1
  have some_all : ∀ p ∈ ps, ((ps.zip us ++ ks.zip ws).lookup p).isNone = false := fun p hp => by
    obtain ⟨i, hi⟩ := List.mem_iff_getElem?.mp hp
    obtain ⟨u, _, e⟩ := at_ i p hi
    rw [e]
    rfl
  have miss : (ps.filter fun n => ((ps.zip us ++ ks.zip ws).lookup n).isNone) = [] := List.filter_eq_nil_iff.mpr fun p hp => by rw [some_all p hp]; decide
  have e0 : seqItems? (PySem.W.fnOf x qual params body scope .none kV doc pm' an cdv ct).defaults = pure none := rfl
  have e1 : (PySem.W.fnOf x qual params body scope .none kV doc pm' an cdv ct).params = params := rfl
  have lp : us.length ≤ ps.length := by omega
  unfold bindArgs
  rw [e0, e1]
  simp only [h1, h2, h3, h4, h5, List.map_nil, List.nil_append, List.append_nil, List.forIn_nil, pure_bind, List.contains_nil, Bool.or_false]
  rw [kw_loop (ok := fun k => k ∈ ks) (fun p s e hp hs => by
    rw [if_pos (show ps.contains p.1 = true by simpa using List.mem_of_mem_drop (mem3 _ hp)), if_neg (by rw [hs]; decide)]) (ks.zip ws) (ps.zip us) [] (fun p hp => by
      have : p.1 ∈ (ks.zip ws).map (·.1) := List.mem_map.mpr ⟨p, hp, rfl⟩
      rw [hks] at this
      exact this) (by rw [hks]; exact k2) (fun p hp => by
      have : p.1 ∈ (ks.zip ws).map (·.1) := List.mem_map.mpr ⟨p, hp, rfl⟩
      rw [hks] at this
      exact nol _ this)]
  have gt : ¬ (us.length > ps.length) := by omega
  simp only [gt, decide_false, Bool.false_and, Bool.false_eq_true, if_false, pure_bind, Option.getD_none, List.length_nil, Nat.zero_sub, List.drop_nil, Nat.sub_zero, List.take_length, List.drop_length, List.zip_nil_left, List.forIn_nil]
  rw [miss, zip_fm' ps (permV pm (us ++ ws)) (by rw [permV_len rng, pml]) at_]
  rfl
end DI
namespace DI
open PySem PySem.Spec PyProof.Rows L2
theorem fun_kw {K : PySem.W.Frag} {x qual : Str} {params : Arguments} {body : List Stmt} {scope : Scope} {f : Addr} {fd : FuncData} {ps : List Str} (F : FunD K x qual params body scope [] [] f fd) (h1 : params.posonlyargs = []) (h2 : params.args.map (·.arg) = ps) (h3 : params.vararg = none) (h4 : params.kwonlyargs = []) (h5 : params.kwarg = none) (nd : ps.Nodup)
    (n0 : Nat) (ks : List Str) (pm : List Nat) (hk : kwOk ps n0 ks pm = true) : KwB K fd ps n0 ks pm := by
  obtain ⟨oc, od, dV, kV, doc, pm', an, cdv, ct, osl, rfl, lk, hcd, hD, hK⟩ := F.ex
  rcases hD with ⟨_, rfl⟩ | ⟨e, _⟩
  · exact fun s us ws _ hl hw => .of_eq (bind_kw h1 h2 h3 h4 h5 nd hk hl hw)
  · exact absurd rfl e
/-! ### t.index(x) of a tuple, any data -/
section
variable {X : Cx} {T : Tb} {W : L2.St → XK} {a e : Expr} {fa : Env → Sto → R D} {fs : Env → Sto → R (List D)} {pos : Pos}
def rTix (K : PySem.W.Frag) : V → List V → Hp → VK → Prop := fun x xs H Q => ∃ (a : Addr) (y : V) (d : PyData) (ds : List PyData) (vs : List V) (j : Nat) (z : PyData), x = V.ref a ∧ xs = [y] ∧ SqT K H a vs ∧ DpAll K H vs ds ∧ Dp K H y d ∧
  PyData.canLayAll0 ds = true ∧ d.canLay0 = true ∧ PyData.depthAll ds ≤ 60 ∧ ds[j]? = some z ∧ PyData.eqv z d = true ∧ (∀ (m : Nat) (z' : PyData), m < j → ds[m]? = some z' → PyData.eqv z' d = false) ∧ Q (.int (j : Nat)) H
theorem mt_tix (hu : X.A.units + 100 < cLine) : MtR X "tuple.index" (rTix X.K) := by
  intro pins s σ H x xs v us Q I rx rxs h
  obtain ⟨a, y, d, ds, vs, j, z, rfl, rfl, hs, ha, hy, hxs, hcd, hdp, hz, hzj, hno, q⟩ := h
  cases rx
  cases rxs with
  | cons ry rt =>
    rename_i uy ut
    cases rt
    obtain ⟨bs, r1⟩ := Dp.reads I d y uy hy ry
    have hroom : X.A.units + 1 + min (PyData.depthAll ds) d.depth < cLine := by omega
    obtain ⟨its, rv, pl, hlen⟩ := I.tuple hs
    obtain ⟨⟨cls, dd, data, sls⟩, ho, hc, n, hdt⟩ := pl
    simp only at hc hdt
    subst hc hdt
    obtain ⟨as, h4⟩ := Dp.readsAll I ds _ its ha rv
    have hn : its.length = ds.length := SeqAt.ReadsAll.length ds its as h4
    have hmap : its.map (SeqAt.readOf s.heap) = ds := SeqAt.readsAll_map ds its as hxs h4
    obtain ⟨hjd, _⟩ := List.getElem?_eq_some_iff.mp hz
    have hjl : j < its.length := by omega
    have hj : j < its.toArray.size := by simpa using hjl
    have at_ : ∀ (m : Nat) (hm : m < its.toArray.size) (z' : PyData), ds[m]? = some z' → SeqAt.readOf s.heap its.toArray[m] = z' := by
      intro m hm z' hz'
      have hml : m < its.length := by simpa using hm
      rw [← hmap, List.getElem?_map, List.getElem?_eq_getElem hml] at hz'
      have e1 : SeqAt.readOf s.heap its[m] = z' := Option.some.inj (show some (SeqAt.readOf s.heap its[m]) = some z' from hz')
      simpa using e1
    refine call_meets PySem.F.slot_tuple_index ⟨_, ho, rfl⟩ PySem.F.entry_tuple_index (PySem.F.args_tuple_index_2 _ _)
      (TI.tuple_indexAt a its.toArray n dd sls uy (fun u => PyData.eqv (SeqAt.readOf s.heap u) d) j hj ?_ ?_) ⟨ho, SeqAt.items_eqAt (vs := its.toArray) (show ReadsAll s.heap its.toArray.toList ds as from h4) r1 hxs hcd hroom, ?_⟩
    · show PyData.eqv (SeqAt.readOf s.heap its.toArray[j]) d = true
      rw [at_ j hj z hz]
      exact hzj
    · intro m hm hmj
      have hmd : m < ds.length := by omega
      have hz' : ds[m]? = some ds[m] := List.getElem?_eq_getElem hmd
      show PyData.eqv (SeqAt.readOf s.heap its.toArray[m]) d = false
      rw [at_ m hm _ hz']
      exact hno m _ hmj hz'
    · exact ⟨.int (j : Nat), H, I.tok _, ⟨_, rfl⟩, q⟩
theorem pyL_get : ∀ (xs : List D) (j : Nat), (D.pyL xs)[j]? = (xs[j]?).map D.py
  | [], j => by simp [D.pyL]
  | x :: xs, 0 => by simp [D.pyL]
  | x :: xs, j + 1 => by simp only [D.pyL, List.getElem?_cons_succ]; exact pyL_get xs j
theorem ex_tix {v : V} {xs : List D} (hK : T.K = X.K) (hu : X.A.units + 100 < cLine) {apos : Pos} (hb : attB a = true) (hline : (apos.endLine == pos.line) = true) (hn : nst e = true) (hv : PE X a (tC v)) (rv : ∀ G μ, Rp T G μ v (.tup xs)) (ty : ∀ H, tyV X.K "tuple" v H) (hs : PA X [e] (tLi T W fs)) : PE X (.Call (.Attribute a "index" apos) [e] [] pos) (tEx T W (mthO .tix (fun _ st => .ok (.tup xs) st) fs)) := by
  have hn' : [e].all nst = true := by simp [hn]
  refine pe_of (pe_bm PySem.F.plainAttrs_tuple PySem.F.slot_tuple_index PySem.F.type_tuple_index (mt_tix hu) hv hs (att_base hb) (few_ok hn' (by simp)) hline (star_cons hn) (star_plain _ _ _ rfl)) fun σ H Q h => ?_
  obtain ⟨G, μ, ρ, st, hr, er, p1⟩ := h
  refine ⟨ty H, ?_⟩
  have p1 : Pr T (RpD T) (W σ) G μ H Q ((fs ρ st).bind fun vs st => mtD .tix (.tup xs) vs st) := p1
  refine tR.imp (tR.bind (Rel := RpLs T) hr er p1) fun us H2 ⟨G2, m2, s2, dy, e2, hr2, r2, p2⟩ => ?_
  have r1 := rv G2 m2
  simp only [mtD] at p2
  split at p2
  · rename_i ys y hf
    cases r2 with
    | cons ry rt =>
      cases rt
      split at p2
      · rename_i b hb'
        split at p2
        · rename_i hd
          split at p2
          · rename_i j hj
            obtain ⟨d1, l1⟩ := full_lies hr2 r1 hf
            obtain ⟨d2, l2⟩ := full_lies hr2 ry hb'
            rw [hK] at d1 d2
            have k2 := depthL_py ys
            obtain ⟨j1, j2, j3⟩ := List.findIdx?_eq_some_iff_getElem.mp hj
            generalize hpy : D.py (.tup ys) = pd at d1 l1
            cases d1 with
            | @tup ad vs' ds' q1 q2 =>
              have hpy : D.pyL ys = ds' := by
                have : PyData.tuple (D.pyL ys) = PyData.tuple ds' := hpy
                injection this
              subst hpy
              refine ⟨ad, _, _, _, _, j, D.py ys[j], rfl, rfl, q1, q2, d2, ?_, l2, by omega, by rw [pyL_get, List.getElem?_eq_getElem j1]; rfl, by rw [eqv_py]; exact j2, fun m z' hm hz' => ?_, p2.here hr2 (.int _)⟩
              · simpa [PyData.canLay0] using l1
              · rw [pyL_get, List.getElem?_eq_getElem (by omega)] at hz'
                cases hz'
                rw [eqv_py]
                simpa using j3 m hm
            | _ => exact absurd hpy (by simp [D.py])
          · exact p2.elim
        · exact p2.elim
      · exact p2.elim
  · exact p2.elim
/-! ### constants of the module -/
mutual
def cvB (K : PySem.W.Frag) : Nat → Value → D → Bool
  | _, .none, .non => true
  | _, .bool b, .bl c => b == c
  | _, .int i _, .int j => decide (i = j)
  | _, .str x _, .str s => decide (x = txS s) && PyData.strOk (txS s) && decide (s.length ≤ sizeLine)
  | f + 1, .ref a, .tup ds => match K.lookup a with
    | some o => decide (o.cls = .type "tuple") && o.dict.isNone && (match o.data with
      | .seq its _ => decide (its.size ≤ sizeLine) && cvBL K f its.toList ds
      | _ => false)
    | none => false
  | _, _, _ => false
def cvBL (K : PySem.W.Frag) : Nat → List Value → List D → Bool
  | _, [], [] => true
  | f + 1, u :: us, d :: ds => cvB K f u d && cvBL K f us ds
  | _, _, _ => false
end
mutual
theorem cvB_ok {K : PySem.W.Frag} (hK : T.K = K) : ∀ (f : Nat) (u : Value) (d : D), cvB K f u d = true → ∃ v, RelV v u ∧ ∀ G μ, Rp T G μ v d
  | 0, u, d, h => by
    cases d <;> cases u <;> first | (cases h; done) | exact ⟨.non, rfl, fun _ _ => .non⟩ | skip
    · rename_i b c
      simp only [cvB, beq_iff_eq] at h
      subst h
      exact ⟨.bl c, rfl, fun _ _ => .bl c⟩
    · rename_i i j t
      simp only [cvB, decide_eq_true_eq] at h
      subst h
      exact ⟨.int j, ⟨t, rfl⟩, fun _ _ => .int j⟩
    · rename_i s x t
      simp only [cvB, Bool.and_eq_true, decide_eq_true_eq] at h
      obtain ⟨⟨rfl, h2⟩, h3⟩ := h
      exact ⟨.str (txS s), ⟨t, rfl⟩, fun _ _ => .str s ⟨h2, h3⟩⟩
  | f + 1, u, d, h => by
    cases d <;> cases u <;> first | (cases h; done) | exact ⟨.non, rfl, fun _ _ => .non⟩ | skip
    · rename_i b c
      simp only [cvB, beq_iff_eq] at h
      subst h
      exact ⟨.bl c, rfl, fun _ _ => .bl c⟩
    · rename_i i j t
      simp only [cvB, decide_eq_true_eq] at h
      subst h
      exact ⟨.int j, ⟨t, rfl⟩, fun _ _ => .int j⟩
    · rename_i s x t
      simp only [cvB, Bool.and_eq_true, decide_eq_true_eq] at h
      obtain ⟨⟨rfl, h2⟩, h3⟩ := h
      exact ⟨.str (txS s), ⟨t, rfl⟩, fun _ _ => .str s ⟨h2, h3⟩⟩
    · rename_i ds a
      simp only [cvB] at h
      split at h
      · rename_i o ho
        simp only [Bool.and_eq_true, decide_eq_true_eq] at h
        obtain ⟨⟨h1, h2⟩, h3⟩ := h
        split at h3
        · rename_i its n hd
          simp only [Bool.and_eq_true, decide_eq_true_eq] at h3
          obtain ⟨vs, r1, r2⟩ := cvBL_ok hK f its.toList ds h3.2
          exact ⟨.ref a, rfl, fun G μ => .tup (.inr ⟨o, its, n, hK ▸ ho, h1, hd, h3.1, r1⟩) (r2 G μ) (.inl ⟨o, by simpa using h2, .inr (hK ▸ ho)⟩)⟩
        · cases h3
      · cases h
theorem cvBL_ok {K : PySem.W.Frag} (hK : T.K = K) : ∀ (f : Nat) (us : List Value) (ds : List D), cvBL K f us ds = true → ∃ vs, Vals vs us ∧ ∀ G μ, RpL T G μ vs ds
  | 0, us, ds, h => by
    cases us <;> cases ds <;> first | (cases h; done) | exact ⟨[], .nil, fun _ _ => .nil⟩
  | f + 1, us, ds, h => by
    cases us <;> cases ds <;> first | (cases h; done) | exact ⟨[], .nil, fun _ _ => .nil⟩ | skip
    rename_i u us d ds
    simp only [cvBL, Bool.and_eq_true] at h
    obtain ⟨v, q1, q2⟩ := cvB_ok hK f u d h.1
    obtain ⟨vs, q3, q4⟩ := cvBL_ok hK f us ds h.2
    exact ⟨v :: vs, .cons q1 q3, fun G μ => .cons (q2 G μ) (q4 G μ)⟩
end
theorem cvB_tup {K : PySem.W.Frag} {f : Nat} {u : Value} {ds : List D} (h : cvB K f u (.tup ds) = true) : ∃ a o, u = .ref a ∧ K.lookup a = some o ∧ o.cls = .type "tuple" ∧ o.dict = none := by
  cases f with
  | zero => cases u <;> cases h
  | succ f =>
    cases u <;> first | (cases h; done) | skip
    rename_i a
    simp only [cvB] at h
    split at h
    · rename_i o ho
      simp only [Bool.and_eq_true, decide_eq_true_eq] at h
      exact ⟨a, o, rfl, ho, h.1.1, by simpa using h.1.2⟩
    · cases h
end
end DI
set_option Elab.async false
set_option linter.all false
set_option maxRecDepth 100000
set_option maxHeartbeats 4000000
set_option autoImplicit false
namespace DI
open PySem PySem.Spec PyProof.Rows L2
/-! ### what is fixed of the text, for the check -/
structure FnI where
  nm : Str
  np : Nat
  ps : List Str
structure Lw where
  fns : List FnI
  blt : List Str
  cst : List (Str × D)
  gcd : Bool
  cls : List ClsI
  fld : List Str
  hnd : List Str
  dcs : List (Str × List (D × D) × List D)
structure Sc where
  N : List Str
  nms : List (Str × NameKind)
  blk : Option (List (Str × NameKind))
  calm : Bool
def Sc.fnB (S : Sc) (x : Str) : Bool := match S.blk with
  | none => true
  | some l => l.lookup x == some .cell
def Sc.vis (S : Sc) (x : Str) : Bool := match S.nms.lookup x with
  | some .local => true | some .cell => true | some .free => true | _ => false
def Sc.loc (S : Sc) (x : Str) : Bool := match S.nms.lookup x with
  | some .local => true | some .cell => true | _ => false
def Sc.gl (S : Sc) (x : Str) : Bool := S.nms.lookup x == some .globalImplicit
/-- the facts of a law's module that a body's check rests on -/
structure Fh (X : Cx) (T : Tb) (L : Lw) (C : Cal) (cm : Bool) : Prop where
  blt : ∀ x ∈ L.blt, X.mg x = none
  fns : cm = true → ∀ (k : Nat) (i : FnI), L.fns[k]? = some i → ∃ (f : Addr) (fd : FuncData) (ps : List Str) (n : Nat), X.mg i.nm = some (.ref f) ∧ PySem.W.keepIn X.K (.ref f) = true ∧ Binds X.K fd ps [] ∧ Room n X.A ∧ FnOk X.prog X.w X.K X.mg X.base (L2.CX X.prog X.w) n f fd ps (spD T i.np (C.call k)) ∧ ∀ n0 ks pm, kwOk i.ps n0 ks pm = true → KwB X.K fd ps n0 ks pm
  cst : ∀ x d, L.cst.lookup x = some d → ∃ (v : V) (u : Value), X.mg x = some u ∧ RelV v u ∧ (∀ G μ, Rp T G μ v d) ∧ ∀ ds, d = .tup ds → ∃ a o, v = .ref a ∧ X.K.lookup a = some o ∧ o.cls = .type "tuple" ∧ o.dict = none
  gcd : L.gcd = true → X.mg "gcd" = some (.builtin "math.gcd")
  cls : cm = true → ∀ (k : Nat) (c : ClsI), L.cls[k]? = some c → ClsOk X (T.cl k) c
  room : cm = true → Room 2 X.A
  fld : ∀ (i : Nat) (f : Str), L.fld[i]? = some f → T.fn i = f
  inj : ∀ i j, T.fn i = T.fn j → i = j
  xf : ∀ c, c < L.cls.length → XfC T.K (T.cl c) ∧ ∀ f ∈ L.fld, PySem.W.findIn T.K (.ref (T.cl c)) f = some none
  hnd : ∀ (k : Nat) (x : Str), L.hnd[k]? = some x → (X.mg x = some (T.hv k) ∨ (X.mg x = none ∧ bootBuiltins x = some (T.hv k) ∧ x ≠ "__name__")) ∧ ∀ c b, C.anc c k = some b → c < L.cls.length ∧ PySem.W.exmOne T.K (.ref (T.cl c)) (T.hv k) = some b
  exc : ∀ c, c < L.cls.length → ExcC T.K (T.cl c)
  hcv : ∀ (k : Nat) (x : Str), L.hnd[k]? = some x → cvOk (T.hv k) = true
  hkt : ∀ c k b, C.anc c k = some b → PySem.W.kitOne T.K (.ref (T.cl c)) (T.hv k) = some b
  dcs : ∀ x p, L.dcs.lookup x = some p → KdF X.K X.w T X.mg x p.1 p.2
structure Cxo (X : Cx) (T : Tb) (L : Lw) (C : Cal) (S : Sc) : Prop where
  fh : Fh X T L C S.calm
  N : X.N = S.N
  nd : S.N.Nodup
  nms : X.env.scope.names = S.nms
  kind : X.env.scope.kind = .function
  fn : ∀ x, S.fnB x = true → X.fn x = true
  hK : T.K = X.K
  calm : S.calm = true → X.calm = true
  units : X.A.units + 100 < cLine
  xa : ∀ a c d, T.xa = some (a, c, d) → SuOk X T L.cls.length a c d
  xn : S.calm = true → T.xa = none
theorem Cxo.vis {X : Cx} {T : Tb} {L : Lw} {C : Cal} {S : Sc} {x : Str} (c : Cxo X T L C S) (h : S.vis x = true) : Vis X.env.scope x := by
  unfold Vis
  rw [c.nms]
  unfold Sc.vis at h
  split at h
  · exact .inl ‹_›
  · exact .inr (.inl ‹_›)
  · exact .inr (.inr ‹_›)
  · cases h
theorem Cxo.loc {X : Cx} {T : Tb} {L : Lw} {C : Cal} {S : Sc} {x : Str} (c : Cxo X T L C S) (h : S.loc x = true) : L2.Loc X.env.scope x := by
  unfold L2.Loc
  rw [c.nms]
  unfold Sc.loc at h
  split at h
  · exact .inl ‹_›
  · exact .inr ‹_›
  · cases h
theorem Cxo.gl {X : Cx} {T : Tb} {L : Lw} {C : Cal} {S : Sc} {x : Str} (c : Cxo X T L C S) (h : S.gl x = true) : Gl X x := by
  unfold Gl Env.kindOf
  rw [c.nms]
  exact beq_iff_eq.mp h
mutual
theorem D.eq_of : ∀ (x y : D), D.beq x y = true → x = y
  | .non, y, h => by cases y <;> simp [D.beq] at h; rfl
  | .bl a, y, h => by cases y <;> simp [D.beq] at h; rw [h]
  | .int a, y, h => by cases y <;> simp [D.beq] at h; rw [h]
  | .str a, y, h => by cases y <;> simp [D.beq] at h; rw [h]
  | .tup a, y, h => by cases y <;> simp [D.beq] at h; rw [D.eqL_of _ _ h]
  | .lst a, y, h => by cases y <;> simp [D.beq] at h; rw [D.eqL_of _ _ h]
  | .ro a, y, h => by cases y <;> simp [D.beq] at h; rw [D.eqL_of _ _ h]
  | .loc a, y, h => by cases y <;> simp [D.beq] at h; rw [h]
  | .exc a f, y, h => by cases y <;> simp [D.beq] at h; rw [h.1, D.eqF_of _ _ h.2]
theorem D.eqL_of : ∀ (x y : List D), D.beqL x y = true → x = y
  | [], y, h => by cases y <;> simp [D.beqL] at h; rfl
  | a :: x, y, h => by cases y <;> simp [D.beqL] at h; rw [D.eq_of _ _ h.1, D.eqL_of _ _ h.2]
theorem D.eqF_of : ∀ (x y : List (Nat × D)), D.beqF x y = true → x = y
  | [], y, h => by cases y <;> simp [D.beqF] at h; rfl
  | (i, a) :: x, y, h => by
    cases y with
    | nil => simp [D.beqF] at h
    | cons q y =>
      obtain ⟨j, b⟩ := q
      simp [D.beqF] at h
      rw [h.1.1, D.eq_of _ _ h.1.2, D.eqF_of _ _ h.2]
end
/-! ### the check of an expression's text -/
def kVar (S : Sc) (i : Nat) (x : Str) : Bool := S.N[i]? == some x && S.vis x && notDbg x && !(x == ("__classdict__" : Str))
def kCst (L : Lw) (S : Sc) : D → Expr → Bool
  | .int i, .Constant (.int j) _ _ => i == j
  | .str s, .Constant (.str x) _ _ => txS s == x && PyData.strOk (txS s) && decide (s.length ≤ sizeLine)
  | .non, .Constant .none _ _ => true
  | .bl b, .Constant (.bool c) _ _ => b == c
  | d, .Name x _ => S.gl x && notDbg x && (match L.cst.lookup x with | some d' => D.beq d d' | none => false)
  | _, _ => false
/-- the tests of it go by its value -/
def plainT : Expr → Bool
  | .Dict _ _ _ => true | .Name _ _ => true | .Call _ _ _ _ => true | .Subscript _ _ _ => true | .BinOp _ _ _ _ => true | .Constant _ _ _ => true | .List _ _ => true | .Tuple _ _ _ => true | .ListComp _ _ _ _ => true | .Attribute _ _ _ => true
  | _ => false
def Bi.id : Bi → Str
  | .len => "len" | .abs => "abs" | .int => "int" | .str => "str" | .max2 => "max" | .min2 => "min" | .maxL => "max" | .minL => "min" | .minD => "min" | .min2D => "min" | .sum => "sum" | .gcd => "gcd" | .tuple => "tuple" | .list => "list" | .listM => "list" | .sorted => "sorted" | .bool => "bool"
def Bi.isG : Bi → Bool
  | .gcd => true
  | _ => false
def Bi.has : Bi → Bool
  | .bool => false
  | _ => true
def Bi.cold : Bi → Bool
  | .max2 => false | .min2 => false | .maxL => false | .minL => false | .minD => false | .min2D => false | .sum => false
  | _ => true
def CmpOp.beq (a b : CmpOp) : Bool := decide (a = b)
def relN (sc nms : List (Str × NameKind)) : List (Str × NameKind) := nms.map fun (n, k) => if (k == .free && sc.lookup n == some .cell) then (n, .cell) else (n, k)
def kBlk (S : Sc) (own : List Nat) (scope : Scope) : Bool :=
  (scope.kind == .function) && scope.names.all (fun y => scope.names.lookup y.1 == some y.2) && own.all (fun i => (S.N[i]?).isSome) &&
  scope.names.all (fun y => !(y.2 == .free) || S.nms.lookup y.1 == some .cell || S.nms.lookup y.1 == some .free) &&
  scope.names.all (fun y => !(y.2 == .local || y.2 == .cell) || (own.any fun i => S.N[i]? == some y.1) || !(S.N.contains y.1))
def Sc.sub (S : Sc) (scope : Scope) : Sc := ⟨S.N, relN S.nms scope.names, some scope.names, S.calm⟩
def Sc.su (S : Sc) : Sc := { S with calm := false }
mutual
def kTg (S : Sc) : Tg → Expr → Bool
  | .nm i, e => match e with
    | .Name x _ => S.N[i]? == some x && S.loc x && (S.fnB x || S.nms.lookup x == some .local)
    | _ => false
  | .tp ts, e => match e with
    | .Tuple es _ _ => S.calm && es.all asg1 && es.length == ts.length && kTgs S ts es
    | _ => false
def kTgs (S : Sc) : List Tg → List Expr → Bool
  | [], es => es.isEmpty
  | t :: ts, es => match es with
    | [] => false
    | e :: es => kTg S t e && kTgs S ts es
end
def kMt (L : Lw) (m : Mt) (x : Str) (as : List Expr) (o : Expr) (apos pos : Pos) : Bool := attB o && (apos.endLine == pos.line) && as.all nst && (match m, as with
  | .append, [_] => x == ("append" : Str)
  | .extend, [_] => x == ("extend" : Str)
  | .insert, [_, _] => x == ("insert" : Str)
  | .popAt, [_] => x == ("pop" : Str)
  | .pop, [] => x == ("pop" : Str)
  | .reverse, [] => x == ("reverse" : Str)
  | .bitlen, [] => x == ("bit_length" : Str)
  | _, _ => false)
/-- the dict of the module that it is -/
def kdL (L : Lw) (x : Str) (kvs : List (D × D)) (ms : List D) : Bool := match L.dcs.lookup x with
  | some p => D.beqL (kvs.map (·.1)) (p.1.map (·.1)) && D.beqL (kvs.map (·.2)) (p.1.map (·.2)) && D.beqL ms p.2
  | none => false
def gB (L : Lw) (S : Sc) (x : Str) : Bool := S.gl x && L.blt.contains x
def kHn (L : Lw) (S : Sc) (k : Nat) : Expr → Bool
  | .Name y _ => L.hnd[k]? == some y && S.gl y && notDbg y
  | _ => false
mutual
/-- t: as a test -/
def kE (L : Lw) : Bool → Sc → Ex → Expr → Bool
  | t, S, .var i, e => (match e with | .Name x _ => kVar S i x | _ => false)
  | t, S, .cst d, e => plainT e && kCst L S d e
  | t, S, .tup xs, e => (match e with | .Tuple es _ _ => kEs L S xs es | _ => false)
  | t, S, .lst _ xs, e => (match e with | .List es _ => kEs L S xs es | _ => false)
  | t, S, .bin op a b, e => (match e with | .BinOp l o r _ => decide (o = op.op) && kE L false S a l && kE L false S b r | _ => false)
  | t, S, .neg a, e => (match e with | .UnaryOp .USub l _ => !t && kE L false S a l | _ => false)
  | t, S, .cmp op a b, e => (match e with | .Compare l [o] [r] _ => decide (o = op.op) && !(behindInMarks op.op r) && kE L false S a l && kE L false S b r | _ => false)
  | t, S, .is_ op a, e => (match e with | .Compare l [o] [r] _ => decide (o = op.op) && op.lit r && kE L false S a l | _ => false)
  | t, S, .chain op op' a b c, e => (match e with | .Compare l [o, o'] [r, q] _ => decide (o = op.op) && decide (o' = op'.op) && !(lastMarks [op.op, op'.op] [r, q]) && kE L false S a l && kE L false S b r && kE L false S c q | _ => false)
  | t, S, .and a b, e => (match e with
    | .BoolOp .And [l, r] _ => kE L t S a l && kE L t S b r
    | .BoolOp .And (l :: r :: q :: rest) pos => kE L t S a l && kE L t S b (.BoolOp .And (r :: q :: rest) pos)
    | _ => false)
  | t, S, .or a b, e => (match e with
    | .BoolOp .Or [l, r] _ => kE L t S a l && kE L t S b r
    | .BoolOp .Or (l :: r :: q :: rest) pos => kE L t S a l && kE L t S b (.BoolOp .Or (r :: q :: rest) pos)
    | _ => false)
  | t, S, .not a, e => (match e with | .UnaryOp .Not l _ => kE L t S a l | _ => false)
  | t, S, .ife c a b, e => (match e with | .IfExp q l r _ => !t && kE L true S c q && kE L false S a l && kE L false S b r | _ => false)
  | t, S, .idx a b, e => (match e with | .Subscript l r _ => nsl r && kE L false S a l && kE L false S b r | _ => false)
  | t, S, .cat a b, e => (match e with | .BinOp l .Add r _ => kE L false S a l && kE L false S b r | _ => false)
  | t, S, .dg1 o k, e => (match e with | .Call (.Attribute l x apos) [a] [] pos => x == ("get" : Str) && attB l && (apos.endLine == pos.line) && nst a && kE L false S o l && kE L false S k a | _ => false)
  | t, S, .dg2 o k d, e => (match e with | .Call (.Attribute l x apos) [a, b] [] pos => x == ("get" : Str) && attB l && (apos.endLine == pos.line) && nst a && nst b && kE L false S o l && kE L false S k a && kE L false S d b | _ => false)
  | t, S, .tg1 kvs ms k, e => (match e with | .Call (.Attribute (.Name y _) x apos) [a] [] pos => x == ("get" : Str) && (apos.endLine == pos.line) && nst a && S.gl y && notDbg y && kdL L y kvs ms && kE L false S k a | _ => false)
  | t, S, .tg2 kvs ms k d, e => (match e with | .Call (.Attribute (.Name y _) x apos) [a, b] [] pos => x == ("get" : Str) && (apos.endLine == pos.line) && nst a && nst b && S.gl y && notDbg y && kdL L y kvs ms && kE L false S k a && kE L false S d b | _ => false)
  | t, S, .tix kvs k, e => (match e with | .Subscript (.Name y _) r _ => nsl r && S.gl y && notDbg y && (match L.dcs.lookup y with | some p => kdL L y kvs p.2 | none => false) && kE L false S k r | _ => false)
  | t, S, .dcp a, e => (match e with | .Call (.Name x _) [l] [] _ => S.calm && x == ("dict" : Str) && gB L S x && nst l && kE L false S a l | _ => false)
  | t, S, .rev _ a, e => (match e with | .Subscript l (.Slice none none (some (.UnaryOp .USub (.Constant (.int 1) _ _) _)) _) _ => kE L false S a l | _ => false)
  | t, S, .slc _ a lo hi, e => (match e with | .Subscript l (.Slice lo' hi' none _) _ => kE L false S a l && kO L S lo lo' && kO L S hi hi' | _ => false)
  | t, S, .call k xs pm, e => (match e with
    | .Call (.Name x _) es [] _ => (match L.fns[k]? with
      | some i => S.calm && i.nm == x && S.gl x && notDbg x && xs.length == i.np && pm == List.range i.np && kEs L S xs es
      | none => false)
    | .Call (.Name x _) es (kw :: kws) _ => (match L.fns[k]? with
      | some i => S.calm && i.nm == x && S.gl x && notDbg x && xs.length == i.np && pm.length == i.np && kwOk i.ps es.length ((kw :: kws).filterMap (·.arg)) pm && kEk L S xs es (kw :: kws)
      | none => false)
    | _ => false)
  | t, S, .dct ks xs, e => (match e with
    | .Dict keys values _ => ks.all keyOk && ks.length == keys.length && ks.length == xs.length && decide (ks.length ≤ 15) && (ks.zip keys).all (fun p => keyLit p.1 p.2) && kEs L S xs values
    | _ => false)
  | t, S, .bi f xs, e => (match e with
    | .Call (.Name x _) (e0 :: es) [] _ => (f.cold || S.calm) && f.has && x == f.id && (if f.isG then L.gcd && S.gl x else gB L S x) && kEs L S xs (e0 :: es)
    | _ => false)
  | t, S, .isi a ts, e => (match e with
    | .Call (.Name x _) [l, c] [] _ => x == ("isinstance" : Str) && gB L S x && nst l && kE L false S a l && ts.all Ty.blt && ts.all (fun t => gB L S t.id) && (match c with
      | .Tuple cs _ _ => cs.length == ts.length && decide (ts.length ≤ 1000) && !ts.isEmpty && (cs.zip ts).all (fun p => tyLit p.2 p.1)
      | c => (match ts with | [t] => tyLit t c | _ => false))
    | _ => false)
  | t, S, .mth m o xs, e => (match e with
    | .Call (.Attribute l x apos) es [] pos => (match m, o, l with
      | .tix, .cst (.tup ds), .Name y _ => x == ("index" : Str) && attB l && (apos.endLine == pos.line) && es.length == 1 && S.gl y && notDbg y && (match L.cst.lookup y with | some d' => D.beq (.tup ds) d' | none => false) && kEs L S xs es
      | .tix, _, _ => false
      | _, _, _ => kMt L m x es l apos pos && kE L false S o l && kEs L S xs es)
    | _ => false)
  | t, S, .lc _ tg it cs x own, e => (match e with
    | .ListComp elt [⟨tge, iter, ifs, 0⟩] scope _ => S.calm && Tg.inn own tg && noSet iter && kBlk S own scope && kI L S it tge iter && kTg (S.sub scope) tg tge && kC L (S.sub scope) cs ifs && kE L false (S.sub scope) x elt
    | _ => false)
  | t, S, .fld a f, e => (match a, e with
    | .var i, .Attribute (.Name x _) n _ => kVar S i x && L.fld[f]? == some n
    | _, _ => false)
  | t, S, .isx i ks, e => (match e with
    | .Call (.Name f _) [.Name x _, q] [] _ => f == ("isinstance" : Str) && gB L S f && kVar S i x && (match q with
      | .Tuple cs _ _ => cs.length == ks.length && decide (ks.length ≤ 1000) && (cs.zip ks).all (fun p => kHn L S p.2 p.1)
      | q => (match ks with | [k] => kHn L S k q | _ => false))
    | _ => false)
/-- the arguments of a call, keywords behind the positional ones -/
def kEk (L : Lw) : Sc → List Ex → List Expr → List Keyword → Bool
  | S, [], es, kws => es.isEmpty && kws.isEmpty
  | S, x :: xs, es, kws => (match es with
    | e :: es => nst e && kE L false S x e && kEk L S xs es kws
    | [] => (match kws with
      | ⟨some _, e, _⟩ :: kws => kE L false S x e && kEk L S xs [] kws
      | _ => false))
def kEs (L : Lw) : Sc → List Ex → List Expr → Bool
  | S, [], es => es.isEmpty
  | S, x :: xs, es => (match es with
    | [] => false
    | e :: es => nst e && kE L false S x e && kEs L S xs es)
def kO (L : Lw) : Sc → Option Ex → Option Expr → Bool
  | S, none, e => e.isNone
  | S, some x, e => (match e with
    | some e => kE L false S x e
    | none => false)
/-- the tests of a comprehension -/
def kC (L : Lw) : Sc → List Ex → List Expr → Bool
  | S, [], es => es.isEmpty
  | S, x :: xs, es => (match es with
    | [e] => kE L true S x e && xs.isEmpty
    | _ => false)
def kI (L : Lw) : Sc → Ir → Expr → Expr → Bool
  | S, .seq x, _, e => kE L false S x e
  | S, .rng1 a, _, e => (match e with
    | .Call (.Name x _) [l] [] _ => x == ("range" : Str) && gB L S x && nst l && kE L false S a l
    | _ => false)
  | S, .rng2 a b, _, e => (match e with
    | .Call (.Name x _) [l, r] [] _ => x == ("range" : Str) && gB L S x && nst l && nst r && kE L false S a l && kE L false S b r
    | _ => false)
  | S, .rng3 _ _ _, _, _ => false
  | S, .enum a, tg, e => (match tg, e with
    | .Tuple _ _ _, .Call (.Name x _) [l] [] _ => x == ("enumerate" : Str) && gB L S x && nst l && kE L false S a l
    | _, _ => false)
  | S, .zip _ _, _, _ => false
end
end DI
set_option Elab.async false
set_option linter.all false
set_option maxRecDepth 100000
set_option maxHeartbeats 4000000
set_option autoImplicit false
namespace DI
open PySem PySem.Spec PyProof.Rows L2
/-- what a body may let out of its calls -/
def Hx (X : Cx) (W : L2.St → XK) : Prop := ∀ σ, PassesAt (L2.CX X.prog X.w) X σ (W σ)
theorem hx_no {X : Cx} : Hx X WN := fun σ pins H s e s' I h => by
  obtain ⟨_, _, _, _, _, _, _, _, _, _, _, _, z⟩ := h
  exact z.elim
section
variable {X : Cx} {T : Tb} {L : Lw} {C : Cal} {S : Sc} {W : L2.St → XK}
def Gd (t : Bool) (X : Cx) (T : Tb) (W : L2.St → XK) (e : Expr) (f : Env → Sto → R D) : Prop := match t with
  | true => PT X e (tBo T W (teT f))
  | false => PE X e (tEx T W f)
theorem Gd.plain {e : Expr} {f : Env → Sto → R D} (hK : T.K = X.K) (hp : plainT e = true) (h : PE X e (tEx T W f)) : ∀ t, Gd t X T W e f
  | false => h
  | true => et_truth hK h (by cases e <;> first | (cases hp; done) | exact fun _ => rfl)
theorem range_perm : ∀ (vs : List D), permD vs (List.range vs.length) = vs := by
  intro vs
  unfold permD
  have : ∀ (n : Nat) (ws : List D), n ≤ ws.length → (List.range n).filterMap (fun j => ws[j]?) = ws.take n := by
    intro n
    induction n with
    | zero => intro ws _; rfl
    | succ n ih =>
      intro ws h
      have h1 : ws[n]? = some ws[n] := List.getElem?_eq_getElem (by omega)
      rw [List.range_succ, List.filterMap_append, ih ws (by omega), List.take_add_one, h1]
      rw [List.filterMap_cons, h1]
      rfl
  rw [this _ _ (Nat.le_refl _), List.take_length]
theorem evEs_len : ∀ (xs : List Ex) (ρ : Env) (st : Sto) (vs : List D) (st' : Sto), evEs C xs ρ st = .ok vs st' → vs.length = xs.length := by
  intro xs
  induction xs with
  | nil => intro ρ st vs st' h; cases h; rfl
  | cons x xs ih =>
    intro ρ st vs st' h
    simp only [evEs] at h
    cases h1 : evE C x ρ st with
    | ok d s1 =>
      rw [h1] at h
      simp only [R.bind] at h
      cases h2 : evEs C xs ρ s1 with
      | ok ds s2 =>
        rw [h2] at h
        cases h
        exact congrArg Nat.succ (ih _ _ _ _ h2)
      | err _ _ _ => rw [h2] at h; cases h
      | bad => rw [h2] at h; cases h
    | err _ _ _ => rw [h1] at h; cases h
    | bad => rw [h1] at h; cases h
theorem all_cons2 {e : Expr} {es : List Expr} (h : (e :: es).all nst = true) : nst e = true ∧ es.all nst = true := by
  rw [List.all_cons, Bool.and_eq_true] at h
  exact h
theorem ex_biB {f : Bi} {id : String} {e : Expr} {es : List Expr} {fs : Env → Sto → R (List D)} {p pos : Pos} (hc : CallR X (.builtin id) (rBi T f)) (hg : Gl X f.id) (hm : X.mg f.id = none) (hv : bootBuiltins f.id = some (.builtin id)) (hn : (e :: es).all nst = true) (ha : PA X (e :: es) (tLi T W fs))
    (h1 : f.id ≠ "__name__") (h2 : (f.id == ("__debug__" : Str)) = false) : PE X (.Call (.Name f.id p) (e :: es) [] pos) (tEx T W fun ρ st => (fs ρ st).bind fun vs st => biD f vs st) := by
  obtain ⟨hn', hn2⟩ := all_cons2 hn
  refine pe_of (pe_callB hc hg hm hv ha h1 h2 (star_cons hn') (star_plain _ _ _ hn2)) fun σ H Q h => ?_
  obtain ⟨G, μ, ρ, st, hr, er, q⟩ := h
  exact tR.imp (tR.bind (Rel := RpLs T) hr er q) fun x H1 ⟨G1, m1, s1, dx, e1, hr1, r1, p1⟩ => ⟨W σ, G1, m1, s1, dx, hr1, r1, p1⟩
theorem ex_biT {f : Bi} {id : String} {e : Expr} {es : List Expr} {fs : Env → Sto → R (List D)} {p pos : Pos} (hc : CallR X (.type id) (rBi T f)) (hg : Gl X f.id) (hm : X.mg f.id = none) (hv : bootBuiltins f.id = some (.type id)) (hn : (e :: es).all nst = true) (ha : PA X (e :: es) (tLi T W fs))
    (h1 : f.id ≠ "__name__") (h2 : (f.id == ("__debug__" : Str)) = false) : PE X (.Call (.Name f.id p) (e :: es) [] pos) (tEx T W fun ρ st => (fs ρ st).bind fun vs st => biD f vs st) := by
  obtain ⟨hn', hn2⟩ := all_cons2 hn
  refine pe_of (pe_callTy hc hg hm hv ha h1 h2 (star_cons hn') (star_plain _ _ _ hn2)) fun σ H Q h => ?_
  obtain ⟨G, μ, ρ, st, hr, er, q⟩ := h
  exact tR.imp (tR.bind (Rel := RpLs T) hr er q) fun x H1 ⟨G1, m1, s1, dx, e1, hr1, r1, p1⟩ => ⟨W σ, G1, m1, s1, dx, hr1, r1, p1⟩
theorem ex_gcd {e : Expr} {es : List Expr} {fs : Env → Sto → R (List D)} {p pos : Pos} (hg : Gl X "gcd") (hm : X.mg "gcd" = some (.builtin "math.gcd")) (hn : (e :: es).all nst = true) (ha : PA X (e :: es) (tLi T W fs)) :
    PE X (.Call (.Name "gcd" p) (e :: es) [] pos) (tEx T W fun ρ st => (fs ρ st).bind fun vs st => biD .gcd vs st) := by
  obtain ⟨hn', hn2⟩ := all_cons2 hn
  refine ⟨fun pins s σ H Q I h => ?_⟩
  refine wpAny_Call_Name_kw (ld_glob I hg hm ?_ (by decide +kernel))
  refine PyProof.Rows.callWith_builtin1 (thn (ha.run pos pins s σ H (fun vs H1 => rBi T .gcd vs H1 Q) I ?_) fun us s1 ⟨vs, H1, I1, r1, q1⟩ => call_gcd_D pins s1 σ H1 vs us Q I1 r1 q1) (star_cons hn') (star_plain _ _ _ hn2)
  obtain ⟨G, μ, ρ, st, hr, er, q⟩ := h
  exact tR.imp (tR.bind (Rel := RpLs T) hr er q) fun x H1 ⟨G1, m1, s1, dx, e1, hr1, r1, p1⟩ => ⟨W σ, G1, m1, s1, dx, hr1, r1, p1⟩
theorem ex_bi_ok {f : Bi} {x : Str} {e : Expr} {es : List Expr} {fs : Env → Sto → R (List D)} {p pos : Pos} (c : Cxo X T L C S) (hcm : (f.cold || S.calm) = true) (h0 : f.has = true) (hx : x = f.id) (hg : (if f.isG then L.gcd && S.gl x else gB L S x) = true) (hn : (e :: es).all nst = true) (ha : PA X (e :: es) (tLi T W fs)) :
    PE X (.Call (.Name x p) (e :: es) [] pos) (tEx T W fun ρ st => (fs ρ st).bind fun vs st => biD f vs st) := by
  subst hx
  by_cases hG : f = .gcd
  · subst hG
    have hg : (L.gcd && S.gl (Bi.id .gcd)) = true := hg
    simp only [Bool.and_eq_true] at hg
    exact ex_gcd (c.gl hg.2) (c.fh.gcd hg.1) hn ha
  · have hg : gB L S f.id = true := by cases f <;> first | exact hg | exact absurd rfl hG
    unfold gB at hg
    simp only [Bool.and_eq_true] at hg
    have g := c.gl hg.1
    have m := c.fh.blt f.id (by simpa using hg.2)
    cases f with
    | len => exact ex_biB (call_len_D c.hK) g m (by decide +kernel) hn ha (by decide +kernel) (by decide +kernel)
    | abs => exact ex_biB call_abs_D g m (by decide +kernel) hn ha (by decide +kernel) (by decide +kernel)
    | int => exact ex_biT call_int_D g m (by decide +kernel) hn ha (by decide +kernel) (by decide +kernel)
    | str => exact ex_biT call_str_D g m (by decide +kernel) hn ha (by decide +kernel) (by decide +kernel)
    | max2 => exact ex_biB (call_max2_D (c.calm hcm)) g m (by decide +kernel) hn ha (by decide +kernel) (by decide +kernel)
    | min2 => exact ex_biB (call_min2_D (c.calm hcm)) g m (by decide +kernel) hn ha (by decide +kernel) (by decide +kernel)
    | maxL => exact ex_biB (call_maxL_D (c.calm hcm)) g m (by decide +kernel) hn ha (by decide +kernel) (by decide +kernel)
    | minL => exact ex_biB (call_minL_D (c.calm hcm)) g m (by decide +kernel) hn ha (by decide +kernel) (by decide +kernel)
    | minD => exact ex_biB (call_minD_D c.hK (c.calm hcm) c.units) g m (by decide +kernel) hn ha (by decide +kernel) (by decide +kernel)
    | min2D => exact ex_biB (call_min2D_D c.hK (c.calm hcm) c.units) g m (by decide +kernel) hn ha (by decide +kernel) (by decide +kernel)
    | sum => exact ex_biB (call_sum_D c.hK (c.calm hcm)) g m (by decide +kernel) hn ha (by decide +kernel) (by decide +kernel)
    | gcd => exact absurd rfl hG
    | tuple => exact ex_biT (call_tuple_D c.hK) g m (by decide +kernel) hn ha (by decide +kernel) (by decide +kernel)
    | list => exact ex_biT (call_list_D c.hK) g m (by decide +kernel) hn ha (by decide +kernel) (by decide +kernel)
    | listM => exact ex_biT (call_listM_D c.hK) g m (by decide +kernel) hn ha (by decide +kernel) (by decide +kernel)
    | sorted => exact ex_biB call_sorted_D g m (by decide +kernel) hn ha (by decide +kernel) (by decide +kernel)
    | bool => cases h0
end
end DI
set_option Elab.async false
set_option linter.all false
set_option maxRecDepth 100000
set_option maxHeartbeats 4000000
set_option autoImplicit false
namespace DI
open PySem PySem.Spec PyProof.Rows L2
section
variable {X : Cx} {T : Tb} {L : Lw} {C : Cal} {S : Sc} {W : L2.St → XK}
theorem rel_names {scope sc : Scope} {nms : List (Str × NameKind)} (h : sc.names = nms) (k : sc.kind = .function) : (relS scope sc).names = relN nms scope.names := by
  unfold relS relN
  subst h
  simp only [k]
  congr 1
  funext x
  simp
theorem Cxo.sub {scope : Scope} (c : Cxo X T L C S) (h0 : S.calm = true) {own : List Nat} (hb : kBlk S own scope = true) (s : Shared) (H : Hp) (A : Addr) (cl : List (Str × Addr)) (fp : List Addr) : Cxo (X.blk s H scope (compEnvC scope cl A X.env) fp) T L C (S.sub scope) := by
  simp only [kBlk, Bool.and_eq_true] at hb
  refine ⟨⟨c.fh.blt, c.fh.fns, c.fh.cst, c.fh.gcd, fun z k ci h => ⟨(c.fh.cls z k ci h).mg, (c.fh.cls z k ci h).ox, (c.fh.cls z k ci h).ini⟩, c.fh.room, c.fh.fld, c.fh.inj, c.fh.xf, c.fh.hnd, c.fh.exc, c.fh.hcv, c.fh.hkt, c.fh.dcs⟩, c.N, c.nd, ?_, ?_, fun x hx => hx, c.hK, c.calm, c.units, fun a k d z => (by rw [c.xn h0] at z; cases z), c.xn⟩
  · exact rel_names c.nms c.kind
  · exact beq_iff_eq.mp hb.1.1.1.1
theorem blk_ok {scope : Scope} {own : List Nat} (c : Cxo X T L C S) (hb : kBlk S own scope = true) : ∃ ow : List (Str × Nat), ow.map (·.2) = own ∧ BlkOk X.N X.env.scope scope ow := by
  simp only [kBlk, Bool.and_eq_true] at hb
  obtain ⟨⟨⟨⟨h1, h2⟩, h3⟩, h4⟩, h5⟩ := hb
  refine ⟨own.map fun i => ((S.N[i]?).getD default, i), by rw [List.map_map]; exact List.map_id own, beq_iff_eq.mp h1, ?_, ?_, ?_, ?_⟩
  · intro y hy
    exact beq_iff_eq.mp (List.all_eq_true.mp h2 y hy)
  · intro p hp
    obtain ⟨i, hi, rfl⟩ := List.mem_map.mp hp
    have := List.all_eq_true.mp h3 i hi
    rw [c.N]
    obtain ⟨z, hz⟩ := Option.isSome_iff_exists.mp this
    simp [hz]
  · intro y hy e
    have := List.all_eq_true.mp h4 y hy
    rw [c.nms]
    simp only [e, beq_self_eq_true, Bool.not_true, Bool.false_or, Bool.or_eq_true, beq_iff_eq] at this
    exact this
  · intro y hy e
    have := List.all_eq_true.mp h5 y hy
    rw [c.N]
    have e' : (y.2 == .local || y.2 == .cell) = true := by
      rcases e with e | e <;> rw [e] <;> rfl
    rw [e', Bool.not_true, Bool.false_or, Bool.or_eq_true] at this
    rcases this with h | h
    · left
      obtain ⟨i, hi, hz⟩ := List.any_eq_true.mp h
      have hz : S.N[i]? = some y.1 := beq_iff_eq.mp hz
      exact List.mem_map.mpr ⟨_, List.mem_map.mpr ⟨i, hi, rfl⟩, by simp [hz]⟩
    · right
      simpa using h
mutual
theorem kTg_ok : ∀ (t : Tg) {e : Expr} {X : Cx} {S : Sc}, Cxo X T L C S → kTg S t e = true → PG X e (tTg T t)
  | .nm i, e, X, S, c, h => by
    simp only [kTg] at h
    split at h
    · simp only [Bool.and_eq_true, Bool.or_eq_true] at h
      obtain ⟨⟨h1, h2⟩, h3⟩ := h
      exact eg_name (c.N ▸ c.nd) (by rw [c.N]; exact beq_iff_eq.mp h1) (c.loc h2) (h3.imp (fun q => c.fn _ q) fun q => by rw [c.nms]; exact beq_iff_eq.mp q)
    · cases h
  | .tp ts, e, X, S, c, h => by
    simp only [kTg] at h
    split at h
    · simp only [Bool.and_eq_true] at h
      obtain ⟨⟨⟨h0, h1⟩, h2⟩, h3⟩ := h
      exact eg_tup c.hK (c.calm h0) h1 (beq_iff_eq.mp h2) (kTgs_ok ts c h1 h3)
    · cases h
theorem kTgs_ok : ∀ (ts : List Tg) {es : List Expr} {X : Cx} {S : Sc}, Cxo X T L C S → es.all asg1 = true → kTgs S ts es = true → PGs X es (tTgs T ts)
  | [], es, X, S, c, _, h => by
    cases es with
    | nil => exact egs_nil
    | cons _ _ => cases h
  | t :: ts, es, X, S, c, ha, h => by
    cases es with
    | nil => cases h
    | cons e es =>
      simp only [kTgs, Bool.and_eq_true] at h
      rw [List.all_cons, Bool.and_eq_true] at ha
      exact egs_cons ha.1 (kTg_ok t c h.1) (kTgs_ok ts c ha.2 h.2)
end
theorem ex_cst {d : D} {e : Expr} (c : Cxo X T L C S) (h : kCst L S d e = true) : PE X e (tEx T W fun _ st => .ok d st) := by
  have fin : ∀ {v : V} {σ : L2.St} {H : Hp} {Q : VK}, (∀ G μ, Rp T G μ v d) → tEx T W (fun _ st => .ok d st) σ H Q → tC v σ H Q := fun {v σ H Q} r q => by
    obtain ⟨G, μ, ρ, st, hr, er, p⟩ := q
    exact p.here hr (r G μ)
  have glob : ∀ {x : Str} {pos : Pos}, (S.gl x && notDbg x && (match L.cst.lookup x with | some d' => D.beq d d' | none => false)) = true → PE X (.Name x pos) (tEx T W fun _ st => .ok d st) := fun {x pos} h => by
    simp only [Bool.and_eq_true] at h
    obtain ⟨⟨h1, h2⟩, h3⟩ := h
    split at h3
    · rename_i d' hd
      obtain ⟨v, u, q1, q2, q3, _⟩ := c.fh.cst x d' hd
      cases D.eq_of _ _ h3
      exact pe_of (pe_glob (c.gl h1) q1 q2 (not_dbg h2)) fun σ H Q q => fin q3 q
    · cases h3
  unfold kCst at h
  split at h
  · have := beq_iff_eq.mp h
    subst this
    exact pe_of pe_int fun σ H Q q => fin (fun G μ => .int _) q
  · simp only [Bool.and_eq_true, decide_eq_true_eq] at h
    obtain ⟨⟨h1, h2⟩, h3⟩ := h
    have := beq_iff_eq.mp h1
    subst this
    exact pe_of pe_str fun σ H Q q => fin (fun G μ => .str _ ⟨h2, h3⟩) q
  · exact pe_of pe_non fun σ H Q q => fin (fun G μ => .non) q
  · have := beq_iff_eq.mp h
    subst this
    exact pe_of pe_bl fun σ H Q q => fin (fun G μ => .bl _) q
  · exact glob h
  · cases h
theorem ex_var {i : Nat} {x : Str} {pos : Pos} (c : Cxo X T L C S) (h : kVar S i x = true) : PE X (.Name x pos) (tEx T W (evE C (.var i))) := by
  simp only [kVar, Bool.and_eq_true, Bool.not_eq_true'] at h
  obtain ⟨⟨⟨h1, h2⟩, h3⟩, h4⟩ := h
  refine pe_of (pe_var (by rw [c.N]; exact beq_iff_eq.mp h1) (c.vis h2) (not_dbg h3) h4) fun σ H Q q => ?_
  obtain ⟨G, μ, ρ, st, hr, er, p⟩ := q
  simp only [evE] at p
  split at p
  · rename_i d hd
    obtain ⟨v, hv, rv⟩ := er.at_ i d hd
    exact ⟨v, hv, p.here hr rv⟩
  · exact p.elim
theorem pt_pw {op : BoolOp} {es : List Expr} {pos : Pos} {t : TT} (h : PT X (.BoolOp op es pos) t) : PW X (.BoolOp op es pos) t := ⟨fun _ pins s σ H Q I q => h.run pins s σ H Q I q⟩
theorem PA.nstE {es : List Expr} (h : es.all nst = true) : es.all nst = true := h
theorem ex_mth_ok {m : Mt} {x : Str} {as : List Expr} {o : Expr} {apos pos : Pos} {fa : Env → Sto → R D} {xs : List Ex} (h : kMt L m x as o apos pos = true) (hx : xs.length = as.length) (ha : PE X o (tEx T W fa)) (hs : PA X as (tLi T W (evEs C xs))) :
    PE X (.Call (.Attribute o x apos) as [] pos) (tEx T W (mthO m fa (evEs C xs))) := by
  simp only [kMt, Bool.and_eq_true] at h
  obtain ⟨⟨⟨h1, h2⟩, h3⟩, h4⟩ := h
  have nil0 : xs = [] → evEs C xs = fun _ st => .ok [] st := fun e => by subst e; rfl
  split at h4
  · have := beq_iff_eq.mp h4
    subst this
    exact ex_append h1 h2 (by simpa using h3) ha hs
  · have := beq_iff_eq.mp h4
    subst this
    exact ex_extend h1 h2 (by simpa using h3) ha hs
  · have := beq_iff_eq.mp h4
    subst this
    simp only [List.all_cons, List.all_nil, Bool.and_true, Bool.and_eq_true] at h3
    exact ex_insert h1 h2 h3.1 h3.2 ha hs
  · have := beq_iff_eq.mp h4
    subst this
    exact ex_popAt h1 h2 (by simpa using h3) ha hs
  · have := beq_iff_eq.mp h4
    subst this
    rw [nil0 (List.eq_nil_of_length_eq_zero hx)]
    exact ex_pop h1 h2 ha
  · have := beq_iff_eq.mp h4
    subst this
    rw [nil0 (List.eq_nil_of_length_eq_zero hx)]
    exact ex_reverse h1 h2 ha
  · have := beq_iff_eq.mp h4
    subst this
    rw [nil0 (List.eq_nil_of_length_eq_zero hx)]
    exact ex_bits h1 h2 ha
  · cases h4
theorem kEs_len : ∀ (xs : List Ex) {es : List Expr} {S : Sc}, kEs L S xs es = true → xs.length = es.length ∧ es.all nst = true := by
  intro xs
  induction xs with
  | nil =>
    intro es S h
    cases es with
    | nil => exact ⟨rfl, rfl⟩
    | cons _ _ => simp [kEs] at h
  | cons x xs ih =>
    intro es S h
    cases es with
    | nil => simp [kEs] at h
    | cons e es =>
      simp only [kEs, Bool.and_eq_true] at h
      obtain ⟨h1, h2⟩ := ih h.2
      exact ⟨congrArg Nat.succ h1, by rw [List.all_cons, h.1.1, h2]; rfl⟩
/-- a call of a def -/
theorem ex_call_ok {k : Nat} {i : FnI} {x : Str} {es : List Expr} {xs : List Ex} {p pos : Pos} (c : Cxo X T L C S) (hcm : S.calm = true) (hx : Hx X W) (hk : L.fns[k]? = some i) (e1 : i.nm = x) (g : S.gl x = true) (nd : notDbg x = true) (hl : xs.length = i.np) (hle : xs.length = es.length) (hn : es.all nst = true) (ha : PA X es (tLi T W (evEs C xs))) :
    PE X (.Call (.Name x p) es [] pos) (tEx T W fun ρ st => (evEs C xs ρ st).bind fun vs st => C.call k (permD vs (List.range i.np)) st) := by
  obtain ⟨f, fd, ps, n, m1, m2, m3, m4, F, _⟩ := c.fh.fns hcm k i hk
  subst e1
  have key : (fun ρ st => (evEs C xs ρ st).bind fun vs st => C.call k (permD vs (List.range i.np)) st) = fun ρ st => (evEs C xs ρ st).bind fun vs st => C.call k vs st := by
    funext ρ st
    cases h : evEs C xs ρ st with
    | ok vs st' =>
      have := evEs_len xs ρ st vs st' h
      simp only [R.bind]
      rw [← hl, ← this, range_perm]
    | err _ _ _ => rfl
    | bad => rfl
  rw [key]
  cases es with
  | nil =>
    have hxs : xs = [] := List.eq_nil_of_length_eq_zero hle
    subst hxs
    have h0 : i.np = 0 := hl.symm
    rw [h0] at F
    exact ex_call0 F m4 (c.gl g) m1 m2 m3 hx (not_dbg nd)
  | cons e es => exact ex_call F m4 (c.gl g) m1 m2 m3 hx (not_dbg nd) hn (fun ρ st vs st' h => (evEs_len xs ρ st vs st' h).trans hl) ha
theorem evEs_app : ∀ (as bs : List Ex) (ρ : Env) (st : Sto), evEs C (as ++ bs) ρ st = (evEs C as ρ st).bind fun vs st => (evEs C bs ρ st).bind fun ws st => .ok (vs ++ ws) st
  | [], bs, ρ, st => by
    show evEs C bs ρ st = (evEs C bs ρ st).bind fun ws st => .ok ([] ++ ws) st
    cases evEs C bs ρ st <;> rfl
  | a :: as, bs, ρ, st => by
    rw [List.cons_append]
    simp only [evEs]
    cases evE C a ρ st with
    | ok d s1 =>
      simp only [R.bind]
      rw [evEs_app as bs]
      cases evEs C as ρ s1 with
      | ok vs s2 =>
        simp only [R.bind]
        cases evEs C bs ρ s2 <;> rfl
      | err _ _ _ => rfl
      | bad => rfl
    | err _ _ _ => rfl
    | bad => rfl
theorem kwOk_lt {ps ks : List Str} {n0 : Nat} {pm : List Nat} (h : kwOk ps n0 ks pm = true) : ∀ j ∈ pm, j < n0 + ks.length := by
  simp only [kwOk, Bool.and_eq_true, decide_eq_true_eq] at h
  obtain ⟨⟨⟨⟨k1, k2⟩, k3⟩, k4⟩, k5⟩ := h
  intro j hj
  rw [beq_iff_eq.mp k5] at hj
  rcases List.mem_append.mp hj with hj | hj
  · have := List.mem_range.mp hj; omega
  · obtain ⟨p, hp, rfl⟩ := List.mem_map.mp hj
    have : p ∈ ks := by simpa using List.all_eq_true.mp k4 p hp
    have := List.idxOf_lt_length_of_mem this
    omega
theorem names_len : ∀ {kws : List Keyword}, kws.all (fun k => k.arg.isSome) = true → (kws.filterMap (·.arg)).length = kws.length
  | [], _ => rfl
  | ⟨some n, e, p⟩ :: kws, h => by
    rw [List.filterMap_cons]
    simp only [List.length_cons]
    rw [names_len (kws := kws) (by simpa using h)]
  | ⟨none, e, p⟩ :: kws, h => by simp at h
/-- a call of a def with keywords -/
theorem ex_callk_ok {k : Nat} {i : FnI} {x : Str} {es : List Expr} {kws : List Keyword} {xs : List Ex} {pm : List Nat} {p pos : Pos} (c : Cxo X T L C S) (hcm : S.calm = true) (hx : Hx X W) (hk : L.fns[k]? = some i) (e1 : i.nm = x) (g : S.gl x = true) (nd : notDbg x = true) (hl : xs.length = i.np) (hp : pm.length = i.np) (hkw : kwOk i.ps es.length (kws.filterMap (·.arg)) pm = true)
    (hle : xs.length = es.length + kws.length) (hn : es.all nst = true) (hka : kws.all (fun k => k.arg.isSome) = true) (ha : PA X es (tLi T W (evEs C (xs.take es.length)))) (hkk : PK X kws (tLi T W (evEs C (xs.drop es.length)))) :
    PE X (.Call (.Name x p) es kws pos) (tEx T W (evE C (.call k xs pm))) := by
  obtain ⟨f, fd, ps, n, m1, m2, m3, m4, F, KB⟩ := c.fh.fns hcm k i hk
  subst e1
  have kb := KB _ _ _ hkw
  have nl := names_len hka
  have key : evE C (.call k xs pm) = fun ρ st => (evEs C (xs.take es.length) ρ st).bind fun ds st => (evEs C (xs.drop es.length) ρ st).bind fun ws st => C.call k (permD (ds ++ ws) pm) st := by
    funext ρ st
    rw [evE]
    conv => lhs; rw [← List.take_append_drop es.length xs, evEs_app]
    cases evEs C (xs.take es.length) ρ st with
    | ok vs s1 =>
      simp only [R.bind]
      cases evEs C (xs.drop es.length) ρ s1 <;> rfl
    | err _ _ _ => rfl
    | bad => rfl
  rw [key]
  have l1 : ∀ ρ st vs st', evEs C (xs.take es.length) ρ st = .ok vs st' → vs.length = es.length := fun ρ st vs st' h => by
    rw [evEs_len _ ρ st vs st' h, List.length_take]; omega
  have l2 : ∀ ρ st vs st', evEs C (xs.drop es.length) ρ st = .ok vs st' → vs.length = (kws.filterMap (·.arg)).length := fun ρ st vs st' h => by
    rw [evEs_len _ ρ st vs st' h, List.length_drop, nl]; omega
  cases es with
  | nil =>
    have e0 : (fun ρ st => (evEs C (xs.take ([] : List Expr).length) ρ st).bind fun ds st => (evEs C (xs.drop ([] : List Expr).length) ρ st).bind fun ws st => C.call k (permD (ds ++ ws) pm) st) = fun ρ st => (evEs C (xs.drop ([] : List Expr).length) ρ st).bind fun ws st => C.call k (permD ws pm) st := by
      funext ρ st
      rfl
    rw [e0]
    exact ex_callK0 F m4 (c.gl g) m1 m2 kb hx (not_dbg nd) hka l2 hp (kwOk_lt hkw) hkk
  | cons e es => exact ex_callK F m4 (c.gl g) m1 m2 kb hx (not_dbg nd) hn hka l1 l2 hp (kwOk_lt hkw) ha hkk
theorem ex_tix_ok {ds : List D} {y : Str} {p apos pos : Pos} {es : List Expr} {xs : List Ex} (c : Cxo X T L C S) (h1 : attB (.Name y p) = true) (h2 : (apos.endLine == pos.line) = true) (h3 : (es.length == 1) = true) (h4 : S.gl y = true) (h5 : notDbg y = true) (h6 : (match L.cst.lookup y with | some d' => D.beq (.tup ds) d' | none => false) = true) (hn : es.all nst = true) (hs : PA X es (tLi T W (evEs C xs))) :
    PE X (.Call (.Attribute (.Name y p) "index" apos) es [] pos) (tEx T W (evE C (.mth .tix (.cst (.tup ds)) xs))) := by
  split at h6
  · rename_i d' hd
    cases D.eq_of _ _ h6
    obtain ⟨v, u, q1, q2, q3, q4⟩ := c.fh.cst y _ hd
    obtain ⟨a, o, e1, e2, e3, e4⟩ := q4 ds rfl
    match es, h3 with
    | [e], _ =>
      have hn : nst e = true := by simpa using hn
      exact ex_tix c.hK c.units h1 h2 hn (pe_glob (c.gl h4) q1 q2 (not_dbg h5)) q3 (fun H => by rw [e1]; exact .inr (.inl ⟨rfl, o, e2, e3, e4⟩)) hs
  · cases h6
theorem beq_pairs : ∀ {a b : List (D × D)}, D.beqL (a.map (·.1)) (b.map (·.1)) = true → D.beqL (a.map (·.2)) (b.map (·.2)) = true → a = b := fun {a b} h1 h2 => by
  have e1 := D.eqL_of _ _ h1
  have e2 := D.eqL_of _ _ h2
  clear h1 h2
  induction a generalizing b with
  | nil => cases b with
    | nil => rfl
    | cons _ _ => simp at e1
  | cons p a ih => cases b with
    | nil => simp at e1
    | cons q b =>
      simp only [List.map_cons, List.cons.injEq] at e1 e2
      rw [ih e1.2 e2.2, Prod.ext e1.1 e2.1]
theorem kdL_ok {x : Str} {kvs : List (D × D)} {ms : List D} (c : Cxo X T L C S) (h : kdL L x kvs ms = true) : KdF X.K X.w T X.mg x kvs ms := by
  unfold kdL at h
  split at h
  · rename_i p hp
    simp only [Bool.and_eq_true] at h
    have e1 := beq_pairs h.1.1 h.1.2
    have e2 := D.eqL_of _ _ h.2
    rw [e1, e2]
    exact c.fh.dcs x p hp
  · cases h
theorem isi_ok {ts : List Ty} {x : Str} {l q : Expr} {fa : Env → Sto → R D} {p pos : Pos} (c : Cxo X T L C S) (hx : (x == ("isinstance" : Str)) = true) (hg : gB L S x = true) (hn : nst l = true) (ha : PE X l (tEx T W fa))
    (h : (match q with
      | .Tuple cs _ _ => cs.length == ts.length && decide (ts.length ≤ 1000) && !ts.isEmpty && (cs.zip ts).all (fun p => tyLit p.2 p.1)
      | c => (match ts with | [t] => tyLit t c | _ => false)) = true) (hb : ts.all Ty.blt = true) (ht : ts.all (fun t => gB L S t.id) = true) : PE X (.Call (.Name x p) [l, q] [] pos) (tEx T W (isiO C.anc ts fa)) := by
  have hx := beq_iff_eq.mp hx
  subst hx
  unfold gB at hg
  simp only [Bool.and_eq_true] at hg
  have g1 := c.gl hg.1
  have g2 := c.fh.blt _ (by simpa using hg.2 : ("isinstance" : Str) ∈ L.blt)
  have gt : ∀ t ∈ ts, Gl X t.id ∧ X.mg t.id = none := fun t hmem => by
    have := List.all_eq_true.mp ht t hmem
    unfold gB at this
    simp only [Bool.and_eq_true] at this
    exact ⟨c.gl this.1, c.fh.blt _ (by simpa using this.2)⟩
  split at h
  · simp only [Bool.and_eq_true, decide_eq_true_eq] at h
    obtain ⟨⟨⟨h1, h2⟩, h3⟩, h4⟩ := h
    exact ex_isiT c.hK hb (by simpa using h3) h2 (beq_iff_eq.mp h1) h4 gt g1 g2 hn ha
  · split at h
    · obtain ⟨k1, k2⟩ := gt _ (List.mem_cons_self ..)
      exact ex_isi1 c.hK (by simpa using hb) h k1 k2 g1 g2 hn ha
    · cases h
theorem pe_hn {k : Nat} {q : Expr} (c : Cxo X T L C S) (h : kHn L S k q = true) : nst q = true ∧ PE X q (tC (cvV (T.hv k))) ∧ cvOk (T.hv k) = true := by
  unfold kHn at h
  split at h
  · simp only [Bool.and_eq_true] at h
    obtain ⟨⟨h1, h2⟩, h3⟩ := h
    have hk := beq_iff_eq.mp h1
    have hc := c.fh.hcv k _ hk
    refine ⟨rfl, ?_, hc⟩
    rcases (c.fh.hnd k _ hk).1 with hm | ⟨hm, hb, hn⟩
    · exact pe_glob (c.gl h2) hm (cv_rel hc).1 (not_dbg h3)
    · exact pe_bltn (c.gl h2) hm hb (cv_rel hc).1 hn (not_dbg h3)
  · cases h
theorem isx_ok {i : Nat} {ks : List Nat} {f x : Str} {q : Expr} {p p1 pos : Pos} (c : Cxo X T L C S) (h1 : (f == ("isinstance" : Str)) = true) (h2 : gB L S f = true) (h3 : kVar S i x = true) (h4 : (match q with
      | .Tuple cs _ _ => cs.length == ks.length && decide (ks.length ≤ 1000) && (cs.zip ks).all (fun p => kHn L S p.2 p.1)
      | q => (match ks with | [k] => kHn L S k q | _ => false)) = true) : PE X (.Call (.Name f p1) [.Name x p, q] [] pos) (tEx T W (evE C (.isx i ks))) := by
  have h1 := beq_iff_eq.mp h1
  subst h1
  unfold gB at h2
  simp only [Bool.and_eq_true] at h2
  simp only [kVar, Bool.and_eq_true, Bool.not_eq_true'] at h3
  obtain ⟨⟨⟨k1, k2⟩, k3⟩, k4⟩ := h3
  have base : PE X (.Name x p) (tVar i) := pe_var (by rw [c.N]; exact beq_iff_eq.mp k1) (c.vis k2) (not_dbg k3) k4
  have hbl : X.mg "isinstance" = none := c.fh.blt _ (by simpa using h2.2)
  split at h4
  · rename_i cs kk p2
    simp only [Bool.and_eq_true, decide_eq_true_eq] at h4
    obtain ⟨⟨l1, l2⟩, l3⟩ := h4
    have l1 := beq_iff_eq.mp l1
    have each : ∀ r ∈ cs.zip ks, nst r.1 = true ∧ PE X r.1 (tC (cvV (T.hv r.2))) ∧ cvOk (T.hv r.2) = true := fun r hr => pe_hn c (List.all_eq_true.mp l3 r hr)
    refine ex_isx c.xa c.hK c.fh.exc c.fh.hkt (fun k hk => ?_) (c.gl h2.1) hbl base (.inr ⟨cs, kk, p2, rfl, l1, fun r hr => ⟨(each r hr).1, (each r hr).2.1⟩, l2⟩)
    obtain ⟨j, hj⟩ := List.mem_iff_getElem?.mp hk
    have hlt : j < cs.length := by rw [l1]; exact (List.getElem?_eq_some_iff.mp hj).1
    have hz : (cs.zip ks)[j]? = some (cs[j], k) := by
      rw [List.getElem?_zip_eq_some]
      exact ⟨List.getElem?_eq_getElem hlt, hj⟩
    exact (each _ (List.mem_of_getElem? hz)).2.2
  · split at h4
    · obtain ⟨n1, n2, n3⟩ := pe_hn c h4
      exact ex_isx c.xa c.hK c.fh.exc c.fh.hkt (fun k hk => by rw [List.mem_singleton.mp hk]; exact n3) (c.gl h2.1) hbl base (.inl ⟨_, rfl, n1, n2⟩)
    · cases h4
mutual
theorem kE_ok : ∀ (x : Ex) {t : Bool} {e : Expr} {X : Cx} {S : Sc} {W : L2.St → XK}, Cxo X T L C S → Hx X W → kE L t S x e = true → Gd t X T W e (evE C x)
  | .var i, t, e, X, S, W, c, hx, h => by
    simp only [kE] at h
    split at h
    · exact Gd.plain c.hK rfl (ex_var c h) t
    · cases h
  | .cst d, t, e, X, S, W, c, hx, h => by
    simp only [kE, Bool.and_eq_true] at h
    exact Gd.plain c.hK h.1 (ex_cst c h.2) t
  | .tup xs, t, e, X, S, W, c, hx, h => by
    simp only [kE] at h
    split at h
    · exact Gd.plain c.hK rfl (ex_tup (kEs_ok xs c hx h)) t
    · cases h
  | .lst mu xs, t, e, X, S, W, c, hx, h => by
    simp only [kE] at h
    split at h
    · exact Gd.plain c.hK rfl (ex_lst mu (kEs_ok xs c hx h)) t
    · cases h
  | .bin op a b, t, e, X, S, W, c, hx, h => by
    simp only [kE] at h
    split at h
    · simp only [Bool.and_eq_true, decide_eq_true_eq] at h
      obtain ⟨⟨rfl, h1⟩, h2⟩ := h
      exact Gd.plain c.hK rfl (ex_bin c.hK op (kE_ok a (t := false) c hx h1) (kE_ok b (t := false) c hx h2)) t
    · cases h
  | .neg a, t, e, X, S, W, c, hx, h => by
    simp only [kE] at h
    split at h
    · simp only [Bool.and_eq_true, Bool.not_eq_true'] at h
      obtain ⟨rfl, h1⟩ := h
      exact ex_neg (kE_ok a (t := false) c hx h1)
    · cases h
  | .cmp op a b, t, e, X, S, W, c, hx, h => by
    simp only [kE] at h
    split at h
    · simp only [Bool.and_eq_true, decide_eq_true_eq, Bool.not_eq_true'] at h
      obtain ⟨⟨⟨rfl, h0⟩, h1⟩, h2⟩ := h
      cases t with
      | true => exact et_cmp c.hK c.units op h0 (kE_ok a (t := false) c hx h1) (kE_ok b (t := false) c hx h2)
      | false => exact ex_cmp c.hK c.units op h0 (kE_ok a (t := false) c hx h1) (kE_ok b (t := false) c hx h2)
    · cases h
  | .is_ op a, t, e, X, S, W, c, hx, h => by
    simp only [kE] at h
    split at h
    · simp only [Bool.and_eq_true, decide_eq_true_eq] at h
      obtain ⟨⟨rfl, h0⟩, h1⟩ := h
      cases t with
      | true => exact et_is h0 (kE_ok a (t := false) c hx h1)
      | false => exact ex_is h0 (kE_ok a (t := false) c hx h1)
    · cases h
  | .chain op op' a b q, t, e, X, S, W, c, hx, h => by
    simp only [kE] at h
    split at h
    · simp only [Bool.and_eq_true, decide_eq_true_eq, Bool.not_eq_true'] at h
      obtain ⟨⟨⟨⟨⟨rfl, rfl⟩, h0⟩, h1⟩, h2⟩, h3⟩ := h
      cases t with
      | true => exact et_chain c.hK c.units op op' h0 (kE_ok a (t := false) c hx h1) (kE_ok b (t := false) c hx h2) (kE_ok q (t := false) c hx h3)
      | false => exact ex_chain c.hK c.units op op' h0 (kE_ok a (t := false) c hx h1) (kE_ok b (t := false) c hx h2) (kE_ok q (t := false) c hx h3)
    · cases h
  | .and a b, t, e, X, S, W, c, hx, h => by
    simp only [kE] at h
    split at h
    · simp only [Bool.and_eq_true] at h
      cases t with
      | true => exact (et_and (kE_ok a (t := true) c hx h.1) (pw_and1 (kE_ok b (t := true) c hx h.2))).pt
      | false => exact ex_and c.hK (kE_ok a (t := false) c hx h.1) (pe_one (kE_ok b (t := false) c hx h.2))
    · simp only [Bool.and_eq_true] at h
      cases t with
      | true => exact (et_and (kE_ok a (t := true) c hx h.1) (pt_pw (kE_ok b (t := true) c hx h.2))).pt
      | false => exact ex_and c.hK (kE_ok a (t := false) c hx h.1) (kE_ok b (t := false) c hx h.2)
    · cases h
  | .or a b, t, e, X, S, W, c, hx, h => by
    simp only [kE] at h
    split at h
    · simp only [Bool.and_eq_true] at h
      cases t with
      | true => exact (et_or (kE_ok a (t := true) c hx h.1) (pw_or1 (kE_ok b (t := true) c hx h.2))).pt
      | false => exact ex_or c.hK (kE_ok a (t := false) c hx h.1) (pe_one (kE_ok b (t := false) c hx h.2))
    · simp only [Bool.and_eq_true] at h
      cases t with
      | true => exact (et_or (kE_ok a (t := true) c hx h.1) (pt_pw (kE_ok b (t := true) c hx h.2))).pt
      | false => exact ex_or c.hK (kE_ok a (t := false) c hx h.1) (kE_ok b (t := false) c hx h.2)
    · cases h
  | .not a, t, e, X, S, W, c, hx, h => by
    simp only [kE] at h
    split at h
    · cases t with
      | true => exact et_not (kE_ok a (t := true) c hx h)
      | false => exact ex_not c.hK (kE_ok a (t := false) c hx h)
    · cases h
  | .ife q a b, t, e, X, S, W, c, hx, h => by
    simp only [kE] at h
    split at h
    · simp only [Bool.and_eq_true, Bool.not_eq_true'] at h
      obtain ⟨⟨⟨rfl, h1⟩, h2⟩, h3⟩ := h
      exact ex_ife (ga := fun _ _ => .bad) c.hK (kE_ok q (t := true) c hx h1) (kE_ok a (t := false) c hx h2) (kE_ok b (t := false) c hx h3)
    · cases h
  | .idx a b, t, e, X, S, W, c, hx, h => by
    simp only [kE] at h
    split at h
    · simp only [Bool.and_eq_true] at h
      exact Gd.plain c.hK rfl (ex_idx c.hK c.units h.1.1 (kE_ok a (t := false) c hx h.1.2) (kE_ok b (t := false) c hx h.2)) t
    · cases h
  | .cat a b, t, e, X, S, W, c, hx, h => by
    simp only [kE] at h
    split at h
    · simp only [Bool.and_eq_true] at h
      exact Gd.plain c.hK rfl (ex_cat (kE_ok a (t := false) c hx h.1) (kE_ok b (t := false) c hx h.2)) t
    · cases h
  | .dg1 o k, t, e, X, S, W, c, hx, h => by
    simp only [kE] at h
    split at h
    · simp only [Bool.and_eq_true] at h
      obtain ⟨⟨⟨⟨⟨h1, h2⟩, h3⟩, h4⟩, h5⟩, h6⟩ := h
      have h1 := beq_iff_eq.mp h1
      subst h1
      have := c.units
      exact Gd.plain c.hK rfl (ex_dg1 (by omega) h2 h3 h4 (kE_ok o (t := false) c hx h5) (kE_ok k (t := false) c hx h6)) t
    · cases h
  | .dg2 o k d, t, e, X, S, W, c, hx, h => by
    simp only [kE] at h
    split at h
    · simp only [Bool.and_eq_true] at h
      obtain ⟨⟨⟨⟨⟨⟨⟨h1, h2⟩, h3⟩, h4⟩, h5⟩, h6⟩, h7⟩, h8⟩ := h
      have h1 := beq_iff_eq.mp h1
      subst h1
      have := c.units
      exact Gd.plain c.hK rfl (ex_dg2 (by omega) h2 h3 h4 h5 (kE_ok o (t := false) c hx h6) (kE_ok k (t := false) c hx h7) (kE_ok d (t := false) c hx h8)) t
    · cases h
  | .tg1 kvs ms k, t, e, X, S, W, c, hx, h => by
    simp only [kE] at h
    split at h
    · simp only [Bool.and_eq_true] at h
      obtain ⟨⟨⟨⟨⟨⟨h1, h2⟩, h3⟩, h4⟩, h5⟩, h6⟩, h7⟩ := h
      have h1 := beq_iff_eq.mp h1
      subst h1
      exact Gd.plain c.hK rfl (ex_tg1 (kdL_ok c h6) (c.gl h4) (not_dbg h5) h2 h3 (kE_ok k (t := false) c hx h7)) t
    · cases h
  | .tg2 kvs ms k d, t, e, X, S, W, c, hx, h => by
    simp only [kE] at h
    split at h
    · simp only [Bool.and_eq_true] at h
      obtain ⟨⟨⟨⟨⟨⟨⟨⟨h1, h2⟩, h3⟩, h4⟩, h5⟩, h6⟩, h7⟩, h8⟩, h9⟩ := h
      have h1 := beq_iff_eq.mp h1
      subst h1
      exact Gd.plain c.hK rfl (ex_tg2 (kdL_ok c h7) (c.gl h5) (not_dbg h6) h2 h3 h4 (kE_ok k (t := false) c hx h8) (kE_ok d (t := false) c hx h9)) t
    · cases h
  | .tix kvs k, t, e, X, S, W, c, hx, h => by
    simp only [kE] at h
    split at h
    · simp only [Bool.and_eq_true] at h
      obtain ⟨⟨⟨⟨h1, h2⟩, h3⟩, h4⟩, h5⟩ := h
      split at h4
      · exact Gd.plain c.hK rfl (ex_tix2 (kdL_ok c h4) (c.gl h2) (not_dbg h3) h1 (kE_ok k (t := false) c hx h5)) t
      · cases h4
    · cases h
  | .dcp a, t, e, X, S, W, c, hx, h => by
    simp only [kE] at h
    split at h
    · simp only [Bool.and_eq_true] at h
      obtain ⟨⟨⟨⟨h0, h1⟩, h2⟩, h3⟩, h4⟩ := h
      have h1 := beq_iff_eq.mp h1
      subst h1
      unfold gB at h2
      simp only [Bool.and_eq_true] at h2
      exact Gd.plain c.hK rfl (ex_dcp c.hK (c.calm h0) (c.gl h2.1) (c.fh.blt _ (by simpa using h2.2)) h3 (kE_ok a (t := false) c hx h4)) t
    · cases h
  | .rev mu a, t, e, X, S, W, c, hx, h => by
    simp only [kE] at h
    split at h
    · exact Gd.plain c.hK rfl (ex_rev c.hK mu (kE_ok a (t := false) c hx h)) t
    · cases h
  | .slc mu a lo hi, t, e, X, S, W, c, hx, h => by
    simp only [kE] at h
    split at h
    · simp only [Bool.and_eq_true] at h
      exact Gd.plain c.hK rfl (ex_slc c.hK mu (kE_ok a (t := false) c hx h.1.1) (kO_ok lo c hx h.1.2) (kO_ok hi c hx h.2)) t
    · cases h
  | .call k xs pm, t, e, X, S, W, c, hx, h => by
    simp only [kE] at h
    split at h
    · split at h
      · rename_i i hk
        simp only [Bool.and_eq_true] at h
        obtain ⟨⟨⟨⟨⟨⟨h0, h1⟩, h2⟩, h3⟩, h4⟩, h5⟩, h6⟩ := h
        have h5 := beq_iff_eq.mp h5
        subst h5
        obtain ⟨k1, k2⟩ := kEs_len xs h6
        exact Gd.plain c.hK rfl (ex_call_ok c h0 hx hk (beq_iff_eq.mp h1) h2 h3 (beq_iff_eq.mp h4) k1 k2 (kEs_ok xs c hx h6)) t
      · cases h
    · split at h
      · rename_i i hk
        simp only [Bool.and_eq_true] at h
        obtain ⟨⟨⟨⟨⟨⟨⟨h0, h1⟩, h2⟩, h3⟩, h4⟩, h5⟩, h6⟩, h7⟩ := h
        obtain ⟨k1, k2, k3, k4, k5⟩ := kEk_ok xs c hx h7
        exact Gd.plain c.hK rfl (ex_callk_ok c h0 hx hk (beq_iff_eq.mp h1) h2 h3 (beq_iff_eq.mp h4) (beq_iff_eq.mp h5) h6 k3 k4 k5 k1 k2) t
      · cases h
    · cases h
  | .dct ks xs, t, e, X, S, W, c, hx, h => by
    simp only [kE] at h
    split at h
    · simp only [Bool.and_eq_true, decide_eq_true_eq] at h
      obtain ⟨⟨⟨⟨⟨h1, h2⟩, h3⟩, h4⟩, h5⟩, h6⟩ := h
      have hl := (kEs_len xs h6).1
      exact Gd.plain c.hK rfl (ex_dct h1 (beq_iff_eq.mp h2) hl (beq_iff_eq.mp h3) h4 h5 (kEs_each xs c hx h6)) t
    · cases h
  | .bi f xs, t, e, X, S, W, c, hx, h => by
    simp only [kE] at h
    split at h
    · simp only [Bool.and_eq_true] at h
      obtain ⟨⟨⟨⟨h0, h1⟩, h2⟩, h3⟩, h4⟩ := h
      exact Gd.plain c.hK rfl (ex_bi_ok c h0 h1 (beq_iff_eq.mp h2) h3 (kEs_len xs h4).2 (kEs_ok xs c hx h4)) t
    · cases h
  | .isi a ts, t, e, X, S, W, c, hx, h => by
    simp only [kE] at h
    split at h
    · simp only [Bool.and_eq_true] at h
      obtain ⟨⟨⟨⟨⟨⟨h1, h2⟩, h3⟩, h4⟩, h5⟩, h6⟩, h7⟩ := h
      exact Gd.plain c.hK rfl (isi_ok c h1 h2 h3 (kE_ok a (t := false) c hx h4) h7 h5 h6) t
    · cases h
  | .mth m o xs, t, e, X, S, W, c, hx, h => by
    simp only [kE] at h
    split at h
    · split at h
      · simp only [Bool.and_eq_true] at h
        obtain ⟨⟨⟨⟨⟨⟨⟨h1, h2⟩, h3⟩, h4⟩, h5⟩, h6⟩, h7⟩, h8⟩ := h
        cases beq_iff_eq.mp h1
        exact Gd.plain c.hK rfl (ex_tix_ok c h2 h3 h4 h5 h6 h7 (kEs_len xs h8).2 (kEs_ok xs c hx h8)) t
      · cases h
      · simp only [Bool.and_eq_true] at h
        obtain ⟨⟨h1, h2⟩, h3⟩ := h
        exact Gd.plain c.hK rfl (ex_mth_ok h1 (kEs_len xs h3).1 (kE_ok o (t := false) c hx h2) (kEs_ok xs c hx h3)) t
    · cases h
  | .lc mu tg it cs x own, t, e, X, S, W, c, hx, h => by
    simp only [kE] at h
    split at h
    · simp only [Bool.and_eq_true] at h
      obtain ⟨⟨⟨⟨⟨⟨⟨h0, h1⟩, h2⟩, h3⟩, h4⟩, h5⟩, h6⟩, h7⟩ := h
      obtain ⟨ow, rfl, ok⟩ := blk_ok c h3
      exact Gd.plain c.hK rfl (ex_lc h1 (c.calm h0) (c.N ▸ c.nd) h2 (kI_ok it c hx h4) ok (fun s H A cl fp => kTg_ok tg (c.sub h0 h3 s H A cl fp) h5)
        (fun s H A cl fp => kC_ok cs (c.sub h0 h3 s H A cl fp) h6) (fun s H A cl fp => kE_ok x (t := false) (c.sub h0 h3 s H A cl fp) hx_no h7)) t
    · cases h
  | .fld a f, t, e, X, S, W, c, hx, h => by
    simp only [kE] at h
    split at h
    · rename_i i x p n pos
      simp only [Bool.and_eq_true] at h
      obtain ⟨h1, h2⟩ := h
      simp only [kVar, Bool.and_eq_true, Bool.not_eq_true'] at h1
      obtain ⟨⟨⟨k1, k2⟩, k3⟩, k4⟩ := h1
      have hf := beq_iff_eq.mp h2
      have en := c.fh.fld f n hf
      have e : evE C (.fld (.var i) f) = fun ρ st => match ρ[i]? with
        | some (some (.exc _ fs)) => R.of (fs.lookup f) st
        | _ => .bad := by
        funext ρ st
        simp only [evE]
        cases ρ[i]? with
        | none => rfl
        | some o => cases o with
          | none => rfl
          | some d => cases d <;> rfl
      rw [e]
      subst en
      exact Gd.plain c.hK rfl (ex_fld c.xa c.hK (fun q hq => ⟨(c.fh.xf q hq).1, (c.fh.xf q hq).2 _ (List.mem_of_getElem? hf)⟩) c.fh.inj (by rw [c.N]; exact beq_iff_eq.mp k1) (c.vis k2) k3 k4) t
    · cases h
  | .isx i ks, t, e, X, S, W, c, hx, h => by
    simp only [kE] at h
    split at h
    · simp only [Bool.and_eq_true] at h
      obtain ⟨⟨⟨h1, h2⟩, h3⟩, h4⟩ := h
      exact Gd.plain c.hK rfl (isx_ok c h1 h2 h3 h4) t
    · cases h
theorem kEk_ok : ∀ (xs : List Ex) {es : List Expr} {kws : List Keyword} {X : Cx} {S : Sc} {W : L2.St → XK}, Cxo X T L C S → Hx X W → kEk L S xs es kws = true → PA X es (tLi T W (evEs C (xs.take es.length))) ∧ PK X kws (tLi T W (evEs C (xs.drop es.length))) ∧ xs.length = es.length + kws.length ∧ es.all nst = true ∧ kws.all (fun k => k.arg.isSome) = true
  | [], es, kws, X, S, W, c, hx, h => by
    simp only [kEk, Bool.and_eq_true, List.isEmpty_iff] at h
    obtain ⟨rfl, rfl⟩ := h
    exact ⟨ea_nil, ek_nil, rfl, rfl, rfl⟩
  | x :: xs, es, kws, X, S, W, c, hx, h => by
    cases es with
    | cons e es =>
      simp only [kEk, Bool.and_eq_true] at h
      obtain ⟨⟨h1, h2⟩, h3⟩ := h
      obtain ⟨k1, k2, k3, k4, k5⟩ := kEk_ok xs c hx h3
      exact ⟨ea_cons h1 (kE_ok x (t := false) c hx h2) k1, k2, by simp only [List.length_cons]; omega, by rw [List.all_cons, h1, k4]; rfl, k5⟩
    | nil =>
      cases kws with
      | nil => simp [kEk] at h
      | cons kw kws =>
        obtain ⟨nm, e, kp⟩ := kw
        cases nm with
        | none => simp [kEk] at h
        | some nm =>
          simp only [kEk, Bool.and_eq_true] at h
          obtain ⟨k1, k2, k3, k4, k5⟩ := kEk_ok xs c hx h.2
          refine ⟨ea_nil, ek_cons (kE_ok x (t := false) c hx h.1) k2, by simp only [List.length_cons, List.length_nil] at k3 ⊢; omega, rfl, by rw [List.all_cons, k5]; rfl⟩
theorem kEs_each : ∀ (xs : List Ex) {es : List Expr} {X : Cx} {S : Sc} {W : L2.St → XK}, Cxo X T L C S → Hx X W → kEs L S xs es = true → ∀ (i : Nat) (x : Ex) (e : Expr), xs[i]? = some x → es[i]? = some e → PE X e (tEx T W (evE C x))
  | [], es, X, S, W, c, hx, h, i, x, e, hi, _ => by simp at hi
  | x :: xs, es, X, S, W, c, hx, h, i, y, e, hi, he => by
    cases es with
    | nil => simp at he
    | cons e0 es =>
      simp only [kEs, Bool.and_eq_true] at h
      cases i with
      | zero =>
        simp at hi he
        subst hi he
        exact kE_ok x (t := false) c hx h.1.2
      | succ i => exact kEs_each xs c hx h.2 i y e (by simpa using hi) (by simpa using he)
theorem kEs_ok : ∀ (xs : List Ex) {es : List Expr} {X : Cx} {S : Sc} {W : L2.St → XK}, Cxo X T L C S → Hx X W → kEs L S xs es = true → PA X es (tLi T W (evEs C xs))
  | [], es, X, S, W, c, hx, h => by
    cases es with
    | nil => exact ea_nil
    | cons _ _ => simp [kEs] at h
  | x :: xs, es, X, S, W, c, hx, h => by
    cases es with
    | nil => simp [kEs] at h
    | cons e es =>
      simp only [kEs, Bool.and_eq_true] at h
      exact ea_cons h.1.1 (kE_ok x (t := false) c hx h.1.2) (kEs_ok xs c hx h.2)
theorem kO_ok : ∀ (x : Option Ex) {e : Option Expr} {X : Cx} {S : Sc} {W : L2.St → XK}, Cxo X T L C S → Hx X W → kO L S x e = true → PO X e (tOo T W (evO C x))
  | none, e, X, S, W, c, hx, h => by
    cases e with
    | none => exact eo_none
    | some _ => simp [kO] at h
  | some x, e, X, S, W, c, hx, h => by
    cases e with
    | none => simp [kO] at h
    | some e => exact eo_some (kE_ok x (t := false) c hx (by simpa [kO] using h))
theorem kC_ok : ∀ (cs : List Ex) {es : List Expr} {X : Cx} {S : Sc}, Cxo X T L C S → kC L S cs es = true → PTs X es (tBo T WN (evCs C cs))
  | [], es, X, S, c, h => by
    cases es with
    | nil => exact ets_nil
    | cons _ _ => simp [kC] at h
  | x :: xs, es, X, S, c, h => by
    simp only [kC] at h
    split at h
    · simp only [Bool.and_eq_true, List.isEmpty_iff] at h
      obtain ⟨h1, rfl⟩ := h
      exact ets_one (kE_ok x (t := true) c hx_no h1)
    · cases h
theorem kI_ok : ∀ (it : Ir) {tg e : Expr} {X : Cx} {S : Sc} {W : L2.St → XK}, Cxo X T L C S → Hx X W → kI L S it tg e = true → PI X tg e (tIt T W (evIt C it))
  | .seq x, tg, e, X, S, W, c, hx, h => ei_seq c.hK (kE_ok x (t := false) c hx (by simpa [kI] using h))
  | .rng1 a, tg, e, X, S, W, c, hx, h => by
    simp only [kI] at h
    split at h
    · simp only [Bool.and_eq_true, gB] at h
      obtain ⟨⟨⟨h1, h2⟩, h3⟩, h4⟩ := h
      have h1 := beq_iff_eq.mp h1
      subst h1
      exact ei_rng1 (c.gl h2.1) (c.fh.blt _ (by simpa using h2.2)) h3 (kE_ok a (t := false) c hx h4)
    · cases h
  | .rng2 a b, tg, e, X, S, W, c, hx, h => by
    simp only [kI] at h
    split at h
    · simp only [Bool.and_eq_true, gB] at h
      obtain ⟨⟨⟨⟨⟨h1, h2⟩, h3⟩, h4⟩, h5⟩, h6⟩ := h
      have h1 := beq_iff_eq.mp h1
      subst h1
      exact ei_rng2 (c.gl h2.1) (c.fh.blt _ (by simpa using h2.2)) h3 h4 (kE_ok a (t := false) c hx h5) (kE_ok b (t := false) c hx h6)
    · cases h
  | .rng3 _ _ _, tg, e, X, S, W, c, hx, h => by simp [kI] at h
  | .enum a, tg, e, X, S, W, c, hx, h => by
    simp only [kI] at h
    split at h
    · simp only [Bool.and_eq_true, gB] at h
      obtain ⟨⟨⟨h1, h2⟩, h3⟩, h4⟩ := h
      have h1 := beq_iff_eq.mp h1
      subst h1
      exact ei_enum c.hK (c.gl h2.1) (c.fh.blt _ (by simpa using h2.2)) h3 (kE_ok a (t := false) c hx h4)
    · cases h
  | .zip a b, tg, e, X, S, W, c, hx, h => by simp [kI] at h
end
end
end DI
set_option Elab.async false
set_option linter.all false
set_option maxRecDepth 100000
set_option maxHeartbeats 4000000
set_option autoImplicit false
namespace DI
open PySem PySem.Spec PyProof.Rows L2
/-! ### a try with clauses of any kind, one behind the other -/
abbrev Sui : Type := Addr → Value → Option Addr → TS
abbrev Clause : Type := Value × Option Nat × Sui
/-- behind a clause that names the error, the name is gone -/
def dropE (i : Nat) (De : Ends) : Ends := ⟨fun ρ H => De.nx (ρ.set i none) H, De.rt, fun ρ H => De.bk (ρ.set i none) H, fun ρ H => De.ct (ρ.set i none) H⟩
def wCl (K : PySem.W.Frag) (Wo : WX) (De : Ends) : List Clause → WX
  | [] => Wo
  | (cv, o, ts) :: rest => fun ec od σ H => ∃ hit : Bool, PySem.W.exmOne K ec cv = some hit ∧
      (hit = true → ∀ q : Addr, H q = none → match o with
        | none => ts q ec od De σ H
        | some i => ts q ec od (dropE i De) (σ.set i (some (.ref q))) H) ∧ (hit = false → wCl K Wo De rest ec od σ H)
inductive ClOk (X : Cx) : List ExceptHandler → List Clause → Prop
  | nil : ClOk X [] []
  | cons {x : Str} {cv : Value} {o : Option Nat} {nm : Option Str} {ts : Sui} {first : Stmt} {more : List Stmt} {p1 p2 : Pos} {rest : List ExceptHandler} {l : List Clause} (hn : Names X x cv)
      (ho : (o = none ∧ nm = none) ∨ ∃ i n, o = some i ∧ nm = some n ∧ X.N[i]? = some n ∧ X.env.kindOf n = some .local)
      (hs : ∀ (q : Addr) (ob : Obj) (ec : Value) (od : Option Addr) (pp : List (Addr × Obj)), Zc ec od ob → (∃ fs, ob.data = .fields fs) → PSs (X.suite q ((q, ob) :: pp)) (first :: more) (ts q ec od)) (r : ClOk X rest l) :
      ClOk X (.ExceptHandler (some (.Name x p1)) nm (first :: more) p2 :: rest) ((cv, o, ts) :: l)
section
variable {X : Cx} {body : List Stmt} {hd : ExceptHandler} {hds : List ExceptHandler} {l : List Clause} {pos : Pos} {tb : WX → TS} {Wo : WX}
theorem ps_try_cl (st : X.stack = X.env :: X.outer) (fr : X.env.frame = some X.env.locals) (nd : X.N.Nodup) (tk : Takes X Wo)
    (hb : ∀ (W' : WX) (pp : List (Addr × Obj)) (xe : Value → Shared → Prop), Takes (X.tr pp xe) W' → PassesOwn (model X.prog X.w) X.A X.env xe → PSs (X.tr pp xe) body (tb W'))
    (cl : ClOk X (hd :: hds) l) : PS X (.Try body (hd :: hds) [] [] pos) (fun De σ H => tb (wCl X.K Wo De l) De σ H) := by
  constructor
  intro pins s σ H De I wish
  have ok := I.ok
  have frames : X.A.frames = some (X.env :: X.outer) := by rw [ok.frames, st]
  apply wpAny_Try_except
  refine wpAny_mono ((hb (wCl X.K Wo De l) (X.pn ++ pins) (fun ev z => wpAny (model X.prog X.w) X.A (noteFrame ev X.env) (fun _ z2 => wpAny (model X.prog X.w) X.A (setFlight ev none) (fun _ z3 =>
    wpAny (model X.prog X.w) X.A (handleBy ev X.env (hd :: hds)) (SP X pins De) X.xe z3) X.xe z2) X.xe z) (fun _ t thrown => ?caught) PassesOwn.looking).run [] s σ H De (I.toTry _) wish) (fun fl t ended => ?ends) (fun _ _ z => z)
  case ends =>
    cases fl with
    | ret u => obtain ⟨v, ρ, G, J, rel, q⟩ := ended; exact ⟨v, ρ, G, J.ofTry ok, rel, q⟩
    | next => obtain ⟨ρ, G, J, q⟩ := ended; exact wpAny_execs_nil ⟨ρ, G, J.ofTry ok, q⟩
    | brk => obtain ⟨ρ, G, J, q⟩ := ended; exact ⟨ρ, G, J.ofTry ok, q⟩
    | cont => obtain ⟨ρ, G, J, q⟩ := ended; exact ⟨ρ, G, J.ofTry ok, q⟩
  case caught =>
    obtain ⟨q, B, sI, _, ρ, G, ec, od, rfl, J0, nb, up, sky, gone, os, ag, w⟩ := thrown
    have J : Inv X pins ρ G sI := J0.ofTry ok
    rw [st] at sky
    show wpAny _ _ (noteFrame (.ref q) X.env) _ _ _
    refine Sky.land Zc.steady frames fr sky fun h3 air up3 => ?_
    have J3 : Inv X pins ρ G { t with heap := h3 } := J.landed nb air.1 (up.trans up3) os ag
    obtain ⟨ob3, vs3, at3, z3, dat3⟩ := air.there
    have away : q ∉ frs (X.env :: X.outer) := fun hm => by
      obtain ⟨_, o', e', hnf⟩ := air.2.2.1.mem hm
      rw [at3] at e'
      cases e'
      exact hnf _ dat3
    have offL : q ≠ X.env.locals := fun e => away (List.mem_filterMap.mpr ⟨X.env, List.mem_cons_self, by rw [fr, e]⟩)
    have offF : q ∉ X.fs := fun hm => by
      obtain ⟨en, hen, e⟩ := List.mem_filterMap.mp hm
      exact away (List.mem_filterMap.mpr ⟨en, List.mem_cons_of_mem _ hen, e⟩)
    have inS := J3.suite at3 dat3 gone offL offF
    have each : ∀ {rest : List ExceptHandler} {lr : List Clause}, ClOk X rest lr → wCl X.K Wo De lr ec od ρ G → wpAny (model X.prog X.w) X.A (handleBy (.ref q) X.env rest) (SP X pins De) X.xe { t with heap := h3 } := by
      intro rest lr ck
      induction ck with
      | nil =>
        intro w
        apply wpAny_handleBy_nil
        obtain ⟨_, _, _, ob, vs, tb0, _, _, he, _, hdt, h1, _⟩ := id air
        unfold PySem.passOn
        apply wpAny_bind
        apply wpAny_field he hdt h1
        have tbn : ¬ ((Value.ref tb0 == Value.none) = true) := by simp
        rw [if_neg tbn]
        have fly : wpAny (model X.prog X.w) X.A (setFlight (.ref q) X.env.frame) (fun _ z => wpAny (model X.prog X.w) X.A (throw (.ref q) : Sem Flow) (SP X pins De) X.xe z) X.xe { t with heap := h3 } := by
          rw [fr]
          apply HandSPX.setFlight_upZ air
          intro h4 sky4 up4
          apply wpAny_throw
          apply tk
          refine ⟨q, B, sI, pins, ρ, G, ec, od, rfl, J, nb, (up.trans up3).trans up4, .inr (.inr ?_), gone, os, ag, w⟩
          rw [st]
          exact sky4
        first
          | exact wpAny_bind (wpAny_pure (wpAny_bind fly))
          | exact wpAny_bind fly
      | @cons x cv o nm ts first more p1 p2 rest lr hn ho hs r ih =>
        intro w
        obtain ⟨hit, is, yes, no⟩ := w
        refine wpAny_handleBy_cons (codeAny_handlers_test ?_) (by intro z; cases z)
        have look : PySem.W.Looks (model X.prog X.w) h3 (typeOf (.ref q)) ec := fun A Q E z k hq => wpAny_typeOf_ref (k _ _ at3) (by rw [z3.1]; exact hq)
        have isit := PySem.W.exm_one (M := model X.prog X.w) (J3.kIn) look is
        have nameOf : ∀ {Q E : Value → Shared → Prop}, Q cv { t with heap := h3 } → wpAny (model X.prog X.w) (X.A.mark (some (.ref q))) (eval (.Name x p1) X.env) Q E { t with heap := h3 } := fun {Q E} hq => by
          obtain ⟨g1, g2, m1 | ⟨m1, m2, m3⟩⟩ := hn
          · exact ld_glob (X := X.suite q ((q, ob3) :: (X.pn ++ pins))) inS g1 m1 hq g2
          · exact ld_blt (X := X.suite q ((q, ob3) :: (X.pn ++ pins))) inS g1 m1 m2 hq m3 g2
        apply nameOf
        apply isit.here
        cases hit with
        | false =>
          show wpAny _ X.A (handleBy (.ref q) X.env rest) _ _ _
          exact ih (no rfl)
        | true =>
          have wish2 := yes rfl q gone
          rcases ho with ⟨rfl, rfl⟩ | ⟨i, n, rfl, rfl, hi, hk⟩
          · apply codeAny_handlers_suite
            apply HandSPX.lands_againZ air
            intro h4 air4 up4
            have J4 : Inv X pins ρ G { t with heap := h4 } := J.landed nb air4.1 ((up.trans up3).trans up4) os ag
            obtain ⟨ob4, vs4, at4, z4, dat4⟩ := air4.there
            have inS4 := J4.suite at4 dat4 gone offL offF
            refine wpAny_mono ((hs q ob4 ec od (X.pn ++ pins) z4 ⟨_, dat4⟩).run [] _ _ G De inS4 wish2) (fun fl t6 e6 => ?_) (fun _ _ z => z.elim)
            cases fl with
            | ret u => obtain ⟨v6, ρ6, G6, J6, rel, q6⟩ := e6; exact ⟨_, _, _, J6.unsuite ok, rel, q6⟩
            | next => obtain ⟨ρ6, G6, J6, q6⟩ := e6; exact ⟨_, _, J6.unsuite ok, q6⟩
            | brk => obtain ⟨ρ6, G6, J6, q6⟩ := e6; exact ⟨_, _, J6.unsuite ok, q6⟩
            | cont => obtain ⟨ρ6, G6, J6, q6⟩ := e6; exact ⟨_, _, J6.unsuite ok, q6⟩
          · apply codeAny_handlers_suite_as
            apply HandSPX.lands_againZ air
            intro h4 air4 up4
            have J4 : Inv X pins ρ G { t with heap := h4 } := J.landed nb air4.1 ((up.trans up3).trans up4) os ag
            obtain ⟨ob4, vs4, at4, z4, dat4⟩ := air4.there
            have inS4 := J4.suite at4 dat4 gone offL offF
            have loc : Loc X.env.scope n := .inl hk
            refine store_ok (X := X.suite q ((q, ob4) :: (X.pn ++ pins))) (v := .ref q) inS4 nd hi loc rfl (fun t5 J5 => ?_) (.inr hk)
            refine wpAny_mono ((hs q ob4 ec od (X.pn ++ pins) z4 ⟨_, dat4⟩).run [] t5 _ G (dropE i De) J5 wish2) (fun fl t6 e6 => ?_) (fun _ _ z => z.elim)
            have over : ∀ {ρ6 : L2.St} {G6 : Hp} {Q : Shared → Prop}, Inv (X.suite q ((q, ob4) :: (X.pn ++ pins))) [] ρ6 G6 t6 → (∀ t7, Inv X pins (ρ6.set i none) G6 t7 → Q t7) →
                wpAny (model X.prog X.w) X.A (do bindName X.env n .none; unbindBehindTheSuite X.env n p2) (fun _ t7 => Q t7) X.xe t6 := fun {_ _ _} J6 hq => gone_ok (J6.unsuite ok) nd hi hk hq
            cases fl with
            | ret u => obtain ⟨v6, ρ6, G6, J6, rel, q6⟩ := e6; exact over J6 fun t7 J7 => ⟨_, _, _, J7, rel, q6⟩
            | next => obtain ⟨ρ6, G6, J6, q6⟩ := e6; exact over J6 fun t7 J7 => ⟨_, _, J7, q6⟩
            | brk => obtain ⟨ρ6, G6, J6, q6⟩ := e6; exact over J6 fun t7 J7 => ⟨_, _, J7, q6⟩
            | cont => obtain ⟨ρ6, G6, J6, q6⟩ := e6; exact over J6 fun t7 J7 => ⟨_, _, J7, q6⟩
    exact each cl w
end
end DI
set_option Elab.async false
set_option linter.all false
set_option maxRecDepth 100000
set_option maxHeartbeats 4000000
set_option autoImplicit false
namespace DI
open PySem PySem.Spec PyProof.Rows L2
/-! ### how a store of a pair goes -/
def isStar : Expr → Bool
  | .Starred _ _ => true
  | _ => false
def swName (nms : List (Str × NameKind)) (l : Nat) : Expr → Option Str
  | .Name id pos => if nms.lookup id == some .local && pos.line == l then some id else none
  | _ => none
def swNames (nms : List (Str × NameKind)) (ts : List Expr) : List Str := ts.filterMap (swName nms ((ts.head?.map (·.pos.line)).getD 0))
/-- none: not known -/
def swP (nms : List (Str × NameKind)) : Expr → Expr → Option (Option (List Str))
  | .Tuple ts _ _, .Tuple vs _ _ =>
    if !(ts.length == 2 || ts.length == 3) || vs.length != ts.length then some none
    else if vs.any isStar then none
    else if (swNames nms ts).length != ts.length || (swNames nms ts).eraseDups.length != (swNames nms ts).length then some none
    else if vs.all (foldedForSure 8) then some none
    else if vs.all (constantsAlone 8) then none
    else some (some (swNames nms ts))
  | .List _ _, _ => none
  | _, _ => some none
theorem star_any (vs : List Expr) (p : Expr → Bool) (h : ∀ x, p x = isStar x) : vs.any p = vs.any isStar := by
  congr 1
  funext x
  exact h x
theorem swP_ok {nms : List (Str × NameKind)} {env : PySem.Env} (hk : env.scope.kind = .function) (hn : env.scope.names = nms) {t v : Expr} {r : Option (List Str)} (h : swP nms t v = some r) : swappedStores [t] v env = pure r := by
  have hb : env.blockKind = .function := by unfold Env.blockKind; rw [hk]; rfl
  unfold swP at h
  split at h
  · rename_i ts k1 p1 vs k2 p2
    unfold swappedStores
    simp only [hb]
    have e1 : ∀ g : Expr → Option Str, (∀ x, g x = swName nms ((ts.head?.map (·.pos.line)).getD 0) x) → ts.filterMap g = swNames nms ts := fun g hg => by
      unfold swNames
      congr 1
      funext x
      exact hg x
    split at h
    · cases h
      rename_i h1
      rw [if_pos (by rw [h1]; rfl)]
    · split at h
      · cases h
      · rename_i h1 h2
        have h1' : (!(ts.length == 2 || ts.length == 3) || vs.length != ts.length) = false := by simpa using h1
        rw [if_neg (by rw [h1']; decide)]
        have h2' : (vs.any isStar) = false := by simpa using h2
        rw [if_neg (by rw [star_any vs _ (fun x => by cases x <;> rfl), h2']; decide)]
        rw [e1]
        rotate_left
        · intro x
          cases x <;> first | rfl | (simp only [swName, Env.kindOf, hn])
        split at h
        · cases h
          rename_i h3
          rw [if_pos h3]
        · rename_i h3
          rw [if_neg h3]
          split at h
          · cases h
            rename_i h4
            rw [if_pos h4]
          · rename_i h4
            rw [if_neg h4]
            split at h
            · cases h
            · rename_i h5
              cases h
              rw [if_neg h5]
  · cases h
  · rename_i h1 h2
    cases h
    cases t <;> first | rfl | skip
    · exact (h1 _ _ rfl).elim
    · cases v <;> first | rfl | skip
      exact (h2 _ _ _ _ _ _ rfl rfl).elim
/-- the value's store is the ordinary one -/
def swF (nms : List (Str × NameKind)) (t : Expr) : Expr → Bool
  | .ListComp _ _ scope pos => (match t with
    | .Name y py => !(nms.lookup y == some .local && py.line == pos.line && !(scope.names.any fun (n, k) => n == y && (k == .local || k == .cell)))
    | _ => true)
  | .SetComp _ _ _ _ => false
  | .DictComp _ _ _ _ _ => false
  | _ => true
theorem swF_ok {nms : List (Str × NameKind)} {env : PySem.Env} (hk : env.scope.kind = .function) (hn : env.scope.names = nms) {t v : Expr} {l : Nat} (h : swF nms t v = true) : swapsWith v (some t) l env = pure false := by
  have hb : env.blockKind = .function := by unfold Env.blockKind; rw [hk]; rfl
  cases v <;> first | rfl | (cases h; done) | skip
  rename_i elt gs scope pos
  unfold swapsWith
  simp only
  cases t <;> first | rfl | skip
  rename_i y py
  simp only [hb, Env.kindOf, hn, Expr.pos]
  simp only [swF, Bool.not_eq_true'] at h
  congr 1
section
variable {X : Cx} {T : Tb} {W : WX} {a b c e : Expr} {fa fb fc : Env → Sto → R D} {pos p : Pos}
theorem es_asg2 {tg : Expr} {t : Tg} (hsw : swapsWith a (some tg) pos.line X.env = pure false) (h1 : asg1 tg = true) (hw : swappedStores [tg] a X.env = pure none) (ha : PE X a (tEx T (WE' W) fa)) (hg : PG X tg (tTg T t)) :
    PS X (.Assign [tg] a pos) (tSt T W fun ρ st => RS.of (fa ρ st) ρ fun d st => match setT t d ρ with
      | some ρ' => .ok .nx ρ' st
      | none => .bad) := by
  have k : (assignEach [tg] X.env).map (·.2) = [assign tg X.env] := by
    cases tg <;> first | rfl | (cases h1; done)
  refine ps_of (ps_asg ha hg hsw hw k) fun De σ H ⟨G, μ, ρ, st, hr, er, p⟩ => ?_
  refine tR.imp (tR.toS (Rel := RpD T) hr er p) fun x H1 ⟨G1, m1, s1, dx, e1, hr1, r1, p1⟩ => ?_
  cases hs : setT t dx ρ with
  | none => rw [hs] at p1; exact p1.elim
  | some ρ' =>
    rw [hs] at p1
    exact ⟨G1, m1, ρ, dx, ρ', hr1.sub, er.mono e1.1, r1, hs, fun σ' er' _ => p1.nx hr1 er'⟩
theorem es_par3 {i j l : Nat} {x y z : Str} {px py pz pt : Pos} {kt k2 : Nat} {pt2 : Pos} (hc : X.calm = true) (hN : X.N.Nodup) (hi : X.N[i]? = some x) (hj : X.N[j]? = some y) (hl : X.N[l]? = some z) (hij : i ≠ j) (hil : i ≠ l) (hjl : j ≠ l)
    (hx : X.env.scope.names.lookup x = some .local) (hy : X.env.scope.names.lookup y = some .local) (hz : X.env.scope.names.lookup z = some .local) (hn : nst a = true) (hn2 : nst b = true) (hn3 : nst c = true)
    (hw : swappedStores [.Tuple [.Name x px, .Name y py, .Name z pz] kt pt] (.Tuple [a, b, c] k2 pt2) X.env = pure (some [x, y, z])) (ha : PE X a (tEx T (WE' W) fa)) (hb : PE X b (tEx T (WE' W) fb)) (hcc : PE X c (tEx T (WE' W) fc)) :
    PS X (.Assign [.Tuple [.Name x px, .Name y py, .Name z pz] kt pt] (.Tuple [a, b, c] k2 pt2) pos) (tSt T W fun ρ st => RS.of (fa ρ st) ρ fun u st => RS.of (fb ρ st) ρ fun v st => RS.of (fc ρ st) ρ fun w st => .ok .nx (((ρ.set i (some u)).set j (some v)).set l (some w)) st) := by
  refine ps_of (ps_par3 hc hN hi hj hl hij hil hjl hx hy hz (pa_cons ha (pa_cons hb (pa_cons hcc pa_nil (star_cons hn3)) (star_cons hn2)) (star_cons hn)) hw) fun De σ H ⟨G, μ, ρ, st, hr, er, p⟩ => ?_
  refine tR.imp (tR.toS (Rel := RpD T) hr er p) fun x H1 ⟨G1, m1, s1, dx, e1, hr1, r1, p1⟩ => ?_
  refine tR.imp (tR.toS (Rel := RpD T) hr1 (er.mono e1.1) p1) fun y H2 ⟨G2, m2, s2, dy, e2, hr2, r2, p2⟩ => ?_
  refine tR.imp (tR.toS (Rel := RpD T) hr2 ((er.mono e1.1).mono e2.1) p2) fun z H3 ⟨G3, m3, s3, dz, e3, hr3, r3, p3⟩ => ?_
  exact ⟨x, y, z, rfl, p3.nx hr3 (((((er.mono e1.1).mono e2.1).mono e3.1).set ((r1.mono e2.1).mono e3.1) i |>.set (r2.mono e3.1) j).set r3 l)⟩
theorem es_setIx2 (hu : X.A.units + 100 < cLine) {o i : Expr} {fo fi : Env → Sto → R D} {p2 : Pos} (hsw : swapsWith a (some (.Subscript o i p2)) pos.line X.env = pure false) (hnl : nsl i = true) (ha : PE X a (tEx T (WE' W) fa)) (ho : PE X o (tEx T (WE' W) fo)) (hi : PE X i (tEx T (WE' W) fi)) :
    PS X (.Assign [.Subscript o i p2] a pos) (tSt T W fun ρ st => RS.of (fa ρ st) ρ fun v st => RS.of (fo ρ st) ρ fun x st => RS.of (fi ρ st) ρ fun k st => match setD x k v st with
    | some st' => .ok .nx ρ st'
    | none => .bad) := by
  have k1 : ∀ v, assign (.Subscript o i p2) X.env v = (do
      let ov ← holding [v] (eval o X.env)
      let iv ← holding [v, ov] (eval i X.env)
      standAt p2
      holding [v, ov, iv] (setItem ov iv v)
      release [v, ov, iv] []) := by
    intro v
    cases i <;> first | rfl | (cases hnl; done)
  refine ps_of (ps_asg ha (pg_sub ho hi (set_any (by omega)) k1) hsw) fun De σ H ⟨G, μ, ρ, st, hr, er, p⟩ => ?_
  refine tR.imp (tR.toS (Rel := RpD T) hr er p) fun x H1 ⟨G1, m1, s1, dx, e1, hr1, r1, p1⟩ => ?_
  refine tR.imp (tR.toS (Rel := RpD T) hr1 (er.mono e1.1) p1) fun y H2 ⟨G2, m2, s2, dy, e2, hr2, r2, p2⟩ => ?_
  refine tR.imp (tR.toS (Rel := RpD T) hr2 ((er.mono e1.1).mono e2.1) p2) fun z H3 ⟨G3, m3, s3, dz, e3, hr3, r3, p3⟩ => ?_
  have r2 := r2.mono e3.1
  have r1 := (r1.mono e2.1).mono e3.1
  cases hs : setD dy dz dx s3 with
  | none => rw [hs] at p3; exact p3.elim
  | some st' =>
    rw [hs] at p3
    exact set_go hr3 r2 r3 r1 hs fun H' e hr' => p3 _ _ _ _ e hr' (((er.mono e1.1).mono e2.1).mono e3.1)
theorem es_bad {s : Stmt} : PS X s (tSt T W fun _ _ => .bad) := ⟨fun pins s σ H De I ⟨G, μ, ρ, st, hr, er, p⟩ => p.elim⟩
end
/-! ### the check of a statement's text -/
mutual
def kS (L : Lw) (S : Sc) : Cm → Stmt → Bool
  | .bad, _ => true
  | .pass, s => (match s with | .Pass _ => true | _ => false)
  | .brk, s => (match s with | .Break _ => true | _ => false)
  | .cont, s => (match s with | .Continue _ => true | _ => false)
  | .retN, s => (match s with | .Return none _ => true | _ => false)
  | .ret x, s => (match s with | .Return (some e) _ => kE L false S x e | _ => false)
  | .expr x, s => (match s with | .Expr e _ => noSw e && kE L false S x e | _ => false)
  | .ife c a b, s => (match s with | .If q p r _ => kE L true S c q && kSs L S a p && kSs L S b r | _ => false)
  | .whl c b, s => (match s with | .While q p [] _ => S.calm && kE L true S c q && kSs L S b p | _ => false)
  | .for_ t it b, s => (match s with | .For tg iter p [] _ => S.calm && noSet iter && kI L S it tg iter && kTg S t tg && kSs L S b p | _ => false)
  | .asg t x, s => (match s with
    | .Assign [tg] v pos => (swF S.nms tg v && asg1 tg && (match swP S.nms tg v with | some none => true | _ => false) && kE L false S x v && kTg S t tg) ||
      (match t, x, tg, v with
        | .nm i, .lc _ _ _ _ _ _, .Name y py, .ListComp _ [⟨_, _, _, _⟩] scope lpos => S.calm && S.N[i]? == some y && S.nms.lookup y == some .local && (py.line == lpos.line) && !(scope.names.any fun (n, k) => n == y && (k == .local || k == .cell)) && kE L false S x v
        | _, _, _, _ => false)
    | _ => false)
  | .setIx o i x, s => (match s with
    | .Assign [.Subscript l r p2] v pos => swF S.nms (.Subscript l r p2) v && nsl r && kE L false S x v && kE L false S o l && kE L false S i r
    | _ => false)
  | .aug i op x, s => (match s with
    | .AugAssign (.Name y _) o v _ => decide (o = op.op) && S.N[i]? == some y && S.loc y && (S.fnB y || S.nms.lookup y == some .local) && kE L false S x v
    | _ => false)
  | .par i j a b, s => (match s with
    | .Assign [.Tuple [.Name x px, .Name y py] kt pt] (.Tuple [e1, e2] k2 pt2) _ => S.calm && S.N[i]? == some x && S.N[j]? == some y && i != j && S.nms.lookup x == some .local && S.nms.lookup y == some .local && nst e1 && nst e2 &&
      (match swP S.nms (.Tuple [.Name x px, .Name y py] kt pt) (.Tuple [e1, e2] k2 pt2) with | some (some zs) => zs == [x, y] | _ => false) && kE L false S a e1 && kE L false S b e2
    | _ => false)
  | .par3 i j l a b c, s => (match s with
    | .Assign [.Tuple [.Name x px, .Name y py, .Name z pz] kt pt] (.Tuple [e1, e2, e3] k2 pt2) _ => S.calm && S.N[i]? == some x && S.N[j]? == some y && S.N[l]? == some z && i != j && i != l && j != l && S.nms.lookup x == some .local && S.nms.lookup y == some .local && S.nms.lookup z == some .local && nst e1 && nst e2 && nst e3 &&
      (match swP S.nms (.Tuple [.Name x px, .Name y py, .Name z pz] kt pt) (.Tuple [e1, e2, e3] k2 pt2) with | some (some zs) => zs == [x, y, z] | _ => false) && kE L false S a e1 && kE L false S b e2 && kE L false S c e3
    | _ => false)
  | .rais k fl xs, s => (match s with
    | .Raise (some (.Call (.Name x _) (e :: es) [] _)) none _ => (match L.cls[k]? with
      | some c => S.calm && x == c.nm && S.gl x && notDbg x && xs.length == c.fs.length && (fl.map fun i => L.fld[i]?) == c.fs.map some && decide (c.fs.length ≤ 900) && kEs L S xs (e :: es)
      | none => false)
    | _ => false)
  | .try_ b hs, s => (match s with
    | .Try body (hd :: hds) [] [] _ => S.calm && S.blk.isNone && kSs L S b body && kHs L S hs (hd :: hds)
    | _ => false)
def kSs (L : Lw) (S : Sc) : List Cm → List Stmt → Bool
  | [], ss => ss.isEmpty
  | c :: cs, ss => (match ss with
    | [] => false
    | s :: ss => kS L S c s && kSs L S cs ss)
def kHs (L : Lw) (S : Sc) : List (Nat × Option Nat × List Cm) → List ExceptHandler → Bool
  | [], hds => hds.isEmpty
  | (k, o, sb) :: hs, hds => (match hds with
    | .ExceptHandler (some (.Name x _)) nm (b0 :: suite) _ :: hds => L.hnd[k]? == some x && S.gl x && notDbg x && (match o, nm with
        | none, none => true
        | some i, some n => S.N[i]? == some n && S.nms.lookup n == some .local
        | _, _ => false) && kSs L S.su sb (b0 :: suite) && kHs L S hs hds
    | _ => false)
end
section
variable {T : Tb} {L : Lw} {C : Cal}
theorem fld_eq {L : Lw} {T : Tb} (hf : ∀ (i : Nat) (f : Str), L.fld[i]? = some f → T.fn i = f) : ∀ (fl : List Nat) (fs : List Str), (fl.map fun i => L.fld[i]?) = fs.map some → fl.map T.fn = fs
  | [], fs, h => by
    cases fs with
    | nil => rfl
    | cons _ _ => cases h
  | i :: fl, fs, h => by
    cases fs with
    | nil => cases h
    | cons f fs =>
      simp only [List.map_cons, List.cons.injEq] at h ⊢
      exact ⟨hf i f h.1, fld_eq hf fl fs h.2⟩
/-- what a body's frame asks beyond -/
structure Cxs (X : Cx) (W : WX) (S : Sc) : Prop where
  tk : Takes X W
  own : S.calm = true → PassesOwn (model X.prog X.w) X.A X.env X.xe
  stk : S.calm = true → X.stack = X.env :: X.outer ∧ X.env.frame = some X.env.locals
abbrev WF : WX := fun _ _ _ _ => False
/-- handlers: each suite, with the error at hand, and without -/
inductive HsP (X : Cx) (T : Tb) (L : Lw) (C : Cal) (S : Sc) : List (Nat × Option Nat × List Cm) → List ExceptHandler → Prop
  | nil : HsP X T L C S [] []
  | cons {k : Nat} {o : Option Nat} {sb : List Cm} {hs : List (Nat × Option Nat × List Cm)} {x : Str} {np pos : Pos} {nm : Option Str} {b0 : Stmt} {suite : List Stmt} {hds : List ExceptHandler} (h1 : L.hnd[k]? = some x) (h2 : S.gl x = true) (h3 : notDbg x = true)
      (h4 : (o = none ∧ nm = none) ∨ ∃ i n, o = some i ∧ nm = some n ∧ S.N[i]? = some n ∧ S.nms.lookup n = some .local)
      (h5 : ∀ (a : Addr) (oe : Obj) (d : Addr) (c : Nat) (pn : List (Addr × Obj)), Zc (.ref (T.cl c)) (some d) oe → (∃ vs, oe.data = .fields vs) → c < L.cls.length → PSs (X.suite a ((a, oe) :: pn)) (b0 :: suite) (tSt (T.at_ (some (a, c, d))) WF (evSs C sb)))
      (h6 : ∀ (a : Addr) (oe : Obj) (pn : List (Addr × Obj)), PSs (X.suite a ((a, oe) :: pn)) (b0 :: suite) (tSt T WF (evSs C sb))) (r : HsP X T L C S hs hds) : HsP X T L C S ((k, o, sb) :: hs) (.ExceptHandler (some (.Name x np)) nm (b0 :: suite) pos :: hds)
theorem Cxo.suite {X : Cx} {S : Sc} {z : Option (Addr × Nat × Addr)} (c : Cxo X T L C S) (h0 : S.calm = true) (a : Addr) (pn : List (Addr × Obj)) (hz : ∀ a' c' d', z = some (a', c', d') → SuOk (X.suite a pn) T L.cls.length a' c' d') : Cxo (X.suite a pn) (T.at_ z) L C S.su :=
  ⟨⟨c.fh.blt, fun q => (by cases q), fun x d h => by
      obtain ⟨v, u, q1, q2, q3, q4⟩ := c.fh.cst x d h
      exact ⟨v, u, q1, q2, fun G μ => rp_up (c.xn h0) (q3 G μ), q4⟩, c.fh.gcd, fun q => (by cases q), fun q => (by cases q), c.fh.fld, c.fh.inj, c.fh.xf, c.fh.hnd, c.fh.exc, c.fh.hcv, c.fh.hkt, fun x p h => by
      obtain ⟨d, es, n, k1, k2, k3, k4⟩ := c.fh.dcs x p h
      exact ⟨d, es, n, k1, k2, fun k z hz => by
        obtain ⟨u, v, q1, q2, q3⟩ := k3 k z hz
        exact ⟨u, v, q1, q2, fun G μ => rp_up (c.xn h0) (q3 G μ)⟩, k4⟩⟩, c.N, c.nd, c.nms, c.kind, c.fn, c.hK, fun q => (by cases q), c.units, hz, fun q => (by cases q)⟩
theorem Cxo.tr {X : Cx} {S : Sc} (c : Cxo X T L C S) (h0 : S.calm = true) (pn : List (Addr × Obj)) (xe : Value → Shared → Prop) : Cxo (X.tr pn xe) T L C S :=
  ⟨⟨c.fh.blt, c.fh.fns, c.fh.cst, c.fh.gcd, fun z k ci h => ⟨(c.fh.cls z k ci h).mg, (c.fh.cls z k ci h).ox, (c.fh.cls z k ci h).ini⟩, c.fh.room, c.fh.fld, c.fh.inj, c.fh.xf, c.fh.hnd, c.fh.exc, c.fh.hcv, c.fh.hkt, c.fh.dcs⟩, c.N, c.nd, c.nms, c.kind, c.fn, c.hK, c.calm, c.units, fun a k d z => (by rw [c.xn h0] at z; cases z), c.xn⟩
theorem names_of {X : Cx} {S : Sc} {k : Nat} {x : Str} (c : Cxo X T L C S) (h1 : L.hnd[k]? = some x) (h2 : S.gl x = true) (h3 : notDbg x = true) : Names X x (T.hv k) := ⟨c.gl h2, not_dbg h3, (c.fh.hnd k x h1).1⟩
/-- a clause's suite, as a reading -/
def tsOf (T : Tb) (L : Lw) (C : Cal) (sb : List Cm) : Option Nat → Sui
  | none => fun _ _ _ => tSt T WF (evSs C sb)
  | some _ => fun a cls d De σ H => ∃ (q : Nat) (dd : Addr), cls = .ref (T.cl q) ∧ d = some dd ∧ q < L.cls.length ∧ tSt (T.at_ (some (a, q, dd))) WF (evSs C sb) De σ H
def clOf (T : Tb) (L : Lw) (C : Cal) (h : Nat × Option Nat × List Cm) : Clause := (T.hv h.1, h.2.1, tsOf T L C h.2.2 h.2.1)
theorem cls_ok {X : Cx} {S : Sc} (c : Cxo X T L C S) : ∀ {hs : List (Nat × Option Nat × List Cm)} {hds : List ExceptHandler}, HsP X T L C S hs hds → ClOk X hds (hs.map (clOf T L C)) := by
  intro hs hds hp
  induction hp with
  | nil => exact .nil
  | @cons k o sb hs x np pos nm b0 suite hds h1 h2 h3 h4 h5 h6 r ih =>
    rcases h4 with ⟨rfl, rfl⟩ | ⟨i, n, rfl, rfl, hi, hn⟩
    · exact .cons (names_of c h1 h2 h3) (.inl ⟨rfl, rfl⟩) (fun a oe cls d pn _ _ => h6 a oe pn) ih
    · refine .cons (names_of c h1 h2 h3) (.inr ⟨i, n, rfl, rfl, by rw [c.N]; exact hi, by unfold Env.kindOf; rw [c.nms]; exact hn⟩) (fun a oe cls d pn hz hfl => ?_) ih
      refine ⟨fun pins s σ H De I ⟨q, dd, e1, e2, hq, h⟩ => ?_⟩
      subst e1 e2
      exact (h5 a oe dd q pn hz hfl hq).run pins s σ H De I h
/-- what the clauses wish -/
theorem cls_wish {X : Cx} {S : Sc} {W : WX} {De : Ends} (c : Cxo X T L C S) (h0 : S.calm = true) : ∀ {hs : List (Nat × Option Nat × List Cm)} {hds : List ExceptHandler}, HsP X T L C S hs hds → ∀ {q : Nat} {fs : List (Nat × D)} {ρ : Env} {st : Sto} {G H : Hp} {μ : List Addr} {σ : L2.St} {d : Addr} {fv : List (Str × V)}, Hr T G μ st H → Er T G μ ρ σ → G d = some (.xd fv) → RpF T G μ fv fs →
    Ps T W De G μ H (evHs C hs q fs ρ st) → wCl X.K W De (hs.map (clOf T L C)) (.ref (T.cl q)) (some d) σ H := by
  intro hs hds hp
  have hxn := c.xn h0
  induction hp with
  | nil => exact fun {q fs ρ st G H μ σ d fv} hr er hd rf p => p G μ H σ d fv .refl hr er hd rf
  | @cons k o sb hs x np pos nm b0 suite hds h1 h2 h3 h4 h5 h6 r ih =>
    intro q fs ρ st G H μ σ d fv hr er hd rf p
    cases ha : C.anc q k with
    | none => simp only [evHs, ha] at p; exact p.elim
    | some bb =>
      obtain ⟨hq, hx⟩ := (c.fh.hnd k x h1).2 q bb ha
      refine ⟨bb, c.hK ▸ hx, fun hb a haN => ?_, fun hb => ?_⟩
      · subst hb
        simp only [evHs, ha] at p
        cases o with
        | none =>
          simp only at p
          refine ⟨G, μ, ρ, st, hr, er, ?_⟩
          revert p
          show Ps T W De G μ H (match evSs C sb ρ st with
            | .ok f ρ st => .ok f ρ st
            | _ => .bad) → _
          generalize evSs C sb ρ st = rs
          intro p
          cases rs with
          | ok f ρ2 st2 => exact p
          | err _ _ _ _ => exact p.elim
          | bad => exact p.elim
        | some i =>
          refine ⟨q, d, rfl, rfl, hq, G, μ, ρ.set i (some (.exc q fs)), st, hr.up hxn, (er.up hxn).set (.exc rfl hd (rpF_up hxn rf)) i, ?_⟩
          exact catch_ok hxn hr p
      · subst hb
        simp only [evHs, ha] at p
        exact ih hr er hd rf p
theorem es_tryG {X : Cx} {S : Sc} {W : WX} {b : List Cm} {hs : List (Nat × Option Nat × List Cm)} {body : List Stmt} {hd : ExceptHandler} {hds : List ExceptHandler} {pos : Pos} (c : Cxo X T L C S) (w : Cxs X W S) (h0 : S.calm = true) (hp : HsP X T L C S hs (hd :: hds))
    (hb : ∀ (W' : WX) (pn : List (Addr × Obj)) (xe : Value → Shared → Prop), Takes (X.tr pn xe) W' → PassesOwn (model X.prog X.w) X.A X.env xe → PSs (X.tr pn xe) body (tSt T W' (evSs C b))) :
    PS X (.Try body (hd :: hds) [] [] pos) (tSt T W (evS C (.try_ b hs))) := by
  obtain ⟨hst, hf⟩ := w.stk h0
  refine ps_of (ps_try_cl (tb := fun W' => tSt T W' (evSs C b)) hst hf (c.N ▸ c.nd) w.tk hb (cls_ok c hp)) fun De σ H ⟨G, μ, ρ, st, hr, er, p⟩ => ?_
  refine ⟨G, μ, ρ, st, hr, er, ?_⟩
  have p : Ps T W De G μ H (match evSs C b ρ st with
    | .err c fs ρ st => evHs C hs c fs ρ st
    | r => r) := p
  cases hbd : evSs C b ρ st with
  | bad => rw [hbd] at p; exact p
  | ok fl ρ1 st1 => rw [hbd] at p; exact p
  | err q fs ρ1 st1 =>
    rw [hbd] at p
    intro G1 m1 H1 σ1 d fv e1 hr1 er1 hd' rf
    exact cls_wish c h0 hp hr1 er1 hd' rf (p.mono e1)
theorem Cxs.hx {X : Cx} {W : WX} {S : Sc} (w : Cxs X W S) : Hx X (WE' W) := fun σ => passAt w.tk σ
mutual
theorem kS_ok : ∀ (x : Cm) {T : Tb} {s : Stmt} {X : Cx} {S : Sc} {W : WX}, Cxo X T L C S → Cxs X W S → kS L S x s = true → PS X s (tSt T W (evS C x))
  | .bad, T, s, X, S, W, c, w, h => es_bad
  | .pass, T, s, X, S, W, c, w, h => by
    simp only [kS] at h
    split at h
    · exact es_pass
    · cases h
  | .brk, T, s, X, S, W, c, w, h => by
    simp only [kS] at h
    split at h
    · exact es_brk
    · cases h
  | .cont, T, s, X, S, W, c, w, h => by
    simp only [kS] at h
    split at h
    · exact es_cont
    · cases h
  | .retN, T, s, X, S, W, c, w, h => by
    simp only [kS] at h
    split at h
    · exact es_retN
    · cases h
  | .ret x, T, s, X, S, W, c, w, h => by
    simp only [kS] at h
    split at h
    · exact es_ret (kE_ok x (t := false) c w.hx h)
    · cases h
  | .expr x, T, s, X, S, W, c, w, h => by
    simp only [kS] at h
    split at h
    · simp only [Bool.and_eq_true] at h
      exact es_expr h.1 (kE_ok x (t := false) c w.hx h.2)
    · cases h
  | .ife q a b, T, s, X, S, W, c, w, h => by
    simp only [kS] at h
    split at h
    · simp only [Bool.and_eq_true] at h
      exact es_if (kE_ok q (t := true) c w.hx h.1.1) (kSs_ok a c w h.1.2) (kSs_ok b c w h.2)
    · cases h
  | .whl q b, T, s, X, S, W, c, w, h => by
    simp only [kS] at h
    split at h
    · simp only [Bool.and_eq_true] at h
      exact es_while (w.own h.1.1) (kE_ok q (t := true) c w.hx h.1.2) (kSs_ok b c w h.2)
    · cases h
  | .for_ t it b, T, s, X, S, W, c, w, h => by
    simp only [kS] at h
    split at h
    · simp only [Bool.and_eq_true] at h
      obtain ⟨⟨⟨⟨h0, h1⟩, h2⟩, h3⟩, h4⟩ := h
      exact es_for (w.own h0) (c.calm h0) h1 (kI_ok it c w.hx h2) (kTg_ok t c h3) (kSs_ok b c w h4)
    · cases h
  | .asg t x, T, s, X, S, W, c, w, h => by
    simp only [kS] at h
    split at h
    · rename_i tg v pos
      rw [Bool.or_eq_true] at h
      rcases h with h | h
      · simp only [Bool.and_eq_true] at h
        obtain ⟨⟨⟨⟨h1, h2⟩, h3⟩, h4⟩, h5⟩ := h
        have h3' : swP S.nms tg v = some none := by
          revert h3
          split
          · exact fun _ => ‹_›
          · intro z; cases z
        exact es_asg2 (swF_ok c.kind c.nms h1) h2 (swP_ok c.kind c.nms h3') (kE_ok x (t := false) c w.hx h4) (kTg_ok t c h5)
      · split at h
        · rename_i i mu tg it cs el own y py elt t0 i0 f0 a0 scope lpos
          simp only [kE, Bool.and_eq_true] at h
          obtain ⟨⟨⟨⟨⟨k0, k1⟩, k2⟩, k3⟩, k4⟩, h⟩ := h
          split at h
          · rename_i h9
            cases h9
            simp only [Bool.and_eq_true] at h
            obtain ⟨⟨⟨⟨⟨⟨⟨h0, h1⟩, h2⟩, h3⟩, h4⟩, h5⟩, h6⟩, h7⟩ := h
            obtain ⟨ow, rfl, ok⟩ := blk_ok c h3
            exact es_setLc (by rw [c.N]; exact beq_iff_eq.mp k1) (by rw [c.nms]; exact beq_iff_eq.mp k2) k3 (by simpa using k4) c.kind h1 (c.calm h0) (c.N ▸ c.nd) h2 (kI_ok it c w.hx h4) ok (fun s H A cl fp => kTg_ok tg (c.sub h0 h3 s H A cl fp) h5)
              (fun s H A cl fp => kC_ok cs (c.sub h0 h3 s H A cl fp) h6) (fun s H A cl fp => kE_ok el (t := false) (c.sub h0 h3 s H A cl fp) hx_no h7)
          · cases h
        · cases h
    · cases h
  | .setIx o i x, T, s, X, S, W, c, w, h => by
    simp only [kS] at h
    split at h
    · simp only [Bool.and_eq_true] at h
      obtain ⟨⟨⟨⟨h1, h2⟩, h3⟩, h4⟩, h5⟩ := h
      exact es_setIx2 c.units (swF_ok c.kind c.nms h1) h2 (kE_ok x (t := false) c w.hx h3) (kE_ok o (t := false) c w.hx h4) (kE_ok i (t := false) c w.hx h5)
    · cases h
  | .aug i op x, T, s, X, S, W, c, w, h => by
    simp only [kS] at h
    split at h
    · simp only [Bool.and_eq_true, decide_eq_true_eq, Bool.or_eq_true] at h
      obtain ⟨⟨⟨⟨rfl, h1⟩, h2⟩, h3⟩, h4⟩ := h
      exact es_aug op (c.N ▸ c.nd) (by rw [c.N]; exact beq_iff_eq.mp h1) (c.loc h2) (h3.imp (fun q => c.fn _ q) fun q => by rw [c.nms]; exact beq_iff_eq.mp q) (kE_ok x (t := false) c w.hx h4)
    · cases h
  | .par i j a b, T, s, X, S, W, c, w, h => by
    simp only [kS] at h
    split at h
    · simp only [Bool.and_eq_true] at h
      obtain ⟨⟨⟨⟨⟨⟨⟨⟨⟨⟨h0, h1⟩, h2⟩, h3⟩, h4⟩, h5⟩, h6⟩, h7⟩, h8⟩, h9⟩, h10⟩ := h
      split at h8
      · rename_i zs hz
        cases beq_iff_eq.mp h8
        exact es_par (c.calm h0) (c.N ▸ c.nd) (by rw [c.N]; exact beq_iff_eq.mp h1) (by rw [c.N]; exact beq_iff_eq.mp h2) (by simpa using h3) (by rw [c.nms]; exact beq_iff_eq.mp h4) (by rw [c.nms]; exact beq_iff_eq.mp h5) h6 h7 (swP_ok c.kind c.nms hz) (kE_ok a (t := false) c w.hx h9) (kE_ok b (t := false) c w.hx h10)
      · cases h8
    · cases h
  | .par3 i j l a b q, T, s, X, S, W, c, w, h => by
    simp only [kS] at h
    split at h
    · simp only [Bool.and_eq_true] at h
      obtain ⟨⟨⟨⟨⟨⟨⟨⟨⟨⟨⟨⟨⟨⟨⟨⟨h0, h1⟩, h2⟩, h2'⟩, h3⟩, h3'⟩, h3''⟩, h4⟩, h5⟩, h5'⟩, h6⟩, h7⟩, h7'⟩, h8⟩, h9⟩, h10⟩, h11⟩ := h
      split at h8
      · rename_i zs hz
        cases beq_iff_eq.mp h8
        exact es_par3 (c.calm h0) (c.N ▸ c.nd) (by rw [c.N]; exact beq_iff_eq.mp h1) (by rw [c.N]; exact beq_iff_eq.mp h2) (by rw [c.N]; exact beq_iff_eq.mp h2') (by simpa using h3) (by simpa using h3') (by simpa using h3'') (by rw [c.nms]; exact beq_iff_eq.mp h4) (by rw [c.nms]; exact beq_iff_eq.mp h5) (by rw [c.nms]; exact beq_iff_eq.mp h5') h6 h7 h7' (swP_ok c.kind c.nms hz) (kE_ok a (t := false) c w.hx h9) (kE_ok b (t := false) c w.hx h10) (kE_ok q (t := false) c w.hx h11)
      · cases h8
    · cases h
  | .rais k fl xs, T, s, X, S, W, c, w, h => by
    simp only [kS] at h
    split at h
    · split at h
      · rename_i ci hk
        simp only [Bool.and_eq_true, decide_eq_true_eq] at h
        obtain ⟨⟨⟨⟨⟨⟨⟨h0, h1⟩, h2⟩, h3⟩, h4⟩, h5⟩, h6⟩, h7⟩ := h
        have hfl : fl.map T.fn = ci.fs := fld_eq c.fh.fld _ _ (beq_iff_eq.mp h5)
        exact es_rais c.hK (c.calm h0) (c.fh.room h0) w.tk (c.fh.cls h0 k ci hk) (beq_iff_eq.mp h1) (c.gl h2) h3 (kEs_len xs h7).2 hfl h6 (fun ρ st vs st' hv => (evEs_len xs ρ st vs st' hv).trans (beq_iff_eq.mp h4)) (kEs_ok xs c w.hx h7)
      · cases h
    · cases h
  | .try_ b hs, T, s, X, S, W, c, w, h => by
    simp only [kS] at h
    split at h
    · simp only [Bool.and_eq_true] at h
      obtain ⟨⟨⟨h0, h1⟩, h2⟩, h4⟩ := h
      exact es_tryG c w h0 (kHs_ok hs c h0 h4) fun W' pn xe tk ow => kSs_ok b (c.tr h0 pn xe) ⟨tk, fun _ => ow, w.stk⟩ h2
    · cases h
theorem kHs_ok : ∀ (hs : List (Nat × Option Nat × List Cm)) {T : Tb} {hds : List ExceptHandler} {X : Cx} {S : Sc}, Cxo X T L C S → S.calm = true → kHs L S hs hds = true → HsP X T L C S hs hds
  | [], T, hds, X, S, c, h0, h => by
    cases hds with
    | nil => exact .nil
    | cons _ _ => simp [kHs] at h
  | (k, o, sb) :: hs, T, hds, X, S, c, h0, h => by
    simp only [kHs] at h
    split at h
    · simp only [Bool.and_eq_true] at h
      obtain ⟨⟨⟨⟨⟨h1, h2⟩, h3⟩, h4⟩, h5⟩, h6⟩ := h
      refine .cons (beq_iff_eq.mp h1) h2 h3 ?_ (fun a oe d q pn hz hf hq => ?_) (fun a oe pn => ?_) (kHs_ok hs c h0 h6)
      · split at h4
        · exact .inl ⟨rfl, rfl⟩
        · simp only [Bool.and_eq_true] at h4
          exact .inr ⟨_, _, rfl, rfl, beq_iff_eq.mp h4.1, beq_iff_eq.mp h4.2⟩
        · cases h4
      · exact kSs_ok sb (c.suite h0 a _ fun a' c' d' e => by cases e; exact ⟨X, oe, pn, rfl, hz, hf, hq⟩) ⟨takes0, fun q => (by cases q), fun q => (by cases q)⟩ h5
      · have := kSs_ok (T := T.at_ none) sb (c.suite (z := none) h0 a ((a, oe) :: pn) fun a' c' d' e => by cases e) ⟨takes0, fun q => (by cases q), fun q => (by cases q)⟩ h5
        have eT : T.at_ none = T := by
          have := c.xn h0
          cases T
          simp only at this
          subst this
          rfl
        rw [eT] at this
        exact this
    · cases h
theorem kSs_ok : ∀ (xs : List Cm) {T : Tb} {ss : List Stmt} {X : Cx} {S : Sc} {W : WX}, Cxo X T L C S → Cxs X W S → kSs L S xs ss = true → PSs X ss (tSt T W (evSs C xs))
  | [], T, ss, X, S, W, c, w, h => by
    cases ss with
    | nil => exact es_nil
    | cons _ _ => simp [kSs] at h
  | x :: xs, T, ss, X, S, W, c, w, h => by
    cases ss with
    | nil => simp [kSs] at h
    | cons s ss =>
      simp only [kSs, Bool.and_eq_true] at h
      exact es_cons (kS_ok x c w h.1) (kSs_ok xs c w h.2)
end
end
end DI
set_option Elab.async false
set_option linter.all false
set_option maxRecDepth 100000
set_option maxHeartbeats 4000000
set_option autoImplicit false
namespace DI
open PySem PySem.Spec PyProof.Rows L2
section
variable {T : Tb} {G G' H H' G0 H0 : Hp} {μ μ' μ0 : List Addr} {st st0 : Sto}
mutual
theorem subX_ok {g : Nat → Option D} (gm : ∀ a o, G a = some o → G' a = some o) (hg : ∀ (i : Nat) (a : Addr) (d : D), μ[i]? = some a → g i = some d → Rp T G' μ' (.ref a) d) :
    ∀ (d : D) {v : V} {d' : D}, Rp T G μ v d → D.subX g d = some d' → Rp T G' μ' v d'
  | .non, _, _, r, e => by cases r; cases e; exact .non
  | .bl b, _, _, r, e => by cases r; cases e; exact .bl b
  | .int i, _, _, r, e => by cases r; cases e; exact .int i
  | .str s, _, _, r, e => by
    cases r with
    | str _ h => cases e; exact .str _ h
  | .tup xs, _, _, r, e => by
    cases r with
    | tup h1 h2 h9 =>
      simp only [D.subX, Option.map_eq_some_iff] at e
      obtain ⟨ys, e1, rfl⟩ := e
      refine .tup (sqt_mono gm h1) (subXL_ok gm hg xs h2 e1) ?_
      rcases h9 with ⟨o, od, ⟨u, h⟩ | h⟩ | ⟨i, d, rfl⟩
      · exact .inl ⟨o, od, .inl ⟨u, gm _ _ h⟩⟩
      · exact .inl ⟨o, od, .inr h⟩
      · cases hd : D.subX g d with
        | none => simp [D.subXL, D.subX, hd] at e1
        | some y =>
          simp [D.subXL, D.subX, hd] at e1
          subst e1
          exact .inr ⟨_, _, rfl⟩
  | .lst xs, _, _, r, e => by
    cases r with
    | lst h1 h2 =>
      simp only [D.subX, Option.map_eq_some_iff] at e
      obtain ⟨ys, e1, rfl⟩ := e
      exact .lst (gm _ _ h1) (subXL_ok gm hg xs h2 e1)
  | .ro xs, _, _, r, e => by
    cases r with
    | ro h1 h2 =>
      simp only [D.subX, Option.map_eq_some_iff] at e
      obtain ⟨ys, e1, rfl⟩ := e
      exact .ro (sql_mono gm h1) (subXL_ok gm hg xs h2 e1)
  | .loc i, _, d', r, e => by
    cases r with
    | loc h => exact hg i _ d' h e
  | .exc c fs, _, _, r, e => by cases e
theorem subXL_ok {g : Nat → Option D} (gm : ∀ a o, G a = some o → G' a = some o) (hg : ∀ (i : Nat) (a : Addr) (d : D), μ[i]? = some a → g i = some d → Rp T G' μ' (.ref a) d) :
    ∀ (ds : List D) {vs : List V} {ds' : List D}, RpL T G μ vs ds → D.subXL g ds = some ds' → RpL T G' μ' vs ds'
  | [], _, _, r, e => by cases r; cases e; exact .nil
  | x :: xs, _, _, r, e => by
    cases r with
    | cons r1 r2 =>
      simp only [D.subXL] at e
      split at e
      · cases e
      · rename_i y h1
        split at e
        · cases e
        · rename_i ys h2
          cases e
          exact .cons (subX_ok gm hg x r1 h1) (subXL_ok gm hg xs r2 h2)
end
mutual
theorem lo_ok {n : Nat} (gm : ∀ a o, G a = some o → G' a = some o) : ∀ (d : D) {v : V}, Rp T G μ v d → D.lo n d = true → Rp T G' (μ.take n) v d
  | .non, _, r, e => by cases r; exact .non
  | .bl b, _, r, e => by cases r; exact .bl b
  | .int i, _, r, e => by cases r; exact .int i
  | .str s, _, r, e => by
    cases r with
    | str _ h => exact .str _ h
  | .tup xs, _, r, e => by
    cases r with
    | tup h1 h2 h9 => exact .tup (sqt_mono gm h1) (loL_ok gm xs h2 e) (pq_mono gm h9)
  | .lst xs, _, r, e => by
    cases r with
    | lst h1 h2 => exact .lst (gm _ _ h1) (loL_ok gm xs h2 e)
  | .ro xs, _, r, e => by
    cases r with
    | ro h1 h2 => exact .ro (sql_mono gm h1) (loL_ok gm xs h2 e)
  | .loc i, _, r, e => by
    cases r with
    | loc h =>
      have e : i < n := by simpa [D.lo] using e
      exact .loc (by rw [List.getElem?_take_of_lt e]; exact h)
  | .exc c fs, _, r, e => by
    cases r with
    | exc h1 h2 h3 => exact .exc h1 (gm _ _ h2) (loF_ok gm fs h3 e)
theorem loL_ok {n : Nat} (gm : ∀ a o, G a = some o → G' a = some o) : ∀ (ds : List D) {vs : List V}, RpL T G μ vs ds → D.loL n ds = true → RpL T G' (μ.take n) vs ds
  | [], _, r, e => by cases r; exact .nil
  | x :: xs, _, r, e => by
    cases r with
    | cons r1 r2 =>
      simp only [D.loL, Bool.and_eq_true] at e
      exact .cons (lo_ok gm x r1 e.1) (loL_ok gm xs r2 e.2)
theorem loF_ok {n : Nat} (gm : ∀ a o, G a = some o → G' a = some o) : ∀ (ds : List (Nat × D)) {vs : List (Str × V)}, RpF T G μ vs ds → D.loF n ds = true → RpF T G' (μ.take n) vs ds
  | [], _, r, e => by cases r; exact .nil
  | (i, x) :: xs, _, r, e => by
    cases r with
    | cons h r1 r2 =>
      simp only [D.loF, Bool.and_eq_true] at e
      exact .cons h (lo_ok gm x r1 e.1) (loF_ok gm xs r2 e.2)
end
mutual
theorem rp_lo : ∀ (d : D) {v : V}, Rp T G μ v d → D.lo μ.length d = true
  | .non, _, r => rfl
  | .bl b, _, r => rfl
  | .int i, _, r => rfl
  | .str s, _, r => rfl
  | .tup xs, _, r => by
    cases r with
    | tup h1 h2 h9 => exact rpL_lo xs h2
  | .lst xs, _, r => by
    cases r with
    | lst h1 h2 => exact rpL_lo xs h2
  | .ro xs, _, r => by
    cases r with
    | ro h1 h2 => exact rpL_lo xs h2
  | .loc i, _, r => by
    cases r with
    | loc h => simpa [D.lo] using (List.getElem?_eq_some_iff.mp h).1
  | .exc c fs, _, r => by
    cases r with
    | exc h1 h2 h3 => exact rpF_lo fs h3
theorem rpL_lo : ∀ (ds : List D) {vs : List V}, RpL T G μ vs ds → D.loL μ.length ds = true
  | [], _, r => rfl
  | x :: xs, _, r => by
    cases r with
    | cons r1 r2 => simp only [D.loL, rp_lo x r1, rpL_lo xs r2]; rfl
theorem rpF_lo : ∀ (ds : List (Nat × D)) {vs : List (Str × V)}, RpF T G μ vs ds → D.loF μ.length ds = true
  | [], _, r => rfl
  | (i, x) :: xs, _, r => by
    cases r with
    | cons h r1 r2 => simp only [D.loF, rp_lo x r1, rpF_lo xs r2]; rfl
end
theorem keeps_at {n : Nat} : ∀ {st0 st : Sto}, keeps n st0 st = true → st0.length ≤ st.length ∧ ∀ (i : Nat) (o u : Ob), st0[i]? = some o → st[i]? = some u → (Ob.beq o u || u.lo n) = true
  | [], st, h => ⟨Nat.zero_le _, fun i o u e => by simp at e⟩
  | o :: st0, [], h => by cases h
  | o :: st0, u :: st, h => by
    simp only [keeps, Bool.and_eq_true] at h
    obtain ⟨h1, h2⟩ := keeps_at h.2
    refine ⟨by simpa using h1, fun i a b e1 e2 => ?_⟩
    cases i with
    | zero => simp at e1 e2; subst e1 e2; exact h.1
    | succ i => exact h2 i a b (by simpa using e1) (by simpa using e2)
theorem obeq_lst {o : Ob} {ds : List D} (h : Ob.beq o (.lst ds) = true) : o = .lst ds := by
  cases o with
  | lst xs => simp only [Ob.beq] at h; rw [D.eqL_of _ _ h]
  | dct _ => cases h
theorem obeq_dct {o : Ob} {kvs : List (D × D)} (h : Ob.beq o (.dct kvs) = true) : o = .dct kvs := by
  cases o with
  | lst xs => cases h
  | dct l => simp only [Ob.beq] at h; rw [kvEq_eq _ _ h]
theorem loK_ok {n : Nat} (gm : ∀ a o, G a = some o → G' a = some o) {kv : List (Key × V)} {kvs : List (D × D)} (r : RpK T G μ kv kvs) (h : (kvs.all fun p => p.1.lo n && p.2.lo n) = true) : RpK T G' (μ.take n) kv kvs := by
  unfold RpK at *
  induction r with
  | nil => exact .nil
  | @cons a b as bs q t ih =>
    rw [List.all_cons, Bool.and_eq_true, Bool.and_eq_true] at h
    exact .cons ⟨lo_ok gm _ q.1 h.1.1, lo_ok gm _ q.2 h.1.2⟩ (ih h.2)
theorem rpK_lo {kv : List (Key × V)} {kvs : List (D × D)} (r : RpK T G μ kv kvs) : (kvs.all fun p => p.1.lo μ.length && p.2.lo μ.length) = true := by
  unfold RpK at *
  induction r with
  | nil => rfl
  | @cons a b as bs q t ih => rw [List.all_cons, rp_lo _ q.1, rp_lo _ q.2, ih]; rfl
/-- a call's end: what it laid and is told whole, is known from now on -/
theorem fin_ok (h0 : Hr T G0 μ0 st0 H0) (e : Gx G0 μ0 H0 G μ H) (hr : Hr T G μ st H) (hk : keeps st0.length st0 st = true) :
    ∃ G1 : Hp, Gx G0 μ0 H0 G1 (μ.take st0.length) H ∧ Hr T G1 (μ.take st0.length) (st.take st0.length) H ∧ (∀ a o, G a = some o → G1 a = some o) ∧ (∀ (f : Nat) (d : D) (v : V) (d' : D), Rp T G μ v d → frzX st st0.length f d = some d' → Rp T G1 (μ.take st0.length) v d') := by
  classical
  obtain ⟨hle, hkeep⟩ := keeps_at hk
  have hml : μ0.length = st0.length := h0.len
  generalize hn : st0.length = n at hle hkeep hml ⊢
  -- the new known
  let G1 : Hp := fun a => if a ∈ μ.drop n then H a else G a
  have inD : ∀ {a : Addr}, a ∈ μ.drop n → ∃ i, n ≤ i ∧ μ[i]? = some a := fun {a} h => by
    obtain ⟨j, hj⟩ := List.mem_iff_getElem?.mp h
    rw [List.getElem?_drop] at hj
    exact ⟨n + j, by omega, hj⟩
  have g1 : ∀ a o, G a = some o → G1 a = some o := fun a o h => by
    show (if a ∈ μ.drop n then H a else G a) = some o
    split
    · exact hr.sub a o h
    · exact h
  have g2 : ∀ (i : Nat) (a : Addr), n ≤ i → μ[i]? = some a → G1 a = H a := fun i a hi h => by
    have : a ∈ μ.drop n := List.mem_iff_getElem?.mpr ⟨i - n, by rw [List.getElem?_drop]; rw [show n + (i - n) = i by omega]; exact h⟩
    show (if a ∈ μ.drop n then H a else G a) = H a
    rw [if_pos this]
  have g3 : ∀ (i : Nat) (a : Addr), i < n → μ[i]? = some a → G1 a = none := fun i a hi h => by
    have : a ∉ μ.drop n := fun hm => by
      obtain ⟨j, hj, hj2⟩ := inD hm
      have := hr.nd i j a h hj2
      omega
    show (if a ∈ μ.drop n then H a else G a) = none
    rw [if_neg this]
    exact (hr.obj i a h).1
  have tk : ∀ {i : Nat} {a : Addr}, (μ.take n)[i]? = some a → i < n ∧ μ[i]? = some a := fun {i a} h => by
    have hi : i < n := by
      have := (List.getElem?_eq_some_iff.mp h).1
      simp at this; omega
    rw [List.getElem?_take_of_lt hi] at h
    exact ⟨hi, h⟩
  refine ⟨G1, ⟨⟨fun a o h => g1 a o (e.g a o h), fun i a h => ?_⟩, e.fr, e.kp, fun a o h => ?_, fun i a h => e.nm i a (tk h).2⟩, ⟨fun a o h => ?_, ?_, fun i a h => ?_, fun i j a h1 h2 => hr.nd i j a (tk h1).2 (tk h2).2⟩, g1, ?_⟩
  · have hi : i < n := by
      have := (List.getElem?_eq_some_iff.mp h).1
      omega
    rw [List.getElem?_take_of_lt hi]
    exact e.m i a h
  · have h : (if a ∈ μ.drop n then H a else G a) = some o := h
    split at h
    · rename_i hm
      obtain ⟨i, hi, hi2⟩ := inD hm
      rcases e.nm i a hi2 with z | z
      · have := (List.getElem?_eq_some_iff.mp z).1
        omega
      · exact .inr z
    · exact e.ng a o h
  · have h : (if a ∈ μ.drop n then H a else G a) = some o := h
    split at h
    · exact h
    · exact hr.sub a o h
  · rw [List.length_take, List.length_take, hr.len]
  · obtain ⟨hi, h⟩ := tk h
    obtain ⟨_, ob, h2, h3⟩ := hr.obj i a h
    refine ⟨g3 i a hi h, ob, by rw [List.getElem?_take_of_lt hi]; exact h2, ?_⟩
    have h5 : i < st0.length := by omega
    have h6 := hkeep i _ _ (List.getElem?_eq_getElem h5) h2
    rw [Bool.or_eq_true] at h6
    have hi0 : i < μ0.length := by omega
    cases h3 with
    | @lst vs ds h4 r =>
      refine .lst h4 (loL_ok g1 ds r ?_)
      rcases h6 with h6 | h6
      · have h7 := obeq_lst h6
        obtain ⟨_, o2, k2, k3⟩ := h0.obj i _ (List.getElem?_eq_getElem hi0)
        rw [List.getElem?_eq_getElem h5, h7] at k2
        cases k2
        cases k3 with
        | lst _ r0 => rw [← hml]; exact rpL_lo ds r0
      · exact h6
    | @dct kv kvs h4 r =>
      refine .dct h4 (loK_ok g1 r ?_)
      rcases h6 with h6 | h6
      · have h7 := obeq_dct h6
        obtain ⟨_, o2, k2, k3⟩ := h0.obj i _ (List.getElem?_eq_getElem hi0)
        rw [List.getElem?_eq_getElem h5, h7] at k2
        cases k2
        cases k3 with
        | dct _ r0 => rw [← hml]; exact rpK_lo r0
      · exact h6
  · have key : ∀ (f : Nat) (d : D) (v : V) (d' : D), Rp T G1 μ v d → frzX st n f d = some d' → Rp T G1 (μ.take n) v d' := by
      intro f
      induction f with
      | zero =>
        intro d v d' r q
        refine subX_ok (fun _ _ h => h) (fun i a x hi q => ?_) d r q
        split at q
        · rename_i hlt
          cases q
          exact .loc (by rw [List.getElem?_take_of_lt hlt]; exact hi)
        · cases q
      | succ f ih =>
        intro d v d' r q
        refine subX_ok (fun _ _ h => h) (fun i a x hi q => ?_) d r q
        split at q
        · rename_i hlt
          cases q
          exact .loc (by rw [List.getElem?_take_of_lt hlt]; exact hi)
        · rename_i hge
          obtain ⟨_, ob, h2, h3⟩ := hr.obj i a hi
          rw [h2] at q
          cases h3 with
          | dct _ _ => cases q
          | @lst vs ds h4 r4 =>
            exact ih (.lst ds) (.ref a) x (.lst (by rw [g2 i a (by omega) hi]; exact h4) (r4.mono ⟨g1, fun _ _ q => q⟩)) q
    exact fun f d v d' r q => key f d v d' (r.mono ⟨g1, fun _ _ q => q⟩) q
theorem frzF_ok {n : Nat} {G1 : Hp} {μ1 : List Addr} (k : ∀ (f : Nat) (d : D) (v : V) (d' : D), Rp T G μ v d → frzX st n f d = some d' → Rp T G1 μ1 v d') : ∀ {fs : List (Nat × D)} {fv : List (Str × V)} {fs' : List (Nat × D)}, RpF T G μ fv fs → frzF st n fs = some fs' → RpF T G1 μ1 fv fs'
  | [], _, _, r, e => by cases r; cases e; exact .nil
  | (i, x) :: fs, _, _, r, e => by
    cases r with
    | cons h r1 r2 =>
      simp only [frzF] at e
      split at e
      · cases e
      · rename_i y h1
        simp only [Option.map_eq_some_iff] at e
        obtain ⟨ys, e1, rfl⟩ := e
        exact .cons h (k _ _ _ _ r1 h1) (frzF_ok k r2 e1)
end
/-! ### a def's body -/
theorem ps_end {T : Tb} {E : XK} {Q : VK} {G H : Hp} {μ : List Addr} {st : Sto} {keep : Bool} {r : RS} (hr : Hr T G μ st H) (p : Pr T (RpD T) E G μ H Q (endD keep st r)) :
    Ps T (fun cls d _ H' => E cls d H') { nx := fun _ H' => Q .non H', rt := Q } G μ H r := by
  have fin : ∀ {G2 : Hp} {m2 : List Addr} {H2 : Hp} {s2 : Sto} {d : D} {v : V}, Gx G μ H G2 m2 H2 → Hr T G2 m2 s2 H2 → Rp T G2 m2 v d → Pr T (RpD T) E G μ H Q (finD keep st d s2) → Q v H2 := fun {G2 m2 H2 s2 d v} e2 hr2 rv p => by
    unfold finD at p
    split at p
    · exact p G2 m2 H2 v e2 hr2 rv
    · split at p
      · rename_i d' hd
        split at p
        · rename_i hk
          obtain ⟨G3, e3, hr3, g3, k3⟩ := fin_ok hr e2 hr2 hk
          exact p G3 _ H2 v e3 hr3 (k3 _ _ _ _ rv hd)
        · exact p.elim
      · exact p.elim
  cases r with
  | bad => exact p
  | ok fl ρ s2 =>
    cases fl with
    | nx => exact fun G2 m2 H2 σ2 e2 hr2 er2 => fin e2 hr2 .non p
    | rt d => exact fun G2 m2 H2 σ2 e2 hr2 er2 v rv => fin e2 hr2 rv p
    | bk => exact p.elim
    | ct => exact p.elim
  | err c fs ρ s2 =>
    intro G2 m2 H2 σ2 d fv e2 hr2 er2 hd rf
    have p : Pr T (RpD T) E G μ H Q (finX keep st c fs s2) := p
    unfold finX at p
    split at p
    · exact p G2 m2 H2 d fv e2 hr2 hd rf
    · split at p
      · rename_i fs' hf
        split at p
        · rename_i hk
          obtain ⟨G3, e3, hr3, g3, k3⟩ := fin_ok hr e2 hr2 hk
          exact p G3 _ H2 d fv e3 hr3 (g3 _ _ hd) (frzF_ok k3 rf hf)
        · exact p.elim
      · exact p.elim
theorem er_start {T : Tb} {G : Hp} {μ : List Addr} {vs : List V} {ds : List D} {N : List Str} {nn : Nat} (r : RpL T G μ vs ds) (h : N.length = nn) : Er T G μ (ds.map some ++ List.replicate (nn - ds.length) none) (L2.start N vs) := by
  unfold L2.start
  refine ⟨by simp [r.len, h], fun i d q => ?_⟩
  by_cases hi : i < ds.length
  · rw [List.getElem?_append_left (by simpa using hi)] at q
    rw [List.getElem?_append_left (by simpa [r.len] using hi)]
    rw [List.getElem?_map] at q ⊢
    cases h2 : ds[i]? with
    | none => rw [h2] at q; cases q
    | some d2 =>
      rw [h2] at q
      cases q
      obtain ⟨v, hv, rv⟩ := r.get h2
      exact ⟨v, by rw [hv]; rfl, rv⟩
  · rw [List.getElem?_append_right (by simpa using hi)] at q
    rw [List.getElem?_replicate] at q
    split at q
    · cases q
    · cases q
end DI
set_option Elab.async false
set_option linter.all false
set_option maxRecDepth 100000
set_option maxHeartbeats 4000000
set_option autoImplicit false
namespace DI
open PySem PySem.Spec PyProof.Rows L2
theorem zip_look : ∀ (ps : List Str) (us : List Value), ps.Nodup → us.length = ps.length → ∀ (i : Nat) (p : Str), ps[i]? = some p → ∃ u, us[i]? = some u ∧ (ps.zip us).lookup p = some u
  | [], us, _, _, i, p, h => by simp at h
  | q :: ps, [], _, h, _, _, _ => by cases h
  | q :: ps, u :: us, nd, hl, i, p, h => by
    obtain ⟨n1, n2⟩ := List.nodup_cons.mp nd
    cases i with
    | zero =>
      simp at h
      subst h
      exact ⟨u, rfl, by simp [List.zip_cons_cons, List.lookup_cons]⟩
    | succ i =>
      have h : ps[i]? = some p := by simpa using h
      obtain ⟨w, h1, h2⟩ := zip_look ps us n2 (by simpa using hl) i p h
      refine ⟨w, by simpa using h1, ?_⟩
      have ne : (p == q) = false := by
        have : p ≠ q := fun e => n1 (e ▸ List.mem_of_getElem? h)
        simpa using this
      rw [List.zip_cons_cons, List.lookup_cons, ne]
      exact h2
theorem zip_fm {f : Str → Option Value} : ∀ (ps : List Str) (us : List Value), us.length = ps.length → (∀ (i : Nat) (p : Str), ps[i]? = some p → ∃ u, us[i]? = some u ∧ f p = some u) → (ps.filterMap fun n => (f n).map (n, ·)) = ps.zip us
  | [], us, _, _ => by simp
  | q :: ps, [], h, _ => by cases h
  | q :: ps, u :: us, hl, k => by
    obtain ⟨w, h1, h2⟩ := k 0 q rfl
    simp at h1
    subst h1
    rw [List.filterMap_cons, h2]
    simp only [Option.map_some, List.zip_cons_cons]
    rw [zip_fm ps us (by simpa using hl) fun i p hp => by
      obtain ⟨w, a, b⟩ := k (i + 1) p (by simpa using hp)
      exact ⟨w, by simpa using a, b⟩]
theorem bind_plain {x qual : Str} {params : Arguments} {body : List Stmt} {scope : Scope} {kV doc pm cdv ct : Value} {an : Option Addr} {ps : List Str} (h1 : params.posonlyargs = []) (h2 : params.args.map (·.arg) = ps) (h3 : params.vararg = none) (h4 : params.kwonlyargs = []) (h5 : params.kwarg = none) (nd : ps.Nodup)
    (us : List Value) (hl : us.length = ps.length) : bindArgs (PySem.W.fnOf x qual params body scope .none kV doc pm an cdv ct) ⟨us, []⟩ = pure (ps.zip us) := by
  have some_all : ∀ p ∈ ps, ((ps.zip us).lookup p).isNone = false := fun p hp => by
    obtain ⟨i, hi⟩ := List.mem_iff_getElem?.mp hp
    obtain ⟨u, _, e⟩ := zip_look ps us nd hl i p hi
    rw [e]
    rfl
  have miss : (ps.filter fun n => ((ps.zip us).lookup n).isNone) = [] := List.filter_eq_nil_iff.mpr fun p hp => by rw [some_all p hp]; decide
  have e0 : seqItems? (PySem.W.fnOf x qual params body scope .none kV doc pm an cdv ct).defaults = pure none := rfl
  have e1 : (PySem.W.fnOf x qual params body scope .none kV doc pm an cdv ct).params = params := rfl
  unfold bindArgs
  rw [e0, e1]
  simp only [h1, h2, h3, h4, h5, List.map_nil, List.nil_append, List.append_nil, List.forIn_nil, pure_bind]
  simp only [hl, gt_iff_lt, Nat.lt_irrefl, decide_false, Bool.false_and, Bool.false_eq_true, if_false, pure_bind, Option.getD_none, List.length_nil, Nat.zero_sub, List.drop_nil, Nat.sub_zero, List.take_length, List.drop_length, List.zip_nil_left, List.forIn_nil]
  rw [miss, zip_fm ps us hl fun i p hp => zip_look ps us nd hl i p hp]
  rfl
/-! ### the table of a law's defs -/
structure Ent where
  st : Stmt
  nm : Str
  N : List Str
  F : Fd
def Ent.ps (e : Ent) : List Str := (defArgs e.st).args.map (·.arg)
def Ent.fnI (e : Ent) : FnI := ⟨e.nm, e.F.np, e.ps⟩
def Ent.sc (e : Ent) : Sc := ⟨e.N, (defScope e.st).names, none, true⟩
def Ent.okA (e : Ent) : Bool := (defArgs e.st).posonlyargs.isEmpty && (defArgs e.st).vararg.isNone && (defArgs e.st).kwonlyargs.isEmpty && (defArgs e.st).kwarg.isNone &&
  e.ps.length == e.F.np && e.N.length == e.F.nn && nodupB e.N && e.N.take e.ps.length == e.ps && e.ps.all e.sc.loc && (defScope e.st).names.all (fun y => !(y.2 == .free)) && (defScope e.st).kind == .function && !(defScope e.st).isCoroutine && !(defScope e.st).isGenerator
def Ent.ok (L : Lw) (e : Ent) : Bool := e.okA && kSs L e.sc e.F.body (defBody e.st)
abbrev Fns (K : PySem.W.Frag) (mg : Str → Option Value) (tab : List Ent) : Prop := ∀ e ∈ tab, ∃ (f : Addr) (fd : FuncData), mg e.nm = some (.ref f) ∧ FunD K e.nm e.nm (defArgs e.st) (defBody e.st) (defScope e.st) [] [] f fd
section
variable {P : Program} {w : World} {K : PySem.W.Frag} {mg : Str → Option Value} {base : Heap} {T : Tb} {L : Lw} {tab : List Ent} {anc : Nat → Nat → Option Bool}
theorem ent_scope {e : Ent} (h : e.okA = true) : FnScope e.N e.ps (defScope e.st) ∧ e.ps.Nodup ∧ e.ps.length = e.F.np ∧ e.N.length = e.F.nn := by
  simp only [Ent.okA, Bool.and_eq_true] at h
  obtain ⟨⟨⟨⟨⟨⟨⟨⟨⟨⟨⟨⟨h1, h2⟩, h3⟩, h4⟩, h5⟩, h6⟩, h7⟩, h8⟩, h9⟩, h10⟩, h11⟩, h12⟩, h13⟩ := h
  have nd := nodupB_ok h7
  have tk : e.N.take e.ps.length = e.ps := beq_iff_eq.mp h8
  refine ⟨⟨beq_iff_eq.mp h11, by simpa using h12, by simpa using h13, nd, tk, fun x hx => ?_, fun y hy e1 => ?_⟩, ?_, beq_iff_eq.mp h5, beq_iff_eq.mp h6⟩
  · have := List.all_eq_true.mp h9 x hx
    unfold Sc.loc at this
    split at this
    · exact .inl ‹_›
    · exact .inr ‹_›
    · cases this
  · have := List.all_eq_true.mp h10 y hy
    rw [e1] at this
    cases this
  · rw [← tk]
    exact nd.sublist (List.take_sublist _ _)
theorem ent_binds {e : Ent} {f : Addr} {fd : FuncData} (h : e.okA = true) (F : FunD K e.nm e.nm (defArgs e.st) (defBody e.st) (defScope e.st) [] [] f fd) : Binds K fd e.ps [] ∧ ∀ (s : Shared) (us : List Value), us.length = e.ps.length → BindsTo s fd ⟨us, []⟩ (e.ps.zip us) := by
  obtain ⟨_, nd, _, _⟩ := ent_scope h
  simp only [Ent.okA, Bool.and_eq_true] at h
  obtain ⟨⟨⟨⟨⟨⟨⟨⟨⟨⟨⟨⟨h1, h2⟩, h3⟩, h4⟩, h5⟩, h6⟩, h7⟩, h8⟩, h9⟩, h10⟩, h11⟩, h12⟩, h13⟩ := h
  have k : ∀ (kV doc pm : Value) (an : Option Addr) (cdv ct : Value) (us : List Value), us.length = e.ps.length → bindArgs (PySem.W.fnOf e.nm e.nm (defArgs e.st) (defBody e.st) (defScope e.st) .none kV doc pm an cdv ct) ⟨us, []⟩ = pure (e.ps.zip us) :=
    fun kV doc pm an cdv ct us hl => bind_plain (by simpa using h1) rfl (by simpa using h2) (by simpa using h3) (by simpa using h4) nd us hl
  exact ⟨F.bindsN k, F.bindsA k⟩
theorem ent_kw {e : Ent} {f : Addr} {fd : FuncData} (h : e.okA = true) (F : FunD K e.nm e.nm (defArgs e.st) (defBody e.st) (defScope e.st) [] [] f fd) (n0 : Nat) (ks : List Str) (pm : List Nat) (hk : kwOk e.ps n0 ks pm = true) : KwB K fd e.ps n0 ks pm := by
  obtain ⟨_, nd, _, _⟩ := ent_scope h
  simp only [Ent.okA, Bool.and_eq_true] at h
  obtain ⟨⟨⟨⟨⟨⟨⟨⟨⟨⟨⟨⟨h1, h2⟩, h3⟩, h4⟩, h5⟩, h6⟩, h7⟩, h8⟩, h9⟩, h10⟩, h11⟩, h12⟩, h13⟩ := h
  exact fun_kw F (by simpa using h1) rfl (by simpa using h2) (by simpa using h3) (by simpa using h4) nd n0 ks pm hk
theorem fns_ok (hK : T.K = K) (hL : L.fns = tab.map Ent.fnI) (hfn : Fns K mg tab) (ha : tab.all Ent.okA = true) (hb : tab.all (fun e => kSs L e.sc e.F.body (defBody e.st)) = true) (blt : ∀ x ∈ L.blt, mg x = none) (cst : ∀ x d, L.cst.lookup x = some d → ∃ (v : V) (u : Value), mg x = some u ∧ RelV v u ∧ (∀ G μ, Rp T G μ v d) ∧ ∀ ds, d = .tup ds → ∃ a o, v = .ref a ∧ K.lookup a = some o ∧ o.cls = .type "tuple" ∧ o.dict = none) (gcd : L.gcd = true → mg "gcd" = some (.builtin "math.gcd"))
    (cls : ∀ (k : Nat) (c : ClsI), L.cls[k]? = some c → mg c.nm = some (.ref (T.cl k)) ∧ OexC K (T.cl k) ∧ ∃ (f : Addr) (fd : FuncData), PySem.W.findIn K (.ref (T.cl k)) "__init__" = some (some (.ref f)) ∧ PySem.W.typeIn K (.ref f) = some (.type "function") ∧ Binds K fd (c.slf :: c.fs) [] ∧ FnOk P w K mg base (L2.CX P w) 1 f fd (c.slf :: c.fs) (spIni (T.cl k) c.fs)) (fld : ∀ (i : Nat) (f : Str), L.fld[i]? = some f → T.fn i = f)
    (inj : ∀ i j, T.fn i = T.fn j → i = j) (xf : ∀ c, c < L.cls.length → XfC T.K (T.cl c) ∧ ∀ f ∈ L.fld, PySem.W.findIn T.K (.ref (T.cl c)) f = some none)
    (hnd : ∀ (k : Nat) (x : Str), L.hnd[k]? = some x → (mg x = some (T.hv k) ∨ (mg x = none ∧ bootBuiltins x = some (T.hv k) ∧ x ≠ "__name__")) ∧ ∀ c b, anc c k = some b → c < L.cls.length ∧ PySem.W.exmOne T.K (.ref (T.cl c)) (T.hv k) = some b) (hxa : T.xa = none)
    (exc : ∀ c, c < L.cls.length → ExcC T.K (T.cl c)) (hcv : ∀ (k : Nat) (x : Str), L.hnd[k]? = some x → cvOk (T.hv k) = true) (hkt : ∀ c k b, anc c k = some b → PySem.W.kitOne T.K (.ref (T.cl c)) (T.hv k) = some b) (dcs : ∀ x p, L.dcs.lookup x = some p → KdF K w T mg x p.1 p.2) :
    ∀ (n k : Nat) (e : Ent), tab[k]? = some e → ∀ (f : Addr) (fd : FuncData), mg e.nm = some (.ref f) → FunD K e.nm e.nm (defArgs e.st) (defBody e.st) (defScope e.st) [] [] f fd → FnOk P w K mg base (L2.CX P w) (n + 2) f fd e.ps (spD T e.F.np (callD (tab.map Ent.F) anc n k)) := by
  intro n
  induction n with
  | zero =>
    intro k e he f fd hm F
    exact ⟨fun vs H Q E ⟨G, μ, st, ds, _, _, _, p⟩ => p.elim, fun A outer s H args us vs Q E _ _ _ _ ⟨G, μ, st, ds, _, _, _, p⟩ => p.elim⟩
  | succ n ih =>
    intro k e he f fd hm F
    have hmem := List.mem_of_getElem? he
    have h1 := List.all_eq_true.mp ha e hmem
    have h2 := List.all_eq_true.mp hb e hmem
    obtain ⟨S, nd, l1, l2⟩ := ent_scope h1
    have hF : (tab.map Ent.F)[k]? = some e.F := by rw [List.getElem?_map, he]; rfl
    refine F.ok S (fun vs H Q E ⟨G, μ, st, ds, _, r, l, _⟩ => by rw [r.len, l, l1]) fun cdv A outer s H vs Q E hr hsp => ?_
    obtain ⟨G, μ, st, ds, hrr, rl, ld, p⟩ := hsp
    rw [callD, hF] at p
    simp only [ld, if_true] at p
    refine ⟨tSt T (fun cls d _ H' => E cls d H') (evSs ⟨callD (tab.map Ent.F) anc n, anc⟩ e.F.body), ?_, ?_⟩
    · refine kSs_ok (L := L) (S := e.sc) e.F.body ⟨⟨blt, fun _ => ?_, cst, gcd, fun _ k ci h => ⟨(cls k ci h).1, (cls k ci h).2.1, (cls k ci h).2.2⟩, fun _ => hr.mono (by omega), fld, inj, xf, hnd, exc, hcv, hkt, dcs⟩, rfl, S.nd, rfl, S.kind, fun x _ => rfl, hK, fun _ => rfl, ?_, fun a q d z => (by rw [hxa] at z; cases z), fun _ => hxa⟩ ⟨?_, fun _ => ?_, fun _ => ⟨rfl, rfl⟩⟩ h2
      · intro k' i hi
        rw [hL, List.getElem?_map] at hi
        cases he' : tab[k']? with
        | none => rw [he'] at hi; cases hi
        | some e' =>
          rw [he'] at hi
          cases hi
          obtain ⟨f', fd', hm', F'⟩ := hfn e' (List.mem_of_getElem? he')
          exact ⟨f', fd', e'.ps, n + 2, hm', F'.kp, (ent_binds (List.all_eq_true.mp ha e' (List.mem_of_getElem? he')) F').1, hr, ih k' e' he' f' fd' hm' F', ent_kw (List.all_eq_true.mp ha e' (List.mem_of_getElem? he')) F'⟩
      · have := hr.un
        show (A.deeper (envOfC e.nm (defScope e.st) s.heap.objs.size f cdv)).units + 100 < cLine
        omega
      · exact takes_of rfl rfl rfl rfl
      · exact passes_of rfl
    · refine ⟨G, μ, _, st, hrr, er_start rl l2, ?_⟩
      rw [ld]
      exact ps_end hrr p
/-- what the law's def promises -/
def spLaw (K : PySem.W.Frag) (m : Nat) : Sp := fun vs H Q _ => ∃ (a : Addr) (ns : List Int), vs = [.ref a] ∧ ns.length ≤ m ∧ SqL K H a (ns.map V.int) ∧ ∀ H', Q (.bl true) H'
theorem law_sp {m n k : Nat} {fds : List Fd} (hK : T.K = K) (h : ∀ ns : List Int, ns.length ≤ m → ∃ st', callD fds anc n k [.ro (ns.map .int)] [] = .ok (.bl true) st') (vs : List V) (H : Hp) (Q : VK) (E : XK) (q : spLaw K m vs H Q E) :
    spD T 1 (callD fds anc n k) vs H Q (fun _ _ _ => False) := by
  obtain ⟨a, ns, rfl, hm, hS, hQ⟩ := q
  obtain ⟨st', e⟩ := h ns hm
  refine ⟨H, [], [], [.ro (ns.map .int)], ⟨fun _ _ z => z, rfl, fun i b z => by simp at z, fun i j b z => by simp at z⟩, .cons (.ro (hK ▸ hS) (RpL.ofInts ns)) .nil, rfl, ?_⟩
  rw [e]
  intro G' μ' H' v e' hr' rv
  cases rv
  exact hQ H'
theorem cx0_of {m n : Nat} {f : Addr} {fd : FuncData} {ps : List Str} {sp sp' : Sp} (F : FnOk P w K mg base (L2.CX P w) n f fd ps sp') (h : ∀ vs H Q E, sp vs H Q E → sp' vs H Q (fun _ _ _ => False)) : FnOk P w K mg base CX0 n f fd ps sp := by
  refine ⟨fun vs H Q E q => F.len vs H Q _ (h _ _ _ _ q), fun A outer s H args us vs Q E hr e0 hb r q => codeAny_mono (F.run A outer s H args us vs Q _ hr e0 hb r (h _ _ _ _ q)) fun res s' c => ?_⟩
  cases res with
  | ok fl =>
    cases fl with
    | ret u => exact c
    | _ => exact c.elim
  | error e =>
    obtain ⟨_, _, _, _, _, _, _, _, _, _, _, _, z⟩ := c
    exact z.elim
end
end DI
set_option Elab.async false
set_option linter.all false
set_option maxRecDepth 100000
set_option maxHeartbeats 4000000
set_option autoImplicit false
namespace DI
open PySem PySem.Spec PyProof.Rows L2
/-! ### the head's Hook: facts as one test of the written part -/
def obsB (fb : PySem.W.Frag → Bool) (fn : List He.DefD) (K : PySem.W.Frag) : He.AlD := (fb K && fn.all fun d => d.ok K, fn.map fun d => He.fnW K d.at_)
def obsBG (n : Nat) (fb : PySem.W.Frag → Bool) (fn : List He.DefD) (g : Addr → Option Obj) : He.AlD := obsB fb fn (He.frG g (He.asD g n))
def hookB (n : Nat) (fb : PySem.W.Frag → Bool) (fn : List He.DefD) : PySem.W.Hook where
  α := He.AlD
  obs := fun s => obsBG n fb fn s.heap.get?
  val := fun _ => He.valD fn
  says := fun _ h => ∃ K : PySem.W.Frag, K.In h ∧ obsB fb fn K = He.valD fn
  of := fun _ _ e => ⟨_, He.frG_in, e⟩
  keeps := fun _ _ _ ⟨K, hK, c⟩ k => ⟨K, PySem.W.Frag.In.keeps hK k, c⟩
theorem obsBG_eq {n : Nat} {fb : PySem.W.Frag → Bool} {fn : List He.DefD} {g : Addr → Option Obj} {s : Shared} (h : ∀ a, g a = s.heap.get? a) : obsBG n fb fn g = (hookB n fb fn).obs s := by
  have e : g = s.heap.get? := funext h
  rw [e] <;> rfl
def Ent.defD (e : Ent) : He.DefD := ⟨(e.nm, none), e.nm, e.nm, defArgs e.st, defBody e.st, defScope e.st, [], []⟩
def ClsI.defD (c : ClsI) : He.DefD := ⟨(c.nm, some "__init__"), "__init__", c.qual, defArgs c.st, defBody c.st, defScope c.st, [], []⟩
abbrev defsB (tab : List Ent) (L : Lw) : List He.DefD := tab.map Ent.defD ++ L.cls.map ClsI.defD
/-- which class is under which, as a table -/
def ancB (t : List (List Bool)) : Nat → Nat → Option Bool := fun c k => (t[c]?).bind fun r => r[k]?
def clA (L : Lw) (K : PySem.W.Frag) (k : Nat) : Addr := match L.cls[k]? with
  | some c => He.ga K c.nm
  | none => 0
def fnA (L : Lw) (i : Nat) : Str := match L.fld[i]? with
  | some f => f
  | none => ⟨Array.replicate (1000 + i) 0⟩
def hvO (K : PySem.W.Frag) (x : Str) : Value := match PySem.W.nsIn K mainGlobals x with
  | some (some v) => v
  | _ => (bootBuiltins x).getD .none
def hvA (L : Lw) (K : PySem.W.Frag) (k : Nat) : Value := match L.hnd[k]? with
  | some x => hvO K x
  | none => .none
def tbA (L : Lw) (K : PySem.W.Frag) : Tb := ⟨K, clA L K, fnA L, none, hvA L K⟩
def clsB0 (L : Lw) (K : PySem.W.Frag) (c : ClsI) : Bool := (He.Fa.glo c.nm).ok K && oexB K (He.ga K c.nm) && xfB K (He.ga K c.nm) && L.fld.all (fun f => decide (PySem.W.findIn K (.ref (He.ga K c.nm)) f = some none)) &&
  decide (PySem.W.findIn K (.ref (He.ga K c.nm)) "__init__" = some (some (.ref (He.fAd K (c.nm, some "__init__"))))) && decide (PySem.W.typeIn K (.ref (He.fAd K (c.nm, some "__init__"))) = some (.type "function"))
def excB (K : PySem.W.Frag) (D : Addr) : Bool := decide (PySem.W.findIn K (.ref D) "__getattribute__" = some (some (.builtin "BaseException.__getattribute__"))) && decide (PySem.W.findIn K (.ref D) "__getattr__" = some none) && decide (PySem.W.subIn K (.ref D) (.type "BaseException") = some true) && PySem.W.hasDictIn K D && decide (PySem.W.findIn K (.ref D) "__class__" = some (some (.builtin "object.__class__"))) &&
  decide (PySem.W.specialIn K (.builtin "object.__class__") "__get__" = some (some (.builtin "getset_descriptor.__get__"))) && decide (PySem.W.takesIn K (.builtin "object.__class__") = some true) && decide (PySem.W.mroIn K D (.type "object") = some true)
theorem excB_ok {K : PySem.W.Frag} {D : Addr} (h : excB K D = true) : ExcC K D := by
  simp only [excB, Bool.and_eq_true, decide_eq_true_eq] at h
  obtain ⟨⟨⟨⟨⟨⟨⟨h1, h2⟩, h3⟩, h4⟩, h5⟩, h6⟩, h7⟩, h8⟩ := h
  exact ⟨h1, h2, h3, h4, h5, h6, h7, h8⟩
def clsB (L : Lw) (K : PySem.W.Frag) (c : ClsI) : Bool := clsB0 L K c && excB K (He.ga K c.nm)
def hndB (K : PySem.W.Frag) (x : Str) : Bool := (match PySem.W.nsIn K mainGlobals x with
  | some (some v) => cvOk v
  | some none => (match bootBuiltins x with | some v => cvOk v | none => false) && !(x == ("__name__" : Str))
  | none => false)
def lookB (L : Lw) (t : List (List Bool)) : Bool := L.cls.all ClsI.ok && nodupB L.fld && L.fld.all (fun f => decide (f.cps.size < 1000)) && t.length == L.cls.length && L.cls.all (fun c => c.fs.all fun f => L.fld.contains f)
/-- names that stand, names that don't, classes, handlers -/
def factB (tab : List Ent) (L : Lw) (t : List (List Bool)) (K : PySem.W.Frag) : Bool := (tab.all fun e => (He.Fa.glo e.nm).ok K) && (L.blt.all fun x => (He.Fa.free x).ok K) && (!L.gcd || He.eqO (PySem.W.nsIn K mainGlobals "gcd") (some (some (.builtin "math.gcd")))) &&
  L.cls.all (clsB L K) && L.hnd.all (hndB K) && (List.range L.cls.length).all (fun c => (List.range L.hnd.length).all fun k => match ancB t c k with
    | none => true
    | some b => decide (PySem.W.exmOne K (.ref (clA L K c)) (hvA L K k) = some b) && decide (PySem.W.kitOne K (.ref (clA L K c)) (hvA L K k) = some b))
section
variable {K : PySem.W.Frag} {h : Heap} {mg : Str → Option Value} {tab : List Ent} {L : Lw} {t : List (List Bool)} {fb : PySem.W.Frag → Bool}
theorem says_B {fn : List He.DefD} (c : obsB fb fn K = He.valD fn) : fb K = true ∧ ∀ d ∈ fn, ∃ fd, FunD K d.name d.qual d.params d.body d.scope (d.dvs K) (d.kws K) (He.fAd K d.at_) fd := by
  have c1 : (fb K && fn.all fun d => d.ok K) = true := congrArg (fun z : He.AlD => z.1) c
  have c2 : fn.map (fun d => He.fnW K d.at_) = fn.map He.DefD.val := congrArg (fun z : He.AlD => z.2) c
  rw [Bool.and_eq_true] at c1
  refine ⟨c1.1, fun d hd => ?_⟩
  have k1 := List.all_eq_true.mp c1.2 _ hd
  obtain ⟨i, hi⟩ := List.mem_iff_getElem?.mp hd
  have k2 := congrArg (fun l => l[i]?) c2
  simp only [List.getElem?_map, hi] at k2
  exact He.DefD.funD (Option.some.inj k2) k1
theorem fnA_inj (h1 : nodupB L.fld = true) (h2 : L.fld.all (fun f => decide (f.cps.size < 1000)) = true) : ∀ i j, fnA L i = fnA L j → i = j := by
  intro i j e
  have sz : ∀ (i : Nat) (f : Str), L.fld[i]? = some f → f.cps.size < 1000 := fun i f hf => of_decide_eq_true (List.all_eq_true.mp h2 f (List.mem_of_getElem? hf))
  unfold fnA at e
  cases hi : L.fld[i]? with
  | none =>
    rw [hi] at e
    cases hj : L.fld[j]? with
    | none =>
      rw [hj] at e
      have := congrArg (fun z : Str => z.cps.size) e
      simp only [Array.size_replicate] at this
      omega
    | some g =>
      rw [hj] at e
      have := congrArg (fun z : Str => z.cps.size) e
      simp only [Array.size_replicate] at this
      have := sz j g hj
      omega
  | some f =>
    rw [hi] at e
    cases hj : L.fld[j]? with
    | none =>
      rw [hj] at e
      have := congrArg (fun z : Str => z.cps.size) e
      simp only [Array.size_replicate] at this
      have := sz i f hi
      omega
    | some g =>
      rw [hj] at e
      have e : f = g := e
      subst e
      exact L2.nodup_ix (nodupB_ok h1) hi hj
/-- what the head tells, as fns_ok wants it -/
theorem facts_B (X : K.In h) (G : h.Ns mainGlobals mg) (c : obsB fb (defsB tab L) K = He.valD (defsB tab L)) (hf : fb K = true → factB tab L t K = true) (hl : lookB L t = true) :
    Fns K mg tab ∧ (∀ x ∈ L.blt, mg x = none) ∧ (L.gcd = true → mg "gcd" = some (.builtin "math.gcd")) ∧
    (∀ (P : Program) (w : World) (base : Heap) (k : Nat) (c : ClsI), L.cls[k]? = some c → mg c.nm = some (.ref ((tbA L K).cl k)) ∧ OexC K ((tbA L K).cl k) ∧ ∃ (f : Addr) (fd : FuncData), PySem.W.findIn K (.ref ((tbA L K).cl k)) "__init__" = some (some (.ref f)) ∧ PySem.W.typeIn K (.ref f) = some (.type "function") ∧ Binds K fd (c.slf :: c.fs) [] ∧ FnOk P w K mg base (L2.CX P w) 1 f fd (c.slf :: c.fs) (spIni ((tbA L K).cl k) c.fs)) ∧
    (∀ c, c < L.cls.length → XfC (tbA L K).K ((tbA L K).cl c) ∧ ∀ f ∈ L.fld, PySem.W.findIn (tbA L K).K (.ref ((tbA L K).cl c)) f = some none) ∧
    (∀ (k : Nat) (x : Str), L.hnd[k]? = some x → (mg x = some ((tbA L K).hv k) ∨ (mg x = none ∧ bootBuiltins x = some ((tbA L K).hv k) ∧ x ≠ "__name__")) ∧ ∀ c b, ancB t c k = some b → c < L.cls.length ∧ PySem.W.exmOne (tbA L K).K (.ref ((tbA L K).cl c)) ((tbA L K).hv k) = some b) ∧
    (∀ i j, (tbA L K).fn i = (tbA L K).fn j → i = j) ∧ (∀ c, c < L.cls.length → ExcC (tbA L K).K ((tbA L K).cl c)) ∧ (∀ (k : Nat) (x : Str), L.hnd[k]? = some x → cvOk ((tbA L K).hv k) = true) ∧
    ((t.all fun r => decide (r.length ≤ L.hnd.length)) = true → ∀ c k b, ancB t c k = some b → PySem.W.kitOne (tbA L K).K (.ref ((tbA L K).cl c)) ((tbA L K).hv k) = some b) := by
  obtain ⟨c1, c2⟩ := says_B c
  have f := hf c1
  simp only [factB, Bool.and_eq_true] at f
  obtain ⟨⟨⟨⟨⟨f1, f2⟩, f3⟩, f4⟩, f5⟩, f6⟩ := f
  simp only [lookB, Bool.and_eq_true] at hl
  obtain ⟨⟨⟨⟨l1, l2⟩, l3⟩, l4⟩, l5⟩ := hl
  have cls_at : ∀ {k : Nat} {c : ClsI}, L.cls[k]? = some c → clA L K k = He.ga K c.nm := fun {k c} hk => by unfold clA; rw [hk]
  have cf : ∀ {k : Nat} {c : ClsI}, L.cls[k]? = some c → clsB L K c = true := fun {k c} hk => List.all_eq_true.mp f4 c (List.mem_of_getElem? hk)
  refine ⟨fun e he => ?_, fun x hx => He.free_ok X G (List.all_eq_true.mp f2 x hx), fun hg => ?_, fun P w base k c hk => ?_, fun c hc => ?_, fun k x hk => ⟨?_, fun c b hb => ?_⟩, fnA_inj l2 l3, fun c hc => ?_, fun k x hk => ?_, fun ht c k b hb => ?_⟩
  · obtain ⟨fd, F⟩ := c2 e.defD (List.mem_append_left _ (List.mem_map.mpr ⟨e, he, rfl⟩))
    exact ⟨_, fd, He.glo_ok X G (List.all_eq_true.mp f1 e he), F⟩
  · rw [hg] at f3
    exact PySem.W.mg_of X G (He.eqO_ok (by simpa using f3))
  · have q := cf hk
    unfold clsB at q
    rw [Bool.and_eq_true] at q
    obtain ⟨q, qx⟩ := q
    simp only [clsB0, Bool.and_eq_true, decide_eq_true_eq] at q
    obtain ⟨⟨⟨⟨⟨q1, q2⟩, q3⟩, q4⟩, q5⟩, q6⟩ := q
    have ok := List.all_eq_true.mp l1 c (List.mem_of_getElem? hk)
    obtain ⟨fd, F⟩ := c2 c.defD (List.mem_append_right _ (List.mem_map.mpr ⟨c, List.mem_of_getElem? hk, rfl⟩))
    show mg c.nm = some (.ref (clA L K k)) ∧ OexC K (clA L K k) ∧ _
    rw [show (tbA L K).cl k = clA L K k from rfl, cls_at hk]
    refine ⟨He.glo_ok X G q1, oexB_ok q2, _, fd, q5, q6, ?_, ini_fnok ok F (oexB_ok q2) fun f hf => ?_⟩
    · have ok2 := ok
      simp only [ClsI.ok, Bool.and_eq_true, Bool.not_eq_true', decide_eq_true_eq] at ok2
      obtain ⟨⟨⟨⟨⟨⟨⟨⟨⟨⟨⟨⟨⟨h1, h2⟩, h3⟩, h4⟩, h5⟩, h6⟩, h7⟩, h8⟩, h9⟩, h10⟩, h11⟩, h12⟩, h13⟩, h14⟩ := ok2
      exact F.bindsN fun kV doc pm an cdv ct us hl => bind_plain (by simpa using h1) (beq_iff_eq.mp h5) (by simpa using h2) (by simpa using h3) (by simpa using h4) (nodupB_ok h6) us hl
    · have h1 := List.all_eq_true.mp (List.all_eq_true.mp l5 c (List.mem_of_getElem? hk)) f hf
      exact of_decide_eq_true (List.all_eq_true.mp q4 f (by simpa using h1))
  · obtain ⟨ci, hk⟩ : ∃ ci, L.cls[c]? = some ci := ⟨_, List.getElem?_eq_getElem hc⟩
    have q := cf hk
    unfold clsB at q
    rw [Bool.and_eq_true] at q
    obtain ⟨q, qx⟩ := q
    simp only [clsB0, Bool.and_eq_true, decide_eq_true_eq] at q
    obtain ⟨⟨⟨⟨⟨q1, q2⟩, q3⟩, q4⟩, q5⟩, q6⟩ := q
    show XfC K (clA L K c) ∧ ∀ f ∈ L.fld, PySem.W.findIn K (.ref (clA L K c)) f = some none
    rw [cls_at hk]
    exact ⟨xfB_ok q3, fun f hf => of_decide_eq_true (List.all_eq_true.mp q4 f hf)⟩
  · have q := List.all_eq_true.mp f5 x (List.mem_of_getElem? hk)
    have e : (tbA L K).hv k = hvO K x := by
      show hvA L K k = _
      unfold hvA
      rw [hk]
    rw [e]
    unfold hndB at q
    unfold hvO
    cases hn : PySem.W.nsIn K mainGlobals x with
    | none => rw [hn] at q; cases q
    | some o =>
      rw [hn] at q
      cases o with
      | some v => exact .inl (PySem.W.mg_of X G hn)
      | none =>
        right
        simp only [Bool.and_eq_true, Bool.not_eq_true', beq_eq_false_iff_ne] at q
        cases hv : bootBuiltins x with
        | none => rw [hv] at q; cases q.1
        | some v => exact ⟨PySem.W.mg_none_of X G hn, rfl, q.2⟩
  · have hc : c < L.cls.length := by
      unfold ancB at hb
      cases hr : t[c]? with
      | none => rw [hr] at hb; cases hb
      | some r =>
        have := (List.getElem?_eq_some_iff.mp hr).1
        rw [beq_iff_eq.mp l4] at this
        exact this
    have hk' := (List.getElem?_eq_some_iff.mp hk).1
    have q := List.all_eq_true.mp (List.all_eq_true.mp f6 c (List.mem_range.mpr hc)) k (List.mem_range.mpr hk')
    rw [hb] at q
    rw [Bool.and_eq_true] at q
    exact ⟨hc, of_decide_eq_true q.1⟩
  · obtain ⟨ci, hk⟩ : ∃ ci, L.cls[c]? = some ci := ⟨_, List.getElem?_eq_getElem hc⟩
    have q := cf hk
    unfold clsB at q
    rw [Bool.and_eq_true] at q
    show ExcC K (clA L K c)
    rw [cls_at hk]
    exact excB_ok q.2
  · have q := List.all_eq_true.mp f5 x (List.mem_of_getElem? hk)
    have e : (tbA L K).hv k = hvO K x := by
      show hvA L K k = _
      unfold hvA
      rw [hk]
    rw [e]
    unfold hndB at q
    unfold hvO
    cases hn : PySem.W.nsIn K mainGlobals x with
    | none => rw [hn] at q; cases q
    | some o =>
      rw [hn] at q
      cases o with
      | some v => exact q
      | none =>
        simp only [Bool.and_eq_true] at q
        cases hv : bootBuiltins x with
        | none => rw [hv] at q; cases q.1
        | some v => rw [hv] at q; exact q.1
  · have hc : c < L.cls.length ∧ k < L.hnd.length := by
      unfold ancB at hb
      cases hr : t[c]? with
      | none => rw [hr] at hb; cases hb
      | some r =>
        rw [hr] at hb
        have h1 := (List.getElem?_eq_some_iff.mp hr).1
        rw [beq_iff_eq.mp l4] at h1
        have h2 := of_decide_eq_true (List.all_eq_true.mp ht r (List.mem_of_getElem? hr))
        have h3 := (List.getElem?_eq_some_iff.mp (show r[k]? = some b from hb)).1
        exact ⟨h1, by omega⟩
    have q := List.all_eq_true.mp (List.all_eq_true.mp f6 c (List.mem_range.mpr hc.1)) k (List.mem_range.mpr hc.2)
    rw [hb] at q
    rw [Bool.and_eq_true] at q
    exact of_decide_eq_true q.2
/-- the constants, by a test -/
def cstB (L : Lw) (K : PySem.W.Frag) : Bool := L.cst.all fun p => match PySem.W.nsIn K mainGlobals p.1 with
  | some (some u) => cvB K 12 u p.2
  | _ => false
theorem look_mem {α : Type} {x : Str} {d : α} : ∀ {l : List (Str × α)}, l.lookup x = some d → (x, d) ∈ l
  | [], h => by cases h
  | (y, e) :: l, h => by
    rw [List.lookup_cons] at h
    split at h
    · rename_i q
      cases h
      rw [beq_iff_eq.mp q]
      exact List.mem_cons_self ..
    · exact List.mem_cons_of_mem _ (look_mem h)
theorem cst_B {K : PySem.W.Frag} {h : Heap} {mg : Str → Option Value} {L : Lw} (X : K.In h) (G : h.Ns mainGlobals mg) (hc : cstB L K = true) : ∀ x d, L.cst.lookup x = some d → ∃ (v : V) (u : Value), mg x = some u ∧ RelV v u ∧ (∀ G μ, Rp (tbA L K) G μ v d) ∧ ∀ ds, d = .tup ds → ∃ a o, v = .ref a ∧ K.lookup a = some o ∧ o.cls = .type "tuple" ∧ o.dict = none := by
  intro x d hx
  have := List.all_eq_true.mp hc _ (look_mem hx)
  split at this
  · rename_i u hu
    obtain ⟨v, r1, r2⟩ := cvB_ok (T := tbA L K) rfl 12 u d this
    refine ⟨v, u, PySem.W.mg_of X G hu, r1, r2, fun ds e => ?_⟩
    subst e
    obtain ⟨a, o, e1, e2, e3, e4⟩ := cvB_tup this
    subst e1
    refine ⟨a, o, ?_, e2, e3, e4⟩
    cases v with
    | ref b => exact congrArg V.ref (by injection (show Value.ref a = Value.ref b from r1) with q; exact q.symm)
    | non => exact nomatch (show Value.ref a = Value.none from r1)
    | bl b => exact nomatch (show Value.ref a = Value.bool b from r1)
    | ty b => exact nomatch (show Value.ref a = Value.type b from r1)
    | int i => obtain ⟨t, z⟩ := (show ∃ t, Value.ref a = Value.int i t from r1); exact nomatch z
    | str i => obtain ⟨t, z⟩ := (show ∃ t, Value.ref a = Value.str i t from r1); exact nomatch z
    | byt i => obtain ⟨t, z⟩ := (show ∃ t, Value.ref a = Value.bytes i t from r1); exact nomatch z
    | flt i => obtain ⟨t, z⟩ := (show ∃ t, Value.ref a = Value.float i t from r1); exact nomatch z
  · cases this
end
/-! ### dicts of the module -/
def dictB (L : Lw) (K : PySem.W.Frag) : Bool := L.dcs.all fun p => (He.Fa.glo p.1).ok K &&
  p.2.1.all (fun q => match q.1 with
    | .str s => (match PySem.W.nsIn K (He.ga K p.1) (txS s) with
      | some (some u) => cvB K 12 u q.2
      | _ => false)
    | _ => false) &&
  p.2.2.all (fun m => match m with
    | .str s => (match PySem.W.nsIn K (He.ga K p.1) (txS s) with
      | some none => true
      | _ => false)
    | _ => false)
def txOf : D → Str
  | .str s => txS s
  | _ => ""
def tsOf2 (L : Lw) : List (Str × List Str) := L.dcs.map fun p => (p.1, p.2.1.map fun q => txOf q.1)
abbrev AlK : Type := He.AlD × List (Option (List (Option (Str × Int))))
def dicsW (ts : List (Str × List Str)) (K : PySem.W.Frag) : List (Option (List (Option (Str × Int)))) := ts.map fun t => He.dicW K (He.ga K t.1)
def keysW (ts : List (Str × List Str)) (w : World) : List (Option (List (Option (Str × Int)))) := ts.map fun t => some (He.keysIn w.params t.2)
def obsK (fb : PySem.W.Frag → Bool) (fn : List He.DefD) (ts : List (Str × List Str)) (K : PySem.W.Frag) : AlK := (obsB fb fn K, dicsW ts K)
def obsKG (n : Nat) (fb : PySem.W.Frag → Bool) (fn : List He.DefD) (ts : List (Str × List Str)) (g : Addr → Option Obj) : AlK := obsK fb fn ts (He.frG g (He.asD g n))
def valK (fn : List He.DefD) (ts : List (Str × List Str)) (w : World) : AlK := (He.valD fn, keysW ts w)
def hookK (n : Nat) (fb : PySem.W.Frag → Bool) (fn : List He.DefD) (ts : List (Str × List Str)) : PySem.W.Hook where
  α := AlK
  obs := fun s => obsKG n fb fn ts s.heap.get?
  val := fun w => valK fn ts w
  says := fun w h => ∃ K : PySem.W.Frag, K.In h ∧ obsK fb fn ts K = valK fn ts w
  of := fun _ _ e => ⟨_, He.frG_in, e⟩
  keeps := fun _ _ _ ⟨K, hK, c⟩ k => ⟨K, PySem.W.Frag.In.keeps hK k, c⟩
theorem obsKG_eq {n : Nat} {fb : PySem.W.Frag → Bool} {fn : List He.DefD} {ts : List (Str × List Str)} {g : Addr → Option Obj} {s : Shared} (h : ∀ a, g a = s.heap.get? a) : obsKG n fb fn ts g = (hookK n fb fn ts).obs s := by
  have e : g = s.heap.get? := funext h
  rw [e] <;> rfl
theorem says_K {fb : PySem.W.Frag → Bool} {fn : List He.DefD} {ts : List (Str × List Str)} {K : PySem.W.Frag} {w : World} (c : obsK fb fn ts K = valK fn ts w) : obsB fb fn K = He.valD fn ∧ dicsW ts K = keysW ts w :=
  ⟨congrArg (fun z : AlK => z.1) c, congrArg (fun z : AlK => z.2) c⟩
theorem dict_ok {K : PySem.W.Frag} {w : World} {h : Heap} {mg : Str → Option Value} {L : Lw} (X : K.In h) (G : h.Ns mainGlobals mg) (hb : dictB L K = true) (ht : dicsW (tsOf2 L) K = keysW (tsOf2 L) w) : ∀ x p, L.dcs.lookup x = some p → KdF K w (tbA L K) mg x p.1 p.2 := by
  intro x p hx
  have hm := look_mem hx
  have := List.all_eq_true.mp hb _ hm
  simp only [Bool.and_eq_true] at this
  obtain ⟨⟨f1, f2⟩, f3⟩ := this
  obtain ⟨i, hi⟩ := List.mem_iff_getElem?.mp hm
  have e := congrArg (fun l => l[i]?) ht
  simp only [dicsW, keysW, tsOf2, List.getElem?_map, hi, Option.map_some] at e
  obtain ⟨es, n, hD⟩ := He.dicW_ok (Option.some.inj e)
  refine ⟨_, es, n, He.glo_ok X G f1, hD, fun k z hz => ?_, fun k hk => ?_⟩
  · have key : ∀ (l : List (D × D)), getK l (.str k) = some z → (.str k, z) ∈ l := by
      intro l
      induction l with
      | nil => intro h; cases h
      | cons q l ih =>
        intro h
        unfold getK at h
        split at h
        · rename_i hq
          cases h
          have : q.1 = .str k := by
            cases hq1 : q.1 with
            | str s => rw [hq1] at hq; rw [show s = k from by simpa [kEq] using hq]
            | _ => rw [hq1] at hq; cases hq
          rw [← this]
          exact List.mem_cons_self ..
        · exact List.mem_cons_of_mem _ (ih h)
    have q := List.all_eq_true.mp f2 _ (key _ hz)
    simp only at q
    split at q
    · rename_i u hu
      obtain ⟨v, r1, r2⟩ := cvB_ok (T := tbA L K) rfl 12 u z q
      exact ⟨u, v, hu, r1, r2⟩
    · cases q
  · obtain ⟨m, hm2, hq⟩ := List.any_eq_true.mp hk
    have q := List.all_eq_true.mp f3 _ hm2
    cases m with
    | str s =>
      have e2 : s = k := by simpa [kEq] using hq
      subst e2
      simp only at q
      split at q
      · rename_i hu; exact hu
      · cases q
    | _ => cases q
end DI
set_option Elab.async false
set_option linter.all false
set_option maxRecDepth 100000
set_option maxHeartbeats 4000000
set_option autoImplicit false
namespace DI
/-! ### running the reading -/
theorem obeq_refl (o : Ob) : Ob.beq o o = true := by
  cases o with
  | lst xs => simp [Ob.beq, D.beqL_refl]
  | dct kvs => simp [Ob.beq, kvEq_refl]
theorem keeps_refl (n : Nat) : ∀ st : Sto, keeps n st st = true
  | [] => rfl
  | o :: st => by simp [keeps, obeq_refl, keeps_refl n st]
theorem keeps_app (n : Nat) : ∀ st ex : Sto, keeps n st (st ++ ex) = true
  | [], _ => rfl
  | o :: st, ex => by simp [keeps, obeq_refl, keeps_app n st ex]
theorem fin_same {d d' : D} {st : Sto} (h : frzX st st.length 5 d = some d') : finD false st d st = .ok d' st := by
  unfold finD
  simp only [Bool.false_eq_true, if_false, h, keeps_refl, if_true, List.take_length]
theorem fin_app {d d' : D} {st ex : Sto} (h : frzX (st ++ ex) st.length 5 d = some d') : finD false st d (st ++ ex) = .ok d' st := by
  unfold finD
  simp only [Bool.false_eq_true, if_false, h, keeps_app, if_true, List.take_left]
/-- a store of which the first entries changed, by things that hold no new ones -/
theorem fin_to {d d' : D} {st st' : Sto} (h : frzX st' st.length 5 d = some d') (hk : keeps st.length st st' = true) : finD false st d st' = .ok d' (st'.take st.length) := by
  unfold finD
  simp only [Bool.false_eq_true, if_false, h, hk, if_true]
theorem call_at {fds : List Fd} {anc : Nat → Nat → Option Bool} {n k : Nat} {vs : List D} {st : Sto} {F : Fd} (h : fds[k]? = some F) (hl : vs.length = F.np) :
    callD fds anc (n + 1) k vs st = endD F.keep st (evSs ⟨callD fds anc n, anc⟩ F.body (vs.map some ++ List.replicate (F.nn - vs.length) none) st) := by
  rw [callD, h]
  simp only [hl, if_true]
theorem run_ret {fds : List Fd} {anc : Nat → Nat → Option Bool} {n k : Nat} {vs : List D} {st : Sto} {F : Fd} {ρ0 ρ1 : Env} {d : D} (h : fds[k]? = some F) (hl : vs.length = F.np) (hk : F.keep = false) (h0 : vs.map some ++ List.replicate (F.nn - vs.length) none = ρ0)
    (hb : evSs ⟨callD fds anc n, anc⟩ F.body ρ0 st = .ok (.rt d) ρ1 st) (hf : frzX st st.length 5 d = some d) : callD fds anc (n + 1) k vs st = .ok d st := by
  rw [call_at h hl, h0, hb, hk]
  exact fin_same hf
theorem run_retA {fds : List Fd} {anc : Nat → Nat → Option Bool} {n k : Nat} {vs : List D} {st ex : Sto} {F : Fd} {ρ0 ρ1 : Env} {d d' : D} (h : fds[k]? = some F) (hl : vs.length = F.np) (hk : F.keep = false) (h0 : vs.map some ++ List.replicate (F.nn - vs.length) none = ρ0)
    (hb : evSs ⟨callD fds anc n, anc⟩ F.body ρ0 st = .ok (.rt d) ρ1 (st ++ ex)) (hf : frzX (st ++ ex) st.length 5 d = some d') : callD fds anc (n + 1) k vs st = .ok d' st := by
  rw [call_at h hl, h0, hb, hk]
  exact fin_app hf
theorem run_retS {fds : List Fd} {anc : Nat → Nat → Option Bool} {n k : Nat} {vs : List D} {st st' : Sto} {F : Fd} {ρ0 ρ1 : Env} {d d' : D} (h : fds[k]? = some F) (hl : vs.length = F.np) (hk : F.keep = false) (h0 : vs.map some ++ List.replicate (F.nn - vs.length) none = ρ0)
    (hb : evSs ⟨callD fds anc n, anc⟩ F.body ρ0 st = .ok (.rt d) ρ1 st') (hf : frzX st' st.length 5 d = some d') (hkp : keeps st.length st st' = true) (hlen : st'.length = st.length) : callD fds anc (n + 1) k vs st = .ok d' st' := by
  rw [call_at h hl, h0, hb, hk]
  show finD false st d st' = _
  rw [fin_to hf hkp, ← hlen, List.take_length]
theorem ev_cons {C : Cal} {c : Cm} {cs : List Cm} {ρ ρ1 : Env} {st st1 : Sto} (h : evS C c ρ st = .ok .nx ρ1 st1) : evSs C (c :: cs) ρ st = evSs C cs ρ1 st1 := by
  rw [evSs, h]
  rfl
theorem ev_whl {C : Cal} {c : Ex} {b cs : List Cm} {ρ ρ1 : Env} {st st1 : Sto} (h : whileF (fun ρ st => evT C c ρ st) (fun ρ st => evSs C b ρ st) FUEL ρ st = .ok .nx ρ1 st1) : evSs C (.whl c b :: cs) ρ st = evSs C cs ρ1 st1 := ev_cons h
theorem ev_rt {C : Cal} {c : Cm} {cs : List Cm} {ρ ρ1 : Env} {st st1 : Sto} {d : D} (h : evS C c ρ st = .ok (.rt d) ρ1 st1) : evSs C (c :: cs) ρ st = .ok (.rt d) ρ1 st1 := by
  rw [evSs, h]
  rfl
/-- a while, by a measure -/
theorem while_rule {t : Env → Sto → R Bool} {b : Env → Sto → RS} (I : Nat → Env → Sto → Prop) (Q : Env → Sto → Prop)
    (step : ∀ m ρ st, I m ρ st → (∃ st', t ρ st = .ok false st' ∧ Q ρ st') ∨ ∃ st1 ρ' st' m', t ρ st = .ok true st1 ∧ (b ρ st1 = .ok .nx ρ' st' ∨ b ρ st1 = .ok .ct ρ' st') ∧ m' < m ∧ I m' ρ' st') :
    ∀ (f m : Nat) (ρ : Env) (st : Sto), m < f → I m ρ st → ∃ ρ' st', whileF t b f ρ st = .ok .nx ρ' st' ∧ Q ρ' st' := by
  intro f
  induction f with
  | zero => intro m ρ st h; omega
  | succ f ih =>
    intro m ρ st h i
    rcases step m ρ st i with ⟨st', h1, h2⟩ | ⟨st1, ρ', st', m', h1, h2, h3, h4⟩
    · exact ⟨ρ, st', by rw [whileF, h1], h2⟩
    · obtain ⟨r2, s2, h5, h6⟩ := ih m' ρ' st' (by omega) h4
      refine ⟨r2, s2, ?_, h6⟩
      rw [whileF, h1]
      rcases h2 with h2 | h2 <;> simp only [h2] <;> exact h5
/-- a for over things told ahead, that runs to its end -/
theorem for_rule {b : D → Env → Sto → RS} (I : Nat → Env → Sto → Prop) : ∀ (xs : List D) (i : Nat) (ρ : Env) (st : Sto), I i ρ st →
    (∀ j x ρ st, xs[j]? = some x → I (i + j) ρ st → ∃ ρ' st', (b x ρ st = .ok .nx ρ' st' ∨ b x ρ st = .ok .ct ρ' st') ∧ I (i + j + 1) ρ' st') → ∃ ρ' st', forS b xs ρ st = .ok .nx ρ' st' ∧ I (i + xs.length) ρ' st' := by
  intro xs
  induction xs with
  | nil => intro i ρ st h _; exact ⟨ρ, st, rfl, h⟩
  | cons x xs ih =>
    intro i ρ st h k
    obtain ⟨ρ', st', h1, h2⟩ := k 0 x ρ st rfl h
    obtain ⟨r2, s2, h3, h4⟩ := ih (i + 1) ρ' st' h2 fun j y ρ st hy hi => by
      have := k (j + 1) y ρ st (by simpa using hy) (by rw [show i + (j + 1) = i + 1 + j by omega]; exact hi)
      rw [show i + (j + 1) + 1 = i + 1 + j + 1 by omega] at this
      exact this
    refine ⟨r2, s2, ?_, by rw [List.length_cons, show i + (xs.length + 1) = i + 1 + xs.length by omega]; exact h4⟩
    rw [forS]
    rcases h1 with h1 | h1 <;> simp only [h1] <;> exact h3
/-! ### sizes of numbers -/
def Sz (k : Nat) (x : Int) : Prop := x.natAbs < 2 ^ k
theorem Sz.mono {j k : Nat} {x : Int} (h : Sz j x) (l : j ≤ k) : Sz k x := Nat.lt_of_lt_of_le h (Nat.pow_le_pow_right (by decide) l)
theorem Sz.mul {j k : Nat} {x y : Int} (h : Sz j x) (l : Sz k y) : Sz (j + k) (x * y) := by
  unfold Sz at *
  rw [Int.natAbs_mul, Nat.pow_add]
  exact Nat.mul_lt_mul'' h l
theorem Sz.add {k : Nat} {x y : Int} (h : Sz k x) (l : Sz k y) : Sz (k + 1) (x + y) := by
  unfold Sz at *
  rw [Nat.pow_succ]
  omega
theorem Sz.sub {k : Nat} {x y : Int} (h : Sz k x) (l : Sz k y) : Sz (k + 1) (x - y) := by
  unfold Sz at *
  rw [Nat.pow_succ]
  omega
theorem Sz.neg {k : Nat} {x : Int} (h : Sz k x) : Sz k (-x) := by
  unfold Sz at *
  omega
theorem Sz.ok {j k : Nat} {x y : Int} (h : Sz j x) (l : Sz k y) (hj : j ≤ 400000) (hk : k ≤ 400000) : mulOk x y = true := by
  have key : ∀ {i : Nat} {z : Int}, Sz i z → i ≤ 400000 → z.natAbs.log2 < 400001 := fun {i z} h hi => by
    by_cases h0 : z.natAbs = 0
    · rw [h0]; decide
    · have := (Nat.log2_lt h0).mpr (show z.natAbs < 2 ^ i from h)
      omega
  unfold mulOk
  have a := key h hj
  have b := key l hk
  simp only [decide_eq_true_eq]
  omega
theorem Sz.of {k : Nat} {x : Int} (h1 : -(2 ^ k : Nat) < x) (h2 : x < (2 ^ k : Nat)) : Sz k x := by
  unfold Sz
  omega
theorem Sz.div {k : Nat} {x y : Int} (h : Sz k x) (hy : 0 < y) : Sz (k + 1) (x / y) := by
  unfold Sz at *
  rw [Nat.pow_succ]
  have h1 : (x / y).natAbs ≤ x.natAbs + 1 := by
    have a1 := Int.mul_ediv_add_emod x y
    have a2 := Int.emod_nonneg x (by omega : y ≠ 0)
    have a3 := Int.emod_lt_of_pos x hy
    by_cases hx : 0 ≤ x
    · have b1 := Int.ediv_nonneg hx (by omega : 0 ≤ y)
      have b2 : x / y ≤ x := Int.ediv_le_self y hx
      omega
    · have b1 : x / y < 0 := Int.ediv_neg_of_neg_of_pos (by omega) hy
      have b2 : x ≤ x / y := by
        have : y * (x / y) ≤ 1 * (x / y) := Int.mul_le_mul_of_nonpos_right (by omega) (by omega)
        have h3 : y * (x / y) = x - x % y := by omega
        have h4 : x / y ≥ x / y * 1 := by omega
        -- y * q ≤ q, and x = y * q + r
        have h5 : x / y * y ≤ x := by rw [Int.mul_comm]; omega
        have h6 : -(x / y) * 1 ≤ -(x / y) * y := Int.mul_le_mul_of_nonneg_left (by omega) (by omega)
        have h7 : x % y < y := a3
        -- - q ≤ - q * y = r - x
        have h8 : -(x / y) * y = x % y - x := by
          have : -(x / y) * y = -(y * (x / y)) := by rw [Int.neg_mul, Int.mul_comm]
          omega
        have h9 : (-(x / y) - 1) * 1 ≤ (-(x / y) - 1) * y := Int.mul_le_mul_of_nonneg_left (by omega) (by omega)
        have h10 : (-(x / y) - 1) * y = x % y - x - y := by rw [Int.sub_mul, h8]; omega
        omega
      omega
  have h2 : 0 < 2 ^ k := Nat.pos_of_ne_zero (by simp)
  omega
end DI
namespace DI
theorem compS_map {f : D → Sto → R (Option D)} {h : D → D} {st : Sto} : ∀ (xs acc : List D), (∀ x ∈ xs, f x st = .ok (some (h x)) st) → compS f xs acc st = .ok (acc ++ xs.map h) st := by
  intro xs
  induction xs with
  | nil => intro acc _; simp [compS]
  | cons x xs ih =>
    intro acc k
    rw [compS, k x (List.mem_cons_self ..)]
    simp only [R.bind]
    rw [ih _ fun y hy => k y (List.mem_cons_of_mem _ hy)]
    simp
end DI
namespace DI
abbrev turn (C : Cal) (t : Tg) (b : List Cm) : D → Env → Sto → RS := fun x ρ st => match setT t x ρ with
    | some ρ' => evSs C b ρ' st
    | none => .bad
theorem ev_for {C : Cal} {t : Tg} {it : Ir} {b cs : List Cm} {ρ ρ2 : Env} {st st1 st2 : Sto} {xs : List D} (h1 : evIt C it ρ st = .ok (.st xs) st1) (h2 : forS (turn C t b) xs ρ st1 = .ok .nx ρ2 st2) : evSs C (.for_ t it b :: cs) ρ st = evSs C cs ρ2 st2 := by
  refine ev_cons ?_
  rw [evS, h1]
  exact h2
theorem ev_for_rt {C : Cal} {t : Tg} {it : Ir} {b cs : List Cm} {ρ ρ2 : Env} {st st1 st2 : Sto} {xs : List D} {d : D} (h1 : evIt C it ρ st = .ok (.st xs) st1) (h2 : forS (turn C t b) xs ρ st1 = .ok (.rt d) ρ2 st2) : evSs C (.for_ t it b :: cs) ρ st = .ok (.rt d) ρ2 st2 := by
  refine ev_rt ?_
  rw [evS, h1]
  exact h2
end DI
namespace DI
theorem ev_lc {C : Cal} {mu : Bool} {t : Tg} {it : Ir} {cs : List Ex} {x : Ex} {own : List Nat} {ρ : Env} {st st1 st2 : Sto} {xs ds : List D} (h1 : evIt C it ρ st = .ok (.st xs) st1) (h2 : compS (cTurn t own (evCs C cs) (evE C x) ρ) xs [] st1 = .ok ds st2) : evE C (.lc mu t it cs x own) ρ st = newL mu ds st2 := by
  rw [evE.eq_22, h1]
  show ((compS (cTurn t own (evCs C cs) (evE C x) ρ) xs [] st1).noE.bind fun ds st => newL mu ds st) = _
  rw [h2]
  rfl
theorem newL_ok {ds : List D} {st : Sto} (h : ds.length ≤ 10000000) : newL false ds st = .ok (.lst ds) st := by
  unfold newL
  rw [if_pos (show ds.length ≤ SZ from h)]
  rfl
end DI
namespace DI
theorem for_rule0 {b : D → Env → Sto → RS} (I : Nat → Env → Sto → Prop) {xs : List D} {n : Nat} (hn : xs.length = n) {ρ : Env} {st : Sto} (h0 : I 0 ρ st)
    (k : ∀ j x ρ st, xs[j]? = some x → I j ρ st → ∃ ρ' st', (b x ρ st = .ok .nx ρ' st' ∨ b x ρ st = .ok .ct ρ' st') ∧ I (j + 1) ρ' st') : ∃ ρ' st', forS b xs ρ st = .ok .nx ρ' st' ∧ I n ρ' st' := by
  obtain ⟨ρ', st', h1, h2⟩ := for_rule I xs 0 ρ st h0 fun j x ρ st hx hi => by
    obtain ⟨ρ', st', a, b⟩ := k j x ρ st hx (by rw [Nat.zero_add] at hi; exact hi)
    exact ⟨ρ', st', a, by rw [Nat.zero_add]; exact b⟩
  rw [Nat.zero_add, hn] at h2
  exact ⟨ρ', st', h1, h2⟩
end DI
namespace DI
theorem ev_ret {C : Cal} {x : Ex} {cs : List Cm} {ρ : Env} {st st1 : Sto} {d : D} (h : evE C x ρ st = .ok d st1) : evSs C (.ret x :: cs) ρ st = .ok (.rt d) ρ st1 := by
  refine ev_rt ?_
  rw [evS, h]
  rfl
theorem ev_if_rt {C : Cal} {c : Ex} {a b cs : List Cm} {ρ ρ1 : Env} {st st1 st2 : Sto} {d : D} (hc : evT C c ρ st = .ok true st1) (h : evSs C a ρ st1 = .ok (.rt d) ρ1 st2) : evSs C (.ife c a b :: cs) ρ st = .ok (.rt d) ρ1 st2 := by
  refine ev_rt ?_
  rw [evS, hc]
  exact h
theorem ev_if_f {C : Cal} {c : Ex} {a cs : List Cm} {ρ : Env} {st st1 : Sto} (hc : evT C c ρ st = .ok false st1) : evSs C (.ife c a [] :: cs) ρ st = evSs C cs ρ st1 := by
  refine ev_cons ?_
  rw [evS, hc]
  rfl
end DI
set_option Elab.async false
set_option linter.all false
set_option maxRecDepth 100000
set_option maxHeartbeats 4000000
set_option autoImplicit false
namespace DI
/-! ### running the reading, what is to be done next alone -/
/-! what is to be done afterwards stands where simp does not look -/
class Kn (α β : Type) where
  f : α → Sto → R β
class Ks (α : Type) where
  f : α → Sto → RS
class Ke where
  f : Env → Sto → RS
class Kx where
  f : Nat → List (Nat × D) → Env → Sto → RS
class Al (β : Type) where
  a : β
  b : β
def R.bd {α β : Type} (x : R α) [k : Kn α β] : R β := x.bind k.f
def RS.fo {α : Type} (x : R α) (ρ : Env) [k : Ks α] : RS := RS.of x ρ k.f
def RS.sq (x : RS) [k : Ke] : RS := x.seq k.f
def R.br {α : Type} (o : Option Bool) [k : Al (R α)] : R α := match o with
  | some true => k.a
  | some false => k.b
  | none => .bad
def RS.br (c : Bool) [k : Al RS] : RS := if c then k.a else k.b
def RS.en (o : Option Env) (st : Sto) : RS := match o with
  | some ρ => .ok .nx ρ st
  | none => .bad
/-- a loop's turn, then the rest of the loop -/
def RS.lp (r : RS) [k : Ke] : RS := match r with
  | .ok .nx ρ st => k.f ρ st
  | .ok .ct ρ st => k.f ρ st
  | .ok .bk ρ st => .ok .nx ρ st
  | r => r
def RS.tr (r : RS) [k : Kx] : RS := match r with
  | .err c fs ρ st => k.f c fs ρ st
  | r => r
def R.go {α : Type} (b : Bool) [k : Kn Unit α] (st : Sto) : R α := if b then k.f () st else .bad
theorem bd_ok {α β : Type} (a : α) (st : Sto) (f : α → Sto → R β) : @R.bd α β (.ok a st) ⟨f⟩ = f a st := (rfl)
theorem bd_err {α β : Type} (c : Nat) (fs : List (Nat × D)) (st : Sto) (k : Kn α β) : @R.bd α β (.err c fs st) k = .err c fs st := (rfl)
theorem fo_ok {α : Type} (a : α) (st : Sto) (ρ : Env) (f : α → Sto → RS) : @RS.fo α (.ok a st) ρ ⟨f⟩ = f a st := (rfl)
theorem fo_err {α : Type} (c : Nat) (fs : List (Nat × D)) (st : Sto) (ρ : Env) (k : Ks α) : @RS.fo α (.err c fs st) ρ k = .err c fs ρ st := (rfl)
theorem sq_nx (ρ : Env) (st : Sto) (f : Env → Sto → RS) : @RS.sq (.ok .nx ρ st) ⟨f⟩ = f ρ st := (rfl)
theorem sq_rt (d : D) (ρ : Env) (st : Sto) (k : Ke) : @RS.sq (.ok (.rt d) ρ st) k = .ok (.rt d) ρ st := (rfl)
theorem sq_bk (ρ : Env) (st : Sto) (k : Ke) : @RS.sq (.ok .bk ρ st) k = .ok .bk ρ st := (rfl)
theorem sq_ct (ρ : Env) (st : Sto) (k : Ke) : @RS.sq (.ok .ct ρ st) k = .ok .ct ρ st := (rfl)
theorem sq_err (c : Nat) (fs : List (Nat × D)) (ρ : Env) (st : Sto) (k : Ke) : @RS.sq (.err c fs ρ st) k = .err c fs ρ st := (rfl)
theorem br_t {α : Type} (x y : R α) : @R.br α (some true) ⟨x, y⟩ = x := (rfl)
theorem br_f {α : Type} (x y : R α) : @R.br α (some false) ⟨x, y⟩ = y := (rfl)
theorem sbr_t (x y : RS) : @RS.br true ⟨x, y⟩ = x := (rfl)
theorem sbr_f (x y : RS) : @RS.br false ⟨x, y⟩ = y := (rfl)
theorem en_some (ρ : Env) (st : Sto) : RS.en (some ρ) st = .ok .nx ρ st := (rfl)
theorem lp_nx (ρ : Env) (st : Sto) (f : Env → Sto → RS) : @RS.lp (.ok .nx ρ st) ⟨f⟩ = f ρ st := (rfl)
theorem lp_ct (ρ : Env) (st : Sto) (f : Env → Sto → RS) : @RS.lp (.ok .ct ρ st) ⟨f⟩ = f ρ st := (rfl)
theorem lp_bk (ρ : Env) (st : Sto) (k : Ke) : @RS.lp (.ok .bk ρ st) k = .ok .nx ρ st := (rfl)
theorem lp_rt (d : D) (ρ : Env) (st : Sto) (k : Ke) : @RS.lp (.ok (.rt d) ρ st) k = .ok (.rt d) ρ st := (rfl)
theorem lp_err (c : Nat) (fs : List (Nat × D)) (ρ : Env) (st : Sto) (k : Ke) : @RS.lp (.err c fs ρ st) k = .err c fs ρ st := (rfl)
theorem tr_ok (l : Fl) (ρ : Env) (st : Sto) (k : Kx) : @RS.tr (.ok l ρ st) k = .ok l ρ st := (rfl)
theorem tr_err (c : Nat) (fs : List (Nat × D)) (ρ : Env) (st : Sto) (f : Nat → List (Nat × D) → Env → Sto → RS) : @RS.tr (.err c fs ρ st) ⟨f⟩ = f c fs ρ st := (rfl)
theorem go_t {α : Type} (st : Sto) (f : Unit → Sto → R α) : @R.go α true ⟨f⟩ st = f () st := (rfl)
section
variable (C : Cal) (ρ : Env) (st : Sto)
theorem e_var (i : Nat) : evE C (.var i) ρ st = R.of (ρ[i]?.join) st := by
  rw [evE]
  cases ρ[i]? with
  | none => rfl
  | some o => cases o <;> rfl
theorem e_cst (d : D) : evE C (.cst d) ρ st = .ok d st := by rw [evE]
def tupD (ds : List D) : Option D := if ds.length ≤ 10000000 then some (.tup ds) else none
theorem e_tup (es : List Ex) : evE C (.tup es) ρ st = @R.bd _ _ (evEs C es ρ st) ⟨fun ds st => R.of (tupD ds) st⟩ := by
  rw [evE]
  unfold R.bd
  congr 1
  funext ds st
  show (if ds.length ≤ SZ then _ else _) = R.of (if ds.length ≤ SZ then _ else _) st
  split <;> rfl
theorem e_lst (mu : Bool) (es : List Ex) : evE C (.lst mu es) ρ st = @R.bd _ _ (evEs C es ρ st) ⟨fun ds st => newL mu ds st⟩ := by rw [evE]; rfl
theorem e_bin (op : BO) (a b : Ex) : evE C (.bin op a b) ρ st = @R.bd _ _ (evE C a ρ st) ⟨fun x st => @R.bd _ _ (evE C b ρ st) ⟨fun y st => R.of (opB op x y st) st⟩⟩ := by rw [evE]; rfl
def negD : D → Option D
  | .int i => some (.int (-i))
  | _ => none
theorem e_neg (a : Ex) : evE C (.neg a) ρ st = @R.bd _ _ (evE C a ρ st) ⟨fun x st => R.of (negD x) st⟩ := by
  rw [evE]
  unfold R.bd
  congr 1
  funext x st
  cases x <;> rfl
theorem e_cmp (op : CO) (a b : Ex) : evE C (.cmp op a b) ρ st = @R.bd _ _ (evE C a ρ st) ⟨fun x st => @R.bd _ _ (evE C b ρ st) ⟨fun y st => R.of ((opC op x y st).map .bl) st⟩⟩ := by rw [evE]; rfl
theorem e_is (op : IO) (a : Ex) : evE C (.is_ op a) ρ st = @R.bd _ _ (evE C a ρ st) ⟨fun x st => R.of ((opI op x).map .bl) st⟩ := by rw [evE]; rfl
theorem e_chain (op op' : CO) (a b c : Ex) : evE C (.chain op op' a b c) ρ st = @R.bd _ _ (evE C a ρ st) ⟨fun x st => @R.bd _ _ (evE C b ρ st) ⟨fun y st => @R.br _ (opC op x y st) ⟨@R.bd _ _ (evE C c ρ st) ⟨fun z st => R.of ((opC op' y z st).map .bl) st⟩, .ok (.bl false) st⟩⟩⟩ := by rw [evE]; rfl
theorem e_and (a b : Ex) : evE C (.and a b) ρ st = @R.bd _ _ (evE C a ρ st) ⟨fun x st => @R.br _ (truD st x) ⟨evE C b ρ st, .ok x st⟩⟩ := by rw [evE]; rfl
theorem e_or (a b : Ex) : evE C (.or a b) ρ st = @R.bd _ _ (evE C a ρ st) ⟨fun x st => @R.br _ (truD st x) ⟨.ok x st, evE C b ρ st⟩⟩ := by rw [evE]; rfl
theorem e_not (a : Ex) : evE C (.not a) ρ st = @R.bd _ _ (evE C a ρ st) ⟨fun x st => R.of ((truD st x).map fun b => .bl (!b)) st⟩ := by
  rw [evE]
  unfold R.bd
  congr 1
  funext x st
  dsimp only
  cases truD st x <;> rfl
theorem e_ife (c a b : Ex) : evE C (.ife c a b) ρ st = @R.bd _ _ (evE C c ρ st) ⟨fun x st => @R.br _ (truD st x) ⟨evE C a ρ st, evE C b ρ st⟩⟩ := by rw [evE]; rfl
theorem e_idx (a b : Ex) : evE C (.idx a b) ρ st = @R.bd _ _ (evE C a ρ st) ⟨fun x st => @R.bd _ _ (evE C b ρ st) ⟨fun y st => R.of (idxD x y st) st⟩⟩ := by rw [evE]; rfl
theorem e_slc (mu : Bool) (a : Ex) (lo hi : Option Ex) : evE C (.slc mu a lo hi) ρ st = @R.bd _ _ (evE C a ρ st) ⟨fun x st => @R.bd _ _ (evO C lo ρ st) ⟨fun l st => @R.bd _ _ (evO C hi ρ st) ⟨fun h st => @R.bd _ _ (R.of (slcD x l h st) st) ⟨fun d st => mkL mu d st⟩⟩⟩⟩ := by rw [evE]; rfl
theorem e_cat (a b : Ex) : evE C (.cat a b) ρ st = @R.bd _ _ (evE C a ρ st) ⟨fun x st => @R.bd _ _ (evE C b ρ st) ⟨fun y st => catD x y st⟩⟩ := by rw [evE]; rfl
theorem e_rev (mu : Bool) (a : Ex) : evE C (.rev mu a) ρ st = @R.bd _ _ (evE C a ρ st) ⟨fun x st => @R.bd _ _ (R.of (revD x st) st) ⟨fun d st => mkL mu d st⟩⟩ := by rw [evE]; rfl
theorem e_call (k : Nat) (es : List Ex) (pm : List Nat) : evE C (.call k es pm) ρ st = @R.bd _ _ (evEs C es ρ st) ⟨fun vs st => C.call k (permD vs pm) st⟩ := by rw [evE]; rfl
theorem e_bi (f : Bi) (es : List Ex) : evE C (.bi f es) ρ st = @R.bd _ _ (evEs C es ρ st) ⟨fun vs st => biD f vs st⟩ := by rw [evE]; rfl
def isiV (anc : Nat → Nat → Option Bool) (ts : List Ty) (st : Sto) (x : D) : Option D := if ts.all fun t => tyOk t x then some (.bl (ts.any fun t => isiD anc st x t)) else none
theorem e_isi (a : Ex) (ts : List Ty) : evE C (.isi a ts) ρ st = @R.bd _ _ (evE C a ρ st) ⟨fun x st => R.of (isiV C.anc ts st x) st⟩ := by
  rw [evE]
  unfold R.bd
  congr 1
  funext x st
  dsimp only [isiV]
  split <;> rfl
theorem e_mth (m : Mt) (o : Ex) (es : List Ex) : evE C (.mth m o es) ρ st = @R.bd _ _ (evE C o ρ st) ⟨fun x st => @R.go _ (okM m x st) ⟨fun _ st => @R.bd _ _ (evEs C es ρ st) ⟨fun vs st => mtD m x vs st⟩⟩ st⟩ := by rw [evE]; rfl
def fldD (f : Nat) : D → Option D
  | .exc _ fs => fs.lookup f
  | _ => none
theorem e_fld (a : Ex) (f : Nat) : evE C (.fld a f) ρ st = @R.bd _ _ (evE C a ρ st) ⟨fun x st => R.of (fldD f x) st⟩ := by
  rw [evE]
  unfold R.bd
  congr 1
  funext x st
  cases x <;> rfl
def isxV (anc : Nat → Nat → Option Bool) (ks : List Nat) : Option (Option D) → Option D
  | some (some (.exc c _)) => (ancAny anc c ks).map .bl
  | _ => none
theorem e_isx (i : Nat) (ks : List Nat) : evE C (.isx i ks) ρ st = R.of (isxV C.anc ks ρ[i]?) st := by
  rw [evE]
  cases ρ[i]? with
  | none => rfl
  | some o => cases o with
    | none => rfl
    | some d => cases d <;> rfl
theorem e_dg1 (o k : Ex) : evE C (.dg1 o k) ρ st = @R.bd _ _ (evE C o ρ st) ⟨fun x st => @R.go _ ((dctD st x).isSome) ⟨fun _ st => @R.bd _ _ (evE C k ρ st) ⟨fun y st => R.of (dgD x y .non st) st⟩⟩ st⟩ := by rw [evE]; rfl
theorem e_dg2 (o k d : Ex) : evE C (.dg2 o k d) ρ st = @R.bd _ _ (evE C o ρ st) ⟨fun x st => @R.go _ ((dctD st x).isSome) ⟨fun _ st => @R.bd _ _ (evE C k ρ st) ⟨fun y st => @R.bd _ _ (evE C d ρ st) ⟨fun z st => R.of (dgD x y z st) st⟩⟩⟩ st⟩ := by rw [evE]; rfl
theorem e_tg1 (kvs : List (D × D)) (ms : List D) (k : Ex) : evE C (.tg1 kvs ms k) ρ st = @R.bd _ _ (evE C k ρ st) ⟨fun y st => R.of (tgD kvs ms y .non) st⟩ := by rw [evE]; rfl
theorem e_tg2 (kvs : List (D × D)) (ms : List D) (k d : Ex) : evE C (.tg2 kvs ms k d) ρ st = @R.bd _ _ (evE C k ρ st) ⟨fun y st => @R.bd _ _ (evE C d ρ st) ⟨fun z st => R.of (tgD kvs ms y z) st⟩⟩ := by rw [evE]; rfl
theorem e_tix (kvs : List (D × D)) (k : Ex) : evE C (.tix kvs k) ρ st = @R.bd _ _ (evE C k ρ st) ⟨fun y st => R.of (txD kvs y) st⟩ := by rw [evE]; rfl
theorem e_dcp (e : Ex) : evE C (.dcp e) ρ st = @R.bd _ _ (evE C e ρ st) ⟨fun x st => dcpD x st⟩ := by rw [evE]; rfl
theorem xs_nil : evEs C [] ρ st = .ok [] st := by rw [evEs]
theorem xs_cons (e : Ex) (es : List Ex) : evEs C (e :: es) ρ st = @R.bd _ _ (evE C e ρ st) ⟨fun d st => @R.bd _ _ (evEs C es ρ st) ⟨fun ds st => .ok (d :: ds) st⟩⟩ := by rw [evEs]; rfl
theorem xo_none : evO C none ρ st = .ok none st := by rw [evO]
def optI : D → Option (Option Int)
  | .int i => some (some i)
  | _ => none
theorem xo_some (e : Ex) : evO C (some e) ρ st = @R.bd _ _ (evE C e ρ st) ⟨fun x st => R.of (optI x) st⟩ := by
  rw [evO]
  unfold R.bd
  congr 1
  funext x st
  cases x <;> rfl
theorem ec_nil : evCs C [] ρ st = .ok true st := by rw [evCs]
theorem ec_cons (e : Ex) (es : List Ex) : evCs C (e :: es) ρ st = @R.bd _ _ (evE C e ρ st) ⟨fun x st => @R.br _ (truD st x) ⟨evCs C es ρ st, .ok false st⟩⟩ := by rw [evCs]; rfl
theorem s_asg (t : Tg) (e : Ex) : evS C (.asg t e) ρ st = @RS.fo _ (evE C e ρ st) ρ ⟨fun d st => RS.en (setT t d ρ) st⟩ := by rw [evS]; rfl
theorem s_par (i j : Nat) (a b : Ex) : evS C (.par i j a b) ρ st = @RS.fo _ (evE C a ρ st) ρ ⟨fun x st => @RS.fo _ (evE C b ρ st) ρ ⟨fun y st => .ok .nx ((ρ.set i (some x)).set j (some y)) st⟩⟩ := by rw [evS]; rfl
theorem s_par3 (i j l : Nat) (a b c : Ex) : evS C (.par3 i j l a b c) ρ st = @RS.fo _ (evE C a ρ st) ρ ⟨fun x st => @RS.fo _ (evE C b ρ st) ρ ⟨fun y st => @RS.fo _ (evE C c ρ st) ρ ⟨fun z st => .ok .nx (((ρ.set i (some x)).set j (some y)).set l (some z)) st⟩⟩⟩ := by rw [evS]; rfl
def RS.so (o : Option Sto) (ρ : Env) : RS := match o with
  | some st => .ok .nx ρ st
  | none => .bad
theorem so_some (ρ : Env) (st : Sto) : RS.so (some st) ρ = .ok .nx ρ st := (rfl)
theorem s_setIx (o i e : Ex) : evS C (.setIx o i e) ρ st = @RS.fo _ (evE C e ρ st) ρ ⟨fun v st => @RS.fo _ (evE C o ρ st) ρ ⟨fun a st => @RS.fo _ (evE C i ρ st) ρ ⟨fun k st => RS.so (setD a k v st) ρ⟩⟩⟩ := by rw [evS]; rfl
def RS.ag (o : Option D) (i : Nat) (ρ : Env) (st : Sto) : RS := match o with
  | some z => .ok .nx (ρ.set i (some z)) st
  | none => .bad
theorem ag_some (z : D) (i : Nat) (ρ : Env) (st : Sto) : RS.ag (some z) i ρ st = .ok .nx (ρ.set i (some z)) st := (rfl)
theorem s_aug (i : Nat) (op : BO) (e : Ex) : evS C (.aug i op e) ρ st = @RS.fo _ (R.of (ρ[i]?.join) st) ρ ⟨fun x st => @RS.fo _ (evE C e ρ st) ρ ⟨fun y st => RS.ag (opA op x y) i ρ st⟩⟩ := by
  rw [evS]
  cases ρ[i]? with
  | none => rfl
  | some o => cases o <;> rfl
theorem s_expr (e : Ex) : evS C (.expr e) ρ st = @RS.fo _ (evE C e ρ st) ρ ⟨fun _ st => .ok .nx ρ st⟩ := by rw [evS]; rfl
theorem s_ret (e : Ex) : evS C (.ret e) ρ st = @RS.fo _ (evE C e ρ st) ρ ⟨fun d st => .ok (.rt d) ρ st⟩ := by rw [evS]; rfl
theorem s_retN : evS C .retN ρ st = .ok (.rt .non) ρ st := by rw [evS]
theorem s_ife (c : Ex) (a b : List Cm) : evS C (.ife c a b) ρ st = @RS.fo _ (evT C c ρ st) ρ ⟨fun k st => @RS.br k ⟨evSs C a ρ st, evSs C b ρ st⟩⟩ := by rw [evS]; rfl
/-- a while -/
def RS.wh (C : Cal) (c : Ex) (b : List Cm) (ρ : Env) (st : Sto) : RS := whileF (fun ρ st => evT C c ρ st) (fun ρ st => evSs C b ρ st) FUEL ρ st
theorem s_whl (c : Ex) (b : List Cm) : evS C (.whl c b) ρ st = RS.wh C c b ρ st := by rw [evS]; rfl
def RS.tu (C : Cal) (t : Tg) (b : List Cm) : D → Env → Sto → RS := turn C t b
def RS.tn (o : Option Env) [k : Ke] (st : Sto) : RS := match o with
  | some ρ => k.f ρ st
  | none => .bad
theorem tn_some (ρ : Env) (st : Sto) (f : Env → Sto → RS) : @RS.tn (some ρ) ⟨f⟩ st = f ρ st := (rfl)
theorem tu_ap (t : Tg) (b : List Cm) (x : D) : RS.tu C t b x ρ st = @RS.tn (setT t x ρ) ⟨fun ρ st => evSs C b ρ st⟩ st := by
  unfold RS.tu RS.tn turn
  cases setT t x ρ <;> rfl
/-- a for over a source -/
def RS.fr (C : Cal) (t : Tg) (b : List Cm) (s : Src) (ρ : Env) (st : Sto) : RS := forD (RS.tu C t b) s ρ st
theorem s_for (t : Tg) (it : Ir) (b : List Cm) : evS C (.for_ t it b) ρ st = @RS.fo _ (evIt C it ρ st) ρ ⟨fun s st => RS.fr C t b s ρ st⟩ := by rw [evS]; rfl
theorem fr_st (t : Tg) (b : List Cm) (xs : List D) : RS.fr C t b (.st xs) ρ st = forS (RS.tu C t b) xs ρ st := (rfl)
theorem fr_lv (t : Tg) (b : List Cm) (i : Nat) : RS.fr C t b (.lv i) ρ st = forV (RS.tu C t b) false i (lenOb st[i]? + 1) 0 ρ st := (rfl)
theorem fr_lvE (t : Tg) (b : List Cm) (i : Nat) : RS.fr C t b (.lvE i) ρ st = forV (RS.tu C t b) true i (lenOb st[i]? + 1) 0 ρ st := (rfl)
theorem s_pass : evS C .pass ρ st = .ok .nx ρ st := by rw [evS]
theorem s_brk : evS C .brk ρ st = .ok .bk ρ st := by rw [evS]
theorem s_cont : evS C .cont ρ st = .ok .ct ρ st := by rw [evS]
theorem s_rais (c : Nat) (fl : List Nat) (es : List Ex) : evS C (.rais c fl es) ρ st = @RS.fo _ (evEs C es ρ st) ρ ⟨fun vs st => .err c (fl.zip vs).reverse ρ st⟩ := by rw [evS]; rfl
theorem s_try (b : List Cm) (hs : List (Nat × Option Nat × List Cm)) : evS C (.try_ b hs) ρ st = @RS.tr (evSs C b ρ st) ⟨fun c fs ρ st => evHs C hs c fs ρ st⟩ := by rw [evS]; rfl
theorem ss_nil : evSs C [] ρ st = .ok .nx ρ st := by rw [evSs]
theorem ss_cons (c : Cm) (cs : List Cm) : evSs C (c :: cs) ρ st = @RS.sq (evS C c ρ st) ⟨fun ρ st => evSs C cs ρ st⟩ := by rw [evSs]; rfl
theorem e_T (e : Ex) : evT C e ρ st = @R.bd _ _ (evE C e ρ st) ⟨fun x st => R.of (truD st x) st⟩ := (rfl)
theorem i_seq (e : Ex) : evIt C (.seq e) ρ st = @R.bd _ _ (evE C e ρ st) ⟨fun x st => R.of (srcD st x) st⟩ := by rw [evIt]; rfl
def rg1 (x : D) : Option Src := match x with
  | .int i => if small62 i then some (.st (rngD 0 i)) else none
  | _ => none
def rg2 (x y : D) : Option Src := match x, y with
  | .int i, .int j => if small62 i && small62 j then some (.st (rngD i j)) else none
  | _, _ => none
theorem i_rng1 (a : Ex) : evIt C (.rng1 a) ρ st = @R.bd _ _ (evE C a ρ st) ⟨fun x st => R.of (rg1 x) st⟩ := by
  rw [evIt]
  unfold R.bd
  congr 1
  funext x st
  cases x with
  | int i => simp only [rg1]; split <;> rfl
  | _ => rfl
theorem i_rng2 (a b : Ex) : evIt C (.rng2 a b) ρ st = @R.bd _ _ (evE C a ρ st) ⟨fun x st => @R.bd _ _ (evE C b ρ st) ⟨fun y st => R.of (rg2 x y) st⟩⟩ := by
  rw [evIt]
  unfold R.bd
  congr 1
  funext x st
  dsimp only
  congr 1
  funext y st
  cases x with
  | int i => cases y with
    | int j => simp only [rg2]; split <;> rfl
    | _ => rfl
  | _ => rfl
theorem i_enum (e : Ex) : evIt C (.enum e) ρ st = @R.bd _ _ (evE C e ρ st) ⟨fun x st => R.of (srcE st x) st⟩ := by rw [evIt]; rfl
/-- a comprehension's list -/
def R.lc (C : Cal) (t : Tg) (cs : List Ex) (e : Ex) (own : List Nat) (s : Src) (ρ : Env) (st : Sto) : R (List D) := (compD (fun x st => match setT t x (wipeD ρ own) with
      | none => .bad
      | some ρ' => (evCs C cs ρ' st).bind fun b st => if b then (evE C e ρ' st).bind fun d st => .ok (some d) st else .ok none st) s st).noE
theorem e_lc (mu : Bool) (t : Tg) (it : Ir) (cs : List Ex) (e : Ex) (own : List Nat) : evE C (.lc mu t it cs e own) ρ st = @R.bd _ _ (evIt C it ρ st) ⟨fun s st => @R.bd _ _ (R.lc C t cs e own s ρ st) ⟨fun ds st => newL mu ds st⟩⟩ := by rw [evE]; rfl
end
theorem of_some {α : Type} (a : α) (st : Sto) : R.of (some a) st = .ok a st := (rfl)
theorem fs_nil (b : D → Env → Sto → RS) (ρ : Env) (st : Sto) : forS b [] ρ st = .ok .nx ρ st := (rfl)
theorem fs_cons (b : D → Env → Sto → RS) (x : D) (xs : List D) (ρ : Env) (st : Sto) : forS b (x :: xs) ρ st = @RS.lp (b x ρ st) ⟨fun ρ st => forS b xs ρ st⟩ := (rfl)
theorem fv_step (b : D → Env → Sto → RS) (en : Bool) (i n j : Nat) (ρ : Env) (st : Sto) {xs : List D} {x : D} (h : st[i]? = some (.lst xs)) (hx : xs[j]? = some x) : forV b en i (n + 1) j ρ st = @RS.lp (b (if en then .tup [.int (j : Nat), x] else x) ρ st) ⟨fun ρ st => forV b en i n (j + 1) ρ st⟩ := by
  rw [forV, h]
  simp only [hx]
  rfl
theorem fv_end (b : D → Env → Sto → RS) (en : Bool) (i n j : Nat) (ρ : Env) (st : Sto) {xs : List D} (h : st[i]? = some (.lst xs)) (hx : xs[j]? = none) : forV b en i (n + 1) j ρ st = .ok .nx ρ st := by
  rw [forV, h]
  simp only [hx]
theorem end_rt (keep : Bool) (st0 st : Sto) (d : D) (ρ : Env) : endD keep st0 (.ok (.rt d) ρ st) = finD keep st0 d st := (rfl)
theorem end_nx (keep : Bool) (st0 st : Sto) (ρ : Env) : endD keep st0 (.ok .nx ρ st) = finD keep st0 .non st := (rfl)
theorem end_err (keep : Bool) (st0 st : Sto) (c : Nat) (fs : List (Nat × D)) (ρ : Env) : endD keep st0 (.err c fs ρ st) = finX keep st0 c fs st := (rfl)
mutual
/-- nothing mutable and no error in it -/
def D.pl : D → Bool
  | .tup xs => D.plL xs
  | .lst xs => D.plL xs
  | .ro xs => D.plL xs
  | .loc _ => false
  | .exc _ _ => false
  | .non | .bl _ | .int _ | .str _ => true
def D.plL : List D → Bool
  | [] => true
  | x :: r => D.pl x && D.plL r
end
theorem pl_non : D.pl .non = true := (rfl)
theorem pl_bl (b : Bool) : D.pl (.bl b) = true := (rfl)
theorem pl_int (i : Int) : D.pl (.int i) = true := (rfl)
theorem pl_str (s : Tx) : D.pl (.str s) = true := (rfl)
theorem pl_tup (xs : List D) : D.pl (.tup xs) = D.plL xs := (rfl)
theorem pl_lst (xs : List D) : D.pl (.lst xs) = D.plL xs := (rfl)
theorem pl_ro (xs : List D) : D.pl (.ro xs) = D.plL xs := (rfl)
theorem plL_nil : D.plL [] = true := (rfl)
theorem plL_cons (x : D) (xs : List D) : D.plL (x :: xs) = (D.pl x && D.plL xs) := (rfl)
mutual
theorem subX_pl (g : Nat → Option D) : ∀ d : D, d.pl = true → d.subX g = some d
  | .tup xs, h => by rw [D.subX, subXL_pl g xs h]; rfl
  | .lst xs, h => by rw [D.subX, subXL_pl g xs h]; rfl
  | .ro xs, h => by rw [D.subX, subXL_pl g xs h]; rfl
  | .loc _, h => by cases h
  | .exc _ _, h => by cases h
  | .non, _ => rfl
  | .bl _, _ => rfl
  | .int _, _ => rfl
  | .str _, _ => rfl
theorem subXL_pl (g : Nat → Option D) : ∀ xs : List D, D.plL xs = true → D.subXL g xs = some xs
  | [], _ => rfl
  | x :: r, h => by
    have h' : (D.pl x && D.plL r) = true := h
    rw [Bool.and_eq_true] at h'
    rw [D.subXL, subX_pl g x h'.1, subXL_pl g r h'.2]
end
theorem frzX_pl {d : D} (h : d.pl = true) (st : Sto) (n f : Nat) : frzX st n f d = some d := by
  cases f <;> exact subX_pl _ d h
theorem fin_pl {d : D} (h : d.pl = true) (st : Sto) : finD false st d st = .ok d st := fin_same (frzX_pl h _ _ _)
theorem fin_plA {d : D} (h : d.pl = true) (st ex : Sto) : finD false st d (st ++ ex) = .ok d st := fin_app (frzX_pl h _ _ _)
theorem fin_plA1 {d : D} (h : d.pl = true) (st : Sto) (a : Ob) : finD false st d (st ++ [a]) = .ok d st := fin_plA h st [a]
theorem fin_k (st0 st : Sto) (d : D) : finD true st0 d st = .ok d st := (rfl)
theorem finX_pl {c : Nat} {x : D} {f : Nat} (h : x.pl = true) (st : Sto) : finX false st c [(f, x)] st = .err c [(f, x)] st := by
  simp [finX, frzF, frzX_pl h, keeps_refl]
theorem finX_pl0 {c : Nat} (st : Sto) : finX false st c [] st = .err c [] st := by
  simp [finX, frzF, keeps_refl]
theorem finX_pl2 {c : Nat} {x y : D} {f g : Nat} (h : x.pl = true) (k : y.pl = true) (st : Sto) : finX false st c [(f, x), (g, y)] st = .err c [(f, x), (g, y)] st := by
  simp [finX, frzF, frzX_pl h, frzX_pl k, keeps_refl]
theorem plL_map {α : Type} (f : α → D) (h : ∀ a, (f a).pl = true) : ∀ l : List α, D.plL (l.map f) = true
  | [] => rfl
  | a :: l => by rw [List.map_cons, D.plL, h a, plL_map f h l]; rfl
theorem plL_all : ∀ {l : List D}, (∀ d ∈ l, d.pl = true) → D.plL l = true
  | [], _ => rfl
  | a :: l, h => by rw [D.plL, h a (List.mem_cons_self ..), plL_all fun d hd => h d (List.mem_cons_of_mem _ hd)]; rfl
theorem plL_app : ∀ (l m : List D), D.plL (l ++ m) = (D.plL l && D.plL m)
  | [], m => rfl
  | a :: l, m => by rw [List.cons_append, D.plL, D.plL, plL_app l m, Bool.and_assoc]
theorem call_run {fds : List Fd} {anc : Nat → Nat → Option Bool} {n k : Nat} {vs : List D} {st : Sto} {F : Fd} {r : R D} (h : fds[k]? = some F) (hl : vs.length = F.np) 
    (hb : endD F.keep st (evSs ⟨callD fds anc n, anc⟩ F.body (vs.map some ++ List.replicate (F.nn - vs.length) none) st) = r) : callD fds anc (n + 1) k vs st = r := by
  rw [call_at h hl, hb]
theorem ofB_some (b : Bool) : Option.map D.bl (some b) = some (.bl b) := (rfl)
theorem tru_bl (st : Sto) (b : Bool) : truD st (.bl b) = some b := (rfl)
theorem forS_tu {C : Cal} {t : Tg} {b : List Cm} {xs : List D} {ρ : Env} {st : Sto} {r : RS} (h : forS (turn C t b) xs ρ st = r) : forS (RS.tu C t b) xs ρ st = r := h
theorem ix0 (n : Nat) : ixD (n + 1) 0 = some 0 := by unfold ixD; rw [if_pos (by omega), if_pos (by omega)]; rfl
theorem ix1 (n : Nat) : ixD (n + 2) 1 = some 1 := by unfold ixD; rw [if_pos (by omega), if_pos (by omega)]; rfl
theorem ix2 (n : Nat) : ixD (n + 3) 2 = some 2 := by unfold ixD; rw [if_pos (by omega), if_pos (by omega)]; rfl
theorem ix3 (n : Nat) : ixD (n + 4) 3 = some 3 := by unfold ixD; rw [if_pos (by omega), if_pos (by omega)]; rfl
theorem ix4 (n : Nat) : ixD (n + 5) 4 = some 4 := by unfold ixD; rw [if_pos (by omega), if_pos (by omega)]; rfl
theorem ix5 (n : Nat) : ixD (n + 6) 5 = some 5 := by unfold ixD; rw [if_pos (by omega), if_pos (by omega)]; rfl
theorem ix6 (n : Nat) : ixD (n + 7) 6 = some 6 := by unfold ixD; rw [if_pos (by omega), if_pos (by omega)]; rfl
theorem ix7 (n : Nat) : ixD (n + 8) 7 = some 7 := by unfold ixD; rw [if_pos (by omega), if_pos (by omega)]; rfl
theorem ix8 (n : Nat) : ixD (n + 9) 8 = some 8 := by unfold ixD; rw [if_pos (by omega), if_pos (by omega)]; rfl
theorem ix9 (n : Nat) : ixD (n + 10) 9 = some 9 := by unfold ixD; rw [if_pos (by omega), if_pos (by omega)]; rfl
theorem ix10 (n : Nat) : ixD (n + 11) 10 = some 10 := by unfold ixD; rw [if_pos (by omega), if_pos (by omega)]; rfl
theorem ix11 (n : Nat) : ixD (n + 12) 11 = some 11 := by unfold ixD; rw [if_pos (by omega), if_pos (by omega)]; rfl
theorem ix12 (n : Nat) : ixD (n + 13) 12 = some 12 := by unfold ixD; rw [if_pos (by omega), if_pos (by omega)]; rfl
theorem ix13 (n : Nat) : ixD (n + 14) 13 = some 13 := by unfold ixD; rw [if_pos (by omega), if_pos (by omega)]; rfl
theorem ix14 (n : Nat) : ixD (n + 15) 14 = some 14 := by unfold ixD; rw [if_pos (by omega), if_pos (by omega)]; rfl
theorem ix15 (n : Nat) : ixD (n + 16) 15 = some 15 := by unfold ixD; rw [if_pos (by omega), if_pos (by omega)]; rfl
theorem ixm1 (n : Nat) : ixD (n + 1) (-1) = some n := by unfold ixD; rw [if_neg (by omega), if_pos (by omega)]; congr 1; omega
theorem ixm2 (n : Nat) : ixD (n + 2) (-2) = some n := by unfold ixD; rw [if_neg (by omega), if_pos (by omega)]; congr 1; omega
theorem ix_at {n : Nat} {i : Int} (h0 : 0 ≤ i) (h1 : i < n) : ixD n i = some i.toNat := by unfold ixD; rw [if_pos h0, if_pos h1]
theorem lg_lt {n : Nat} (h : n < 1000000000000000000000000000000000000000000) : n.log2 < 9000 := by
  by_cases h0 : n = 0
  · rw [h0]; decide
  · have : n.log2 < 140 := (Nat.log2_lt h0).mpr (Nat.lt_of_lt_of_le h (by decide))
    omega
theorem lg_lt2 {n : Nat} (h : n < 1000000000000000000000000000000000000000000) : n.log2 < 1900 := by
  by_cases h0 : n = 0
  · rw [h0]; decide
  · have : n.log2 < 140 := (Nat.log2_lt h0).mpr (Nat.lt_of_lt_of_le h (by decide))
    omega
def mkDct (ks vs : List D) : List (D × D) := (ks.zip vs).foldl (fun acc p => putKD acc p.1 p.2) []
theorem e_dct (C : Cal) (ρ : Env) (st : Sto) (ks : List D) (es : List Ex) : evE C (.dct ks es) ρ st = @R.bd _ _ (evEs C es ρ st) ⟨fun vs st => .ok (.loc st.length) (st ++ [.dct (mkDct ks vs)])⟩ := by rw [evE]; rfl
theorem wh_rule {C : Cal} {c : Ex} {b : List Cm} (I : Nat → Env → Sto → Prop) (Q : Env → Sto → Prop)
    (step : ∀ m ρ st, I m ρ st → (∃ st', evT C c ρ st = .ok false st' ∧ Q ρ st') ∨ ∃ st1 ρ' st' m', evT C c ρ st = .ok true st1 ∧ (evSs C b ρ st1 = .ok .nx ρ' st' ∨ evSs C b ρ st1 = .ok .ct ρ' st') ∧ m' < m ∧ I m' ρ' st')
    {m : Nat} {ρ : Env} {st : Sto} (h : I m ρ st) (hm : m < 2 ^ 200) : ∃ ρ' st', RS.wh C c b ρ st = .ok .nx ρ' st' ∧ Q ρ' st' :=
  while_rule (t := fun ρ st => evT C c ρ st) (b := fun ρ st => evSs C b ρ st) I Q step FUEL m ρ st (Nat.lt_trans hm (by unfold FUEL; decide)) h
/-- a for with breaks: what holds through, holds behind -/
theorem for_ruleB {b : D → Env → Sto → RS} (I : Env → Sto → Prop) : ∀ (xs : List D) (ρ : Env) (st : Sto), I ρ st →
    (∀ x ρ st, x ∈ xs → I ρ st → ∃ ρ' st', (b x ρ st = .ok .nx ρ' st' ∨ b x ρ st = .ok .ct ρ' st' ∨ b x ρ st = .ok .bk ρ' st') ∧ I ρ' st') → ∃ ρ' st', forS b xs ρ st = .ok .nx ρ' st' ∧ I ρ' st'
  | [], ρ, st, h, _ => ⟨ρ, st, rfl, h⟩
  | x :: xs, ρ, st, h, k => by
    obtain ⟨ρ', st', h1, h2⟩ := k x ρ st (List.mem_cons_self ..) h
    rcases h1 with h1 | h1 | h1
    · obtain ⟨r2, s2, h3, h4⟩ := for_ruleB I xs ρ' st' h2 fun y ρ st hy hi => k y ρ st (List.mem_cons_of_mem _ hy) hi
      exact ⟨r2, s2, by rw [forS, h1]; exact h3, h4⟩
    · obtain ⟨r2, s2, h3, h4⟩ := for_ruleB I xs ρ' st' h2 fun y ρ st hy hi => k y ρ st (List.mem_cons_of_mem _ hy) hi
      exact ⟨r2, s2, by rw [forS, h1]; exact h3, h4⟩
    · exact ⟨ρ', st', by rw [forS, h1], h2⟩
theorem small62_of {i : Int} (h0 : 0 ≤ i) (h1 : i < 4000000000000000000) : small62 i = true := by
  unfold small62
  by_cases h : i = 0
  · subst h; rfl
  · have : i.natAbs.log2 < 62 := (Nat.log2_lt (by omega)).mpr (by omega)
    rw [decide_eq_true this, Bool.or_true]
theorem mulOk_lit {i j : Int} (h1 : i.natAbs < 1000000000000000000000000000000000000000000000000000000000000) (h2 : j.natAbs < 1000000000000000000000000000000000000000000000000000000000000) : mulOk i j = true := by
  have z : ∀ k : Int, k.natAbs < 1000000000000000000000000000000000000000000000000000000000000 → Sz 200 k := fun k h => Nat.lt_of_lt_of_le h (by decide)
  exact (z i h1).ok (z j h2) (by decide) (by decide)
theorem div_abs (w : Int) {o : Int} (h : 0 < o) : (w / o).natAbs ≤ w.natAbs := by
  rcases Int.le_total 0 w with hw | hw
  · have a := Int.ediv_nonneg hw (Int.le_of_lt h)
    have b := Int.ediv_le_self o hw
    omega
  · have a : w / o ≤ 0 := Int.ediv_nonpos_of_nonpos_of_neg hw h
    have b : w ≤ w / o := by
      have := Int.mul_ediv_add_emod w o
      have m0 := Int.emod_nonneg w (by omega : o ≠ 0)
      have := Int.mul_le_mul_of_nonpos_right (show (1 : Int) ≤ o by omega) a
      have m1 := Int.emod_lt_of_pos w h
      apply Int.le_ediv_of_mul_le h
      have := Int.mul_le_mul_of_nonpos_left hw (show (1 : Int) ≤ o by omega)
      omega
    omega
theorem lc_map {C : Cal} {t : Tg} {cs : List Ex} {e : Ex} {own : List Nat} {ρ : Env} {st : Sto} (h : D → D) {xs : List D} (hb : ∀ x ∈ xs, ∃ ρ', setT t x (wipeD ρ own) = some ρ' ∧ evCs C cs ρ' st = .ok true st ∧ evE C e ρ' st = .ok (h x) st) : R.lc C t cs e own (.st xs) ρ st = .ok (xs.map h) st := by
  unfold R.lc
  show (compS _ xs [] st).noE = _
  rw [compS_map (h := h) xs [] fun x hx => by
    obtain ⟨ρ', h1, h2, h3⟩ := hb x hx
    simp only [h1, h2, h3, R.bind, if_true]]
  rfl
theorem cut_all {α : Type} {xs : List α} {k : Int} (h : (xs.length : Int) ≤ k) : cutD xs none (some k) = xs := by
  unfold cutD
  have h1 : sIxD xs.length 0 none = 0 := rfl
  have h2 : sIxD xs.length xs.length (some k) = xs.length := by
    unfold sIxD
    simp only
    rw [if_neg (by omega)]
    omega
  rw [h1, h2, List.drop_zero, Nat.sub_zero, List.take_length]
theorem cut_to {α : Type} {xs : List α} {p : Nat} (h : p ≤ xs.length) : cutD xs none (some (p : Int)) = xs.take p := by
  unfold cutD
  have h1 : sIxD xs.length 0 none = 0 := rfl
  have h2 : sIxD xs.length xs.length (some (p : Int)) = p := by
    unfold sIxD
    simp only
    rw [if_neg (by omega)]
    omega
  rw [h1, h2, List.drop_zero, Nat.sub_zero]
theorem cut_from {α : Type} {xs : List α} {p : Nat} (h : p ≤ xs.length) : cutD xs (some (p : Int)) none = xs.drop p := by
  unfold cutD
  have h1 : sIxD xs.length xs.length none = xs.length := rfl
  have h2 : sIxD xs.length 0 (some (p : Int)) = p := by
    unfold sIxD
    simp only
    rw [if_neg (by omega)]
    omega
  rw [h1, h2, ← List.length_drop, List.take_length]
theorem app_get {α : Type} (st : List α) (o : α) : (st ++ [o])[st.length]? = some o := by simp
theorem app_set {α : Type} (st : List α) (o u : α) : (st ++ [o]).set st.length u = st ++ [u] := by simp
theorem rng_nat (n : Nat) : rngD 0 (n : Int) = (List.range' 0 n).map fun k => .int (k : Nat) := by
  unfold rngD
  rw [show ((n : Int) - 0).toNat = n by omega, List.range_eq_range']
  apply List.map_congr_left
  intro k _
  simp
theorem rng_get {n j : Nat} {x : D} (h : (rngD 0 (n : Int))[j]? = some x) : x = .int (j : Nat) ∧ j < n := by
  rw [rng_nat, List.getElem?_map] at h
  cases hj : (List.range' 0 n)[j]? with
  | none => rw [hj] at h; cases h
  | some k =>
    rw [hj] at h
    have hlt := (List.getElem?_eq_some_iff.mp hj).1
    rw [List.length_range'] at hlt
    rw [List.getElem?_range' hlt] at hj
    simp at hj
    subst hj
    cases h
    exact ⟨rfl, hlt⟩
theorem rng_len (n : Nat) : (rngD 0 (n : Int)).length = n := by rw [rng_nat, List.length_map, List.length_range']
/-- it ends so -/
def Res (x : R D) (P : D → Sto → Prop) : Prop := ∃ d st, x = .ok d st ∧ P d st
theorem res_ok {d : D} {st : Sto} {P : D → Sto → Prop} (h : P d st) : Res (.ok d st) P := ⟨d, st, rfl, h⟩
theorem res_run {fds : List Fd} {anc : Nat → Nat → Option Bool} {n k : Nat} {vs : List D} {st : Sto} {F : Fd} {P : D → Sto → Prop} (h : fds[k]? = some F) (hl : vs.length = F.np)
    (hb : Res (endD F.keep st (evSs ⟨callD fds anc n, anc⟩ F.body (vs.map some ++ List.replicate (F.nn - vs.length) none) st)) P) : Res (callD fds anc (n + 1) k vs st) P := by
  rw [call_at h hl]
  exact hb
theorem res_imp {x : R D} {P P' : D → Sto → Prop} (h : Res x P) (k : ∀ d st, P d st → P' d st) : Res x P' := by
  obtain ⟨d, st, e, p⟩ := h
  exact ⟨d, st, e, k d st p⟩
/-- a for over a list that stands still meanwhile -/
theorem forV_rule {b : D → Env → Sto → RS} {en : Bool} {i : Nat} {xs : List D} (I : Nat → Env → Sto → Prop) (hI : ∀ j ρ st, I j ρ st → st[i]? = some (.lst xs))
    (k : ∀ j x ρ st, xs[j]? = some x → I j ρ st → ∃ ρ' st', (b (if en then .tup [.int (j : Nat), x] else x) ρ st = .ok .nx ρ' st' ∨ b (if en then .tup [.int (j : Nat), x] else x) ρ st = .ok .ct ρ' st') ∧ I (j + 1) ρ' st') :
    ∀ (n j : Nat) (ρ : Env) (st : Sto), I j ρ st → j + n = xs.length → ∃ ρ' st', forV b en i (n + 1) j ρ st = .ok .nx ρ' st' ∧ I xs.length ρ' st' := by
  intro n
  induction n with
  | zero =>
    intro j ρ st h e
    have ej : j = xs.length := by omega
    subst ej
    exact ⟨ρ, st, fv_end b en i 0 _ ρ st (hI _ _ _ h) (List.getElem?_eq_none (Nat.le_refl _)), h⟩
  | succ n ih =>
    intro j ρ st h e
    have hx : xs[j]? = some xs[j] := List.getElem?_eq_getElem (by omega)
    obtain ⟨ρ', st', h1, h2⟩ := k j _ ρ st hx h
    obtain ⟨r2, s2, h3, h4⟩ := ih (j + 1) ρ' st' h2 (by omega)
    refine ⟨r2, s2, ?_, h4⟩
    rw [fv_step b en i (n + 1) j ρ st (hI _ _ _ h) hx]
    rcases h1 with h1 | h1 <;> rw [h1] <;> exact h3
theorem forV_rule0 {b : D → Env → Sto → RS} {en : Bool} {i : Nat} {xs : List D} (I : Nat → Env → Sto → Prop) {ρ : Env} {st : Sto} (h0 : I 0 ρ st) (hI : ∀ j ρ st, I j ρ st → st[i]? = some (.lst xs))
    (k : ∀ j x ρ st, xs[j]? = some x → I j ρ st → ∃ ρ' st', (b (if en then .tup [.int (j : Nat), x] else x) ρ st = .ok .nx ρ' st' ∨ b (if en then .tup [.int (j : Nat), x] else x) ρ st = .ok .ct ρ' st') ∧ I (j + 1) ρ' st') :
    ∃ ρ' st', forV b en i (lenOb st[i]? + 1) 0 ρ st = .ok .nx ρ' st' ∧ I xs.length ρ' st' := by
  rw [hI _ _ _ h0]
  exact forV_rule I hI k _ 0 ρ st h0 (by simp [lenOb])
end DI
set_option Elab.async false
set_option linter.all false
set_option maxRecDepth 100000
namespace K44
open PySem PySem.Spec PyProof.Rows L2 DI
def top (i : Nat) : Stmt := PySem.Challenge.pw_turnpens_k44_plans_cut.main.body.getD i (.Pass ⟨0, 0, 0, 0⟩)
def l0_0 : List Cm := [.ife (.cmp .eq (.idx (.var 3) (.cst (.int 0))) (.cst (.str [100, 111]))) [.expr (.mth .extend (.var 2) [.idx (.var 1) (.idx (.var 3) (.cst (.int 1)))])] [.ife (.cmp .eq (.idx (.var 3) (.cst (.int 0))) (.cst (.str [114, 101, 112, 101, 97, 116]))) [.expr (.mth .extend (.var 2) [.bin .mul (.call 0 [.idx (.var 3) (.cst (.int 2)), .var 1] [0, 1]) (.idx (.var 3) (.cst (.int 1)))])] [.expr (.mth .append (.var 2) [.var 3])]]]

/-- block_steps: 0 block, 1 makers, 2 told, 3 statement -/
def b0 : List Cm := [
    .asg (.nm 2) (.lst true []),
    .for_ (.nm 3) (.seq (.var 0)) l0_0,
    .ret (.var 2)]

def F0 : Fd := ⟨2, 4, false, b0⟩

def e0 : Ent := ⟨top 1, "block_steps", ["block", "makers", "told", "statement"], F0⟩

def l1_0 : List Cm := [.setIx (.var 1) (.var 2) (.call 0 [.var 3, .var 1] [0, 1])]

/-- steps_of: 0 plan, 1 makers, 2 name, 3 block -/
def b1 : List Cm := [
    .asg (.nm 1) (.dct [] []),
    .for_ (.tp [.nm 2, .nm 3]) (.seq (.idx (.var 0) (.cst (.int 0)))) l1_0,
    .ret (.bi .tuple [.call 0 [.idx (.var 0) (.cst (.int 1)), .var 1] [0, 1]])]

def F1 : Fd := ⟨1, 4, false, b1⟩

def e1 : Ent := ⟨top 2, "steps_of", ["plan", "makers", "name", "block"], F1⟩

/-- occurrences: 0 plan, 1 other, 2 steps, 3 wanted, 4 size, 5 at -/
def b2 : List Cm := [
    .asg (.tp [.nm 2, .nm 3]) (.tup [.call 1 [.var 0] [0], .call 1 [.var 1] [0]]),
    .asg (.nm 4) (.bi .len [.var 3]),
    .ife (.cmp .eq (.var 4) (.cst (.int 0))) [.ret (.tup [])] [],
    .ret (.bi .tuple [.lc false (.nm 5) (.rng1 (.bin .add (.bin .sub (.bi .len [.var 2]) (.var 4)) (.cst (.int 1)))) [.cmp .eq (.slc false (.var 2) (some (.var 5)) (some (.bin .add (.var 5) (.var 4)))) (.var 3)] (.var 5) [5]])]

def F2 : Fd := ⟨2, 6, false, b2⟩

def e2 : Ent := ⟨top 4, "occurrences", ["plan", "other", "steps", "wanted", "size", "at"], F2⟩

def l3_0 : List Cm := [.ife (.cmp .eq (.slc false (.var 3) (some (.var 6)) (some (.bin .add (.var 6) (.bi .len [.var 4])))) (.var 4)) [.expr (.mth .append (.var 5) [.tup [.cst (.str [100, 111]), .cst (.str [112, 48])]]), .aug 6 .add (.bi .len [.var 4])] [.expr (.mth .append (.var 5) [.idx (.var 3) (.var 6)]), .aug 6 .add (.cst (.int 1))]]

/-- made_plan: 0 plan, 1 begin, 2 end, 3 steps, 4 wanted, 5 told, 6 at -/
def b3 : List Cm := [
    .asg (.nm 3) (.call 1 [.var 0] [0]),
    .asg (.nm 4) (.slc false (.var 3) (some (.var 1)) (some (.var 2))),
    .asg (.nm 5) (.lst true []),
    .asg (.nm 6) (.cst (.int 0)),
    .whl (.cmp .lt (.var 6) (.bi .len [.var 3])) l3_0,
    .ret (.tup [.tup [.tup [.cst (.str [112, 48]), .var 4]], .bi .tuple [.var 5]])]

def F3 : Fd := ⟨3, 7, false, b3⟩

def e3 : Ent := ⟨top 5, "made_plan", ["plan", "begin", "end", "steps", "wanted", "told", "at"], F3⟩

def l4_0 : List Cm := [.aug 4 .add (.cst (.int 1))]

/-- common_begin: 0 one, 1 other, 2 first, 3 second, 4 many -/
def b4 : List Cm := [
    .par 2 3 (.call 1 [.var 0] [0]) (.call 1 [.var 1] [0]),
    .asg (.nm 4) (.cst (.int 0)),
    .whl (.and (.cmp .lt (.var 4) (.bi .len [.var 2])) (.and (.cmp .lt (.var 4) (.bi .len [.var 3])) (.cmp .eq (.idx (.var 2) (.var 4)) (.idx (.var 3) (.var 4))))) l4_0,
    .ret (.var 4)]

def F4 : Fd := ⟨2, 5, false, b4⟩

def e4 : Ent := ⟨top 6, "common_begin", ["one", "other", "first", "second", "many"], F4⟩

/-- cut_plan: 0 plan, 1 begin, 2 end -/
def b5 : List Cm := [
    .ret (.tup [.tup [], .slc false (.call 1 [.var 0] [0]) (some (.var 1)) (some (.var 2))])]

def F5 : Fd := ⟨3, 3, false, b5⟩

def e5 : Ent := ⟨top 9, "cut_plan", ["plan", "begin", "end"], F5⟩

/-- spliced_plan: 0 plan, 1 at, 2 other, 3 steps -/
def b6 : List Cm := [
    .asg (.nm 3) (.call 1 [.var 0] [0]),
    .ret (.tup [.tup [], .bin .add (.bin .add (.slc false (.var 3) none (some (.var 1))) (.call 1 [.var 2] [0])) (.slc false (.var 3) (some (.var 1)) none)])]

def F6 : Fd := ⟨3, 4, false, b6⟩

def e6 : Ent := ⟨top 10, "spliced_plan", ["plan", "at", "other", "steps"], F6⟩

/-- turned_plan: 0 plan, 1 v -/
def b7 : List Cm := [
    .ret (.tup [.tup [], .bin .add (.tup [.tup [.cst (.str [108, 101, 102, 116]), .var 1]]) (.call 1 [.var 0] [0])])]

def F7 : Fd := ⟨2, 2, false, b7⟩

def e7 : Ent := ⟨top 11, "turned_plan", ["plan", "v"], F7⟩

/-- swapped_steps: 0 plan, 1 v, 2 steps, 3 word, 4 told -/
def b8 : List Cm := [
    .asg (.nm 2) (.bi .tuple [.lc false (.tp [.nm 3, .nm 4]) (.seq (.call 1 [.var 0] [0])) [] (.tup [.tg2 [(.str [103, 111], .str [115, 107, 105, 112]), (.str [115, 107, 105, 112], .str [103, 111])] [.str [108, 101, 102, 116], .str [114, 105, 103, 104, 116], .str [100, 111], .str [114, 101, 112, 101, 97, 116]] (.var 3) (.var 3), .var 4]) [3, 4]]),
    .ret (.tup [.tup [], .bin .add (.var 2) (.tup [.tup [.cst (.str [108, 101, 102, 116]), .var 1]])])]

def F8 : Fd := ⟨2, 5, false, b8⟩

def e8 : Ent := ⟨top 12, "swapped_steps", ["plan", "v", "steps", "word", "told"], F8⟩

def l9_0 : List Cm := [.expr (.mth .append (.var 2) [.bin .mod (.bi .int [.var 5]) (.cst (.int 1000))]), .asg (.nm 5) (.bin .fdiv (.var 5) (.cst (.int 1000)))]

def l9_1 : List Cm := [.asg (.nm 5) (.bin .mod (.bi .int [.var 4]) (.bin .pow (.cst (.int 10)) (.cst (.int 60)))), .asg (.nm 1) (.bin .mod (.bi .int [.bin .add (.bin .add (.bin .mul (.var 1) (.cst (.int 62089))) (.bin .mod (.bi .int [.var 5]) (.cst (.int 1000003)))) (.bin .mul (.cst (.int 1109)) (.var 3))]) (.cst (.int 2147483587))), .ife (.cmp .ge (.var 5) (.bin .pow (.cst (.int 10)) (.cst (.int 18)))) [.for_ (.nm 6) (.rng1 (.cst (.int 20))) l9_0] [.expr (.mth .append (.var 2) [.bin .mod (.bi .int [.bin .fdiv (.var 1) (.cst (.int 23))]) (.cst (.int 1000))])]]

/-- _law_mug: 0 script, 1 mixed, 2 pool, 3 at, 4 given, 5 cell, 6 lap -/
def b9 : List Cm := [
    .asg (.nm 1) (.cst (.int 44071)),
    .asg (.nm 2) (.lst true []),
    .for_ (.tp [.nm 3, .nm 4]) (.enum (.slc false (.var 0) none (some (.cst (.int 59))))) l9_1,
    .ret (.lst true [.var 1, .cst (.int 0), .var 2])]

def F9 : Fd := ⟨1, 7, true, b9⟩

def e9 : Ent := ⟨top 14, "_law_mug", ["script", "mixed", "pool", "at", "given", "cell", "lap"], F9⟩

/-- _law_sip: 0 mug, 1 many, 2 at -/
def b10 : List Cm := [
    .asg (.nm 2) (.idx (.var 0) (.cst (.int 1))),
    .setIx (.var 0) (.cst (.int 1)) (.bin .add (.var 2) (.cst (.int 1))),
    .ife (.cmp .lt (.var 2) (.bi .len [.idx (.var 0) (.cst (.int 2))])) [.ret (.bin .mod (.bi .int [.idx (.idx (.var 0) (.cst (.int 2))) (.var 2)]) (.var 1))] [],
    .setIx (.var 0) (.cst (.int 0)) (.bin .mod (.bi .int [.bin .add (.bin .mul (.idx (.var 0) (.cst (.int 0))) (.cst (.int 39373))) (.cst (.int 4663))]) (.cst (.int 2147483587))),
    .ret (.bin .mod (.bi .int [.bin .fdiv (.idx (.var 0) (.cst (.int 0))) (.cst (.int 43))]) (.var 1))]

def F10 : Fd := ⟨2, 3, false, b10⟩

def e10 : Ent := ⟨top 15, "_law_sip", ["mug", "many", "at"], F10⟩

def l11_0 : List Cm := [.asg (.tp [.nm 3, .nm 4]) (.mth .pop (.var 2) []), .ife (.isi (.var 4) [.tuple, .list]) [.ife (.or (.cmp .ne (.isi (.var 3) [.tuple]) (.isi (.var 4) [.tuple])) (.or (.cmp .ne (.isi (.var 3) [.list]) (.isi (.var 4) [.list])) (.cmp .ne (.bi .len [.var 3]) (.bi .len [.var 4])))) [.ret (.cst (.bl false))] [], .expr (.mth .extend (.var 2) [.lc false (.nm 5) (.rng1 (.bi .len [.var 4])) [] (.tup [.idx (.var 3) (.var 5), .idx (.var 4) (.var 5)]) [5]])] [.ife (.is_ .isN (.var 4)) [.ife (.is_ .isnN (.var 3)) [.ret (.cst (.bl false))] []] [.ife (.or (.isi (.var 4) [.bool]) (.isi (.var 3) [.bool])) [.ife (.or (.not (.isi (.var 4) [.bool])) (.or (.not (.isi (.var 3) [.bool])) (.cmp .ne (.var 3) (.var 4)))) [.ret (.cst (.bl false))] []] [.ife (.isi (.var 4) [.str]) [.ife (.or (.not (.isi (.var 3) [.str])) (.cmp .ne (.var 3) (.var 4))) [.ret (.cst (.bl false))] []] [.ife (.or (.not (.isi (.var 3) [.int])) (.cmp .ne (.var 3) (.var 4))) [.ret (.cst (.bl false))] []]]]]]

/-- _law_same: 0 told, 1 due, 2 waiting, 3 one, 4 other, 5 at -/
def b11 : List Cm := [
    .asg (.nm 2) (.lst true [.tup [.var 0, .var 1]]),
    .whl (.cmp .gt (.bi .len [.var 2]) (.cst (.int 0))) l11_0,
    .ret (.cst (.bl true))]

def F11 : Fd := ⟨2, 6, false, b11⟩

def e11 : Ent := ⟨top 16, "_law_same", ["told", "due", "waiting", "one", "other", "at"], F11⟩

/-- _law_product: 0 one, 1 other -/
def b12 : List Cm := [
    .ret (.tup [.bin .sub (.bin .mul (.idx (.var 0) (.cst (.int 0))) (.idx (.var 1) (.cst (.int 0)))) (.bin .mul (.idx (.var 0) (.cst (.int 1))) (.idx (.var 1) (.cst (.int 1)))), .bin .add (.bin .mul (.idx (.var 0) (.cst (.int 0))) (.idx (.var 1) (.cst (.int 1)))) (.bin .mul (.idx (.var 0) (.cst (.int 1))) (.idx (.var 1) (.cst (.int 0))))])]

def F12 : Fd := ⟨2, 2, false, b12⟩

def e12 : Ent := ⟨top 17, "_law_product", ["one", "other"], F12⟩

def l13_0 : List Cm := [.asg (.nm 3) (.bin .mod (.bi .int [.var 1]) (.var 2)), .asg (.nm 1) (.var 2), .asg (.nm 2) (.var 3)]

/-- _law_least: 0 v, 1 here, 2 further, 3 rest -/
def b13 : List Cm := [
    .par 1 2 (.bi .abs [.idx (.var 0) (.cst (.int 0))]) (.bi .abs [.idx (.var 0) (.cst (.int 1))]),
    .whl (.cmp .gt (.var 2) (.cst (.int 0))) l13_0,
    .ret (.tup [.bin .fdiv (.idx (.var 0) (.cst (.int 0))) (.var 1), .bin .fdiv (.idx (.var 0) (.cst (.int 1))) (.var 1)])]

def F13 : Fd := ⟨1, 4, false, b13⟩

def e13 : Ent := ⟨top 18, "_law_least", ["v", "here", "further", "rest"], F13⟩

/-- _law_back: 0 v -/
def b14 : List Cm := [
    .ret (.tup [.idx (.var 0) (.cst (.int 0)), .neg (.idx (.var 0) (.cst (.int 1)))])]

def F14 : Fd := ⟨1, 1, false, b14⟩

def e14 : Ent := ⟨top 19, "_law_back", ["v"], F14⟩

/-- _law_earlier: 0 one, 1 other, 2 halves, 3 v -/
def b15 : List Cm := [
    .asg (.nm 2) (.lc false (.nm 3) (.seq (.tup [.var 0, .var 1])) [] (.ife (.or (.cmp .gt (.idx (.var 3) (.cst (.int 1))) (.cst (.int 0))) (.and (.cmp .eq (.idx (.var 3) (.cst (.int 1))) (.cst (.int 0))) (.cmp .gt (.idx (.var 3) (.cst (.int 0))) (.cst (.int 0))))) (.cst (.int 0)) (.cst (.int 1))) [3]),
    .ife (.cmp .ne (.idx (.var 2) (.cst (.int 0))) (.idx (.var 2) (.cst (.int 1)))) [.ret (.cmp .lt (.idx (.var 2) (.cst (.int 0))) (.idx (.var 2) (.cst (.int 1))))] [],
    .ret (.cmp .gt (.bin .sub (.bin .mul (.idx (.var 0) (.cst (.int 0))) (.idx (.var 1) (.cst (.int 1)))) (.bin .mul (.idx (.var 0) (.cst (.int 1))) (.idx (.var 1) (.cst (.int 0))))) (.cst (.int 0)))]

def F15 : Fd := ⟨2, 4, false, b15⟩

def e15 : Ent := ⟨top 20, "_law_earlier", ["one", "other", "halves", "v"], F15⟩

/-- _law_turned: 0 angle, 1 step, 2 many, 3 v, 4 by, 5 behind -/
def b16 : List Cm := [
    .asg (.tp [.nm 2, .nm 3]) (.var 0),
    .asg (.nm 4) (.ife (.cmp .eq (.idx (.var 1) (.cst (.int 0))) (.cst (.str [108, 101, 102, 116]))) (.idx (.var 1) (.cst (.int 1))) (.call 14 [.idx (.var 1) (.cst (.int 1))] [0])),
    .asg (.nm 5) (.call 13 [.call 12 [.var 3, .var 4] [0, 1]] [0]),
    .ife (.and (.cmp .eq (.idx (.var 1) (.cst (.int 0))) (.cst (.str [108, 101, 102, 116]))) (.call 15 [.var 5, .var 3] [0, 1])) [.asg (.nm 2) (.bin .add (.var 2) (.cst (.int 1)))] [],
    .ife (.and (.cmp .eq (.idx (.var 1) (.cst (.int 0))) (.cst (.str [114, 105, 103, 104, 116]))) (.call 15 [.var 3, .var 5] [0, 1])) [.asg (.nm 2) (.bin .sub (.var 2) (.cst (.int 1)))] [],
    .ret (.tup [.var 2, .var 5])]

def F16 : Fd := ⟨2, 6, false, b16⟩

def e16 : Ent := ⟨top 21, "_law_turned", ["angle", "step", "many", "v", "by", "behind"], F16⟩

def l17_0 : List Cm := [.ife (.cmp .eq (.idx (.var 3) (.cst (.int 0))) (.cst (.str [114, 101, 112, 101, 97, 116]))) [.asg (.nm 2) (.bin .add (.var 2) (.bin .mul (.call 17 [.var 0, .idx (.var 3) (.cst (.int 2))] [0, 1]) (.idx (.var 3) (.cst (.int 1)))))] [.ife (.cmp .eq (.idx (.var 3) (.cst (.int 0))) (.cst (.str [100, 111]))) [.asg (.nm 2) (.bin .add (.var 2) (.call 17 [.var 0, .idx (.dcp (.var 0)) (.idx (.var 3) (.cst (.int 1)))] [0, 1]))] [.asg (.nm 2) (.bin .add (.var 2) (.tup [.var 3]))]]]

/-- _law_steps: 0 makers, 1 block, 2 told, 3 statement -/
def b17 : List Cm := [
    .asg (.nm 2) (.tup []),
    .for_ (.nm 3) (.seq (.var 1)) l17_0,
    .ret (.var 2)]

def F17 : Fd := ⟨2, 4, false, b17⟩

def e17 : Ent := ⟨top 22, "_law_steps", ["makers", "block", "told", "statement"], F17⟩

def l18_0 : List Cm := [.ife (.cmp .mem (.idx (.var 2) (.cst (.int 0))) (.tup [.cst (.str [108, 101, 102, 116]), .cst (.str [114, 105, 103, 104, 116])])) [.asg (.nm 1) (.call 16 [.var 1, .var 2] [0, 1])] []]

/-- _law_turn_of: 0 steps, 1 angle, 2 step -/
def b18 : List Cm := [
    .asg (.nm 1) (.tup [.cst (.int 0), .tup [.cst (.int 1), .cst (.int 0)]]),
    .for_ (.nm 2) (.seq (.var 0)) l18_0,
    .ret (.var 1)]

def F18 : Fd := ⟨1, 3, false, b18⟩

def e18 : Ent := ⟨top 23, "_law_turn_of", ["steps", "angle", "step"], F18⟩

/-- _law_vector: 0 mug, 1 kind, 2 even, 3 others -/
def b19 : List Cm := [
    .asg (.nm 2) (.lst false [.tup [.cst (.int 1), .cst (.int 0)], .tup [.cst (.int 0), .cst (.int 1)], .tup [.neg (.cst (.int 1)), .cst (.int 0)], .tup [.cst (.int 0), .neg (.cst (.int 1))], .tup [.cst (.int 1), .cst (.int 1)], .tup [.neg (.cst (.int 1)), .cst (.int 1)], .tup [.neg (.cst (.int 1)), .neg (.cst (.int 1))], .tup [.cst (.int 1), .neg (.cst (.int 1))]]),
    .asg (.nm 3) (.lst false [.tup [.cst (.int 2), .cst (.int 1)], .tup [.cst (.int 1), .cst (.int 2)], .tup [.neg (.cst (.int 1)), .cst (.int 2)], .tup [.cst (.int 2), .neg (.cst (.int 1))], .tup [.cst (.int 3), .cst (.int 1)], .tup [.cst (.int 1), .neg (.cst (.int 3))], .tup [.cst (.int 3), .cst (.int 2)], .tup [.neg (.cst (.int 2)), .cst (.int 3)], .tup [.cst (.int 4), .cst (.int 3)], .tup [.cst (.int 5), .neg (.cst (.int 2))], .tup [.neg (.cst (.int 3)), .neg (.cst (.int 1))], .tup [.cst (.int 1), .cst (.int 4)]]),
    .ret (.ife (.cmp .eq (.var 1) (.cst (.int 0))) (.idx (.var 2) (.call 10 [.var 0, .cst (.int 8)] [0, 1])) (.idx (.var 3) (.call 10 [.var 0, .cst (.int 12)] [0, 1])))]

def F19 : Fd := ⟨2, 4, false, b19⟩

def e19 : Ent := ⟨top 24, "_law_vector", ["mug", "kind", "even", "others"], F19⟩

def l20_0 : List Cm := [.ife (.cmp .lt (.idx (.var 4) (.cst (.int 0))) (.cst (.int 1))) [.brk] [], .setIx (.var 4) (.cst (.int 0)) (.bin .sub (.idx (.var 4) (.cst (.int 0))) (.cst (.int 1))), .asg (.nm 7) (.call 10 [.var 0, .cst (.int 8)] [0, 1]), .ife (.cmp .lt (.var 7) (.cst (.int 3))) [.expr (.mth .append (.var 5) [.tup [.idx (.lst false [.cst (.str [103, 111]), .cst (.str [103, 111]), .cst (.str [115, 107, 105, 112])]) (.var 7), .bin .add (.cst (.int 1)) (.call 10 [.var 0, .cst (.int 3)] [0, 1])]])] [.ife (.cmp .lt (.var 7) (.cst (.int 6))) [.expr (.mth .append (.var 5) [.tup [.idx (.lst false [.cst (.str [108, 101, 102, 116]), .cst (.str [114, 105, 103, 104, 116]), .cst (.str [108, 101, 102, 116])]) (.bin .sub (.var 7) (.cst (.int 3))), .call 19 [.var 0, .ife (.cmp .gt (.call 10 [.var 0, .cst (.int 3)] [0, 1]) (.cst (.int 0))) (.var 1) (.cst (.int 0))] [0, 1]]])] [.ife (.and (.cmp .eq (.var 7) (.cst (.int 6))) (.cmp .gt (.bi .len [.var 2]) (.cst (.int 0)))) [.expr (.mth .append (.var 5) [.tup [.cst (.str [100, 111]), .idx (.var 2) (.call 10 [.var 0, .bi .len [.var 2]] [0, 1])]])] [.ife (.cmp .gt (.var 3) (.cst (.int 0))) [.expr (.mth .append (.var 5) [.tup [.cst (.str [114, 101, 112, 101, 97, 116]), .call 10 [.var 0, .cst (.int 4)] [0, 1], .call 20 [.var 0, .var 1, .var 2, .bin .sub (.var 3) (.cst (.int 1)), .var 4] [0, 1, 2, 3, 4]]])] [.expr (.mth .append (.var 5) [.tup [.cst (.str [103, 111]), .cst (.int 1)]])]]]]]

/-- _law_drawn: 0 mug, 1 kind, 2 names, 3 deep, 4 room, 5 told, 6 lap, 7 way -/
def b20 : List Cm := [
    .asg (.nm 5) (.lst true []),
    .for_ (.nm 6) (.rng1 (.bin .add (.cst (.int 1)) (.call 10 [.var 0, .cst (.int 4)] [0, 1]))) l20_0,
    .ret (.bi .tuple [.var 5])]

def F20 : Fd := ⟨5, 8, false, b20⟩

def e20 : Ent := ⟨top 25, "_law_drawn", ["mug", "kind", "names", "deep", "room", "told", "lap", "way"], F20⟩

def l21_0 : List Cm := [.expr (.mth .append (.var 1) [.ife (.cmp .mem (.idx (.var 2) (.cst (.int 0))) (.tup [.cst (.str [103, 111]), .cst (.str [115, 107, 105, 112])])) (.var 2) (.tup [.ife (.cmp .eq (.idx (.var 2) (.cst (.int 0))) (.cst (.str [108, 101, 102, 116]))) (.cst (.str [114, 105, 103, 104, 116])) (.cst (.str [108, 101, 102, 116])), .idx (.var 2) (.cst (.int 1))])])]

/-- _law_undone: 0 steps, 1 told, 2 step -/
def b21 : List Cm := [
    .asg (.nm 1) (.lst true [.tup [.cst (.str [108, 101, 102, 116]), .tup [.neg (.cst (.int 1)), .cst (.int 0)]]]),
    .for_ (.nm 2) (.seq (.rev false (.var 0))) l21_0,
    .ret (.bin .add (.bi .tuple [.var 1]) (.tup [.tup [.cst (.str [108, 101, 102, 116]), .tup [.neg (.cst (.int 1)), .cst (.int 0)]]]))]

def F21 : Fd := ⟨1, 3, false, b21⟩

def e21 : Ent := ⟨top 26, "_law_undone", ["steps", "told", "step"], F21⟩

def l22_0 : List Cm := [.asg (.nm 2) (.bin .add (.var 2) (.tup [.tup [.var 3, .call 20 [.var 0, .bi .int [.cmp .gt (.var 1) (.cst (.int 0))], .lc false (.tp [.nm 10, .nm 4]) (.seq (.var 2)) [] (.var 10) [4, 10], .cst (.int 1), .lst true [.cst (.int 3)]] [0, 1, 2, 3, 4]]]))]

/-- _law_plan: 0 mug, 1 family, 2 makers, 3 name, 4 block, 5 steps, 6 turns, 7 by, 8 v, 9 step, 10 one, 11 inner -/
def b22 : List Cm := [
    .asg (.nm 2) (.tup []),
    .for_ (.nm 3) (.seq (.slc false (.tup [.cst (.str [97]), .cst (.str [98, 50])]) none (some (.call 10 [.var 0, .cst (.int 3)] [0, 1])))) l22_0,
    .asg (.nm 4) (.call 20 [.var 0, .bi .int [.cmp .gt (.var 1) (.cst (.int 0))], .lc false (.tp [.nm 10, .nm 11]) (.seq (.var 2)) [] (.var 10) [10, 11], .cst (.int 2), .lst true [.cst (.int 6)]] [0, 1, 2, 3, 4]),
    .asg (.nm 5) (.call 17 [.var 2, .var 4] [0, 1]),
    .asg (.nm 6) (.lc false (.nm 9) (.seq (.var 5)) [.cmp .mem (.idx (.var 9) (.cst (.int 0))) (.tup [.cst (.str [108, 101, 102, 116]), .cst (.str [114, 105, 103, 104, 116])])] (.var 9) [9]),
    .ife (.or (.cmp .gt (.bi .len [.var 5]) (.cst (.int 22))) (.or (.cmp .gt (.bi .len [.var 6]) (.cst (.int 8))) (.cmp .gt (.bi .sum [.lc false (.nm 9) (.seq (.var 5)) [.cmp .mem (.idx (.var 9) (.cst (.int 0))) (.tup [.cst (.str [103, 111]), .cst (.str [115, 107, 105, 112])])] (.idx (.var 9) (.cst (.int 1))) [9]]) (.cst (.int 30))))) [.asg (.nm 4) (.tup [.tup [.cst (.str [103, 111]), .bin .add (.cst (.int 1)) (.call 10 [.var 0, .cst (.int 2)] [0, 1])], .tup [.cst (.str [108, 101, 102, 116]), .call 19 [.var 0, .bi .int [.cmp .gt (.var 1) (.cst (.int 0))]] [0, 1]], .tup [.cst (.str [115, 107, 105, 112]), .cst (.int 1)], .tup [.cst (.str [114, 105, 103, 104, 116]), .call 19 [.var 0, .bi .int [.cmp .gt (.var 1) (.cst (.int 0))]] [0, 1]]]), .par 2 5 (.tup []) (.var 4)] [],
    .ife (.cmp .eq (.var 1) (.cst (.int 2))) [.asg (.nm 7) (.call 13 [.call 12 [.call 14 [.idx (.call 18 [.var 5] [0]) (.cst (.int 1))] [0], .ife (.cmp .eq (.call 10 [.var 0, .cst (.int 2)] [0, 1]) (.cst (.int 0))) (.call 19 [.var 0, .cst (.int 0)] [0, 1]) (.tup [.cst (.int 1), .cst (.int 0)])] [0, 1]] [0]), .ife (.cmp .le (.bi .max2 [.bi .abs [.idx (.var 7) (.cst (.int 0))], .bi .abs [.idx (.var 7) (.cst (.int 1))]]) (.cst (.int 100))) [.asg (.nm 4) (.bin .add (.var 4) (.tup [.tup [.cst (.str [108, 101, 102, 116]), .var 7]]))] []] [],
    .ife (.cmp .mem (.var 1) (.tup [.cst (.int 3), .cst (.int 4)])) [.asg (.nm 4) (.bin .add (.bin .add (.var 4) (.call 21 [.var 5] [0])) (.bin .mul (.tup [.tup [.cst (.str [108, 101, 102, 116]), .call 19 [.var 0, .cst (.int 1)] [0, 1]]]) (.bi .int [.cmp .eq (.var 1) (.cst (.int 4))])))] [],
    .ife (.cmp .eq (.var 1) (.cst (.int 5))) [.asg (.nm 8) (.call 19 [.var 0, .cst (.int 1)] [0, 1]), .asg (.nm 4) (.bin .add (.bin .add (.tup [.tup [.cst (.str [108, 101, 102, 116]), .var 8]]) (.var 4)) (.tup [.tup [.cst (.str [114, 105, 103, 104, 116]), .var 8]]))] [],
    .ret (.tup [.tup [.var 2, .var 4], .call 17 [.var 2, .var 4] [0, 1]])]

def F22 : Fd := ⟨2, 12, false, b22⟩

def e22 : Ent := ⟨top 27, "_law_plan", ["mug", "family", "makers", "name", "block", "steps", "turns", "by", "v", "step", "one", "inner"], F22⟩

/-- _law_flat: 0 steps -/
def b23 : List Cm := [
    .ret (.tup [.tup [], .bi .tuple [.var 0]])]

def F23 : Fd := ⟨1, 1, false, b23⟩

def e23 : Ent := ⟨top 28, "_law_flat", ["steps"], F23⟩

/-- _law_found: 0 steps, 1 some, 2 at -/
def b24 : List Cm := [
    .ret (.bi .tuple [.lc false (.nm 2) (.rng1 (.bin .add (.bin .sub (.bi .len [.var 0]) (.bi .len [.var 1])) (.cst (.int 1)))) [.and (.cmp .gt (.bi .len [.var 1]) (.cst (.int 0))) (.cmp .eq (.slc false (.var 0) (some (.var 2)) (some (.bin .add (.var 2) (.bi .len [.var 1])))) (.var 1))] (.var 2) [2]])]

def F24 : Fd := ⟨2, 3, false, b24⟩

def e24 : Ent := ⟨top 29, "_law_found", ["steps", "some", "at"], F24⟩

def l25_0 : List Cm := [.ife (.cmp .eq (.slc false (.var 0) (some (.var 3)) (some (.bin .add (.var 3) (.bi .len [.var 1])))) (.var 1)) [.expr (.mth .append (.var 2) [.tup [.cst (.str [100, 111]), .cst (.str [112, 48])]]), .asg (.nm 3) (.bin .add (.var 3) (.bi .len [.var 1]))] [.expr (.mth .append (.var 2) [.idx (.var 0) (.var 3)]), .asg (.nm 3) (.bin .add (.var 3) (.cst (.int 1)))]]

/-- _law_made: 0 steps, 1 some, 2 block, 3 at -/
def b25 : List Cm := [
    .par 2 3 (.lst true []) (.cst (.int 0)),
    .whl (.cmp .lt (.var 3) (.bi .len [.var 0])) l25_0,
    .ret (.tup [.tup [.tup [.cst (.str [112, 48]), .var 1]], .bi .tuple [.var 2]])]

def F25 : Fd := ⟨2, 4, false, b25⟩

def e25 : Ent := ⟨top 30, "_law_made", ["steps", "some", "block", "at"], F25⟩

def l26_0 : List Cm := [.ife (.not (.call 11 [.call 5 [.var 1, .var 4, .var 5] [0, 1, 2], .call 23 [.slc false (.var 2) (some (.var 4)) (some (.var 5))] [0]] [0, 1])) [.ret (.cst (.bl false))] []]

/-- _law_cuts: 0 mug, 1 plan, 2 steps, 3 many, 4 begin, 5 end, 6 at, 7 told, 8 other, 9 more, 10 v, 11 swapped, 12 same, 13 step -/
def b26 : List Cm := [
    .asg (.nm 3) (.bi .len [.var 2]),
    .for_ (.tp [.nm 4, .nm 5]) (.seq (.tup [.tup [.cst (.int 0), .var 3], .tup [.var 3, .var 3], .tup [.call 10 [.var 0, .bin .add (.var 3) (.cst (.int 1))] [0, 1], .var 3], .tup [.cst (.int 0), .call 10 [.var 0, .bin .add (.var 3) (.cst (.int 1))] [0, 1]]])) l26_0,
    .asg (.nm 4) (.call 10 [.var 0, .bin .add (.var 3) (.cst (.int 1))] [0, 1]),
    .asg (.nm 5) (.bin .add (.var 4) (.call 10 [.var 0, .bin .add (.bin .sub (.var 3) (.var 4)) (.cst (.int 1))] [0, 1])),
    .asg (.nm 6) (.call 10 [.var 0, .bin .add (.var 3) (.cst (.int 1))] [0, 1]),
    .asg (.nm 7) (.tup [.call 5 [.var 5, .var 4, .var 1] [2, 1, 0], .call 6 [.call 5 [.var 1, .cst (.int 0), .var 6] [0, 1, 2], .var 6, .call 5 [.var 1, .var 6, .var 3] [0, 1, 2]] [0, 1, 2]]),
    .ife (.not (.call 11 [.var 7, .tup [.call 23 [.slc false (.var 2) (some (.var 4)) (some (.var 5))] [0], .call 23 [.var 2] [0]]] [0, 1])) [.ret (.cst (.bl false))] [],
    .asg (.tp [.nm 8, .nm 9]) (.call 22 [.var 0, .call 10 [.var 0, .cst (.int 6)] [0, 1]] [0, 1]),
    .ife (.and (.cmp .lt (.bin .add (.bi .len [.var 2]) (.bi .len [.var 9])) (.cst (.int 61))) (.not (.call 11 [.call 6 [.var 8, .var 6, .var 1] [2, 1, 0], .call 23 [.bin .add (.bin .add (.slc false (.var 2) none (some (.var 6))) (.var 9)) (.slc false (.var 2) (some (.var 6)) none)] [0]] [0, 1]))) [.ret (.cst (.bl false))] [],
    .asg (.nm 10) (.idx (.lst false [.tup [.cst (.int 1), .cst (.int 0)], .tup [.neg (.cst (.int 1000)), .cst (.int 999)], .tup [.cst (.int 2), .cst (.int 1)], .tup [.cst (.int 0), .neg (.cst (.int 1))], .tup [.cst (.int 7), .neg (.cst (.int 1000))]]) (.call 10 [.var 0, .cst (.int 5)] [0, 1])),
    .asg (.nm 11) (.bin .add (.bi .tuple [.lc false (.nm 13) (.seq (.var 2)) [] (.tup [.dg2 (.dct [.str [103, 111], .str [115, 107, 105, 112]] [.cst (.str [115, 107, 105, 112]), .cst (.str [103, 111])]) (.idx (.var 13) (.cst (.int 0))) (.idx (.var 13) (.cst (.int 0))), .idx (.var 13) (.cst (.int 1))]) [13]]) (.tup [.tup [.cst (.str [108, 101, 102, 116]), .var 10]])),
    .ife (.and (.cmp .lt (.var 3) (.cst (.int 60))) (.not (.call 11 [.tup [.call 7 [.var 1, .var 10] [0, 1], .call 8 [.var 1, .var 10] [0, 1]], .tup [.call 23 [.bin .add (.tup [.tup [.cst (.str [108, 101, 102, 116]), .var 10]]) (.var 2)] [0], .call 23 [.var 11] [0]]] [0, 1]))) [.ret (.cst (.bl false))] [],
    .asg (.nm 12) (.bi .len [.lc false (.nm 6) (.rng1 (.bi .min2 [.bi .len [.var 2], .bi .len [.var 9]])) [.cmp .eq (.slc false (.var 2) none (some (.bin .add (.var 6) (.cst (.int 1))))) (.slc false (.var 9) none (some (.bin .add (.var 6) (.cst (.int 1)))))] (.cst (.int 1)) [6]]),
    .ret (.call 11 [.tup [.call 4 [.var 1, .var 8] [0, 1], .call 4 [.var 8, .var 1] [0, 1], .call 4 [.var 1, .var 1] [0, 1]], .tup [.var 12, .var 12, .var 3]] [0, 1])]

def F26 : Fd := ⟨3, 14, false, b26⟩

def e26 : Ent := ⟨top 31, "_law_cuts", ["mug", "plan", "steps", "many", "begin", "end", "at", "told", "other", "more", "v", "swapped", "same", "step"], F26⟩

def l27_0 : List Cm := [.asg (.nm 6) (.slc false (.var 2) (some (.var 4)) (some (.var 5))), .ife (.not (.call 11 [.call 2 [.var 1, .call 23 [.var 6] [0]] [0, 1], .call 24 [.var 2, .var 6] [0, 1]] [0, 1])) [.ret (.cst (.bl false))] [], .asg (.nm 7) (.call 25 [.var 2, .var 6] [0, 1]), .ife (.or (.not (.call 11 [.call 3 [.var 1, .var 4, .var 5] [0, 1, 2], .var 7] [0, 1])) (.not (.call 11 [.call 1 [.call 3 [.var 5, .var 4, .var 1] [2, 1, 0]] [0], .var 2] [0, 1]))) [.ret (.cst (.bl false))] []]

/-- _law_parts: 0 mug, 1 plan, 2 steps, 3 many, 4 begin, 5 end, 6 some, 7 due, 8 bent, 9 told -/
def b27 : List Cm := [
    .asg (.nm 3) (.bi .len [.var 2]),
    .asg (.nm 4) (.call 10 [.var 0, .var 3] [0, 1]),
    .for_ (.nm 5) (.seq (.tup [.bin .add (.var 4) (.cst (.int 1)), .bin .add (.bin .add (.var 4) (.cst (.int 1))) (.call 10 [.var 0, .bin .sub (.var 3) (.var 4)] [0, 1]), .bi .min2 [.var 3, .bin .add (.var 4) (.cst (.int 2))]])) l27_0,
    .asg (.nm 8) (.bin .add (.slc false (.var 2) (some (.var 4)) none) (.tup [.tup [.cst (.str [103, 111]), .cst (.int 999)]])),
    .asg (.nm 9) (.tup [.call 2 [.var 1, .call 23 [.tup []] [0]] [0, 1], .call 2 [.var 1, .var 1] [1, 0], .call 2 [.var 1, .call 23 [.var 8] [0]] [0, 1], .call 4 [.var 1, .call 23 [.bin .add (.var 2) (.tup [.tup [.cst (.str [103, 111]), .cst (.int 1)]])] [0]] [0, 1]]),
    .ret (.call 11 [.var 9, .tup [.tup [], .call 24 [.var 2, .var 2] [0, 1], .call 24 [.var 2, .var 8] [0, 1], .var 3]] [0, 1])]

def F27 : Fd := ⟨3, 10, false, b27⟩

def e27 : Ent := ⟨top 32, "_law_parts", ["mug", "plan", "steps", "many", "begin", "end", "some", "due", "bent", "told"], F27⟩

/-- _law_again: 0 mug, 1 inner, 2 plan, 3 lap -/
def b28 : List Cm := [
    .asg (.nm 1) (.bi .tuple [.lc false (.nm 3) (.rng1 (.bin .add (.cst (.int 1)) (.call 10 [.var 0, .cst (.int 3)] [0, 1]))) [] (.idx (.lst false [.tup [.cst (.str [103, 111]), .cst (.int 1)], .tup [.cst (.str [108, 101, 102, 116]), .tup [.cst (.int 0), .cst (.int 1)]], .tup [.cst (.str [103, 111]), .cst (.int 2)], .tup [.cst (.str [115, 107, 105, 112]), .cst (.int 1)]]) (.call 10 [.var 0, .cst (.int 4)] [0, 1])) [3]]),
    .asg (.nm 2) (.tup [.tup [.tup [.cst (.str [109]), .var 1]], .tup [.tup [.cst (.str [100, 111]), .cst (.str [109])], .tup [.cst (.str [114, 101, 112, 101, 97, 116]), .bin .add (.cst (.int 1)) (.call 10 [.var 0, .cst (.int 6)] [0, 1]), .var 1], .tup [.cst (.str [103, 111]), .cst (.int 1)], .tup [.cst (.str [100, 111]), .cst (.str [109])]]]),
    .ret (.tup [.var 2, .call 17 [.idx (.var 2) (.cst (.int 0)), .idx (.var 2) (.cst (.int 1))] [0, 1]])]

def F28 : Fd := ⟨1, 4, false, b28⟩

def e28 : Ent := ⟨top 33, "_law_again", ["mug", "inner", "plan", "lap"], F28⟩

def l29_0 : List Cm := [.ife (.not (.call 26 [.var 1, .var 7, .var 8] [0, 1, 2])) [.ret (.cst (.bl false))] [], .ife (.and (.cmp .gt (.bi .len [.var 8]) (.cst (.int 0))) (.not (.call 27 [.var 1, .var 7, .var 8] [0, 1, 2]))) [.ret (.cst (.bl false))] []]

/-- law: 0 script, 1 mug, 2 square, 3 grow, 4 told, 5 due, 6 five, 7 plan, 8 steps -/
def b29 : List Cm := [
    .asg (.nm 1) (.call 9 [.var 0] [0]),
    .asg (.tp [.nm 2, .nm 3]) (.tup [.tup [.tup [], .tup [.tup [.cst (.str [114, 101, 112, 101, 97, 116]), .cst (.int 4), .tup [.tup [.cst (.str [103, 111]), .cst (.int 1)], .tup [.cst (.str [108, 101, 102, 116]), .tup [.cst (.int 0), .cst (.int 1)]]]]]], .tup [.tup [], .tup [.tup [.cst (.str [103, 111]), .cst (.int 1)], .tup [.cst (.str [108, 101, 102, 116]), .tup [.cst (.int 2), .cst (.int 1)]]]]]),
    .asg (.nm 4) (.tup [.call 5 [.var 2, .cst (.int 1), .cst (.int 3)] [0, 1, 2], .call 8 [.tup [.cst (.int 0), .cst (.int 1)], .var 3] [1, 0], .call 2 [.var 2, .tup [.tup [], .tup [.tup [.cst (.str [103, 111]), .cst (.int 1)], .tup [.cst (.str [108, 101, 102, 116]), .tup [.cst (.int 0), .cst (.int 1)]]]]] [0, 1], .call 3 [.var 2, .cst (.int 0), .cst (.int 2)] [0, 1, 2]]),
    .asg (.nm 5) (.tup [.tup [.tup [], .tup [.tup [.cst (.str [108, 101, 102, 116]), .tup [.cst (.int 0), .cst (.int 1)]], .tup [.cst (.str [103, 111]), .cst (.int 1)]]], .tup [.tup [], .tup [.tup [.cst (.str [115, 107, 105, 112]), .cst (.int 1)], .tup [.cst (.str [108, 101, 102, 116]), .tup [.cst (.int 2), .cst (.int 1)]], .tup [.cst (.str [108, 101, 102, 116]), .tup [.cst (.int 0), .cst (.int 1)]]]], .tup [.cst (.int 0), .cst (.int 2), .cst (.int 4), .cst (.int 6)]]),
    .ife (.not (.call 11 [.var 4, .bin .add (.var 5) (.tup [.tup [.tup [.tup [.cst (.str [112, 48]), .tup [.tup [.cst (.str [103, 111]), .cst (.int 1)], .tup [.cst (.str [108, 101, 102, 116]), .tup [.cst (.int 0), .cst (.int 1)]]]]], .bin .mul (.tup [.tup [.cst (.str [100, 111]), .cst (.str [112, 48])]]) (.cst (.int 4))]])] [0, 1])) [.ret (.cst (.bl false))] [],
    .asg (.nm 6) (.tup [.tup [], .tup [.tup [.cst (.str [114, 101, 112, 101, 97, 116]), .cst (.int 5), .tup [.tup [.cst (.str [103, 111]), .cst (.int 1)]]]]]),
    .ife (.not (.call 11 [.tup [.call 2 [.var 6, .call 5 [.var 6, .cst (.int 0), .cst (.int 2)] [0, 1, 2]] [0, 1], .idx (.call 3 [.var 6, .cst (.int 1), .cst (.int 3)] [0, 1, 2]) (.cst (.int 1))], .tup [.tup [.cst (.int 0), .cst (.int 1), .cst (.int 2), .cst (.int 3)], .tup [.tup [.cst (.str [100, 111]), .cst (.str [112, 48])], .tup [.cst (.str [100, 111]), .cst (.str [112, 48])], .tup [.cst (.str [103, 111]), .cst (.int 1)]]]] [0, 1])) [.ret (.cst (.bl false))] [],
    .for_ (.tp [.nm 7, .nm 8]) (.seq (.tup [.call 22 [.var 1, .call 10 [.var 1, .cst (.int 6)] [0, 1]] [0, 1], .call 28 [.var 1] [0], .tup [.tup [.tup [], .tup []], .tup []]])) l29_0,
    .ret (.cst (.bl true))]

def F29 : Fd := ⟨1, 9, false, b29⟩

def e29 : Ent := ⟨top 34, "law", ["script", "mug", "square", "grow", "told", "due", "five", "plan", "steps"], F29⟩

def tab : List Ent := [e0, e1, e2, e3, e4, e5, e6, e7, e8, e9, e10, e11, e12, e13, e14, e15, e16, e17, e18, e19, e20, e21, e22, e23, e24, e25, e26, e27, e28, e29]

def inn (i j : Nat) : Stmt := match top i with
  | .ClassDef _ _ _ body _ _ _ _ _ _ _ => body.getD j (.Pass ⟨0, 0, 0, 0⟩)
  | s => s
def Lw0 : Lw := ⟨tab.map Ent.fnI, ["abs", "bool", "dict", "enumerate", "int", "isinstance", "len", "list", "max", "min", "range", "str", "sum", "tuple"], [], false, [], [], [], [("SWAPPED", [(.str [103, 111], .str [115, 107, 105, 112]), (.str [115, 107, 105, 112], .str [103, 111])], [.str [108, 101, 102, 116], .str [114, 105, 103, 104, 116], .str [100, 111], .str [114, 101, 112, 101, 97, 116]])]⟩
def ancT : List (List Bool) := []
def fb (K : PySem.W.Frag) : Bool := factB tab Lw0 ancT K && (cstB Lw0 K && dictB Lw0 K)
theorem cst_ok {K : PySem.W.Frag} {h : Heap} {mg : Str → Option Value} (X : K.In h) (G : h.Ns mainGlobals mg) (c : obsB fb (defsB tab Lw0) K = He.valD (defsB tab Lw0)) : ∀ x d, Lw0.cst.lookup x = some d → ∃ (v : V) (u : Value), mg x = some u ∧ RelV v u ∧ (∀ G μ, Rp (tbA Lw0 K) G μ v d) ∧ ∀ ds, d = .tup ds → ∃ a o, v = .ref a ∧ K.lookup a = some o ∧ o.cls = .type "tuple" ∧ o.dict = none := cst_B X G (by have := (says_B c).1; unfold fb at this; rw [Bool.and_eq_true, Bool.and_eq_true] at this; exact this.2.1)
theorem dct_ok {K : PySem.W.Frag} {w : World} {h : Heap} {mg : Str → Option Value} (X : K.In h) (G : h.Ns mainGlobals mg) (c : obsB fb (defsB tab Lw0) K = He.valD (defsB tab Lw0)) (ht : dicsW (tsOf2 Lw0) K = keysW (tsOf2 Lw0) w) : ∀ x p, Lw0.dcs.lookup x = some p → KdF K w (tbA Lw0 K) mg x p.1 p.2 := dict_ok X G (by have := (says_B c).1; unfold fb at this; rw [Bool.and_eq_true, Bool.and_eq_true] at this; exact this.2.2) ht
theorem okL : lookB Lw0 ancT = true := by decide +kernel
theorem okA : tab.all Ent.okA = true := by decide +kernel
theorem okS : tab.all (fun e => kSs Lw0 e.sc e.F.body (defBody e.st)) = true := by decide +kernel

end K44
set_option Elab.async false
set_option linter.all false
set_option maxRecDepth 100000
set_option maxHeartbeats 2000000
namespace K44
open DI
abbrev tGo : Tx := [103, 111]
abbrev tSkip : Tx := [115, 107, 105, 112]
abbrev tLeft : Tx := [108, 101, 102, 116]
abbrev tRight : Tx := [114, 105, 103, 104, 116]
def fds : List Fd := tab.map Ent.F
abbrev anc : Nat → Nat → Option Bool := ancB ancT
abbrev cal (n : Nat) : Cal := ⟨callD fds anc n, anc⟩
def okV (x y : Int) : Prop := (x ≠ 0 ∨ y ≠ 0) ∧ x.natAbs ≤ 1000 ∧ y.natAbs ≤ 1000
/-- a step -/
def isSt (d : D) : Prop := (∃ k : Int, d = .tup [.str tGo, .int k]) ∨ (∃ k : Int, d = .tup [.str tSkip, .int k]) ∨ (∃ x y : Int, d = .tup [.str tLeft, .tup [.int x, .int y]] ∧ okV x y) ∨ (∃ x y : Int, d = .tup [.str tRight, .tup [.int x, .int y]] ∧ okV x y)
theorem st_pl {d : D} (h : isSt d) : d.pl = true := by
  rcases h with ⟨_, rfl⟩ | ⟨_, rfl⟩ | ⟨_, _, rfl, _⟩ | ⟨_, _, rfl, _⟩ <;> rfl
abbrev Sts (xs : List D) : Prop := ∀ d ∈ xs, isSt d
theorem sts_pl {xs : List D} (h : Sts xs) : D.plL xs = true := plL_all fun d hd => st_pl (h d hd)
/-! the mug -/
def Gs (k : Int) (rest st : Sto) : Prop := ∃ (cs : List Int) (m t : Int), st = .lst (cs.map .int) :: .lst [.int m, .int t, .loc 0] :: rest ∧ (∀ c ∈ cs, 0 ≤ c) ∧ 0 ≤ m ∧ m < 2147483587 ∧ 0 ≤ t ∧ t ≤ k
theorem lo_ints (n : Nat) : ∀ gs : List Int, D.loL n (gs.map .int) = true
  | [] => rfl
  | g :: gs => by simp [D.loL, D.lo, lo_ints n gs]
theorem gs_keeps {k k' : Int} {rest st st' : Sto} (h : Gs k rest st) (h' : Gs k' rest st') : keeps st.length st st' = true ∧ st'.length = st.length := by
  obtain ⟨cs, m, t, rfl, _⟩ := h
  obtain ⟨cs', m', t', rfl, _⟩ := h'
  refine ⟨?_, by simp⟩
  simp [keeps, Ob.lo, D.loL, D.lo, lo_ints, keeps_refl]
theorem fin_gs {k k' : Int} {rest st st' : Sto} (h : Gs k rest st) (h' : Gs k' rest st') {d : D} (hd : d.pl = true) : finD false st d st' = .ok d st' := by
  obtain ⟨k1, k2⟩ := gs_keeps h h'
  rw [fin_to (frzX_pl hd _ _ _) k1, ← k2, List.take_length]
theorem fin_gsx {k k' : Int} {rest ex s s' : Sto} (h : Gs k rest s) (h' : Gs k' (rest ++ ex) s') {d d' : D} (hd : frzX s' s.length 5 d = some d') : ∃ s'', finD false s d s' = .ok d' s'' ∧ Gs k' rest s'' := by
  obtain ⟨cs, m, t, rfl, _⟩ := h
  obtain ⟨cs', m', t', rfl, p⟩ := h'
  refine ⟨_, fin_to hd ?_, cs', m', t', ?_, p⟩
  · simp [keeps, Ob.lo, D.loL, D.lo, lo_ints, keeps_app]
  · simp
theorem gs_mono {k k' : Int} {rest st : Sto} (h : Gs k rest st) (hk : k ≤ k') : Gs k' rest st := by
  obtain ⟨cs, m, t, e, h1, h2, h3, h4, h5⟩ := h
  exact ⟨cs, m, t, e, h1, h2, h3, h4, by omega⟩
theorem gs_app {k : Int} {rest st : Sto} (h : Gs k rest st) (ex : Sto) : Gs k (rest ++ ex) (st ++ ex) := by
  obtain ⟨cs, m, t, rfl, h⟩ := h
  exact ⟨cs, m, t, rfl, h⟩
theorem gs_split {k : Int} {rest ex st : Sto} (h : Gs k (rest ++ ex) st) : ∃ s', st = s' ++ ex ∧ Gs k rest s' := by
  obtain ⟨cs, m, t, rfl, p⟩ := h
  exact ⟨_, rfl, cs, m, t, rfl, p⟩
theorem s_sip (n : Nat) (st rest : Sto) (k m : Int) (h : Gs k rest st) (hk : k ≤ 1000000) (h0 : 0 < m) (h1 : m ≤ 1000000) : ∃ (r : Int) (st' : Sto), callD fds anc (n + 1) 10 [.loc 1, .int m] st = .ok (.int r) st' ∧ Gs (k + 1) rest st' ∧ 0 ≤ r ∧ r < m := by
  obtain ⟨cs, x, t, rfl, c0, x0, x1, t0, t1⟩ := id h
  have hm : m.natAbs.log2 < 9000 := lg_lt (by omega)
  by_cases ht : t < (cs.length : Int)
  · have hx : (cs.map D.int)[t.toNat]? = some (.int (cs[t.toNat]'(by omega))) := by
      rw [List.getElem?_map, List.getElem?_eq_getElem (by omega)]
      rfl
    have c00 : 0 ≤ cs[t.toNat]'(by omega) := c0 _ (List.getElem_mem _)
    generalize cs[t.toNat]'(by omega) = c at hx c00
    have ix : ixD cs.length t = some t.toNat := ix_at t0 ht
    have R : Gs (k + 1) rest (.lst (cs.map .int) :: .lst [.int x, .int (t + 1), .loc 0] :: rest) := ⟨cs, x, t + 1, rfl, c0, x0, x1, by omega, by omega⟩
    have hx' := hx
    rw [List.getElem?_map] at hx'
    refine ⟨c % m, _, call_run (F := F10) rfl rfl ?_, R, Int.emod_nonneg _ (by omega), Int.emod_lt_of_pos _ h0⟩
    have fg := fun (d : D) (hd : d.pl = true) => fin_gs h R hd
    simp [F10, b10, e_var, e_cst, e_tup, e_lst, e_bin, e_neg, e_cmp, e_is, e_chain, e_and, e_or, e_not, e_ife, e_idx, e_slc, e_rev, e_cat, e_dg1, e_dg2, e_tg1, e_tg2, e_tix, e_dcp, dgD, tgD, txD, dcpD, cpDct, revD, e_call, e_bi, e_isi, e_mth, e_fld, e_isx, e_lc, e_dct, xs_nil, xs_cons, xo_none, xo_some, ec_nil, ec_cons, s_asg, s_par, s_par3, s_setIx, s_aug, s_expr, s_ret, s_retN, s_ife, s_for, s_whl, s_pass, s_brk, s_cont, s_rais, s_try, ss_nil, ss_cons, e_T, i_seq, i_rng1, i_rng2, i_enum, of_some, bd_ok, bd_err, fo_ok, fo_err, sq_nx, sq_rt, sq_bk, sq_ct, sq_err, lp_nx, lp_ct, lp_bk, lp_rt, lp_err, tr_ok, tr_err, br_t, br_f, sbr_t, sbr_f, en_some, so_some, ag_some, go_t, tn_some, tu_ap, fr_st, fr_lv, fr_lvE, end_rt, end_nx, end_err, negD, optI, rg1, rg2, tupD, ix0, ix1, ix2, ix3, ix4, ix5, ix6, ix7, ix8, ix9, ix10, ix11, ix12, ix13, ix14, ix15, ixm1, ixm2, isiV, idxD, seqD, opB, opA, opC, truD, setT, setTs, eqD, full, frz, D.sub, D.subL, D.eqv, D.eqvL, D.depth, D.depthL, biD, permD, opI, dctD, isKey, newL, catD, SZ, isiD, tyOk, lstD, setD, mtD, okM, srcD, mkL, slcD, mkDct, putKD, getK, kEq, ofB_some, fin_pl, finX_pl, pl_non, pl_bl, pl_int, pl_str, pl_tup, pl_lst, pl_ro, plL_nil, plL_cons, fin_k, lg_lt, lg_lt2, mulOk_lit, ht, ix, hx, hx', h0, hm]
    exact fg _ rfl
  · have a0 := Int.emod_nonneg (x * 39373 + 4663) (show (2147483587 : Int) ≠ 0 by decide)
    have a1 := Int.emod_lt_of_pos (x * 39373 + 4663) (show (0 : Int) < 2147483587 by decide)
    have o1 := (show Sz 40 x by unfold Sz; omega).ok (show Sz 40 39373 by unfold Sz; decide) (by decide) (by decide)
    have R : Gs (k + 1) rest (.lst (cs.map .int) :: .lst [.int ((x * 39373 + 4663) % 2147483587), .int (t + 1), .loc 0] :: rest) := ⟨cs, _, t + 1, rfl, c0, a0, a1, by omega, by omega⟩
    refine ⟨(x * 39373 + 4663) % 2147483587 / 43 % m, _, call_run (F := F10) rfl rfl ?_, R, Int.emod_nonneg _ (by omega), Int.emod_lt_of_pos _ h0⟩
    have fg := fun (d : D) (hd : d.pl = true) => fin_gs h R hd
    generalize hy : (x * 39373 + 4663) % 2147483587 = y at *
    simp [F10, b10, e_var, e_cst, e_tup, e_lst, e_bin, e_neg, e_cmp, e_is, e_chain, e_and, e_or, e_not, e_ife, e_idx, e_slc, e_rev, e_cat, e_dg1, e_dg2, e_tg1, e_tg2, e_tix, e_dcp, dgD, tgD, txD, dcpD, cpDct, revD, e_call, e_bi, e_isi, e_mth, e_fld, e_isx, e_lc, e_dct, xs_nil, xs_cons, xo_none, xo_some, ec_nil, ec_cons, s_asg, s_par, s_par3, s_setIx, s_aug, s_expr, s_ret, s_retN, s_ife, s_for, s_whl, s_pass, s_brk, s_cont, s_rais, s_try, ss_nil, ss_cons, e_T, i_seq, i_rng1, i_rng2, i_enum, of_some, bd_ok, bd_err, fo_ok, fo_err, sq_nx, sq_rt, sq_bk, sq_ct, sq_err, lp_nx, lp_ct, lp_bk, lp_rt, lp_err, tr_ok, tr_err, br_t, br_f, sbr_t, sbr_f, en_some, so_some, ag_some, go_t, tn_some, tu_ap, fr_st, fr_lv, fr_lvE, end_rt, end_nx, end_err, negD, optI, rg1, rg2, tupD, ix0, ix1, ix2, ix3, ix4, ix5, ix6, ix7, ix8, ix9, ix10, ix11, ix12, ix13, ix14, ix15, ixm1, ixm2, isiV, idxD, seqD, opB, opA, opC, truD, setT, setTs, eqD, full, frz, D.sub, D.subL, D.eqv, D.eqvL, D.depth, D.depthL, biD, permD, opI, dctD, isKey, newL, catD, SZ, isiD, tyOk, lstD, setD, mtD, okM, srcD, mkL, slcD, mkDct, putKD, getK, kEq, ofB_some, fin_pl, finX_pl, pl_non, pl_bl, pl_int, pl_str, pl_tup, pl_lst, pl_ro, plL_nil, plL_cons, fin_k, lg_lt, lg_lt2, mulOk_lit, ht, o1, hy, h0, hm]
    exact fg _ rfl
/-- a sip while there are new things at the end -/
theorem s_sip2 (n : Nat) (s rest ex : Sto) (k m : Int) (h : Gs k rest s) (hk : k ≤ 1000000) (h0 : 0 < m) (h1 : m ≤ 1000000) : ∃ (r : Int) (s' : Sto), callD fds anc (n + 1) 10 [.loc 1, .int m] (s ++ ex) = .ok (.int r) (s' ++ ex) ∧ Gs (k + 1) rest s' ∧ 0 ≤ r ∧ r < m ∧ s'.length = s.length := by
  obtain ⟨r, st', e, g, r0, r1⟩ := s_sip n (s ++ ex) (rest ++ ex) k m (gs_app h ex) hk h0 h1
  obtain ⟨s', rfl, g'⟩ := gs_split g
  exact ⟨r, s', e, g', r0, r1, (gs_keeps h g').2⟩
/-! filling it -/
theorem twenty (n : Nat) (A B E : D) : ∀ (js : List D) (cs : List Int) (x y : Int) (c : Int) (z : Option D), (∀ c ∈ cs, 0 ≤ c) → 0 ≤ c → cs.length + js.length ≤ 100000 →
    ∃ (cs' : List Int) (c' : Int) (z' : Option D), forS (RS.tu (cal n) (.nm 6) l9_0) js [some A, some (.int x), some (.loc 0), some B, some E, some (.int c), z] [.lst (cs.map .int)] = .ok .nx [some A, some (.int x), some (.loc 0), some B, some E, some (.int c'), z'] [.lst (cs'.map .int)] ∧ (∀ c ∈ cs', 0 ≤ c) ∧ cs'.length = cs.length + js.length
  | [], cs, x, y, c, z, h, _, _ => ⟨cs, c, z, rfl, h, rfl⟩
  | j :: js, cs, x, y, c, z, h, hc, hl => by
    rw [List.length_cons] at hl
    have m0 := Int.emod_nonneg c (show (1000 : Int) ≠ 0 by decide)
    obtain ⟨cs', c', z', e, h', l'⟩ := twenty n A B E js (cs ++ [c % 1000]) x y (c / 1000) (some j) (fun d hd => by
      rcases List.mem_append.mp hd with hd | hd
      · exact h d hd
      · rw [List.mem_singleton.mp hd]; exact m0) (Int.ediv_nonneg hc (by decide)) (by rw [List.length_append, List.length_singleton]; omega)
    refine ⟨cs', c', z', ?_, h', by rw [l', List.length_append, List.length_singleton, List.length_cons]; omega⟩
    have la : cs.length < 10000000 := by omega
    have key : RS.tu (cal n) (.nm 6) l9_0 j [some A, some (.int x), some (.loc 0), some B, some E, some (.int c), z] [.lst (cs.map .int)] = .ok .nx [some A, some (.int x), some (.loc 0), some B, some E, some (.int (c / 1000)), some j] [.lst ((cs ++ [c % 1000]).map .int)] := by
      simp [l9_0, e_var, e_cst, e_tup, e_lst, e_bin, e_neg, e_cmp, e_is, e_chain, e_and, e_or, e_not, e_ife, e_idx, e_slc, e_rev, e_cat, e_dg1, e_dg2, e_tg1, e_tg2, e_tix, e_dcp, dgD, tgD, txD, dcpD, cpDct, revD, e_call, e_bi, e_isi, e_mth, e_fld, e_isx, e_lc, e_dct, xs_nil, xs_cons, xo_none, xo_some, ec_nil, ec_cons, s_asg, s_par, s_par3, s_setIx, s_aug, s_expr, s_ret, s_retN, s_ife, s_for, s_whl, s_pass, s_brk, s_cont, s_rais, s_try, ss_nil, ss_cons, e_T, i_seq, i_rng1, i_rng2, i_enum, of_some, bd_ok, bd_err, fo_ok, fo_err, sq_nx, sq_rt, sq_bk, sq_ct, sq_err, lp_nx, lp_ct, lp_bk, lp_rt, lp_err, tr_ok, tr_err, br_t, br_f, sbr_t, sbr_f, en_some, so_some, ag_some, go_t, tn_some, tu_ap, fr_st, fr_lv, fr_lvE, end_rt, end_nx, end_err, negD, optI, rg1, rg2, tupD, ix0, ix1, ix2, ix3, ix4, ix5, ix6, ix7, ix8, ix9, ix10, ix11, ix12, ix13, ix14, ix15, ixm1, ixm2, isiV, idxD, seqD, opB, opA, opC, truD, setT, setTs, eqD, full, frz, D.sub, D.subL, D.eqv, D.eqvL, D.depth, D.depthL, biD, permD, opI, dctD, isKey, newL, catD, SZ, isiD, tyOk, lstD, setD, mtD, okM, srcD, mkL, slcD, mkDct, putKD, getK, kEq, ofB_some, fin_pl, finX_pl, pl_non, pl_bl, pl_int, pl_str, pl_tup, pl_lst, pl_ro, plL_nil, plL_cons, fin_k, lg_lt, lg_lt2, mulOk_lit, la]
    rw [fs_cons, key, lp_nx, e]
theorem mug_loop (n : Nat) (A : D) : ∀ (gs : List Int) (i : Nat) (cs : List Int) (x : Int) (z3 z4 z5 z6 : Option D), (∀ c ∈ cs, 0 ≤ c) → cs.length ≤ 20 * i → i + gs.length ≤ 100 → 0 ≤ x → x < 2147483587 →
    ∃ (cs' : List Int) (x' : Int) (y3 y4 y5 y6 : Option D), forS (RS.tu (cal n) (.tp [.nm 3, .nm 4]) l9_1) ((gs.map D.int).zipIdx i |>.map fun p => D.tup [.int (p.2 : Nat), p.1]) [some A, some (.int x), some (.loc 0), z3, z4, z5, z6] [.lst (cs.map .int)] = .ok .nx [some A, some (.int x'), some (.loc 0), y3, y4, y5, y6] [.lst (cs'.map .int)] ∧ (∀ c ∈ cs', 0 ≤ c) ∧ 0 ≤ x' ∧ x' < 2147483587
  | [], i, cs, x, z3, z4, z5, z6, h, _, _, x0, x1 => ⟨cs, x, z3, z4, z5, z6, rfl, h, x0, x1⟩
  | g :: gs, i, cs, x, z3, z4, z5, z6, h, hl, hi, x0, x1 => by
    rw [List.length_cons] at hi
    have c0 := Int.emod_nonneg g (show (1000000000000000000000000000000000000000000000000000000000000 : Int) ≠ 0 by decide)
    generalize hc : g % 1000000000000000000000000000000000000000000000000000000000000 = c at c0
    have d0 := Int.emod_nonneg c (show (1000003 : Int) ≠ 0 by decide)
    have d1 := Int.emod_lt_of_pos c (show (0 : Int) < 1000003 by decide)
    have a0 := Int.emod_nonneg (x * 62089 + c % 1000003 + 1109 * i) (show (2147483587 : Int) ≠ 0 by decide)
    have a1 := Int.emod_lt_of_pos (x * 62089 + c % 1000003 + 1109 * i) (show (0 : Int) < 2147483587 by decide)
    have o1 := (show Sz 40 x by unfold Sz; omega).ok (show Sz 40 62089 by unfold Sz; decide) (by decide) (by decide)
    have o2 := (show Sz 40 1109 by unfold Sz; decide).ok (show Sz 40 (i : Int) by unfold Sz; omega) (by decide) (by decide)
    generalize hx : (x * 62089 + c % 1000003 + 1109 * (i : Int)) % 2147483587 = x2 at *
    by_cases hb : 1000000000000000000 ≤ c
    · obtain ⟨cs1, c1, w, e1, h1, l1⟩ := twenty n A (.int (i : Nat)) (.int g) (rngD 0 20) cs x2 0 c z6 h c0 (by simp [rngD]; omega)
      have l20 : (rngD 0 20).length = 20 := by simp [rngD]
      rw [l20] at l1
      obtain ⟨cs2, x3, y3, y4, y5, y6, e2, h2, b0, b1⟩ := mug_loop n A gs (i + 1) cs1 x2 (some (.int (i : Nat))) (some (.int g)) (some (.int c1)) w h1 (by omega) (by omega) a0 a1
      refine ⟨cs2, x3, y3, y4, y5, y6, ?_, h2, b0, b1⟩
      have sm : small62 20 = true := small62_of (by omega) (by omega)
      have key : RS.tu (cal n) (.tp [.nm 3, .nm 4]) l9_1 (.tup [.int (i : Nat), .int g]) [some A, some (.int x), some (.loc 0), z3, z4, z5, z6] [.lst (cs.map .int)] = .ok .nx [some A, some (.int x2), some (.loc 0), some (.int (i : Nat)), some (.int g), some (.int c1), w] [.lst (cs1.map .int)] := by
        simp [l9_1, e_var, e_cst, e_tup, e_lst, e_bin, e_neg, e_cmp, e_is, e_chain, e_and, e_or, e_not, e_ife, e_idx, e_slc, e_rev, e_cat, e_dg1, e_dg2, e_tg1, e_tg2, e_tix, e_dcp, dgD, tgD, txD, dcpD, cpDct, revD, e_call, e_bi, e_isi, e_mth, e_fld, e_isx, e_lc, e_dct, xs_nil, xs_cons, xo_none, xo_some, ec_nil, ec_cons, s_asg, s_par, s_par3, s_setIx, s_aug, s_expr, s_ret, s_retN, s_ife, s_for, s_whl, s_pass, s_brk, s_cont, s_rais, s_try, ss_nil, ss_cons, e_T, i_seq, i_rng1, i_rng2, i_enum, of_some, bd_ok, bd_err, fo_ok, fo_err, sq_nx, sq_rt, sq_bk, sq_ct, sq_err, lp_nx, lp_ct, lp_bk, lp_rt, lp_err, tr_ok, tr_err, br_t, br_f, sbr_t, sbr_f, en_some, so_some, ag_some, go_t, tn_some, tu_ap, fr_st, fr_lv, fr_lvE, end_rt, end_nx, end_err, negD, optI, rg1, rg2, tupD, ix0, ix1, ix2, ix3, ix4, ix5, ix6, ix7, ix8, ix9, ix10, ix11, ix12, ix13, ix14, ix15, ixm1, ixm2, isiV, idxD, seqD, opB, opA, opC, truD, setT, setTs, eqD, full, frz, D.sub, D.subL, D.eqv, D.eqvL, D.depth, D.depthL, biD, permD, opI, dctD, isKey, newL, catD, SZ, isiD, tyOk, lstD, setD, mtD, okM, srcD, mkL, slcD, mkDct, putKD, getK, kEq, ofB_some, fin_pl, finX_pl, pl_non, pl_bl, pl_int, pl_str, pl_tup, pl_lst, pl_ro, plL_nil, plL_cons, fin_k, lg_lt, lg_lt2, mulOk_lit, setTs, hc, o1, o2, hx, hb, sm, e1]
      rw [List.map_cons, List.zipIdx_cons, List.map_cons, fs_cons, key, lp_nx, e2]
    · have m0 := Int.emod_nonneg (x2 / 23) (show (1000 : Int) ≠ 0 by decide)
      obtain ⟨cs2, x3, y3, y4, y5, y6, e2, h2, b0, b1⟩ := mug_loop n A gs (i + 1) (cs ++ [x2 / 23 % 1000]) x2 (some (.int (i : Nat))) (some (.int g)) (some (.int c)) z6 (fun d hd => by
        rcases List.mem_append.mp hd with hd | hd
        · exact h d hd
        · rw [List.mem_singleton.mp hd]; exact m0) (by rw [List.length_append, List.length_singleton]; omega) (by omega) a0 a1
      refine ⟨cs2, x3, y3, y4, y5, y6, ?_, h2, b0, b1⟩
      have la : cs.length < 10000000 := by omega
      have key : RS.tu (cal n) (.tp [.nm 3, .nm 4]) l9_1 (.tup [.int (i : Nat), .int g]) [some A, some (.int x), some (.loc 0), z3, z4, z5, z6] [.lst (cs.map .int)] = .ok .nx [some A, some (.int x2), some (.loc 0), some (.int (i : Nat)), some (.int g), some (.int c), z6] [.lst ((cs ++ [x2 / 23 % 1000]).map .int)] := by
        simp [l9_1, e_var, e_cst, e_tup, e_lst, e_bin, e_neg, e_cmp, e_is, e_chain, e_and, e_or, e_not, e_ife, e_idx, e_slc, e_rev, e_cat, e_dg1, e_dg2, e_tg1, e_tg2, e_tix, e_dcp, dgD, tgD, txD, dcpD, cpDct, revD, e_call, e_bi, e_isi, e_mth, e_fld, e_isx, e_lc, e_dct, xs_nil, xs_cons, xo_none, xo_some, ec_nil, ec_cons, s_asg, s_par, s_par3, s_setIx, s_aug, s_expr, s_ret, s_retN, s_ife, s_for, s_whl, s_pass, s_brk, s_cont, s_rais, s_try, ss_nil, ss_cons, e_T, i_seq, i_rng1, i_rng2, i_enum, of_some, bd_ok, bd_err, fo_ok, fo_err, sq_nx, sq_rt, sq_bk, sq_ct, sq_err, lp_nx, lp_ct, lp_bk, lp_rt, lp_err, tr_ok, tr_err, br_t, br_f, sbr_t, sbr_f, en_some, so_some, ag_some, go_t, tn_some, tu_ap, fr_st, fr_lv, fr_lvE, end_rt, end_nx, end_err, negD, optI, rg1, rg2, tupD, ix0, ix1, ix2, ix3, ix4, ix5, ix6, ix7, ix8, ix9, ix10, ix11, ix12, ix13, ix14, ix15, ixm1, ixm2, isiV, idxD, seqD, opB, opA, opC, truD, setT, setTs, eqD, full, frz, D.sub, D.subL, D.eqv, D.eqvL, D.depth, D.depthL, biD, permD, opI, dctD, isKey, newL, catD, SZ, isiD, tyOk, lstD, setD, mtD, okM, srcD, mkL, slcD, mkDct, putKD, getK, kEq, ofB_some, fin_pl, finX_pl, pl_non, pl_bl, pl_int, pl_str, pl_tup, pl_lst, pl_ro, plL_nil, plL_cons, fin_k, lg_lt, lg_lt2, mulOk_lit, setTs, hc, o1, o2, hx, hb, la]
      rw [List.map_cons, List.zipIdx_cons, List.map_cons, fs_cons, key, lp_nx, e2]
theorem s_mug (n : Nat) (ns : List Int) (h : ns.length ≤ 63) : ∃ st', callD fds anc (n + 1) 9 [.ro (ns.map .int)] [] = .ok (.loc 1) st' ∧ Gs 0 [] st' := by
  have hcut : cutD (ns.map D.int) none (some 59) = (ns.take 59).map D.int := by
    unfold cutD
    rw [List.map_take]
    show (((ns.map D.int).drop 0).take (min 59 (ns.map D.int).length - 0)) = _
    rw [List.drop_zero, Nat.sub_zero, List.length_map]
    by_cases hl : 59 ≤ ns.length
    · rw [show min 59 ns.length = 59 by omega]
    · rw [show min 59 ns.length = ns.length by omega, List.take_of_length_le (by simp), List.take_of_length_le (by simp; omega)]
  obtain ⟨cs, x, y3, y4, y5, y6, e, c0, x0, x1⟩ := mug_loop n (.ro (ns.map .int)) (ns.take 59) 0 [] 44071 none none none none (fun c hc => by cases hc) (by decide) (by rw [List.length_take]; omega) (by decide) (by decide)
  simp only [List.map_nil] at e
  refine ⟨[.lst (cs.map .int), .lst [.int x, .int 0, .loc 0]], call_run (F := F9) rfl rfl ?_, cs, x, 0, rfl, c0, x0, x1, by decide, by decide⟩
  generalize ns.take 59 = ms at *
  simp [F9, b9, e_var, e_cst, e_tup, e_lst, e_bin, e_neg, e_cmp, e_is, e_chain, e_and, e_or, e_not, e_ife, e_idx, e_slc, e_rev, e_cat, e_dg1, e_dg2, e_tg1, e_tg2, e_tix, e_dcp, dgD, tgD, txD, dcpD, cpDct, revD, e_call, e_bi, e_isi, e_mth, e_fld, e_isx, e_lc, e_dct, xs_nil, xs_cons, xo_none, xo_some, ec_nil, ec_cons, s_asg, s_par, s_par3, s_setIx, s_aug, s_expr, s_ret, s_retN, s_ife, s_for, s_whl, s_pass, s_brk, s_cont, s_rais, s_try, ss_nil, ss_cons, e_T, i_seq, i_rng1, i_rng2, i_enum, of_some, bd_ok, bd_err, fo_ok, fo_err, sq_nx, sq_rt, sq_bk, sq_ct, sq_err, lp_nx, lp_ct, lp_bk, lp_rt, lp_err, tr_ok, tr_err, br_t, br_f, sbr_t, sbr_f, en_some, so_some, ag_some, go_t, tn_some, tu_ap, fr_st, fr_lv, fr_lvE, end_rt, end_nx, end_err, negD, optI, rg1, rg2, tupD, ix0, ix1, ix2, ix3, ix4, ix5, ix6, ix7, ix8, ix9, ix10, ix11, ix12, ix13, ix14, ix15, ixm1, ixm2, isiV, idxD, seqD, opB, opA, opC, truD, setT, setTs, eqD, full, frz, D.sub, D.subL, D.eqv, D.eqvL, D.depth, D.depthL, biD, permD, opI, dctD, isKey, newL, catD, SZ, isiD, tyOk, lstD, setD, mtD, okM, srcD, mkL, slcD, mkDct, putKD, getK, kEq, ofB_some, fin_pl, finX_pl, pl_non, pl_bl, pl_int, pl_str, pl_tup, pl_lst, pl_ro, plL_nil, plL_cons, fin_k, lg_lt, lg_lt2, mulOk_lit, hcut, srcE, enumL, e]
end K44
set_option Elab.async false
set_option linter.all false
set_option maxRecDepth 100000
set_option maxHeartbeats 2000000
namespace K44
open DI
/-! a plan's steps -/
abbrev tDo : Tx := [100, 111]
abbrev tRep : Tx := [114, 101, 112, 101, 97, 116]
abbrev Pb := List D → List D → Prop
def Sm (P : Pb) (kvs : List (D × D)) (d : D) (ss : List D) : Prop :=
  (isSt d ∧ ss = [d]) ∨ (∃ nm, d = .tup [.str tDo, .str nm] ∧ getK kvs (.str nm) = some (.lst ss) ∧ Sts ss) ∨
  (∃ (k : Int) (b s : List D), d = .tup [.str tRep, .int k, .tup b] ∧ P b s ∧ ss = (List.replicate k.toNat s).flatten ∧ s.length ≤ 100000 ∧ 0 ≤ k ∧ k ≤ 1000 ∧ Sts s)
inductive Bm (P : Pb) (kvs : List (D × D)) : Pb
  | nil : Bm P kvs [] []
  | cons {d b s ss} : Sm P kvs d s → Bm P kvs b ss → Bm P kvs (d :: b) (s ++ ss)
theorem sts_rep {s : List D} (h : Sts s) (n : Nat) : Sts (List.replicate n s).flatten := by
  intro d hd
  obtain ⟨l, hl, hd⟩ := List.mem_flatten.mp hd
  rw [(List.mem_replicate.mp hl).2] at hd
  exact h d hd
theorem sm_sts {P : Pb} {kvs : List (D × D)} {d : D} {ss : List D} (h : Sm P kvs d ss) : Sts ss := by
  rcases h with ⟨h, rfl⟩ | ⟨nm, _, _, h⟩ | ⟨k, b, s, _, _, rfl, _, _, _, h⟩
  · intro x hx
    rw [List.mem_singleton.mp hx]; exact h
  · exact h
  · exact sts_rep h _
theorem bm_sts {P : Pb} {kvs : List (D × D)} {b ss : List D} (h : Bm P kvs b ss) : Sts ss := by
  induction h with
  | nil => intro d hd; cases hd
  | cons h _ ih =>
    intro d hd
    rcases List.mem_append.mp hd with hd | hd
    · exact sm_sts h d hd
    · exact ih d hd
def Runs (kvs : List (D × D)) (i n : Nat) (P : Pb) : Prop := ∀ (b s : List D), P b s → s.length ≤ 100000 → ∀ st : Sto, st[i]? = some (.dct kvs) → callD fds anc n 0 [.tup b, .loc i] st = .ok (.lst s) st
theorem fin_loc {xs : List D} (h : D.plL xs = true) (st : Sto) : finD false st (.loc st.length) (st ++ [.lst xs]) = .ok (.lst xs) st := by
  refine fin_app ?_
  show (D.subX _ (.loc st.length)) = _
  rw [D.subX]
  rw [if_neg (Nat.lt_irrefl _), app_get]
  exact frzX_pl (d := .lst xs) h _ _ _
theorem flat_len (n : Nat) (s : List D) : ((List.replicate n s).flatten).length = n * s.length := by
  rw [List.length_flatten, List.map_replicate, List.sum_replicate_nat]
theorem one_stm {P : Pb} {kvs : List (D × D)} {i n : Nat} (hP : Runs kvs i n P) (st : Sto) (hi : st[i]? = some (.dct kvs)) (B : D) (d : D) (acc s : List D) (h : Sm P kvs d s) (hl : acc.length + s.length ≤ 100000) (z : Option D) :
    RS.tu (cal n) (.nm 3) l0_0 d [some B, some (.loc i), some (.loc st.length), z] (st ++ [.lst acc]) = .ok .nx [some B, some (.loc i), some (.loc st.length), some d] (st ++ [.lst (acc ++ s)]) := by
  have il : i < st.length := (List.getElem?_eq_some_iff.mp hi).1
  have h1 : ∀ o : Ob, (st ++ [o])[i]? = some (.dct kvs) := fun o => by rw [List.getElem?_append_left il]; exact hi
  have h2 : ∀ o : Ob, (st ++ [o])[st.length]? = some o := fun o => app_get st o
  have h3 : ∀ o u : Ob, (st ++ [o]).set st.length u = st ++ [u] := fun o u => app_set st o u
  rcases h with ⟨hs, rfl⟩ | ⟨nm, rfl, hk, _⟩ | ⟨k, b, s, rfl, hb, rfl, hs, k0, k1, _⟩
  · have la : acc.length < 10000000 := by omega
    rcases hs with ⟨j, rfl⟩ | ⟨j, rfl⟩ | ⟨x, y, rfl, _⟩ | ⟨x, y, rfl, _⟩ <;> simp [l0_0, e_var, e_cst, e_tup, e_lst, e_bin, e_neg, e_cmp, e_is, e_chain, e_and, e_or, e_not, e_ife, e_idx, e_slc, e_rev, e_cat, e_dg1, e_dg2, e_tg1, e_tg2, e_tix, e_dcp, dgD, tgD, txD, dcpD, cpDct, revD, e_call, e_bi, e_isi, e_mth, e_fld, e_isx, e_lc, e_dct, xs_nil, xs_cons, xo_none, xo_some, ec_nil, ec_cons, s_asg, s_par, s_par3, s_setIx, s_aug, s_expr, s_ret, s_retN, s_ife, s_for, s_whl, s_pass, s_brk, s_cont, s_rais, s_try, ss_nil, ss_cons, e_T, i_seq, i_rng1, i_rng2, i_enum, of_some, bd_ok, bd_err, fo_ok, fo_err, sq_nx, sq_rt, sq_bk, sq_ct, sq_err, lp_nx, lp_ct, lp_bk, lp_rt, lp_err, tr_ok, tr_err, br_t, br_f, sbr_t, sbr_f, en_some, so_some, ag_some, go_t, tn_some, tu_ap, fr_st, fr_lv, fr_lvE, end_rt, end_nx, end_err, negD, optI, rg1, rg2, tupD, ix0, ix1, ix2, ix3, ix4, ix5, ix6, ix7, ix8, ix9, ix10, ix11, ix12, ix13, ix14, ix15, ixm1, ixm2, isiV, idxD, seqD, opB, opA, opC, truD, setT, setTs, eqD, full, frz, D.sub, D.subL, D.eqv, D.eqvL, D.depth, D.depthL, biD, permD, opI, dctD, isKey, newL, catD, SZ, isiD, tyOk, lstD, setD, mtD, okM, srcD, mkL, slcD, mkDct, putKD, getK, kEq, ofB_some, fin_pl, finX_pl, pl_non, pl_bl, pl_int, pl_str, pl_tup, pl_lst, pl_ro, plL_nil, plL_cons, fin_k, lg_lt, lg_lt2, mulOk_lit, h2, h3, la]
  · have la : acc.length + s.length ≤ 10000000 := by omega
    simp [l0_0, e_var, e_cst, e_tup, e_lst, e_bin, e_neg, e_cmp, e_is, e_chain, e_and, e_or, e_not, e_ife, e_idx, e_slc, e_rev, e_cat, e_dg1, e_dg2, e_tg1, e_tg2, e_tix, e_dcp, dgD, tgD, txD, dcpD, cpDct, revD, e_call, e_bi, e_isi, e_mth, e_fld, e_isx, e_lc, e_dct, xs_nil, xs_cons, xo_none, xo_some, ec_nil, ec_cons, s_asg, s_par, s_par3, s_setIx, s_aug, s_expr, s_ret, s_retN, s_ife, s_for, s_whl, s_pass, s_brk, s_cont, s_rais, s_try, ss_nil, ss_cons, e_T, i_seq, i_rng1, i_rng2, i_enum, of_some, bd_ok, bd_err, fo_ok, fo_err, sq_nx, sq_rt, sq_bk, sq_ct, sq_err, lp_nx, lp_ct, lp_bk, lp_rt, lp_err, tr_ok, tr_err, br_t, br_f, sbr_t, sbr_f, en_some, so_some, ag_some, go_t, tn_some, tu_ap, fr_st, fr_lv, fr_lvE, end_rt, end_nx, end_err, negD, optI, rg1, rg2, tupD, ix0, ix1, ix2, ix3, ix4, ix5, ix6, ix7, ix8, ix9, ix10, ix11, ix12, ix13, ix14, ix15, ixm1, ixm2, isiV, idxD, seqD, opB, opA, opC, truD, setT, setTs, eqD, full, frz, D.sub, D.subL, D.eqv, D.eqvL, D.depth, D.depthL, biD, permD, opI, dctD, isKey, newL, catD, SZ, isiD, tyOk, lstD, setD, mtD, okM, srcD, mkL, slcD, mkDct, putKD, getK, kEq, ofB_some, fin_pl, finX_pl, pl_non, pl_bl, pl_int, pl_str, pl_tup, pl_lst, pl_ro, plL_nil, plL_cons, fin_k, lg_lt, lg_lt2, mulOk_lit, h1, h2, h3, la, hk]
  · have e := hP b s hb hs (st ++ [.lst acc]) (h1 _)
    rw [flat_len] at hl
    have la : acc.length + k.toNat * s.length ≤ 10000000 := by omega
    have lb : s.length * k.toNat ≤ 10000000 := by rw [Nat.mul_comm]; omega
    have lc : k.natAbs < 4000000000000000000 := by omega
    have ld : (List.replicate k.toNat s).flatten.length = k.toNat * s.length := flat_len _ _
    generalize hq : (List.replicate k.toNat s).flatten = q at *
    simp [l0_0, e_var, e_cst, e_tup, e_lst, e_bin, e_neg, e_cmp, e_is, e_chain, e_and, e_or, e_not, e_ife, e_idx, e_slc, e_rev, e_cat, e_dg1, e_dg2, e_tg1, e_tg2, e_tix, e_dcp, dgD, tgD, txD, dcpD, cpDct, revD, e_call, e_bi, e_isi, e_mth, e_fld, e_isx, e_lc, e_dct, xs_nil, xs_cons, xo_none, xo_some, ec_nil, ec_cons, s_asg, s_par, s_par3, s_setIx, s_aug, s_expr, s_ret, s_retN, s_ife, s_for, s_whl, s_pass, s_brk, s_cont, s_rais, s_try, ss_nil, ss_cons, e_T, i_seq, i_rng1, i_rng2, i_enum, of_some, bd_ok, bd_err, fo_ok, fo_err, sq_nx, sq_rt, sq_bk, sq_ct, sq_err, lp_nx, lp_ct, lp_bk, lp_rt, lp_err, tr_ok, tr_err, br_t, br_f, sbr_t, sbr_f, en_some, so_some, ag_some, go_t, tn_some, tu_ap, fr_st, fr_lv, fr_lvE, end_rt, end_nx, end_err, negD, optI, rg1, rg2, tupD, ix0, ix1, ix2, ix3, ix4, ix5, ix6, ix7, ix8, ix9, ix10, ix11, ix12, ix13, ix14, ix15, ixm1, ixm2, isiV, idxD, seqD, opB, opA, opC, truD, setT, setTs, eqD, full, frz, D.sub, D.subL, D.eqv, D.eqvL, D.depth, D.depthL, biD, permD, opI, dctD, isKey, newL, catD, SZ, isiD, tyOk, lstD, setD, mtD, okM, srcD, mkL, slcD, mkDct, putKD, getK, kEq, ofB_some, fin_pl, finX_pl, pl_non, pl_bl, pl_int, pl_str, pl_tup, pl_lst, pl_ro, plL_nil, plL_cons, fin_k, lg_lt, lg_lt2, mulOk_lit, h1, h2, h3, la, lb, lc, ld, e, hq]
theorem blk_loop {P : Pb} {kvs : List (D × D)} {i n : Nat} (hP : Runs kvs i n P) (st : Sto) (hi : st[i]? = some (.dct kvs)) (B : D) : ∀ {b s : List D}, Bm P kvs b s → ∀ (acc : List D) (z : Option D), acc.length + s.length ≤ 100000 →
    ∃ z', forS (RS.tu (cal n) (.nm 3) l0_0) b [some B, some (.loc i), some (.loc st.length), z] (st ++ [.lst acc]) = .ok .nx [some B, some (.loc i), some (.loc st.length), z'] (st ++ [.lst (acc ++ s)]) := by
  intro b s h
  induction h with
  | nil => intro acc z _; exact ⟨z, by rw [List.append_nil]; rfl⟩
  | @cons d b s1 ss hd hb ih =>
    intro acc z hl
    rw [List.length_append] at hl
    have e := one_stm hP st hi B _ acc _ hd (by omega) z
    obtain ⟨z', e2⟩ := ih (acc ++ s1) (some d) (by rw [List.length_append]; omega)
    refine ⟨z', ?_⟩
    rw [fs_cons, e, lp_nx, e2, List.append_assoc]
theorem runs_up {P : Pb} {kvs : List (D × D)} {i n : Nat} (hP : Runs kvs i n P) : Runs kvs i (n + 1) (Bm P kvs) := by
  intro b s hb hs st hi
  obtain ⟨z, e⟩ := blk_loop hP st hi (.tup b) hb [] none (by simpa using hs)
  refine call_run (F := F0) rfl rfl ?_
  have f := fin_loc (sts_pl (bm_sts hb)) st
  simp only [List.nil_append] at e
  simp [F0, b0, e_var, e_cst, e_tup, e_lst, e_bin, e_neg, e_cmp, e_is, e_chain, e_and, e_or, e_not, e_ife, e_idx, e_slc, e_rev, e_cat, e_dg1, e_dg2, e_tg1, e_tg2, e_tix, e_dcp, dgD, tgD, txD, dcpD, cpDct, revD, e_call, e_bi, e_isi, e_mth, e_fld, e_isx, e_lc, e_dct, xs_nil, xs_cons, xo_none, xo_some, ec_nil, ec_cons, s_asg, s_par, s_par3, s_setIx, s_aug, s_expr, s_ret, s_retN, s_ife, s_for, s_whl, s_pass, s_brk, s_cont, s_rais, s_try, ss_nil, ss_cons, e_T, i_seq, i_rng1, i_rng2, i_enum, of_some, bd_ok, bd_err, fo_ok, fo_err, sq_nx, sq_rt, sq_bk, sq_ct, sq_err, lp_nx, lp_ct, lp_bk, lp_rt, lp_err, tr_ok, tr_err, br_t, br_f, sbr_t, sbr_f, en_some, so_some, ag_some, go_t, tn_some, tu_ap, fr_st, fr_lv, fr_lvE, end_rt, end_nx, end_err, negD, optI, rg1, rg2, tupD, ix0, ix1, ix2, ix3, ix4, ix5, ix6, ix7, ix8, ix9, ix10, ix11, ix12, ix13, ix14, ix15, ixm1, ixm2, isiV, idxD, seqD, opB, opA, opC, truD, setT, setTs, eqD, full, frz, D.sub, D.subL, D.eqv, D.eqvL, D.depth, D.depthL, biD, permD, opI, dctD, isKey, newL, catD, SZ, isiD, tyOk, lstD, setD, mtD, okM, srcD, mkL, slcD, mkDct, putKD, getK, kEq, ofB_some, fin_pl, finX_pl, pl_non, pl_bl, pl_int, pl_str, pl_tup, pl_lst, pl_ro, plL_nil, plL_cons, fin_k, lg_lt, lg_lt2, mulOk_lit, e]
  exact f
theorem runs_0 (kvs : List (D × D)) (i n : Nat) : Runs kvs i n (fun _ _ => False) := fun _ _ h => h.elim
def P3 (kvs : List (D × D)) : Pb := Bm (Bm (Bm (fun _ _ => False) kvs) kvs) kvs
theorem runs_3 (kvs : List (D × D)) (i n : Nat) : Runs kvs i (n + 3) (P3 kvs) := runs_up (runs_up (runs_up (runs_0 kvs i n)))
def mkE (kvs : List (D × D)) (nm : Tx) (ss : List D) : List (D × D) := putKD kvs (.str nm) (.lst ss)
inductive Mk : List (D × D) → List D → List (D × D) → Prop
  | nil (k) : Mk k [] k
  | cons {k nm b ss r k'} : P3 k b ss → ss.length ≤ 100000 → k.length ≤ 100 → Mk (mkE k nm ss) r k' → Mk k (.tup [.str nm, .tup b] :: r) k'
theorem mk_loop (n : Nat) (st : Sto) (X : D) {k : List (D × D)} {r : List D} {k' : List (D × D)} (h : Mk k r k') : ∀ (z1 z2 : Option D),
    ∃ z1' z2', forS (RS.tu (cal (n + 3)) (.tp [.nm 2, .nm 3]) l1_0) r [some X, some (.loc st.length), z1, z2] (st ++ [.dct k]) = .ok .nx [some X, some (.loc st.length), z1', z2'] (st ++ [.dct k']) := by
  induction h with
  | nil k => intro z1 z2; exact ⟨z1, z2, rfl⟩
  | @cons k nm b ss r k' hb hl hk hr ih =>
    intro z1 z2
    have hk' : k.length < 10000000 := by omega
    have h2 : ∀ o : Ob, (st ++ [o])[st.length]? = some o := fun o => app_get st o
    have h3 : ∀ o u : Ob, (st ++ [o]).set st.length u = st ++ [u] := fun o u => app_set st o u
    have e := runs_3 k st.length n b ss hb hl (st ++ [.dct k]) (h2 _)
    obtain ⟨z1', z2', e2⟩ := ih (some (.str nm)) (some (.tup b))
    refine ⟨z1', z2', ?_⟩
    have key : RS.tu (cal (n + 3)) (.tp [.nm 2, .nm 3]) l1_0 (.tup [.str nm, .tup b]) [some X, some (.loc st.length), z1, z2] (st ++ [.dct k]) = .ok .nx [some X, some (.loc st.length), some (.str nm), some (.tup b)] (st ++ [.dct (mkE k nm ss)]) := by
      simp [l1_0, e_var, e_cst, e_tup, e_lst, e_bin, e_neg, e_cmp, e_is, e_chain, e_and, e_or, e_not, e_ife, e_idx, e_slc, e_rev, e_cat, e_dg1, e_dg2, e_tg1, e_tg2, e_tix, e_dcp, dgD, tgD, txD, dcpD, cpDct, revD, e_call, e_bi, e_isi, e_mth, e_fld, e_isx, e_lc, e_dct, xs_nil, xs_cons, xo_none, xo_some, ec_nil, ec_cons, s_asg, s_par, s_par3, s_setIx, s_aug, s_expr, s_ret, s_retN, s_ife, s_for, s_whl, s_pass, s_brk, s_cont, s_rais, s_try, ss_nil, ss_cons, e_T, i_seq, i_rng1, i_rng2, i_enum, of_some, bd_ok, bd_err, fo_ok, fo_err, sq_nx, sq_rt, sq_bk, sq_ct, sq_err, lp_nx, lp_ct, lp_bk, lp_rt, lp_err, tr_ok, tr_err, br_t, br_f, sbr_t, sbr_f, en_some, so_some, ag_some, go_t, tn_some, tu_ap, fr_st, fr_lv, fr_lvE, end_rt, end_nx, end_err, negD, optI, rg1, rg2, tupD, ix0, ix1, ix2, ix3, ix4, ix5, ix6, ix7, ix8, ix9, ix10, ix11, ix12, ix13, ix14, ix15, ixm1, ixm2, isiV, idxD, seqD, opB, opA, opC, truD, setT, setTs, eqD, full, frz, D.sub, D.subL, D.eqv, D.eqvL, D.depth, D.depthL, biD, permD, opI, dctD, isKey, newL, catD, SZ, isiD, tyOk, lstD, setD, mtD, okM, srcD, mkL, slcD, mkDct, putKD, getK, kEq, ofB_some, fin_pl, finX_pl, pl_non, pl_bl, pl_int, pl_str, pl_tup, pl_lst, pl_ro, plL_nil, plL_cons, fin_k, lg_lt, lg_lt2, mulOk_lit, setTs, h2, h3, e, mkE, hk']
    rw [fs_cons, key, lp_nx, e2]
/-- a plan and its steps -/
def Pl (d : D) (ss : List D) : Prop := ∃ (mks blk : List D) (kvs : List (D × D)), d = .tup [.tup mks, .tup blk] ∧ Mk [] mks kvs ∧ P3 kvs blk ss ∧ ss.length ≤ 100000
theorem pl_sts {d : D} {ss : List D} (h : Pl d ss) : Sts ss := by
  obtain ⟨_, _, _, _, _, h, _⟩ := h
  exact bm_sts h
theorem s_steps (n : Nat) (st : Sto) {d : D} {ss : List D} (h : Pl d ss) : callD fds anc (n + 4) 1 [d] st = .ok (.tup ss) st := by
  have hs := pl_sts h
  obtain ⟨mks, blk, kvs, rfl, h1, h2, hl⟩ := h
  obtain ⟨z1, z2, e⟩ := mk_loop n st (.tup [.tup mks, .tup blk]) h1 none none
  have e2 := runs_3 kvs st.length n blk ss h2 (by omega) (st ++ [.dct kvs]) (app_get _ _)
  refine call_run (F := F1) rfl rfl ?_
  have f := fin_plA1 (d := .tup ss) (sts_pl hs) st (.dct kvs)
  simp [F1, b1, e_var, e_cst, e_tup, e_lst, e_bin, e_neg, e_cmp, e_is, e_chain, e_and, e_or, e_not, e_ife, e_idx, e_slc, e_rev, e_cat, e_dg1, e_dg2, e_tg1, e_tg2, e_tix, e_dcp, dgD, tgD, txD, dcpD, cpDct, revD, e_call, e_bi, e_isi, e_mth, e_fld, e_isx, e_lc, e_dct, xs_nil, xs_cons, xo_none, xo_some, ec_nil, ec_cons, s_asg, s_par, s_par3, s_setIx, s_aug, s_expr, s_ret, s_retN, s_ife, s_for, s_whl, s_pass, s_brk, s_cont, s_rais, s_try, ss_nil, ss_cons, e_T, i_seq, i_rng1, i_rng2, i_enum, of_some, bd_ok, bd_err, fo_ok, fo_err, sq_nx, sq_rt, sq_bk, sq_ct, sq_err, lp_nx, lp_ct, lp_bk, lp_rt, lp_err, tr_ok, tr_err, br_t, br_f, sbr_t, sbr_f, en_some, so_some, ag_some, go_t, tn_some, tu_ap, fr_st, fr_lv, fr_lvE, end_rt, end_nx, end_err, negD, optI, rg1, rg2, tupD, ix0, ix1, ix2, ix3, ix4, ix5, ix6, ix7, ix8, ix9, ix10, ix11, ix12, ix13, ix14, ix15, ixm1, ixm2, isiV, idxD, seqD, opB, opA, opC, truD, setT, setTs, eqD, full, frz, D.sub, D.subL, D.eqv, D.eqvL, D.depth, D.depthL, biD, permD, opI, dctD, isKey, newL, catD, SZ, isiD, tyOk, lstD, setD, mtD, okM, srcD, mkL, slcD, mkDct, putKD, getK, kEq, ofB_some, fin_pl, finX_pl, pl_non, pl_bl, pl_int, pl_str, pl_tup, pl_lst, pl_ro, plL_nil, plL_cons, fin_k, lg_lt, lg_lt2, mulOk_lit, e, e2]
  exact f
theorem bm_flat {P : Pb} {kvs : List (D × D)} : ∀ {ss : List D}, Sts ss → Bm P kvs ss ss
  | [], _ => .nil
  | s :: ss, h => by
    have := Bm.cons (P := P) (kvs := kvs) (.inl ⟨h s (List.mem_cons_self ..), rfl⟩) (bm_flat (P := P) (kvs := kvs) (ss := ss) fun d hd => h d (List.mem_cons_of_mem _ hd))
    simpa using this
end K44
set_option Elab.async false
set_option linter.all false
set_option maxRecDepth 100000
set_option maxHeartbeats 4000000
namespace K44
open DI
/-! the law's word for: the same -/
mutual
def cl : D → Bool
  | .int _ => true
  | .str _ => true
  | .tup xs => clL xs
  | _ => false
def clL : List D → Bool
  | [] => true
  | x :: r => cl x && clL r
end
mutual
def wt : D → Nat
  | .tup xs => wtL xs + 1
  | _ => 1
def wtL : List D → Nat
  | [] => 0
  | x :: r => wt x + wtL r
end
theorem wtL_app : ∀ a b : List D, wtL (a ++ b) = wtL a + wtL b
  | [], b => by simp [wtL]
  | x :: a, b => by rw [List.cons_append, wtL, wtL, wtL_app a b, Nat.add_assoc]
theorem clL_app : ∀ a b : List D, clL (a ++ b) = (clL a && clL b)
  | [], b => by simp [clL]
  | x :: a, b => by rw [List.cons_append, clL, clL, clL_app a b, Bool.and_assoc]
theorem wt_pos (d : D) : 0 < wt d := by
  cases d <;> simp [wt]
theorem wtL_len : ∀ a : List D, a.length ≤ wtL a
  | [] => by simp
  | x :: a => by
    have := wt_pos x
    have := wtL_len a
    rw [List.length_cons, wtL]
    omega
abbrev pr (x : D) : D := .tup [x, x]
theorem rng_pr (zs : List D) : (rngD 0 (zs.length : Int)).map (fun x => match x with
    | .int j => pr (zs.getD j.toNat .non)
    | x => x) = zs.map pr := by
  apply List.ext_getElem?
  intro i
  simp only [rngD, List.map_map, List.getElem?_map, Int.sub_zero, Int.toNat_natCast]
  by_cases hi : i < zs.length
  · rw [List.getElem?_range hi, List.getElem?_eq_getElem hi]
    simp [List.getD_eq_getElem?_getD, List.getElem?_eq_getElem hi]
  · rw [List.getElem?_eq_none (by simpa using hi), List.getElem?_eq_none (by simpa using hi)]
    rfl
theorem s_same (n : Nat) (d : D) (st : Sto) (hc : cl d = true) (hw : wt d ≤ 1000000) : callD fds anc (n + 1) 11 [d, d] st = .ok (.bl true) st := by
  have h2 : ∀ o : Ob, (st ++ [o])[st.length]? = some o := fun o => app_get st o
  have h3 : ∀ o u : Ob, (st ++ [o]).set st.length u = st ++ [u] := fun o u => app_set st o u
  obtain ⟨ρ', s', hw', z3, z4, z5, rfl, rfl⟩ := wh_rule (C := cal n) (c := .cmp .gt (.bi .len [.var 2]) (.cst (.int 0))) (b := l11_0)
    (fun m ρ s => ∃ (xs : List D) (z3 z4 z5 : Option D), ρ = [some d, some d, some (.loc st.length), z3, z4, z5] ∧ s = st ++ [.lst (xs.map pr)] ∧ clL xs = true ∧ wtL xs ≤ 1000000 ∧ m = wtL xs)
    (fun ρ s => ∃ (z3 z4 z5 : Option D), ρ = [some d, some d, some (.loc st.length), z3, z4, z5] ∧ s = st ++ [.lst []]) (by
      rintro m ρ s ⟨xs, z3, z4, z5, rfl, rfl, hcl, hwt, rfl⟩
      rcases List.eq_nil_or_concat xs with rfl | ⟨ys, x, rfl⟩
      · left
        exact ⟨_, by simp [e_var, e_cst, e_tup, e_lst, e_bin, e_neg, e_cmp, e_is, e_chain, e_and, e_or, e_not, e_ife, e_idx, e_slc, e_rev, e_cat, e_dg1, e_dg2, e_tg1, e_tg2, e_tix, e_dcp, dgD, tgD, txD, dcpD, cpDct, revD, e_call, e_bi, e_isi, e_mth, e_fld, e_isx, e_lc, e_dct, xs_nil, xs_cons, xo_none, xo_some, ec_nil, ec_cons, s_asg, s_par, s_par3, s_setIx, s_aug, s_expr, s_ret, s_retN, s_ife, s_for, s_whl, s_pass, s_brk, s_cont, s_rais, s_try, ss_nil, ss_cons, e_T, i_seq, i_rng1, i_rng2, i_enum, of_some, bd_ok, bd_err, fo_ok, fo_err, sq_nx, sq_rt, sq_bk, sq_ct, sq_err, lp_nx, lp_ct, lp_bk, lp_rt, lp_err, tr_ok, tr_err, br_t, br_f, sbr_t, sbr_f, en_some, so_some, ag_some, go_t, tn_some, tu_ap, fr_st, fr_lv, fr_lvE, end_rt, end_nx, end_err, negD, optI, rg1, rg2, tupD, ix0, ix1, ix2, ix3, ix4, ix5, ix6, ix7, ix8, ix9, ix10, ix11, ix12, ix13, ix14, ix15, ixm1, ixm2, isiV, idxD, seqD, opB, opA, opC, truD, setT, setTs, eqD, full, frz, D.sub, D.subL, D.eqv, D.eqvL, D.depth, D.depthL, biD, permD, opI, dctD, isKey, newL, catD, SZ, isiD, tyOk, lstD, setD, mtD, okM, srcD, mkL, slcD, mkDct, putKD, getK, kEq, ofB_some, fin_pl, finX_pl, pl_non, pl_bl, pl_int, pl_str, pl_tup, pl_lst, pl_ro, plL_nil, plL_cons, fin_k, lg_lt, lg_lt2, mulOk_lit, h2], z3, z4, z5, rfl, rfl⟩
      · right
        rw [List.concat_eq_append] at *
        rw [clL_app, Bool.and_eq_true] at hcl
        rw [wtL_app] at hwt
        have hlen := wtL_len ys
        have hx : cl x = true := by have := hcl.2; simpa [clL] using this
        have hwx : wtL [x] = wt x := by simp [wtL]
        have px := wt_pos x
        have cond : evT (cal n) (.cmp .gt (.bi .len [.var 2]) (.cst (.int 0))) [some d, some d, some (.loc st.length), z3, z4, z5] (st ++ [.lst ((ys ++ [x]).map pr)]) = .ok true (st ++ [.lst ((ys ++ [x]).map pr)]) := by
          have q : ((ys ++ [x]).map pr).length = ys.length + 1 := by simp
          generalize (ys ++ [x]).map pr = L at *
          have qq : 0 < L.length := by omega
          simp [e_var, e_cst, e_tup, e_lst, e_bin, e_neg, e_cmp, e_is, e_chain, e_and, e_or, e_not, e_ife, e_idx, e_slc, e_rev, e_cat, e_dg1, e_dg2, e_tg1, e_tg2, e_tix, e_dcp, dgD, tgD, txD, dcpD, cpDct, revD, e_call, e_bi, e_isi, e_mth, e_fld, e_isx, e_lc, e_dct, xs_nil, xs_cons, xo_none, xo_some, ec_nil, ec_cons, s_asg, s_par, s_par3, s_setIx, s_aug, s_expr, s_ret, s_retN, s_ife, s_for, s_whl, s_pass, s_brk, s_cont, s_rais, s_try, ss_nil, ss_cons, e_T, i_seq, i_rng1, i_rng2, i_enum, of_some, bd_ok, bd_err, fo_ok, fo_err, sq_nx, sq_rt, sq_bk, sq_ct, sq_err, lp_nx, lp_ct, lp_bk, lp_rt, lp_err, tr_ok, tr_err, br_t, br_f, sbr_t, sbr_f, en_some, so_some, ag_some, go_t, tn_some, tu_ap, fr_st, fr_lv, fr_lvE, end_rt, end_nx, end_err, negD, optI, rg1, rg2, tupD, ix0, ix1, ix2, ix3, ix4, ix5, ix6, ix7, ix8, ix9, ix10, ix11, ix12, ix13, ix14, ix15, ixm1, ixm2, isiV, idxD, seqD, opB, opA, opC, truD, setT, setTs, eqD, full, frz, D.sub, D.subL, D.eqv, D.eqvL, D.depth, D.depthL, biD, permD, opI, dctD, isKey, newL, catD, SZ, isiD, tyOk, lstD, setD, mtD, okM, srcD, mkL, slcD, mkDct, putKD, getK, kEq, ofB_some, fin_pl, finX_pl, pl_non, pl_bl, pl_int, pl_str, pl_tup, pl_lst, pl_ro, plL_nil, plL_cons, fin_k, lg_lt, lg_lt2, mulOk_lit, h2, qq]
        have g1 : ((ys ++ [x]).map pr)[((ys ++ [x]).map pr).length - 1]? = some (pr x) := by simp
        have g2 : ((ys ++ [x]).map pr).dropLast = ys.map pr := by simp
        have go : ∀ (s' : Sto) (ρ' : Env) (vs : List D), evSs (cal n) l11_0 [some d, some d, some (.loc st.length), z3, z4, z5] (st ++ [.lst ((ys ++ [x]).map pr)]) = .ok .nx ρ' s' → (∃ w3 w4 w5, ρ' = [some d, some d, some (.loc st.length), w3, w4, w5]) → s' = st ++ [.lst ((ys ++ vs).map pr)] → clL vs = true → wtL vs < wt x →
            ∃ st1 ρ' st' m', evT (cal n) (.cmp .gt (.bi .len [.var 2]) (.cst (.int 0))) [some d, some d, some (.loc st.length), z3, z4, z5] (st ++ [.lst ((ys ++ [x]).map pr)]) = .ok true st1 ∧ (evSs (cal n) l11_0 [some d, some d, some (.loc st.length), z3, z4, z5] st1 = .ok .nx ρ' st' ∨ evSs (cal n) l11_0 [some d, some d, some (.loc st.length), z3, z4, z5] st1 = .ok .ct ρ' st') ∧ m' < wtL (ys ++ [x]) ∧
              ∃ (xs : List D) (z3 z4 z5 : Option D), ρ' = [some d, some d, some (.loc st.length), z3, z4, z5] ∧ st' = st ++ [.lst (xs.map pr)] ∧ clL xs = true ∧ wtL xs ≤ 1000000 ∧ m' = wtL xs := by
          intro s' ρ' vs e ⟨w3, w4, w5, hρ⟩ hs hcv hwv
          exact ⟨_, ρ', s', wtL (ys ++ vs), cond, .inl e, by rw [wtL_app, wtL_app, hwx]; omega, ys ++ vs, w3, w4, w5, hρ, hs, by rw [clL_app, hcl.1, hcv]; rfl, by rw [wtL_app]; omega, rfl⟩
        generalize hL : (ys ++ [x]).map pr = L at *
        have lc : ∀ zs : List D, R.lc (cal n) (.nm 5) [] (.tup [.idx (.var 3) (.var 5), .idx (.var 4) (.var 5)]) [5] (.st (rngD 0 (zs.length : Int))) [some d, some d, some (.loc st.length), some (.tup zs), some (.tup zs), z5] (st ++ [.lst (ys.map pr)]) = .ok (zs.map pr) (st ++ [.lst (ys.map pr)]) := fun zs => by
          rw [← rng_pr zs]
          refine lc_map _ fun y hy => ?_
          obtain ⟨j, rfl, hj⟩ : ∃ j : Nat, y = .int (j : Int) ∧ j < zs.length := by
            rw [rng_nat] at hy
            obtain ⟨j, hj, rfl⟩ := List.mem_map.mp hy
            exact ⟨j, rfl, by have := List.mem_range'.mp hj; omega⟩
          have ix : ixD zs.length (j : Int) = some j := by
            have := ix_at (n := zs.length) (i := (j : Int)) (by omega) (by omega)
            simpa using this
          have hz : zs[j]? = some (zs[j]'hj) := List.getElem?_eq_getElem hj
          have hz2 : zs.getD (j : Int).toNat .non = zs[j]'hj := by
            rw [Int.toNat_natCast, List.getD_eq_getElem?_getD, hz]; rfl
          refine ⟨[some d, some d, some (.loc st.length), some (.tup zs), some (.tup zs), some (.int (j : Int))], rfl, by simp [e_var, e_cst, e_tup, e_lst, e_bin, e_neg, e_cmp, e_is, e_chain, e_and, e_or, e_not, e_ife, e_idx, e_slc, e_rev, e_cat, e_dg1, e_dg2, e_tg1, e_tg2, e_tix, e_dcp, dgD, tgD, txD, dcpD, cpDct, revD, e_call, e_bi, e_isi, e_mth, e_fld, e_isx, e_lc, e_dct, xs_nil, xs_cons, xo_none, xo_some, ec_nil, ec_cons, s_asg, s_par, s_par3, s_setIx, s_aug, s_expr, s_ret, s_retN, s_ife, s_for, s_whl, s_pass, s_brk, s_cont, s_rais, s_try, ss_nil, ss_cons, e_T, i_seq, i_rng1, i_rng2, i_enum, of_some, bd_ok, bd_err, fo_ok, fo_err, sq_nx, sq_rt, sq_bk, sq_ct, sq_err, lp_nx, lp_ct, lp_bk, lp_rt, lp_err, tr_ok, tr_err, br_t, br_f, sbr_t, sbr_f, en_some, so_some, ag_some, go_t, tn_some, tu_ap, fr_st, fr_lv, fr_lvE, end_rt, end_nx, end_err, negD, optI, rg1, rg2, tupD, ix0, ix1, ix2, ix3, ix4, ix5, ix6, ix7, ix8, ix9, ix10, ix11, ix12, ix13, ix14, ix15, ixm1, ixm2, isiV, idxD, seqD, opB, opA, opC, truD, setT, setTs, eqD, full, frz, D.sub, D.subL, D.eqv, D.eqvL, D.depth, D.depthL, biD, permD, opI, dctD, isKey, newL, catD, SZ, isiD, tyOk, lstD, setD, mtD, okM, srcD, mkL, slcD, mkDct, putKD, getK, kEq, ofB_some, fin_pl, finX_pl, pl_non, pl_bl, pl_int, pl_str, pl_tup, pl_lst, pl_ro, plL_nil, plL_cons, fin_k, lg_lt, lg_lt2, mulOk_lit], ?_⟩
          simp only [hz2]
          generalize zs[j]'hj = w at hz
          simp [e_var, e_cst, e_tup, e_lst, e_bin, e_neg, e_cmp, e_is, e_chain, e_and, e_or, e_not, e_ife, e_idx, e_slc, e_rev, e_cat, e_dg1, e_dg2, e_tg1, e_tg2, e_tix, e_dcp, dgD, tgD, txD, dcpD, cpDct, revD, e_call, e_bi, e_isi, e_mth, e_fld, e_isx, e_lc, e_dct, xs_nil, xs_cons, xo_none, xo_some, ec_nil, ec_cons, s_asg, s_par, s_par3, s_setIx, s_aug, s_expr, s_ret, s_retN, s_ife, s_for, s_whl, s_pass, s_brk, s_cont, s_rais, s_try, ss_nil, ss_cons, e_T, i_seq, i_rng1, i_rng2, i_enum, of_some, bd_ok, bd_err, fo_ok, fo_err, sq_nx, sq_rt, sq_bk, sq_ct, sq_err, lp_nx, lp_ct, lp_bk, lp_rt, lp_err, tr_ok, tr_err, br_t, br_f, sbr_t, sbr_f, en_some, so_some, ag_some, go_t, tn_some, tu_ap, fr_st, fr_lv, fr_lvE, end_rt, end_nx, end_err, negD, optI, rg1, rg2, tupD, ix0, ix1, ix2, ix3, ix4, ix5, ix6, ix7, ix8, ix9, ix10, ix11, ix12, ix13, ix14, ix15, ixm1, ixm2, isiV, idxD, seqD, opB, opA, opC, truD, setT, setTs, eqD, full, frz, D.sub, D.subL, D.eqv, D.eqvL, D.depth, D.depthL, biD, permD, opI, dctD, isKey, newL, catD, SZ, isiD, tyOk, lstD, setD, mtD, okM, srcD, mkL, slcD, mkDct, putKD, getK, kEq, ofB_some, fin_pl, finX_pl, pl_non, pl_bl, pl_int, pl_str, pl_tup, pl_lst, pl_ro, plL_nil, plL_cons, fin_k, lg_lt, lg_lt2, mulOk_lit, ix, hz]
        cases x with
        | int i =>
          refine go (st ++ [.lst (ys.map pr)]) [some d, some d, some (.loc st.length), some (.int i), some (.int i), z5] [] ?_ ⟨_, _, _, rfl⟩ (by rw [List.append_nil]) (by simp [clL]) (by simp [wtL, wt])
          simp [l11_0, e_var, e_cst, e_tup, e_lst, e_bin, e_neg, e_cmp, e_is, e_chain, e_and, e_or, e_not, e_ife, e_idx, e_slc, e_rev, e_cat, e_dg1, e_dg2, e_tg1, e_tg2, e_tix, e_dcp, dgD, tgD, txD, dcpD, cpDct, revD, e_call, e_bi, e_isi, e_mth, e_fld, e_isx, e_lc, e_dct, xs_nil, xs_cons, xo_none, xo_some, ec_nil, ec_cons, s_asg, s_par, s_par3, s_setIx, s_aug, s_expr, s_ret, s_retN, s_ife, s_for, s_whl, s_pass, s_brk, s_cont, s_rais, s_try, ss_nil, ss_cons, e_T, i_seq, i_rng1, i_rng2, i_enum, of_some, bd_ok, bd_err, fo_ok, fo_err, sq_nx, sq_rt, sq_bk, sq_ct, sq_err, lp_nx, lp_ct, lp_bk, lp_rt, lp_err, tr_ok, tr_err, br_t, br_f, sbr_t, sbr_f, en_some, so_some, ag_some, go_t, tn_some, tu_ap, fr_st, fr_lv, fr_lvE, end_rt, end_nx, end_err, negD, optI, rg1, rg2, tupD, ix0, ix1, ix2, ix3, ix4, ix5, ix6, ix7, ix8, ix9, ix10, ix11, ix12, ix13, ix14, ix15, ixm1, ixm2, isiV, idxD, seqD, opB, opA, opC, truD, setT, setTs, eqD, full, frz, D.sub, D.subL, D.eqv, D.eqvL, D.depth, D.depthL, biD, permD, opI, dctD, isKey, newL, catD, SZ, isiD, tyOk, lstD, setD, mtD, okM, srcD, mkL, slcD, mkDct, putKD, getK, kEq, ofB_some, fin_pl, finX_pl, pl_non, pl_bl, pl_int, pl_str, pl_tup, pl_lst, pl_ro, plL_nil, plL_cons, fin_k, lg_lt, lg_lt2, mulOk_lit, h2, h3, g1, g2, setTs]
        | str t =>
          refine go (st ++ [.lst (ys.map pr)]) [some d, some d, some (.loc st.length), some (.str t), some (.str t), z5] [] ?_ ⟨_, _, _, rfl⟩ (by rw [List.append_nil]) (by simp [clL]) (by simp [wtL, wt])
          simp [l11_0, e_var, e_cst, e_tup, e_lst, e_bin, e_neg, e_cmp, e_is, e_chain, e_and, e_or, e_not, e_ife, e_idx, e_slc, e_rev, e_cat, e_dg1, e_dg2, e_tg1, e_tg2, e_tix, e_dcp, dgD, tgD, txD, dcpD, cpDct, revD, e_call, e_bi, e_isi, e_mth, e_fld, e_isx, e_lc, e_dct, xs_nil, xs_cons, xo_none, xo_some, ec_nil, ec_cons, s_asg, s_par, s_par3, s_setIx, s_aug, s_expr, s_ret, s_retN, s_ife, s_for, s_whl, s_pass, s_brk, s_cont, s_rais, s_try, ss_nil, ss_cons, e_T, i_seq, i_rng1, i_rng2, i_enum, of_some, bd_ok, bd_err, fo_ok, fo_err, sq_nx, sq_rt, sq_bk, sq_ct, sq_err, lp_nx, lp_ct, lp_bk, lp_rt, lp_err, tr_ok, tr_err, br_t, br_f, sbr_t, sbr_f, en_some, so_some, ag_some, go_t, tn_some, tu_ap, fr_st, fr_lv, fr_lvE, end_rt, end_nx, end_err, negD, optI, rg1, rg2, tupD, ix0, ix1, ix2, ix3, ix4, ix5, ix6, ix7, ix8, ix9, ix10, ix11, ix12, ix13, ix14, ix15, ixm1, ixm2, isiV, idxD, seqD, opB, opA, opC, truD, setT, setTs, eqD, full, frz, D.sub, D.subL, D.eqv, D.eqvL, D.depth, D.depthL, biD, permD, opI, dctD, isKey, newL, catD, SZ, isiD, tyOk, lstD, setD, mtD, okM, srcD, mkL, slcD, mkDct, putKD, getK, kEq, ofB_some, fin_pl, finX_pl, pl_non, pl_bl, pl_int, pl_str, pl_tup, pl_lst, pl_ro, plL_nil, plL_cons, fin_k, lg_lt, lg_lt2, mulOk_lit, h2, h3, g1, g2, setTs]
        | tup zs =>
          have zl := wtL_len zs
          have wz : wt (.tup zs) = wtL zs + 1 := by rw [wt]
          have sm : small62 (zs.length : Int) = true := small62_of (by omega) (by omega)
          have l1 : zs.length ≤ 10000000 := by omega
          have l2 : ys.length + zs.length ≤ 10000000 := by omega
          refine go (st ++ [.lst ((ys ++ zs).map pr)]) [some d, some d, some (.loc st.length), some (.tup zs), some (.tup zs), z5] zs ?_ ⟨_, _, _, rfl⟩ rfl (by simpa [cl] using hx) (by rw [wz]; omega)
          have lcz := lc zs
          rw [List.map_append]
          have l1' : (zs.map pr).length ≤ 10000000 := by rw [List.length_map]; exact l1
          have l2' : (ys.map pr).length + (zs.map pr).length ≤ 10000000 := by rw [List.length_map, List.length_map]; exact l2
          generalize zs.map pr = A at *
          generalize ys.map pr = B at *
          simp [l11_0, e_var, e_cst, e_tup, e_lst, e_bin, e_neg, e_cmp, e_is, e_chain, e_and, e_or, e_not, e_ife, e_idx, e_slc, e_rev, e_cat, e_dg1, e_dg2, e_tg1, e_tg2, e_tix, e_dcp, dgD, tgD, txD, dcpD, cpDct, revD, e_call, e_bi, e_isi, e_mth, e_fld, e_isx, e_lc, e_dct, xs_nil, xs_cons, xo_none, xo_some, ec_nil, ec_cons, s_asg, s_par, s_par3, s_setIx, s_aug, s_expr, s_ret, s_retN, s_ife, s_for, s_whl, s_pass, s_brk, s_cont, s_rais, s_try, ss_nil, ss_cons, e_T, i_seq, i_rng1, i_rng2, i_enum, of_some, bd_ok, bd_err, fo_ok, fo_err, sq_nx, sq_rt, sq_bk, sq_ct, sq_err, lp_nx, lp_ct, lp_bk, lp_rt, lp_err, tr_ok, tr_err, br_t, br_f, sbr_t, sbr_f, en_some, so_some, ag_some, go_t, tn_some, tu_ap, fr_st, fr_lv, fr_lvE, end_rt, end_nx, end_err, negD, optI, rg1, rg2, tupD, ix0, ix1, ix2, ix3, ix4, ix5, ix6, ix7, ix8, ix9, ix10, ix11, ix12, ix13, ix14, ix15, ixm1, ixm2, isiV, idxD, seqD, opB, opA, opC, truD, setT, setTs, eqD, full, frz, D.sub, D.subL, D.eqv, D.eqvL, D.depth, D.depthL, biD, permD, opI, dctD, isKey, newL, catD, SZ, isiD, tyOk, lstD, setD, mtD, okM, srcD, mkL, slcD, mkDct, putKD, getK, kEq, ofB_some, fin_pl, finX_pl, pl_non, pl_bl, pl_int, pl_str, pl_tup, pl_lst, pl_ro, plL_nil, plL_cons, fin_k, lg_lt, lg_lt2, mulOk_lit, h2, h3, g1, g2, setTs, sm, lcz, l1', l2']
        | _ => simp [cl] at hx)
    (m := wtL [d]) (ρ := [some d, some d, some (.loc st.length), none, none, none]) (st := st ++ [.lst ([d].map pr)]) ⟨[d], none, none, none, rfl, rfl, by simp [clL, hc], by simpa [wtL] using hw, rfl⟩ (by
      have : wtL [d] = wt d := by simp [wtL]
      rw [this]
      exact Nat.lt_of_le_of_lt hw (by decide))
  refine call_run (F := F11) rfl rfl ?_
  simp only [List.map_cons, List.map_nil] at hw'
  have f := fin_plA1 (d := .bl true) rfl st (.lst [])
  simp [F11, b11, e_var, e_cst, e_tup, e_lst, e_bin, e_neg, e_cmp, e_is, e_chain, e_and, e_or, e_not, e_ife, e_idx, e_slc, e_rev, e_cat, e_dg1, e_dg2, e_tg1, e_tg2, e_tix, e_dcp, dgD, tgD, txD, dcpD, cpDct, revD, e_call, e_bi, e_isi, e_mth, e_fld, e_isx, e_lc, e_dct, xs_nil, xs_cons, xo_none, xo_some, ec_nil, ec_cons, s_asg, s_par, s_par3, s_setIx, s_aug, s_expr, s_ret, s_retN, s_ife, s_for, s_whl, s_pass, s_brk, s_cont, s_rais, s_try, ss_nil, ss_cons, e_T, i_seq, i_rng1, i_rng2, i_enum, of_some, bd_ok, bd_err, fo_ok, fo_err, sq_nx, sq_rt, sq_bk, sq_ct, sq_err, lp_nx, lp_ct, lp_bk, lp_rt, lp_err, tr_ok, tr_err, br_t, br_f, sbr_t, sbr_f, en_some, so_some, ag_some, go_t, tn_some, tu_ap, fr_st, fr_lv, fr_lvE, end_rt, end_nx, end_err, negD, optI, rg1, rg2, tupD, ix0, ix1, ix2, ix3, ix4, ix5, ix6, ix7, ix8, ix9, ix10, ix11, ix12, ix13, ix14, ix15, ixm1, ixm2, isiV, idxD, seqD, opB, opA, opC, truD, setT, setTs, eqD, full, frz, D.sub, D.subL, D.eqv, D.eqvL, D.depth, D.depthL, biD, permD, opI, dctD, isKey, newL, catD, SZ, isiD, tyOk, lstD, setD, mtD, okM, srcD, mkL, slcD, mkDct, putKD, getK, kEq, ofB_some, fin_pl, finX_pl, pl_non, pl_bl, pl_int, pl_str, pl_tup, pl_lst, pl_ro, plL_nil, plL_cons, fin_k, lg_lt, lg_lt2, mulOk_lit, hw']
  exact f
end K44
set_option Elab.async false
set_option linter.all false
set_option maxRecDepth 100000
set_option maxHeartbeats 4000000
namespace K44
open DI
theorem compS_fm {f : D → Sto → R (Option D)} {h : D → Option D} {st : Sto} : ∀ (xs acc : List D), (∀ x ∈ xs, f x st = .ok (h x) st) → compS f xs acc st = .ok (acc ++ xs.filterMap h) st := by
  intro xs
  induction xs with
  | nil => intro acc _; simp [compS]
  | cons x xs ih =>
    intro acc k
    rw [compS, k x (List.mem_cons_self ..)]
    simp only [R.bind]
    rw [ih _ fun y hy => k y (List.mem_cons_of_mem _ hy)]
    cases hx : h x <;> simp [hx]
theorem lc_fm {C : Cal} {t : Tg} {cs : List Ex} {e : Ex} {own : List Nat} {ρ : Env} {st : Sto} (h : D → Option D) {xs : List D} (hb : ∀ x ∈ xs, ∃ ρ', setT t x (wipeD ρ own) = some ρ' ∧ ((h x = none ∧ evCs C cs ρ' st = .ok false st) ∨ (∃ y, h x = some y ∧ evCs C cs ρ' st = .ok true st ∧ evE C e ρ' st = .ok y st))) : R.lc C t cs e own (.st xs) ρ st = .ok (xs.filterMap h) st := by
  unfold R.lc
  show (compS _ xs [] st).noE = _
  rw [compS_fm (h := h) xs [] fun x hx => by
    obtain ⟨ρ', h1, h2⟩ := hb x hx
    rcases h2 with ⟨h2, h3⟩ | ⟨y, h2, h3, h4⟩
    · rw [h2]
      simp [h1, h3, R.bind]
    · rw [h2]
      simp [h1, h3, h4, R.bind]]
  rfl
theorem st_dep {d : D} (h : isSt d) : d.depth ≤ 3 := by
  rcases h with ⟨_, rfl⟩ | ⟨_, rfl⟩ | ⟨_, _, rfl, _⟩ | ⟨_, _, rfl, _⟩ <;> simp [D.depth, D.depthL]
theorem sts_sc : ∀ {xs : List D}, Sts xs → D.scL xs = true ∧ D.depthL xs ≤ 3
  | [], _ => ⟨by simp [D.scL], by simp [D.depthL]⟩
  | x :: r, h => by
    obtain ⟨h1, h2⟩ := sts_sc (xs := r) fun d hd => h d (List.mem_cons_of_mem _ hd)
    have h3 := h x (List.mem_cons_self ..)
    have h4 := st_dep h3
    have h5 : D.sc x = true := by
      rcases h3 with ⟨_, rfl⟩ | ⟨_, rfl⟩ | ⟨_, _, rfl, _⟩ | ⟨_, _, rfl, _⟩ <;> simp [D.sc, D.scL]
    exact ⟨by simp [D.scL, h5, h1], by simp only [D.depthL]; omega⟩
theorem subL_sts {a : List D} (h : Sts a) (g : Nat → Option D) : D.subL g a = some a := subL_sc g a (sts_sc h).1
theorem sub_st {a : D} (h : isSt a) (g : Nat → Option D) : D.sub g a = some a := by
  rcases h with ⟨_, rfl⟩ | ⟨_, rfl⟩ | ⟨_, _, rfl, _⟩ | ⟨_, _, rfl, _⟩ <;> simp [D.sub, D.subL]
theorem st_cl {d : D} (h : isSt d) : cl d = true ∧ wt d ≤ 6 := by
  rcases h with ⟨_, rfl⟩ | ⟨_, rfl⟩ | ⟨_, _, rfl, _⟩ | ⟨_, _, rfl, _⟩ <;> simp [cl, clL, wt, wtL]
theorem sts_cl : ∀ {xs : List D}, Sts xs → clL xs = true ∧ wtL xs ≤ 6 * xs.length
  | [], _ => ⟨by simp [clL], by simp [wtL]⟩
  | x :: r, h => by
    obtain ⟨h1, h2⟩ := sts_cl (xs := r) fun d hd => h d (List.mem_cons_of_mem _ hd)
    obtain ⟨h3, h4⟩ := st_cl (h x (List.mem_cons_self ..))
    exact ⟨by simp [clL, h3, h1], by rw [wtL, List.length_cons]; omega⟩
theorem eqv_eq {a b : D} (ha : isSt a) (hb : isSt b) (h : D.eqv a b = true) : a = b := by
  rcases ha with ⟨_, rfl⟩ | ⟨_, rfl⟩ | ⟨_, _, rfl, _⟩ | ⟨_, _, rfl, _⟩ <;> rcases hb with ⟨_, rfl⟩ | ⟨_, rfl⟩ | ⟨_, _, rfl, _⟩ | ⟨_, _, rfl, _⟩ <;> simp [D.eqv, D.eqvL] at h <;> simp [h]
theorem eqv_rfl {a : D} (ha : isSt a) : D.eqv a a = true := by
  rcases ha with ⟨_, rfl⟩ | ⟨_, rfl⟩ | ⟨_, _, rfl, _⟩ | ⟨_, _, rfl, _⟩ <;> simp [D.eqv, D.eqvL]
theorem eqvL_eq : ∀ {a b : List D}, Sts a → Sts b → D.eqvL a b = true → a = b
  | [], [], _, _, _ => rfl
  | [], _ :: _, _, _, h => by simp [D.eqvL] at h
  | _ :: _, [], _, _, h => by simp [D.eqvL] at h
  | x :: a, y :: b, ha, hb, h => by
    simp only [D.eqvL, Bool.and_eq_true] at h
    rw [eqv_eq (ha x (List.mem_cons_self ..)) (hb y (List.mem_cons_self ..)) h.1, eqvL_eq (fun d hd => ha d (List.mem_cons_of_mem _ hd)) (fun d hd => hb d (List.mem_cons_of_mem _ hd)) h.2]
theorem sts_take {ss : List D} (h : Sts ss) (n : Nat) : Sts (ss.take n) := fun d hd => h d (List.mem_of_mem_take hd)
theorem sts_drop {ss : List D} (h : Sts ss) (n : Nat) : Sts (ss.drop n) := fun d hd => h d (List.mem_of_mem_drop hd)
theorem sts_app {a b : List D} (h : Sts a) (k : Sts b) : Sts (a ++ b) := fun d hd => by
  rcases List.mem_append.mp hd with hd | hd
  · exact h d hd
  · exact k d hd
theorem sts_nil : Sts [] := fun d hd => by cases hd
theorem sts_one {d : D} (h : isSt d) : Sts [d] := fun x hx => by rw [List.mem_singleton.mp hx]; exact h
theorem cut_sts {ss : List D} (h : Sts ss) (lo hi : Option Int) : Sts (cutD ss lo hi) ∧ (cutD ss lo hi).length ≤ ss.length := by
  unfold cutD
  exact ⟨sts_take (sts_drop h _) _, by rw [List.length_take, List.length_drop]; omega⟩
theorem cut_mid (ss : List D) (i j : Nat) (hi : i ≤ ss.length) : cutD ss (some (i : Int)) (some ((i : Int) + (j : Int))) = (ss.drop i).take j := by
  have e1 : sIxD ss.length 0 (some (i : Int)) = i := by
    show (if (i : Int) < 0 then ((i : Int) + (ss.length : Int)).toNat else min (i : Int).toNat ss.length) = _
    rw [if_neg (by omega)]; omega
  have e2 : sIxD ss.length ss.length (some ((i : Int) + (j : Int))) = min (i + j) ss.length := by
    show (if (i : Int) + (j : Int) < 0 then ((i : Int) + (j : Int) + (ss.length : Int)).toNat else min ((i : Int) + (j : Int)).toNat ss.length) = _
    rw [if_neg (by omega)]; omega
  unfold cutD
  rw [e1, e2]
  by_cases h : i + j ≤ ss.length
  · rw [show min (i + j) ss.length - i = j by omega]
  · rw [List.take_of_length_le (by rw [List.length_drop]; omega), List.take_of_length_le (by rw [List.length_drop]; omega)]
theorem cut_from (ss : List D) {i : Int} (h0 : 0 ≤ i) (h1 : i ≤ ss.length) : cutD ss (some i) none = ss.drop i.toNat := by
  have e : sIxD ss.length 0 (some i) = i.toNat := by
    show (if i < 0 then (i + (ss.length : Int)).toNat else min i.toNat ss.length) = _
    rw [if_neg (by omega)]; omega
  show (ss.drop (sIxD ss.length 0 (some i))).take (ss.length - sIxD ss.length 0 (some i)) = _
  rw [e]
  exact List.take_of_length_le (by rw [List.length_drop]; omega)
theorem cut_to (ss : List D) {i : Int} (h0 : 0 ≤ i) (h1 : i ≤ ss.length) : cutD ss none (some i) = ss.take i.toNat := by
  have e : sIxD ss.length ss.length (some i) = i.toNat := by
    show (if i < 0 then (i + (ss.length : Int)).toNat else min i.toNat ss.length) = _
    rw [if_neg (by omega)]; omega
  show (ss.drop 0).take (sIxD ss.length ss.length (some i) - 0) = _
  rw [e]
  rfl
/-! cut, splice, turn -/
theorem pl_flat {ss : List D} (h : Sts ss) (hl : ss.length ≤ 100000) : Pl (.tup [.tup [], .tup ss]) ss := ⟨[], ss, [], rfl, .nil _, bm_flat h, hl⟩
theorem pl_len {d : D} {ss : List D} (h : Pl d ss) : ss.length ≤ 100000 := by
  obtain ⟨_, _, _, _, _, _, hl⟩ := h
  exact hl
theorem s_flat (n : Nat) (st : Sto) {ss : List D} (h : Sts ss) : callD fds anc (n + 1) 23 [.tup ss] st = .ok (.tup [.tup [], .tup ss]) st := by
  have sp := sts_pl h
  refine call_run (F := F23) rfl rfl ?_
  simp [F23, b23, e_var, e_cst, e_tup, e_lst, e_bin, e_neg, e_cmp, e_is, e_chain, e_and, e_or, e_not, e_ife, e_idx, e_slc, e_rev, e_cat, e_dg1, e_dg2, e_tg1, e_tg2, e_tix, e_dcp, dgD, tgD, txD, dcpD, cpDct, revD, e_call, e_bi, e_isi, e_mth, e_fld, e_isx, e_lc, e_dct, xs_nil, xs_cons, xo_none, xo_some, ec_nil, ec_cons, s_asg, s_par, s_par3, s_setIx, s_aug, s_expr, s_ret, s_retN, s_ife, s_for, s_whl, s_pass, s_brk, s_cont, s_rais, s_try, ss_nil, ss_cons, e_T, i_seq, i_rng1, i_rng2, i_enum, of_some, bd_ok, bd_err, fo_ok, fo_err, sq_nx, sq_rt, sq_bk, sq_ct, sq_err, lp_nx, lp_ct, lp_bk, lp_rt, lp_err, tr_ok, tr_err, br_t, br_f, sbr_t, sbr_f, en_some, so_some, ag_some, go_t, tn_some, tu_ap, fr_st, fr_lv, fr_lvE, end_rt, end_nx, end_err, negD, optI, rg1, rg2, tupD, ix0, ix1, ix2, ix3, ix4, ix5, ix6, ix7, ix8, ix9, ix10, ix11, ix12, ix13, ix14, ix15, ixm1, ixm2, isiV, idxD, seqD, opB, opA, opC, truD, setT, setTs, eqD, full, frz, D.sub, D.subL, D.eqv, D.eqvL, D.depth, D.depthL, biD, permD, opI, dctD, isKey, newL, catD, SZ, isiD, tyOk, lstD, setD, mtD, okM, srcD, mkL, slcD, mkDct, putKD, getK, kEq, ofB_some, fin_pl, finX_pl, pl_non, pl_bl, pl_int, pl_str, pl_tup, pl_lst, pl_ro, plL_nil, plL_cons, fin_k, lg_lt, lg_lt2, mulOk_lit, sp]
theorem s_cut (n : Nat) (st : Sto) {d : D} {ss : List D} (h : Pl d ss) (i j : Int) : callD fds anc (n + 5) 5 [d, .int i, .int j] st = .ok (.tup [.tup [], .tup (cutD ss (some i) (some j))]) st := by
  have e1 := s_steps n st h
  have sp := sts_pl (cut_sts (pl_sts h) (some i) (some j)).1
  refine call_run (F := F5) rfl rfl ?_
  simp [F5, b5, e_var, e_cst, e_tup, e_lst, e_bin, e_neg, e_cmp, e_is, e_chain, e_and, e_or, e_not, e_ife, e_idx, e_slc, e_rev, e_cat, e_dg1, e_dg2, e_tg1, e_tg2, e_tix, e_dcp, dgD, tgD, txD, dcpD, cpDct, revD, e_call, e_bi, e_isi, e_mth, e_fld, e_isx, e_lc, e_dct, xs_nil, xs_cons, xo_none, xo_some, ec_nil, ec_cons, s_asg, s_par, s_par3, s_setIx, s_aug, s_expr, s_ret, s_retN, s_ife, s_for, s_whl, s_pass, s_brk, s_cont, s_rais, s_try, ss_nil, ss_cons, e_T, i_seq, i_rng1, i_rng2, i_enum, of_some, bd_ok, bd_err, fo_ok, fo_err, sq_nx, sq_rt, sq_bk, sq_ct, sq_err, lp_nx, lp_ct, lp_bk, lp_rt, lp_err, tr_ok, tr_err, br_t, br_f, sbr_t, sbr_f, en_some, so_some, ag_some, go_t, tn_some, tu_ap, fr_st, fr_lv, fr_lvE, end_rt, end_nx, end_err, negD, optI, rg1, rg2, tupD, ix0, ix1, ix2, ix3, ix4, ix5, ix6, ix7, ix8, ix9, ix10, ix11, ix12, ix13, ix14, ix15, ixm1, ixm2, isiV, idxD, seqD, opB, opA, opC, truD, setT, setTs, eqD, full, frz, D.sub, D.subL, D.eqv, D.eqvL, D.depth, D.depthL, biD, permD, opI, dctD, isKey, newL, catD, SZ, isiD, tyOk, lstD, setD, mtD, okM, srcD, mkL, slcD, mkDct, putKD, getK, kEq, ofB_some, fin_pl, finX_pl, pl_non, pl_bl, pl_int, pl_str, pl_tup, pl_lst, pl_ro, plL_nil, plL_cons, fin_k, lg_lt, lg_lt2, mulOk_lit, e1, sp]
theorem s_splice (n : Nat) (st : Sto) {d e : D} {ss ws : List D} (h : Pl d ss) (k : Pl e ws) (i : Int) (hl : ss.length + ws.length ≤ 100000) : callD fds anc (n + 5) 6 [d, .int i, e] st = .ok (.tup [.tup [], .tup (cutD ss none (some i) ++ ws ++ cutD ss (some i) none)]) st := by
  have e1 := s_steps n st h
  have e2 := s_steps n st k
  obtain ⟨c1, c2⟩ := cut_sts (pl_sts h) none (some i)
  obtain ⟨c3, c4⟩ := cut_sts (pl_sts h) (some i) none
  have p1 := sts_pl c1
  have p2 := sts_pl (pl_sts k)
  have p3 := sts_pl c3
  have l1 : (cutD ss none (some i)).length + ws.length ≤ 10000000 := by omega
  have l2 : (cutD ss none (some i)).length + ws.length + (cutD ss (some i) none).length ≤ 10000000 := by omega
  have l3 : (cutD ss none (some i)).length + (ws.length + (cutD ss (some i) none).length) ≤ 10000000 := by omega
  refine call_run (F := F6) rfl rfl ?_
  generalize hA : cutD ss none (some i) = A at *
  generalize hB : cutD ss (some i) none = B at *
  simp [F6, b6, e_var, e_cst, e_tup, e_lst, e_bin, e_neg, e_cmp, e_is, e_chain, e_and, e_or, e_not, e_ife, e_idx, e_slc, e_rev, e_cat, e_dg1, e_dg2, e_tg1, e_tg2, e_tix, e_dcp, dgD, tgD, txD, dcpD, cpDct, revD, e_call, e_bi, e_isi, e_mth, e_fld, e_isx, e_lc, e_dct, xs_nil, xs_cons, xo_none, xo_some, ec_nil, ec_cons, s_asg, s_par, s_par3, s_setIx, s_aug, s_expr, s_ret, s_retN, s_ife, s_for, s_whl, s_pass, s_brk, s_cont, s_rais, s_try, ss_nil, ss_cons, e_T, i_seq, i_rng1, i_rng2, i_enum, of_some, bd_ok, bd_err, fo_ok, fo_err, sq_nx, sq_rt, sq_bk, sq_ct, sq_err, lp_nx, lp_ct, lp_bk, lp_rt, lp_err, tr_ok, tr_err, br_t, br_f, sbr_t, sbr_f, en_some, so_some, ag_some, go_t, tn_some, tu_ap, fr_st, fr_lv, fr_lvE, end_rt, end_nx, end_err, negD, optI, rg1, rg2, tupD, ix0, ix1, ix2, ix3, ix4, ix5, ix6, ix7, ix8, ix9, ix10, ix11, ix12, ix13, ix14, ix15, ixm1, ixm2, isiV, idxD, seqD, opB, opA, opC, truD, setT, setTs, eqD, full, frz, D.sub, D.subL, D.eqv, D.eqvL, D.depth, D.depthL, biD, permD, opI, dctD, isKey, newL, catD, SZ, isiD, tyOk, lstD, setD, mtD, okM, srcD, mkL, slcD, mkDct, putKD, getK, kEq, ofB_some, fin_pl, finX_pl, pl_non, pl_bl, pl_int, pl_str, pl_tup, pl_lst, pl_ro, plL_nil, plL_cons, fin_k, lg_lt, lg_lt2, mulOk_lit, e1, e2, hA, hB, l1, l2, l3, p1, p2, p3, plL_app]
theorem s_turnd (n : Nat) (st : Sto) {d : D} {ss : List D} (h : Pl d ss) (x y : Int) : callD fds anc (n + 5) 7 [d, .tup [.int x, .int y]] st = .ok (.tup [.tup [], .tup (.tup [.str tLeft, .tup [.int x, .int y]] :: ss)]) st := by
  have e1 := s_steps n st h
  have p2 := sts_pl (pl_sts h)
  have hl := pl_len h
  have l1 : ss.length + 1 ≤ 10000000 := by omega
  have l2 : 1 + ss.length ≤ 10000000 := by omega
  refine call_run (F := F7) rfl rfl ?_
  simp [F7, b7, e_var, e_cst, e_tup, e_lst, e_bin, e_neg, e_cmp, e_is, e_chain, e_and, e_or, e_not, e_ife, e_idx, e_slc, e_rev, e_cat, e_dg1, e_dg2, e_tg1, e_tg2, e_tix, e_dcp, dgD, tgD, txD, dcpD, cpDct, revD, e_call, e_bi, e_isi, e_mth, e_fld, e_isx, e_lc, e_dct, xs_nil, xs_cons, xo_none, xo_some, ec_nil, ec_cons, s_asg, s_par, s_par3, s_setIx, s_aug, s_expr, s_ret, s_retN, s_ife, s_for, s_whl, s_pass, s_brk, s_cont, s_rais, s_try, ss_nil, ss_cons, e_T, i_seq, i_rng1, i_rng2, i_enum, of_some, bd_ok, bd_err, fo_ok, fo_err, sq_nx, sq_rt, sq_bk, sq_ct, sq_err, lp_nx, lp_ct, lp_bk, lp_rt, lp_err, tr_ok, tr_err, br_t, br_f, sbr_t, sbr_f, en_some, so_some, ag_some, go_t, tn_some, tu_ap, fr_st, fr_lv, fr_lvE, end_rt, end_nx, end_err, negD, optI, rg1, rg2, tupD, ix0, ix1, ix2, ix3, ix4, ix5, ix6, ix7, ix8, ix9, ix10, ix11, ix12, ix13, ix14, ix15, ixm1, ixm2, isiV, idxD, seqD, opB, opA, opC, truD, setT, setTs, eqD, full, frz, D.sub, D.subL, D.eqv, D.eqvL, D.depth, D.depthL, biD, permD, opI, dctD, isKey, newL, catD, SZ, isiD, tyOk, lstD, setD, mtD, okM, srcD, mkL, slcD, mkDct, putKD, getK, kEq, ofB_some, fin_pl, finX_pl, pl_non, pl_bl, pl_int, pl_str, pl_tup, pl_lst, pl_ro, plL_nil, plL_cons, fin_k, lg_lt, lg_lt2, mulOk_lit, e1, l1, l2, p2]
def sw (d : D) : D := match d with
  | .tup [.str w, x] => .tup [.str (if w = tGo then tSkip else if w = tSkip then tGo else w), x]
  | x => x
theorem sw_st {d : D} (h : isSt d) : isSt (sw d) := by
  rcases h with ⟨k, rfl⟩ | ⟨k, rfl⟩ | ⟨x, y, rfl, h⟩ | ⟨x, y, rfl, h⟩
  · exact .inr (.inl ⟨k, rfl⟩)
  · exact .inl ⟨k, rfl⟩
  · exact .inr (.inr (.inl ⟨x, y, rfl, h⟩))
  · exact .inr (.inr (.inr ⟨x, y, rfl, h⟩))
theorem sw_sts {ss : List D} (h : Sts ss) : Sts (ss.map sw) := fun d hd => by
  obtain ⟨x, hx, rfl⟩ := List.mem_map.mp hd
  exact sw_st (h x hx)
theorem s_swap (n : Nat) (st : Sto) {d : D} {ss : List D} (h : Pl d ss) (x y : Int) : callD fds anc (n + 5) 8 [d, .tup [.int x, .int y]] st = .ok (.tup [.tup [], .tup (ss.map sw ++ [.tup [.str tLeft, .tup [.int x, .int y]]])]) st := by
  have e1 := s_steps n st h
  have hs := pl_sts h
  have hl := pl_len h
  have lc : R.lc (cal (n + 4)) (.tp [.nm 3, .nm 4]) [] (.tup [.tg2 [(.str [103, 111], .str [115, 107, 105, 112]), (.str [115, 107, 105, 112], .str [103, 111])] [.str [108, 101, 102, 116], .str [114, 105, 103, 104, 116], .str [100, 111], .str [114, 101, 112, 101, 97, 116]] (.var 3) (.var 3), .var 4]) [3, 4] (.st ss) [some d, some (.tup [.int x, .int y]), none, none, none] st = .ok (ss.map sw) st := by
    refine lc_map _ fun z hz => ?_
    rcases hs z hz with ⟨k, rfl⟩ | ⟨k, rfl⟩ | ⟨u, v, rfl, _⟩ | ⟨u, v, rfl, _⟩
    · exact ⟨[some d, some (.tup [.int x, .int y]), none, some (.str tGo), some (.int k)], rfl, by simp [e_var, e_cst, e_tup, e_lst, e_bin, e_neg, e_cmp, e_is, e_chain, e_and, e_or, e_not, e_ife, e_idx, e_slc, e_rev, e_cat, e_dg1, e_dg2, e_tg1, e_tg2, e_tix, e_dcp, dgD, tgD, txD, dcpD, cpDct, revD, e_call, e_bi, e_isi, e_mth, e_fld, e_isx, e_lc, e_dct, xs_nil, xs_cons, xo_none, xo_some, ec_nil, ec_cons, s_asg, s_par, s_par3, s_setIx, s_aug, s_expr, s_ret, s_retN, s_ife, s_for, s_whl, s_pass, s_brk, s_cont, s_rais, s_try, ss_nil, ss_cons, e_T, i_seq, i_rng1, i_rng2, i_enum, of_some, bd_ok, bd_err, fo_ok, fo_err, sq_nx, sq_rt, sq_bk, sq_ct, sq_err, lp_nx, lp_ct, lp_bk, lp_rt, lp_err, tr_ok, tr_err, br_t, br_f, sbr_t, sbr_f, en_some, so_some, ag_some, go_t, tn_some, tu_ap, fr_st, fr_lv, fr_lvE, end_rt, end_nx, end_err, negD, optI, rg1, rg2, tupD, ix0, ix1, ix2, ix3, ix4, ix5, ix6, ix7, ix8, ix9, ix10, ix11, ix12, ix13, ix14, ix15, ixm1, ixm2, isiV, idxD, seqD, opB, opA, opC, truD, setT, setTs, eqD, full, frz, D.sub, D.subL, D.eqv, D.eqvL, D.depth, D.depthL, biD, permD, opI, dctD, isKey, newL, catD, SZ, isiD, tyOk, lstD, setD, mtD, okM, srcD, mkL, slcD, mkDct, putKD, getK, kEq, ofB_some, fin_pl, finX_pl, pl_non, pl_bl, pl_int, pl_str, pl_tup, pl_lst, pl_ro, plL_nil, plL_cons, fin_k, lg_lt, lg_lt2, mulOk_lit], by simp [e_var, e_cst, e_tup, e_lst, e_bin, e_neg, e_cmp, e_is, e_chain, e_and, e_or, e_not, e_ife, e_idx, e_slc, e_rev, e_cat, e_dg1, e_dg2, e_tg1, e_tg2, e_tix, e_dcp, dgD, tgD, txD, dcpD, cpDct, revD, e_call, e_bi, e_isi, e_mth, e_fld, e_isx, e_lc, e_dct, xs_nil, xs_cons, xo_none, xo_some, ec_nil, ec_cons, s_asg, s_par, s_par3, s_setIx, s_aug, s_expr, s_ret, s_retN, s_ife, s_for, s_whl, s_pass, s_brk, s_cont, s_rais, s_try, ss_nil, ss_cons, e_T, i_seq, i_rng1, i_rng2, i_enum, of_some, bd_ok, bd_err, fo_ok, fo_err, sq_nx, sq_rt, sq_bk, sq_ct, sq_err, lp_nx, lp_ct, lp_bk, lp_rt, lp_err, tr_ok, tr_err, br_t, br_f, sbr_t, sbr_f, en_some, so_some, ag_some, go_t, tn_some, tu_ap, fr_st, fr_lv, fr_lvE, end_rt, end_nx, end_err, negD, optI, rg1, rg2, tupD, ix0, ix1, ix2, ix3, ix4, ix5, ix6, ix7, ix8, ix9, ix10, ix11, ix12, ix13, ix14, ix15, ixm1, ixm2, isiV, idxD, seqD, opB, opA, opC, truD, setT, setTs, eqD, full, frz, D.sub, D.subL, D.eqv, D.eqvL, D.depth, D.depthL, biD, permD, opI, dctD, isKey, newL, catD, SZ, isiD, tyOk, lstD, setD, mtD, okM, srcD, mkL, slcD, mkDct, putKD, getK, kEq, ofB_some, fin_pl, finX_pl, pl_non, pl_bl, pl_int, pl_str, pl_tup, pl_lst, pl_ro, plL_nil, plL_cons, fin_k, lg_lt, lg_lt2, mulOk_lit, sw]⟩
    · exact ⟨[some d, some (.tup [.int x, .int y]), none, some (.str tSkip), some (.int k)], rfl, by simp [e_var, e_cst, e_tup, e_lst, e_bin, e_neg, e_cmp, e_is, e_chain, e_and, e_or, e_not, e_ife, e_idx, e_slc, e_rev, e_cat, e_dg1, e_dg2, e_tg1, e_tg2, e_tix, e_dcp, dgD, tgD, txD, dcpD, cpDct, revD, e_call, e_bi, e_isi, e_mth, e_fld, e_isx, e_lc, e_dct, xs_nil, xs_cons, xo_none, xo_some, ec_nil, ec_cons, s_asg, s_par, s_par3, s_setIx, s_aug, s_expr, s_ret, s_retN, s_ife, s_for, s_whl, s_pass, s_brk, s_cont, s_rais, s_try, ss_nil, ss_cons, e_T, i_seq, i_rng1, i_rng2, i_enum, of_some, bd_ok, bd_err, fo_ok, fo_err, sq_nx, sq_rt, sq_bk, sq_ct, sq_err, lp_nx, lp_ct, lp_bk, lp_rt, lp_err, tr_ok, tr_err, br_t, br_f, sbr_t, sbr_f, en_some, so_some, ag_some, go_t, tn_some, tu_ap, fr_st, fr_lv, fr_lvE, end_rt, end_nx, end_err, negD, optI, rg1, rg2, tupD, ix0, ix1, ix2, ix3, ix4, ix5, ix6, ix7, ix8, ix9, ix10, ix11, ix12, ix13, ix14, ix15, ixm1, ixm2, isiV, idxD, seqD, opB, opA, opC, truD, setT, setTs, eqD, full, frz, D.sub, D.subL, D.eqv, D.eqvL, D.depth, D.depthL, biD, permD, opI, dctD, isKey, newL, catD, SZ, isiD, tyOk, lstD, setD, mtD, okM, srcD, mkL, slcD, mkDct, putKD, getK, kEq, ofB_some, fin_pl, finX_pl, pl_non, pl_bl, pl_int, pl_str, pl_tup, pl_lst, pl_ro, plL_nil, plL_cons, fin_k, lg_lt, lg_lt2, mulOk_lit], by simp [e_var, e_cst, e_tup, e_lst, e_bin, e_neg, e_cmp, e_is, e_chain, e_and, e_or, e_not, e_ife, e_idx, e_slc, e_rev, e_cat, e_dg1, e_dg2, e_tg1, e_tg2, e_tix, e_dcp, dgD, tgD, txD, dcpD, cpDct, revD, e_call, e_bi, e_isi, e_mth, e_fld, e_isx, e_lc, e_dct, xs_nil, xs_cons, xo_none, xo_some, ec_nil, ec_cons, s_asg, s_par, s_par3, s_setIx, s_aug, s_expr, s_ret, s_retN, s_ife, s_for, s_whl, s_pass, s_brk, s_cont, s_rais, s_try, ss_nil, ss_cons, e_T, i_seq, i_rng1, i_rng2, i_enum, of_some, bd_ok, bd_err, fo_ok, fo_err, sq_nx, sq_rt, sq_bk, sq_ct, sq_err, lp_nx, lp_ct, lp_bk, lp_rt, lp_err, tr_ok, tr_err, br_t, br_f, sbr_t, sbr_f, en_some, so_some, ag_some, go_t, tn_some, tu_ap, fr_st, fr_lv, fr_lvE, end_rt, end_nx, end_err, negD, optI, rg1, rg2, tupD, ix0, ix1, ix2, ix3, ix4, ix5, ix6, ix7, ix8, ix9, ix10, ix11, ix12, ix13, ix14, ix15, ixm1, ixm2, isiV, idxD, seqD, opB, opA, opC, truD, setT, setTs, eqD, full, frz, D.sub, D.subL, D.eqv, D.eqvL, D.depth, D.depthL, biD, permD, opI, dctD, isKey, newL, catD, SZ, isiD, tyOk, lstD, setD, mtD, okM, srcD, mkL, slcD, mkDct, putKD, getK, kEq, ofB_some, fin_pl, finX_pl, pl_non, pl_bl, pl_int, pl_str, pl_tup, pl_lst, pl_ro, plL_nil, plL_cons, fin_k, lg_lt, lg_lt2, mulOk_lit, sw]⟩
    · exact ⟨[some d, some (.tup [.int x, .int y]), none, some (.str tLeft), some (.tup [.int u, .int v])], rfl, by simp [e_var, e_cst, e_tup, e_lst, e_bin, e_neg, e_cmp, e_is, e_chain, e_and, e_or, e_not, e_ife, e_idx, e_slc, e_rev, e_cat, e_dg1, e_dg2, e_tg1, e_tg2, e_tix, e_dcp, dgD, tgD, txD, dcpD, cpDct, revD, e_call, e_bi, e_isi, e_mth, e_fld, e_isx, e_lc, e_dct, xs_nil, xs_cons, xo_none, xo_some, ec_nil, ec_cons, s_asg, s_par, s_par3, s_setIx, s_aug, s_expr, s_ret, s_retN, s_ife, s_for, s_whl, s_pass, s_brk, s_cont, s_rais, s_try, ss_nil, ss_cons, e_T, i_seq, i_rng1, i_rng2, i_enum, of_some, bd_ok, bd_err, fo_ok, fo_err, sq_nx, sq_rt, sq_bk, sq_ct, sq_err, lp_nx, lp_ct, lp_bk, lp_rt, lp_err, tr_ok, tr_err, br_t, br_f, sbr_t, sbr_f, en_some, so_some, ag_some, go_t, tn_some, tu_ap, fr_st, fr_lv, fr_lvE, end_rt, end_nx, end_err, negD, optI, rg1, rg2, tupD, ix0, ix1, ix2, ix3, ix4, ix5, ix6, ix7, ix8, ix9, ix10, ix11, ix12, ix13, ix14, ix15, ixm1, ixm2, isiV, idxD, seqD, opB, opA, opC, truD, setT, setTs, eqD, full, frz, D.sub, D.subL, D.eqv, D.eqvL, D.depth, D.depthL, biD, permD, opI, dctD, isKey, newL, catD, SZ, isiD, tyOk, lstD, setD, mtD, okM, srcD, mkL, slcD, mkDct, putKD, getK, kEq, ofB_some, fin_pl, finX_pl, pl_non, pl_bl, pl_int, pl_str, pl_tup, pl_lst, pl_ro, plL_nil, plL_cons, fin_k, lg_lt, lg_lt2, mulOk_lit], by simp [e_var, e_cst, e_tup, e_lst, e_bin, e_neg, e_cmp, e_is, e_chain, e_and, e_or, e_not, e_ife, e_idx, e_slc, e_rev, e_cat, e_dg1, e_dg2, e_tg1, e_tg2, e_tix, e_dcp, dgD, tgD, txD, dcpD, cpDct, revD, e_call, e_bi, e_isi, e_mth, e_fld, e_isx, e_lc, e_dct, xs_nil, xs_cons, xo_none, xo_some, ec_nil, ec_cons, s_asg, s_par, s_par3, s_setIx, s_aug, s_expr, s_ret, s_retN, s_ife, s_for, s_whl, s_pass, s_brk, s_cont, s_rais, s_try, ss_nil, ss_cons, e_T, i_seq, i_rng1, i_rng2, i_enum, of_some, bd_ok, bd_err, fo_ok, fo_err, sq_nx, sq_rt, sq_bk, sq_ct, sq_err, lp_nx, lp_ct, lp_bk, lp_rt, lp_err, tr_ok, tr_err, br_t, br_f, sbr_t, sbr_f, en_some, so_some, ag_some, go_t, tn_some, tu_ap, fr_st, fr_lv, fr_lvE, end_rt, end_nx, end_err, negD, optI, rg1, rg2, tupD, ix0, ix1, ix2, ix3, ix4, ix5, ix6, ix7, ix8, ix9, ix10, ix11, ix12, ix13, ix14, ix15, ixm1, ixm2, isiV, idxD, seqD, opB, opA, opC, truD, setT, setTs, eqD, full, frz, D.sub, D.subL, D.eqv, D.eqvL, D.depth, D.depthL, biD, permD, opI, dctD, isKey, newL, catD, SZ, isiD, tyOk, lstD, setD, mtD, okM, srcD, mkL, slcD, mkDct, putKD, getK, kEq, ofB_some, fin_pl, finX_pl, pl_non, pl_bl, pl_int, pl_str, pl_tup, pl_lst, pl_ro, plL_nil, plL_cons, fin_k, lg_lt, lg_lt2, mulOk_lit, sw]⟩
    · exact ⟨[some d, some (.tup [.int x, .int y]), none, some (.str tRight), some (.tup [.int u, .int v])], rfl, by simp [e_var, e_cst, e_tup, e_lst, e_bin, e_neg, e_cmp, e_is, e_chain, e_and, e_or, e_not, e_ife, e_idx, e_slc, e_rev, e_cat, e_dg1, e_dg2, e_tg1, e_tg2, e_tix, e_dcp, dgD, tgD, txD, dcpD, cpDct, revD, e_call, e_bi, e_isi, e_mth, e_fld, e_isx, e_lc, e_dct, xs_nil, xs_cons, xo_none, xo_some, ec_nil, ec_cons, s_asg, s_par, s_par3, s_setIx, s_aug, s_expr, s_ret, s_retN, s_ife, s_for, s_whl, s_pass, s_brk, s_cont, s_rais, s_try, ss_nil, ss_cons, e_T, i_seq, i_rng1, i_rng2, i_enum, of_some, bd_ok, bd_err, fo_ok, fo_err, sq_nx, sq_rt, sq_bk, sq_ct, sq_err, lp_nx, lp_ct, lp_bk, lp_rt, lp_err, tr_ok, tr_err, br_t, br_f, sbr_t, sbr_f, en_some, so_some, ag_some, go_t, tn_some, tu_ap, fr_st, fr_lv, fr_lvE, end_rt, end_nx, end_err, negD, optI, rg1, rg2, tupD, ix0, ix1, ix2, ix3, ix4, ix5, ix6, ix7, ix8, ix9, ix10, ix11, ix12, ix13, ix14, ix15, ixm1, ixm2, isiV, idxD, seqD, opB, opA, opC, truD, setT, setTs, eqD, full, frz, D.sub, D.subL, D.eqv, D.eqvL, D.depth, D.depthL, biD, permD, opI, dctD, isKey, newL, catD, SZ, isiD, tyOk, lstD, setD, mtD, okM, srcD, mkL, slcD, mkDct, putKD, getK, kEq, ofB_some, fin_pl, finX_pl, pl_non, pl_bl, pl_int, pl_str, pl_tup, pl_lst, pl_ro, plL_nil, plL_cons, fin_k, lg_lt, lg_lt2, mulOk_lit], by simp [e_var, e_cst, e_tup, e_lst, e_bin, e_neg, e_cmp, e_is, e_chain, e_and, e_or, e_not, e_ife, e_idx, e_slc, e_rev, e_cat, e_dg1, e_dg2, e_tg1, e_tg2, e_tix, e_dcp, dgD, tgD, txD, dcpD, cpDct, revD, e_call, e_bi, e_isi, e_mth, e_fld, e_isx, e_lc, e_dct, xs_nil, xs_cons, xo_none, xo_some, ec_nil, ec_cons, s_asg, s_par, s_par3, s_setIx, s_aug, s_expr, s_ret, s_retN, s_ife, s_for, s_whl, s_pass, s_brk, s_cont, s_rais, s_try, ss_nil, ss_cons, e_T, i_seq, i_rng1, i_rng2, i_enum, of_some, bd_ok, bd_err, fo_ok, fo_err, sq_nx, sq_rt, sq_bk, sq_ct, sq_err, lp_nx, lp_ct, lp_bk, lp_rt, lp_err, tr_ok, tr_err, br_t, br_f, sbr_t, sbr_f, en_some, so_some, ag_some, go_t, tn_some, tu_ap, fr_st, fr_lv, fr_lvE, end_rt, end_nx, end_err, negD, optI, rg1, rg2, tupD, ix0, ix1, ix2, ix3, ix4, ix5, ix6, ix7, ix8, ix9, ix10, ix11, ix12, ix13, ix14, ix15, ixm1, ixm2, isiV, idxD, seqD, opB, opA, opC, truD, setT, setTs, eqD, full, frz, D.sub, D.subL, D.eqv, D.eqvL, D.depth, D.depthL, biD, permD, opI, dctD, isKey, newL, catD, SZ, isiD, tyOk, lstD, setD, mtD, okM, srcD, mkL, slcD, mkDct, putKD, getK, kEq, ofB_some, fin_pl, finX_pl, pl_non, pl_bl, pl_int, pl_str, pl_tup, pl_lst, pl_ro, plL_nil, plL_cons, fin_k, lg_lt, lg_lt2, mulOk_lit, sw]⟩
  have p1 := sts_pl (sw_sts hs)
  have l0 : (ss.map sw).length ≤ 10000000 := by rw [List.length_map]; omega
  have l1 : (ss.map sw).length + 1 ≤ 10000000 := by rw [List.length_map]; omega
  refine call_run (F := F8) rfl rfl ?_
  generalize ss.map sw = q at *
  simp [F8, b8, e_var, e_cst, e_tup, e_lst, e_bin, e_neg, e_cmp, e_is, e_chain, e_and, e_or, e_not, e_ife, e_idx, e_slc, e_rev, e_cat, e_dg1, e_dg2, e_tg1, e_tg2, e_tix, e_dcp, dgD, tgD, txD, dcpD, cpDct, revD, e_call, e_bi, e_isi, e_mth, e_fld, e_isx, e_lc, e_dct, xs_nil, xs_cons, xo_none, xo_some, ec_nil, ec_cons, s_asg, s_par, s_par3, s_setIx, s_aug, s_expr, s_ret, s_retN, s_ife, s_for, s_whl, s_pass, s_brk, s_cont, s_rais, s_try, ss_nil, ss_cons, e_T, i_seq, i_rng1, i_rng2, i_enum, of_some, bd_ok, bd_err, fo_ok, fo_err, sq_nx, sq_rt, sq_bk, sq_ct, sq_err, lp_nx, lp_ct, lp_bk, lp_rt, lp_err, tr_ok, tr_err, br_t, br_f, sbr_t, sbr_f, en_some, so_some, ag_some, go_t, tn_some, tu_ap, fr_st, fr_lv, fr_lvE, end_rt, end_nx, end_err, negD, optI, rg1, rg2, tupD, ix0, ix1, ix2, ix3, ix4, ix5, ix6, ix7, ix8, ix9, ix10, ix11, ix12, ix13, ix14, ix15, ixm1, ixm2, isiV, idxD, seqD, opB, opA, opC, truD, setT, setTs, eqD, full, frz, D.sub, D.subL, D.eqv, D.eqvL, D.depth, D.depthL, biD, permD, opI, dctD, isKey, newL, catD, SZ, isiD, tyOk, lstD, setD, mtD, okM, srcD, mkL, slcD, mkDct, putKD, getK, kEq, ofB_some, fin_pl, finX_pl, pl_non, pl_bl, pl_int, pl_str, pl_tup, pl_lst, pl_ro, plL_nil, plL_cons, fin_k, lg_lt, lg_lt2, mulOk_lit, e1, lc, l0, l1, p1, plL_app]
/-! where it is found -/
def fndF (ss ws : List D) (x : D) : Option D := match x with
  | .int j => if D.eqvL (cutD ss (some j) (some (j + ws.length))) ws = true then some (.int j) else none
  | _ => none
def fnd (ss ws : List D) : List D := if ws = [] then [] else (rngD 0 ((ss.length : Int) - ws.length + 1)).filterMap (fndF ss ws)
theorem fnd_ints (ss ws : List D) : ∀ d ∈ fnd ss ws, ∃ i : Int, d = .int i := by
  intro d hd
  unfold fnd at hd
  split at hd
  · cases hd
  · obtain ⟨x, hx, he⟩ := List.mem_filterMap.mp hd
    unfold fndF at he
    split at he
    · split at he
      · cases he; exact ⟨_, rfl⟩
      · cases he
    · cases he
theorem ints_pl {xs : List D} (h : ∀ d ∈ xs, ∃ i : Int, d = .int i) : D.plL xs = true := plL_all fun d hd => by
  obtain ⟨i, rfl⟩ := h d hd
  rfl
theorem ints_cl : ∀ {xs : List D}, (∀ d ∈ xs, ∃ i : Int, d = .int i) → clL xs = true ∧ wtL xs ≤ xs.length
  | [], _ => ⟨by simp [clL], by simp [wtL]⟩
  | x :: r, h => by
    obtain ⟨h1, h2⟩ := ints_cl (xs := r) fun d hd => h d (List.mem_cons_of_mem _ hd)
    obtain ⟨i, rfl⟩ := h x (List.mem_cons_self ..)
    have : wt (.int i) = 1 := by simp [wt]
    exact ⟨by simp [clL, cl, h1], by rw [wtL, List.length_cons, this]; omega⟩
theorem fnd_len (ss ws : List D) : (fnd ss ws).length ≤ ss.length := by
  unfold fnd
  split
  · simp
  · rename_i h
    have : 0 < ws.length := List.length_pos_iff.mpr h
    refine Nat.le_trans (List.length_filterMap_le _ _) ?_
    simp only [rngD, List.length_map, List.length_range]
    omega
theorem eq_lsts {a b : List D} (ha : Sts a) (hb : Sts b) (st : Sto) : opC .eq (.tup a) (.tup b) st = some (D.eqvL a b) := by
  show eqD st (.tup a) (.tup b) = _
  unfold eqD
  rw [full_sc (by simpa [D.sc] using (sts_sc ha).1), full_sc (by simpa [D.sc] using (sts_sc hb).1)]
  have h1 := (sts_sc ha).2
  have hd : min (D.tup a).depth (D.tup b).depth ≤ 60 := by
    simp only [D.depth]; omega
  simp only
  rw [if_pos hd]
  simp [D.eqv]
theorem ec_one {C : Cal} {e : Ex} {ρ : Env} {st : Sto} {b : Bool} (h : evE C e ρ st = .ok (.bl b) st) : evCs C [e] ρ st = .ok b st := by
  rw [ec_cons, h]
  cases b <;> simp [e_var, e_cst, e_tup, e_lst, e_bin, e_neg, e_cmp, e_is, e_chain, e_and, e_or, e_not, e_ife, e_idx, e_slc, e_rev, e_cat, e_dg1, e_dg2, e_tg1, e_tg2, e_tix, e_dcp, dgD, tgD, txD, dcpD, cpDct, revD, e_call, e_bi, e_isi, e_mth, e_fld, e_isx, e_lc, e_dct, xs_nil, xs_cons, xo_none, xo_some, ec_nil, ec_cons, s_asg, s_par, s_par3, s_setIx, s_aug, s_expr, s_ret, s_retN, s_ife, s_for, s_whl, s_pass, s_brk, s_cont, s_rais, s_try, ss_nil, ss_cons, e_T, i_seq, i_rng1, i_rng2, i_enum, of_some, bd_ok, bd_err, fo_ok, fo_err, sq_nx, sq_rt, sq_bk, sq_ct, sq_err, lp_nx, lp_ct, lp_bk, lp_rt, lp_err, tr_ok, tr_err, br_t, br_f, sbr_t, sbr_f, en_some, so_some, ag_some, go_t, tn_some, tu_ap, fr_st, fr_lv, fr_lvE, end_rt, end_nx, end_err, negD, optI, rg1, rg2, tupD, ix0, ix1, ix2, ix3, ix4, ix5, ix6, ix7, ix8, ix9, ix10, ix11, ix12, ix13, ix14, ix15, ixm1, ixm2, isiV, idxD, seqD, opB, opA, opC, truD, setT, setTs, eqD, full, frz, D.sub, D.subL, D.eqv, D.eqvL, D.depth, D.depthL, biD, permD, opI, dctD, isKey, newL, catD, SZ, isiD, tyOk, lstD, setD, mtD, okM, srcD, mkL, slcD, mkDct, putKD, getK, kEq, ofB_some, fin_pl, finX_pl, pl_non, pl_bl, pl_int, pl_str, pl_tup, pl_lst, pl_ro, plL_nil, plL_cons, fin_k, lg_lt, lg_lt2, mulOk_lit]
theorem fnd_one {C : Cal} {st : Sto} {ss ws : List D} (hs : Sts ss) (hw : Sts ws) (j : Int) {ρ : Env} {a b z : Ex} (h1 : evE C a ρ st = .ok (.tup ss) st) (h2 : evE C z ρ st = .ok (.int j) st) (h3 : evE C b ρ st = .ok (.int (j + ws.length)) st) {w : Ex} (h4 : evE C w ρ st = .ok (.tup ws) st) :
    evE C (.cmp .eq (.slc false a (some z) (some b)) w) ρ st = .ok (.bl (D.eqvL (cutD ss (some j) (some (j + ws.length))) ws)) st := by
  have e4 := eq_lsts (cut_sts hs (some j) (some (j + ws.length))).1 hw st
  have e1 : evE C (.slc false a (some z) (some b)) ρ st = .ok (.tup (cutD ss (some j) (some (j + ws.length)))) st := by
    simp [e_var, e_cst, e_tup, e_lst, e_bin, e_neg, e_cmp, e_is, e_chain, e_and, e_or, e_not, e_ife, e_idx, e_slc, e_rev, e_cat, e_dg1, e_dg2, e_tg1, e_tg2, e_tix, e_dcp, dgD, tgD, txD, dcpD, cpDct, revD, e_call, e_bi, e_isi, e_mth, e_fld, e_isx, e_lc, e_dct, xs_nil, xs_cons, xo_none, xo_some, ec_nil, ec_cons, s_asg, s_par, s_par3, s_setIx, s_aug, s_expr, s_ret, s_retN, s_ife, s_for, s_whl, s_pass, s_brk, s_cont, s_rais, s_try, ss_nil, ss_cons, e_T, i_seq, i_rng1, i_rng2, i_enum, of_some, bd_ok, bd_err, fo_ok, fo_err, sq_nx, sq_rt, sq_bk, sq_ct, sq_err, lp_nx, lp_ct, lp_bk, lp_rt, lp_err, tr_ok, tr_err, br_t, br_f, sbr_t, sbr_f, en_some, so_some, ag_some, go_t, tn_some, tu_ap, fr_st, fr_lv, fr_lvE, end_rt, end_nx, end_err, negD, optI, rg1, rg2, tupD, ix0, ix1, ix2, ix3, ix4, ix5, ix6, ix7, ix8, ix9, ix10, ix11, ix12, ix13, ix14, ix15, ixm1, ixm2, isiV, idxD, seqD, opB, opA, opC, truD, setT, setTs, eqD, full, frz, D.sub, D.subL, D.eqv, D.eqvL, D.depth, D.depthL, biD, permD, opI, dctD, isKey, newL, catD, SZ, isiD, tyOk, lstD, setD, mtD, okM, srcD, mkL, slcD, mkDct, putKD, getK, kEq, ofB_some, fin_pl, finX_pl, pl_non, pl_bl, pl_int, pl_str, pl_tup, pl_lst, pl_ro, plL_nil, plL_cons, fin_k, lg_lt, lg_lt2, mulOk_lit, h1, h2, h3]
  rw [e_cmp, e1, bd_ok, h4, bd_ok, e4]
  rfl
theorem s_occ (n : Nat) (st : Sto) {d e : D} {ss ws : List D} (h : Pl d ss) (k : Pl e ws) : callD fds anc (n + 5) 2 [d, e] st = .ok (.tup (fnd ss ws)) st := by
  have e1 := s_steps n st h
  have e2 := s_steps n st k
  have hs := pl_sts h
  have hw := pl_sts k
  have hl := pl_len h
  have wl := pl_len k
  have fp := ints_pl (fnd_ints ss ws)
  have fl := fnd_len ss ws
  refine call_run (F := F2) rfl rfl ?_
  by_cases h0 : ws = []
  · subst h0
    simp [F2, b2, e_var, e_cst, e_tup, e_lst, e_bin, e_neg, e_cmp, e_is, e_chain, e_and, e_or, e_not, e_ife, e_idx, e_slc, e_rev, e_cat, e_dg1, e_dg2, e_tg1, e_tg2, e_tix, e_dcp, dgD, tgD, txD, dcpD, cpDct, revD, e_call, e_bi, e_isi, e_mth, e_fld, e_isx, e_lc, e_dct, xs_nil, xs_cons, xo_none, xo_some, ec_nil, ec_cons, s_asg, s_par, s_par3, s_setIx, s_aug, s_expr, s_ret, s_retN, s_ife, s_for, s_whl, s_pass, s_brk, s_cont, s_rais, s_try, ss_nil, ss_cons, e_T, i_seq, i_rng1, i_rng2, i_enum, of_some, bd_ok, bd_err, fo_ok, fo_err, sq_nx, sq_rt, sq_bk, sq_ct, sq_err, lp_nx, lp_ct, lp_bk, lp_rt, lp_err, tr_ok, tr_err, br_t, br_f, sbr_t, sbr_f, en_some, so_some, ag_some, go_t, tn_some, tu_ap, fr_st, fr_lv, fr_lvE, end_rt, end_nx, end_err, negD, optI, rg1, rg2, tupD, ix0, ix1, ix2, ix3, ix4, ix5, ix6, ix7, ix8, ix9, ix10, ix11, ix12, ix13, ix14, ix15, ixm1, ixm2, isiV, idxD, seqD, opB, opA, opC, truD, setT, setTs, eqD, full, frz, D.sub, D.subL, D.eqv, D.eqvL, D.depth, D.depthL, biD, permD, opI, dctD, isKey, newL, catD, SZ, isiD, tyOk, lstD, setD, mtD, okM, srcD, mkL, slcD, mkDct, putKD, getK, kEq, ofB_some, fin_pl, finX_pl, pl_non, pl_bl, pl_int, pl_str, pl_tup, pl_lst, pl_ro, plL_nil, plL_cons, fin_k, lg_lt, lg_lt2, mulOk_lit, setTs, e1, e2, fnd]
  · have lc : R.lc (cal (n + 4)) (.nm 5) [.cmp .eq (.slc false (.var 2) (some (.var 5)) (some (.bin .add (.var 5) (.var 4)))) (.var 3)] (.var 5) [5] (.st (rngD 0 ((ss.length : Int) - ws.length + 1))) [some d, some e, some (.tup ss), some (.tup ws), some (.int ws.length), none] st = .ok (fnd ss ws) st := by
      unfold fnd
      rw [if_neg h0]
      refine lc_fm _ fun x hx => ?_
      obtain ⟨j, rfl⟩ : ∃ j : Int, x = .int j := by
        obtain ⟨j, _, rfl⟩ := List.mem_map.mp hx
        exact ⟨_, rfl⟩
      refine ⟨[some d, some e, some (.tup ss), some (.tup ws), some (.int ws.length), some (.int j)], rfl, ?_⟩
      have e5 := ec_one (fnd_one (C := cal (n + 4)) (st := st) hs hw j (ρ := [some d, some e, some (.tup ss), some (.tup ws), some (.int ws.length), some (.int j)]) (a := .var 2) (z := .var 5) (b := .bin .add (.var 5) (.var 4)) (w := .var 3) (by simp [e_var, e_cst, e_tup, e_lst, e_bin, e_neg, e_cmp, e_is, e_chain, e_and, e_or, e_not, e_ife, e_idx, e_slc, e_rev, e_cat, e_dg1, e_dg2, e_tg1, e_tg2, e_tix, e_dcp, dgD, tgD, txD, dcpD, cpDct, revD, e_call, e_bi, e_isi, e_mth, e_fld, e_isx, e_lc, e_dct, xs_nil, xs_cons, xo_none, xo_some, ec_nil, ec_cons, s_asg, s_par, s_par3, s_setIx, s_aug, s_expr, s_ret, s_retN, s_ife, s_for, s_whl, s_pass, s_brk, s_cont, s_rais, s_try, ss_nil, ss_cons, e_T, i_seq, i_rng1, i_rng2, i_enum, of_some, bd_ok, bd_err, fo_ok, fo_err, sq_nx, sq_rt, sq_bk, sq_ct, sq_err, lp_nx, lp_ct, lp_bk, lp_rt, lp_err, tr_ok, tr_err, br_t, br_f, sbr_t, sbr_f, en_some, so_some, ag_some, go_t, tn_some, tu_ap, fr_st, fr_lv, fr_lvE, end_rt, end_nx, end_err, negD, optI, rg1, rg2, tupD, ix0, ix1, ix2, ix3, ix4, ix5, ix6, ix7, ix8, ix9, ix10, ix11, ix12, ix13, ix14, ix15, ixm1, ixm2, isiV, idxD, seqD, opB, opA, opC, truD, setT, setTs, eqD, full, frz, D.sub, D.subL, D.eqv, D.eqvL, D.depth, D.depthL, biD, permD, opI, dctD, isKey, newL, catD, SZ, isiD, tyOk, lstD, setD, mtD, okM, srcD, mkL, slcD, mkDct, putKD, getK, kEq, ofB_some, fin_pl, finX_pl, pl_non, pl_bl, pl_int, pl_str, pl_tup, pl_lst, pl_ro, plL_nil, plL_cons, fin_k, lg_lt, lg_lt2, mulOk_lit]) (by simp [e_var, e_cst, e_tup, e_lst, e_bin, e_neg, e_cmp, e_is, e_chain, e_and, e_or, e_not, e_ife, e_idx, e_slc, e_rev, e_cat, e_dg1, e_dg2, e_tg1, e_tg2, e_tix, e_dcp, dgD, tgD, txD, dcpD, cpDct, revD, e_call, e_bi, e_isi, e_mth, e_fld, e_isx, e_lc, e_dct, xs_nil, xs_cons, xo_none, xo_some, ec_nil, ec_cons, s_asg, s_par, s_par3, s_setIx, s_aug, s_expr, s_ret, s_retN, s_ife, s_for, s_whl, s_pass, s_brk, s_cont, s_rais, s_try, ss_nil, ss_cons, e_T, i_seq, i_rng1, i_rng2, i_enum, of_some, bd_ok, bd_err, fo_ok, fo_err, sq_nx, sq_rt, sq_bk, sq_ct, sq_err, lp_nx, lp_ct, lp_bk, lp_rt, lp_err, tr_ok, tr_err, br_t, br_f, sbr_t, sbr_f, en_some, so_some, ag_some, go_t, tn_some, tu_ap, fr_st, fr_lv, fr_lvE, end_rt, end_nx, end_err, negD, optI, rg1, rg2, tupD, ix0, ix1, ix2, ix3, ix4, ix5, ix6, ix7, ix8, ix9, ix10, ix11, ix12, ix13, ix14, ix15, ixm1, ixm2, isiV, idxD, seqD, opB, opA, opC, truD, setT, setTs, eqD, full, frz, D.sub, D.subL, D.eqv, D.eqvL, D.depth, D.depthL, biD, permD, opI, dctD, isKey, newL, catD, SZ, isiD, tyOk, lstD, setD, mtD, okM, srcD, mkL, slcD, mkDct, putKD, getK, kEq, ofB_some, fin_pl, finX_pl, pl_non, pl_bl, pl_int, pl_str, pl_tup, pl_lst, pl_ro, plL_nil, plL_cons, fin_k, lg_lt, lg_lt2, mulOk_lit]) (by simp [e_var, e_cst, e_tup, e_lst, e_bin, e_neg, e_cmp, e_is, e_chain, e_and, e_or, e_not, e_ife, e_idx, e_slc, e_rev, e_cat, e_dg1, e_dg2, e_tg1, e_tg2, e_tix, e_dcp, dgD, tgD, txD, dcpD, cpDct, revD, e_call, e_bi, e_isi, e_mth, e_fld, e_isx, e_lc, e_dct, xs_nil, xs_cons, xo_none, xo_some, ec_nil, ec_cons, s_asg, s_par, s_par3, s_setIx, s_aug, s_expr, s_ret, s_retN, s_ife, s_for, s_whl, s_pass, s_brk, s_cont, s_rais, s_try, ss_nil, ss_cons, e_T, i_seq, i_rng1, i_rng2, i_enum, of_some, bd_ok, bd_err, fo_ok, fo_err, sq_nx, sq_rt, sq_bk, sq_ct, sq_err, lp_nx, lp_ct, lp_bk, lp_rt, lp_err, tr_ok, tr_err, br_t, br_f, sbr_t, sbr_f, en_some, so_some, ag_some, go_t, tn_some, tu_ap, fr_st, fr_lv, fr_lvE, end_rt, end_nx, end_err, negD, optI, rg1, rg2, tupD, ix0, ix1, ix2, ix3, ix4, ix5, ix6, ix7, ix8, ix9, ix10, ix11, ix12, ix13, ix14, ix15, ixm1, ixm2, isiV, idxD, seqD, opB, opA, opC, truD, setT, setTs, eqD, full, frz, D.sub, D.subL, D.eqv, D.eqvL, D.depth, D.depthL, biD, permD, opI, dctD, isKey, newL, catD, SZ, isiD, tyOk, lstD, setD, mtD, okM, srcD, mkL, slcD, mkDct, putKD, getK, kEq, ofB_some, fin_pl, finX_pl, pl_non, pl_bl, pl_int, pl_str, pl_tup, pl_lst, pl_ro, plL_nil, plL_cons, fin_k, lg_lt, lg_lt2, mulOk_lit]) (by simp [e_var, e_cst, e_tup, e_lst, e_bin, e_neg, e_cmp, e_is, e_chain, e_and, e_or, e_not, e_ife, e_idx, e_slc, e_rev, e_cat, e_dg1, e_dg2, e_tg1, e_tg2, e_tix, e_dcp, dgD, tgD, txD, dcpD, cpDct, revD, e_call, e_bi, e_isi, e_mth, e_fld, e_isx, e_lc, e_dct, xs_nil, xs_cons, xo_none, xo_some, ec_nil, ec_cons, s_asg, s_par, s_par3, s_setIx, s_aug, s_expr, s_ret, s_retN, s_ife, s_for, s_whl, s_pass, s_brk, s_cont, s_rais, s_try, ss_nil, ss_cons, e_T, i_seq, i_rng1, i_rng2, i_enum, of_some, bd_ok, bd_err, fo_ok, fo_err, sq_nx, sq_rt, sq_bk, sq_ct, sq_err, lp_nx, lp_ct, lp_bk, lp_rt, lp_err, tr_ok, tr_err, br_t, br_f, sbr_t, sbr_f, en_some, so_some, ag_some, go_t, tn_some, tu_ap, fr_st, fr_lv, fr_lvE, end_rt, end_nx, end_err, negD, optI, rg1, rg2, tupD, ix0, ix1, ix2, ix3, ix4, ix5, ix6, ix7, ix8, ix9, ix10, ix11, ix12, ix13, ix14, ix15, ixm1, ixm2, isiV, idxD, seqD, opB, opA, opC, truD, setT, setTs, eqD, full, frz, D.sub, D.subL, D.eqv, D.eqvL, D.depth, D.depthL, biD, permD, opI, dctD, isKey, newL, catD, SZ, isiD, tyOk, lstD, setD, mtD, okM, srcD, mkL, slcD, mkDct, putKD, getK, kEq, ofB_some, fin_pl, finX_pl, pl_non, pl_bl, pl_int, pl_str, pl_tup, pl_lst, pl_ro, plL_nil, plL_cons, fin_k, lg_lt, lg_lt2, mulOk_lit]))
      cases hb : D.eqvL (cutD ss (some j) (some (j + ws.length))) ws with
      | true => exact .inr ⟨.int j, by simp [fndF, hb], by rw [e5, hb], by simp [e_var, e_cst, e_tup, e_lst, e_bin, e_neg, e_cmp, e_is, e_chain, e_and, e_or, e_not, e_ife, e_idx, e_slc, e_rev, e_cat, e_dg1, e_dg2, e_tg1, e_tg2, e_tix, e_dcp, dgD, tgD, txD, dcpD, cpDct, revD, e_call, e_bi, e_isi, e_mth, e_fld, e_isx, e_lc, e_dct, xs_nil, xs_cons, xo_none, xo_some, ec_nil, ec_cons, s_asg, s_par, s_par3, s_setIx, s_aug, s_expr, s_ret, s_retN, s_ife, s_for, s_whl, s_pass, s_brk, s_cont, s_rais, s_try, ss_nil, ss_cons, e_T, i_seq, i_rng1, i_rng2, i_enum, of_some, bd_ok, bd_err, fo_ok, fo_err, sq_nx, sq_rt, sq_bk, sq_ct, sq_err, lp_nx, lp_ct, lp_bk, lp_rt, lp_err, tr_ok, tr_err, br_t, br_f, sbr_t, sbr_f, en_some, so_some, ag_some, go_t, tn_some, tu_ap, fr_st, fr_lv, fr_lvE, end_rt, end_nx, end_err, negD, optI, rg1, rg2, tupD, ix0, ix1, ix2, ix3, ix4, ix5, ix6, ix7, ix8, ix9, ix10, ix11, ix12, ix13, ix14, ix15, ixm1, ixm2, isiV, idxD, seqD, opB, opA, opC, truD, setT, setTs, eqD, full, frz, D.sub, D.subL, D.eqv, D.eqvL, D.depth, D.depthL, biD, permD, opI, dctD, isKey, newL, catD, SZ, isiD, tyOk, lstD, setD, mtD, okM, srcD, mkL, slcD, mkDct, putKD, getK, kEq, ofB_some, fin_pl, finX_pl, pl_non, pl_bl, pl_int, pl_str, pl_tup, pl_lst, pl_ro, plL_nil, plL_cons, fin_k, lg_lt, lg_lt2, mulOk_lit]⟩
      | false => exact .inl ⟨by simp [fndF, hb], by rw [e5, hb]⟩
    have hp : 0 < ws.length := List.length_pos_iff.mpr h0
    have wb : ((ws.length : Int) == 0) = false := by simpa using h0
    have sm : small62 ((ss.length : Int) - ws.length + 1) = true := by
      by_cases hq : (0 : Int) ≤ (ss.length : Int) - ws.length + 1
      · exact small62_of hq (by omega)
      · have : ((ss.length : Int) - ws.length + 1).natAbs.log2 < 62 := (Nat.log2_lt (by omega)).mpr (by omega)
        unfold small62
        rw [decide_eq_true this, Bool.or_true]
    have l1 : (fnd ss ws).length ≤ 10000000 := by omega
    generalize fnd ss ws = q at *
    simp [F2, b2, e_var, e_cst, e_tup, e_lst, e_bin, e_neg, e_cmp, e_is, e_chain, e_and, e_or, e_not, e_ife, e_idx, e_slc, e_rev, e_cat, e_dg1, e_dg2, e_tg1, e_tg2, e_tix, e_dcp, dgD, tgD, txD, dcpD, cpDct, revD, e_call, e_bi, e_isi, e_mth, e_fld, e_isx, e_lc, e_dct, xs_nil, xs_cons, xo_none, xo_some, ec_nil, ec_cons, s_asg, s_par, s_par3, s_setIx, s_aug, s_expr, s_ret, s_retN, s_ife, s_for, s_whl, s_pass, s_brk, s_cont, s_rais, s_try, ss_nil, ss_cons, e_T, i_seq, i_rng1, i_rng2, i_enum, of_some, bd_ok, bd_err, fo_ok, fo_err, sq_nx, sq_rt, sq_bk, sq_ct, sq_err, lp_nx, lp_ct, lp_bk, lp_rt, lp_err, tr_ok, tr_err, br_t, br_f, sbr_t, sbr_f, en_some, so_some, ag_some, go_t, tn_some, tu_ap, fr_st, fr_lv, fr_lvE, end_rt, end_nx, end_err, negD, optI, rg1, rg2, tupD, ix0, ix1, ix2, ix3, ix4, ix5, ix6, ix7, ix8, ix9, ix10, ix11, ix12, ix13, ix14, ix15, ixm1, ixm2, isiV, idxD, seqD, opB, opA, opC, truD, setT, setTs, eqD, full, frz, D.sub, D.subL, D.eqv, D.eqvL, D.depth, D.depthL, biD, permD, opI, dctD, isKey, newL, catD, SZ, isiD, tyOk, lstD, setD, mtD, okM, srcD, mkL, slcD, mkDct, putKD, getK, kEq, ofB_some, fin_pl, finX_pl, pl_non, pl_bl, pl_int, pl_str, pl_tup, pl_lst, pl_ro, plL_nil, plL_cons, fin_k, lg_lt, lg_lt2, mulOk_lit, setTs, e1, e2, h0, wb, sm, lc, l1, fp]
theorem s_lfound (n : Nat) (st : Sto) {ss ws : List D} (hs : Sts ss) (hw : Sts ws) (hl : ss.length ≤ 100000) (wl : ws.length ≤ 100000) : callD fds anc (n + 1) 24 [.tup ss, .tup ws] st = .ok (.tup (fnd ss ws)) st := by
  have fp := ints_pl (fnd_ints ss ws)
  have fl := fnd_len ss ws
  have sm : small62 ((ss.length : Int) - ws.length + 1) = true := by
    by_cases hq : (0 : Int) ≤ (ss.length : Int) - ws.length + 1
    · exact small62_of hq (by omega)
    · have : ((ss.length : Int) - ws.length + 1).natAbs.log2 < 62 := (Nat.log2_lt (by omega)).mpr (by omega)
      unfold small62
      rw [decide_eq_true this, Bool.or_true]
  have lc : R.lc (cal n) (.nm 2) [.and (.cmp .gt (.bi .len [.var 1]) (.cst (.int 0))) (.cmp .eq (.slc false (.var 0) (some (.var 2)) (some (.bin .add (.var 2) (.bi .len [.var 1])))) (.var 1))] (.var 2) [2] (.st (rngD 0 ((ss.length : Int) - ws.length + 1))) [some (.tup ss), some (.tup ws), none] st = .ok (fnd ss ws) st := by
    by_cases h0 : ws = []
    · subst h0
      have e0 : fnd ss [] = (rngD 0 ((ss.length : Int) - ([] : List D).length + 1)).filterMap fun _ => none := by
        simp [fnd]
      rw [e0]
      refine lc_fm _ fun x hx => ⟨[some (.tup ss), some (.tup []), some x], rfl, .inl ⟨rfl, ?_⟩⟩
      simp [e_var, e_cst, e_tup, e_lst, e_bin, e_neg, e_cmp, e_is, e_chain, e_and, e_or, e_not, e_ife, e_idx, e_slc, e_rev, e_cat, e_dg1, e_dg2, e_tg1, e_tg2, e_tix, e_dcp, dgD, tgD, txD, dcpD, cpDct, revD, e_call, e_bi, e_isi, e_mth, e_fld, e_isx, e_lc, e_dct, xs_nil, xs_cons, xo_none, xo_some, ec_nil, ec_cons, s_asg, s_par, s_par3, s_setIx, s_aug, s_expr, s_ret, s_retN, s_ife, s_for, s_whl, s_pass, s_brk, s_cont, s_rais, s_try, ss_nil, ss_cons, e_T, i_seq, i_rng1, i_rng2, i_enum, of_some, bd_ok, bd_err, fo_ok, fo_err, sq_nx, sq_rt, sq_bk, sq_ct, sq_err, lp_nx, lp_ct, lp_bk, lp_rt, lp_err, tr_ok, tr_err, br_t, br_f, sbr_t, sbr_f, en_some, so_some, ag_some, go_t, tn_some, tu_ap, fr_st, fr_lv, fr_lvE, end_rt, end_nx, end_err, negD, optI, rg1, rg2, tupD, ix0, ix1, ix2, ix3, ix4, ix5, ix6, ix7, ix8, ix9, ix10, ix11, ix12, ix13, ix14, ix15, ixm1, ixm2, isiV, idxD, seqD, opB, opA, opC, truD, setT, setTs, eqD, full, frz, D.sub, D.subL, D.eqv, D.eqvL, D.depth, D.depthL, biD, permD, opI, dctD, isKey, newL, catD, SZ, isiD, tyOk, lstD, setD, mtD, okM, srcD, mkL, slcD, mkDct, putKD, getK, kEq, ofB_some, fin_pl, finX_pl, pl_non, pl_bl, pl_int, pl_str, pl_tup, pl_lst, pl_ro, plL_nil, plL_cons, fin_k, lg_lt, lg_lt2, mulOk_lit]
    · unfold fnd
      rw [if_neg h0]
      refine lc_fm _ fun x hx => ?_
      obtain ⟨j, rfl⟩ : ∃ j : Int, x = .int j := by
        obtain ⟨j, _, rfl⟩ := List.mem_map.mp hx
        exact ⟨_, rfl⟩
      refine ⟨[some (.tup ss), some (.tup ws), some (.int j)], rfl, ?_⟩
      have hp : 0 < ws.length := List.length_pos_iff.mpr h0
      have e5 := fnd_one (C := cal n) (st := st) hs hw j (ρ := [some (.tup ss), some (.tup ws), some (.int j)]) (a := .var 0) (z := .var 2) (b := .bin .add (.var 2) (.bi .len [.var 1])) (w := .var 1) (by simp [e_var, e_cst, e_tup, e_lst, e_bin, e_neg, e_cmp, e_is, e_chain, e_and, e_or, e_not, e_ife, e_idx, e_slc, e_rev, e_cat, e_dg1, e_dg2, e_tg1, e_tg2, e_tix, e_dcp, dgD, tgD, txD, dcpD, cpDct, revD, e_call, e_bi, e_isi, e_mth, e_fld, e_isx, e_lc, e_dct, xs_nil, xs_cons, xo_none, xo_some, ec_nil, ec_cons, s_asg, s_par, s_par3, s_setIx, s_aug, s_expr, s_ret, s_retN, s_ife, s_for, s_whl, s_pass, s_brk, s_cont, s_rais, s_try, ss_nil, ss_cons, e_T, i_seq, i_rng1, i_rng2, i_enum, of_some, bd_ok, bd_err, fo_ok, fo_err, sq_nx, sq_rt, sq_bk, sq_ct, sq_err, lp_nx, lp_ct, lp_bk, lp_rt, lp_err, tr_ok, tr_err, br_t, br_f, sbr_t, sbr_f, en_some, so_some, ag_some, go_t, tn_some, tu_ap, fr_st, fr_lv, fr_lvE, end_rt, end_nx, end_err, negD, optI, rg1, rg2, tupD, ix0, ix1, ix2, ix3, ix4, ix5, ix6, ix7, ix8, ix9, ix10, ix11, ix12, ix13, ix14, ix15, ixm1, ixm2, isiV, idxD, seqD, opB, opA, opC, truD, setT, setTs, eqD, full, frz, D.sub, D.subL, D.eqv, D.eqvL, D.depth, D.depthL, biD, permD, opI, dctD, isKey, newL, catD, SZ, isiD, tyOk, lstD, setD, mtD, okM, srcD, mkL, slcD, mkDct, putKD, getK, kEq, ofB_some, fin_pl, finX_pl, pl_non, pl_bl, pl_int, pl_str, pl_tup, pl_lst, pl_ro, plL_nil, plL_cons, fin_k, lg_lt, lg_lt2, mulOk_lit]) (by simp [e_var, e_cst, e_tup, e_lst, e_bin, e_neg, e_cmp, e_is, e_chain, e_and, e_or, e_not, e_ife, e_idx, e_slc, e_rev, e_cat, e_dg1, e_dg2, e_tg1, e_tg2, e_tix, e_dcp, dgD, tgD, txD, dcpD, cpDct, revD, e_call, e_bi, e_isi, e_mth, e_fld, e_isx, e_lc, e_dct, xs_nil, xs_cons, xo_none, xo_some, ec_nil, ec_cons, s_asg, s_par, s_par3, s_setIx, s_aug, s_expr, s_ret, s_retN, s_ife, s_for, s_whl, s_pass, s_brk, s_cont, s_rais, s_try, ss_nil, ss_cons, e_T, i_seq, i_rng1, i_rng2, i_enum, of_some, bd_ok, bd_err, fo_ok, fo_err, sq_nx, sq_rt, sq_bk, sq_ct, sq_err, lp_nx, lp_ct, lp_bk, lp_rt, lp_err, tr_ok, tr_err, br_t, br_f, sbr_t, sbr_f, en_some, so_some, ag_some, go_t, tn_some, tu_ap, fr_st, fr_lv, fr_lvE, end_rt, end_nx, end_err, negD, optI, rg1, rg2, tupD, ix0, ix1, ix2, ix3, ix4, ix5, ix6, ix7, ix8, ix9, ix10, ix11, ix12, ix13, ix14, ix15, ixm1, ixm2, isiV, idxD, seqD, opB, opA, opC, truD, setT, setTs, eqD, full, frz, D.sub, D.subL, D.eqv, D.eqvL, D.depth, D.depthL, biD, permD, opI, dctD, isKey, newL, catD, SZ, isiD, tyOk, lstD, setD, mtD, okM, srcD, mkL, slcD, mkDct, putKD, getK, kEq, ofB_some, fin_pl, finX_pl, pl_non, pl_bl, pl_int, pl_str, pl_tup, pl_lst, pl_ro, plL_nil, plL_cons, fin_k, lg_lt, lg_lt2, mulOk_lit]) (by simp [e_var, e_cst, e_tup, e_lst, e_bin, e_neg, e_cmp, e_is, e_chain, e_and, e_or, e_not, e_ife, e_idx, e_slc, e_rev, e_cat, e_dg1, e_dg2, e_tg1, e_tg2, e_tix, e_dcp, dgD, tgD, txD, dcpD, cpDct, revD, e_call, e_bi, e_isi, e_mth, e_fld, e_isx, e_lc, e_dct, xs_nil, xs_cons, xo_none, xo_some, ec_nil, ec_cons, s_asg, s_par, s_par3, s_setIx, s_aug, s_expr, s_ret, s_retN, s_ife, s_for, s_whl, s_pass, s_brk, s_cont, s_rais, s_try, ss_nil, ss_cons, e_T, i_seq, i_rng1, i_rng2, i_enum, of_some, bd_ok, bd_err, fo_ok, fo_err, sq_nx, sq_rt, sq_bk, sq_ct, sq_err, lp_nx, lp_ct, lp_bk, lp_rt, lp_err, tr_ok, tr_err, br_t, br_f, sbr_t, sbr_f, en_some, so_some, ag_some, go_t, tn_some, tu_ap, fr_st, fr_lv, fr_lvE, end_rt, end_nx, end_err, negD, optI, rg1, rg2, tupD, ix0, ix1, ix2, ix3, ix4, ix5, ix6, ix7, ix8, ix9, ix10, ix11, ix12, ix13, ix14, ix15, ixm1, ixm2, isiV, idxD, seqD, opB, opA, opC, truD, setT, setTs, eqD, full, frz, D.sub, D.subL, D.eqv, D.eqvL, D.depth, D.depthL, biD, permD, opI, dctD, isKey, newL, catD, SZ, isiD, tyOk, lstD, setD, mtD, okM, srcD, mkL, slcD, mkDct, putKD, getK, kEq, ofB_some, fin_pl, finX_pl, pl_non, pl_bl, pl_int, pl_str, pl_tup, pl_lst, pl_ro, plL_nil, plL_cons, fin_k, lg_lt, lg_lt2, mulOk_lit]) (by simp [e_var, e_cst, e_tup, e_lst, e_bin, e_neg, e_cmp, e_is, e_chain, e_and, e_or, e_not, e_ife, e_idx, e_slc, e_rev, e_cat, e_dg1, e_dg2, e_tg1, e_tg2, e_tix, e_dcp, dgD, tgD, txD, dcpD, cpDct, revD, e_call, e_bi, e_isi, e_mth, e_fld, e_isx, e_lc, e_dct, xs_nil, xs_cons, xo_none, xo_some, ec_nil, ec_cons, s_asg, s_par, s_par3, s_setIx, s_aug, s_expr, s_ret, s_retN, s_ife, s_for, s_whl, s_pass, s_brk, s_cont, s_rais, s_try, ss_nil, ss_cons, e_T, i_seq, i_rng1, i_rng2, i_enum, of_some, bd_ok, bd_err, fo_ok, fo_err, sq_nx, sq_rt, sq_bk, sq_ct, sq_err, lp_nx, lp_ct, lp_bk, lp_rt, lp_err, tr_ok, tr_err, br_t, br_f, sbr_t, sbr_f, en_some, so_some, ag_some, go_t, tn_some, tu_ap, fr_st, fr_lv, fr_lvE, end_rt, end_nx, end_err, negD, optI, rg1, rg2, tupD, ix0, ix1, ix2, ix3, ix4, ix5, ix6, ix7, ix8, ix9, ix10, ix11, ix12, ix13, ix14, ix15, ixm1, ixm2, isiV, idxD, seqD, opB, opA, opC, truD, setT, setTs, eqD, full, frz, D.sub, D.subL, D.eqv, D.eqvL, D.depth, D.depthL, biD, permD, opI, dctD, isKey, newL, catD, SZ, isiD, tyOk, lstD, setD, mtD, okM, srcD, mkL, slcD, mkDct, putKD, getK, kEq, ofB_some, fin_pl, finX_pl, pl_non, pl_bl, pl_int, pl_str, pl_tup, pl_lst, pl_ro, plL_nil, plL_cons, fin_k, lg_lt, lg_lt2, mulOk_lit])
      have e6 := ec_one (C := cal n) (e := .and (.cmp .gt (.bi .len [.var 1]) (.cst (.int 0))) (.cmp .eq (.slc false (.var 0) (some (.var 2)) (some (.bin .add (.var 2) (.bi .len [.var 1])))) (.var 1))) (ρ := [some (.tup ss), some (.tup ws), some (.int j)]) (st := st) (b := D.eqvL (cutD ss (some j) (some (j + ws.length))) ws) (by
        rw [e_and]
        have e7 : evE (cal n) (.cmp .gt (.bi .len [.var 1]) (.cst (.int 0))) [some (.tup ss), some (.tup ws), some (.int j)] st = .ok (.bl true) st := by simp [e_var, e_cst, e_tup, e_lst, e_bin, e_neg, e_cmp, e_is, e_chain, e_and, e_or, e_not, e_ife, e_idx, e_slc, e_rev, e_cat, e_dg1, e_dg2, e_tg1, e_tg2, e_tix, e_dcp, dgD, tgD, txD, dcpD, cpDct, revD, e_call, e_bi, e_isi, e_mth, e_fld, e_isx, e_lc, e_dct, xs_nil, xs_cons, xo_none, xo_some, ec_nil, ec_cons, s_asg, s_par, s_par3, s_setIx, s_aug, s_expr, s_ret, s_retN, s_ife, s_for, s_whl, s_pass, s_brk, s_cont, s_rais, s_try, ss_nil, ss_cons, e_T, i_seq, i_rng1, i_rng2, i_enum, of_some, bd_ok, bd_err, fo_ok, fo_err, sq_nx, sq_rt, sq_bk, sq_ct, sq_err, lp_nx, lp_ct, lp_bk, lp_rt, lp_err, tr_ok, tr_err, br_t, br_f, sbr_t, sbr_f, en_some, so_some, ag_some, go_t, tn_some, tu_ap, fr_st, fr_lv, fr_lvE, end_rt, end_nx, end_err, negD, optI, rg1, rg2, tupD, ix0, ix1, ix2, ix3, ix4, ix5, ix6, ix7, ix8, ix9, ix10, ix11, ix12, ix13, ix14, ix15, ixm1, ixm2, isiV, idxD, seqD, opB, opA, opC, truD, setT, setTs, eqD, full, frz, D.sub, D.subL, D.eqv, D.eqvL, D.depth, D.depthL, biD, permD, opI, dctD, isKey, newL, catD, SZ, isiD, tyOk, lstD, setD, mtD, okM, srcD, mkL, slcD, mkDct, putKD, getK, kEq, ofB_some, fin_pl, finX_pl, pl_non, pl_bl, pl_int, pl_str, pl_tup, pl_lst, pl_ro, plL_nil, plL_cons, fin_k, lg_lt, lg_lt2, mulOk_lit, hp]
        rw [e7, bd_ok]
        exact e5)
      cases hb : D.eqvL (cutD ss (some j) (some (j + ws.length))) ws with
      | true => exact .inr ⟨.int j, by simp [fndF, hb], by rw [e6, hb], by simp [e_var, e_cst, e_tup, e_lst, e_bin, e_neg, e_cmp, e_is, e_chain, e_and, e_or, e_not, e_ife, e_idx, e_slc, e_rev, e_cat, e_dg1, e_dg2, e_tg1, e_tg2, e_tix, e_dcp, dgD, tgD, txD, dcpD, cpDct, revD, e_call, e_bi, e_isi, e_mth, e_fld, e_isx, e_lc, e_dct, xs_nil, xs_cons, xo_none, xo_some, ec_nil, ec_cons, s_asg, s_par, s_par3, s_setIx, s_aug, s_expr, s_ret, s_retN, s_ife, s_for, s_whl, s_pass, s_brk, s_cont, s_rais, s_try, ss_nil, ss_cons, e_T, i_seq, i_rng1, i_rng2, i_enum, of_some, bd_ok, bd_err, fo_ok, fo_err, sq_nx, sq_rt, sq_bk, sq_ct, sq_err, lp_nx, lp_ct, lp_bk, lp_rt, lp_err, tr_ok, tr_err, br_t, br_f, sbr_t, sbr_f, en_some, so_some, ag_some, go_t, tn_some, tu_ap, fr_st, fr_lv, fr_lvE, end_rt, end_nx, end_err, negD, optI, rg1, rg2, tupD, ix0, ix1, ix2, ix3, ix4, ix5, ix6, ix7, ix8, ix9, ix10, ix11, ix12, ix13, ix14, ix15, ixm1, ixm2, isiV, idxD, seqD, opB, opA, opC, truD, setT, setTs, eqD, full, frz, D.sub, D.subL, D.eqv, D.eqvL, D.depth, D.depthL, biD, permD, opI, dctD, isKey, newL, catD, SZ, isiD, tyOk, lstD, setD, mtD, okM, srcD, mkL, slcD, mkDct, putKD, getK, kEq, ofB_some, fin_pl, finX_pl, pl_non, pl_bl, pl_int, pl_str, pl_tup, pl_lst, pl_ro, plL_nil, plL_cons, fin_k, lg_lt, lg_lt2, mulOk_lit]⟩
      | false => exact .inl ⟨by simp [fndF, hb], by rw [e6, hb]⟩
  have l1 : (fnd ss ws).length ≤ 10000000 := by omega
  refine call_run (F := F24) rfl rfl ?_
  generalize fnd ss ws = q at *
  simp [F24, b24, e_var, e_cst, e_tup, e_lst, e_bin, e_neg, e_cmp, e_is, e_chain, e_and, e_or, e_not, e_ife, e_idx, e_slc, e_rev, e_cat, e_dg1, e_dg2, e_tg1, e_tg2, e_tix, e_dcp, dgD, tgD, txD, dcpD, cpDct, revD, e_call, e_bi, e_isi, e_mth, e_fld, e_isx, e_lc, e_dct, xs_nil, xs_cons, xo_none, xo_some, ec_nil, ec_cons, s_asg, s_par, s_par3, s_setIx, s_aug, s_expr, s_ret, s_retN, s_ife, s_for, s_whl, s_pass, s_brk, s_cont, s_rais, s_try, ss_nil, ss_cons, e_T, i_seq, i_rng1, i_rng2, i_enum, of_some, bd_ok, bd_err, fo_ok, fo_err, sq_nx, sq_rt, sq_bk, sq_ct, sq_err, lp_nx, lp_ct, lp_bk, lp_rt, lp_err, tr_ok, tr_err, br_t, br_f, sbr_t, sbr_f, en_some, so_some, ag_some, go_t, tn_some, tu_ap, fr_st, fr_lv, fr_lvE, end_rt, end_nx, end_err, negD, optI, rg1, rg2, tupD, ix0, ix1, ix2, ix3, ix4, ix5, ix6, ix7, ix8, ix9, ix10, ix11, ix12, ix13, ix14, ix15, ixm1, ixm2, isiV, idxD, seqD, opB, opA, opC, truD, setT, setTs, eqD, full, frz, D.sub, D.subL, D.eqv, D.eqvL, D.depth, D.depthL, biD, permD, opI, dctD, isKey, newL, catD, SZ, isiD, tyOk, lstD, setD, mtD, okM, srcD, mkL, slcD, mkDct, putKD, getK, kEq, ofB_some, fin_pl, finX_pl, pl_non, pl_bl, pl_int, pl_str, pl_tup, pl_lst, pl_ro, plL_nil, plL_cons, fin_k, lg_lt, lg_lt2, mulOk_lit, sm, lc, l1, fp]
end K44
set_option Elab.async false
set_option linter.all false
set_option maxRecDepth 100000
set_option maxHeartbeats 4000000
namespace K44
open DI
abbrev tP0 : Tx := [112, 48]
abbrev dP0 : D := .tup [.str tDo, .str tP0]
/-- the steps with w told as a maker -/
def mdF (w : List D) : Nat → List D → List D
  | 0, _ => []
  | _ + 1, [] => []
  | f + 1, x :: r => if D.eqvL ((x :: r).take w.length) w = true then dP0 :: mdF w f ((x :: r).drop w.length) else x :: mdF w f r
theorem mdF_nil (w : List D) : ∀ f, mdF w f [] = []
  | 0 => rfl
  | _ + 1 => rfl
abbrev mdp (ss w : List D) : D := .tup [.tup [.tup [.str tP0, .tup w]], .tup (mdF w ss.length ss)]
theorem mdF_len (w : List D) : ∀ (f : Nat) (r : List D), (mdF w f r).length ≤ f
  | 0, _ => by simp [mdF]
  | _ + 1, [] => by simp [mdF]
  | f + 1, x :: r => by
    rw [mdF]
    split
    · rw [List.length_cons]; have := mdF_len w f ((x :: r).drop w.length); omega
    · rw [List.length_cons]; have := mdF_len w f r; omega
theorem mdF_bm {w : List D} (hw : Sts w) (h0 : w ≠ []) (P : Pb) : ∀ (f : Nat) (r : List D), r.length ≤ f → Sts r → Bm P [(.str tP0, .lst w)] (mdF w f r) r
  | 0, [], _, _ => .nil
  | _ + 1, [], _, _ => .nil
  | f + 1, x :: r, hl, h => by
    rw [List.length_cons] at hl
    have hp : 0 < w.length := List.length_pos_iff.mpr h0
    rw [mdF]
    split
    · rename_i he
      have e := eqvL_eq (sts_take h w.length) hw he
      have b := mdF_bm hw h0 P f ((x :: r).drop w.length) (by rw [List.length_drop, List.length_cons]; omega) (sts_drop h w.length)
      have := Bm.cons (P := P) (kvs := [(.str tP0, .lst w)]) (d := dP0) (s := w) (.inr (.inl ⟨tP0, rfl, by simp [getK, show kEq (.str tP0) (.str tP0) = true from by decide], hw⟩)) b
      have e2 : w ++ (x :: r).drop w.length = x :: r := by
        have := List.take_append_drop w.length (x :: r)
        rw [e] at this
        exact this
      rw [e2] at this
      exact this
    · have b := mdF_bm hw h0 P f r (by omega) (fun d hd => h d (List.mem_cons_of_mem _ hd))
      exact Bm.cons (P := P) (kvs := [(.str tP0, .lst w)]) (d := x) (s := [x]) (.inl ⟨h x (List.mem_cons_self ..), rfl⟩) b
theorem pl_made {ss w : List D} (hs : Sts ss) (hw : Sts w) (h0 : w ≠ []) (hl : ss.length ≤ 100000) (wl : w.length ≤ 100000) : Pl (mdp ss w) ss :=
  ⟨[.tup [.str tP0, .tup w]], mdF w ss.length ss, [(.str tP0, .lst w)], rfl, .cons (bm_flat hw) wl (by decide) (.nil _), mdF_bm hw h0 _ _ _ (Nat.le_refl _) hs, hl⟩
theorem mdF_cl (w : List D) : ∀ (f : Nat) (r : List D), Sts r → clL (mdF w f r) = true ∧ wtL (mdF w f r) ≤ 6 * f
  | 0, _, _ => by simp [mdF, clL, wtL]
  | _ + 1, [], _ => by simp [mdF, clL, wtL]
  | f + 1, x :: r, h => by
    rw [mdF]
    split
    · obtain ⟨h1, h2⟩ := mdF_cl w f ((x :: r).drop w.length) (sts_drop h _)
      have : wt dP0 = 3 := by simp [wt, wtL]
      exact ⟨by simp [clL, cl, h1], by rw [wtL, this]; omega⟩
    · obtain ⟨h1, h2⟩ := mdF_cl w f r (fun d hd => h d (List.mem_cons_of_mem _ hd))
      obtain ⟨h3, h4⟩ := st_cl (h x (List.mem_cons_self ..))
      exact ⟨by simp [clL, h3, h1], by rw [wtL]; omega⟩
theorem cl_pl : ∀ {d : D}, cl d = true → d.pl = true := by
  have key : ∀ (n : Nat) (d : D), wt d ≤ n → cl d = true → d.pl = true := by
    intro n
    induction n with
    | zero => intro d h; have := wt_pos d; omega
    | succ n ih =>
      intro d h hc
      cases d with
      | int i => rfl
      | str s => rfl
      | tup xs =>
        rw [pl_tup]
        simp only [wt] at h
        simp only [cl] at hc
        have : ∀ xs : List D, wtL xs ≤ n → clL xs = true → D.plL xs = true := by
          intro xs
          induction xs with
          | nil => intro _ _; rfl
          | cons x r ihr =>
            intro h hc
            rw [wtL] at h
            rw [clL, Bool.and_eq_true] at hc
            rw [plL_cons, ih x (by omega) hc.1, ihr (by omega) hc.2]
            rfl
        exact this xs (by omega) hc
      | _ => simp [cl] at hc
  intro d h
  exact key _ d (Nat.le_refl _) h
theorem s_lmade (n : Nat) (st : Sto) {ss w : List D} (hs : Sts ss) (hw : Sts w) (h0 : w ≠ []) (hl : ss.length ≤ 100000) : callD fds anc (n + 1) 25 [.tup ss, .tup w] st = .ok (mdp ss w) st := by
  have h2 : ∀ o : Ob, (st ++ [o])[st.length]? = some o := fun o => app_get st o
  have h3 : ∀ o u : Ob, (st ++ [o]).set st.length u = st ++ [u] := fun o u => app_set st o u
  have hp : 0 < w.length := List.length_pos_iff.mpr h0
  have sB := subL_sts hw
  obtain ⟨ρ', s', hw', i, rfl, rfl⟩ := wh_rule (C := cal n) (c := .cmp .lt (.var 3) (.bi .len [.var 0])) (b := l25_0)
    (fun m ρ s => ∃ (i : Nat) (acc : List D), ρ = [some (.tup ss), some (.tup w), some (.loc st.length), some (.int (i : Int))] ∧ s = st ++ [.lst acc] ∧ i ≤ ss.length ∧ ss.length - i ≤ m ∧ acc.length ≤ i ∧ acc ++ mdF w m (ss.drop i) = mdF w ss.length ss)
    (fun ρ s => ∃ i : Nat, ρ = [some (.tup ss), some (.tup w), some (.loc st.length), some (.int (i : Int))] ∧ s = st ++ [.lst (mdF w ss.length ss)]) (by
      rintro m ρ s ⟨i, acc, rfl, rfl, i1, i2, i3, e⟩
      by_cases hi : i < ss.length
      · right
        obtain ⟨m, rfl⟩ : ∃ q, m = q + 1 := ⟨m - 1, by omega⟩
        have hx : ss[i]? = some (ss[i]'hi) := List.getElem?_eq_getElem hi
        have hd : ss.drop i = ss[i]'hi :: ss.drop (i + 1) := List.drop_eq_getElem_cons hi
        generalize hxx : ss[i]'hi = x at hx hd
        have la : acc.length < 10000000 := by omega
        have ix : ixD ss.length (i : Int) = some i := by simpa using ix_at (n := ss.length) (i := (i : Int)) (by omega) (by omega)
        have hc := cut_mid ss i w.length i1
        have hA : Sts ((ss.drop i).take w.length) := sts_take (sts_drop hs _) _
        have sA := subL_sts hA
        have dA := (sts_sc hA).2
        have dB := (sts_sc hw).2
        have hdep : min (D.depthL ((ss.drop i).take w.length)) (D.depthL w) ≤ 59 := by omega
        have cond : evT (cal n) (.cmp .lt (.var 3) (.bi .len [.var 0])) [some (.tup ss), some (.tup w), some (.loc st.length), some (.int (i : Int))] (st ++ [.lst acc]) = .ok true (st ++ [.lst acc]) := by
          simp [e_var, e_cst, e_tup, e_lst, e_bin, e_neg, e_cmp, e_is, e_chain, e_and, e_or, e_not, e_ife, e_idx, e_slc, e_rev, e_cat, e_dg1, e_dg2, e_tg1, e_tg2, e_tix, e_dcp, dgD, tgD, txD, dcpD, cpDct, revD, e_call, e_bi, e_isi, e_mth, e_fld, e_isx, e_lc, e_dct, xs_nil, xs_cons, xo_none, xo_some, ec_nil, ec_cons, s_asg, s_par, s_par3, s_setIx, s_aug, s_expr, s_ret, s_retN, s_ife, s_for, s_whl, s_pass, s_brk, s_cont, s_rais, s_try, ss_nil, ss_cons, e_T, i_seq, i_rng1, i_rng2, i_enum, of_some, bd_ok, bd_err, fo_ok, fo_err, sq_nx, sq_rt, sq_bk, sq_ct, sq_err, lp_nx, lp_ct, lp_bk, lp_rt, lp_err, tr_ok, tr_err, br_t, br_f, sbr_t, sbr_f, en_some, so_some, ag_some, go_t, tn_some, tu_ap, fr_st, fr_lv, fr_lvE, end_rt, end_nx, end_err, negD, optI, rg1, rg2, tupD, ix0, ix1, ix2, ix3, ix4, ix5, ix6, ix7, ix8, ix9, ix10, ix11, ix12, ix13, ix14, ix15, ixm1, ixm2, isiV, idxD, seqD, opB, opA, opC, truD, setT, setTs, eqD, full, frz, D.sub, D.subL, D.eqv, D.eqvL, D.depth, D.depthL, biD, permD, opI, dctD, isKey, newL, catD, SZ, isiD, tyOk, lstD, setD, mtD, okM, srcD, mkL, slcD, mkDct, putKD, getK, kEq, ofB_some, fin_pl, finX_pl, pl_non, pl_bl, pl_int, pl_str, pl_tup, pl_lst, pl_ro, plL_nil, plL_cons, fin_k, lg_lt, lg_lt2, mulOk_lit, hi]
        rw [hd, mdF, ← hd] at e
        cases hb : D.eqvL ((ss.drop i).take w.length) w with
        | true =>
          have ht := eqvL_eq hA hw hb
          have hlen : w.length ≤ ss.length - i := by
            have := congrArg List.length ht
            rw [List.length_take, List.length_drop] at this
            omega
          rw [hb, if_pos rfl, List.drop_drop] at e
          refine ⟨_, [some (.tup ss), some (.tup w), some (.loc st.length), some (.int ((i + w.length : Nat) : Int))], st ++ [.lst (acc ++ [dP0])], m, cond, .inl ?_, by omega, i + w.length, acc ++ [dP0], rfl, rfl, by omega, by omega, by rw [List.length_append, List.length_singleton]; omega, by rw [List.append_assoc]; exact e⟩
          generalize (ss.drop i).take w.length = A at *
          simp [l25_0, e_var, e_cst, e_tup, e_lst, e_bin, e_neg, e_cmp, e_is, e_chain, e_and, e_or, e_not, e_ife, e_idx, e_slc, e_rev, e_cat, e_dg1, e_dg2, e_tg1, e_tg2, e_tix, e_dcp, dgD, tgD, txD, dcpD, cpDct, revD, e_call, e_bi, e_isi, e_mth, e_fld, e_isx, e_lc, e_dct, xs_nil, xs_cons, xo_none, xo_some, ec_nil, ec_cons, s_asg, s_par, s_par3, s_setIx, s_aug, s_expr, s_ret, s_retN, s_ife, s_for, s_whl, s_pass, s_brk, s_cont, s_rais, s_try, ss_nil, ss_cons, e_T, i_seq, i_rng1, i_rng2, i_enum, of_some, bd_ok, bd_err, fo_ok, fo_err, sq_nx, sq_rt, sq_bk, sq_ct, sq_err, lp_nx, lp_ct, lp_bk, lp_rt, lp_err, tr_ok, tr_err, br_t, br_f, sbr_t, sbr_f, en_some, so_some, ag_some, go_t, tn_some, tu_ap, fr_st, fr_lv, fr_lvE, end_rt, end_nx, end_err, negD, optI, rg1, rg2, tupD, ix0, ix1, ix2, ix3, ix4, ix5, ix6, ix7, ix8, ix9, ix10, ix11, ix12, ix13, ix14, ix15, ixm1, ixm2, isiV, idxD, seqD, opB, opA, opC, truD, setT, setTs, eqD, full, frz, D.sub, D.subL, D.eqv, D.eqvL, D.depth, D.depthL, biD, permD, opI, dctD, isKey, newL, catD, SZ, isiD, tyOk, lstD, setD, mtD, okM, srcD, mkL, slcD, mkDct, putKD, getK, kEq, ofB_some, fin_pl, finX_pl, pl_non, pl_bl, pl_int, pl_str, pl_tup, pl_lst, pl_ro, plL_nil, plL_cons, fin_k, lg_lt, lg_lt2, mulOk_lit, hc, sA, sB, hdep, hb, h2, h3, la]
        | false =>
          rw [hb, if_neg (by decide)] at e
          refine ⟨_, [some (.tup ss), some (.tup w), some (.loc st.length), some (.int ((i + 1 : Nat) : Int))], st ++ [.lst (acc ++ [x])], m, cond, .inl ?_, by omega, i + 1, acc ++ [x], rfl, rfl, by omega, by omega, by rw [List.length_append, List.length_singleton]; omega, by rw [List.append_assoc]; exact e⟩
          generalize (ss.drop i).take w.length = A at *
          simp [l25_0, e_var, e_cst, e_tup, e_lst, e_bin, e_neg, e_cmp, e_is, e_chain, e_and, e_or, e_not, e_ife, e_idx, e_slc, e_rev, e_cat, e_dg1, e_dg2, e_tg1, e_tg2, e_tix, e_dcp, dgD, tgD, txD, dcpD, cpDct, revD, e_call, e_bi, e_isi, e_mth, e_fld, e_isx, e_lc, e_dct, xs_nil, xs_cons, xo_none, xo_some, ec_nil, ec_cons, s_asg, s_par, s_par3, s_setIx, s_aug, s_expr, s_ret, s_retN, s_ife, s_for, s_whl, s_pass, s_brk, s_cont, s_rais, s_try, ss_nil, ss_cons, e_T, i_seq, i_rng1, i_rng2, i_enum, of_some, bd_ok, bd_err, fo_ok, fo_err, sq_nx, sq_rt, sq_bk, sq_ct, sq_err, lp_nx, lp_ct, lp_bk, lp_rt, lp_err, tr_ok, tr_err, br_t, br_f, sbr_t, sbr_f, en_some, so_some, ag_some, go_t, tn_some, tu_ap, fr_st, fr_lv, fr_lvE, end_rt, end_nx, end_err, negD, optI, rg1, rg2, tupD, ix0, ix1, ix2, ix3, ix4, ix5, ix6, ix7, ix8, ix9, ix10, ix11, ix12, ix13, ix14, ix15, ixm1, ixm2, isiV, idxD, seqD, opB, opA, opC, truD, setT, setTs, eqD, full, frz, D.sub, D.subL, D.eqv, D.eqvL, D.depth, D.depthL, biD, permD, opI, dctD, isKey, newL, catD, SZ, isiD, tyOk, lstD, setD, mtD, okM, srcD, mkL, slcD, mkDct, putKD, getK, kEq, ofB_some, fin_pl, finX_pl, pl_non, pl_bl, pl_int, pl_str, pl_tup, pl_lst, pl_ro, plL_nil, plL_cons, fin_k, lg_lt, lg_lt2, mulOk_lit, hc, sA, sB, hdep, hb, h2, h3, la, ix, hx]
      · left
        have hd : ss.drop i = [] := List.drop_of_length_le (by omega)
        rw [hd, mdF_nil, List.append_nil] at e
        subst e
        refine ⟨st ++ [.lst (mdF w ss.length ss)], by simp [e_var, e_cst, e_tup, e_lst, e_bin, e_neg, e_cmp, e_is, e_chain, e_and, e_or, e_not, e_ife, e_idx, e_slc, e_rev, e_cat, e_dg1, e_dg2, e_tg1, e_tg2, e_tix, e_dcp, dgD, tgD, txD, dcpD, cpDct, revD, e_call, e_bi, e_isi, e_mth, e_fld, e_isx, e_lc, e_dct, xs_nil, xs_cons, xo_none, xo_some, ec_nil, ec_cons, s_asg, s_par, s_par3, s_setIx, s_aug, s_expr, s_ret, s_retN, s_ife, s_for, s_whl, s_pass, s_brk, s_cont, s_rais, s_try, ss_nil, ss_cons, e_T, i_seq, i_rng1, i_rng2, i_enum, of_some, bd_ok, bd_err, fo_ok, fo_err, sq_nx, sq_rt, sq_bk, sq_ct, sq_err, lp_nx, lp_ct, lp_bk, lp_rt, lp_err, tr_ok, tr_err, br_t, br_f, sbr_t, sbr_f, en_some, so_some, ag_some, go_t, tn_some, tu_ap, fr_st, fr_lv, fr_lvE, end_rt, end_nx, end_err, negD, optI, rg1, rg2, tupD, ix0, ix1, ix2, ix3, ix4, ix5, ix6, ix7, ix8, ix9, ix10, ix11, ix12, ix13, ix14, ix15, ixm1, ixm2, isiV, idxD, seqD, opB, opA, opC, truD, setT, setTs, eqD, full, frz, D.sub, D.subL, D.eqv, D.eqvL, D.depth, D.depthL, biD, permD, opI, dctD, isKey, newL, catD, SZ, isiD, tyOk, lstD, setD, mtD, okM, srcD, mkL, slcD, mkDct, putKD, getK, kEq, ofB_some, fin_pl, finX_pl, pl_non, pl_bl, pl_int, pl_str, pl_tup, pl_lst, pl_ro, plL_nil, plL_cons, fin_k, lg_lt, lg_lt2, mulOk_lit, hi], i, rfl, rfl⟩)
    (m := ss.length) (ρ := [some (.tup ss), some (.tup w), some (.loc st.length), some (.int ((0 : Nat) : Int))]) (st := st ++ [.lst []]) ⟨0, [], rfl, rfl, by omega, by omega, by simp, by simp⟩ (Nat.lt_of_le_of_lt hl (by decide))
  refine call_run (F := F25) rfl rfl ?_
  have c1 := (mdF_cl w ss.length ss hs).1
  have p1 := sts_pl hw
  have p2 : D.plL (mdF w ss.length ss) = true := cl_pl (d := .tup _) (by simpa [cl] using c1)
  have ll := mdF_len w ss.length ss
  have l1 : (mdF w ss.length ss).length ≤ 10000000 := by omega
  have f := fin_plA1 (d := mdp ss w) (by simp [mdp, pl_tup, plL_cons, pl_str, p1, p2, plL_nil]) st (.lst (mdF w ss.length ss))
  unfold mdp at f ⊢
  generalize mdF w ss.length ss = q at *
  simp only [Int.natCast_zero, Int.ofNat_zero, Int.cast_ofNat_Int] at hw'
  simp [F25, b25, e_var, e_cst, e_tup, e_lst, e_bin, e_neg, e_cmp, e_is, e_chain, e_and, e_or, e_not, e_ife, e_idx, e_slc, e_rev, e_cat, e_dg1, e_dg2, e_tg1, e_tg2, e_tix, e_dcp, dgD, tgD, txD, dcpD, cpDct, revD, e_call, e_bi, e_isi, e_mth, e_fld, e_isx, e_lc, e_dct, xs_nil, xs_cons, xo_none, xo_some, ec_nil, ec_cons, s_asg, s_par, s_par3, s_setIx, s_aug, s_expr, s_ret, s_retN, s_ife, s_for, s_whl, s_pass, s_brk, s_cont, s_rais, s_try, ss_nil, ss_cons, e_T, i_seq, i_rng1, i_rng2, i_enum, of_some, bd_ok, bd_err, fo_ok, fo_err, sq_nx, sq_rt, sq_bk, sq_ct, sq_err, lp_nx, lp_ct, lp_bk, lp_rt, lp_err, tr_ok, tr_err, br_t, br_f, sbr_t, sbr_f, en_some, so_some, ag_some, go_t, tn_some, tu_ap, fr_st, fr_lv, fr_lvE, end_rt, end_nx, end_err, negD, optI, rg1, rg2, tupD, ix0, ix1, ix2, ix3, ix4, ix5, ix6, ix7, ix8, ix9, ix10, ix11, ix12, ix13, ix14, ix15, ixm1, ixm2, isiV, idxD, seqD, opB, opA, opC, truD, setT, setTs, eqD, full, frz, D.sub, D.subL, D.eqv, D.eqvL, D.depth, D.depthL, biD, permD, opI, dctD, isKey, newL, catD, SZ, isiD, tyOk, lstD, setD, mtD, okM, srcD, mkL, slcD, mkDct, putKD, getK, kEq, ofB_some, fin_pl, finX_pl, pl_non, pl_bl, pl_int, pl_str, pl_tup, pl_lst, pl_ro, plL_nil, plL_cons, fin_k, lg_lt, lg_lt2, mulOk_lit, hw', h2, l1]
  exact f
theorem s_made (n : Nat) (st : Sto) {d : D} {ss w : List D} (h : Pl d ss) (a b : Int) (hc0 : cutD ss (some a) (some b) = w) (h0 : w ≠ []) : callD fds anc (n + 5) 3 [d, .int a, .int b] st = .ok (mdp ss w) st := by
  have e1 := s_steps n st h
  have hs := pl_sts h
  have hl := pl_len h
  have hw : Sts w := by rw [← hc0]; exact (cut_sts hs _ _).1
  have h2 : ∀ o : Ob, (st ++ [o])[st.length]? = some o := fun o => app_get st o
  have h3 : ∀ o u : Ob, (st ++ [o]).set st.length u = st ++ [u] := fun o u => app_set st o u
  have hp : 0 < w.length := List.length_pos_iff.mpr h0
  have sB := subL_sts hw
  obtain ⟨ρ', s', hw', i, rfl, rfl⟩ := wh_rule (C := cal (n + 4)) (c := .cmp .lt (.var 6) (.bi .len [.var 3])) (b := l3_0)
    (fun m ρ s => ∃ (i : Nat) (acc : List D), ρ = [some d, some (.int a), some (.int b), some (.tup ss), some (.tup w), some (.loc st.length), some (.int (i : Int))] ∧ s = st ++ [.lst acc] ∧ i ≤ ss.length ∧ ss.length - i ≤ m ∧ acc.length ≤ i ∧ acc ++ mdF w m (ss.drop i) = mdF w ss.length ss)
    (fun ρ s => ∃ i : Nat, ρ = [some d, some (.int a), some (.int b), some (.tup ss), some (.tup w), some (.loc st.length), some (.int (i : Int))] ∧ s = st ++ [.lst (mdF w ss.length ss)]) (by
      rintro m ρ s ⟨i, acc, rfl, rfl, i1, i2, i3, e⟩
      by_cases hi : i < ss.length
      · right
        obtain ⟨m, rfl⟩ : ∃ q, m = q + 1 := ⟨m - 1, by omega⟩
        have hx : ss[i]? = some (ss[i]'hi) := List.getElem?_eq_getElem hi
        have hd : ss.drop i = ss[i]'hi :: ss.drop (i + 1) := List.drop_eq_getElem_cons hi
        generalize hxx : ss[i]'hi = x at hx hd
        have la : acc.length < 10000000 := by omega
        have ix : ixD ss.length (i : Int) = some i := by simpa using ix_at (n := ss.length) (i := (i : Int)) (by omega) (by omega)
        have hc := cut_mid ss i w.length i1
        have hA : Sts ((ss.drop i).take w.length) := sts_take (sts_drop hs _) _
        have sA := subL_sts hA
        have dA := (sts_sc hA).2
        have dB := (sts_sc hw).2
        have hdep : min (D.depthL ((ss.drop i).take w.length)) (D.depthL w) ≤ 59 := by omega
        have cond : evT (cal (n + 4)) (.cmp .lt (.var 6) (.bi .len [.var 3])) [some d, some (.int a), some (.int b), some (.tup ss), some (.tup w), some (.loc st.length), some (.int (i : Int))] (st ++ [.lst acc]) = .ok true (st ++ [.lst acc]) := by
          simp [e_var, e_cst, e_tup, e_lst, e_bin, e_neg, e_cmp, e_is, e_chain, e_and, e_or, e_not, e_ife, e_idx, e_slc, e_rev, e_cat, e_dg1, e_dg2, e_tg1, e_tg2, e_tix, e_dcp, dgD, tgD, txD, dcpD, cpDct, revD, e_call, e_bi, e_isi, e_mth, e_fld, e_isx, e_lc, e_dct, xs_nil, xs_cons, xo_none, xo_some, ec_nil, ec_cons, s_asg, s_par, s_par3, s_setIx, s_aug, s_expr, s_ret, s_retN, s_ife, s_for, s_whl, s_pass, s_brk, s_cont, s_rais, s_try, ss_nil, ss_cons, e_T, i_seq, i_rng1, i_rng2, i_enum, of_some, bd_ok, bd_err, fo_ok, fo_err, sq_nx, sq_rt, sq_bk, sq_ct, sq_err, lp_nx, lp_ct, lp_bk, lp_rt, lp_err, tr_ok, tr_err, br_t, br_f, sbr_t, sbr_f, en_some, so_some, ag_some, go_t, tn_some, tu_ap, fr_st, fr_lv, fr_lvE, end_rt, end_nx, end_err, negD, optI, rg1, rg2, tupD, ix0, ix1, ix2, ix3, ix4, ix5, ix6, ix7, ix8, ix9, ix10, ix11, ix12, ix13, ix14, ix15, ixm1, ixm2, isiV, idxD, seqD, opB, opA, opC, truD, setT, setTs, eqD, full, frz, D.sub, D.subL, D.eqv, D.eqvL, D.depth, D.depthL, biD, permD, opI, dctD, isKey, newL, catD, SZ, isiD, tyOk, lstD, setD, mtD, okM, srcD, mkL, slcD, mkDct, putKD, getK, kEq, ofB_some, fin_pl, finX_pl, pl_non, pl_bl, pl_int, pl_str, pl_tup, pl_lst, pl_ro, plL_nil, plL_cons, fin_k, lg_lt, lg_lt2, mulOk_lit, hi]
        rw [hd, mdF, ← hd] at e
        cases hb : D.eqvL ((ss.drop i).take w.length) w with
        | true =>
          have ht := eqvL_eq hA hw hb
          have hlen : w.length ≤ ss.length - i := by
            have := congrArg List.length ht
            rw [List.length_take, List.length_drop] at this
            omega
          rw [hb, if_pos rfl, List.drop_drop] at e
          refine ⟨_, [some d, some (.int a), some (.int b), some (.tup ss), some (.tup w), some (.loc st.length), some (.int ((i + w.length : Nat) : Int))], st ++ [.lst (acc ++ [dP0])], m, cond, .inl ?_, by omega, i + w.length, acc ++ [dP0], rfl, rfl, by omega, by omega, by rw [List.length_append, List.length_singleton]; omega, by rw [List.append_assoc]; exact e⟩
          generalize (ss.drop i).take w.length = A at *
          simp [l3_0, e_var, e_cst, e_tup, e_lst, e_bin, e_neg, e_cmp, e_is, e_chain, e_and, e_or, e_not, e_ife, e_idx, e_slc, e_rev, e_cat, e_dg1, e_dg2, e_tg1, e_tg2, e_tix, e_dcp, dgD, tgD, txD, dcpD, cpDct, revD, e_call, e_bi, e_isi, e_mth, e_fld, e_isx, e_lc, e_dct, xs_nil, xs_cons, xo_none, xo_some, ec_nil, ec_cons, s_asg, s_par, s_par3, s_setIx, s_aug, s_expr, s_ret, s_retN, s_ife, s_for, s_whl, s_pass, s_brk, s_cont, s_rais, s_try, ss_nil, ss_cons, e_T, i_seq, i_rng1, i_rng2, i_enum, of_some, bd_ok, bd_err, fo_ok, fo_err, sq_nx, sq_rt, sq_bk, sq_ct, sq_err, lp_nx, lp_ct, lp_bk, lp_rt, lp_err, tr_ok, tr_err, br_t, br_f, sbr_t, sbr_f, en_some, so_some, ag_some, go_t, tn_some, tu_ap, fr_st, fr_lv, fr_lvE, end_rt, end_nx, end_err, negD, optI, rg1, rg2, tupD, ix0, ix1, ix2, ix3, ix4, ix5, ix6, ix7, ix8, ix9, ix10, ix11, ix12, ix13, ix14, ix15, ixm1, ixm2, isiV, idxD, seqD, opB, opA, opC, truD, setT, setTs, eqD, full, frz, D.sub, D.subL, D.eqv, D.eqvL, D.depth, D.depthL, biD, permD, opI, dctD, isKey, newL, catD, SZ, isiD, tyOk, lstD, setD, mtD, okM, srcD, mkL, slcD, mkDct, putKD, getK, kEq, ofB_some, fin_pl, finX_pl, pl_non, pl_bl, pl_int, pl_str, pl_tup, pl_lst, pl_ro, plL_nil, plL_cons, fin_k, lg_lt, lg_lt2, mulOk_lit, hc, sA, sB, hdep, hb, h2, h3, la]
        | false =>
          rw [hb, if_neg (by decide)] at e
          refine ⟨_, [some d, some (.int a), some (.int b), some (.tup ss), some (.tup w), some (.loc st.length), some (.int ((i + 1 : Nat) : Int))], st ++ [.lst (acc ++ [x])], m, cond, .inl ?_, by omega, i + 1, acc ++ [x], rfl, rfl, by omega, by omega, by rw [List.length_append, List.length_singleton]; omega, by rw [List.append_assoc]; exact e⟩
          generalize (ss.drop i).take w.length = A at *
          simp [l3_0, e_var, e_cst, e_tup, e_lst, e_bin, e_neg, e_cmp, e_is, e_chain, e_and, e_or, e_not, e_ife, e_idx, e_slc, e_rev, e_cat, e_dg1, e_dg2, e_tg1, e_tg2, e_tix, e_dcp, dgD, tgD, txD, dcpD, cpDct, revD, e_call, e_bi, e_isi, e_mth, e_fld, e_isx, e_lc, e_dct, xs_nil, xs_cons, xo_none, xo_some, ec_nil, ec_cons, s_asg, s_par, s_par3, s_setIx, s_aug, s_expr, s_ret, s_retN, s_ife, s_for, s_whl, s_pass, s_brk, s_cont, s_rais, s_try, ss_nil, ss_cons, e_T, i_seq, i_rng1, i_rng2, i_enum, of_some, bd_ok, bd_err, fo_ok, fo_err, sq_nx, sq_rt, sq_bk, sq_ct, sq_err, lp_nx, lp_ct, lp_bk, lp_rt, lp_err, tr_ok, tr_err, br_t, br_f, sbr_t, sbr_f, en_some, so_some, ag_some, go_t, tn_some, tu_ap, fr_st, fr_lv, fr_lvE, end_rt, end_nx, end_err, negD, optI, rg1, rg2, tupD, ix0, ix1, ix2, ix3, ix4, ix5, ix6, ix7, ix8, ix9, ix10, ix11, ix12, ix13, ix14, ix15, ixm1, ixm2, isiV, idxD, seqD, opB, opA, opC, truD, setT, setTs, eqD, full, frz, D.sub, D.subL, D.eqv, D.eqvL, D.depth, D.depthL, biD, permD, opI, dctD, isKey, newL, catD, SZ, isiD, tyOk, lstD, setD, mtD, okM, srcD, mkL, slcD, mkDct, putKD, getK, kEq, ofB_some, fin_pl, finX_pl, pl_non, pl_bl, pl_int, pl_str, pl_tup, pl_lst, pl_ro, plL_nil, plL_cons, fin_k, lg_lt, lg_lt2, mulOk_lit, hc, sA, sB, hdep, hb, h2, h3, la, ix, hx]
      · left
        have hd : ss.drop i = [] := List.drop_of_length_le (by omega)
        rw [hd, mdF_nil, List.append_nil] at e
        subst e
        refine ⟨st ++ [.lst (mdF w ss.length ss)], by simp [e_var, e_cst, e_tup, e_lst, e_bin, e_neg, e_cmp, e_is, e_chain, e_and, e_or, e_not, e_ife, e_idx, e_slc, e_rev, e_cat, e_dg1, e_dg2, e_tg1, e_tg2, e_tix, e_dcp, dgD, tgD, txD, dcpD, cpDct, revD, e_call, e_bi, e_isi, e_mth, e_fld, e_isx, e_lc, e_dct, xs_nil, xs_cons, xo_none, xo_some, ec_nil, ec_cons, s_asg, s_par, s_par3, s_setIx, s_aug, s_expr, s_ret, s_retN, s_ife, s_for, s_whl, s_pass, s_brk, s_cont, s_rais, s_try, ss_nil, ss_cons, e_T, i_seq, i_rng1, i_rng2, i_enum, of_some, bd_ok, bd_err, fo_ok, fo_err, sq_nx, sq_rt, sq_bk, sq_ct, sq_err, lp_nx, lp_ct, lp_bk, lp_rt, lp_err, tr_ok, tr_err, br_t, br_f, sbr_t, sbr_f, en_some, so_some, ag_some, go_t, tn_some, tu_ap, fr_st, fr_lv, fr_lvE, end_rt, end_nx, end_err, negD, optI, rg1, rg2, tupD, ix0, ix1, ix2, ix3, ix4, ix5, ix6, ix7, ix8, ix9, ix10, ix11, ix12, ix13, ix14, ix15, ixm1, ixm2, isiV, idxD, seqD, opB, opA, opC, truD, setT, setTs, eqD, full, frz, D.sub, D.subL, D.eqv, D.eqvL, D.depth, D.depthL, biD, permD, opI, dctD, isKey, newL, catD, SZ, isiD, tyOk, lstD, setD, mtD, okM, srcD, mkL, slcD, mkDct, putKD, getK, kEq, ofB_some, fin_pl, finX_pl, pl_non, pl_bl, pl_int, pl_str, pl_tup, pl_lst, pl_ro, plL_nil, plL_cons, fin_k, lg_lt, lg_lt2, mulOk_lit, hi], i, rfl, rfl⟩)
    (m := ss.length) (ρ := [some d, some (.int a), some (.int b), some (.tup ss), some (.tup w), some (.loc st.length), some (.int ((0 : Nat) : Int))]) (st := st ++ [.lst []]) ⟨0, [], rfl, rfl, by omega, by omega, by simp, by simp⟩ (Nat.lt_of_le_of_lt hl (by decide))
  refine call_run (F := F3) rfl rfl ?_
  have c1 := (mdF_cl w ss.length ss hs).1
  have p1 := sts_pl hw
  have p2 : D.plL (mdF w ss.length ss) = true := cl_pl (d := .tup _) (by simpa [cl] using c1)
  have ll := mdF_len w ss.length ss
  have l1 : (mdF w ss.length ss).length ≤ 10000000 := by omega
  have f := fin_plA1 (d := mdp ss w) (by simp [mdp, pl_tup, plL_cons, pl_str, p1, p2, plL_nil]) st (.lst (mdF w ss.length ss))
  unfold mdp at f ⊢
  generalize mdF w ss.length ss = q at *
  simp only [Int.natCast_zero, Int.ofNat_zero, Int.cast_ofNat_Int] at hw'
  simp [F3, b3, e_var, e_cst, e_tup, e_lst, e_bin, e_neg, e_cmp, e_is, e_chain, e_and, e_or, e_not, e_ife, e_idx, e_slc, e_rev, e_cat, e_dg1, e_dg2, e_tg1, e_tg2, e_tix, e_dcp, dgD, tgD, txD, dcpD, cpDct, revD, e_call, e_bi, e_isi, e_mth, e_fld, e_isx, e_lc, e_dct, xs_nil, xs_cons, xo_none, xo_some, ec_nil, ec_cons, s_asg, s_par, s_par3, s_setIx, s_aug, s_expr, s_ret, s_retN, s_ife, s_for, s_whl, s_pass, s_brk, s_cont, s_rais, s_try, ss_nil, ss_cons, e_T, i_seq, i_rng1, i_rng2, i_enum, of_some, bd_ok, bd_err, fo_ok, fo_err, sq_nx, sq_rt, sq_bk, sq_ct, sq_err, lp_nx, lp_ct, lp_bk, lp_rt, lp_err, tr_ok, tr_err, br_t, br_f, sbr_t, sbr_f, en_some, so_some, ag_some, go_t, tn_some, tu_ap, fr_st, fr_lv, fr_lvE, end_rt, end_nx, end_err, negD, optI, rg1, rg2, tupD, ix0, ix1, ix2, ix3, ix4, ix5, ix6, ix7, ix8, ix9, ix10, ix11, ix12, ix13, ix14, ix15, ixm1, ixm2, isiV, idxD, seqD, opB, opA, opC, truD, setT, setTs, eqD, full, frz, D.sub, D.subL, D.eqv, D.eqvL, D.depth, D.depthL, biD, permD, opI, dctD, isKey, newL, catD, SZ, isiD, tyOk, lstD, setD, mtD, okM, srcD, mkL, slcD, mkDct, putKD, getK, kEq, ofB_some, fin_pl, finX_pl, pl_non, pl_bl, pl_int, pl_str, pl_tup, pl_lst, pl_ro, plL_nil, plL_cons, fin_k, lg_lt, lg_lt2, mulOk_lit, e1, hc0, hw', h2, l1]
  exact f
end K44
set_option Elab.async false
set_option linter.all false
set_option maxRecDepth 100000
set_option maxHeartbeats 4000000
namespace K44
open DI
/-- how many steps begin both -/
def cp : List D → List D → Nat
  | x :: a, y :: b => if D.eqv x y = true then cp a b + 1 else 0
  | _, _ => 0
theorem cp_le : ∀ a b : List D, cp a b ≤ a.length ∧ cp a b ≤ b.length
  | [], _ => by simp [cp]
  | _ :: _, [] => by simp [cp]
  | x :: a, y :: b => by
    have := cp_le a b
    rw [cp, List.length_cons, List.length_cons]
    split <;> omega
theorem cp_lt : ∀ (a b : List D) (i : Nat), i < cp a b → ∃ x y, a[i]? = some x ∧ b[i]? = some y ∧ D.eqv x y = true
  | [], _, i, h => by simp [cp] at h
  | _ :: _, [], i, h => by simp [cp] at h
  | x :: a, y :: b, i, h => by
    rw [cp] at h
    split at h
    · rename_i he
      cases i with
      | zero => exact ⟨x, y, rfl, rfl, he⟩
      | succ i =>
        obtain ⟨u, v, h1, h2, h3⟩ := cp_lt a b i (by omega)
        exact ⟨u, v, by simpa using h1, by simpa using h2, h3⟩
    · omega
theorem cp_end : ∀ a b : List D, cp a b = a.length ∨ cp a b = b.length ∨ ∃ x y, a[cp a b]? = some x ∧ b[cp a b]? = some y ∧ D.eqv x y = false
  | [], _ => .inl (by simp [cp])
  | _ :: _, [] => .inr (.inl (by simp [cp]))
  | x :: a, y :: b => by
    by_cases he : D.eqv x y = true
    · have e : cp (x :: a) (y :: b) = cp a b + 1 := by rw [cp, if_pos he]
      rw [e]
      rcases cp_end a b with h | h | ⟨u, v, h1, h2, h3⟩
      · exact .inl (by rw [h]; rfl)
      · exact .inr (.inl (by rw [h]; rfl))
      · exact .inr (.inr ⟨u, v, by simpa using h1, by simpa using h2, h3⟩)
    · have e : cp (x :: a) (y :: b) = 0 := by rw [cp, if_neg he]
      rw [e]
      exact .inr (.inr ⟨x, y, rfl, rfl, by simpa using he⟩)
theorem cp_take : ∀ (a b : List D) (j : Nat), j < a.length → j < b.length → D.eqvL (a.take (j + 1)) (b.take (j + 1)) = decide (j < cp a b)
  | [], _, j, h, _ => by simp at h
  | _ :: _, [], j, _, h => by simp at h
  | x :: a, y :: b, j, h1, h2 => by
    rw [List.take_succ_cons, List.take_succ_cons, D.eqvL, cp]
    rw [List.length_cons] at h1 h2
    cases he : D.eqv x y with
    | false => simp
    | true =>
      cases j with
      | zero => simp [D.eqvL]
      | succ j =>
        rw [cp_take a b j (by omega) (by omega)]
        simp
theorem cp_comm : ∀ {a b : List D}, Sts a → Sts b → cp a b = cp b a
  | [], [], _, _ => rfl
  | [], _ :: _, _, _ => rfl
  | _ :: _, [], _, _ => rfl
  | x :: a, y :: b, ha, hb => by
    have ih := cp_comm (a := a) (b := b) (fun d hd => ha d (List.mem_cons_of_mem _ hd)) (fun d hd => hb d (List.mem_cons_of_mem _ hd))
    have hx := ha x (List.mem_cons_self ..)
    have hy := hb y (List.mem_cons_self ..)
    rw [cp, cp, ih]
    by_cases h : x = y
    · subst h; rfl
    · have h1 : ¬ D.eqv x y = true := fun e => h (eqv_eq hx hy e)
      have h2 : ¬ D.eqv y x = true := fun e => h (eqv_eq hy hx e).symm
      rw [if_neg h1, if_neg h2]
theorem cp_self : ∀ {a : List D}, Sts a → cp a a = a.length
  | [], _ => rfl
  | x :: a, h => by rw [cp, if_pos (eqv_rfl (h x (List.mem_cons_self ..))), cp_self fun d hd => h d (List.mem_cons_of_mem _ hd)]; rfl
theorem cp_app : ∀ {a : List D} (b : List D), Sts a → cp a (a ++ b) = a.length
  | [], _, _ => rfl
  | x :: a, b, h => by rw [List.cons_append, cp, if_pos (eqv_rfl (h x (List.mem_cons_self ..))), cp_app b fun d hd => h d (List.mem_cons_of_mem _ hd)]; rfl
theorem s_common (n : Nat) (st : Sto) {d e : D} {ss ws : List D} (h : Pl d ss) (k : Pl e ws) : callD fds anc (n + 5) 4 [d, e] st = .ok (.int (cp ss ws)) st := by
  have e1 := s_steps n st h
  have e2 := s_steps n st k
  have hs := pl_sts h
  have hw := pl_sts k
  have hl := pl_len h
  have hcl := cp_le ss ws
  obtain ⟨ρ', s', hw', rfl, rfl⟩ := wh_rule (C := cal (n + 4)) (c := .and (.cmp .lt (.var 4) (.bi .len [.var 2])) (.and (.cmp .lt (.var 4) (.bi .len [.var 3])) (.cmp .eq (.idx (.var 2) (.var 4)) (.idx (.var 3) (.var 4))))) (b := l4_0)
    (fun m ρ s => ∃ i : Nat, ρ = [some d, some e, some (.tup ss), some (.tup ws), some (.int (i : Int))] ∧ s = st ∧ i ≤ cp ss ws ∧ m = cp ss ws - i)
    (fun ρ s => ρ = [some d, some e, some (.tup ss), some (.tup ws), some (.int (cp ss ws : Int))] ∧ s = st) (by
      rintro m ρ s ⟨i, rfl, rfl, i1, rfl⟩
      have ixs : i < ss.length → ixD ss.length (i : Int) = some i := fun hi => by simpa using ix_at (n := ss.length) (i := (i : Int)) (by omega) (by omega)
      have ixw : i < ws.length → ixD ws.length (i : Int) = some i := fun hi => by simpa using ix_at (n := ws.length) (i := (i : Int)) (by omega) (by omega)
      by_cases hi : i < cp ss ws
      · right
        obtain ⟨x, y, hx, hy, hb⟩ := cp_lt ss ws i hi
        have i2 := ixs (by omega)
        have i3 := ixw (by omega)
        have l2 : i < ss.length := by omega
        have l3 : i < ws.length := by omega
        have sx := hs x (List.mem_of_getElem? hx)
        have sy := hw y (List.mem_of_getElem? hy)
        have fx := sub_st sx
        have fy := sub_st sy
        have dx := st_dep sx
        have hdep : min (D.depth x) (D.depth y) ≤ 60 := by omega
        refine ⟨s, [some d, some e, some (.tup ss), some (.tup ws), some (.int ((i + 1 : Nat) : Int))], s, cp ss ws - (i + 1), ?_, .inl ?_, by omega, i + 1, rfl, rfl, by omega, rfl⟩
        · have gx := (List.getElem?_eq_some_iff.mp hx).2
          have gy := (List.getElem?_eq_some_iff.mp hy).2
          simp [e_var, e_cst, e_tup, e_lst, e_bin, e_neg, e_cmp, e_is, e_chain, e_and, e_or, e_not, e_ife, e_idx, e_slc, e_rev, e_cat, e_dg1, e_dg2, e_tg1, e_tg2, e_tix, e_dcp, dgD, tgD, txD, dcpD, cpDct, revD, e_call, e_bi, e_isi, e_mth, e_fld, e_isx, e_lc, e_dct, xs_nil, xs_cons, xo_none, xo_some, ec_nil, ec_cons, s_asg, s_par, s_par3, s_setIx, s_aug, s_expr, s_ret, s_retN, s_ife, s_for, s_whl, s_pass, s_brk, s_cont, s_rais, s_try, ss_nil, ss_cons, e_T, i_seq, i_rng1, i_rng2, i_enum, of_some, bd_ok, bd_err, fo_ok, fo_err, sq_nx, sq_rt, sq_bk, sq_ct, sq_err, lp_nx, lp_ct, lp_bk, lp_rt, lp_err, tr_ok, tr_err, br_t, br_f, sbr_t, sbr_f, en_some, so_some, ag_some, go_t, tn_some, tu_ap, fr_st, fr_lv, fr_lvE, end_rt, end_nx, end_err, negD, optI, rg1, rg2, tupD, ix0, ix1, ix2, ix3, ix4, ix5, ix6, ix7, ix8, ix9, ix10, ix11, ix12, ix13, ix14, ix15, ixm1, ixm2, isiV, idxD, seqD, opB, opA, opC, truD, setT, setTs, eqD, full, frz, D.sub, D.subL, D.eqv, D.eqvL, D.depth, D.depthL, biD, permD, opI, dctD, isKey, newL, catD, SZ, isiD, tyOk, lstD, setD, mtD, okM, srcD, mkL, slcD, mkDct, putKD, getK, kEq, ofB_some, fin_pl, finX_pl, pl_non, pl_bl, pl_int, pl_str, pl_tup, pl_lst, pl_ro, plL_nil, plL_cons, fin_k, lg_lt, lg_lt2, mulOk_lit, l2, l3, i2, i3, gx, gy, fx, fy, hdep, hb]
        · simp [l4_0, e_var, e_cst, e_tup, e_lst, e_bin, e_neg, e_cmp, e_is, e_chain, e_and, e_or, e_not, e_ife, e_idx, e_slc, e_rev, e_cat, e_dg1, e_dg2, e_tg1, e_tg2, e_tix, e_dcp, dgD, tgD, txD, dcpD, cpDct, revD, e_call, e_bi, e_isi, e_mth, e_fld, e_isx, e_lc, e_dct, xs_nil, xs_cons, xo_none, xo_some, ec_nil, ec_cons, s_asg, s_par, s_par3, s_setIx, s_aug, s_expr, s_ret, s_retN, s_ife, s_for, s_whl, s_pass, s_brk, s_cont, s_rais, s_try, ss_nil, ss_cons, e_T, i_seq, i_rng1, i_rng2, i_enum, of_some, bd_ok, bd_err, fo_ok, fo_err, sq_nx, sq_rt, sq_bk, sq_ct, sq_err, lp_nx, lp_ct, lp_bk, lp_rt, lp_err, tr_ok, tr_err, br_t, br_f, sbr_t, sbr_f, en_some, so_some, ag_some, go_t, tn_some, tu_ap, fr_st, fr_lv, fr_lvE, end_rt, end_nx, end_err, negD, optI, rg1, rg2, tupD, ix0, ix1, ix2, ix3, ix4, ix5, ix6, ix7, ix8, ix9, ix10, ix11, ix12, ix13, ix14, ix15, ixm1, ixm2, isiV, idxD, seqD, opB, opA, opC, truD, setT, setTs, eqD, full, frz, D.sub, D.subL, D.eqv, D.eqvL, D.depth, D.depthL, biD, permD, opI, dctD, isKey, newL, catD, SZ, isiD, tyOk, lstD, setD, mtD, okM, srcD, mkL, slcD, mkDct, putKD, getK, kEq, ofB_some, fin_pl, finX_pl, pl_non, pl_bl, pl_int, pl_str, pl_tup, pl_lst, pl_ro, plL_nil, plL_cons, fin_k, lg_lt, lg_lt2, mulOk_lit]
      · left
        obtain rfl : i = cp ss ws := by omega
        refine ⟨s, ?_, rfl, rfl⟩
        rcases cp_end ss ws with hc | hc | ⟨x, y, hx, hy, hb⟩
        · generalize cp ss ws = c at *
          have : ¬ c < ss.length := by omega
          simp [e_var, e_cst, e_tup, e_lst, e_bin, e_neg, e_cmp, e_is, e_chain, e_and, e_or, e_not, e_ife, e_idx, e_slc, e_rev, e_cat, e_dg1, e_dg2, e_tg1, e_tg2, e_tix, e_dcp, dgD, tgD, txD, dcpD, cpDct, revD, e_call, e_bi, e_isi, e_mth, e_fld, e_isx, e_lc, e_dct, xs_nil, xs_cons, xo_none, xo_some, ec_nil, ec_cons, s_asg, s_par, s_par3, s_setIx, s_aug, s_expr, s_ret, s_retN, s_ife, s_for, s_whl, s_pass, s_brk, s_cont, s_rais, s_try, ss_nil, ss_cons, e_T, i_seq, i_rng1, i_rng2, i_enum, of_some, bd_ok, bd_err, fo_ok, fo_err, sq_nx, sq_rt, sq_bk, sq_ct, sq_err, lp_nx, lp_ct, lp_bk, lp_rt, lp_err, tr_ok, tr_err, br_t, br_f, sbr_t, sbr_f, en_some, so_some, ag_some, go_t, tn_some, tu_ap, fr_st, fr_lv, fr_lvE, end_rt, end_nx, end_err, negD, optI, rg1, rg2, tupD, ix0, ix1, ix2, ix3, ix4, ix5, ix6, ix7, ix8, ix9, ix10, ix11, ix12, ix13, ix14, ix15, ixm1, ixm2, isiV, idxD, seqD, opB, opA, opC, truD, setT, setTs, eqD, full, frz, D.sub, D.subL, D.eqv, D.eqvL, D.depth, D.depthL, biD, permD, opI, dctD, isKey, newL, catD, SZ, isiD, tyOk, lstD, setD, mtD, okM, srcD, mkL, slcD, mkDct, putKD, getK, kEq, ofB_some, fin_pl, finX_pl, pl_non, pl_bl, pl_int, pl_str, pl_tup, pl_lst, pl_ro, plL_nil, plL_cons, fin_k, lg_lt, lg_lt2, mulOk_lit, this]
        · generalize cp ss ws = c at *
          have h3 : ¬ c < ws.length := by omega
          by_cases h2 : c < ss.length
          · simp [e_var, e_cst, e_tup, e_lst, e_bin, e_neg, e_cmp, e_is, e_chain, e_and, e_or, e_not, e_ife, e_idx, e_slc, e_rev, e_cat, e_dg1, e_dg2, e_tg1, e_tg2, e_tix, e_dcp, dgD, tgD, txD, dcpD, cpDct, revD, e_call, e_bi, e_isi, e_mth, e_fld, e_isx, e_lc, e_dct, xs_nil, xs_cons, xo_none, xo_some, ec_nil, ec_cons, s_asg, s_par, s_par3, s_setIx, s_aug, s_expr, s_ret, s_retN, s_ife, s_for, s_whl, s_pass, s_brk, s_cont, s_rais, s_try, ss_nil, ss_cons, e_T, i_seq, i_rng1, i_rng2, i_enum, of_some, bd_ok, bd_err, fo_ok, fo_err, sq_nx, sq_rt, sq_bk, sq_ct, sq_err, lp_nx, lp_ct, lp_bk, lp_rt, lp_err, tr_ok, tr_err, br_t, br_f, sbr_t, sbr_f, en_some, so_some, ag_some, go_t, tn_some, tu_ap, fr_st, fr_lv, fr_lvE, end_rt, end_nx, end_err, negD, optI, rg1, rg2, tupD, ix0, ix1, ix2, ix3, ix4, ix5, ix6, ix7, ix8, ix9, ix10, ix11, ix12, ix13, ix14, ix15, ixm1, ixm2, isiV, idxD, seqD, opB, opA, opC, truD, setT, setTs, eqD, full, frz, D.sub, D.subL, D.eqv, D.eqvL, D.depth, D.depthL, biD, permD, opI, dctD, isKey, newL, catD, SZ, isiD, tyOk, lstD, setD, mtD, okM, srcD, mkL, slcD, mkDct, putKD, getK, kEq, ofB_some, fin_pl, finX_pl, pl_non, pl_bl, pl_int, pl_str, pl_tup, pl_lst, pl_ro, plL_nil, plL_cons, fin_k, lg_lt, lg_lt2, mulOk_lit, h2, h3]
          · simp [e_var, e_cst, e_tup, e_lst, e_bin, e_neg, e_cmp, e_is, e_chain, e_and, e_or, e_not, e_ife, e_idx, e_slc, e_rev, e_cat, e_dg1, e_dg2, e_tg1, e_tg2, e_tix, e_dcp, dgD, tgD, txD, dcpD, cpDct, revD, e_call, e_bi, e_isi, e_mth, e_fld, e_isx, e_lc, e_dct, xs_nil, xs_cons, xo_none, xo_some, ec_nil, ec_cons, s_asg, s_par, s_par3, s_setIx, s_aug, s_expr, s_ret, s_retN, s_ife, s_for, s_whl, s_pass, s_brk, s_cont, s_rais, s_try, ss_nil, ss_cons, e_T, i_seq, i_rng1, i_rng2, i_enum, of_some, bd_ok, bd_err, fo_ok, fo_err, sq_nx, sq_rt, sq_bk, sq_ct, sq_err, lp_nx, lp_ct, lp_bk, lp_rt, lp_err, tr_ok, tr_err, br_t, br_f, sbr_t, sbr_f, en_some, so_some, ag_some, go_t, tn_some, tu_ap, fr_st, fr_lv, fr_lvE, end_rt, end_nx, end_err, negD, optI, rg1, rg2, tupD, ix0, ix1, ix2, ix3, ix4, ix5, ix6, ix7, ix8, ix9, ix10, ix11, ix12, ix13, ix14, ix15, ixm1, ixm2, isiV, idxD, seqD, opB, opA, opC, truD, setT, setTs, eqD, full, frz, D.sub, D.subL, D.eqv, D.eqvL, D.depth, D.depthL, biD, permD, opI, dctD, isKey, newL, catD, SZ, isiD, tyOk, lstD, setD, mtD, okM, srcD, mkL, slcD, mkDct, putKD, getK, kEq, ofB_some, fin_pl, finX_pl, pl_non, pl_bl, pl_int, pl_str, pl_tup, pl_lst, pl_ro, plL_nil, plL_cons, fin_k, lg_lt, lg_lt2, mulOk_lit, h2]
        · generalize cp ss ws = c at *
          have l2 : c < ss.length := (List.getElem?_eq_some_iff.mp hx).1
          have l3 : c < ws.length := (List.getElem?_eq_some_iff.mp hy).1
          have i2 := ixs l2
          have i3 := ixw l3
          have sx := hs x (List.mem_of_getElem? hx)
          have sy := hw y (List.mem_of_getElem? hy)
          have fx := sub_st sx
          have fy := sub_st sy
          have dx := st_dep sx
          have hdep : min (D.depth x) (D.depth y) ≤ 60 := by omega
          have gx := (List.getElem?_eq_some_iff.mp hx).2
          have gy := (List.getElem?_eq_some_iff.mp hy).2
          simp [e_var, e_cst, e_tup, e_lst, e_bin, e_neg, e_cmp, e_is, e_chain, e_and, e_or, e_not, e_ife, e_idx, e_slc, e_rev, e_cat, e_dg1, e_dg2, e_tg1, e_tg2, e_tix, e_dcp, dgD, tgD, txD, dcpD, cpDct, revD, e_call, e_bi, e_isi, e_mth, e_fld, e_isx, e_lc, e_dct, xs_nil, xs_cons, xo_none, xo_some, ec_nil, ec_cons, s_asg, s_par, s_par3, s_setIx, s_aug, s_expr, s_ret, s_retN, s_ife, s_for, s_whl, s_pass, s_brk, s_cont, s_rais, s_try, ss_nil, ss_cons, e_T, i_seq, i_rng1, i_rng2, i_enum, of_some, bd_ok, bd_err, fo_ok, fo_err, sq_nx, sq_rt, sq_bk, sq_ct, sq_err, lp_nx, lp_ct, lp_bk, lp_rt, lp_err, tr_ok, tr_err, br_t, br_f, sbr_t, sbr_f, en_some, so_some, ag_some, go_t, tn_some, tu_ap, fr_st, fr_lv, fr_lvE, end_rt, end_nx, end_err, negD, optI, rg1, rg2, tupD, ix0, ix1, ix2, ix3, ix4, ix5, ix6, ix7, ix8, ix9, ix10, ix11, ix12, ix13, ix14, ix15, ixm1, ixm2, isiV, idxD, seqD, opB, opA, opC, truD, setT, setTs, eqD, full, frz, D.sub, D.subL, D.eqv, D.eqvL, D.depth, D.depthL, biD, permD, opI, dctD, isKey, newL, catD, SZ, isiD, tyOk, lstD, setD, mtD, okM, srcD, mkL, slcD, mkDct, putKD, getK, kEq, ofB_some, fin_pl, finX_pl, pl_non, pl_bl, pl_int, pl_str, pl_tup, pl_lst, pl_ro, plL_nil, plL_cons, fin_k, lg_lt, lg_lt2, mulOk_lit, l2, l3, i2, i3, gx, gy, fx, fy, hdep, hb])
    (m := cp ss ws - 0) (ρ := [some d, some e, some (.tup ss), some (.tup ws), some (.int ((0 : Nat) : Int))]) (st := st) ⟨0, rfl, rfl, by omega, rfl⟩ (Nat.lt_of_le_of_lt (show cp ss ws - 0 ≤ 100000 by omega) (by decide))
  refine call_run (F := F4) rfl rfl ?_
  simp only [Int.natCast_zero, Int.ofNat_zero, Int.cast_ofNat_Int] at hw'
  generalize cp ss ws = c at *
  simp [F4, b4, e_var, e_cst, e_tup, e_lst, e_bin, e_neg, e_cmp, e_is, e_chain, e_and, e_or, e_not, e_ife, e_idx, e_slc, e_rev, e_cat, e_dg1, e_dg2, e_tg1, e_tg2, e_tix, e_dcp, dgD, tgD, txD, dcpD, cpDct, revD, e_call, e_bi, e_isi, e_mth, e_fld, e_isx, e_lc, e_dct, xs_nil, xs_cons, xo_none, xo_some, ec_nil, ec_cons, s_asg, s_par, s_par3, s_setIx, s_aug, s_expr, s_ret, s_retN, s_ife, s_for, s_whl, s_pass, s_brk, s_cont, s_rais, s_try, ss_nil, ss_cons, e_T, i_seq, i_rng1, i_rng2, i_enum, of_some, bd_ok, bd_err, fo_ok, fo_err, sq_nx, sq_rt, sq_bk, sq_ct, sq_err, lp_nx, lp_ct, lp_bk, lp_rt, lp_err, tr_ok, tr_err, br_t, br_f, sbr_t, sbr_f, en_some, so_some, ag_some, go_t, tn_some, tu_ap, fr_st, fr_lv, fr_lvE, end_rt, end_nx, end_err, negD, optI, rg1, rg2, tupD, ix0, ix1, ix2, ix3, ix4, ix5, ix6, ix7, ix8, ix9, ix10, ix11, ix12, ix13, ix14, ix15, ixm1, ixm2, isiV, idxD, seqD, opB, opA, opC, truD, setT, setTs, eqD, full, frz, D.sub, D.subL, D.eqv, D.eqvL, D.depth, D.depthL, biD, permD, opI, dctD, isKey, newL, catD, SZ, isiD, tyOk, lstD, setD, mtD, okM, srcD, mkL, slcD, mkDct, putKD, getK, kEq, ofB_some, fin_pl, finX_pl, pl_non, pl_bl, pl_int, pl_str, pl_tup, pl_lst, pl_ro, plL_nil, plL_cons, fin_k, lg_lt, lg_lt2, mulOk_lit, e1, e2, hw']
/-! turning -/
def nzv (x y : Int) : Prop := x ≠ 0 ∨ y ≠ 0
abbrev V2 (x y : Int) : D := .tup [.int x, .int y]
theorem s_back (n : Nat) (st : Sto) (x y : Int) : callD fds anc (n + 1) 14 [V2 x y] st = .ok (V2 x (-y)) st := by
  refine call_run (F := F14) rfl rfl ?_
  simp [F14, b14, e_var, e_cst, e_tup, e_lst, e_bin, e_neg, e_cmp, e_is, e_chain, e_and, e_or, e_not, e_ife, e_idx, e_slc, e_rev, e_cat, e_dg1, e_dg2, e_tg1, e_tg2, e_tix, e_dcp, dgD, tgD, txD, dcpD, cpDct, revD, e_call, e_bi, e_isi, e_mth, e_fld, e_isx, e_lc, e_dct, xs_nil, xs_cons, xo_none, xo_some, ec_nil, ec_cons, s_asg, s_par, s_par3, s_setIx, s_aug, s_expr, s_ret, s_retN, s_ife, s_for, s_whl, s_pass, s_brk, s_cont, s_rais, s_try, ss_nil, ss_cons, e_T, i_seq, i_rng1, i_rng2, i_enum, of_some, bd_ok, bd_err, fo_ok, fo_err, sq_nx, sq_rt, sq_bk, sq_ct, sq_err, lp_nx, lp_ct, lp_bk, lp_rt, lp_err, tr_ok, tr_err, br_t, br_f, sbr_t, sbr_f, en_some, so_some, ag_some, go_t, tn_some, tu_ap, fr_st, fr_lv, fr_lvE, end_rt, end_nx, end_err, negD, optI, rg1, rg2, tupD, ix0, ix1, ix2, ix3, ix4, ix5, ix6, ix7, ix8, ix9, ix10, ix11, ix12, ix13, ix14, ix15, ixm1, ixm2, isiV, idxD, seqD, opB, opA, opC, truD, setT, setTs, eqD, full, frz, D.sub, D.subL, D.eqv, D.eqvL, D.depth, D.depthL, biD, permD, opI, dctD, isKey, newL, catD, SZ, isiD, tyOk, lstD, setD, mtD, okM, srcD, mkL, slcD, mkDct, putKD, getK, kEq, ofB_some, fin_pl, finX_pl, pl_non, pl_bl, pl_int, pl_str, pl_tup, pl_lst, pl_ro, plL_nil, plL_cons, fin_k, lg_lt, lg_lt2, mulOk_lit]
theorem s_prod (n : Nat) (st : Sto) (a b c d : Int) {K : Nat} (h1 : Sz K a) (h2 : Sz K b) (h3 : Sz 11 c) (h4 : Sz 11 d) (hK : K ≤ 800) : callD fds anc (n + 1) 12 [V2 a b, V2 c d] st = .ok (V2 (a * c - b * d) (a * d + b * c)) st := by
  refine call_run (F := F12) rfl rfl ?_
  have o1 := h1.ok h3 (by omega) (by decide)
  have o2 := h2.ok h4 (by omega) (by decide)
  have o3 := h1.ok h4 (by omega) (by decide)
  have o4 := h2.ok h3 (by omega) (by decide)
  simp [F12, b12, e_var, e_cst, e_tup, e_lst, e_bin, e_neg, e_cmp, e_is, e_chain, e_and, e_or, e_not, e_ife, e_idx, e_slc, e_rev, e_cat, e_dg1, e_dg2, e_tg1, e_tg2, e_tix, e_dcp, dgD, tgD, txD, dcpD, cpDct, revD, e_call, e_bi, e_isi, e_mth, e_fld, e_isx, e_lc, e_dct, xs_nil, xs_cons, xo_none, xo_some, ec_nil, ec_cons, s_asg, s_par, s_par3, s_setIx, s_aug, s_expr, s_ret, s_retN, s_ife, s_for, s_whl, s_pass, s_brk, s_cont, s_rais, s_try, ss_nil, ss_cons, e_T, i_seq, i_rng1, i_rng2, i_enum, of_some, bd_ok, bd_err, fo_ok, fo_err, sq_nx, sq_rt, sq_bk, sq_ct, sq_err, lp_nx, lp_ct, lp_bk, lp_rt, lp_err, tr_ok, tr_err, br_t, br_f, sbr_t, sbr_f, en_some, so_some, ag_some, go_t, tn_some, tu_ap, fr_st, fr_lv, fr_lvE, end_rt, end_nx, end_err, negD, optI, rg1, rg2, tupD, ix0, ix1, ix2, ix3, ix4, ix5, ix6, ix7, ix8, ix9, ix10, ix11, ix12, ix13, ix14, ix15, ixm1, ixm2, isiV, idxD, seqD, opB, opA, opC, truD, setT, setTs, eqD, full, frz, D.sub, D.subL, D.eqv, D.eqvL, D.depth, D.depthL, biD, permD, opI, dctD, isKey, newL, catD, SZ, isiD, tyOk, lstD, setD, mtD, okM, srcD, mkL, slcD, mkDct, putKD, getK, kEq, ofB_some, fin_pl, finX_pl, pl_non, pl_bl, pl_int, pl_str, pl_tup, pl_lst, pl_ro, plL_nil, plL_cons, fin_k, lg_lt, lg_lt2, mulOk_lit, o1, o2, o3, o4]
theorem sq_nn (a : Int) : 0 ≤ a * a := by
  rcases Int.le_total 0 a with h | h
  · exact Int.mul_nonneg h h
  · have := Int.mul_nonneg_of_nonpos_of_nonpos h h; exact this
theorem sq_0 {a b : Int} (h : a * a + b * b = 0) : a = 0 ∧ b = 0 := by
  have h1 := sq_nn a
  have h2 := sq_nn b
  have h3 : a * a = 0 := by omega
  have h4 : b * b = 0 := by omega
  exact ⟨by rcases Int.mul_eq_zero.mp h3 with h | h <;> exact h, by rcases Int.mul_eq_zero.mp h4 with h | h <;> exact h⟩
theorem prod_nz {a b c d : Int} (h : nzv a b) (k : nzv c d) : nzv (a * c - b * d) (a * d + b * c) := by
  unfold nzv
  by_cases h1 : a * c - b * d = 0
  · by_cases h2 : a * d + b * c = 0
    · exfalso
      have e : (a * a + b * b) * (c * c + d * d) = (a * c - b * d) * (a * c - b * d) + (a * d + b * c) * (a * d + b * c) := by grind
      rw [h1, h2] at e
      simp only [Int.mul_zero, Int.zero_add, Int.zero_mul, Int.add_zero] at e
      rcases Int.mul_eq_zero.mp e with e | e
      · obtain ⟨rfl, rfl⟩ := sq_0 e
        unfold nzv at h; omega
      · obtain ⟨rfl, rfl⟩ := sq_0 e
        unfold nzv at k; omega
    · exact .inr h2
  · exact .inl h1
theorem gcd_loop (n : Nat) (st : Sto) (V : D) (a b : Nat) (ha : a < 2 ^ 190) (hb : b < 2 ^ 190) : ∃ z : Option D, RS.wh (cal n) (.cmp .gt (.var 2) (.cst (.int 0))) l13_0 [some V, some (.int a), some (.int b), none] st = .ok .nx [some V, some (.int (Nat.gcd a b : Nat)), some (.int 0), z] st := by
  obtain ⟨ρ', s', hw, z, rfl, rfl⟩ := wh_rule (C := cal n) (c := .cmp .gt (.var 2) (.cst (.int 0))) (b := l13_0)
    (fun m ρ s => ∃ (p q : Nat) (z : Option D), ρ = [some V, some (.int p), some (.int q), z] ∧ s = st ∧ Nat.gcd p q = Nat.gcd a b ∧ m = q ∧ q < 2 ^ 190)
    (fun ρ s => ∃ z : Option D, ρ = [some V, some (.int (Nat.gcd a b : Nat)), some (.int 0), z] ∧ s = st) (by
      rintro m ρ s ⟨p, q, z, rfl, rfl, hg, rfl, hq⟩
      by_cases h0 : 0 < m
      · right
        have hm := Nat.mod_lt p h0
        have lg : m.log2 < 9000 := Nat.lt_trans ((Nat.log2_lt (by omega)).mpr hq) (by decide)
        have e : ((p : Int) % (m : Int)) = ((p % m : Nat) : Int) := by omega
        have h0' : ¬ m = 0 := by omega
        refine ⟨s, [some V, some (.int (m : Int)), some (.int ((p % m : Nat) : Int)), some (.int ((p % m : Nat) : Int))], s, p % m, by simp [e_var, e_cst, e_tup, e_lst, e_bin, e_neg, e_cmp, e_is, e_chain, e_and, e_or, e_not, e_ife, e_idx, e_slc, e_rev, e_cat, e_dg1, e_dg2, e_tg1, e_tg2, e_tix, e_dcp, dgD, tgD, txD, dcpD, cpDct, revD, e_call, e_bi, e_isi, e_mth, e_fld, e_isx, e_lc, e_dct, xs_nil, xs_cons, xo_none, xo_some, ec_nil, ec_cons, s_asg, s_par, s_par3, s_setIx, s_aug, s_expr, s_ret, s_retN, s_ife, s_for, s_whl, s_pass, s_brk, s_cont, s_rais, s_try, ss_nil, ss_cons, e_T, i_seq, i_rng1, i_rng2, i_enum, of_some, bd_ok, bd_err, fo_ok, fo_err, sq_nx, sq_rt, sq_bk, sq_ct, sq_err, lp_nx, lp_ct, lp_bk, lp_rt, lp_err, tr_ok, tr_err, br_t, br_f, sbr_t, sbr_f, en_some, so_some, ag_some, go_t, tn_some, tu_ap, fr_st, fr_lv, fr_lvE, end_rt, end_nx, end_err, negD, optI, rg1, rg2, tupD, ix0, ix1, ix2, ix3, ix4, ix5, ix6, ix7, ix8, ix9, ix10, ix11, ix12, ix13, ix14, ix15, ixm1, ixm2, isiV, idxD, seqD, opB, opA, opC, truD, setT, setTs, eqD, full, frz, D.sub, D.subL, D.eqv, D.eqvL, D.depth, D.depthL, biD, permD, opI, dctD, isKey, newL, catD, SZ, isiD, tyOk, lstD, setD, mtD, okM, srcD, mkL, slcD, mkDct, putKD, getK, kEq, ofB_some, fin_pl, finX_pl, pl_non, pl_bl, pl_int, pl_str, pl_tup, pl_lst, pl_ro, plL_nil, plL_cons, fin_k, lg_lt, lg_lt2, mulOk_lit, h0], .inl ?_, hm, m, p % m, _, rfl, rfl, ?_, rfl, Nat.lt_trans hm hq⟩
        · generalize p % m = r at *
          simp [l13_0, e_var, e_cst, e_tup, e_lst, e_bin, e_neg, e_cmp, e_is, e_chain, e_and, e_or, e_not, e_ife, e_idx, e_slc, e_rev, e_cat, e_dg1, e_dg2, e_tg1, e_tg2, e_tix, e_dcp, dgD, tgD, txD, dcpD, cpDct, revD, e_call, e_bi, e_isi, e_mth, e_fld, e_isx, e_lc, e_dct, xs_nil, xs_cons, xo_none, xo_some, ec_nil, ec_cons, s_asg, s_par, s_par3, s_setIx, s_aug, s_expr, s_ret, s_retN, s_ife, s_for, s_whl, s_pass, s_brk, s_cont, s_rais, s_try, ss_nil, ss_cons, e_T, i_seq, i_rng1, i_rng2, i_enum, of_some, bd_ok, bd_err, fo_ok, fo_err, sq_nx, sq_rt, sq_bk, sq_ct, sq_err, lp_nx, lp_ct, lp_bk, lp_rt, lp_err, tr_ok, tr_err, br_t, br_f, sbr_t, sbr_f, en_some, so_some, ag_some, go_t, tn_some, tu_ap, fr_st, fr_lv, fr_lvE, end_rt, end_nx, end_err, negD, optI, rg1, rg2, tupD, ix0, ix1, ix2, ix3, ix4, ix5, ix6, ix7, ix8, ix9, ix10, ix11, ix12, ix13, ix14, ix15, ixm1, ixm2, isiV, idxD, seqD, opB, opA, opC, truD, setT, setTs, eqD, full, frz, D.sub, D.subL, D.eqv, D.eqvL, D.depth, D.depthL, biD, permD, opI, dctD, isKey, newL, catD, SZ, isiD, tyOk, lstD, setD, mtD, okM, srcD, mkL, slcD, mkDct, putKD, getK, kEq, ofB_some, fin_pl, finX_pl, pl_non, pl_bl, pl_int, pl_str, pl_tup, pl_lst, pl_ro, plL_nil, plL_cons, fin_k, lg_lt, lg_lt2, mulOk_lit, e, h0, h0', lg]
        · rw [← hg, Nat.gcd_comm m, ← Nat.gcd_rec, Nat.gcd_comm]
      · left
        obtain rfl : m = 0 := by omega
        rw [Nat.gcd_zero_right] at hg
        subst hg
        exact ⟨s, by simp [e_var, e_cst, e_tup, e_lst, e_bin, e_neg, e_cmp, e_is, e_chain, e_and, e_or, e_not, e_ife, e_idx, e_slc, e_rev, e_cat, e_dg1, e_dg2, e_tg1, e_tg2, e_tix, e_dcp, dgD, tgD, txD, dcpD, cpDct, revD, e_call, e_bi, e_isi, e_mth, e_fld, e_isx, e_lc, e_dct, xs_nil, xs_cons, xo_none, xo_some, ec_nil, ec_cons, s_asg, s_par, s_par3, s_setIx, s_aug, s_expr, s_ret, s_retN, s_ife, s_for, s_whl, s_pass, s_brk, s_cont, s_rais, s_try, ss_nil, ss_cons, e_T, i_seq, i_rng1, i_rng2, i_enum, of_some, bd_ok, bd_err, fo_ok, fo_err, sq_nx, sq_rt, sq_bk, sq_ct, sq_err, lp_nx, lp_ct, lp_bk, lp_rt, lp_err, tr_ok, tr_err, br_t, br_f, sbr_t, sbr_f, en_some, so_some, ag_some, go_t, tn_some, tu_ap, fr_st, fr_lv, fr_lvE, end_rt, end_nx, end_err, negD, optI, rg1, rg2, tupD, ix0, ix1, ix2, ix3, ix4, ix5, ix6, ix7, ix8, ix9, ix10, ix11, ix12, ix13, ix14, ix15, ixm1, ixm2, isiV, idxD, seqD, opB, opA, opC, truD, setT, setTs, eqD, full, frz, D.sub, D.subL, D.eqv, D.eqvL, D.depth, D.depthL, biD, permD, opI, dctD, isKey, newL, catD, SZ, isiD, tyOk, lstD, setD, mtD, okM, srcD, mkL, slcD, mkDct, putKD, getK, kEq, ofB_some, fin_pl, finX_pl, pl_non, pl_bl, pl_int, pl_str, pl_tup, pl_lst, pl_ro, plL_nil, plL_cons, fin_k, lg_lt, lg_lt2, mulOk_lit], z, rfl, rfl⟩)
    (m := b) (ρ := [some V, some (.int a), some (.int b), none]) (st := st) ⟨a, b, none, rfl, rfl, rfl, rfl, hb⟩ (Nat.lt_trans hb (by decide))
  exact ⟨z, hw⟩
theorem s_least (n : Nat) (st : Sto) (x y : Int) (h : nzv x y) (hx : Sz 180 x) (hy : Sz 180 y) : ∃ u v : Int, callD fds anc (n + 1) 13 [V2 x y] st = .ok (V2 u v) st ∧ nzv u v ∧ u.natAbs ≤ x.natAbs ∧ v.natAbs ≤ y.natAbs := by
  unfold Sz at hx hy
  obtain ⟨z, e⟩ := gcd_loop n st (V2 x y) x.natAbs y.natAbs (Nat.lt_trans hx (by decide)) (Nat.lt_trans hy (by decide))
  have hg : 0 < Nat.gcd x.natAbs y.natAbs := by
    rcases h with h | h
    · exact Nat.gcd_pos_of_pos_left _ (by omega)
    · exact Nat.gcd_pos_of_pos_right _ (by omega)
  have d1 := Nat.gcd_dvd_left x.natAbs y.natAbs
  have d2 := Nat.gcd_dvd_right x.natAbs y.natAbs
  have lg : (Nat.gcd x.natAbs y.natAbs).log2 < 9000 := by
    refine Nat.lt_trans ((Nat.log2_lt (by omega)).mpr (?_ : _ < 2 ^ 180)) (by decide)
    rcases h with h | h
    · exact Nat.lt_of_le_of_lt (Nat.le_of_dvd (by omega) d1) hx
    · exact Nat.lt_of_le_of_lt (Nat.le_of_dvd (by omega) d2) hy
  generalize Nat.gcd x.natAbs y.natAbs = g at *
  have e1 : (g : Int) ∣ x := Int.ofNat_dvd_left.mpr d1
  have e2 : (g : Int) ∣ y := Int.ofNat_dvd_left.mpr d2
  have gp : (0 : Int) < g := by omega
  refine ⟨x / g, y / g, call_run (F := F13) rfl rfl ?_, ?_, div_abs _ gp, div_abs _ gp⟩
  · have ex : (if x < 0 then -x else x) = (x.natAbs : Int) := by split <;> omega
    have ey : (if y < 0 then -y else y) = (y.natAbs : Int) := by split <;> omega
    have g0 : ¬ g = 0 := by omega
    simp [F13, b13, e_var, e_cst, e_tup, e_lst, e_bin, e_neg, e_cmp, e_is, e_chain, e_and, e_or, e_not, e_ife, e_idx, e_slc, e_rev, e_cat, e_dg1, e_dg2, e_tg1, e_tg2, e_tix, e_dcp, dgD, tgD, txD, dcpD, cpDct, revD, e_call, e_bi, e_isi, e_mth, e_fld, e_isx, e_lc, e_dct, xs_nil, xs_cons, xo_none, xo_some, ec_nil, ec_cons, s_asg, s_par, s_par3, s_setIx, s_aug, s_expr, s_ret, s_retN, s_ife, s_for, s_whl, s_pass, s_brk, s_cont, s_rais, s_try, ss_nil, ss_cons, e_T, i_seq, i_rng1, i_rng2, i_enum, of_some, bd_ok, bd_err, fo_ok, fo_err, sq_nx, sq_rt, sq_bk, sq_ct, sq_err, lp_nx, lp_ct, lp_bk, lp_rt, lp_err, tr_ok, tr_err, br_t, br_f, sbr_t, sbr_f, en_some, so_some, ag_some, go_t, tn_some, tu_ap, fr_st, fr_lv, fr_lvE, end_rt, end_nx, end_err, negD, optI, rg1, rg2, tupD, ix0, ix1, ix2, ix3, ix4, ix5, ix6, ix7, ix8, ix9, ix10, ix11, ix12, ix13, ix14, ix15, ixm1, ixm2, isiV, idxD, seqD, opB, opA, opC, truD, setT, setTs, eqD, full, frz, D.sub, D.subL, D.eqv, D.eqvL, D.depth, D.depthL, biD, permD, opI, dctD, isKey, newL, catD, SZ, isiD, tyOk, lstD, setD, mtD, okM, srcD, mkL, slcD, mkDct, putKD, getK, kEq, ofB_some, fin_pl, finX_pl, pl_non, pl_bl, pl_int, pl_str, pl_tup, pl_lst, pl_ro, plL_nil, plL_cons, fin_k, lg_lt, lg_lt2, mulOk_lit, ex, ey, e, hg, lg, g0]
  · rcases h with h | h
    · exact .inl fun e => h (by have := Int.ediv_mul_cancel e1; rw [e, Int.zero_mul] at this; omega)
    · exact .inr fun e => h (by have := Int.ediv_mul_cancel e2; rw [e, Int.zero_mul] at this; omega)
end K44
set_option Elab.async false
set_option linter.all false
set_option maxRecDepth 100000
set_option maxHeartbeats 4000000
namespace K44
open DI
def hf (x y : Int) : Int := if 0 < y then 0 else if y = 0 ∧ 0 < x then 0 else 1
theorem hf_01 (x y : Int) : hf x y = 0 ∨ hf x y = 1 := by
  unfold hf
  split
  · exact .inl rfl
  · split
    · exact .inl rfl
    · exact .inr rfl
def hfF (d : D) : D := match d with
  | .tup [.int x, .int y] => .int (hf x y)
  | d => d
theorem s_earlier (n : Nat) (st : Sto) (a b c d : Int) {K L : Nat} (h1 : Sz K a) (h2 : Sz K b) (h3 : Sz L c) (h4 : Sz L d) (hK : K ≤ 800) (hL : L ≤ 800) : ∃ r : Bool, callD fds anc (n + 1) 15 [V2 a b, V2 c d] st = .ok (.bl r) st := by
  have lc : R.lc (cal n) (.nm 3) [] (.ife (.or (.cmp .gt (.idx (.var 3) (.cst (.int 1))) (.cst (.int 0))) (.and (.cmp .eq (.idx (.var 3) (.cst (.int 1))) (.cst (.int 0))) (.cmp .gt (.idx (.var 3) (.cst (.int 0))) (.cst (.int 0))))) (.cst (.int 0)) (.cst (.int 1))) [3] (.st [V2 a b, V2 c d]) [some (V2 a b), some (V2 c d), none, none] st = .ok [.int (hf a b), .int (hf c d)] st := by
    refine (lc_map hfF fun x hx => ?_).trans rfl
    obtain ⟨u, v, rfl⟩ : ∃ u v : Int, x = V2 u v := by
      simp only [List.mem_cons, List.not_mem_nil, or_false] at hx
      rcases hx with rfl | rfl <;> exact ⟨_, _, rfl⟩
    refine ⟨[some (V2 a b), some (V2 c d), none, some (V2 u v)], rfl, by simp [e_var, e_cst, e_tup, e_lst, e_bin, e_neg, e_cmp, e_is, e_chain, e_and, e_or, e_not, e_ife, e_idx, e_slc, e_rev, e_cat, e_dg1, e_dg2, e_tg1, e_tg2, e_tix, e_dcp, dgD, tgD, txD, dcpD, cpDct, revD, e_call, e_bi, e_isi, e_mth, e_fld, e_isx, e_lc, e_dct, xs_nil, xs_cons, xo_none, xo_some, ec_nil, ec_cons, s_asg, s_par, s_par3, s_setIx, s_aug, s_expr, s_ret, s_retN, s_ife, s_for, s_whl, s_pass, s_brk, s_cont, s_rais, s_try, ss_nil, ss_cons, e_T, i_seq, i_rng1, i_rng2, i_enum, of_some, bd_ok, bd_err, fo_ok, fo_err, sq_nx, sq_rt, sq_bk, sq_ct, sq_err, lp_nx, lp_ct, lp_bk, lp_rt, lp_err, tr_ok, tr_err, br_t, br_f, sbr_t, sbr_f, en_some, so_some, ag_some, go_t, tn_some, tu_ap, fr_st, fr_lv, fr_lvE, end_rt, end_nx, end_err, negD, optI, rg1, rg2, tupD, ix0, ix1, ix2, ix3, ix4, ix5, ix6, ix7, ix8, ix9, ix10, ix11, ix12, ix13, ix14, ix15, ixm1, ixm2, isiV, idxD, seqD, opB, opA, opC, truD, setT, setTs, eqD, full, frz, D.sub, D.subL, D.eqv, D.eqvL, D.depth, D.depthL, biD, permD, opI, dctD, isKey, newL, catD, SZ, isiD, tyOk, lstD, setD, mtD, okM, srcD, mkL, slcD, mkDct, putKD, getK, kEq, ofB_some, fin_pl, finX_pl, pl_non, pl_bl, pl_int, pl_str, pl_tup, pl_lst, pl_ro, plL_nil, plL_cons, fin_k, lg_lt, lg_lt2, mulOk_lit], ?_⟩
    by_cases p : 0 < v
    · simp [e_var, e_cst, e_tup, e_lst, e_bin, e_neg, e_cmp, e_is, e_chain, e_and, e_or, e_not, e_ife, e_idx, e_slc, e_rev, e_cat, e_dg1, e_dg2, e_tg1, e_tg2, e_tix, e_dcp, dgD, tgD, txD, dcpD, cpDct, revD, e_call, e_bi, e_isi, e_mth, e_fld, e_isx, e_lc, e_dct, xs_nil, xs_cons, xo_none, xo_some, ec_nil, ec_cons, s_asg, s_par, s_par3, s_setIx, s_aug, s_expr, s_ret, s_retN, s_ife, s_for, s_whl, s_pass, s_brk, s_cont, s_rais, s_try, ss_nil, ss_cons, e_T, i_seq, i_rng1, i_rng2, i_enum, of_some, bd_ok, bd_err, fo_ok, fo_err, sq_nx, sq_rt, sq_bk, sq_ct, sq_err, lp_nx, lp_ct, lp_bk, lp_rt, lp_err, tr_ok, tr_err, br_t, br_f, sbr_t, sbr_f, en_some, so_some, ag_some, go_t, tn_some, tu_ap, fr_st, fr_lv, fr_lvE, end_rt, end_nx, end_err, negD, optI, rg1, rg2, tupD, ix0, ix1, ix2, ix3, ix4, ix5, ix6, ix7, ix8, ix9, ix10, ix11, ix12, ix13, ix14, ix15, ixm1, ixm2, isiV, idxD, seqD, opB, opA, opC, truD, setT, setTs, eqD, full, frz, D.sub, D.subL, D.eqv, D.eqvL, D.depth, D.depthL, biD, permD, opI, dctD, isKey, newL, catD, SZ, isiD, tyOk, lstD, setD, mtD, okM, srcD, mkL, slcD, mkDct, putKD, getK, kEq, ofB_some, fin_pl, finX_pl, pl_non, pl_bl, pl_int, pl_str, pl_tup, pl_lst, pl_ro, plL_nil, plL_cons, fin_k, lg_lt, lg_lt2, mulOk_lit, p, hfF, hf]
    · by_cases q : v = 0
      · subst q
        by_cases w : 0 < u
        · simp [e_var, e_cst, e_tup, e_lst, e_bin, e_neg, e_cmp, e_is, e_chain, e_and, e_or, e_not, e_ife, e_idx, e_slc, e_rev, e_cat, e_dg1, e_dg2, e_tg1, e_tg2, e_tix, e_dcp, dgD, tgD, txD, dcpD, cpDct, revD, e_call, e_bi, e_isi, e_mth, e_fld, e_isx, e_lc, e_dct, xs_nil, xs_cons, xo_none, xo_some, ec_nil, ec_cons, s_asg, s_par, s_par3, s_setIx, s_aug, s_expr, s_ret, s_retN, s_ife, s_for, s_whl, s_pass, s_brk, s_cont, s_rais, s_try, ss_nil, ss_cons, e_T, i_seq, i_rng1, i_rng2, i_enum, of_some, bd_ok, bd_err, fo_ok, fo_err, sq_nx, sq_rt, sq_bk, sq_ct, sq_err, lp_nx, lp_ct, lp_bk, lp_rt, lp_err, tr_ok, tr_err, br_t, br_f, sbr_t, sbr_f, en_some, so_some, ag_some, go_t, tn_some, tu_ap, fr_st, fr_lv, fr_lvE, end_rt, end_nx, end_err, negD, optI, rg1, rg2, tupD, ix0, ix1, ix2, ix3, ix4, ix5, ix6, ix7, ix8, ix9, ix10, ix11, ix12, ix13, ix14, ix15, ixm1, ixm2, isiV, idxD, seqD, opB, opA, opC, truD, setT, setTs, eqD, full, frz, D.sub, D.subL, D.eqv, D.eqvL, D.depth, D.depthL, biD, permD, opI, dctD, isKey, newL, catD, SZ, isiD, tyOk, lstD, setD, mtD, okM, srcD, mkL, slcD, mkDct, putKD, getK, kEq, ofB_some, fin_pl, finX_pl, pl_non, pl_bl, pl_int, pl_str, pl_tup, pl_lst, pl_ro, plL_nil, plL_cons, fin_k, lg_lt, lg_lt2, mulOk_lit, w, hfF, hf]
        · simp [e_var, e_cst, e_tup, e_lst, e_bin, e_neg, e_cmp, e_is, e_chain, e_and, e_or, e_not, e_ife, e_idx, e_slc, e_rev, e_cat, e_dg1, e_dg2, e_tg1, e_tg2, e_tix, e_dcp, dgD, tgD, txD, dcpD, cpDct, revD, e_call, e_bi, e_isi, e_mth, e_fld, e_isx, e_lc, e_dct, xs_nil, xs_cons, xo_none, xo_some, ec_nil, ec_cons, s_asg, s_par, s_par3, s_setIx, s_aug, s_expr, s_ret, s_retN, s_ife, s_for, s_whl, s_pass, s_brk, s_cont, s_rais, s_try, ss_nil, ss_cons, e_T, i_seq, i_rng1, i_rng2, i_enum, of_some, bd_ok, bd_err, fo_ok, fo_err, sq_nx, sq_rt, sq_bk, sq_ct, sq_err, lp_nx, lp_ct, lp_bk, lp_rt, lp_err, tr_ok, tr_err, br_t, br_f, sbr_t, sbr_f, en_some, so_some, ag_some, go_t, tn_some, tu_ap, fr_st, fr_lv, fr_lvE, end_rt, end_nx, end_err, negD, optI, rg1, rg2, tupD, ix0, ix1, ix2, ix3, ix4, ix5, ix6, ix7, ix8, ix9, ix10, ix11, ix12, ix13, ix14, ix15, ixm1, ixm2, isiV, idxD, seqD, opB, opA, opC, truD, setT, setTs, eqD, full, frz, D.sub, D.subL, D.eqv, D.eqvL, D.depth, D.depthL, biD, permD, opI, dctD, isKey, newL, catD, SZ, isiD, tyOk, lstD, setD, mtD, okM, srcD, mkL, slcD, mkDct, putKD, getK, kEq, ofB_some, fin_pl, finX_pl, pl_non, pl_bl, pl_int, pl_str, pl_tup, pl_lst, pl_ro, plL_nil, plL_cons, fin_k, lg_lt, lg_lt2, mulOk_lit, w, hfF, hf]
      · have q' : (v == 0) = false := by simpa using q
        simp [e_var, e_cst, e_tup, e_lst, e_bin, e_neg, e_cmp, e_is, e_chain, e_and, e_or, e_not, e_ife, e_idx, e_slc, e_rev, e_cat, e_dg1, e_dg2, e_tg1, e_tg2, e_tix, e_dcp, dgD, tgD, txD, dcpD, cpDct, revD, e_call, e_bi, e_isi, e_mth, e_fld, e_isx, e_lc, e_dct, xs_nil, xs_cons, xo_none, xo_some, ec_nil, ec_cons, s_asg, s_par, s_par3, s_setIx, s_aug, s_expr, s_ret, s_retN, s_ife, s_for, s_whl, s_pass, s_brk, s_cont, s_rais, s_try, ss_nil, ss_cons, e_T, i_seq, i_rng1, i_rng2, i_enum, of_some, bd_ok, bd_err, fo_ok, fo_err, sq_nx, sq_rt, sq_bk, sq_ct, sq_err, lp_nx, lp_ct, lp_bk, lp_rt, lp_err, tr_ok, tr_err, br_t, br_f, sbr_t, sbr_f, en_some, so_some, ag_some, go_t, tn_some, tu_ap, fr_st, fr_lv, fr_lvE, end_rt, end_nx, end_err, negD, optI, rg1, rg2, tupD, ix0, ix1, ix2, ix3, ix4, ix5, ix6, ix7, ix8, ix9, ix10, ix11, ix12, ix13, ix14, ix15, ixm1, ixm2, isiV, idxD, seqD, opB, opA, opC, truD, setT, setTs, eqD, full, frz, D.sub, D.subL, D.eqv, D.eqvL, D.depth, D.depthL, biD, permD, opI, dctD, isKey, newL, catD, SZ, isiD, tyOk, lstD, setD, mtD, okM, srcD, mkL, slcD, mkDct, putKD, getK, kEq, ofB_some, fin_pl, finX_pl, pl_non, pl_bl, pl_int, pl_str, pl_tup, pl_lst, pl_ro, plL_nil, plL_cons, fin_k, lg_lt, lg_lt2, mulOk_lit, p, q, q', hfF, hf]
  have o1 := h1.ok h4 (by omega) (by omega)
  have o2 := h2.ok h3 (by omega) (by omega)
  have p1 := hf_01 a b
  have p2 := hf_01 c d
  generalize hf a b = p at *
  generalize hf c d = q at *
  by_cases hpq : p = q
  · subst hpq
    by_cases ht : b * c < a * d
    · refine ⟨true, call_run (F := F15) rfl rfl ?_⟩
      simp [F15, b15, e_var, e_cst, e_tup, e_lst, e_bin, e_neg, e_cmp, e_is, e_chain, e_and, e_or, e_not, e_ife, e_idx, e_slc, e_rev, e_cat, e_dg1, e_dg2, e_tg1, e_tg2, e_tix, e_dcp, dgD, tgD, txD, dcpD, cpDct, revD, e_call, e_bi, e_isi, e_mth, e_fld, e_isx, e_lc, e_dct, xs_nil, xs_cons, xo_none, xo_some, ec_nil, ec_cons, s_asg, s_par, s_par3, s_setIx, s_aug, s_expr, s_ret, s_retN, s_ife, s_for, s_whl, s_pass, s_brk, s_cont, s_rais, s_try, ss_nil, ss_cons, e_T, i_seq, i_rng1, i_rng2, i_enum, of_some, bd_ok, bd_err, fo_ok, fo_err, sq_nx, sq_rt, sq_bk, sq_ct, sq_err, lp_nx, lp_ct, lp_bk, lp_rt, lp_err, tr_ok, tr_err, br_t, br_f, sbr_t, sbr_f, en_some, so_some, ag_some, go_t, tn_some, tu_ap, fr_st, fr_lv, fr_lvE, end_rt, end_nx, end_err, negD, optI, rg1, rg2, tupD, ix0, ix1, ix2, ix3, ix4, ix5, ix6, ix7, ix8, ix9, ix10, ix11, ix12, ix13, ix14, ix15, ixm1, ixm2, isiV, idxD, seqD, opB, opA, opC, truD, setT, setTs, eqD, full, frz, D.sub, D.subL, D.eqv, D.eqvL, D.depth, D.depthL, biD, permD, opI, dctD, isKey, newL, catD, SZ, isiD, tyOk, lstD, setD, mtD, okM, srcD, mkL, slcD, mkDct, putKD, getK, kEq, ofB_some, fin_pl, finX_pl, pl_non, pl_bl, pl_int, pl_str, pl_tup, pl_lst, pl_ro, plL_nil, plL_cons, fin_k, lg_lt, lg_lt2, mulOk_lit, lc, o1, o2, ht]
    · refine ⟨false, call_run (F := F15) rfl rfl ?_⟩
      simp [F15, b15, e_var, e_cst, e_tup, e_lst, e_bin, e_neg, e_cmp, e_is, e_chain, e_and, e_or, e_not, e_ife, e_idx, e_slc, e_rev, e_cat, e_dg1, e_dg2, e_tg1, e_tg2, e_tix, e_dcp, dgD, tgD, txD, dcpD, cpDct, revD, e_call, e_bi, e_isi, e_mth, e_fld, e_isx, e_lc, e_dct, xs_nil, xs_cons, xo_none, xo_some, ec_nil, ec_cons, s_asg, s_par, s_par3, s_setIx, s_aug, s_expr, s_ret, s_retN, s_ife, s_for, s_whl, s_pass, s_brk, s_cont, s_rais, s_try, ss_nil, ss_cons, e_T, i_seq, i_rng1, i_rng2, i_enum, of_some, bd_ok, bd_err, fo_ok, fo_err, sq_nx, sq_rt, sq_bk, sq_ct, sq_err, lp_nx, lp_ct, lp_bk, lp_rt, lp_err, tr_ok, tr_err, br_t, br_f, sbr_t, sbr_f, en_some, so_some, ag_some, go_t, tn_some, tu_ap, fr_st, fr_lv, fr_lvE, end_rt, end_nx, end_err, negD, optI, rg1, rg2, tupD, ix0, ix1, ix2, ix3, ix4, ix5, ix6, ix7, ix8, ix9, ix10, ix11, ix12, ix13, ix14, ix15, ixm1, ixm2, isiV, idxD, seqD, opB, opA, opC, truD, setT, setTs, eqD, full, frz, D.sub, D.subL, D.eqv, D.eqvL, D.depth, D.depthL, biD, permD, opI, dctD, isKey, newL, catD, SZ, isiD, tyOk, lstD, setD, mtD, okM, srcD, mkL, slcD, mkDct, putKD, getK, kEq, ofB_some, fin_pl, finX_pl, pl_non, pl_bl, pl_int, pl_str, pl_tup, pl_lst, pl_ro, plL_nil, plL_cons, fin_k, lg_lt, lg_lt2, mulOk_lit, lc, o1, o2, ht]
  · have hpq' : (p == q) = false := by simpa using hpq
    by_cases ht : p < q
    · refine ⟨true, call_run (F := F15) rfl rfl ?_⟩
      simp [F15, b15, e_var, e_cst, e_tup, e_lst, e_bin, e_neg, e_cmp, e_is, e_chain, e_and, e_or, e_not, e_ife, e_idx, e_slc, e_rev, e_cat, e_dg1, e_dg2, e_tg1, e_tg2, e_tix, e_dcp, dgD, tgD, txD, dcpD, cpDct, revD, e_call, e_bi, e_isi, e_mth, e_fld, e_isx, e_lc, e_dct, xs_nil, xs_cons, xo_none, xo_some, ec_nil, ec_cons, s_asg, s_par, s_par3, s_setIx, s_aug, s_expr, s_ret, s_retN, s_ife, s_for, s_whl, s_pass, s_brk, s_cont, s_rais, s_try, ss_nil, ss_cons, e_T, i_seq, i_rng1, i_rng2, i_enum, of_some, bd_ok, bd_err, fo_ok, fo_err, sq_nx, sq_rt, sq_bk, sq_ct, sq_err, lp_nx, lp_ct, lp_bk, lp_rt, lp_err, tr_ok, tr_err, br_t, br_f, sbr_t, sbr_f, en_some, so_some, ag_some, go_t, tn_some, tu_ap, fr_st, fr_lv, fr_lvE, end_rt, end_nx, end_err, negD, optI, rg1, rg2, tupD, ix0, ix1, ix2, ix3, ix4, ix5, ix6, ix7, ix8, ix9, ix10, ix11, ix12, ix13, ix14, ix15, ixm1, ixm2, isiV, idxD, seqD, opB, opA, opC, truD, setT, setTs, eqD, full, frz, D.sub, D.subL, D.eqv, D.eqvL, D.depth, D.depthL, biD, permD, opI, dctD, isKey, newL, catD, SZ, isiD, tyOk, lstD, setD, mtD, okM, srcD, mkL, slcD, mkDct, putKD, getK, kEq, ofB_some, fin_pl, finX_pl, pl_non, pl_bl, pl_int, pl_str, pl_tup, pl_lst, pl_ro, plL_nil, plL_cons, fin_k, lg_lt, lg_lt2, mulOk_lit, lc, hpq, hpq', ht]
    · refine ⟨false, call_run (F := F15) rfl rfl ?_⟩
      simp [F15, b15, e_var, e_cst, e_tup, e_lst, e_bin, e_neg, e_cmp, e_is, e_chain, e_and, e_or, e_not, e_ife, e_idx, e_slc, e_rev, e_cat, e_dg1, e_dg2, e_tg1, e_tg2, e_tix, e_dcp, dgD, tgD, txD, dcpD, cpDct, revD, e_call, e_bi, e_isi, e_mth, e_fld, e_isx, e_lc, e_dct, xs_nil, xs_cons, xo_none, xo_some, ec_nil, ec_cons, s_asg, s_par, s_par3, s_setIx, s_aug, s_expr, s_ret, s_retN, s_ife, s_for, s_whl, s_pass, s_brk, s_cont, s_rais, s_try, ss_nil, ss_cons, e_T, i_seq, i_rng1, i_rng2, i_enum, of_some, bd_ok, bd_err, fo_ok, fo_err, sq_nx, sq_rt, sq_bk, sq_ct, sq_err, lp_nx, lp_ct, lp_bk, lp_rt, lp_err, tr_ok, tr_err, br_t, br_f, sbr_t, sbr_f, en_some, so_some, ag_some, go_t, tn_some, tu_ap, fr_st, fr_lv, fr_lvE, end_rt, end_nx, end_err, negD, optI, rg1, rg2, tupD, ix0, ix1, ix2, ix3, ix4, ix5, ix6, ix7, ix8, ix9, ix10, ix11, ix12, ix13, ix14, ix15, ixm1, ixm2, isiV, idxD, seqD, opB, opA, opC, truD, setT, setTs, eqD, full, frz, D.sub, D.subL, D.eqv, D.eqvL, D.depth, D.depthL, biD, permD, opI, dctD, isKey, newL, catD, SZ, isiD, tyOk, lstD, setD, mtD, okM, srcD, mkL, slcD, mkDct, putKD, getK, kEq, ofB_some, fin_pl, finX_pl, pl_non, pl_bl, pl_int, pl_str, pl_tup, pl_lst, pl_ro, plL_nil, plL_cons, fin_k, lg_lt, lg_lt2, mulOk_lit, lc, hpq, hpq', ht]
theorem s_turnedL (n : Nat) (st : Sto) (m a b x y : Int) {K : Nat} (h0 : nzv a b) (h1 : Sz K a) (h2 : Sz K b) (hK : K ≤ 160) (hv : okV x y) : ∃ m' u v : Int, callD fds anc (n + 2) 16 [.tup [.int m, V2 a b], .tup [.str tLeft, V2 x y]] st = .ok (.tup [.int m', V2 u v]) st ∧ nzv u v ∧ Sz (K + 12) u ∧ Sz (K + 12) v := by
  obtain ⟨v0, v1, v2⟩ := hv
  have z1 : Sz 11 x := by unfold Sz; omega
  have z2 : Sz 11 y := by unfold Sz; omega
  have e1 := s_prod n st a b x y h1 h2 z1 z2 (by omega)
  have p1 : Sz (K + 12) (a * x - b * y) := Sz.sub (h1.mul z1) (h2.mul z2)
  have p2 : Sz (K + 12) (a * y + b * x) := Sz.add (h1.mul z2) (h2.mul z1)
  obtain ⟨u, v, e2, n2, l1, l2⟩ := s_least n st _ _ (prod_nz h0 v0) (p1.mono (by omega)) (p2.mono (by omega))
  have q1 : Sz (K + 12) u := Nat.lt_of_le_of_lt l1 p1
  have q2 : Sz (K + 12) v := Nat.lt_of_le_of_lt l2 p2
  obtain ⟨r, e3⟩ := s_earlier n st u v a b q1 q2 h1 h2 (by omega) (by omega)
  generalize a * x - b * y = X at *
  generalize a * y + b * x = Y at *
  cases r with
  | true =>
    refine ⟨m + 1, u, v, call_run (F := F16) rfl rfl ?_, n2, q1, q2⟩
    simp [F16, b16, e_var, e_cst, e_tup, e_lst, e_bin, e_neg, e_cmp, e_is, e_chain, e_and, e_or, e_not, e_ife, e_idx, e_slc, e_rev, e_cat, e_dg1, e_dg2, e_tg1, e_tg2, e_tix, e_dcp, dgD, tgD, txD, dcpD, cpDct, revD, e_call, e_bi, e_isi, e_mth, e_fld, e_isx, e_lc, e_dct, xs_nil, xs_cons, xo_none, xo_some, ec_nil, ec_cons, s_asg, s_par, s_par3, s_setIx, s_aug, s_expr, s_ret, s_retN, s_ife, s_for, s_whl, s_pass, s_brk, s_cont, s_rais, s_try, ss_nil, ss_cons, e_T, i_seq, i_rng1, i_rng2, i_enum, of_some, bd_ok, bd_err, fo_ok, fo_err, sq_nx, sq_rt, sq_bk, sq_ct, sq_err, lp_nx, lp_ct, lp_bk, lp_rt, lp_err, tr_ok, tr_err, br_t, br_f, sbr_t, sbr_f, en_some, so_some, ag_some, go_t, tn_some, tu_ap, fr_st, fr_lv, fr_lvE, end_rt, end_nx, end_err, negD, optI, rg1, rg2, tupD, ix0, ix1, ix2, ix3, ix4, ix5, ix6, ix7, ix8, ix9, ix10, ix11, ix12, ix13, ix14, ix15, ixm1, ixm2, isiV, idxD, seqD, opB, opA, opC, truD, setT, setTs, eqD, full, frz, D.sub, D.subL, D.eqv, D.eqvL, D.depth, D.depthL, biD, permD, opI, dctD, isKey, newL, catD, SZ, isiD, tyOk, lstD, setD, mtD, okM, srcD, mkL, slcD, mkDct, putKD, getK, kEq, ofB_some, fin_pl, finX_pl, pl_non, pl_bl, pl_int, pl_str, pl_tup, pl_lst, pl_ro, plL_nil, plL_cons, fin_k, lg_lt, lg_lt2, mulOk_lit, setTs, e1, e2, e3]
  | false =>
    refine ⟨m, u, v, call_run (F := F16) rfl rfl ?_, n2, q1, q2⟩
    simp [F16, b16, e_var, e_cst, e_tup, e_lst, e_bin, e_neg, e_cmp, e_is, e_chain, e_and, e_or, e_not, e_ife, e_idx, e_slc, e_rev, e_cat, e_dg1, e_dg2, e_tg1, e_tg2, e_tix, e_dcp, dgD, tgD, txD, dcpD, cpDct, revD, e_call, e_bi, e_isi, e_mth, e_fld, e_isx, e_lc, e_dct, xs_nil, xs_cons, xo_none, xo_some, ec_nil, ec_cons, s_asg, s_par, s_par3, s_setIx, s_aug, s_expr, s_ret, s_retN, s_ife, s_for, s_whl, s_pass, s_brk, s_cont, s_rais, s_try, ss_nil, ss_cons, e_T, i_seq, i_rng1, i_rng2, i_enum, of_some, bd_ok, bd_err, fo_ok, fo_err, sq_nx, sq_rt, sq_bk, sq_ct, sq_err, lp_nx, lp_ct, lp_bk, lp_rt, lp_err, tr_ok, tr_err, br_t, br_f, sbr_t, sbr_f, en_some, so_some, ag_some, go_t, tn_some, tu_ap, fr_st, fr_lv, fr_lvE, end_rt, end_nx, end_err, negD, optI, rg1, rg2, tupD, ix0, ix1, ix2, ix3, ix4, ix5, ix6, ix7, ix8, ix9, ix10, ix11, ix12, ix13, ix14, ix15, ixm1, ixm2, isiV, idxD, seqD, opB, opA, opC, truD, setT, setTs, eqD, full, frz, D.sub, D.subL, D.eqv, D.eqvL, D.depth, D.depthL, biD, permD, opI, dctD, isKey, newL, catD, SZ, isiD, tyOk, lstD, setD, mtD, okM, srcD, mkL, slcD, mkDct, putKD, getK, kEq, ofB_some, fin_pl, finX_pl, pl_non, pl_bl, pl_int, pl_str, pl_tup, pl_lst, pl_ro, plL_nil, plL_cons, fin_k, lg_lt, lg_lt2, mulOk_lit, setTs, e1, e2, e3]
theorem s_turnedR (n : Nat) (st : Sto) (m a b x y : Int) {K : Nat} (h0 : nzv a b) (h1 : Sz K a) (h2 : Sz K b) (hK : K ≤ 160) (hv : okV x y) : ∃ m' u v : Int, callD fds anc (n + 2) 16 [.tup [.int m, V2 a b], .tup [.str tRight, V2 x y]] st = .ok (.tup [.int m', V2 u v]) st ∧ nzv u v ∧ Sz (K + 12) u ∧ Sz (K + 12) v := by
  obtain ⟨v0, v1, v2⟩ := hv
  have z1 : Sz 11 x := by unfold Sz; omega
  have z2 : Sz 11 (-y) := by unfold Sz; omega
  have e0 := s_back n st x y
  have e1 := s_prod n st a b x (-y) h1 h2 z1 z2 (by omega)
  have p1 : Sz (K + 12) (a * x - b * (-y)) := Sz.sub (h1.mul z1) (h2.mul z2)
  have p2 : Sz (K + 12) (a * (-y) + b * x) := Sz.add (h1.mul z2) (h2.mul z1)
  obtain ⟨u, v, e2, n2, l1, l2⟩ := s_least n st _ _ (prod_nz h0 (show nzv x (-y) by unfold nzv; omega)) (p1.mono (by omega)) (p2.mono (by omega))
  have q1 : Sz (K + 12) u := Nat.lt_of_le_of_lt l1 p1
  have q2 : Sz (K + 12) v := Nat.lt_of_le_of_lt l2 p2
  obtain ⟨r, e3⟩ := s_earlier n st a b u v h1 h2 q1 q2 (by omega) (by omega)
  generalize a * x - b * (-y) = X at *
  generalize a * (-y) + b * x = Y at *
  cases r with
  | true =>
    refine ⟨m - 1, u, v, call_run (F := F16) rfl rfl ?_, n2, q1, q2⟩
    simp [F16, b16, e_var, e_cst, e_tup, e_lst, e_bin, e_neg, e_cmp, e_is, e_chain, e_and, e_or, e_not, e_ife, e_idx, e_slc, e_rev, e_cat, e_dg1, e_dg2, e_tg1, e_tg2, e_tix, e_dcp, dgD, tgD, txD, dcpD, cpDct, revD, e_call, e_bi, e_isi, e_mth, e_fld, e_isx, e_lc, e_dct, xs_nil, xs_cons, xo_none, xo_some, ec_nil, ec_cons, s_asg, s_par, s_par3, s_setIx, s_aug, s_expr, s_ret, s_retN, s_ife, s_for, s_whl, s_pass, s_brk, s_cont, s_rais, s_try, ss_nil, ss_cons, e_T, i_seq, i_rng1, i_rng2, i_enum, of_some, bd_ok, bd_err, fo_ok, fo_err, sq_nx, sq_rt, sq_bk, sq_ct, sq_err, lp_nx, lp_ct, lp_bk, lp_rt, lp_err, tr_ok, tr_err, br_t, br_f, sbr_t, sbr_f, en_some, so_some, ag_some, go_t, tn_some, tu_ap, fr_st, fr_lv, fr_lvE, end_rt, end_nx, end_err, negD, optI, rg1, rg2, tupD, ix0, ix1, ix2, ix3, ix4, ix5, ix6, ix7, ix8, ix9, ix10, ix11, ix12, ix13, ix14, ix15, ixm1, ixm2, isiV, idxD, seqD, opB, opA, opC, truD, setT, setTs, eqD, full, frz, D.sub, D.subL, D.eqv, D.eqvL, D.depth, D.depthL, biD, permD, opI, dctD, isKey, newL, catD, SZ, isiD, tyOk, lstD, setD, mtD, okM, srcD, mkL, slcD, mkDct, putKD, getK, kEq, ofB_some, fin_pl, finX_pl, pl_non, pl_bl, pl_int, pl_str, pl_tup, pl_lst, pl_ro, plL_nil, plL_cons, fin_k, lg_lt, lg_lt2, mulOk_lit, setTs, e0, e1, e2, e3]
  | false =>
    refine ⟨m, u, v, call_run (F := F16) rfl rfl ?_, n2, q1, q2⟩
    simp [F16, b16, e_var, e_cst, e_tup, e_lst, e_bin, e_neg, e_cmp, e_is, e_chain, e_and, e_or, e_not, e_ife, e_idx, e_slc, e_rev, e_cat, e_dg1, e_dg2, e_tg1, e_tg2, e_tix, e_dcp, dgD, tgD, txD, dcpD, cpDct, revD, e_call, e_bi, e_isi, e_mth, e_fld, e_isx, e_lc, e_dct, xs_nil, xs_cons, xo_none, xo_some, ec_nil, ec_cons, s_asg, s_par, s_par3, s_setIx, s_aug, s_expr, s_ret, s_retN, s_ife, s_for, s_whl, s_pass, s_brk, s_cont, s_rais, s_try, ss_nil, ss_cons, e_T, i_seq, i_rng1, i_rng2, i_enum, of_some, bd_ok, bd_err, fo_ok, fo_err, sq_nx, sq_rt, sq_bk, sq_ct, sq_err, lp_nx, lp_ct, lp_bk, lp_rt, lp_err, tr_ok, tr_err, br_t, br_f, sbr_t, sbr_f, en_some, so_some, ag_some, go_t, tn_some, tu_ap, fr_st, fr_lv, fr_lvE, end_rt, end_nx, end_err, negD, optI, rg1, rg2, tupD, ix0, ix1, ix2, ix3, ix4, ix5, ix6, ix7, ix8, ix9, ix10, ix11, ix12, ix13, ix14, ix15, ixm1, ixm2, isiV, idxD, seqD, opB, opA, opC, truD, setT, setTs, eqD, full, frz, D.sub, D.subL, D.eqv, D.eqvL, D.depth, D.depthL, biD, permD, opI, dctD, isKey, newL, catD, SZ, isiD, tyOk, lstD, setD, mtD, okM, srcD, mkL, slcD, mkDct, putKD, getK, kEq, ofB_some, fin_pl, finX_pl, pl_non, pl_bl, pl_int, pl_str, pl_tup, pl_lst, pl_ro, plL_nil, plL_cons, fin_k, lg_lt, lg_lt2, mulOk_lit, setTs, e0, e1, e2, e3]
abbrev dLR : D := .tup [.str tLeft, .str tRight]
abbrev dGS : D := .tup [.str tGo, .str tSkip]
theorem lr1 (st : Sto) : memD st (.str tGo) dLR = some false := (rfl)
theorem lr2 (st : Sto) : memD st (.str tSkip) dLR = some false := (rfl)
theorem lr3 (st : Sto) : memD st (.str tLeft) dLR = some true := (rfl)
theorem lr4 (st : Sto) : memD st (.str tRight) dLR = some true := (rfl)
theorem gs1 (st : Sto) : memD st (.str tGo) dGS = some true := (rfl)
theorem gs2 (st : Sto) : memD st (.str tSkip) dGS = some true := (rfl)
theorem gs3 (st : Sto) : memD st (.str tLeft) dGS = some false := (rfl)
theorem gs4 (st : Sto) : memD st (.str tRight) dGS = some false := (rfl)
def tnF (d : D) : Option D := match d with
  | .tup [.str w, _] => if w = tLeft ∨ w = tRight then some d else none
  | _ => none
theorem turn_loop (n : Nat) (st : Sto) (X : D) : ∀ (ss : List D) (t : Nat) (m a b : Int) (z : Option D), Sts ss → t + (ss.filterMap tnF).length ≤ 8 → nzv a b → Sz (1 + 12 * t) a → Sz (1 + 12 * t) b →
    ∃ (m' u v : Int) (z' : Option D), forS (RS.tu (cal (n + 2)) (.nm 2) l18_0) ss [some X, some (.tup [.int m, V2 a b]), z] st = .ok .nx [some X, some (.tup [.int m', V2 u v]), z'] st ∧ nzv u v ∧ Sz 97 u ∧ Sz 97 v
  | [], t, m, a, b, z, _, ht, h0, h1, h2 => ⟨m, a, b, z, rfl, h0, h1.mono (by simp at ht; omega), h2.mono (by simp at ht; omega)⟩
  | d :: ss, t, m, a, b, z, hs, ht, h0, h1, h2 => by
    have hs' : Sts ss := fun x hx => hs x (List.mem_cons_of_mem _ hx)
    rcases hs d (List.mem_cons_self ..) with ⟨k, rfl⟩ | ⟨k, rfl⟩ | ⟨x, y, rfl, hv⟩ | ⟨x, y, rfl, hv⟩
    · obtain ⟨m', u, v, z', e, r⟩ := turn_loop n st X ss t m a b (some (.tup [.str tGo, .int k])) hs' (by simpa [tnF] using ht) h0 h1 h2
      refine ⟨m', u, v, z', ?_, r⟩
      have key : RS.tu (cal (n + 2)) (.nm 2) l18_0 (.tup [.str tGo, .int k]) [some X, some (.tup [.int m, V2 a b]), z] st = .ok .nx [some X, some (.tup [.int m, V2 a b]), some (.tup [.str tGo, .int k])] st := by
        simp [l18_0, e_var, e_cst, e_tup, e_lst, e_bin, e_neg, e_cmp, e_is, e_chain, e_and, e_or, e_not, e_ife, e_idx, e_slc, e_rev, e_cat, e_dg1, e_dg2, e_tg1, e_tg2, e_tix, e_dcp, dgD, tgD, txD, dcpD, cpDct, revD, e_call, e_bi, e_isi, e_mth, e_fld, e_isx, e_lc, e_dct, xs_nil, xs_cons, xo_none, xo_some, ec_nil, ec_cons, s_asg, s_par, s_par3, s_setIx, s_aug, s_expr, s_ret, s_retN, s_ife, s_for, s_whl, s_pass, s_brk, s_cont, s_rais, s_try, ss_nil, ss_cons, e_T, i_seq, i_rng1, i_rng2, i_enum, of_some, bd_ok, bd_err, fo_ok, fo_err, sq_nx, sq_rt, sq_bk, sq_ct, sq_err, lp_nx, lp_ct, lp_bk, lp_rt, lp_err, tr_ok, tr_err, br_t, br_f, sbr_t, sbr_f, en_some, so_some, ag_some, go_t, tn_some, tu_ap, fr_st, fr_lv, fr_lvE, end_rt, end_nx, end_err, negD, optI, rg1, rg2, tupD, ix0, ix1, ix2, ix3, ix4, ix5, ix6, ix7, ix8, ix9, ix10, ix11, ix12, ix13, ix14, ix15, ixm1, ixm2, isiV, idxD, seqD, opB, opA, opC, truD, setT, setTs, eqD, full, frz, D.sub, D.subL, D.eqv, D.eqvL, D.depth, D.depthL, biD, permD, opI, dctD, isKey, newL, catD, SZ, isiD, tyOk, lstD, setD, mtD, okM, srcD, mkL, slcD, mkDct, putKD, getK, kEq, ofB_some, fin_pl, finX_pl, pl_non, pl_bl, pl_int, pl_str, pl_tup, pl_lst, pl_ro, plL_nil, plL_cons, fin_k, lg_lt, lg_lt2, mulOk_lit, lr1, lr2]
      rw [fs_cons, key, lp_nx, e]
    · obtain ⟨m', u, v, z', e, r⟩ := turn_loop n st X ss t m a b (some (.tup [.str tSkip, .int k])) hs' (by simpa [tnF] using ht) h0 h1 h2
      refine ⟨m', u, v, z', ?_, r⟩
      have key : RS.tu (cal (n + 2)) (.nm 2) l18_0 (.tup [.str tSkip, .int k]) [some X, some (.tup [.int m, V2 a b]), z] st = .ok .nx [some X, some (.tup [.int m, V2 a b]), some (.tup [.str tSkip, .int k])] st := by
        simp [l18_0, e_var, e_cst, e_tup, e_lst, e_bin, e_neg, e_cmp, e_is, e_chain, e_and, e_or, e_not, e_ife, e_idx, e_slc, e_rev, e_cat, e_dg1, e_dg2, e_tg1, e_tg2, e_tix, e_dcp, dgD, tgD, txD, dcpD, cpDct, revD, e_call, e_bi, e_isi, e_mth, e_fld, e_isx, e_lc, e_dct, xs_nil, xs_cons, xo_none, xo_some, ec_nil, ec_cons, s_asg, s_par, s_par3, s_setIx, s_aug, s_expr, s_ret, s_retN, s_ife, s_for, s_whl, s_pass, s_brk, s_cont, s_rais, s_try, ss_nil, ss_cons, e_T, i_seq, i_rng1, i_rng2, i_enum, of_some, bd_ok, bd_err, fo_ok, fo_err, sq_nx, sq_rt, sq_bk, sq_ct, sq_err, lp_nx, lp_ct, lp_bk, lp_rt, lp_err, tr_ok, tr_err, br_t, br_f, sbr_t, sbr_f, en_some, so_some, ag_some, go_t, tn_some, tu_ap, fr_st, fr_lv, fr_lvE, end_rt, end_nx, end_err, negD, optI, rg1, rg2, tupD, ix0, ix1, ix2, ix3, ix4, ix5, ix6, ix7, ix8, ix9, ix10, ix11, ix12, ix13, ix14, ix15, ixm1, ixm2, isiV, idxD, seqD, opB, opA, opC, truD, setT, setTs, eqD, full, frz, D.sub, D.subL, D.eqv, D.eqvL, D.depth, D.depthL, biD, permD, opI, dctD, isKey, newL, catD, SZ, isiD, tyOk, lstD, setD, mtD, okM, srcD, mkL, slcD, mkDct, putKD, getK, kEq, ofB_some, fin_pl, finX_pl, pl_non, pl_bl, pl_int, pl_str, pl_tup, pl_lst, pl_ro, plL_nil, plL_cons, fin_k, lg_lt, lg_lt2, mulOk_lit, lr1, lr2]
      rw [fs_cons, key, lp_nx, e]
    · have ht' : t + 1 + (ss.filterMap tnF).length ≤ 8 := by simp [tnF] at ht; omega
      obtain ⟨m1, a1, b1, e1, g0, g1, g2⟩ := s_turnedL n st m a b x y h0 h1 h2 (by omega) hv
      obtain ⟨m', u, v, z', e, r⟩ := turn_loop n st X ss (t + 1) m1 a1 b1 (some (.tup [.str tLeft, V2 x y])) hs' ht' g0 (g1.mono (by omega)) (g2.mono (by omega))
      refine ⟨m', u, v, z', ?_, r⟩
      have key : RS.tu (cal (n + 2)) (.nm 2) l18_0 (.tup [.str tLeft, V2 x y]) [some X, some (.tup [.int m, V2 a b]), z] st = .ok .nx [some X, some (.tup [.int m1, V2 a1 b1]), some (.tup [.str tLeft, V2 x y])] st := by
        simp [l18_0, e_var, e_cst, e_tup, e_lst, e_bin, e_neg, e_cmp, e_is, e_chain, e_and, e_or, e_not, e_ife, e_idx, e_slc, e_rev, e_cat, e_dg1, e_dg2, e_tg1, e_tg2, e_tix, e_dcp, dgD, tgD, txD, dcpD, cpDct, revD, e_call, e_bi, e_isi, e_mth, e_fld, e_isx, e_lc, e_dct, xs_nil, xs_cons, xo_none, xo_some, ec_nil, ec_cons, s_asg, s_par, s_par3, s_setIx, s_aug, s_expr, s_ret, s_retN, s_ife, s_for, s_whl, s_pass, s_brk, s_cont, s_rais, s_try, ss_nil, ss_cons, e_T, i_seq, i_rng1, i_rng2, i_enum, of_some, bd_ok, bd_err, fo_ok, fo_err, sq_nx, sq_rt, sq_bk, sq_ct, sq_err, lp_nx, lp_ct, lp_bk, lp_rt, lp_err, tr_ok, tr_err, br_t, br_f, sbr_t, sbr_f, en_some, so_some, ag_some, go_t, tn_some, tu_ap, fr_st, fr_lv, fr_lvE, end_rt, end_nx, end_err, negD, optI, rg1, rg2, tupD, ix0, ix1, ix2, ix3, ix4, ix5, ix6, ix7, ix8, ix9, ix10, ix11, ix12, ix13, ix14, ix15, ixm1, ixm2, isiV, idxD, seqD, opB, opA, opC, truD, setT, setTs, eqD, full, frz, D.sub, D.subL, D.eqv, D.eqvL, D.depth, D.depthL, biD, permD, opI, dctD, isKey, newL, catD, SZ, isiD, tyOk, lstD, setD, mtD, okM, srcD, mkL, slcD, mkDct, putKD, getK, kEq, ofB_some, fin_pl, finX_pl, pl_non, pl_bl, pl_int, pl_str, pl_tup, pl_lst, pl_ro, plL_nil, plL_cons, fin_k, lg_lt, lg_lt2, mulOk_lit, lr3, lr4, e1]
      rw [fs_cons, key, lp_nx, e]
    · have ht' : t + 1 + (ss.filterMap tnF).length ≤ 8 := by simp [tnF] at ht; omega
      obtain ⟨m1, a1, b1, e1, g0, g1, g2⟩ := s_turnedR n st m a b x y h0 h1 h2 (by omega) hv
      obtain ⟨m', u, v, z', e, r⟩ := turn_loop n st X ss (t + 1) m1 a1 b1 (some (.tup [.str tRight, V2 x y])) hs' ht' g0 (g1.mono (by omega)) (g2.mono (by omega))
      refine ⟨m', u, v, z', ?_, r⟩
      have key : RS.tu (cal (n + 2)) (.nm 2) l18_0 (.tup [.str tRight, V2 x y]) [some X, some (.tup [.int m, V2 a b]), z] st = .ok .nx [some X, some (.tup [.int m1, V2 a1 b1]), some (.tup [.str tRight, V2 x y])] st := by
        simp [l18_0, e_var, e_cst, e_tup, e_lst, e_bin, e_neg, e_cmp, e_is, e_chain, e_and, e_or, e_not, e_ife, e_idx, e_slc, e_rev, e_cat, e_dg1, e_dg2, e_tg1, e_tg2, e_tix, e_dcp, dgD, tgD, txD, dcpD, cpDct, revD, e_call, e_bi, e_isi, e_mth, e_fld, e_isx, e_lc, e_dct, xs_nil, xs_cons, xo_none, xo_some, ec_nil, ec_cons, s_asg, s_par, s_par3, s_setIx, s_aug, s_expr, s_ret, s_retN, s_ife, s_for, s_whl, s_pass, s_brk, s_cont, s_rais, s_try, ss_nil, ss_cons, e_T, i_seq, i_rng1, i_rng2, i_enum, of_some, bd_ok, bd_err, fo_ok, fo_err, sq_nx, sq_rt, sq_bk, sq_ct, sq_err, lp_nx, lp_ct, lp_bk, lp_rt, lp_err, tr_ok, tr_err, br_t, br_f, sbr_t, sbr_f, en_some, so_some, ag_some, go_t, tn_some, tu_ap, fr_st, fr_lv, fr_lvE, end_rt, end_nx, end_err, negD, optI, rg1, rg2, tupD, ix0, ix1, ix2, ix3, ix4, ix5, ix6, ix7, ix8, ix9, ix10, ix11, ix12, ix13, ix14, ix15, ixm1, ixm2, isiV, idxD, seqD, opB, opA, opC, truD, setT, setTs, eqD, full, frz, D.sub, D.subL, D.eqv, D.eqvL, D.depth, D.depthL, biD, permD, opI, dctD, isKey, newL, catD, SZ, isiD, tyOk, lstD, setD, mtD, okM, srcD, mkL, slcD, mkDct, putKD, getK, kEq, ofB_some, fin_pl, finX_pl, pl_non, pl_bl, pl_int, pl_str, pl_tup, pl_lst, pl_ro, plL_nil, plL_cons, fin_k, lg_lt, lg_lt2, mulOk_lit, lr3, lr4, e1]
      rw [fs_cons, key, lp_nx, e]
theorem s_turn_of (n : Nat) (st : Sto) {ss : List D} (hs : Sts ss) (ht : (ss.filterMap tnF).length ≤ 8) : ∃ m u v : Int, callD fds anc (n + 3) 18 [.tup ss] st = .ok (.tup [.int m, V2 u v]) st ∧ nzv u v ∧ Sz 97 u ∧ Sz 97 v := by
  obtain ⟨m, u, v, z, e, r⟩ := turn_loop n st (.tup ss) ss 0 0 1 0 none hs (by omega) (.inl (by decide)) (by unfold Sz; decide) (by unfold Sz; decide)
  refine ⟨m, u, v, call_run (F := F18) rfl rfl ?_, r⟩
  simp [F18, b18, e_var, e_cst, e_tup, e_lst, e_bin, e_neg, e_cmp, e_is, e_chain, e_and, e_or, e_not, e_ife, e_idx, e_slc, e_rev, e_cat, e_dg1, e_dg2, e_tg1, e_tg2, e_tix, e_dcp, dgD, tgD, txD, dcpD, cpDct, revD, e_call, e_bi, e_isi, e_mth, e_fld, e_isx, e_lc, e_dct, xs_nil, xs_cons, xo_none, xo_some, ec_nil, ec_cons, s_asg, s_par, s_par3, s_setIx, s_aug, s_expr, s_ret, s_retN, s_ife, s_for, s_whl, s_pass, s_brk, s_cont, s_rais, s_try, ss_nil, ss_cons, e_T, i_seq, i_rng1, i_rng2, i_enum, of_some, bd_ok, bd_err, fo_ok, fo_err, sq_nx, sq_rt, sq_bk, sq_ct, sq_err, lp_nx, lp_ct, lp_bk, lp_rt, lp_err, tr_ok, tr_err, br_t, br_f, sbr_t, sbr_f, en_some, so_some, ag_some, go_t, tn_some, tu_ap, fr_st, fr_lv, fr_lvE, end_rt, end_nx, end_err, negD, optI, rg1, rg2, tupD, ix0, ix1, ix2, ix3, ix4, ix5, ix6, ix7, ix8, ix9, ix10, ix11, ix12, ix13, ix14, ix15, ixm1, ixm2, isiV, idxD, seqD, opB, opA, opC, truD, setT, setTs, eqD, full, frz, D.sub, D.subL, D.eqv, D.eqvL, D.depth, D.depthL, biD, permD, opI, dctD, isKey, newL, catD, SZ, isiD, tyOk, lstD, setD, mtD, okM, srcD, mkL, slcD, mkDct, putKD, getK, kEq, ofB_some, fin_pl, finX_pl, pl_non, pl_bl, pl_int, pl_str, pl_tup, pl_lst, pl_ro, plL_nil, plL_cons, fin_k, lg_lt, lg_lt2, mulOk_lit, e]
/-! the law's own steps -/
def LSm (P : Pb) (kv : List (D × D)) (d : D) (ss : List D) : Prop :=
  (isSt d ∧ ss = [d]) ∨ (∃ (nm : Tx) (b : List D), d = .tup [.str tDo, .str nm] ∧ getK kv (.str nm) = some (.tup b) ∧ P b ss ∧ Sts ss) ∨
  (∃ (k : Int) (b s : List D), d = .tup [.str tRep, .int k, .tup b] ∧ P b s ∧ ss = (List.replicate k.toNat s).flatten ∧ s.length ≤ 100000 ∧ 0 ≤ k ∧ k ≤ 1000 ∧ Sts s)
inductive LBm (P : Pb) (kv : List (D × D)) : Pb
  | nil : LBm P kv [] []
  | cons {d b s ss} : LSm P kv d s → LBm P kv b ss → LBm P kv (d :: b) (s ++ ss)
theorem lsm_sts {P : Pb} {kv : List (D × D)} {d : D} {ss : List D} (h : LSm P kv d ss) : Sts ss := by
  rcases h with ⟨h, rfl⟩ | ⟨nm, _, _, _, _, h⟩ | ⟨k, b, s, _, _, rfl, _, _, _, h⟩
  · exact sts_one h
  · exact h
  · exact sts_rep h _
theorem lbm_sts {P : Pb} {kv : List (D × D)} {b ss : List D} (h : LBm P kv b ss) : Sts ss := by
  induction h with
  | nil => exact sts_nil
  | cons h _ ih => exact sts_app (lsm_sts h) ih
def MkD (mk : List D) (kv : List (D × D)) : Prop := ∃ ps, pairsD mk = some ps ∧ ps.foldl (fun acc p => putKD acc p.1 p.2) [] = kv
def LRuns (mk : List D) (n : Nat) (P : Pb) : Prop := ∀ (b s : List D), P b s → s.length ≤ 100000 → ∀ st : Sto, callD fds anc n 17 [.tup mk, .tup b] st = .ok (.tup s) st
theorem one_lstm {P : Pb} {mk : List D} {kv : List (D × D)} {n : Nat} (hm : MkD mk kv) (hP : LRuns mk n P) (st : Sto) (B : D) (d : D) (acc s : List D) (h : LSm P kv d s) (hl : acc.length + s.length ≤ 100000) (z : Option D) :
    ∃ ex, RS.tu (cal n) (.nm 3) l17_0 d [some (.tup mk), some B, some (.tup acc), z] st = .ok .nx [some (.tup mk), some B, some (.tup (acc ++ s)), some d] (st ++ ex) := by
  obtain ⟨ps, hp, hk⟩ := hm
  rcases h with ⟨hs, rfl⟩ | ⟨nm, b, rfl, hg, hb, _⟩ | ⟨k, b, s, rfl, hb, rfl, hs, k0, k1, _⟩
  · refine ⟨[], ?_⟩
    rw [List.length_singleton] at hl
    have la : acc.length + 1 ≤ 10000000 := by omega
    rw [List.append_nil]
    rcases hs with ⟨j, rfl⟩ | ⟨j, rfl⟩ | ⟨x, y, rfl, _⟩ | ⟨x, y, rfl, _⟩ <;> simp [l17_0, e_var, e_cst, e_tup, e_lst, e_bin, e_neg, e_cmp, e_is, e_chain, e_and, e_or, e_not, e_ife, e_idx, e_slc, e_rev, e_cat, e_dg1, e_dg2, e_tg1, e_tg2, e_tix, e_dcp, dgD, tgD, txD, dcpD, cpDct, revD, e_call, e_bi, e_isi, e_mth, e_fld, e_isx, e_lc, e_dct, xs_nil, xs_cons, xo_none, xo_some, ec_nil, ec_cons, s_asg, s_par, s_par3, s_setIx, s_aug, s_expr, s_ret, s_retN, s_ife, s_for, s_whl, s_pass, s_brk, s_cont, s_rais, s_try, ss_nil, ss_cons, e_T, i_seq, i_rng1, i_rng2, i_enum, of_some, bd_ok, bd_err, fo_ok, fo_err, sq_nx, sq_rt, sq_bk, sq_ct, sq_err, lp_nx, lp_ct, lp_bk, lp_rt, lp_err, tr_ok, tr_err, br_t, br_f, sbr_t, sbr_f, en_some, so_some, ag_some, go_t, tn_some, tu_ap, fr_st, fr_lv, fr_lvE, end_rt, end_nx, end_err, negD, optI, rg1, rg2, tupD, ix0, ix1, ix2, ix3, ix4, ix5, ix6, ix7, ix8, ix9, ix10, ix11, ix12, ix13, ix14, ix15, ixm1, ixm2, isiV, idxD, seqD, opB, opA, opC, truD, setT, setTs, eqD, full, frz, D.sub, D.subL, D.eqv, D.eqvL, D.depth, D.depthL, biD, permD, opI, dctD, isKey, newL, catD, SZ, isiD, tyOk, lstD, setD, mtD, okM, srcD, mkL, slcD, mkDct, putKD, getK, kEq, ofB_some, fin_pl, finX_pl, pl_non, pl_bl, pl_int, pl_str, pl_tup, pl_lst, pl_ro, plL_nil, plL_cons, fin_k, lg_lt, lg_lt2, mulOk_lit, la]
  · refine ⟨[.dct kv], ?_⟩
    have la : acc.length + s.length ≤ 10000000 := by omega
    have e := hP b s hb (by omega) (st ++ [.dct kv])
    simp [putKD, kEq] at hk
    simp [l17_0, e_var, e_cst, e_tup, e_lst, e_bin, e_neg, e_cmp, e_is, e_chain, e_and, e_or, e_not, e_ife, e_idx, e_slc, e_rev, e_cat, e_dg1, e_dg2, e_tg1, e_tg2, e_tix, e_dcp, dgD, tgD, txD, dcpD, cpDct, revD, e_call, e_bi, e_isi, e_mth, e_fld, e_isx, e_lc, e_dct, xs_nil, xs_cons, xo_none, xo_some, ec_nil, ec_cons, s_asg, s_par, s_par3, s_setIx, s_aug, s_expr, s_ret, s_retN, s_ife, s_for, s_whl, s_pass, s_brk, s_cont, s_rais, s_try, ss_nil, ss_cons, e_T, i_seq, i_rng1, i_rng2, i_enum, of_some, bd_ok, bd_err, fo_ok, fo_err, sq_nx, sq_rt, sq_bk, sq_ct, sq_err, lp_nx, lp_ct, lp_bk, lp_rt, lp_err, tr_ok, tr_err, br_t, br_f, sbr_t, sbr_f, en_some, so_some, ag_some, go_t, tn_some, tu_ap, fr_st, fr_lv, fr_lvE, end_rt, end_nx, end_err, negD, optI, rg1, rg2, tupD, ix0, ix1, ix2, ix3, ix4, ix5, ix6, ix7, ix8, ix9, ix10, ix11, ix12, ix13, ix14, ix15, ixm1, ixm2, isiV, idxD, seqD, opB, opA, opC, truD, setT, setTs, eqD, full, frz, D.sub, D.subL, D.eqv, D.eqvL, D.depth, D.depthL, biD, permD, opI, dctD, isKey, newL, catD, SZ, isiD, tyOk, lstD, setD, mtD, okM, srcD, mkL, slcD, mkDct, putKD, getK, kEq, ofB_some, fin_pl, finX_pl, pl_non, pl_bl, pl_int, pl_str, pl_tup, pl_lst, pl_ro, plL_nil, plL_cons, fin_k, lg_lt, lg_lt2, mulOk_lit, hp, hk, hg, e, la]
  · refine ⟨[], ?_⟩
    rw [List.append_nil]
    have e := hP b s hb hs st
    rw [flat_len] at hl
    have la : acc.length + k.toNat * s.length ≤ 10000000 := by omega
    have lb : s.length * k.natAbs ≤ 1000000 := by rw [Nat.mul_comm, show k.natAbs = k.toNat by omega]; omega
    have lc : k.natAbs ≤ 1000 := by omega
    have ld : (List.replicate k.toNat s).flatten.length = k.toNat * s.length := flat_len _ _
    generalize hq : (List.replicate k.toNat s).flatten = q at *
    simp [l17_0, e_var, e_cst, e_tup, e_lst, e_bin, e_neg, e_cmp, e_is, e_chain, e_and, e_or, e_not, e_ife, e_idx, e_slc, e_rev, e_cat, e_dg1, e_dg2, e_tg1, e_tg2, e_tix, e_dcp, dgD, tgD, txD, dcpD, cpDct, revD, e_call, e_bi, e_isi, e_mth, e_fld, e_isx, e_lc, e_dct, xs_nil, xs_cons, xo_none, xo_some, ec_nil, ec_cons, s_asg, s_par, s_par3, s_setIx, s_aug, s_expr, s_ret, s_retN, s_ife, s_for, s_whl, s_pass, s_brk, s_cont, s_rais, s_try, ss_nil, ss_cons, e_T, i_seq, i_rng1, i_rng2, i_enum, of_some, bd_ok, bd_err, fo_ok, fo_err, sq_nx, sq_rt, sq_bk, sq_ct, sq_err, lp_nx, lp_ct, lp_bk, lp_rt, lp_err, tr_ok, tr_err, br_t, br_f, sbr_t, sbr_f, en_some, so_some, ag_some, go_t, tn_some, tu_ap, fr_st, fr_lv, fr_lvE, end_rt, end_nx, end_err, negD, optI, rg1, rg2, tupD, ix0, ix1, ix2, ix3, ix4, ix5, ix6, ix7, ix8, ix9, ix10, ix11, ix12, ix13, ix14, ix15, ixm1, ixm2, isiV, idxD, seqD, opB, opA, opC, truD, setT, setTs, eqD, full, frz, D.sub, D.subL, D.eqv, D.eqvL, D.depth, D.depthL, biD, permD, opI, dctD, isKey, newL, catD, SZ, isiD, tyOk, lstD, setD, mtD, okM, srcD, mkL, slcD, mkDct, putKD, getK, kEq, ofB_some, fin_pl, finX_pl, pl_non, pl_bl, pl_int, pl_str, pl_tup, pl_lst, pl_ro, plL_nil, plL_cons, fin_k, lg_lt, lg_lt2, mulOk_lit, la, lb, lc, ld, e, hq]
theorem lblk_loop {P : Pb} {mk : List D} {kv : List (D × D)} {n : Nat} (hm : MkD mk kv) (hP : LRuns mk n P) (B : D) : ∀ {b s : List D}, LBm P kv b s → ∀ (st : Sto) (acc : List D) (z : Option D), acc.length + s.length ≤ 100000 →
    ∃ z' ex, forS (RS.tu (cal n) (.nm 3) l17_0) b [some (.tup mk), some B, some (.tup acc), z] st = .ok .nx [some (.tup mk), some B, some (.tup (acc ++ s)), z'] (st ++ ex) := by
  intro b s h
  induction h with
  | nil => intro st acc z _; exact ⟨z, [], by rw [List.append_nil, List.append_nil]; rfl⟩
  | @cons d b s1 ss hd hb ih =>
    intro st acc z hl
    rw [List.length_append] at hl
    obtain ⟨ex, e⟩ := one_lstm hm hP st B _ acc _ hd (by omega) z
    obtain ⟨z', ex2, e2⟩ := ih (st ++ ex) (acc ++ s1) (some d) (by rw [List.length_append]; omega)
    refine ⟨z', ex ++ ex2, ?_⟩
    rw [fs_cons, e, lp_nx, e2, List.append_assoc, List.append_assoc]
theorem lruns_up {P : Pb} {mk : List D} {kv : List (D × D)} {n : Nat} (hm : MkD mk kv) (hP : LRuns mk n P) : LRuns mk (n + 1) (LBm P kv) := by
  intro b s hb hs st
  obtain ⟨z, ex, e⟩ := lblk_loop hm hP (.tup b) hb st [] none (by simpa using hs)
  refine call_run (F := F17) rfl rfl ?_
  have f := fin_plA (d := .tup s) (sts_pl (lbm_sts hb)) st ex
  simp only [List.nil_append] at e
  simp [F17, b17, e_var, e_cst, e_tup, e_lst, e_bin, e_neg, e_cmp, e_is, e_chain, e_and, e_or, e_not, e_ife, e_idx, e_slc, e_rev, e_cat, e_dg1, e_dg2, e_tg1, e_tg2, e_tix, e_dcp, dgD, tgD, txD, dcpD, cpDct, revD, e_call, e_bi, e_isi, e_mth, e_fld, e_isx, e_lc, e_dct, xs_nil, xs_cons, xo_none, xo_some, ec_nil, ec_cons, s_asg, s_par, s_par3, s_setIx, s_aug, s_expr, s_ret, s_retN, s_ife, s_for, s_whl, s_pass, s_brk, s_cont, s_rais, s_try, ss_nil, ss_cons, e_T, i_seq, i_rng1, i_rng2, i_enum, of_some, bd_ok, bd_err, fo_ok, fo_err, sq_nx, sq_rt, sq_bk, sq_ct, sq_err, lp_nx, lp_ct, lp_bk, lp_rt, lp_err, tr_ok, tr_err, br_t, br_f, sbr_t, sbr_f, en_some, so_some, ag_some, go_t, tn_some, tu_ap, fr_st, fr_lv, fr_lvE, end_rt, end_nx, end_err, negD, optI, rg1, rg2, tupD, ix0, ix1, ix2, ix3, ix4, ix5, ix6, ix7, ix8, ix9, ix10, ix11, ix12, ix13, ix14, ix15, ixm1, ixm2, isiV, idxD, seqD, opB, opA, opC, truD, setT, setTs, eqD, full, frz, D.sub, D.subL, D.eqv, D.eqvL, D.depth, D.depthL, biD, permD, opI, dctD, isKey, newL, catD, SZ, isiD, tyOk, lstD, setD, mtD, okM, srcD, mkL, slcD, mkDct, putKD, getK, kEq, ofB_some, fin_pl, finX_pl, pl_non, pl_bl, pl_int, pl_str, pl_tup, pl_lst, pl_ro, plL_nil, plL_cons, fin_k, lg_lt, lg_lt2, mulOk_lit, e]
  exact f
end K44
set_option Elab.async false
set_option linter.all false
set_option maxRecDepth 100000
set_option maxHeartbeats 4000000
namespace K44
open DI
/-! drawing a block -/
theorem okV_of {x y : Int} (h : x ≠ 0 ∨ y ≠ 0) (hx : x.natAbs ≤ 5) (hy : y.natAbs ≤ 5) : okV x y := ⟨h, by omega, by omega⟩
theorem even_k (i : Nat) (h : i < 8) : ∃ x y : Int, ([.tup [.int 1, .int 0], .tup [.int 0, .int 1], .tup [.int (-1), .int 0], .tup [.int 0, .int (-1)], .tup [.int 1, .int 1], .tup [.int (-1), .int 1], .tup [.int (-1), .int (-1)], .tup [.int 1, .int (-1)]] : List D)[i]? = some (.tup [.int x, .int y]) ∧ okV x y := by
  have : i = 0 ∨ i = 1 ∨ i = 2 ∨ i = 3 ∨ i = 4 ∨ i = 5 ∨ i = 6 ∨ i = 7 := by omega
  rcases this with rfl | rfl | rfl | rfl | rfl | rfl | rfl | rfl <;> exact ⟨_, _, rfl, okV_of (by decide) (by decide) (by decide)⟩
theorem other_k (i : Nat) (h : i < 12) : ∃ x y : Int, ([.tup [.int 2, .int 1], .tup [.int 1, .int 2], .tup [.int (-1), .int 2], .tup [.int 2, .int (-1)], .tup [.int 3, .int 1], .tup [.int 1, .int (-3)], .tup [.int 3, .int 2], .tup [.int (-2), .int 3], .tup [.int 4, .int 3], .tup [.int 5, .int (-2)], .tup [.int (-3), .int (-1)], .tup [.int 1, .int 4]] : List D)[i]? = some (.tup [.int x, .int y]) ∧ okV x y := by
  have : i = 0 ∨ i = 1 ∨ i = 2 ∨ i = 3 ∨ i = 4 ∨ i = 5 ∨ i = 6 ∨ i = 7 ∨ i = 8 ∨ i = 9 ∨ i = 10 ∨ i = 11 := by omega
  rcases this with rfl | rfl | rfl | rfl | rfl | rfl | rfl | rfl | rfl | rfl | rfl | rfl <;> exact ⟨_, _, rfl, okV_of (by decide) (by decide) (by decide)⟩
theorem s_vector (n : Nat) (st rest : Sto) (k kind : Int) (h : Gs k rest st) (hk : k ≤ 1000000) : ∃ (x y : Int) (st' : Sto), callD fds anc (n + 2) 19 [.loc 1, .int kind] st = .ok (V2 x y) st' ∧ Gs (k + 1) rest st' ∧ okV x y := by
  by_cases h0 : kind = 0
  · subst h0
    obtain ⟨r, s1, e1, g1, r0, r1⟩ := s_sip n st rest k 8 h hk (by decide) (by decide)
    obtain ⟨x, y, q, ok⟩ := even_k r.toNat (by omega)
    have ix : ixD 8 r = some r.toNat := ix_at r0 (by omega)
    have f := fin_gs (d := V2 x y) h g1 rfl
    refine ⟨x, y, s1, call_run (F := F19) rfl rfl ?_, g1, ok⟩
    simp [F19, b19, e_var, e_cst, e_tup, e_lst, e_bin, e_neg, e_cmp, e_is, e_chain, e_and, e_or, e_not, e_ife, e_idx, e_slc, e_rev, e_cat, e_dg1, e_dg2, e_tg1, e_tg2, e_tix, e_dcp, dgD, tgD, txD, dcpD, cpDct, revD, e_call, e_bi, e_isi, e_mth, e_fld, e_isx, e_lc, e_dct, xs_nil, xs_cons, xo_none, xo_some, ec_nil, ec_cons, s_asg, s_par, s_par3, s_setIx, s_aug, s_expr, s_ret, s_retN, s_ife, s_for, s_whl, s_pass, s_brk, s_cont, s_rais, s_try, ss_nil, ss_cons, e_T, i_seq, i_rng1, i_rng2, i_enum, of_some, bd_ok, bd_err, fo_ok, fo_err, sq_nx, sq_rt, sq_bk, sq_ct, sq_err, lp_nx, lp_ct, lp_bk, lp_rt, lp_err, tr_ok, tr_err, br_t, br_f, sbr_t, sbr_f, en_some, so_some, ag_some, go_t, tn_some, tu_ap, fr_st, fr_lv, fr_lvE, end_rt, end_nx, end_err, negD, optI, rg1, rg2, tupD, ix0, ix1, ix2, ix3, ix4, ix5, ix6, ix7, ix8, ix9, ix10, ix11, ix12, ix13, ix14, ix15, ixm1, ixm2, isiV, idxD, seqD, opB, opA, opC, truD, setT, setTs, eqD, full, frz, D.sub, D.subL, D.eqv, D.eqvL, D.depth, D.depthL, biD, permD, opI, dctD, isKey, newL, catD, SZ, isiD, tyOk, lstD, setD, mtD, okM, srcD, mkL, slcD, mkDct, putKD, getK, kEq, ofB_some, fin_pl, finX_pl, pl_non, pl_bl, pl_int, pl_str, pl_tup, pl_lst, pl_ro, plL_nil, plL_cons, fin_k, lg_lt, lg_lt2, mulOk_lit, e1, ix, q]
    exact f
  · have hb : (kind == 0) = false := by simpa using h0
    obtain ⟨r, s1, e1, g1, r0, r1⟩ := s_sip n st rest k 12 h hk (by decide) (by decide)
    obtain ⟨x, y, q, ok⟩ := other_k r.toNat (by omega)
    have ix : ixD 12 r = some r.toNat := ix_at r0 (by omega)
    have f := fin_gs (d := V2 x y) h g1 rfl
    refine ⟨x, y, s1, call_run (F := F19) rfl rfl ?_, g1, ok⟩
    simp [F19, b19, e_var, e_cst, e_tup, e_lst, e_bin, e_neg, e_cmp, e_is, e_chain, e_and, e_or, e_not, e_ife, e_idx, e_slc, e_rev, e_cat, e_dg1, e_dg2, e_tg1, e_tg2, e_tix, e_dcp, dgD, tgD, txD, dcpD, cpDct, revD, e_call, e_bi, e_isi, e_mth, e_fld, e_isx, e_lc, e_dct, xs_nil, xs_cons, xo_none, xo_some, ec_nil, ec_cons, s_asg, s_par, s_par3, s_setIx, s_aug, s_expr, s_ret, s_retN, s_ife, s_for, s_whl, s_pass, s_brk, s_cont, s_rais, s_try, ss_nil, ss_cons, e_T, i_seq, i_rng1, i_rng2, i_enum, of_some, bd_ok, bd_err, fo_ok, fo_err, sq_nx, sq_rt, sq_bk, sq_ct, sq_err, lp_nx, lp_ct, lp_bk, lp_rt, lp_err, tr_ok, tr_err, br_t, br_f, sbr_t, sbr_f, en_some, so_some, ag_some, go_t, tn_some, tu_ap, fr_st, fr_lv, fr_lvE, end_rt, end_nx, end_err, negD, optI, rg1, rg2, tupD, ix0, ix1, ix2, ix3, ix4, ix5, ix6, ix7, ix8, ix9, ix10, ix11, ix12, ix13, ix14, ix15, ixm1, ixm2, isiV, idxD, seqD, opB, opA, opC, truD, setT, setTs, eqD, full, frz, D.sub, D.subL, D.eqv, D.eqvL, D.depth, D.depthL, biD, permD, opI, dctD, isKey, newL, catD, SZ, isiD, tyOk, lstD, setD, mtD, okM, srcD, mkL, slcD, mkDct, putKD, getK, kEq, ofB_some, fin_pl, finX_pl, pl_non, pl_bl, pl_int, pl_str, pl_tup, pl_lst, pl_ro, plL_nil, plL_cons, fin_k, lg_lt, lg_lt2, mulOk_lit, e1, ix, q, hb, h0]
    exact f
abbrev doD (nm : Tx) : D := .tup [.str tDo, .str nm]
abbrev repD (j : Int) (b : List D) : D := .tup [.str tRep, .int j, .tup b]
/-- a drawn block: deep, statements in all, block, steps -/
inductive DB (names : List Tx) (f : Tx → List D) : Nat → Nat → List D → List D → Prop
  | nil (k) : DB names f k 0 [] []
  | st {k u b s d} : isSt d → DB names f k u b s → DB names f k (u + 1) (b ++ [d]) (s ++ [d])
  | do_ {k u b s nm} : nm ∈ names → DB names f k u b s → DB names f k (u + 1) (b ++ [doD nm]) (s ++ f nm)
  | rep {k u v b s r t} {j : Int} : 0 ≤ j → j ≤ 3 → DB names f k v r t → DB names f (k + 1) u b s → DB names f (k + 1) (u + 1 + v) (b ++ [repD j r]) (s ++ (List.replicate j.toNat t).flatten)
theorem db_pl {names : List Tx} {f : Tx → List D} {k u : Nat} {b s : List D} (h : DB names f k u b s) : D.plL b = true := by
  induction h with
  | nil => rfl
  | st hd _ ih => rw [plL_app, ih, plL_cons, st_pl hd]; rfl
  | do_ _ _ ih => rw [plL_app, ih]; rfl
  | rep _ _ _ _ ih1 ih2 => rw [plL_app, ih2, plL_cons, pl_tup, plL_cons, plL_cons, plL_cons, pl_tup, ih1]; rfl
theorem db_len {names : List Tx} {f : Tx → List D} {k u : Nat} {b s : List D} (h : DB names f k u b s) : b.length ≤ u := by
  induction h with
  | nil => exact Nat.le_refl _
  | st _ _ ih => rw [List.length_append, List.length_singleton]; omega
  | do_ _ _ ih => rw [List.length_append, List.length_singleton]; omega
  | rep _ _ _ _ ih1 ih2 => rw [List.length_append, List.length_singleton]; omega
/-! the store while a block is drawn -/
theorem gs_room {k : Int} {pre post S : Sto} {r : Int} (h : Gs k (pre ++ .lst [.int r] :: post) S) : S[pre.length + 2]? = some (.lst [.int r]) ∧ ∀ r' : Int, Gs k (pre ++ .lst [.int r'] :: post) (S.set (pre.length + 2) (.lst [.int r'])) := by
  obtain ⟨cs, m, t, rfl, p⟩ := h
  refine ⟨by simp, fun r' => ⟨cs, m, t, ?_, p⟩⟩
  simp
theorem gs_last {k : Int} {pre post S : Sto} {o u : Ob} (h : Gs k (pre ++ o :: (post ++ [u])) S) : S[pre.length + post.length + 3]? = some u ∧ ∀ u' : Ob, Gs k (pre ++ o :: (post ++ [u'])) (S.set (pre.length + post.length + 3) u') := by
  obtain ⟨cs, m, t, rfl, p⟩ := h
  have e : ∀ v : Ob, .lst (cs.map .int) :: .lst [.int m, .int t, .loc 0] :: (pre ++ o :: (post ++ [v])) = (.lst (cs.map .int) :: .lst [.int m, .int t, .loc 0] :: (pre ++ o :: post)) ++ [v] := fun v => by simp
  have l : (.lst (cs.map .int) :: .lst [.int m, .int t, .loc 0] :: (pre ++ o :: post) : Sto).length = pre.length + post.length + 3 := by simp; omega
  refine ⟨?_, fun u' => ⟨cs, m, t, ?_, p⟩⟩
  · rw [e, ← l]; exact app_get _ _
  · rw [e, e, ← l]; exact app_set _ _ _
theorem gs_len {k : Int} {pre post S : Sto} {o : Ob} (h : Gs k (pre ++ o :: post) S) : S.length = pre.length + post.length + 3 := by
  obtain ⟨cs, m, t, rfl, p⟩ := h
  simp; omega
theorem keeps_mid (n : Nat) (a b : Ob) (hb : b.lo n = true) : ∀ (pre post ex : Sto), keeps n (pre ++ a :: post) (pre ++ b :: (post ++ ex)) = true
  | [], post, ex => by simp [keeps, hb, keeps_app]
  | p :: pre, post, ex => by
    rw [List.cons_append, List.cons_append, keeps, keeps_mid n a b hb pre post ex, obeq_refl]
    rfl
theorem fin_room {k k' : Int} {pre post ex s s' : Sto} {r r' : Int} (h : Gs k (pre ++ .lst [.int r] :: post) s) (h' : Gs k' (pre ++ .lst [.int r'] :: (post ++ ex)) s') {d : D} (hd : d.pl = true) : ∃ s'', finD false s d s' = .ok d s'' ∧ Gs k' (pre ++ .lst [.int r'] :: post) s'' := by
  have hl := gs_len h
  obtain ⟨cs, m, t, rfl, _⟩ := h
  obtain ⟨cs', m', t', rfl, p⟩ := h'
  refine ⟨_, fin_to (frzX_pl hd _ _ _) ?_, cs', m', t', ?_, p⟩
  · have := keeps_mid (Ob.lst (cs.map D.int) :: .lst [.int m, .int t, .loc 0] :: (pre ++ .lst [.int r] :: post)).length (.lst [.int r]) (.lst [.int r']) (by simp [Ob.lo, D.loL, D.lo]) pre post ex
    rw [keeps, keeps, this]
    simp [Ob.lo, D.loL, D.lo, lo_ints]
  · rw [hl]
    have e : (.lst (cs'.map D.int) :: .lst [.int m', .int t', .loc 0] :: (pre ++ .lst [.int r'] :: (post ++ ex)) : Sto) = (.lst (cs'.map D.int) :: .lst [.int m', .int t', .loc 0] :: (pre ++ .lst [.int r'] :: post)) ++ ex := by simp
    rw [e]
    exact List.take_left' (by simp; omega)
theorem w_gs (i : Nat) (h : i < 3) : ∃ w : Tx, ([.str tGo, .str tGo, .str tSkip] : List D)[i]? = some (.str w) ∧ (w = tGo ∨ w = tSkip) := by
  have : i = 0 ∨ i = 1 ∨ i = 2 := by omega
  rcases this with rfl | rfl | rfl
  · exact ⟨_, rfl, .inl rfl⟩
  · exact ⟨_, rfl, .inl rfl⟩
  · exact ⟨_, rfl, .inr rfl⟩
theorem w_lr (i : Nat) (h : i < 3) : ∃ w : Tx, ([.str tLeft, .str tRight, .str tLeft] : List D)[i]? = some (.str w) ∧ (w = tLeft ∨ w = tRight) := by
  have : i = 0 ∨ i = 1 ∨ i = 2 := by omega
  rcases this with rfl | rfl | rfl
  · exact ⟨_, rfl, .inl rfl⟩
  · exact ⟨_, rfl, .inr rfl⟩
  · exact ⟨_, rfl, .inl rfl⟩
/-- drawn, to some depth -/
def Drw (names : List Tx) (f : Tx → List D) (N : Nat) (deep : Nat) : Prop := ∀ (pre post st : Sto) (k kind : Int) (r : Nat), Gs k (pre ++ .lst [.int (r : Int)] :: post) st → k + 5 * r + 10 ≤ 1000000 → r ≤ 100 →
  ∃ (b s : List D) (u r' : Nat) (k' : Int) (st' : Sto), callD fds anc N 20 [.loc 1, .int kind, .lst (names.map .str), .int (deep : Int), .loc (pre.length + 2)] st = .ok (.tup b) st' ∧ Gs k' (pre ++ .lst [.int (r' : Int)] :: post) st' ∧ k' + 5 * r' ≤ k + 1 + 5 * r ∧ u + r' = r ∧ DB names f deep u b s
abbrev rD (kind : Int) (names : List Tx) (deep : Nat) (pre post : Sto) (z6 z7 : Option D) : Env := [some (.loc 1), some (.int kind), some (.lst (names.map .str)), some (.int (deep : Int)), some (.loc (pre.length + 2)), some (.loc (pre.length + post.length + 3)), z6, z7]
theorem one_lap (names : List Tx) (f : Tx → List D) (n deep : Nat) (hD : ∀ d', deep = d' + 1 → Drw names f (n + 3) d') (hN : names.length ≤ 100) (pre post S : Sto) (k kind : Int) (r u : Nat) (b s : List D) (x : D) (z6 z7 : Option D)
    (h : Gs k (pre ++ .lst [.int (r : Int)] :: (post ++ [.lst b])) S) (hk : k + 5 * r + 9 ≤ 1000000) (hu : u + r ≤ 100) (hb : DB names f deep u b s) :
    RS.tu (cal (n + 3)) (.nm 6) l20_0 x (rD kind names deep pre post z6 z7) S = .ok .bk (rD kind names deep pre post (some x) z7) S ∨
    ∃ (b' s' : List D) (u' r' : Nat) (k' : Int) (S' : Sto) (z7' : Option D), RS.tu (cal (n + 3)) (.nm 6) l20_0 x (rD kind names deep pre post z6 z7) S = .ok .nx (rD kind names deep pre post (some x) z7') S' ∧ Gs k' (pre ++ .lst [.int (r' : Int)] :: (post ++ [.lst b'])) S' ∧ k' + 5 * r' ≤ k + 5 * r ∧ u' + r' = u + r ∧ DB names f deep u' b' s' := by
  obtain ⟨g1, g2⟩ := gs_room h
  have hbl := db_len hb
  cases r with
  | zero =>
    left
    simp [l20_0, e_var, e_cst, e_tup, e_lst, e_bin, e_neg, e_cmp, e_is, e_chain, e_and, e_or, e_not, e_ife, e_idx, e_slc, e_rev, e_cat, e_dg1, e_dg2, e_tg1, e_tg2, e_tix, e_dcp, dgD, tgD, txD, dcpD, cpDct, revD, e_call, e_bi, e_isi, e_mth, e_fld, e_isx, e_lc, e_dct, xs_nil, xs_cons, xo_none, xo_some, ec_nil, ec_cons, s_asg, s_par, s_par3, s_setIx, s_aug, s_expr, s_ret, s_retN, s_ife, s_for, s_whl, s_pass, s_brk, s_cont, s_rais, s_try, ss_nil, ss_cons, e_T, i_seq, i_rng1, i_rng2, i_enum, of_some, bd_ok, bd_err, fo_ok, fo_err, sq_nx, sq_rt, sq_bk, sq_ct, sq_err, lp_nx, lp_ct, lp_bk, lp_rt, lp_err, tr_ok, tr_err, br_t, br_f, sbr_t, sbr_f, en_some, so_some, ag_some, go_t, tn_some, tu_ap, fr_st, fr_lv, fr_lvE, end_rt, end_nx, end_err, negD, optI, rg1, rg2, tupD, ix0, ix1, ix2, ix3, ix4, ix5, ix6, ix7, ix8, ix9, ix10, ix11, ix12, ix13, ix14, ix15, ixm1, ixm2, isiV, idxD, seqD, opB, opA, opC, truD, setT, setTs, eqD, full, frz, D.sub, D.subL, D.eqv, D.eqvL, D.depth, D.depthL, biD, permD, opI, dctD, isKey, newL, catD, SZ, isiD, tyOk, lstD, setD, mtD, okM, srcD, mkL, slcD, mkDct, putKD, getK, kEq, ofB_some, fin_pl, finX_pl, pl_non, pl_bl, pl_int, pl_str, pl_tup, pl_lst, pl_ro, plL_nil, plL_cons, fin_k, lg_lt, lg_lt2, mulOk_lit, g1]
  | succ r =>
    right
    have g3 := g2 r
    have hset : (r : Int) + 1 - 1 = (r : Int) := by omega
    have hr0 : ¬ ((r : Int) + 1 < 1) := by omega
    generalize hS1 : S.set (pre.length + 2) (.lst [.int (r : Int)]) = S1 at g3
    obtain ⟨w, S2, e1, g4, w0, w1⟩ := s_sip (n + 2) S1 _ k 8 g3 (by omega) (by decide) (by decide)
    have l0 := (gs_last g4).1
    have la : b.length < 10000000 := by omega
    by_cases c1 : w < 3
    · obtain ⟨q, S3, e2, g5, q0, q1⟩ := s_sip (n + 2) S2 _ (k + 1) 3 g4 (by omega) (by decide) (by decide)
      obtain ⟨l1, l2⟩ := gs_last g5
      obtain ⟨wd, hw, hw2⟩ := w_gs w.toNat (by omega)
      have ix : ixD 3 w = some w.toNat := ix_at w0 (by omega)
      generalize w.toNat = wi at hw ix
      have hs : isSt (.tup [.str wd, .int (1 + q)]) := by
        rcases hw2 with rfl | rfl
        · exact .inl ⟨_, rfl⟩
        · exact .inr (.inl ⟨_, rfl⟩)
      refine ⟨b ++ [.tup [.str wd, .int (1 + q)]], s ++ [.tup [.str wd, .int (1 + q)]], u + 1, r, k + 1 + 1, _, some (.int w), ?_, l2 (.lst (b ++ [.tup [.str wd, .int (1 + q)]])), by omega, by omega, .st hs hb⟩
      simp [l20_0, e_var, e_cst, e_tup, e_lst, e_bin, e_neg, e_cmp, e_is, e_chain, e_and, e_or, e_not, e_ife, e_idx, e_slc, e_rev, e_cat, e_dg1, e_dg2, e_tg1, e_tg2, e_tix, e_dcp, dgD, tgD, txD, dcpD, cpDct, revD, e_call, e_bi, e_isi, e_mth, e_fld, e_isx, e_lc, e_dct, xs_nil, xs_cons, xo_none, xo_some, ec_nil, ec_cons, s_asg, s_par, s_par3, s_setIx, s_aug, s_expr, s_ret, s_retN, s_ife, s_for, s_whl, s_pass, s_brk, s_cont, s_rais, s_try, ss_nil, ss_cons, e_T, i_seq, i_rng1, i_rng2, i_enum, of_some, bd_ok, bd_err, fo_ok, fo_err, sq_nx, sq_rt, sq_bk, sq_ct, sq_err, lp_nx, lp_ct, lp_bk, lp_rt, lp_err, tr_ok, tr_err, br_t, br_f, sbr_t, sbr_f, en_some, so_some, ag_some, go_t, tn_some, tu_ap, fr_st, fr_lv, fr_lvE, end_rt, end_nx, end_err, negD, optI, rg1, rg2, tupD, ix0, ix1, ix2, ix3, ix4, ix5, ix6, ix7, ix8, ix9, ix10, ix11, ix12, ix13, ix14, ix15, ixm1, ixm2, isiV, idxD, seqD, opB, opA, opC, truD, setT, setTs, eqD, full, frz, D.sub, D.subL, D.eqv, D.eqvL, D.depth, D.depthL, biD, permD, opI, dctD, isKey, newL, catD, SZ, isiD, tyOk, lstD, setD, mtD, okM, srcD, mkL, slcD, mkDct, putKD, getK, kEq, ofB_some, fin_pl, finX_pl, pl_non, pl_bl, pl_int, pl_str, pl_tup, pl_lst, pl_ro, plL_nil, plL_cons, fin_k, lg_lt, lg_lt2, mulOk_lit, g1, hr0, hset, hS1, e1, c1, ix, hw, e2, l0, l1, la]
    · by_cases c2 : w < 6
      · obtain ⟨q, S3, e2, g5, q0, q1⟩ := s_sip (n + 2) S2 _ (k + 1) 3 g4 (by omega) (by decide) (by decide)
        obtain ⟨vx, vy, S4, e3, g6, ov⟩ := s_vector (n + 1) S3 _ (k + 1 + 1) (if 0 < q then kind else 0) g5 (by omega)
        obtain ⟨l1, l2⟩ := gs_last g6
        obtain ⟨wd, hw, hw2⟩ := w_lr (w - 3).toNat (by omega)
        have ix : ixD 3 (w - 3) = some (w - 3).toNat := ix_at (by omega) (by omega)
        generalize (w - 3).toNat = wi at hw ix
        have hs : isSt (.tup [.str wd, V2 vx vy]) := by
          rcases hw2 with rfl | rfl
          · exact .inr (.inr (.inl ⟨_, _, rfl, ov⟩))
          · exact .inr (.inr (.inr ⟨_, _, rfl, ov⟩))
        refine ⟨b ++ [.tup [.str wd, V2 vx vy]], s ++ [.tup [.str wd, V2 vx vy]], u + 1, r, k + 1 + 1 + 1, _, some (.int w), ?_, l2 (.lst (b ++ [.tup [.str wd, V2 vx vy]])), by omega, by omega, .st hs hb⟩
        by_cases q2 : 0 < q
        · rw [if_pos q2] at e3
          simp [l20_0, e_var, e_cst, e_tup, e_lst, e_bin, e_neg, e_cmp, e_is, e_chain, e_and, e_or, e_not, e_ife, e_idx, e_slc, e_rev, e_cat, e_dg1, e_dg2, e_tg1, e_tg2, e_tix, e_dcp, dgD, tgD, txD, dcpD, cpDct, revD, e_call, e_bi, e_isi, e_mth, e_fld, e_isx, e_lc, e_dct, xs_nil, xs_cons, xo_none, xo_some, ec_nil, ec_cons, s_asg, s_par, s_par3, s_setIx, s_aug, s_expr, s_ret, s_retN, s_ife, s_for, s_whl, s_pass, s_brk, s_cont, s_rais, s_try, ss_nil, ss_cons, e_T, i_seq, i_rng1, i_rng2, i_enum, of_some, bd_ok, bd_err, fo_ok, fo_err, sq_nx, sq_rt, sq_bk, sq_ct, sq_err, lp_nx, lp_ct, lp_bk, lp_rt, lp_err, tr_ok, tr_err, br_t, br_f, sbr_t, sbr_f, en_some, so_some, ag_some, go_t, tn_some, tu_ap, fr_st, fr_lv, fr_lvE, end_rt, end_nx, end_err, negD, optI, rg1, rg2, tupD, ix0, ix1, ix2, ix3, ix4, ix5, ix6, ix7, ix8, ix9, ix10, ix11, ix12, ix13, ix14, ix15, ixm1, ixm2, isiV, idxD, seqD, opB, opA, opC, truD, setT, setTs, eqD, full, frz, D.sub, D.subL, D.eqv, D.eqvL, D.depth, D.depthL, biD, permD, opI, dctD, isKey, newL, catD, SZ, isiD, tyOk, lstD, setD, mtD, okM, srcD, mkL, slcD, mkDct, putKD, getK, kEq, ofB_some, fin_pl, finX_pl, pl_non, pl_bl, pl_int, pl_str, pl_tup, pl_lst, pl_ro, plL_nil, plL_cons, fin_k, lg_lt, lg_lt2, mulOk_lit, g1, hr0, hset, hS1, e1, c1, c2, ix, hw, e2, q2, e3, l0, l1, la]
        · rw [if_neg q2] at e3
          simp [l20_0, e_var, e_cst, e_tup, e_lst, e_bin, e_neg, e_cmp, e_is, e_chain, e_and, e_or, e_not, e_ife, e_idx, e_slc, e_rev, e_cat, e_dg1, e_dg2, e_tg1, e_tg2, e_tix, e_dcp, dgD, tgD, txD, dcpD, cpDct, revD, e_call, e_bi, e_isi, e_mth, e_fld, e_isx, e_lc, e_dct, xs_nil, xs_cons, xo_none, xo_some, ec_nil, ec_cons, s_asg, s_par, s_par3, s_setIx, s_aug, s_expr, s_ret, s_retN, s_ife, s_for, s_whl, s_pass, s_brk, s_cont, s_rais, s_try, ss_nil, ss_cons, e_T, i_seq, i_rng1, i_rng2, i_enum, of_some, bd_ok, bd_err, fo_ok, fo_err, sq_nx, sq_rt, sq_bk, sq_ct, sq_err, lp_nx, lp_ct, lp_bk, lp_rt, lp_err, tr_ok, tr_err, br_t, br_f, sbr_t, sbr_f, en_some, so_some, ag_some, go_t, tn_some, tu_ap, fr_st, fr_lv, fr_lvE, end_rt, end_nx, end_err, negD, optI, rg1, rg2, tupD, ix0, ix1, ix2, ix3, ix4, ix5, ix6, ix7, ix8, ix9, ix10, ix11, ix12, ix13, ix14, ix15, ixm1, ixm2, isiV, idxD, seqD, opB, opA, opC, truD, setT, setTs, eqD, full, frz, D.sub, D.subL, D.eqv, D.eqvL, D.depth, D.depthL, biD, permD, opI, dctD, isKey, newL, catD, SZ, isiD, tyOk, lstD, setD, mtD, okM, srcD, mkL, slcD, mkDct, putKD, getK, kEq, ofB_some, fin_pl, finX_pl, pl_non, pl_bl, pl_int, pl_str, pl_tup, pl_lst, pl_ro, plL_nil, plL_cons, fin_k, lg_lt, lg_lt2, mulOk_lit, g1, hr0, hset, hS1, e1, c1, c2, ix, hw, e2, q2, e3, l0, l1, la]
      · by_cases c3 : w = 6 ∧ 0 < names.length
        · obtain ⟨rfl, c4⟩ := c3
          obtain ⟨q, S3, e2, g5, q0, q1⟩ := s_sip (n + 2) S2 _ (k + 1) names.length g4 (by omega) (by omega) (by omega)
          obtain ⟨l1, l2⟩ := gs_last g5
          have hq : q.toNat < names.length := by omega
          have ix : ixD names.length q = some q.toNat := ix_at q0 q1
          have hx : names[q.toNat]? = some (names[q.toNat]'hq) := List.getElem?_eq_getElem hq
          have hm : names[q.toNat]'hq ∈ names := List.getElem_mem _
          generalize names[q.toNat]'hq = nm at hx hm
          refine ⟨b ++ [doD nm], s ++ f nm, u + 1, r, k + 1 + 1, _, some (.int 6), ?_, l2 (.lst (b ++ [doD nm])), by omega, by omega, .do_ hm hb⟩
          simp [l20_0, e_var, e_cst, e_tup, e_lst, e_bin, e_neg, e_cmp, e_is, e_chain, e_and, e_or, e_not, e_ife, e_idx, e_slc, e_rev, e_cat, e_dg1, e_dg2, e_tg1, e_tg2, e_tix, e_dcp, dgD, tgD, txD, dcpD, cpDct, revD, e_call, e_bi, e_isi, e_mth, e_fld, e_isx, e_lc, e_dct, xs_nil, xs_cons, xo_none, xo_some, ec_nil, ec_cons, s_asg, s_par, s_par3, s_setIx, s_aug, s_expr, s_ret, s_retN, s_ife, s_for, s_whl, s_pass, s_brk, s_cont, s_rais, s_try, ss_nil, ss_cons, e_T, i_seq, i_rng1, i_rng2, i_enum, of_some, bd_ok, bd_err, fo_ok, fo_err, sq_nx, sq_rt, sq_bk, sq_ct, sq_err, lp_nx, lp_ct, lp_bk, lp_rt, lp_err, tr_ok, tr_err, br_t, br_f, sbr_t, sbr_f, en_some, so_some, ag_some, go_t, tn_some, tu_ap, fr_st, fr_lv, fr_lvE, end_rt, end_nx, end_err, negD, optI, rg1, rg2, tupD, ix0, ix1, ix2, ix3, ix4, ix5, ix6, ix7, ix8, ix9, ix10, ix11, ix12, ix13, ix14, ix15, ixm1, ixm2, isiV, idxD, seqD, opB, opA, opC, truD, setT, setTs, eqD, full, frz, D.sub, D.subL, D.eqv, D.eqvL, D.depth, D.depthL, biD, permD, opI, dctD, isKey, newL, catD, SZ, isiD, tyOk, lstD, setD, mtD, okM, srcD, mkL, slcD, mkDct, putKD, getK, kEq, ofB_some, fin_pl, finX_pl, pl_non, pl_bl, pl_int, pl_str, pl_tup, pl_lst, pl_ro, plL_nil, plL_cons, fin_k, lg_lt, lg_lt2, mulOk_lit, g1, hr0, hset, hS1, e1, c4, e2, ix, hx, l0, l1, la]
        · have c5 : (w == 6) = false ∨ names.length = 0 := by
            by_cases p : w = 6
            · exact .inr (by omega)
            · exact .inl (by simpa using p)
          cases deep with
          | zero =>
            obtain ⟨l1, l2⟩ := gs_last g4
            refine ⟨b ++ [.tup [.str tGo, .int 1]], s ++ [.tup [.str tGo, .int 1]], u + 1, r, k + 1, _, some (.int w), ?_, l2 (.lst (b ++ [.tup [.str tGo, .int 1]])), by omega, by omega, .st (.inl ⟨_, rfl⟩) hb⟩
            rcases c5 with c5 | c5
            · have c6 : ¬ w = 6 := by simpa using c5
              simp [l20_0, e_var, e_cst, e_tup, e_lst, e_bin, e_neg, e_cmp, e_is, e_chain, e_and, e_or, e_not, e_ife, e_idx, e_slc, e_rev, e_cat, e_dg1, e_dg2, e_tg1, e_tg2, e_tix, e_dcp, dgD, tgD, txD, dcpD, cpDct, revD, e_call, e_bi, e_isi, e_mth, e_fld, e_isx, e_lc, e_dct, xs_nil, xs_cons, xo_none, xo_some, ec_nil, ec_cons, s_asg, s_par, s_par3, s_setIx, s_aug, s_expr, s_ret, s_retN, s_ife, s_for, s_whl, s_pass, s_brk, s_cont, s_rais, s_try, ss_nil, ss_cons, e_T, i_seq, i_rng1, i_rng2, i_enum, of_some, bd_ok, bd_err, fo_ok, fo_err, sq_nx, sq_rt, sq_bk, sq_ct, sq_err, lp_nx, lp_ct, lp_bk, lp_rt, lp_err, tr_ok, tr_err, br_t, br_f, sbr_t, sbr_f, en_some, so_some, ag_some, go_t, tn_some, tu_ap, fr_st, fr_lv, fr_lvE, end_rt, end_nx, end_err, negD, optI, rg1, rg2, tupD, ix0, ix1, ix2, ix3, ix4, ix5, ix6, ix7, ix8, ix9, ix10, ix11, ix12, ix13, ix14, ix15, ixm1, ixm2, isiV, idxD, seqD, opB, opA, opC, truD, setT, setTs, eqD, full, frz, D.sub, D.subL, D.eqv, D.eqvL, D.depth, D.depthL, biD, permD, opI, dctD, isKey, newL, catD, SZ, isiD, tyOk, lstD, setD, mtD, okM, srcD, mkL, slcD, mkDct, putKD, getK, kEq, ofB_some, fin_pl, finX_pl, pl_non, pl_bl, pl_int, pl_str, pl_tup, pl_lst, pl_ro, plL_nil, plL_cons, fin_k, lg_lt, lg_lt2, mulOk_lit, g1, hr0, hset, hS1, e1, c1, c2, c5, c6, l0, l1, la]
            · have c7 : names = [] := List.length_eq_zero_iff.mp c5
              subst c7
              by_cases c6 : w = 6
              · subst c6
                simp [l20_0, e_var, e_cst, e_tup, e_lst, e_bin, e_neg, e_cmp, e_is, e_chain, e_and, e_or, e_not, e_ife, e_idx, e_slc, e_rev, e_cat, e_dg1, e_dg2, e_tg1, e_tg2, e_tix, e_dcp, dgD, tgD, txD, dcpD, cpDct, revD, e_call, e_bi, e_isi, e_mth, e_fld, e_isx, e_lc, e_dct, xs_nil, xs_cons, xo_none, xo_some, ec_nil, ec_cons, s_asg, s_par, s_par3, s_setIx, s_aug, s_expr, s_ret, s_retN, s_ife, s_for, s_whl, s_pass, s_brk, s_cont, s_rais, s_try, ss_nil, ss_cons, e_T, i_seq, i_rng1, i_rng2, i_enum, of_some, bd_ok, bd_err, fo_ok, fo_err, sq_nx, sq_rt, sq_bk, sq_ct, sq_err, lp_nx, lp_ct, lp_bk, lp_rt, lp_err, tr_ok, tr_err, br_t, br_f, sbr_t, sbr_f, en_some, so_some, ag_some, go_t, tn_some, tu_ap, fr_st, fr_lv, fr_lvE, end_rt, end_nx, end_err, negD, optI, rg1, rg2, tupD, ix0, ix1, ix2, ix3, ix4, ix5, ix6, ix7, ix8, ix9, ix10, ix11, ix12, ix13, ix14, ix15, ixm1, ixm2, isiV, idxD, seqD, opB, opA, opC, truD, setT, setTs, eqD, full, frz, D.sub, D.subL, D.eqv, D.eqvL, D.depth, D.depthL, biD, permD, opI, dctD, isKey, newL, catD, SZ, isiD, tyOk, lstD, setD, mtD, okM, srcD, mkL, slcD, mkDct, putKD, getK, kEq, ofB_some, fin_pl, finX_pl, pl_non, pl_bl, pl_int, pl_str, pl_tup, pl_lst, pl_ro, plL_nil, plL_cons, fin_k, lg_lt, lg_lt2, mulOk_lit, g1, hr0, hset, hS1, e1, l0, l1, la]
              · have c8 : (w == 6) = false := by simpa using c6
                simp [l20_0, e_var, e_cst, e_tup, e_lst, e_bin, e_neg, e_cmp, e_is, e_chain, e_and, e_or, e_not, e_ife, e_idx, e_slc, e_rev, e_cat, e_dg1, e_dg2, e_tg1, e_tg2, e_tix, e_dcp, dgD, tgD, txD, dcpD, cpDct, revD, e_call, e_bi, e_isi, e_mth, e_fld, e_isx, e_lc, e_dct, xs_nil, xs_cons, xo_none, xo_some, ec_nil, ec_cons, s_asg, s_par, s_par3, s_setIx, s_aug, s_expr, s_ret, s_retN, s_ife, s_for, s_whl, s_pass, s_brk, s_cont, s_rais, s_try, ss_nil, ss_cons, e_T, i_seq, i_rng1, i_rng2, i_enum, of_some, bd_ok, bd_err, fo_ok, fo_err, sq_nx, sq_rt, sq_bk, sq_ct, sq_err, lp_nx, lp_ct, lp_bk, lp_rt, lp_err, tr_ok, tr_err, br_t, br_f, sbr_t, sbr_f, en_some, so_some, ag_some, go_t, tn_some, tu_ap, fr_st, fr_lv, fr_lvE, end_rt, end_nx, end_err, negD, optI, rg1, rg2, tupD, ix0, ix1, ix2, ix3, ix4, ix5, ix6, ix7, ix8, ix9, ix10, ix11, ix12, ix13, ix14, ix15, ixm1, ixm2, isiV, idxD, seqD, opB, opA, opC, truD, setT, setTs, eqD, full, frz, D.sub, D.subL, D.eqv, D.eqvL, D.depth, D.depthL, biD, permD, opI, dctD, isKey, newL, catD, SZ, isiD, tyOk, lstD, setD, mtD, okM, srcD, mkL, slcD, mkDct, putKD, getK, kEq, ofB_some, fin_pl, finX_pl, pl_non, pl_bl, pl_int, pl_str, pl_tup, pl_lst, pl_ro, plL_nil, plL_cons, fin_k, lg_lt, lg_lt2, mulOk_lit, g1, hr0, hset, hS1, e1, c1, c2, c6, c8, l0, l1, la]
          | succ d' =>
            obtain ⟨j, S3, e2, g5, j0, j1⟩ := s_sip (n + 2) S2 _ (k + 1) 4 g4 (by omega) (by decide) (by decide)
            obtain ⟨ib, is, v, r', k', S4, e3, g6, hk', hv, hib⟩ := hD d' rfl pre (post ++ [.lst b]) S3 (k + 1 + 1) kind r g5 (by omega) (by omega)
            obtain ⟨l1, l2⟩ := gs_last g6
            have hd' : (d' : Int) + 1 - 1 = (d' : Int) := by omega
            refine ⟨b ++ [repD j ib], s ++ (List.replicate j.toNat is).flatten, u + 1 + v, r', k', _, some (.int w), ?_, l2 (.lst (b ++ [repD j ib])), by omega, by omega, .rep j0 (by omega) hib hb⟩
            rcases c5 with c5 | c5
            · have c6 : ¬ w = 6 := by simpa using c5
              simp [l20_0, e_var, e_cst, e_tup, e_lst, e_bin, e_neg, e_cmp, e_is, e_chain, e_and, e_or, e_not, e_ife, e_idx, e_slc, e_rev, e_cat, e_dg1, e_dg2, e_tg1, e_tg2, e_tix, e_dcp, dgD, tgD, txD, dcpD, cpDct, revD, e_call, e_bi, e_isi, e_mth, e_fld, e_isx, e_lc, e_dct, xs_nil, xs_cons, xo_none, xo_some, ec_nil, ec_cons, s_asg, s_par, s_par3, s_setIx, s_aug, s_expr, s_ret, s_retN, s_ife, s_for, s_whl, s_pass, s_brk, s_cont, s_rais, s_try, ss_nil, ss_cons, e_T, i_seq, i_rng1, i_rng2, i_enum, of_some, bd_ok, bd_err, fo_ok, fo_err, sq_nx, sq_rt, sq_bk, sq_ct, sq_err, lp_nx, lp_ct, lp_bk, lp_rt, lp_err, tr_ok, tr_err, br_t, br_f, sbr_t, sbr_f, en_some, so_some, ag_some, go_t, tn_some, tu_ap, fr_st, fr_lv, fr_lvE, end_rt, end_nx, end_err, negD, optI, rg1, rg2, tupD, ix0, ix1, ix2, ix3, ix4, ix5, ix6, ix7, ix8, ix9, ix10, ix11, ix12, ix13, ix14, ix15, ixm1, ixm2, isiV, idxD, seqD, opB, opA, opC, truD, setT, setTs, eqD, full, frz, D.sub, D.subL, D.eqv, D.eqvL, D.depth, D.depthL, biD, permD, opI, dctD, isKey, newL, catD, SZ, isiD, tyOk, lstD, setD, mtD, okM, srcD, mkL, slcD, mkDct, putKD, getK, kEq, ofB_some, fin_pl, finX_pl, pl_non, pl_bl, pl_int, pl_str, pl_tup, pl_lst, pl_ro, plL_nil, plL_cons, fin_k, lg_lt, lg_lt2, mulOk_lit, g1, hr0, hset, hS1, e1, c1, c2, c5, c6, e2, hd', e3, l0, l1, la]
            · have c7 : names = [] := List.length_eq_zero_iff.mp c5
              subst c7
              by_cases c6 : w = 6
              · subst c6
                simp [l20_0, e_var, e_cst, e_tup, e_lst, e_bin, e_neg, e_cmp, e_is, e_chain, e_and, e_or, e_not, e_ife, e_idx, e_slc, e_rev, e_cat, e_dg1, e_dg2, e_tg1, e_tg2, e_tix, e_dcp, dgD, tgD, txD, dcpD, cpDct, revD, e_call, e_bi, e_isi, e_mth, e_fld, e_isx, e_lc, e_dct, xs_nil, xs_cons, xo_none, xo_some, ec_nil, ec_cons, s_asg, s_par, s_par3, s_setIx, s_aug, s_expr, s_ret, s_retN, s_ife, s_for, s_whl, s_pass, s_brk, s_cont, s_rais, s_try, ss_nil, ss_cons, e_T, i_seq, i_rng1, i_rng2, i_enum, of_some, bd_ok, bd_err, fo_ok, fo_err, sq_nx, sq_rt, sq_bk, sq_ct, sq_err, lp_nx, lp_ct, lp_bk, lp_rt, lp_err, tr_ok, tr_err, br_t, br_f, sbr_t, sbr_f, en_some, so_some, ag_some, go_t, tn_some, tu_ap, fr_st, fr_lv, fr_lvE, end_rt, end_nx, end_err, negD, optI, rg1, rg2, tupD, ix0, ix1, ix2, ix3, ix4, ix5, ix6, ix7, ix8, ix9, ix10, ix11, ix12, ix13, ix14, ix15, ixm1, ixm2, isiV, idxD, seqD, opB, opA, opC, truD, setT, setTs, eqD, full, frz, D.sub, D.subL, D.eqv, D.eqvL, D.depth, D.depthL, biD, permD, opI, dctD, isKey, newL, catD, SZ, isiD, tyOk, lstD, setD, mtD, okM, srcD, mkL, slcD, mkDct, putKD, getK, kEq, ofB_some, fin_pl, finX_pl, pl_non, pl_bl, pl_int, pl_str, pl_tup, pl_lst, pl_ro, plL_nil, plL_cons, fin_k, lg_lt, lg_lt2, mulOk_lit, g1, hr0, hset, hS1, e1, e2, hd', l0, l1, la]
                simp at e3
                simp [e_var, e_cst, e_tup, e_lst, e_bin, e_neg, e_cmp, e_is, e_chain, e_and, e_or, e_not, e_ife, e_idx, e_slc, e_rev, e_cat, e_dg1, e_dg2, e_tg1, e_tg2, e_tix, e_dcp, dgD, tgD, txD, dcpD, cpDct, revD, e_call, e_bi, e_isi, e_mth, e_fld, e_isx, e_lc, e_dct, xs_nil, xs_cons, xo_none, xo_some, ec_nil, ec_cons, s_asg, s_par, s_par3, s_setIx, s_aug, s_expr, s_ret, s_retN, s_ife, s_for, s_whl, s_pass, s_brk, s_cont, s_rais, s_try, ss_nil, ss_cons, e_T, i_seq, i_rng1, i_rng2, i_enum, of_some, bd_ok, bd_err, fo_ok, fo_err, sq_nx, sq_rt, sq_bk, sq_ct, sq_err, lp_nx, lp_ct, lp_bk, lp_rt, lp_err, tr_ok, tr_err, br_t, br_f, sbr_t, sbr_f, en_some, so_some, ag_some, go_t, tn_some, tu_ap, fr_st, fr_lv, fr_lvE, end_rt, end_nx, end_err, negD, optI, rg1, rg2, tupD, ix0, ix1, ix2, ix3, ix4, ix5, ix6, ix7, ix8, ix9, ix10, ix11, ix12, ix13, ix14, ix15, ixm1, ixm2, isiV, idxD, seqD, opB, opA, opC, truD, setT, setTs, eqD, full, frz, D.sub, D.subL, D.eqv, D.eqvL, D.depth, D.depthL, biD, permD, opI, dctD, isKey, newL, catD, SZ, isiD, tyOk, lstD, setD, mtD, okM, srcD, mkL, slcD, mkDct, putKD, getK, kEq, ofB_some, fin_pl, finX_pl, pl_non, pl_bl, pl_int, pl_str, pl_tup, pl_lst, pl_ro, plL_nil, plL_cons, fin_k, lg_lt, lg_lt2, mulOk_lit, e3, l0, l1, la]
              · have c8 : (w == 6) = false := by simpa using c6
                simp only [List.map_nil] at e3
                simp [l20_0, e_var, e_cst, e_tup, e_lst, e_bin, e_neg, e_cmp, e_is, e_chain, e_and, e_or, e_not, e_ife, e_idx, e_slc, e_rev, e_cat, e_dg1, e_dg2, e_tg1, e_tg2, e_tix, e_dcp, dgD, tgD, txD, dcpD, cpDct, revD, e_call, e_bi, e_isi, e_mth, e_fld, e_isx, e_lc, e_dct, xs_nil, xs_cons, xo_none, xo_some, ec_nil, ec_cons, s_asg, s_par, s_par3, s_setIx, s_aug, s_expr, s_ret, s_retN, s_ife, s_for, s_whl, s_pass, s_brk, s_cont, s_rais, s_try, ss_nil, ss_cons, e_T, i_seq, i_rng1, i_rng2, i_enum, of_some, bd_ok, bd_err, fo_ok, fo_err, sq_nx, sq_rt, sq_bk, sq_ct, sq_err, lp_nx, lp_ct, lp_bk, lp_rt, lp_err, tr_ok, tr_err, br_t, br_f, sbr_t, sbr_f, en_some, so_some, ag_some, go_t, tn_some, tu_ap, fr_st, fr_lv, fr_lvE, end_rt, end_nx, end_err, negD, optI, rg1, rg2, tupD, ix0, ix1, ix2, ix3, ix4, ix5, ix6, ix7, ix8, ix9, ix10, ix11, ix12, ix13, ix14, ix15, ixm1, ixm2, isiV, idxD, seqD, opB, opA, opC, truD, setT, setTs, eqD, full, frz, D.sub, D.subL, D.eqv, D.eqvL, D.depth, D.depthL, biD, permD, opI, dctD, isKey, newL, catD, SZ, isiD, tyOk, lstD, setD, mtD, okM, srcD, mkL, slcD, mkDct, putKD, getK, kEq, ofB_some, fin_pl, finX_pl, pl_non, pl_bl, pl_int, pl_str, pl_tup, pl_lst, pl_ro, plL_nil, plL_cons, fin_k, lg_lt, lg_lt2, mulOk_lit, g1, hr0, hset, hS1, e1, c1, c2, c6, c8, e2, hd', e3, l0, l1, la]
end K44
set_option Elab.async false
set_option linter.all false
set_option maxRecDepth 100000
set_option maxHeartbeats 4000000
namespace K44
open DI
theorem draw_loop (names : List Tx) (f : Tx → List D) (n deep : Nat) (hD : ∀ d', deep = d' + 1 → Drw names f (n + 3) d') (hN : names.length ≤ 100) (pre post : Sto) (kind : Int) : ∀ (js : List D) (S : Sto) (k : Int) (r u : Nat) (b s : List D) (z6 z7 : Option D),
    Gs k (pre ++ .lst [.int (r : Int)] :: (post ++ [.lst b])) S → k + 5 * r + 9 ≤ 1000000 → u + r ≤ 100 → DB names f deep u b s →
    ∃ (b' s' : List D) (u' r' : Nat) (k' : Int) (S' : Sto) (z6' z7' : Option D), forS (RS.tu (cal (n + 3)) (.nm 6) l20_0) js (rD kind names deep pre post z6 z7) S = .ok .nx (rD kind names deep pre post z6' z7') S' ∧ Gs k' (pre ++ .lst [.int (r' : Int)] :: (post ++ [.lst b'])) S' ∧ k' + 5 * r' ≤ k + 5 * r ∧ u' + r' = u + r ∧ DB names f deep u' b' s'
  | [], S, k, r, u, b, s, z6, z7, h, _, _, hb => ⟨b, s, u, r, k, S, z6, z7, rfl, h, by omega, rfl, hb⟩
  | x :: js, S, k, r, u, b, s, z6, z7, h, hk, hu, hb => by
    rcases one_lap names f n deep hD hN pre post S k kind r u b s x z6 z7 h hk hu hb with e | ⟨b1, s1, u1, r1, k1, S1, z1, e, g1, q1, q2, hb1⟩
    · exact ⟨b, s, u, r, k, S, some x, z7, by rw [fs_cons, e, lp_bk], h, by omega, rfl, hb⟩
    · obtain ⟨b2, s2, u2, r2, k2, S2, z2, z3, e2, g2, q3, q4, hb2⟩ := draw_loop names f n deep hD hN pre post kind js S1 k1 r1 u1 b1 s1 (some x) z1 g1 (by omega) (by omega) hb1
      exact ⟨b2, s2, u2, r2, k2, S2, z2, z3, by rw [fs_cons, e, lp_nx, e2], g2, by omega, by omega, hb2⟩
theorem drw_step (names : List Tx) (f : Tx → List D) (hN : names.length ≤ 100) (n deep : Nat) (hD : ∀ d', deep = d' + 1 → Drw names f (n + 3) d') : Drw names f (n + 4) deep := by
  intro pre post st k kind r h hk hr
  have hl := gs_len h
  have h1 : Gs k (pre ++ .lst [.int (r : Int)] :: (post ++ [.lst []])) (st ++ [.lst []]) := by
    have := gs_app h [.lst []]
    simpa using this
  obtain ⟨q, S1, e1, g1, q0, q1⟩ := s_sip (n + 2) _ _ k 4 h1 (by omega) (by decide) (by decide)
  obtain ⟨b, s, u, r', k', S2, z6, z7, e2, g2, q2, q3, hb⟩ := draw_loop names f n deep hD hN pre post kind (rngD 0 (1 + q)) S1 (k + 1) r 0 [] [] none none g1 (by omega) (by omega) (.nil _)
  obtain ⟨S3, e3, g3⟩ := fin_room (d := .tup b) h g2 (db_pl hb)
  have l1 := (gs_last g2).1
  have bl := db_len hb
  have lb : b.length ≤ 10000000 := by omega
  have sm : small62 (1 + q) = true := small62_of (by omega) (by omega)
  refine ⟨b, s, u, r', k', S3, call_run (F := F20) rfl rfl ?_, g3, by omega, by omega, hb⟩
  simp only [rD] at e2
  simp [F20, b20, e_var, e_cst, e_tup, e_lst, e_bin, e_neg, e_cmp, e_is, e_chain, e_and, e_or, e_not, e_ife, e_idx, e_slc, e_rev, e_cat, e_dg1, e_dg2, e_tg1, e_tg2, e_tix, e_dcp, dgD, tgD, txD, dcpD, cpDct, revD, e_call, e_bi, e_isi, e_mth, e_fld, e_isx, e_lc, e_dct, xs_nil, xs_cons, xo_none, xo_some, ec_nil, ec_cons, s_asg, s_par, s_par3, s_setIx, s_aug, s_expr, s_ret, s_retN, s_ife, s_for, s_whl, s_pass, s_brk, s_cont, s_rais, s_try, ss_nil, ss_cons, e_T, i_seq, i_rng1, i_rng2, i_enum, of_some, bd_ok, bd_err, fo_ok, fo_err, sq_nx, sq_rt, sq_bk, sq_ct, sq_err, lp_nx, lp_ct, lp_bk, lp_rt, lp_err, tr_ok, tr_err, br_t, br_f, sbr_t, sbr_f, en_some, so_some, ag_some, go_t, tn_some, tu_ap, fr_st, fr_lv, fr_lvE, end_rt, end_nx, end_err, negD, optI, rg1, rg2, tupD, ix0, ix1, ix2, ix3, ix4, ix5, ix6, ix7, ix8, ix9, ix10, ix11, ix12, ix13, ix14, ix15, ixm1, ixm2, isiV, idxD, seqD, opB, opA, opC, truD, setT, setTs, eqD, full, frz, D.sub, D.subL, D.eqv, D.eqvL, D.depth, D.depthL, biD, permD, opI, dctD, isKey, newL, catD, SZ, isiD, tyOk, lstD, setD, mtD, okM, srcD, mkL, slcD, mkDct, putKD, getK, kEq, ofB_some, fin_pl, finX_pl, pl_non, pl_bl, pl_int, pl_str, pl_tup, pl_lst, pl_ro, plL_nil, plL_cons, fin_k, lg_lt, lg_lt2, mulOk_lit, hl, e1, sm, e2, l1, lb]
  exact e3
theorem drw (names : List Tx) (f : Tx → List D) (hN : names.length ≤ 100) (n : Nat) : ∀ deep, Drw names f (n + 4 + deep) deep
  | 0 => drw_step names f hN n 0 fun d' h => by omega
  | d + 1 => by
    have ih := drw names f hN n d
    have e : n + 4 + (d + 1) = (n + 1 + d) + 4 := by omega
    rw [e]
    refine drw_step names f hN (n + 1 + d) (d + 1) fun d' h => ?_
    obtain rfl : d' = d := by omega
    rw [show n + 1 + d' + 3 = n + 4 + d' by omega]
    exact ih
theorem gs_len2 {k : Int} {rest S : Sto} (h : Gs k rest S) : S.length = rest.length + 2 := by
  obtain ⟨cs, m, t, rfl, _⟩ := h
  rfl
theorem s_draw (names : List Tx) (f : Tx → List D) (hN : names.length ≤ 100) (n deep : Nat) (rest S : Sto) (k kind : Int) (r : Nat) (h : Gs k rest S) (hk : k ≤ 900000) (hr : r ≤ 100) :
    ∃ (b s : List D) (u : Nat) (k' : Int) (S' : Sto) (o : Ob), callD fds anc (n + 4 + deep) 20 [.loc 1, .int kind, .lst (names.map .str), .int (deep : Int), .loc S.length] (S ++ [.lst [.int (r : Int)]]) = .ok (.tup b) S' ∧ Gs k' (rest ++ [o]) S' ∧ k' ≤ k + 1 + 5 * r ∧ u ≤ r ∧ DB names f deep u b s := by
  obtain ⟨b, s, u, r', k', S', e, g, q1, q2, hb⟩ := drw names f hN n deep rest [] _ k kind r (by simpa using gs_app h [.lst [.int (r : Int)]]) (by omega) hr
  rw [← gs_len2 h] at e
  exact ⟨b, s, u, k', S', _, e, g, by omega, by omega, hb⟩
/-! what it is worth -/
def BP (kvs : List (D × D)) : Nat → Pb
  | 0 => fun _ _ => False
  | n + 1 => Bm (BP kvs n) kvs
def LP (kv : List (D × D)) : Nat → Pb
  | 0 => fun _ _ => False
  | n + 1 => LBm (LP kv n) kv
theorem bm_mono {P Q : Pb} {kvs : List (D × D)} (h : ∀ b s, P b s → Q b s) {b s : List D} (k : Bm P kvs b s) : Bm Q kvs b s := by
  induction k with
  | nil => exact .nil
  | cons hd _ ih =>
    refine .cons ?_ ih
    rcases hd with hd | hd | ⟨k, b, s, e1, hp, e2⟩
    · exact .inl hd
    · exact .inr (.inl hd)
    · exact .inr (.inr ⟨k, b, s, e1, h _ _ hp, e2⟩)
theorem lbm_mono {P Q : Pb} {kv : List (D × D)} (h : ∀ b s, P b s → Q b s) {b s : List D} (k : LBm P kv b s) : LBm Q kv b s := by
  induction k with
  | nil => exact .nil
  | cons hd _ ih =>
    refine .cons ?_ ih
    rcases hd with hd | ⟨nm, b, e1, e2, hp, e3⟩ | ⟨k, b, s, e1, hp, e2⟩
    · exact .inl hd
    · exact .inr (.inl ⟨nm, b, e1, e2, h _ _ hp, e3⟩)
    · exact .inr (.inr ⟨k, b, s, e1, h _ _ hp, e2⟩)
theorem bp_up (kvs : List (D × D)) : ∀ (n : Nat) (b s : List D), BP kvs n b s → BP kvs (n + 1) b s
  | 0, _, _, h => h.elim
  | n + 1, _, _, h => bm_mono (bp_up kvs n) h
theorem lp_up (kv : List (D × D)) : ∀ (n : Nat) (b s : List D), LP kv n b s → LP kv (n + 1) b s
  | 0, _, _, h => h.elim
  | n + 1, _, _, h => lbm_mono (lp_up kv n) h
theorem bp_le {kvs : List (D × D)} {n m : Nat} (h : n ≤ m) {b s : List D} (k : BP kvs n b s) : BP kvs m b s := by
  induction m with
  | zero => obtain rfl : n = 0 := by omega
            exact k
  | succ m ih =>
    by_cases e : n = m + 1
    · subst e; exact k
    · exact bp_up _ _ _ _ (ih (by omega))
theorem lp_le {kv : List (D × D)} {n m : Nat} (h : n ≤ m) {b s : List D} (k : LP kv n b s) : LP kv m b s := by
  induction m with
  | zero => obtain rfl : n = 0 := by omega
            exact k
  | succ m ih =>
    by_cases e : n = m + 1
    · subst e; exact k
    · exact lp_up _ _ _ _ (ih (by omega))
theorem bm_app {P : Pb} {kvs : List (D × D)} {a s b t : List D} (h : Bm P kvs a s) (k : Bm P kvs b t) : Bm P kvs (a ++ b) (s ++ t) := by
  induction h with
  | nil => exact k
  | cons hd _ ih => rw [List.cons_append, List.append_assoc]; exact .cons hd ih
theorem lbm_app {P : Pb} {kv : List (D × D)} {a s b t : List D} (h : LBm P kv a s) (k : LBm P kv b t) : LBm P kv (a ++ b) (s ++ t) := by
  induction h with
  | nil => exact k
  | cons hd _ ih => rw [List.cons_append, List.append_assoc]; exact .cons hd ih
theorem bm_one {P : Pb} {kvs : List (D × D)} {d : D} {s : List D} (h : Sm P kvs d s) : Bm P kvs [d] s := by
  have := Bm.cons h (.nil (P := P) (kvs := kvs))
  rwa [List.append_nil] at this
theorem lbm_one {P : Pb} {kv : List (D × D)} {d : D} {s : List D} (h : LSm P kv d s) : LBm P kv [d] s := by
  have := LBm.cons h (.nil (P := P) (kv := kv))
  rwa [List.append_nil] at this
theorem lbm_flat {P : Pb} {kv : List (D × D)} : ∀ {ss : List D}, Sts ss → LBm P kv ss ss
  | [], _ => .nil
  | s :: ss, h => by
    have := LBm.cons (P := P) (kv := kv) (.inl ⟨h s (List.mem_cons_self ..), rfl⟩) (lbm_flat (P := P) (kv := kv) (ss := ss) fun d hd => h d (List.mem_cons_of_mem _ hd))
    simpa using this
theorem db_worth {names : List Tx} {f : Tx → List D} {kvs kv : List (D × D)} {L j : Nat} (hL : 1 ≤ L) (H : ∀ nm ∈ names, getK kvs (.str nm) = some (.lst (f nm)) ∧ Sts (f nm) ∧ (f nm).length ≤ L ∧ ∃ b, getK kv (.str nm) = some (.tup b) ∧ LP kv j b (f nm))
    {k u : Nat} {b s : List D} (h : DB names f k u b s) : u * 3 ^ k * L ≤ 100000 → BP kvs (k + 1) b s ∧ LP kv (j + k + 1) b s ∧ s.length ≤ u * 3 ^ k * L := by
  induction h with
  | nil k => intro _; exact ⟨.nil, .nil, by simp⟩
  | @st k u b s d hd hb ih =>
    intro hu
    rw [Nat.add_mul, Nat.add_mul, Nat.one_mul] at hu ⊢
    obtain ⟨i1, i2, i3⟩ := ih (by omega)
    have p3 : 1 ≤ 3 ^ k * L := Nat.mul_pos (Nat.pow_pos (by decide)) hL
    exact ⟨bm_app i1 (bm_one (.inl ⟨hd, rfl⟩)), lbm_app i2 (lbm_one (.inl ⟨hd, rfl⟩)), by rw [List.length_append, List.length_singleton]; omega⟩
  | @do_ k u b s nm hn hb ih =>
    intro hu
    rw [Nat.add_mul, Nat.add_mul, Nat.one_mul] at hu ⊢
    obtain ⟨i1, i2, i3⟩ := ih (by omega)
    obtain ⟨h1, h2, h3, bb, h4, h5⟩ := H nm hn
    have p3 : L ≤ 3 ^ k * L := Nat.le_mul_of_pos_left _ (Nat.pow_pos (by decide))
    exact ⟨bm_app i1 (bm_one (.inr (.inl ⟨nm, rfl, h1, h2⟩))), lbm_app i2 (lbm_one (.inr (.inl ⟨nm, bb, rfl, h4, lp_le (by omega) h5, h2⟩))), by rw [List.length_append]; omega⟩
  | @rep k u v b s r t q q0 q1 hr hb ih1 ih2 =>
    intro hu
    rw [Nat.add_mul, Nat.add_mul, Nat.add_mul, Nat.add_mul, Nat.one_mul] at hu ⊢
    have e : v * 3 ^ (k + 1) * L = 3 * (v * 3 ^ k * L) := by rw [Nat.pow_succ]; grind
    rw [e] at hu ⊢
    obtain ⟨i1, i2, i3⟩ := ih1 (by omega)
    obtain ⟨i4, i5, i6⟩ := ih2 (by omega)
    have hs : Sts t := bm_sts i1
    have hq : q.toNat * t.length ≤ 3 * t.length := Nat.mul_le_mul_right _ (by omega)
    refine ⟨bm_app i4 (bm_one (.inr (.inr ⟨q, r, t, rfl, i1, rfl, by omega, q0, by omega, hs⟩))), lbm_app i5 (lbm_one (.inr (.inr ⟨q, r, t, rfl, i2, rfl, by omega, q0, by omega, hs⟩))), ?_⟩
    rw [List.length_append, flat_len]
    omega
theorem lp_runs {mk : List D} {kv : List (D × D)} (hm : MkD mk kv) (n : Nat) : ∀ m, LRuns mk (n + m) (LP kv m)
  | 0 => fun _ _ h => h.elim
  | m + 1 => lruns_up hm (lp_runs hm n m)
/-- a drawn plan, and its steps, both ways -/
def Okb (mk b s : List D) : Prop := ∃ kvs kv, Mk [] mk kvs ∧ MkD mk kv ∧ P3 kvs b s ∧ LP kv 7 b s ∧ D.plL mk = true ∧ D.plL b = true ∧ s.length ≤ 10000
theorem okb_sts {mk b s : List D} (h : Okb mk b s) : Sts s := by
  obtain ⟨_, _, _, _, h, _⟩ := h
  exact bm_sts h
theorem okb_steps (n : Nat) {mk b s : List D} (h : Okb mk b s) (st : Sto) : callD fds anc (n + 7) 17 [.tup mk, .tup b] st = .ok (.tup s) st := by
  obtain ⟨kvs, kv, _, hm, _, hl, _, _, hs⟩ := h
  exact lp_runs hm n 7 b s hl (by omega) st
theorem okb_pl {mk b s : List D} (h : Okb mk b s) : Pl (.tup [.tup mk, .tup b]) s := by
  obtain ⟨kvs, kv, h1, _, h2, _, _, _, hs⟩ := h
  exact ⟨mk, b, kvs, rfl, h1, h2, by omega⟩
theorem okb_back {mk b s t : List D} (h : Okb mk b s) (ht : Sts t) (hl : s.length + t.length ≤ 10000) : Okb mk (b ++ t) (s ++ t) := by
  obtain ⟨kvs, kv, h1, h2, h3, h4, h5, h6, hs⟩ := h
  exact ⟨kvs, kv, h1, h2, bm_app h3 (bm_flat ht), lbm_app h4 (lbm_flat ht), h5, by rw [plL_app, h6, sts_pl ht]; rfl, by rw [List.length_append]; omega⟩
theorem okb_front {mk b s t : List D} (h : Okb mk b s) (ht : Sts t) (hl : s.length + t.length ≤ 10000) : Okb mk (t ++ b) (t ++ s) := by
  obtain ⟨kvs, kv, h1, h2, h3, h4, h5, h6, hs⟩ := h
  exact ⟨kvs, kv, h1, h2, bm_app (bm_flat ht) h3, lbm_app (lbm_flat ht) h4, h5, by rw [plL_app, h6, sts_pl ht]; rfl, by rw [List.length_append]; omega⟩
theorem okb_flat {t : List D} (ht : Sts t) (hl : t.length ≤ 10000) : Okb [] t t :=
  ⟨[], [], .nil _, ⟨[], rfl, rfl⟩, bm_flat ht, lbm_flat ht, rfl, sts_pl ht, hl⟩
/-! undone -/
def fl (d : D) : D := match d with
  | .tup [.str w, x] => if w = tGo ∨ w = tSkip then d else .tup [.str (if w = tLeft then tRight else tLeft), x]
  | d => d
theorem fl_st {d : D} (h : isSt d) : isSt (fl d) := by
  rcases h with ⟨k, rfl⟩ | ⟨k, rfl⟩ | ⟨x, y, rfl, h⟩ | ⟨x, y, rfl, h⟩
  · exact .inl ⟨k, rfl⟩
  · exact .inr (.inl ⟨k, rfl⟩)
  · exact .inr (.inr (.inr ⟨x, y, rfl, h⟩))
  · exact .inr (.inr (.inl ⟨x, y, rfl, h⟩))
abbrev hb : D := .tup [.str tLeft, .tup [.int (-1), .int 0]]
theorem hb_st : isSt hb := .inr (.inr (.inl ⟨_, _, rfl, okV_of (by decide) (by decide) (by decide)⟩))
theorem undone_loop (n : Nat) (st : Sto) (X : D) : ∀ (js acc : List D) (z : Option D), Sts js → acc.length + js.length ≤ 100000 → ∃ z', forS (RS.tu (cal n) (.nm 2) l21_0) js [some X, some (.loc st.length), z] (st ++ [.lst acc]) = .ok .nx [some X, some (.loc st.length), z'] (st ++ [.lst (acc ++ js.map fl)])
  | [], acc, z, _, _ => ⟨z, by rw [List.map_nil, List.append_nil]; rfl⟩
  | d :: js, acc, z, hs, hl => by
    rw [List.length_cons] at hl
    have h2 : ∀ o : Ob, (st ++ [o])[st.length]? = some o := fun o => app_get st o
    have h3 : ∀ o u : Ob, (st ++ [o]).set st.length u = st ++ [u] := fun o u => app_set st o u
    have la : acc.length < 10000000 := by omega
    obtain ⟨z', e⟩ := undone_loop n st X js (acc ++ [fl d]) (some d) (fun x hx => hs x (List.mem_cons_of_mem _ hx)) (by rw [List.length_append, List.length_singleton]; omega)
    refine ⟨z', ?_⟩
    have key : RS.tu (cal n) (.nm 2) l21_0 d [some X, some (.loc st.length), z] (st ++ [.lst acc]) = .ok .nx [some X, some (.loc st.length), some d] (st ++ [.lst (acc ++ [fl d])]) := by
      rcases hs d (List.mem_cons_self ..) with ⟨k, rfl⟩ | ⟨k, rfl⟩ | ⟨x, y, rfl, _⟩ | ⟨x, y, rfl, _⟩ <;> simp [l21_0, e_var, e_cst, e_tup, e_lst, e_bin, e_neg, e_cmp, e_is, e_chain, e_and, e_or, e_not, e_ife, e_idx, e_slc, e_rev, e_cat, e_dg1, e_dg2, e_tg1, e_tg2, e_tix, e_dcp, dgD, tgD, txD, dcpD, cpDct, revD, e_call, e_bi, e_isi, e_mth, e_fld, e_isx, e_lc, e_dct, xs_nil, xs_cons, xo_none, xo_some, ec_nil, ec_cons, s_asg, s_par, s_par3, s_setIx, s_aug, s_expr, s_ret, s_retN, s_ife, s_for, s_whl, s_pass, s_brk, s_cont, s_rais, s_try, ss_nil, ss_cons, e_T, i_seq, i_rng1, i_rng2, i_enum, of_some, bd_ok, bd_err, fo_ok, fo_err, sq_nx, sq_rt, sq_bk, sq_ct, sq_err, lp_nx, lp_ct, lp_bk, lp_rt, lp_err, tr_ok, tr_err, br_t, br_f, sbr_t, sbr_f, en_some, so_some, ag_some, go_t, tn_some, tu_ap, fr_st, fr_lv, fr_lvE, end_rt, end_nx, end_err, negD, optI, rg1, rg2, tupD, ix0, ix1, ix2, ix3, ix4, ix5, ix6, ix7, ix8, ix9, ix10, ix11, ix12, ix13, ix14, ix15, ixm1, ixm2, isiV, idxD, seqD, opB, opA, opC, truD, setT, setTs, eqD, full, frz, D.sub, D.subL, D.eqv, D.eqvL, D.depth, D.depthL, biD, permD, opI, dctD, isKey, newL, catD, SZ, isiD, tyOk, lstD, setD, mtD, okM, srcD, mkL, slcD, mkDct, putKD, getK, kEq, ofB_some, fin_pl, finX_pl, pl_non, pl_bl, pl_int, pl_str, pl_tup, pl_lst, pl_ro, plL_nil, plL_cons, fin_k, lg_lt, lg_lt2, mulOk_lit, h2, h3, la, gs1, gs2, gs3, gs4, fl]
    rw [fs_cons, key, lp_nx, e]
    simp
abbrev undo (ss : List D) : List D := hb :: (ss.reverse.map fl ++ [hb])
theorem undo_sts {ss : List D} (h : Sts ss) : Sts (undo ss) := by
  intro d hd
  rcases List.mem_cons.mp hd with rfl | hd
  · exact hb_st
  · rcases List.mem_append.mp hd with hd | hd
    · obtain ⟨x, hx, rfl⟩ := List.mem_map.mp hd
      exact fl_st (h x (List.mem_reverse.mp hx))
    · rw [List.mem_singleton.mp hd]; exact hb_st
theorem s_undone (n : Nat) (st : Sto) {ss : List D} (h : Sts ss) (hl : ss.length ≤ 10000) : callD fds anc (n + 1) 21 [.tup ss] st = .ok (.tup (undo ss)) st := by
  obtain ⟨z, e⟩ := undone_loop n st (.tup ss) ss.reverse [hb] none (fun d hd => h d (List.mem_reverse.mp hd)) (by rw [List.length_reverse, List.length_singleton]; omega)
  have h2 : ∀ o : Ob, (st ++ [o])[st.length]? = some o := fun o => app_get st o
  have q : (ss.reverse.map fl).length = ss.length := by simp
  have f := fin_plA1 (d := .tup (undo ss)) (sts_pl (undo_sts h)) st (.lst ([hb] ++ ss.reverse.map fl))
  unfold undo at f ⊢
  refine call_run (F := F21) rfl rfl ?_
  generalize hm : ss.reverse.map fl = m at *
  have l1 : m.length + 1 ≤ 10000000 := by omega
  have l2 : m.length + 1 + 1 ≤ 10000000 := by omega
  simp only [List.cons_append, List.nil_append] at e f
  simp [F21, b21, e_var, e_cst, e_tup, e_lst, e_bin, e_neg, e_cmp, e_is, e_chain, e_and, e_or, e_not, e_ife, e_idx, e_slc, e_rev, e_cat, e_dg1, e_dg2, e_tg1, e_tg2, e_tix, e_dcp, dgD, tgD, txD, dcpD, cpDct, revD, e_call, e_bi, e_isi, e_mth, e_fld, e_isx, e_lc, e_dct, xs_nil, xs_cons, xo_none, xo_some, ec_nil, ec_cons, s_asg, s_par, s_par3, s_setIx, s_aug, s_expr, s_ret, s_retN, s_ife, s_for, s_whl, s_pass, s_brk, s_cont, s_rais, s_try, ss_nil, ss_cons, e_T, i_seq, i_rng1, i_rng2, i_enum, of_some, bd_ok, bd_err, fo_ok, fo_err, sq_nx, sq_rt, sq_bk, sq_ct, sq_err, lp_nx, lp_ct, lp_bk, lp_rt, lp_err, tr_ok, tr_err, br_t, br_f, sbr_t, sbr_f, en_some, so_some, ag_some, go_t, tn_some, tu_ap, fr_st, fr_lv, fr_lvE, end_rt, end_nx, end_err, negD, optI, rg1, rg2, tupD, ix0, ix1, ix2, ix3, ix4, ix5, ix6, ix7, ix8, ix9, ix10, ix11, ix12, ix13, ix14, ix15, ixm1, ixm2, isiV, idxD, seqD, opB, opA, opC, truD, setT, setTs, eqD, full, frz, D.sub, D.subL, D.eqv, D.eqvL, D.depth, D.depthL, biD, permD, opI, dctD, isKey, newL, catD, SZ, isiD, tyOk, lstD, setD, mtD, okM, srcD, mkL, slcD, mkDct, putKD, getK, kEq, ofB_some, fin_pl, finX_pl, pl_non, pl_bl, pl_int, pl_str, pl_tup, pl_lst, pl_ro, plL_nil, plL_cons, fin_k, lg_lt, lg_lt2, mulOk_lit, e, h2, l1, l2]
  exact f
end K44
set_option Elab.async false
set_option linter.all false
set_option maxRecDepth 100000
set_option maxHeartbeats 4000000
namespace K44
open DI
theorem ss_app {C : Cal} (b : List Cm) : ∀ (a : List Cm) {ρ ρ' : Env} {st st' : Sto}, evSs C a ρ st = .ok .nx ρ' st' → evSs C (a ++ b) ρ st = evSs C b ρ' st'
  | [], ρ, ρ', st, st', h => by
    rw [ss_nil] at h
    cases h
    rfl
  | c :: a, ρ, ρ', st, st', h => by
    rw [ss_cons] at h
    rw [List.cons_append, ss_cons]
    cases hc : evS C c ρ st with
    | ok f r s =>
      rw [hc] at h
      cases f with
      | nx => exact ss_app b a h
      | _ => cases h
    | _ => rw [hc] at h; cases h
/-! makers -/
abbrev mkD (ms : List (Tx × List D)) : List D := ms.map fun p => .tup [.str p.1, .tup p.2]
def fstF (d : D) : D := match d with
  | .tup [x, _] => x
  | d => d
theorem lcn1 (C : Cal) (ms : List (Tx × List D)) (st : Sto) (d0 d1 d2 d3 d4 d5 d6 d7 d8 d9 d10 d11 : Option D) : R.lc C (.tp [.nm 10, .nm 4]) [] (.var 10) [4, 10] (.st (mkD ms)) [d0, d1, d2, d3, d4, d5, d6, d7, d8, d9, d10, d11] st = .ok ((ms.map (·.1)).map .str) st := by
  refine (lc_map fstF fun x hx => ?_).trans (by congr 1; simp [mkD, fstF])
  obtain ⟨p, _, rfl⟩ := List.mem_map.mp hx
  exact ⟨[d0, d1, d2, d3, some (.tup p.2), d5, d6, d7, d8, d9, some (.str p.1), d11], rfl, by simp [e_var, e_cst, e_tup, e_lst, e_bin, e_neg, e_cmp, e_is, e_chain, e_and, e_or, e_not, e_ife, e_idx, e_slc, e_rev, e_cat, e_dg1, e_dg2, e_tg1, e_tg2, e_tix, e_dcp, dgD, tgD, txD, dcpD, cpDct, revD, e_call, e_bi, e_isi, e_mth, e_fld, e_isx, e_lc, e_dct, xs_nil, xs_cons, xo_none, xo_some, ec_nil, ec_cons, s_asg, s_par, s_par3, s_setIx, s_aug, s_expr, s_ret, s_retN, s_ife, s_for, s_whl, s_pass, s_brk, s_cont, s_rais, s_try, ss_nil, ss_cons, e_T, i_seq, i_rng1, i_rng2, i_enum, of_some, bd_ok, bd_err, fo_ok, fo_err, sq_nx, sq_rt, sq_bk, sq_ct, sq_err, lp_nx, lp_ct, lp_bk, lp_rt, lp_err, tr_ok, tr_err, br_t, br_f, sbr_t, sbr_f, en_some, so_some, ag_some, go_t, tn_some, tu_ap, fr_st, fr_lv, fr_lvE, end_rt, end_nx, end_err, negD, optI, rg1, rg2, tupD, ix0, ix1, ix2, ix3, ix4, ix5, ix6, ix7, ix8, ix9, ix10, ix11, ix12, ix13, ix14, ix15, ixm1, ixm2, isiV, idxD, seqD, opB, opA, opC, truD, setT, setTs, eqD, full, frz, D.sub, D.subL, D.eqv, D.eqvL, D.depth, D.depthL, biD, permD, opI, dctD, isKey, newL, catD, SZ, isiD, tyOk, lstD, setD, mtD, okM, srcD, mkL, slcD, mkDct, putKD, getK, kEq, ofB_some, fin_pl, finX_pl, pl_non, pl_bl, pl_int, pl_str, pl_tup, pl_lst, pl_ro, plL_nil, plL_cons, fin_k, lg_lt, lg_lt2, mulOk_lit], by simp [e_var, e_cst, e_tup, e_lst, e_bin, e_neg, e_cmp, e_is, e_chain, e_and, e_or, e_not, e_ife, e_idx, e_slc, e_rev, e_cat, e_dg1, e_dg2, e_tg1, e_tg2, e_tix, e_dcp, dgD, tgD, txD, dcpD, cpDct, revD, e_call, e_bi, e_isi, e_mth, e_fld, e_isx, e_lc, e_dct, xs_nil, xs_cons, xo_none, xo_some, ec_nil, ec_cons, s_asg, s_par, s_par3, s_setIx, s_aug, s_expr, s_ret, s_retN, s_ife, s_for, s_whl, s_pass, s_brk, s_cont, s_rais, s_try, ss_nil, ss_cons, e_T, i_seq, i_rng1, i_rng2, i_enum, of_some, bd_ok, bd_err, fo_ok, fo_err, sq_nx, sq_rt, sq_bk, sq_ct, sq_err, lp_nx, lp_ct, lp_bk, lp_rt, lp_err, tr_ok, tr_err, br_t, br_f, sbr_t, sbr_f, en_some, so_some, ag_some, go_t, tn_some, tu_ap, fr_st, fr_lv, fr_lvE, end_rt, end_nx, end_err, negD, optI, rg1, rg2, tupD, ix0, ix1, ix2, ix3, ix4, ix5, ix6, ix7, ix8, ix9, ix10, ix11, ix12, ix13, ix14, ix15, ixm1, ixm2, isiV, idxD, seqD, opB, opA, opC, truD, setT, setTs, eqD, full, frz, D.sub, D.subL, D.eqv, D.eqvL, D.depth, D.depthL, biD, permD, opI, dctD, isKey, newL, catD, SZ, isiD, tyOk, lstD, setD, mtD, okM, srcD, mkL, slcD, mkDct, putKD, getK, kEq, ofB_some, fin_pl, finX_pl, pl_non, pl_bl, pl_int, pl_str, pl_tup, pl_lst, pl_ro, plL_nil, plL_cons, fin_k, lg_lt, lg_lt2, mulOk_lit, fstF]⟩
theorem lcn2 (C : Cal) (ms : List (Tx × List D)) (st : Sto) (d0 d1 d2 d3 d4 d5 d6 d7 d8 d9 d10 d11 : Option D) : R.lc C (.tp [.nm 10, .nm 11]) [] (.var 10) [10, 11] (.st (mkD ms)) [d0, d1, d2, d3, d4, d5, d6, d7, d8, d9, d10, d11] st = .ok ((ms.map (·.1)).map .str) st := by
  refine (lc_map fstF fun x hx => ?_).trans (by congr 1; simp [mkD, fstF])
  obtain ⟨p, _, rfl⟩ := List.mem_map.mp hx
  exact ⟨[d0, d1, d2, d3, d4, d5, d6, d7, d8, d9, some (.str p.1), some (.tup p.2)], rfl, by simp [e_var, e_cst, e_tup, e_lst, e_bin, e_neg, e_cmp, e_is, e_chain, e_and, e_or, e_not, e_ife, e_idx, e_slc, e_rev, e_cat, e_dg1, e_dg2, e_tg1, e_tg2, e_tix, e_dcp, dgD, tgD, txD, dcpD, cpDct, revD, e_call, e_bi, e_isi, e_mth, e_fld, e_isx, e_lc, e_dct, xs_nil, xs_cons, xo_none, xo_some, ec_nil, ec_cons, s_asg, s_par, s_par3, s_setIx, s_aug, s_expr, s_ret, s_retN, s_ife, s_for, s_whl, s_pass, s_brk, s_cont, s_rais, s_try, ss_nil, ss_cons, e_T, i_seq, i_rng1, i_rng2, i_enum, of_some, bd_ok, bd_err, fo_ok, fo_err, sq_nx, sq_rt, sq_bk, sq_ct, sq_err, lp_nx, lp_ct, lp_bk, lp_rt, lp_err, tr_ok, tr_err, br_t, br_f, sbr_t, sbr_f, en_some, so_some, ag_some, go_t, tn_some, tu_ap, fr_st, fr_lv, fr_lvE, end_rt, end_nx, end_err, negD, optI, rg1, rg2, tupD, ix0, ix1, ix2, ix3, ix4, ix5, ix6, ix7, ix8, ix9, ix10, ix11, ix12, ix13, ix14, ix15, ixm1, ixm2, isiV, idxD, seqD, opB, opA, opC, truD, setT, setTs, eqD, full, frz, D.sub, D.subL, D.eqv, D.eqvL, D.depth, D.depthL, biD, permD, opI, dctD, isKey, newL, catD, SZ, isiD, tyOk, lstD, setD, mtD, okM, srcD, mkL, slcD, mkDct, putKD, getK, kEq, ofB_some, fin_pl, finX_pl, pl_non, pl_bl, pl_int, pl_str, pl_tup, pl_lst, pl_ro, plL_nil, plL_cons, fin_k, lg_lt, lg_lt2, mulOk_lit], by simp [e_var, e_cst, e_tup, e_lst, e_bin, e_neg, e_cmp, e_is, e_chain, e_and, e_or, e_not, e_ife, e_idx, e_slc, e_rev, e_cat, e_dg1, e_dg2, e_tg1, e_tg2, e_tix, e_dcp, dgD, tgD, txD, dcpD, cpDct, revD, e_call, e_bi, e_isi, e_mth, e_fld, e_isx, e_lc, e_dct, xs_nil, xs_cons, xo_none, xo_some, ec_nil, ec_cons, s_asg, s_par, s_par3, s_setIx, s_aug, s_expr, s_ret, s_retN, s_ife, s_for, s_whl, s_pass, s_brk, s_cont, s_rais, s_try, ss_nil, ss_cons, e_T, i_seq, i_rng1, i_rng2, i_enum, of_some, bd_ok, bd_err, fo_ok, fo_err, sq_nx, sq_rt, sq_bk, sq_ct, sq_err, lp_nx, lp_ct, lp_bk, lp_rt, lp_err, tr_ok, tr_err, br_t, br_f, sbr_t, sbr_f, en_some, so_some, ag_some, go_t, tn_some, tu_ap, fr_st, fr_lv, fr_lvE, end_rt, end_nx, end_err, negD, optI, rg1, rg2, tupD, ix0, ix1, ix2, ix3, ix4, ix5, ix6, ix7, ix8, ix9, ix10, ix11, ix12, ix13, ix14, ix15, ixm1, ixm2, isiV, idxD, seqD, opB, opA, opC, truD, setT, setTs, eqD, full, frz, D.sub, D.subL, D.eqv, D.eqvL, D.depth, D.depthL, biD, permD, opI, dctD, isKey, newL, catD, SZ, isiD, tyOk, lstD, setD, mtD, okM, srcD, mkL, slcD, mkDct, putKD, getK, kEq, ofB_some, fin_pl, finX_pl, pl_non, pl_bl, pl_int, pl_str, pl_tup, pl_lst, pl_ro, plL_nil, plL_cons, fin_k, lg_lt, lg_lt2, mulOk_lit, fstF]⟩
theorem mk_lap (n : Nat) (ms : List (Tx × List D)) (hm : ms.length ≤ 10) (f : Tx → List D) (nm : Tx) (rest S : Sto) (k fam : Int) (z3 : Option D) (h : Gs k rest S) (hk : k ≤ 900000) :
    ∃ (b s : List D) (u : Nat) (k' : Int) (S' : Sto) (o : Ob), RS.tu (cal (n + 5)) (.nm 3) l22_0 (.str nm) [some (.loc 1), some (.int fam), some (.tup (mkD ms)), z3, none, none, none, none, none, none, none, none] S = .ok .nx [some (.loc 1), some (.int fam), some (.tup (mkD (ms ++ [(nm, b)]))), some (.str nm), none, none, none, none, none, none, none, none] S' ∧ Gs k' (rest ++ [o]) S' ∧ k' ≤ k + 16 ∧ u ≤ 3 ∧ DB (ms.map (·.1)) f 1 u b s := by
  obtain ⟨b, s, u, k', S', o, e, g, q1, q2, hb⟩ := s_draw (ms.map (·.1)) f (by rw [List.length_map]; omega) n 1 rest S k (if 0 < fam then 1 else 0) 3 h (by omega) (by omega)
  refine ⟨b, s, u, k', S', o, ?_, g, by omega, by omega, hb⟩
  have lcn := lcn1 (cal (n + 5)) ms
  have l1 : (mkD ms).length + 1 ≤ 10000000 := by rw [List.length_map]; omega
  have e5 : mkD (ms ++ [(nm, b)]) = mkD ms ++ [.tup [.str nm, .tup b]] := by simp [mkD]
  rw [e5]
  have l2 : ((ms.map (·.1)).map D.str).length ≤ 10000000 := by rw [List.length_map, List.length_map]; omega
  generalize mkD ms = M at *
  generalize (ms.map (·.1)).map D.str = N at *
  simp only [Int.natCast_one, Int.ofNat_one, Int.cast_ofNat_Int] at e
  simp [l22_0, e_var, e_cst, e_tup, e_lst, e_bin, e_neg, e_cmp, e_is, e_chain, e_and, e_or, e_not, e_ife, e_idx, e_slc, e_rev, e_cat, e_dg1, e_dg2, e_tg1, e_tg2, e_tix, e_dcp, dgD, tgD, txD, dcpD, cpDct, revD, e_call, e_bi, e_isi, e_mth, e_fld, e_isx, e_lc, e_dct, xs_nil, xs_cons, xo_none, xo_some, ec_nil, ec_cons, s_asg, s_par, s_par3, s_setIx, s_aug, s_expr, s_ret, s_retN, s_ife, s_for, s_whl, s_pass, s_brk, s_cont, s_rais, s_try, ss_nil, ss_cons, e_T, i_seq, i_rng1, i_rng2, i_enum, of_some, bd_ok, bd_err, fo_ok, fo_err, sq_nx, sq_rt, sq_bk, sq_ct, sq_err, lp_nx, lp_ct, lp_bk, lp_rt, lp_err, tr_ok, tr_err, br_t, br_f, sbr_t, sbr_f, en_some, so_some, ag_some, go_t, tn_some, tu_ap, fr_st, fr_lv, fr_lvE, end_rt, end_nx, end_err, negD, optI, rg1, rg2, tupD, ix0, ix1, ix2, ix3, ix4, ix5, ix6, ix7, ix8, ix9, ix10, ix11, ix12, ix13, ix14, ix15, ixm1, ixm2, isiV, idxD, seqD, opB, opA, opC, truD, setT, setTs, eqD, full, frz, D.sub, D.subL, D.eqv, D.eqvL, D.depth, D.depthL, biD, permD, opI, dctD, isKey, newL, catD, SZ, isiD, tyOk, lstD, setD, mtD, okM, srcD, mkL, slcD, mkDct, putKD, getK, kEq, ofB_some, fin_pl, finX_pl, pl_non, pl_bl, pl_int, pl_str, pl_tup, pl_lst, pl_ro, plL_nil, plL_cons, fin_k, lg_lt, lg_lt2, mulOk_lit, lcn, e, l1, l2]
abbrev tA : Tx := [97]
abbrev tB : Tx := [98, 50]
theorem s_mks (n : Nat) (rest S : Sto) (k fam : Int) (h : Gs k rest S) (hk : k ≤ 800000) :
    ∃ (ms : List (Tx × List D)) (f : Tx → List D) (z3 : Option D) (k' : Int) (S' ex : Sto), evSs (cal (n + 5)) (b22.take 2) [some (.loc 1), some (.int fam), none, none, none, none, none, none, none, none, none, none] S = .ok .nx [some (.loc 1), some (.int fam), some (.tup (mkD ms)), z3, none, none, none, none, none, none, none, none] S' ∧ Gs k' (rest ++ ex) S' ∧ k' ≤ k + 33 ∧ ms.length ≤ 2 ∧ ∀ (u : Nat) (b s : List D), u ≤ 6 → DB (ms.map (·.1)) f 2 u b s → Okb (mkD ms) b s := by
  obtain ⟨q, S1, e1, g1, q0, q1⟩ := s_sip (n + 4) S rest k 3 h (by omega) (by decide) (by decide)
  have hq : q = 0 ∨ q = 1 ∨ q = 2 := by omega
  rcases hq with rfl | rfl | rfl
  · refine ⟨[], fun _ => [], none, k + 1, S1, [], ?_, by rw [List.append_nil]; exact g1, by omega, by decide, ?_⟩
    · have hc : cutD [D.str tA, D.str tB] none (some 0) = [] := rfl
      simp [b22, e_var, e_cst, e_tup, e_lst, e_bin, e_neg, e_cmp, e_is, e_chain, e_and, e_or, e_not, e_ife, e_idx, e_slc, e_rev, e_cat, e_dg1, e_dg2, e_tg1, e_tg2, e_tix, e_dcp, dgD, tgD, txD, dcpD, cpDct, revD, e_call, e_bi, e_isi, e_mth, e_fld, e_isx, e_lc, e_dct, xs_nil, xs_cons, xo_none, xo_some, ec_nil, ec_cons, s_asg, s_par, s_par3, s_setIx, s_aug, s_expr, s_ret, s_retN, s_ife, s_for, s_whl, s_pass, s_brk, s_cont, s_rais, s_try, ss_nil, ss_cons, e_T, i_seq, i_rng1, i_rng2, i_enum, of_some, bd_ok, bd_err, fo_ok, fo_err, sq_nx, sq_rt, sq_bk, sq_ct, sq_err, lp_nx, lp_ct, lp_bk, lp_rt, lp_err, tr_ok, tr_err, br_t, br_f, sbr_t, sbr_f, en_some, so_some, ag_some, go_t, tn_some, tu_ap, fr_st, fr_lv, fr_lvE, end_rt, end_nx, end_err, negD, optI, rg1, rg2, tupD, ix0, ix1, ix2, ix3, ix4, ix5, ix6, ix7, ix8, ix9, ix10, ix11, ix12, ix13, ix14, ix15, ixm1, ixm2, isiV, idxD, seqD, opB, opA, opC, truD, setT, setTs, eqD, full, frz, D.sub, D.subL, D.eqv, D.eqvL, D.depth, D.depthL, biD, permD, opI, dctD, isKey, newL, catD, SZ, isiD, tyOk, lstD, setD, mtD, okM, srcD, mkL, slcD, mkDct, putKD, getK, kEq, ofB_some, fin_pl, finX_pl, pl_non, pl_bl, pl_int, pl_str, pl_tup, pl_lst, pl_ro, plL_nil, plL_cons, fin_k, lg_lt, lg_lt2, mulOk_lit, e1, hc, mkD, fs_nil]
    · intro u b s hu hb
      obtain ⟨w1, w2, w3⟩ := db_worth (kvs := []) (kv := []) (L := 1) (j := 0) (by decide) (fun nm hn => by cases hn) hb (by omega)
      exact ⟨[], [], .nil _, ⟨[], rfl, rfl⟩, w1, lp_le (by decide) w2, rfl, db_pl hb, by omega⟩
  · obtain ⟨A, sA, uA, k2, S2, o, e2, g2, k2l, uAl, hA⟩ := mk_lap n [] (by decide) (fun _ => []) tA rest S1 (k + 1) fam none g1 (by omega)
    refine ⟨[(tA, A)], fun _ => sA, some (.str tA), k2, S2, [o], ?_, g2, by omega, by simp, ?_⟩
    · have hc : cutD [D.str tA, D.str tB] none (some 1) = [D.str tA] := rfl
      simp only [List.nil_append] at e2
      have fe : forS (RS.tu (cal (n + 5)) (.nm 3) l22_0) [.str tA] [some (.loc 1), some (.int fam), some (.tup []), none, none, none, none, none, none, none, none, none] S1 = .ok .nx [some (.loc 1), some (.int fam), some (.tup (mkD [(tA, A)])), some (.str tA), none, none, none, none, none, none, none, none] S2 := by
        rw [fs_cons]
        have e2' : RS.tu (cal (n + 5)) (.nm 3) l22_0 (.str tA) [some (.loc 1), some (.int fam), some (.tup []), none, none, none, none, none, none, none, none, none] S1 = _ := e2
        rw [e2', lp_nx, fs_nil]
      generalize mkD [(tA, A)] = M at *
      simp [b22, e_var, e_cst, e_tup, e_lst, e_bin, e_neg, e_cmp, e_is, e_chain, e_and, e_or, e_not, e_ife, e_idx, e_slc, e_rev, e_cat, e_dg1, e_dg2, e_tg1, e_tg2, e_tix, e_dcp, dgD, tgD, txD, dcpD, cpDct, revD, e_call, e_bi, e_isi, e_mth, e_fld, e_isx, e_lc, e_dct, xs_nil, xs_cons, xo_none, xo_some, ec_nil, ec_cons, s_asg, s_par, s_par3, s_setIx, s_aug, s_expr, s_ret, s_retN, s_ife, s_for, s_whl, s_pass, s_brk, s_cont, s_rais, s_try, ss_nil, ss_cons, e_T, i_seq, i_rng1, i_rng2, i_enum, of_some, bd_ok, bd_err, fo_ok, fo_err, sq_nx, sq_rt, sq_bk, sq_ct, sq_err, lp_nx, lp_ct, lp_bk, lp_rt, lp_err, tr_ok, tr_err, br_t, br_f, sbr_t, sbr_f, en_some, so_some, ag_some, go_t, tn_some, tu_ap, fr_st, fr_lv, fr_lvE, end_rt, end_nx, end_err, negD, optI, rg1, rg2, tupD, ix0, ix1, ix2, ix3, ix4, ix5, ix6, ix7, ix8, ix9, ix10, ix11, ix12, ix13, ix14, ix15, ixm1, ixm2, isiV, idxD, seqD, opB, opA, opC, truD, setT, setTs, eqD, full, frz, D.sub, D.subL, D.eqv, D.eqvL, D.depth, D.depthL, biD, permD, opI, dctD, isKey, newL, catD, SZ, isiD, tyOk, lstD, setD, mtD, okM, srcD, mkL, slcD, mkDct, putKD, getK, kEq, ofB_some, fin_pl, finX_pl, pl_non, pl_bl, pl_int, pl_str, pl_tup, pl_lst, pl_ro, plL_nil, plL_cons, fin_k, lg_lt, lg_lt2, mulOk_lit, e1, hc, fe]
    · intro u b s hu hb
      have a1 := fun kvs kv => db_worth (kvs := kvs) (kv := kv) (L := 1) (j := 0) (by decide) (fun nm hn => by cases hn) hA (by omega)
      obtain ⟨x1, x2, x3⟩ := a1 [] [(.str tA, .tup A)]
      have sa : Sts sA := bm_sts x1
      obtain ⟨w1, w2, w3⟩ := db_worth (kvs := [(.str tA, .lst sA)]) (kv := [(.str tA, .tup A)]) (L := 9) (j := 2) (by decide) (fun nm hn => by
        have : nm = tA := by simpa using hn
        subst this
        exact ⟨rfl, sa, by omega, A, rfl, x2⟩) hb (by omega)
      exact ⟨[(.str tA, .lst sA)], [(.str tA, .tup A)], .cons (bp_le (m := 3) (by decide) x1) (by omega) (by decide) (.nil _), ⟨_, rfl, rfl⟩, w1, lp_le (by decide) w2, by simp [mkD, plL_cons, pl_tup, pl_str, plL_nil, db_pl hA], db_pl hb, by omega⟩
  · obtain ⟨A, sA, uA, k2, S2, o, e2, g2, k2l, uAl, hA⟩ := mk_lap n [] (by decide) (fun _ => []) tA rest S1 (k + 1) fam none g1 (by omega)
    obtain ⟨B, sB, uB, k3, S3, o3, e3, g3, k3l, uBl, hB⟩ := mk_lap n [(tA, A)] (by simp) (fun _ => sA) tB (rest ++ [o]) S2 k2 fam (some (.str tA)) g2 (by omega)
    refine ⟨[(tA, A), (tB, B)], fun nm => if nm = tA then sA else sB, some (.str tB), k3, S3, [o, o3], ?_, by simpa using g3, by omega, by simp, ?_⟩
    · have hc : cutD [D.str tA, D.str tB] none (some 2) = [D.str tA, D.str tB] := rfl
      have fe : forS (RS.tu (cal (n + 5)) (.nm 3) l22_0) [.str tA, .str tB] [some (.loc 1), some (.int fam), some (.tup []), none, none, none, none, none, none, none, none, none] S1 = .ok .nx [some (.loc 1), some (.int fam), some (.tup (mkD [(tA, A), (tB, B)])), some (.str tB), none, none, none, none, none, none, none, none] S3 := by
        rw [fs_cons]
        have e2' : RS.tu (cal (n + 5)) (.nm 3) l22_0 (.str tA) [some (.loc 1), some (.int fam), some (.tup []), none, none, none, none, none, none, none, none, none] S1 = _ := e2
        rw [e2', lp_nx, fs_cons]
        have e3' : RS.tu (cal (n + 5)) (.nm 3) l22_0 (.str tB) [some (.loc 1), some (.int fam), some (.tup (mkD ([] ++ [(tA, A)]))), some (.str tA), none, none, none, none, none, none, none, none] S2 = _ := e3
        rw [e3', lp_nx, fs_nil]
        rfl
      generalize mkD [(tA, A), (tB, B)] = M at *
      simp [b22, e_var, e_cst, e_tup, e_lst, e_bin, e_neg, e_cmp, e_is, e_chain, e_and, e_or, e_not, e_ife, e_idx, e_slc, e_rev, e_cat, e_dg1, e_dg2, e_tg1, e_tg2, e_tix, e_dcp, dgD, tgD, txD, dcpD, cpDct, revD, e_call, e_bi, e_isi, e_mth, e_fld, e_isx, e_lc, e_dct, xs_nil, xs_cons, xo_none, xo_some, ec_nil, ec_cons, s_asg, s_par, s_par3, s_setIx, s_aug, s_expr, s_ret, s_retN, s_ife, s_for, s_whl, s_pass, s_brk, s_cont, s_rais, s_try, ss_nil, ss_cons, e_T, i_seq, i_rng1, i_rng2, i_enum, of_some, bd_ok, bd_err, fo_ok, fo_err, sq_nx, sq_rt, sq_bk, sq_ct, sq_err, lp_nx, lp_ct, lp_bk, lp_rt, lp_err, tr_ok, tr_err, br_t, br_f, sbr_t, sbr_f, en_some, so_some, ag_some, go_t, tn_some, tu_ap, fr_st, fr_lv, fr_lvE, end_rt, end_nx, end_err, negD, optI, rg1, rg2, tupD, ix0, ix1, ix2, ix3, ix4, ix5, ix6, ix7, ix8, ix9, ix10, ix11, ix12, ix13, ix14, ix15, ixm1, ixm2, isiV, idxD, seqD, opB, opA, opC, truD, setT, setTs, eqD, full, frz, D.sub, D.subL, D.eqv, D.eqvL, D.depth, D.depthL, biD, permD, opI, dctD, isKey, newL, catD, SZ, isiD, tyOk, lstD, setD, mtD, okM, srcD, mkL, slcD, mkDct, putKD, getK, kEq, ofB_some, fin_pl, finX_pl, pl_non, pl_bl, pl_int, pl_str, pl_tup, pl_lst, pl_ro, plL_nil, plL_cons, fin_k, lg_lt, lg_lt2, mulOk_lit, e1, hc, fe]
    · intro u b s hu hb
      have a1 := fun kvs kv => db_worth (kvs := kvs) (kv := kv) (L := 1) (j := 0) (by decide) (fun nm hn => by cases hn) hA (by omega)
      obtain ⟨x1, x2, x3⟩ := a1 [] [(.str tA, .tup A), (.str tB, .tup B)]
      have sa : Sts sA := bm_sts x1
      obtain ⟨y1, y2, y3⟩ := db_worth (kvs := [(.str tA, .lst sA)]) (kv := [(.str tA, .tup A), (.str tB, .tup B)]) (L := 9) (j := 2) (by decide) (fun nm hn => by
        have : nm = tA := by simpa using hn
        subst this
        exact ⟨rfl, sa, by omega, A, rfl, x2⟩) hB (by omega)
      have sb : Sts sB := bm_sts y1
      obtain ⟨w1, w2, w3⟩ := db_worth (kvs := [(.str tA, .lst sA), (.str tB, .lst sB)]) (kv := [(.str tA, .tup A), (.str tB, .tup B)]) (L := 81) (j := 4) (by decide) (fun nm hn => by
        have : nm = tA ∨ nm = tB := by simpa using hn
        rcases this with rfl | rfl
        · exact ⟨rfl, sa, by simp; omega, A, rfl, lp_le (by decide) x2⟩
        · exact ⟨rfl, sb, by simp; omega, B, rfl, y2⟩) hb (by omega)
      exact ⟨[(.str tA, .lst sA), (.str tB, .lst sB)], [(.str tA, .tup A), (.str tB, .tup B)], .cons (bp_le (m := 3) (by decide) x1) (by omega) (by decide) (.cons (bp_le (m := 3) (by decide) y1) (by omega) (by simp [mkE, putKD, getK]) (.nil _)), ⟨_, rfl, rfl⟩, w1, lp_le (by decide) w2, by simp [mkD, plL_cons, pl_tup, pl_str, plL_nil, db_pl hA, db_pl hB], db_pl hb, by omega⟩
end K44
set_option Elab.async false
set_option linter.all false
set_option maxRecDepth 100000
set_option maxHeartbeats 4000000
namespace K44
open DI
/-! a plan -/
abbrev eP (fam : Int) (mk b s : List D) (z3 z6 z7 z8 : Option D) : Env := [some (.loc 1), some (.int fam), some (.tup mk), z3, some (.tup b), some (.tup s), z6, z7, z8, none, none, none]
theorem lct (C : Cal) {s : List D} (hs : Sts s) (st : Sto) (d0 d1 d2 d3 d4 d5 d6 d7 d8 d9 d10 d11 : Option D) : R.lc C (.nm 9) [.cmp .mem (.idx (.var 9) (.cst (.int 0))) (.tup [.cst (.str tLeft), .cst (.str tRight)])] (.var 9) [9] (.st s) [d0, d1, d2, d3, d4, d5, d6, d7, d8, d9, d10, d11] st = .ok (s.filterMap tnF) st := by
  refine lc_fm tnF fun x hx => ⟨[d0, d1, d2, d3, d4, d5, d6, d7, d8, some x, d10, d11], rfl, ?_⟩
  rcases hs x hx with ⟨k, rfl⟩ | ⟨k, rfl⟩ | ⟨u, v, rfl, _⟩ | ⟨u, v, rfl, _⟩
  · exact .inl ⟨rfl, by simp [e_var, e_cst, e_tup, e_lst, e_bin, e_neg, e_cmp, e_is, e_chain, e_and, e_or, e_not, e_ife, e_idx, e_slc, e_rev, e_cat, e_dg1, e_dg2, e_tg1, e_tg2, e_tix, e_dcp, dgD, tgD, txD, dcpD, cpDct, revD, e_call, e_bi, e_isi, e_mth, e_fld, e_isx, e_lc, e_dct, xs_nil, xs_cons, xo_none, xo_some, ec_nil, ec_cons, s_asg, s_par, s_par3, s_setIx, s_aug, s_expr, s_ret, s_retN, s_ife, s_for, s_whl, s_pass, s_brk, s_cont, s_rais, s_try, ss_nil, ss_cons, e_T, i_seq, i_rng1, i_rng2, i_enum, of_some, bd_ok, bd_err, fo_ok, fo_err, sq_nx, sq_rt, sq_bk, sq_ct, sq_err, lp_nx, lp_ct, lp_bk, lp_rt, lp_err, tr_ok, tr_err, br_t, br_f, sbr_t, sbr_f, en_some, so_some, ag_some, go_t, tn_some, tu_ap, fr_st, fr_lv, fr_lvE, end_rt, end_nx, end_err, negD, optI, rg1, rg2, tupD, ix0, ix1, ix2, ix3, ix4, ix5, ix6, ix7, ix8, ix9, ix10, ix11, ix12, ix13, ix14, ix15, ixm1, ixm2, isiV, idxD, seqD, opB, opA, opC, truD, setT, setTs, eqD, full, frz, D.sub, D.subL, D.eqv, D.eqvL, D.depth, D.depthL, biD, permD, opI, dctD, isKey, newL, catD, SZ, isiD, tyOk, lstD, setD, mtD, okM, srcD, mkL, slcD, mkDct, putKD, getK, kEq, ofB_some, fin_pl, finX_pl, pl_non, pl_bl, pl_int, pl_str, pl_tup, pl_lst, pl_ro, plL_nil, plL_cons, fin_k, lg_lt, lg_lt2, mulOk_lit, lr1]⟩
  · exact .inl ⟨rfl, by simp [e_var, e_cst, e_tup, e_lst, e_bin, e_neg, e_cmp, e_is, e_chain, e_and, e_or, e_not, e_ife, e_idx, e_slc, e_rev, e_cat, e_dg1, e_dg2, e_tg1, e_tg2, e_tix, e_dcp, dgD, tgD, txD, dcpD, cpDct, revD, e_call, e_bi, e_isi, e_mth, e_fld, e_isx, e_lc, e_dct, xs_nil, xs_cons, xo_none, xo_some, ec_nil, ec_cons, s_asg, s_par, s_par3, s_setIx, s_aug, s_expr, s_ret, s_retN, s_ife, s_for, s_whl, s_pass, s_brk, s_cont, s_rais, s_try, ss_nil, ss_cons, e_T, i_seq, i_rng1, i_rng2, i_enum, of_some, bd_ok, bd_err, fo_ok, fo_err, sq_nx, sq_rt, sq_bk, sq_ct, sq_err, lp_nx, lp_ct, lp_bk, lp_rt, lp_err, tr_ok, tr_err, br_t, br_f, sbr_t, sbr_f, en_some, so_some, ag_some, go_t, tn_some, tu_ap, fr_st, fr_lv, fr_lvE, end_rt, end_nx, end_err, negD, optI, rg1, rg2, tupD, ix0, ix1, ix2, ix3, ix4, ix5, ix6, ix7, ix8, ix9, ix10, ix11, ix12, ix13, ix14, ix15, ixm1, ixm2, isiV, idxD, seqD, opB, opA, opC, truD, setT, setTs, eqD, full, frz, D.sub, D.subL, D.eqv, D.eqvL, D.depth, D.depthL, biD, permD, opI, dctD, isKey, newL, catD, SZ, isiD, tyOk, lstD, setD, mtD, okM, srcD, mkL, slcD, mkDct, putKD, getK, kEq, ofB_some, fin_pl, finX_pl, pl_non, pl_bl, pl_int, pl_str, pl_tup, pl_lst, pl_ro, plL_nil, plL_cons, fin_k, lg_lt, lg_lt2, mulOk_lit, lr2]⟩
  · exact .inr ⟨_, rfl, by simp [e_var, e_cst, e_tup, e_lst, e_bin, e_neg, e_cmp, e_is, e_chain, e_and, e_or, e_not, e_ife, e_idx, e_slc, e_rev, e_cat, e_dg1, e_dg2, e_tg1, e_tg2, e_tix, e_dcp, dgD, tgD, txD, dcpD, cpDct, revD, e_call, e_bi, e_isi, e_mth, e_fld, e_isx, e_lc, e_dct, xs_nil, xs_cons, xo_none, xo_some, ec_nil, ec_cons, s_asg, s_par, s_par3, s_setIx, s_aug, s_expr, s_ret, s_retN, s_ife, s_for, s_whl, s_pass, s_brk, s_cont, s_rais, s_try, ss_nil, ss_cons, e_T, i_seq, i_rng1, i_rng2, i_enum, of_some, bd_ok, bd_err, fo_ok, fo_err, sq_nx, sq_rt, sq_bk, sq_ct, sq_err, lp_nx, lp_ct, lp_bk, lp_rt, lp_err, tr_ok, tr_err, br_t, br_f, sbr_t, sbr_f, en_some, so_some, ag_some, go_t, tn_some, tu_ap, fr_st, fr_lv, fr_lvE, end_rt, end_nx, end_err, negD, optI, rg1, rg2, tupD, ix0, ix1, ix2, ix3, ix4, ix5, ix6, ix7, ix8, ix9, ix10, ix11, ix12, ix13, ix14, ix15, ixm1, ixm2, isiV, idxD, seqD, opB, opA, opC, truD, setT, setTs, eqD, full, frz, D.sub, D.subL, D.eqv, D.eqvL, D.depth, D.depthL, biD, permD, opI, dctD, isKey, newL, catD, SZ, isiD, tyOk, lstD, setD, mtD, okM, srcD, mkL, slcD, mkDct, putKD, getK, kEq, ofB_some, fin_pl, finX_pl, pl_non, pl_bl, pl_int, pl_str, pl_tup, pl_lst, pl_ro, plL_nil, plL_cons, fin_k, lg_lt, lg_lt2, mulOk_lit, lr3], by simp [e_var, e_cst, e_tup, e_lst, e_bin, e_neg, e_cmp, e_is, e_chain, e_and, e_or, e_not, e_ife, e_idx, e_slc, e_rev, e_cat, e_dg1, e_dg2, e_tg1, e_tg2, e_tix, e_dcp, dgD, tgD, txD, dcpD, cpDct, revD, e_call, e_bi, e_isi, e_mth, e_fld, e_isx, e_lc, e_dct, xs_nil, xs_cons, xo_none, xo_some, ec_nil, ec_cons, s_asg, s_par, s_par3, s_setIx, s_aug, s_expr, s_ret, s_retN, s_ife, s_for, s_whl, s_pass, s_brk, s_cont, s_rais, s_try, ss_nil, ss_cons, e_T, i_seq, i_rng1, i_rng2, i_enum, of_some, bd_ok, bd_err, fo_ok, fo_err, sq_nx, sq_rt, sq_bk, sq_ct, sq_err, lp_nx, lp_ct, lp_bk, lp_rt, lp_err, tr_ok, tr_err, br_t, br_f, sbr_t, sbr_f, en_some, so_some, ag_some, go_t, tn_some, tu_ap, fr_st, fr_lv, fr_lvE, end_rt, end_nx, end_err, negD, optI, rg1, rg2, tupD, ix0, ix1, ix2, ix3, ix4, ix5, ix6, ix7, ix8, ix9, ix10, ix11, ix12, ix13, ix14, ix15, ixm1, ixm2, isiV, idxD, seqD, opB, opA, opC, truD, setT, setTs, eqD, full, frz, D.sub, D.subL, D.eqv, D.eqvL, D.depth, D.depthL, biD, permD, opI, dctD, isKey, newL, catD, SZ, isiD, tyOk, lstD, setD, mtD, okM, srcD, mkL, slcD, mkDct, putKD, getK, kEq, ofB_some, fin_pl, finX_pl, pl_non, pl_bl, pl_int, pl_str, pl_tup, pl_lst, pl_ro, plL_nil, plL_cons, fin_k, lg_lt, lg_lt2, mulOk_lit]⟩
  · exact .inr ⟨_, rfl, by simp [e_var, e_cst, e_tup, e_lst, e_bin, e_neg, e_cmp, e_is, e_chain, e_and, e_or, e_not, e_ife, e_idx, e_slc, e_rev, e_cat, e_dg1, e_dg2, e_tg1, e_tg2, e_tix, e_dcp, dgD, tgD, txD, dcpD, cpDct, revD, e_call, e_bi, e_isi, e_mth, e_fld, e_isx, e_lc, e_dct, xs_nil, xs_cons, xo_none, xo_some, ec_nil, ec_cons, s_asg, s_par, s_par3, s_setIx, s_aug, s_expr, s_ret, s_retN, s_ife, s_for, s_whl, s_pass, s_brk, s_cont, s_rais, s_try, ss_nil, ss_cons, e_T, i_seq, i_rng1, i_rng2, i_enum, of_some, bd_ok, bd_err, fo_ok, fo_err, sq_nx, sq_rt, sq_bk, sq_ct, sq_err, lp_nx, lp_ct, lp_bk, lp_rt, lp_err, tr_ok, tr_err, br_t, br_f, sbr_t, sbr_f, en_some, so_some, ag_some, go_t, tn_some, tu_ap, fr_st, fr_lv, fr_lvE, end_rt, end_nx, end_err, negD, optI, rg1, rg2, tupD, ix0, ix1, ix2, ix3, ix4, ix5, ix6, ix7, ix8, ix9, ix10, ix11, ix12, ix13, ix14, ix15, ixm1, ixm2, isiV, idxD, seqD, opB, opA, opC, truD, setT, setTs, eqD, full, frz, D.sub, D.subL, D.eqv, D.eqvL, D.depth, D.depthL, biD, permD, opI, dctD, isKey, newL, catD, SZ, isiD, tyOk, lstD, setD, mtD, okM, srcD, mkL, slcD, mkDct, putKD, getK, kEq, ofB_some, fin_pl, finX_pl, pl_non, pl_bl, pl_int, pl_str, pl_tup, pl_lst, pl_ro, plL_nil, plL_cons, fin_k, lg_lt, lg_lt2, mulOk_lit, lr4], by simp [e_var, e_cst, e_tup, e_lst, e_bin, e_neg, e_cmp, e_is, e_chain, e_and, e_or, e_not, e_ife, e_idx, e_slc, e_rev, e_cat, e_dg1, e_dg2, e_tg1, e_tg2, e_tix, e_dcp, dgD, tgD, txD, dcpD, cpDct, revD, e_call, e_bi, e_isi, e_mth, e_fld, e_isx, e_lc, e_dct, xs_nil, xs_cons, xo_none, xo_some, ec_nil, ec_cons, s_asg, s_par, s_par3, s_setIx, s_aug, s_expr, s_ret, s_retN, s_ife, s_for, s_whl, s_pass, s_brk, s_cont, s_rais, s_try, ss_nil, ss_cons, e_T, i_seq, i_rng1, i_rng2, i_enum, of_some, bd_ok, bd_err, fo_ok, fo_err, sq_nx, sq_rt, sq_bk, sq_ct, sq_err, lp_nx, lp_ct, lp_bk, lp_rt, lp_err, tr_ok, tr_err, br_t, br_f, sbr_t, sbr_f, en_some, so_some, ag_some, go_t, tn_some, tu_ap, fr_st, fr_lv, fr_lvE, end_rt, end_nx, end_err, negD, optI, rg1, rg2, tupD, ix0, ix1, ix2, ix3, ix4, ix5, ix6, ix7, ix8, ix9, ix10, ix11, ix12, ix13, ix14, ix15, ixm1, ixm2, isiV, idxD, seqD, opB, opA, opC, truD, setT, setTs, eqD, full, frz, D.sub, D.subL, D.eqv, D.eqvL, D.depth, D.depthL, biD, permD, opI, dctD, isKey, newL, catD, SZ, isiD, tyOk, lstD, setD, mtD, okM, srcD, mkL, slcD, mkDct, putKD, getK, kEq, ofB_some, fin_pl, finX_pl, pl_non, pl_bl, pl_int, pl_str, pl_tup, pl_lst, pl_ro, plL_nil, plL_cons, fin_k, lg_lt, lg_lt2, mulOk_lit]⟩
def goF (d : D) : Option D := match d with
  | .tup [.str w, x] => if w = tGo ∨ w = tSkip then some x else none
  | _ => none
theorem lcg (C : Cal) {s : List D} (hs : Sts s) (st : Sto) (d0 d1 d2 d3 d4 d5 d6 d7 d8 d9 d10 d11 : Option D) : R.lc C (.nm 9) [.cmp .mem (.idx (.var 9) (.cst (.int 0))) (.tup [.cst (.str tGo), .cst (.str tSkip)])] (.idx (.var 9) (.cst (.int 1))) [9] (.st s) [d0, d1, d2, d3, d4, d5, d6, d7, d8, d9, d10, d11] st = .ok (s.filterMap goF) st := by
  refine lc_fm goF fun x hx => ⟨[d0, d1, d2, d3, d4, d5, d6, d7, d8, some x, d10, d11], rfl, ?_⟩
  rcases hs x hx with ⟨k, rfl⟩ | ⟨k, rfl⟩ | ⟨u, v, rfl, _⟩ | ⟨u, v, rfl, _⟩
  · exact .inr ⟨_, rfl, by simp [e_var, e_cst, e_tup, e_lst, e_bin, e_neg, e_cmp, e_is, e_chain, e_and, e_or, e_not, e_ife, e_idx, e_slc, e_rev, e_cat, e_dg1, e_dg2, e_tg1, e_tg2, e_tix, e_dcp, dgD, tgD, txD, dcpD, cpDct, revD, e_call, e_bi, e_isi, e_mth, e_fld, e_isx, e_lc, e_dct, xs_nil, xs_cons, xo_none, xo_some, ec_nil, ec_cons, s_asg, s_par, s_par3, s_setIx, s_aug, s_expr, s_ret, s_retN, s_ife, s_for, s_whl, s_pass, s_brk, s_cont, s_rais, s_try, ss_nil, ss_cons, e_T, i_seq, i_rng1, i_rng2, i_enum, of_some, bd_ok, bd_err, fo_ok, fo_err, sq_nx, sq_rt, sq_bk, sq_ct, sq_err, lp_nx, lp_ct, lp_bk, lp_rt, lp_err, tr_ok, tr_err, br_t, br_f, sbr_t, sbr_f, en_some, so_some, ag_some, go_t, tn_some, tu_ap, fr_st, fr_lv, fr_lvE, end_rt, end_nx, end_err, negD, optI, rg1, rg2, tupD, ix0, ix1, ix2, ix3, ix4, ix5, ix6, ix7, ix8, ix9, ix10, ix11, ix12, ix13, ix14, ix15, ixm1, ixm2, isiV, idxD, seqD, opB, opA, opC, truD, setT, setTs, eqD, full, frz, D.sub, D.subL, D.eqv, D.eqvL, D.depth, D.depthL, biD, permD, opI, dctD, isKey, newL, catD, SZ, isiD, tyOk, lstD, setD, mtD, okM, srcD, mkL, slcD, mkDct, putKD, getK, kEq, ofB_some, fin_pl, finX_pl, pl_non, pl_bl, pl_int, pl_str, pl_tup, pl_lst, pl_ro, plL_nil, plL_cons, fin_k, lg_lt, lg_lt2, mulOk_lit, gs1], by simp [e_var, e_cst, e_tup, e_lst, e_bin, e_neg, e_cmp, e_is, e_chain, e_and, e_or, e_not, e_ife, e_idx, e_slc, e_rev, e_cat, e_dg1, e_dg2, e_tg1, e_tg2, e_tix, e_dcp, dgD, tgD, txD, dcpD, cpDct, revD, e_call, e_bi, e_isi, e_mth, e_fld, e_isx, e_lc, e_dct, xs_nil, xs_cons, xo_none, xo_some, ec_nil, ec_cons, s_asg, s_par, s_par3, s_setIx, s_aug, s_expr, s_ret, s_retN, s_ife, s_for, s_whl, s_pass, s_brk, s_cont, s_rais, s_try, ss_nil, ss_cons, e_T, i_seq, i_rng1, i_rng2, i_enum, of_some, bd_ok, bd_err, fo_ok, fo_err, sq_nx, sq_rt, sq_bk, sq_ct, sq_err, lp_nx, lp_ct, lp_bk, lp_rt, lp_err, tr_ok, tr_err, br_t, br_f, sbr_t, sbr_f, en_some, so_some, ag_some, go_t, tn_some, tu_ap, fr_st, fr_lv, fr_lvE, end_rt, end_nx, end_err, negD, optI, rg1, rg2, tupD, ix0, ix1, ix2, ix3, ix4, ix5, ix6, ix7, ix8, ix9, ix10, ix11, ix12, ix13, ix14, ix15, ixm1, ixm2, isiV, idxD, seqD, opB, opA, opC, truD, setT, setTs, eqD, full, frz, D.sub, D.subL, D.eqv, D.eqvL, D.depth, D.depthL, biD, permD, opI, dctD, isKey, newL, catD, SZ, isiD, tyOk, lstD, setD, mtD, okM, srcD, mkL, slcD, mkDct, putKD, getK, kEq, ofB_some, fin_pl, finX_pl, pl_non, pl_bl, pl_int, pl_str, pl_tup, pl_lst, pl_ro, plL_nil, plL_cons, fin_k, lg_lt, lg_lt2, mulOk_lit]⟩
  · exact .inr ⟨_, rfl, by simp [e_var, e_cst, e_tup, e_lst, e_bin, e_neg, e_cmp, e_is, e_chain, e_and, e_or, e_not, e_ife, e_idx, e_slc, e_rev, e_cat, e_dg1, e_dg2, e_tg1, e_tg2, e_tix, e_dcp, dgD, tgD, txD, dcpD, cpDct, revD, e_call, e_bi, e_isi, e_mth, e_fld, e_isx, e_lc, e_dct, xs_nil, xs_cons, xo_none, xo_some, ec_nil, ec_cons, s_asg, s_par, s_par3, s_setIx, s_aug, s_expr, s_ret, s_retN, s_ife, s_for, s_whl, s_pass, s_brk, s_cont, s_rais, s_try, ss_nil, ss_cons, e_T, i_seq, i_rng1, i_rng2, i_enum, of_some, bd_ok, bd_err, fo_ok, fo_err, sq_nx, sq_rt, sq_bk, sq_ct, sq_err, lp_nx, lp_ct, lp_bk, lp_rt, lp_err, tr_ok, tr_err, br_t, br_f, sbr_t, sbr_f, en_some, so_some, ag_some, go_t, tn_some, tu_ap, fr_st, fr_lv, fr_lvE, end_rt, end_nx, end_err, negD, optI, rg1, rg2, tupD, ix0, ix1, ix2, ix3, ix4, ix5, ix6, ix7, ix8, ix9, ix10, ix11, ix12, ix13, ix14, ix15, ixm1, ixm2, isiV, idxD, seqD, opB, opA, opC, truD, setT, setTs, eqD, full, frz, D.sub, D.subL, D.eqv, D.eqvL, D.depth, D.depthL, biD, permD, opI, dctD, isKey, newL, catD, SZ, isiD, tyOk, lstD, setD, mtD, okM, srcD, mkL, slcD, mkDct, putKD, getK, kEq, ofB_some, fin_pl, finX_pl, pl_non, pl_bl, pl_int, pl_str, pl_tup, pl_lst, pl_ro, plL_nil, plL_cons, fin_k, lg_lt, lg_lt2, mulOk_lit, gs2], by simp [e_var, e_cst, e_tup, e_lst, e_bin, e_neg, e_cmp, e_is, e_chain, e_and, e_or, e_not, e_ife, e_idx, e_slc, e_rev, e_cat, e_dg1, e_dg2, e_tg1, e_tg2, e_tix, e_dcp, dgD, tgD, txD, dcpD, cpDct, revD, e_call, e_bi, e_isi, e_mth, e_fld, e_isx, e_lc, e_dct, xs_nil, xs_cons, xo_none, xo_some, ec_nil, ec_cons, s_asg, s_par, s_par3, s_setIx, s_aug, s_expr, s_ret, s_retN, s_ife, s_for, s_whl, s_pass, s_brk, s_cont, s_rais, s_try, ss_nil, ss_cons, e_T, i_seq, i_rng1, i_rng2, i_enum, of_some, bd_ok, bd_err, fo_ok, fo_err, sq_nx, sq_rt, sq_bk, sq_ct, sq_err, lp_nx, lp_ct, lp_bk, lp_rt, lp_err, tr_ok, tr_err, br_t, br_f, sbr_t, sbr_f, en_some, so_some, ag_some, go_t, tn_some, tu_ap, fr_st, fr_lv, fr_lvE, end_rt, end_nx, end_err, negD, optI, rg1, rg2, tupD, ix0, ix1, ix2, ix3, ix4, ix5, ix6, ix7, ix8, ix9, ix10, ix11, ix12, ix13, ix14, ix15, ixm1, ixm2, isiV, idxD, seqD, opB, opA, opC, truD, setT, setTs, eqD, full, frz, D.sub, D.subL, D.eqv, D.eqvL, D.depth, D.depthL, biD, permD, opI, dctD, isKey, newL, catD, SZ, isiD, tyOk, lstD, setD, mtD, okM, srcD, mkL, slcD, mkDct, putKD, getK, kEq, ofB_some, fin_pl, finX_pl, pl_non, pl_bl, pl_int, pl_str, pl_tup, pl_lst, pl_ro, plL_nil, plL_cons, fin_k, lg_lt, lg_lt2, mulOk_lit]⟩
  · exact .inl ⟨rfl, by simp [e_var, e_cst, e_tup, e_lst, e_bin, e_neg, e_cmp, e_is, e_chain, e_and, e_or, e_not, e_ife, e_idx, e_slc, e_rev, e_cat, e_dg1, e_dg2, e_tg1, e_tg2, e_tix, e_dcp, dgD, tgD, txD, dcpD, cpDct, revD, e_call, e_bi, e_isi, e_mth, e_fld, e_isx, e_lc, e_dct, xs_nil, xs_cons, xo_none, xo_some, ec_nil, ec_cons, s_asg, s_par, s_par3, s_setIx, s_aug, s_expr, s_ret, s_retN, s_ife, s_for, s_whl, s_pass, s_brk, s_cont, s_rais, s_try, ss_nil, ss_cons, e_T, i_seq, i_rng1, i_rng2, i_enum, of_some, bd_ok, bd_err, fo_ok, fo_err, sq_nx, sq_rt, sq_bk, sq_ct, sq_err, lp_nx, lp_ct, lp_bk, lp_rt, lp_err, tr_ok, tr_err, br_t, br_f, sbr_t, sbr_f, en_some, so_some, ag_some, go_t, tn_some, tu_ap, fr_st, fr_lv, fr_lvE, end_rt, end_nx, end_err, negD, optI, rg1, rg2, tupD, ix0, ix1, ix2, ix3, ix4, ix5, ix6, ix7, ix8, ix9, ix10, ix11, ix12, ix13, ix14, ix15, ixm1, ixm2, isiV, idxD, seqD, opB, opA, opC, truD, setT, setTs, eqD, full, frz, D.sub, D.subL, D.eqv, D.eqvL, D.depth, D.depthL, biD, permD, opI, dctD, isKey, newL, catD, SZ, isiD, tyOk, lstD, setD, mtD, okM, srcD, mkL, slcD, mkDct, putKD, getK, kEq, ofB_some, fin_pl, finX_pl, pl_non, pl_bl, pl_int, pl_str, pl_tup, pl_lst, pl_ro, plL_nil, plL_cons, fin_k, lg_lt, lg_lt2, mulOk_lit, gs3]⟩
  · exact .inl ⟨rfl, by simp [e_var, e_cst, e_tup, e_lst, e_bin, e_neg, e_cmp, e_is, e_chain, e_and, e_or, e_not, e_ife, e_idx, e_slc, e_rev, e_cat, e_dg1, e_dg2, e_tg1, e_tg2, e_tix, e_dcp, dgD, tgD, txD, dcpD, cpDct, revD, e_call, e_bi, e_isi, e_mth, e_fld, e_isx, e_lc, e_dct, xs_nil, xs_cons, xo_none, xo_some, ec_nil, ec_cons, s_asg, s_par, s_par3, s_setIx, s_aug, s_expr, s_ret, s_retN, s_ife, s_for, s_whl, s_pass, s_brk, s_cont, s_rais, s_try, ss_nil, ss_cons, e_T, i_seq, i_rng1, i_rng2, i_enum, of_some, bd_ok, bd_err, fo_ok, fo_err, sq_nx, sq_rt, sq_bk, sq_ct, sq_err, lp_nx, lp_ct, lp_bk, lp_rt, lp_err, tr_ok, tr_err, br_t, br_f, sbr_t, sbr_f, en_some, so_some, ag_some, go_t, tn_some, tu_ap, fr_st, fr_lv, fr_lvE, end_rt, end_nx, end_err, negD, optI, rg1, rg2, tupD, ix0, ix1, ix2, ix3, ix4, ix5, ix6, ix7, ix8, ix9, ix10, ix11, ix12, ix13, ix14, ix15, ixm1, ixm2, isiV, idxD, seqD, opB, opA, opC, truD, setT, setTs, eqD, full, frz, D.sub, D.subL, D.eqv, D.eqvL, D.depth, D.depthL, biD, permD, opI, dctD, isKey, newL, catD, SZ, isiD, tyOk, lstD, setD, mtD, okM, srcD, mkL, slcD, mkDct, putKD, getK, kEq, ofB_some, fin_pl, finX_pl, pl_non, pl_bl, pl_int, pl_str, pl_tup, pl_lst, pl_ro, plL_nil, plL_cons, fin_k, lg_lt, lg_lt2, mulOk_lit, gs4]⟩
theorem go_ints : ∀ {s : List D}, Sts s → ∃ ns : List Int, intsOf (s.filterMap goF) = some ns
  | [], _ => ⟨[], rfl⟩
  | d :: s, h => by
    obtain ⟨ns, e⟩ := go_ints (s := s) fun x hx => h x (List.mem_cons_of_mem _ hx)
    rcases h d (List.mem_cons_self ..) with ⟨k, rfl⟩ | ⟨k, rfl⟩ | ⟨u, v, rfl, _⟩ | ⟨u, v, rfl, _⟩
    · refine ⟨k :: ns, ?_⟩
      have : (D.tup [.str tGo, .int k] :: s).filterMap goF = .int k :: s.filterMap goF := rfl
      rw [this, intsOf, e]
      rfl
    · refine ⟨k :: ns, ?_⟩
      have : (D.tup [.str tSkip, .int k] :: s).filterMap goF = .int k :: s.filterMap goF := rfl
      rw [this, intsOf, e]
      rfl
    · exact ⟨ns, e⟩
    · exact ⟨ns, e⟩
theorem fm_len (f : D → Option D) (s : List D) : (s.filterMap f).length ≤ s.length := List.length_filterMap_le _ _
theorem ph_b (n : Nat) (ms : List (Tx × List D)) (hm : ms.length ≤ 2) (f : Tx → List D) (hok : ∀ (u : Nat) (b s : List D), u ≤ 6 → DB (ms.map (·.1)) f 2 u b s → Okb (mkD ms) b s) (rest S : Sto) (k fam : Int) (z3 : Option D) (h : Gs k rest S) (hk : k ≤ 900000) :
    ∃ (b s : List D) (k' : Int) (S' : Sto) (o : Ob), evSs (cal (n + 8)) ((b22.drop 2).take 3) [some (.loc 1), some (.int fam), some (.tup (mkD ms)), z3, none, none, none, none, none, none, none, none] S = .ok .nx (eP fam (mkD ms) b s z3 (some (.lst (s.filterMap tnF))) none none) S' ∧ Gs k' (rest ++ [o]) S' ∧ k' ≤ k + 31 ∧ Okb (mkD ms) b s ∧ b.length ≤ 6 := by
  obtain ⟨b, s, u, k', S', o, e, g, q1, q2, hb⟩ := s_draw (ms.map (·.1)) f (by rw [List.length_map]; omega) (n + 2) 2 rest S k (if 0 < fam then 1 else 0) 6 h (by omega) (by omega)
  have ok := hok u b s q2 hb
  have e2 := okb_steps (n + 1) ok S'
  have hs := okb_sts ok
  obtain ⟨_, _, _, _, _, _, _, _, sl⟩ := id ok
  refine ⟨b, s, k', S', o, ?_, g, by omega, ok, by have := db_len hb; omega⟩
  have lcn := lcn2 (cal (n + 8)) ms
  have lt := lct (cal (n + 8)) hs
  have l1 : ((ms.map (·.1)).map D.str).length ≤ 10000000 := by rw [List.length_map, List.length_map]; omega
  have l2 : (s.filterMap tnF).length ≤ 10000000 := by have := fm_len tnF s; omega
  generalize mkD ms = M at *
  generalize (ms.map (·.1)).map D.str = N at *
  generalize s.filterMap tnF = T at *
  simp only [Int.cast_ofNat_Int] at e
  simp [b22, e_var, e_cst, e_tup, e_lst, e_bin, e_neg, e_cmp, e_is, e_chain, e_and, e_or, e_not, e_ife, e_idx, e_slc, e_rev, e_cat, e_dg1, e_dg2, e_tg1, e_tg2, e_tix, e_dcp, dgD, tgD, txD, dcpD, cpDct, revD, e_call, e_bi, e_isi, e_mth, e_fld, e_isx, e_lc, e_dct, xs_nil, xs_cons, xo_none, xo_some, ec_nil, ec_cons, s_asg, s_par, s_par3, s_setIx, s_aug, s_expr, s_ret, s_retN, s_ife, s_for, s_whl, s_pass, s_brk, s_cont, s_rais, s_try, ss_nil, ss_cons, e_T, i_seq, i_rng1, i_rng2, i_enum, of_some, bd_ok, bd_err, fo_ok, fo_err, sq_nx, sq_rt, sq_bk, sq_ct, sq_err, lp_nx, lp_ct, lp_bk, lp_rt, lp_err, tr_ok, tr_err, br_t, br_f, sbr_t, sbr_f, en_some, so_some, ag_some, go_t, tn_some, tu_ap, fr_st, fr_lv, fr_lvE, end_rt, end_nx, end_err, negD, optI, rg1, rg2, tupD, ix0, ix1, ix2, ix3, ix4, ix5, ix6, ix7, ix8, ix9, ix10, ix11, ix12, ix13, ix14, ix15, ixm1, ixm2, isiV, idxD, seqD, opB, opA, opC, truD, setT, setTs, eqD, full, frz, D.sub, D.subL, D.eqv, D.eqvL, D.depth, D.depthL, biD, permD, opI, dctD, isKey, newL, catD, SZ, isiD, tyOk, lstD, setD, mtD, okM, srcD, mkL, slcD, mkDct, putKD, getK, kEq, ofB_some, fin_pl, finX_pl, pl_non, pl_bl, pl_int, pl_str, pl_tup, pl_lst, pl_ro, plL_nil, plL_cons, fin_k, lg_lt, lg_lt2, mulOk_lit, lcn, e, e2, lt, l1, l2]
theorem ph_c (n : Nat) {mk b s : List D} (ok : Okb mk b s) (hbl : b.length ≤ 6) (rest S : Sto) (k fam : Int) (z3 : Option D) (h : Gs k rest S) (hk : k ≤ 900000) :
    ∃ (mk' b' s' : List D) (k' : Int) (S' : Sto), evSs (cal (n + 8)) ((b22.drop 5).take 1) (eP fam mk b s z3 (some (.lst (s.filterMap tnF))) none none) S = .ok .nx (eP fam mk' b' s' z3 (some (.lst (s.filterMap tnF))) none none) S' ∧ Gs k' rest S' ∧ k' ≤ k + 3 ∧ Okb mk' b' s' ∧ s'.length ≤ 22 ∧ (s'.filterMap tnF).length ≤ 8 ∧ b'.length ≤ 6 := by
  have hs := okb_sts ok
  obtain ⟨_, _, _, _, _, _, _, _, sl⟩ := id ok
  obtain ⟨ns, hns⟩ := go_ints hs
  have lg := lcg (cal (n + 8)) hs
  have l2 : (s.filterMap goF).length ≤ 10000000 := by have := fm_len goF s; omega
  by_cases c : s.length ≤ 22 ∧ (s.filterMap tnF).length ≤ 8 ∧ ns.sum ≤ 30
  · obtain ⟨c1, c2, c3⟩ := c
    refine ⟨mk, b, s, k, S, ?_, h, by omega, ok, c1, c2, hbl⟩
    have c1' : ¬ (22 : Int) < s.length := by omega
    have c2' : ¬ (8 : Int) < (s.filterMap tnF).length := by omega
    have c3' : ¬ 30 < ns.sum := by omega
    generalize s.filterMap tnF = T at *
    generalize s.filterMap goF = G at *
    simp [b22, e_var, e_cst, e_tup, e_lst, e_bin, e_neg, e_cmp, e_is, e_chain, e_and, e_or, e_not, e_ife, e_idx, e_slc, e_rev, e_cat, e_dg1, e_dg2, e_tg1, e_tg2, e_tix, e_dcp, dgD, tgD, txD, dcpD, cpDct, revD, e_call, e_bi, e_isi, e_mth, e_fld, e_isx, e_lc, e_dct, xs_nil, xs_cons, xo_none, xo_some, ec_nil, ec_cons, s_asg, s_par, s_par3, s_setIx, s_aug, s_expr, s_ret, s_retN, s_ife, s_for, s_whl, s_pass, s_brk, s_cont, s_rais, s_try, ss_nil, ss_cons, e_T, i_seq, i_rng1, i_rng2, i_enum, of_some, bd_ok, bd_err, fo_ok, fo_err, sq_nx, sq_rt, sq_bk, sq_ct, sq_err, lp_nx, lp_ct, lp_bk, lp_rt, lp_err, tr_ok, tr_err, br_t, br_f, sbr_t, sbr_f, en_some, so_some, ag_some, go_t, tn_some, tu_ap, fr_st, fr_lv, fr_lvE, end_rt, end_nx, end_err, negD, optI, rg1, rg2, tupD, ix0, ix1, ix2, ix3, ix4, ix5, ix6, ix7, ix8, ix9, ix10, ix11, ix12, ix13, ix14, ix15, ixm1, ixm2, isiV, idxD, seqD, opB, opA, opC, truD, setT, setTs, eqD, full, frz, D.sub, D.subL, D.eqv, D.eqvL, D.depth, D.depthL, biD, permD, opI, dctD, isKey, newL, catD, SZ, isiD, tyOk, lstD, setD, mtD, okM, srcD, mkL, slcD, mkDct, putKD, getK, kEq, ofB_some, fin_pl, finX_pl, pl_non, pl_bl, pl_int, pl_str, pl_tup, pl_lst, pl_ro, plL_nil, plL_cons, fin_k, lg_lt, lg_lt2, mulOk_lit, c1', c2', c3', lg, l2, hns]
  · obtain ⟨q, S1, e1, g1, q0, q1⟩ := s_sip (n + 7) S rest k 2 h (by omega) (by decide) (by decide)
    obtain ⟨x1, y1, S2, e2, g2, v1⟩ := s_vector (n + 6) S1 rest (k + 1) (if 0 < fam then 1 else 0) g1 (by omega)
    obtain ⟨x2, y2, S3, e3, g3, v2⟩ := s_vector (n + 6) S2 rest (k + 1 + 1) (if 0 < fam then 1 else 0) g2 (by omega)
    have hs4 : Sts [.tup [.str tGo, .int (1 + q)], .tup [.str tLeft, V2 x1 y1], .tup [.str tSkip, .int 1], .tup [.str tRight, V2 x2 y2]] := by
      intro d hd
      simp only [List.mem_cons, List.not_mem_nil, or_false] at hd
      rcases hd with rfl | rfl | rfl | rfl
      · exact .inl ⟨_, rfl⟩
      · exact .inr (.inr (.inl ⟨_, _, rfl, v1⟩))
      · exact .inr (.inl ⟨_, rfl⟩)
      · exact .inr (.inr (.inr ⟨_, _, rfl, v2⟩))
    refine ⟨[], _, _, k + 1 + 1 + 1, S3, ?_, g3, by omega, okb_flat hs4 (by simp), by simp, by simp [tnF], by simp⟩
    by_cases c1 : s.length ≤ 22
    · have c1' : ¬ (22 : Int) < s.length := by omega
      by_cases c2 : (s.filterMap tnF).length ≤ 8
      · have c2' : ¬ (8 : Int) < (s.filterMap tnF).length := by omega
        have c3 : 30 < ns.sum := by
          have : ¬ ns.sum ≤ 30 := fun e => c ⟨c1, c2, e⟩
          omega
        generalize s.filterMap tnF = T at *
        generalize s.filterMap goF = G at *
        simp [b22, e_var, e_cst, e_tup, e_lst, e_bin, e_neg, e_cmp, e_is, e_chain, e_and, e_or, e_not, e_ife, e_idx, e_slc, e_rev, e_cat, e_dg1, e_dg2, e_tg1, e_tg2, e_tix, e_dcp, dgD, tgD, txD, dcpD, cpDct, revD, e_call, e_bi, e_isi, e_mth, e_fld, e_isx, e_lc, e_dct, xs_nil, xs_cons, xo_none, xo_some, ec_nil, ec_cons, s_asg, s_par, s_par3, s_setIx, s_aug, s_expr, s_ret, s_retN, s_ife, s_for, s_whl, s_pass, s_brk, s_cont, s_rais, s_try, ss_nil, ss_cons, e_T, i_seq, i_rng1, i_rng2, i_enum, of_some, bd_ok, bd_err, fo_ok, fo_err, sq_nx, sq_rt, sq_bk, sq_ct, sq_err, lp_nx, lp_ct, lp_bk, lp_rt, lp_err, tr_ok, tr_err, br_t, br_f, sbr_t, sbr_f, en_some, so_some, ag_some, go_t, tn_some, tu_ap, fr_st, fr_lv, fr_lvE, end_rt, end_nx, end_err, negD, optI, rg1, rg2, tupD, ix0, ix1, ix2, ix3, ix4, ix5, ix6, ix7, ix8, ix9, ix10, ix11, ix12, ix13, ix14, ix15, ixm1, ixm2, isiV, idxD, seqD, opB, opA, opC, truD, setT, setTs, eqD, full, frz, D.sub, D.subL, D.eqv, D.eqvL, D.depth, D.depthL, biD, permD, opI, dctD, isKey, newL, catD, SZ, isiD, tyOk, lstD, setD, mtD, okM, srcD, mkL, slcD, mkDct, putKD, getK, kEq, ofB_some, fin_pl, finX_pl, pl_non, pl_bl, pl_int, pl_str, pl_tup, pl_lst, pl_ro, plL_nil, plL_cons, fin_k, lg_lt, lg_lt2, mulOk_lit, c1', c2', c3, lg, l2, hns, e1, e2, e3]
      · have c2' : (8 : Int) < (s.filterMap tnF).length := by omega
        generalize s.filterMap tnF = T at *
        generalize s.filterMap goF = G at *
        simp [b22, e_var, e_cst, e_tup, e_lst, e_bin, e_neg, e_cmp, e_is, e_chain, e_and, e_or, e_not, e_ife, e_idx, e_slc, e_rev, e_cat, e_dg1, e_dg2, e_tg1, e_tg2, e_tix, e_dcp, dgD, tgD, txD, dcpD, cpDct, revD, e_call, e_bi, e_isi, e_mth, e_fld, e_isx, e_lc, e_dct, xs_nil, xs_cons, xo_none, xo_some, ec_nil, ec_cons, s_asg, s_par, s_par3, s_setIx, s_aug, s_expr, s_ret, s_retN, s_ife, s_for, s_whl, s_pass, s_brk, s_cont, s_rais, s_try, ss_nil, ss_cons, e_T, i_seq, i_rng1, i_rng2, i_enum, of_some, bd_ok, bd_err, fo_ok, fo_err, sq_nx, sq_rt, sq_bk, sq_ct, sq_err, lp_nx, lp_ct, lp_bk, lp_rt, lp_err, tr_ok, tr_err, br_t, br_f, sbr_t, sbr_f, en_some, so_some, ag_some, go_t, tn_some, tu_ap, fr_st, fr_lv, fr_lvE, end_rt, end_nx, end_err, negD, optI, rg1, rg2, tupD, ix0, ix1, ix2, ix3, ix4, ix5, ix6, ix7, ix8, ix9, ix10, ix11, ix12, ix13, ix14, ix15, ixm1, ixm2, isiV, idxD, seqD, opB, opA, opC, truD, setT, setTs, eqD, full, frz, D.sub, D.subL, D.eqv, D.eqvL, D.depth, D.depthL, biD, permD, opI, dctD, isKey, newL, catD, SZ, isiD, tyOk, lstD, setD, mtD, okM, srcD, mkL, slcD, mkDct, putKD, getK, kEq, ofB_some, fin_pl, finX_pl, pl_non, pl_bl, pl_int, pl_str, pl_tup, pl_lst, pl_ro, plL_nil, plL_cons, fin_k, lg_lt, lg_lt2, mulOk_lit, c1', c2', e1, e2, e3]
    · have c1' : (22 : Int) < s.length := by omega
      generalize s.filterMap tnF = T at *
      generalize s.filterMap goF = G at *
      simp [b22, e_var, e_cst, e_tup, e_lst, e_bin, e_neg, e_cmp, e_is, e_chain, e_and, e_or, e_not, e_ife, e_idx, e_slc, e_rev, e_cat, e_dg1, e_dg2, e_tg1, e_tg2, e_tix, e_dcp, dgD, tgD, txD, dcpD, cpDct, revD, e_call, e_bi, e_isi, e_mth, e_fld, e_isx, e_lc, e_dct, xs_nil, xs_cons, xo_none, xo_some, ec_nil, ec_cons, s_asg, s_par, s_par3, s_setIx, s_aug, s_expr, s_ret, s_retN, s_ife, s_for, s_whl, s_pass, s_brk, s_cont, s_rais, s_try, ss_nil, ss_cons, e_T, i_seq, i_rng1, i_rng2, i_enum, of_some, bd_ok, bd_err, fo_ok, fo_err, sq_nx, sq_rt, sq_bk, sq_ct, sq_err, lp_nx, lp_ct, lp_bk, lp_rt, lp_err, tr_ok, tr_err, br_t, br_f, sbr_t, sbr_f, en_some, so_some, ag_some, go_t, tn_some, tu_ap, fr_st, fr_lv, fr_lvE, end_rt, end_nx, end_err, negD, optI, rg1, rg2, tupD, ix0, ix1, ix2, ix3, ix4, ix5, ix6, ix7, ix8, ix9, ix10, ix11, ix12, ix13, ix14, ix15, ixm1, ixm2, isiV, idxD, seqD, opB, opA, opC, truD, setT, setTs, eqD, full, frz, D.sub, D.subL, D.eqv, D.eqvL, D.depth, D.depthL, biD, permD, opI, dctD, isKey, newL, catD, SZ, isiD, tyOk, lstD, setD, mtD, okM, srcD, mkL, slcD, mkDct, putKD, getK, kEq, ofB_some, fin_pl, finX_pl, pl_non, pl_bl, pl_int, pl_str, pl_tup, pl_lst, pl_ro, plL_nil, plL_cons, fin_k, lg_lt, lg_lt2, mulOk_lit, c1', e1, e2, e3]
theorem ph_d (n : Nat) {mk b s : List D} (ok : Okb mk b s) (hbl : b.length ≤ 6) (hl : s.length ≤ 22) (ht : (s.filterMap tnF).length ≤ 8) (rest S : Sto) (k fam : Int) (z3 z6 : Option D) (h : Gs k rest S) (hk : k ≤ 900000) :
    ∃ (b' s' : List D) (z7 : Option D) (k' : Int) (S' : Sto), evSs (cal (n + 8)) ((b22.drop 6).take 1) (eP fam mk b s z3 z6 none none) S = .ok .nx (eP fam mk b' s z3 z6 z7 none) S' ∧ Gs k' rest S' ∧ k' ≤ k + 2 ∧ Okb mk b' s' ∧ s'.length ≤ 23 ∧ b'.length ≤ 7 := by
  by_cases h2 : fam = 2
  · subst h2
    have hs := okb_sts ok
    obtain ⟨m, u, v, e1, n1, z1, z2⟩ := s_turn_of (n + 5) S hs ht
    have e2 := s_back (n + 7) S u v
    obtain ⟨q, S1, e3, g1, q0, q1⟩ := s_sip (n + 7) S rest k 2 h (by omega) (by decide) (by decide)
    have fin : ∀ (x y : Int) (S2 : Sto), okV x y → ∃ X Y : Int, callD fds anc (n + 8) 12 [V2 u (-v), V2 x y] S2 = .ok (V2 (u * x - (-v) * y) (u * y + (-v) * x)) S2 ∧ callD fds anc (n + 8) 13 [V2 (u * x - (-v) * y) (u * y + (-v) * x)] S2 = .ok (V2 X Y) S2 ∧ nzv X Y := by
      intro x y S2 ov
      obtain ⟨o1, o2, o3⟩ := ov
      have a1 : Sz 11 x := by unfold Sz; omega
      have a2 : Sz 11 y := by unfold Sz; omega
      have p := s_prod (n + 7) S2 u (-v) x y z1 z2.neg a1 a2 (by decide)
      obtain ⟨X, Y, f1, f2, _, _⟩ := s_least (n + 7) S2 _ _ (prod_nz (show nzv u (-v) by unfold nzv at *; omega) o1) ((Sz.sub (z1.mul a1) (z2.neg.mul a2)).mono (by decide)) ((Sz.add (z1.mul a2) (z2.neg.mul a1)).mono (by decide))
      exact ⟨X, Y, p, f1, f2⟩
    have run : ∃ (X Y k' : Int) (S2 : Sto), Gs k' rest S2 ∧ k' ≤ k + 2 ∧ nzv X Y ∧ ((X.natAbs ≤ 100 ∧ Y.natAbs ≤ 100 → b.length + 1 ≤ 10000000 → evSs (cal (n + 8)) ((b22.drop 6).take 1) (eP 2 mk b s z3 z6 none none) S = .ok .nx (eP 2 mk (b ++ [.tup [.str tLeft, V2 X Y]]) s z3 z6 (some (V2 X Y)) none) S2) ∧ (¬ (X.natAbs ≤ 100 ∧ Y.natAbs ≤ 100) → evSs (cal (n + 8)) ((b22.drop 6).take 1) (eP 2 mk b s z3 z6 none none) S = .ok .nx (eP 2 mk b s z3 z6 (some (V2 X Y)) none) S2)) := by
      have mx : ∀ X Y : Int, (if (if X < 0 then -X else X) < (if Y < 0 then -Y else Y) then (if Y < 0 then -Y else Y) else (if X < 0 then -X else X)) ≤ 100 ↔ (X.natAbs ≤ 100 ∧ Y.natAbs ≤ 100) := by
        intro X Y
        constructor
        · intro h; split at h <;> split at h <;> omega
        · intro h; split <;> split <;> omega
      by_cases hq : q = 0
      · subst hq
        obtain ⟨x, y, S2, e4, g2, ov⟩ := s_vector (n + 6) S1 rest (k + 1) 0 g1 (by omega)
        obtain ⟨X, Y, p, f1, f2⟩ := fin x y S2 ov
        refine ⟨X, Y, k + 1 + 1, S2, g2, by omega, f2, fun hc hbl => ?_, fun hc => ?_⟩
        · have mx' := (mx X Y).mpr hc
          generalize u * x - (-v) * y = W at *
          generalize u * y + (-v) * x = Z at *
          simp [b22, e_var, e_cst, e_tup, e_lst, e_bin, e_neg, e_cmp, e_is, e_chain, e_and, e_or, e_not, e_ife, e_idx, e_slc, e_rev, e_cat, e_dg1, e_dg2, e_tg1, e_tg2, e_tix, e_dcp, dgD, tgD, txD, dcpD, cpDct, revD, e_call, e_bi, e_isi, e_mth, e_fld, e_isx, e_lc, e_dct, xs_nil, xs_cons, xo_none, xo_some, ec_nil, ec_cons, s_asg, s_par, s_par3, s_setIx, s_aug, s_expr, s_ret, s_retN, s_ife, s_for, s_whl, s_pass, s_brk, s_cont, s_rais, s_try, ss_nil, ss_cons, e_T, i_seq, i_rng1, i_rng2, i_enum, of_some, bd_ok, bd_err, fo_ok, fo_err, sq_nx, sq_rt, sq_bk, sq_ct, sq_err, lp_nx, lp_ct, lp_bk, lp_rt, lp_err, tr_ok, tr_err, br_t, br_f, sbr_t, sbr_f, en_some, so_some, ag_some, go_t, tn_some, tu_ap, fr_st, fr_lv, fr_lvE, end_rt, end_nx, end_err, negD, optI, rg1, rg2, tupD, ix0, ix1, ix2, ix3, ix4, ix5, ix6, ix7, ix8, ix9, ix10, ix11, ix12, ix13, ix14, ix15, ixm1, ixm2, isiV, idxD, seqD, opB, opA, opC, truD, setT, setTs, eqD, full, frz, D.sub, D.subL, D.eqv, D.eqvL, D.depth, D.depthL, biD, permD, opI, dctD, isKey, newL, catD, SZ, isiD, tyOk, lstD, setD, mtD, okM, srcD, mkL, slcD, mkDct, putKD, getK, kEq, ofB_some, fin_pl, finX_pl, pl_non, pl_bl, pl_int, pl_str, pl_tup, pl_lst, pl_ro, plL_nil, plL_cons, fin_k, lg_lt, lg_lt2, mulOk_lit, e1, e2, e3, e4, p, f1, mx', hbl]
        · have mx' := mt (mx X Y).mp hc
          generalize u * x - (-v) * y = W at *
          generalize u * y + (-v) * x = Z at *
          simp [b22, e_var, e_cst, e_tup, e_lst, e_bin, e_neg, e_cmp, e_is, e_chain, e_and, e_or, e_not, e_ife, e_idx, e_slc, e_rev, e_cat, e_dg1, e_dg2, e_tg1, e_tg2, e_tix, e_dcp, dgD, tgD, txD, dcpD, cpDct, revD, e_call, e_bi, e_isi, e_mth, e_fld, e_isx, e_lc, e_dct, xs_nil, xs_cons, xo_none, xo_some, ec_nil, ec_cons, s_asg, s_par, s_par3, s_setIx, s_aug, s_expr, s_ret, s_retN, s_ife, s_for, s_whl, s_pass, s_brk, s_cont, s_rais, s_try, ss_nil, ss_cons, e_T, i_seq, i_rng1, i_rng2, i_enum, of_some, bd_ok, bd_err, fo_ok, fo_err, sq_nx, sq_rt, sq_bk, sq_ct, sq_err, lp_nx, lp_ct, lp_bk, lp_rt, lp_err, tr_ok, tr_err, br_t, br_f, sbr_t, sbr_f, en_some, so_some, ag_some, go_t, tn_some, tu_ap, fr_st, fr_lv, fr_lvE, end_rt, end_nx, end_err, negD, optI, rg1, rg2, tupD, ix0, ix1, ix2, ix3, ix4, ix5, ix6, ix7, ix8, ix9, ix10, ix11, ix12, ix13, ix14, ix15, ixm1, ixm2, isiV, idxD, seqD, opB, opA, opC, truD, setT, setTs, eqD, full, frz, D.sub, D.subL, D.eqv, D.eqvL, D.depth, D.depthL, biD, permD, opI, dctD, isKey, newL, catD, SZ, isiD, tyOk, lstD, setD, mtD, okM, srcD, mkL, slcD, mkDct, putKD, getK, kEq, ofB_some, fin_pl, finX_pl, pl_non, pl_bl, pl_int, pl_str, pl_tup, pl_lst, pl_ro, plL_nil, plL_cons, fin_k, lg_lt, lg_lt2, mulOk_lit, e1, e2, e3, e4, p, f1, mx']
      · have hq' : (q == 0) = false := by simpa using hq
        obtain ⟨X, Y, p, f1, f2⟩ := fin 1 0 S1 (okV_of (by decide) (by decide) (by decide))
        refine ⟨X, Y, k + 1, S1, g1, by omega, f2, fun hc hbl => ?_, fun hc => ?_⟩
        · have mx' := (mx X Y).mpr hc
          generalize u * 1 - (-v) * 0 = W at *
          generalize u * 0 + (-v) * 1 = Z at *
          simp [b22, e_var, e_cst, e_tup, e_lst, e_bin, e_neg, e_cmp, e_is, e_chain, e_and, e_or, e_not, e_ife, e_idx, e_slc, e_rev, e_cat, e_dg1, e_dg2, e_tg1, e_tg2, e_tix, e_dcp, dgD, tgD, txD, dcpD, cpDct, revD, e_call, e_bi, e_isi, e_mth, e_fld, e_isx, e_lc, e_dct, xs_nil, xs_cons, xo_none, xo_some, ec_nil, ec_cons, s_asg, s_par, s_par3, s_setIx, s_aug, s_expr, s_ret, s_retN, s_ife, s_for, s_whl, s_pass, s_brk, s_cont, s_rais, s_try, ss_nil, ss_cons, e_T, i_seq, i_rng1, i_rng2, i_enum, of_some, bd_ok, bd_err, fo_ok, fo_err, sq_nx, sq_rt, sq_bk, sq_ct, sq_err, lp_nx, lp_ct, lp_bk, lp_rt, lp_err, tr_ok, tr_err, br_t, br_f, sbr_t, sbr_f, en_some, so_some, ag_some, go_t, tn_some, tu_ap, fr_st, fr_lv, fr_lvE, end_rt, end_nx, end_err, negD, optI, rg1, rg2, tupD, ix0, ix1, ix2, ix3, ix4, ix5, ix6, ix7, ix8, ix9, ix10, ix11, ix12, ix13, ix14, ix15, ixm1, ixm2, isiV, idxD, seqD, opB, opA, opC, truD, setT, setTs, eqD, full, frz, D.sub, D.subL, D.eqv, D.eqvL, D.depth, D.depthL, biD, permD, opI, dctD, isKey, newL, catD, SZ, isiD, tyOk, lstD, setD, mtD, okM, srcD, mkL, slcD, mkDct, putKD, getK, kEq, ofB_some, fin_pl, finX_pl, pl_non, pl_bl, pl_int, pl_str, pl_tup, pl_lst, pl_ro, plL_nil, plL_cons, fin_k, lg_lt, lg_lt2, mulOk_lit, e1, e2, e3, hq, hq', p, f1, mx', hbl]
        · have mx' := mt (mx X Y).mp hc
          generalize u * 1 - (-v) * 0 = W at *
          generalize u * 0 + (-v) * 1 = Z at *
          simp [b22, e_var, e_cst, e_tup, e_lst, e_bin, e_neg, e_cmp, e_is, e_chain, e_and, e_or, e_not, e_ife, e_idx, e_slc, e_rev, e_cat, e_dg1, e_dg2, e_tg1, e_tg2, e_tix, e_dcp, dgD, tgD, txD, dcpD, cpDct, revD, e_call, e_bi, e_isi, e_mth, e_fld, e_isx, e_lc, e_dct, xs_nil, xs_cons, xo_none, xo_some, ec_nil, ec_cons, s_asg, s_par, s_par3, s_setIx, s_aug, s_expr, s_ret, s_retN, s_ife, s_for, s_whl, s_pass, s_brk, s_cont, s_rais, s_try, ss_nil, ss_cons, e_T, i_seq, i_rng1, i_rng2, i_enum, of_some, bd_ok, bd_err, fo_ok, fo_err, sq_nx, sq_rt, sq_bk, sq_ct, sq_err, lp_nx, lp_ct, lp_bk, lp_rt, lp_err, tr_ok, tr_err, br_t, br_f, sbr_t, sbr_f, en_some, so_some, ag_some, go_t, tn_some, tu_ap, fr_st, fr_lv, fr_lvE, end_rt, end_nx, end_err, negD, optI, rg1, rg2, tupD, ix0, ix1, ix2, ix3, ix4, ix5, ix6, ix7, ix8, ix9, ix10, ix11, ix12, ix13, ix14, ix15, ixm1, ixm2, isiV, idxD, seqD, opB, opA, opC, truD, setT, setTs, eqD, full, frz, D.sub, D.subL, D.eqv, D.eqvL, D.depth, D.depthL, biD, permD, opI, dctD, isKey, newL, catD, SZ, isiD, tyOk, lstD, setD, mtD, okM, srcD, mkL, slcD, mkDct, putKD, getK, kEq, ofB_some, fin_pl, finX_pl, pl_non, pl_bl, pl_int, pl_str, pl_tup, pl_lst, pl_ro, plL_nil, plL_cons, fin_k, lg_lt, lg_lt2, mulOk_lit, e1, e2, e3, hq, hq', p, f1, mx']
    obtain ⟨X, Y, k', S2, g2, kl, nz, r1, r2⟩ := run
    by_cases hc : X.natAbs ≤ 100 ∧ Y.natAbs ≤ 100
    · exact ⟨_, _, _, k', S2, r1 hc (by omega), g2, kl, okb_back ok (sts_one (.inr (.inr (.inl ⟨X, Y, rfl, nz, by omega, by omega⟩)))) (by rw [List.length_singleton]; omega), by rw [List.length_append, List.length_singleton]; omega, by rw [List.length_append, List.length_singleton]; omega⟩
    · exact ⟨b, s, _, k', S2, r2 hc, g2, kl, ok, by omega, by omega⟩
  · have h2' : (fam == 2) = false := by simpa using h2
    refine ⟨b, s, none, k, S, ?_, h, by omega, ok, by omega, by omega⟩
    simp [b22, e_var, e_cst, e_tup, e_lst, e_bin, e_neg, e_cmp, e_is, e_chain, e_and, e_or, e_not, e_ife, e_idx, e_slc, e_rev, e_cat, e_dg1, e_dg2, e_tg1, e_tg2, e_tix, e_dcp, dgD, tgD, txD, dcpD, cpDct, revD, e_call, e_bi, e_isi, e_mth, e_fld, e_isx, e_lc, e_dct, xs_nil, xs_cons, xo_none, xo_some, ec_nil, ec_cons, s_asg, s_par, s_par3, s_setIx, s_aug, s_expr, s_ret, s_retN, s_ife, s_for, s_whl, s_pass, s_brk, s_cont, s_rais, s_try, ss_nil, ss_cons, e_T, i_seq, i_rng1, i_rng2, i_enum, of_some, bd_ok, bd_err, fo_ok, fo_err, sq_nx, sq_rt, sq_bk, sq_ct, sq_err, lp_nx, lp_ct, lp_bk, lp_rt, lp_err, tr_ok, tr_err, br_t, br_f, sbr_t, sbr_f, en_some, so_some, ag_some, go_t, tn_some, tu_ap, fr_st, fr_lv, fr_lvE, end_rt, end_nx, end_err, negD, optI, rg1, rg2, tupD, ix0, ix1, ix2, ix3, ix4, ix5, ix6, ix7, ix8, ix9, ix10, ix11, ix12, ix13, ix14, ix15, ixm1, ixm2, isiV, idxD, seqD, opB, opA, opC, truD, setT, setTs, eqD, full, frz, D.sub, D.subL, D.eqv, D.eqvL, D.depth, D.depthL, biD, permD, opI, dctD, isKey, newL, catD, SZ, isiD, tyOk, lstD, setD, mtD, okM, srcD, mkL, slcD, mkDct, putKD, getK, kEq, ofB_some, fin_pl, finX_pl, pl_non, pl_bl, pl_int, pl_str, pl_tup, pl_lst, pl_ro, plL_nil, plL_cons, fin_k, lg_lt, lg_lt2, mulOk_lit, h2, h2']
theorem mem34 (st : Sto) (fam : Int) : memD st (.int fam) (.tup [.int 3, .int 4]) = some (decide (fam = 3) || decide (fam = 4)) := by
  have : memD st (.int fam) (.tup [.int 3, .int 4]) = some ((3 == fam) || ((4 == fam) || false)) := (rfl)
  rw [this]
  congr 1
  by_cases h : fam = 3
  · subst h; rfl
  · by_cases h4 : fam = 4
    · subst h4; rfl
    · have h1 : ((3 : Int) == fam) = false := by rw [beq_eq_false_iff_ne]; omega
      have h2 : ((4 : Int) == fam) = false := by rw [beq_eq_false_iff_ne]; omega
      rw [h1, h2, decide_eq_false h, decide_eq_false h4]
      rfl
theorem ph_e (n : Nat) {mk b s s2 : List D} (ok : Okb mk b s2) (hbl : b.length ≤ 7) (hs : Sts s) (hl : s.length ≤ 22) (hl2 : s2.length ≤ 23) (rest S : Sto) (k fam : Int) (z3 z6 z7 : Option D) (h : Gs k rest S) (hk : k ≤ 900000) :
    ∃ (b' s' : List D) (k' : Int) (S' : Sto), evSs (cal (n + 8)) ((b22.drop 7).take 1) (eP fam mk b s z3 z6 z7 none) S = .ok .nx (eP fam mk b' s z3 z6 z7 none) S' ∧ Gs k' rest S' ∧ k' ≤ k + 1 ∧ Okb mk b' s' ∧ s'.length ≤ 48 ∧ b'.length ≤ 32 := by
  have e1 := s_undone (n + 7) S hs (by omega)
  have u1 := undo_sts hs
  have ul : (undo s).length = s.length + 2 := by simp [undo]
  have m34 := fun st => mem34 st fam
  by_cases h3 : fam = 3
  · subst h3
    obtain ⟨x, y, S1, e2, g1, ov⟩ := s_vector (n + 6) S rest k 1 h (by omega)
    refine ⟨b ++ undo s, s2 ++ undo s, k + 1, S1, ?_, g1, by omega, okb_back ok u1 (by omega), by rw [List.length_append]; omega, by rw [List.length_append]; omega⟩
    have l1 : b.length + (undo s).length ≤ 10000000 := by omega
    have l1' : b.length + (s.length + 2) ≤ 10000000 := by omega
    have p1 : ((3 : Int) = 4) = False := by simp
    generalize undo s = U at *
    simp [b22, e_var, e_cst, e_tup, e_lst, e_bin, e_neg, e_cmp, e_is, e_chain, e_and, e_or, e_not, e_ife, e_idx, e_slc, e_rev, e_cat, e_dg1, e_dg2, e_tg1, e_tg2, e_tix, e_dcp, dgD, tgD, txD, dcpD, cpDct, revD, e_call, e_bi, e_isi, e_mth, e_fld, e_isx, e_lc, e_dct, xs_nil, xs_cons, xo_none, xo_some, ec_nil, ec_cons, s_asg, s_par, s_par3, s_setIx, s_aug, s_expr, s_ret, s_retN, s_ife, s_for, s_whl, s_pass, s_brk, s_cont, s_rais, s_try, ss_nil, ss_cons, e_T, i_seq, i_rng1, i_rng2, i_enum, of_some, bd_ok, bd_err, fo_ok, fo_err, sq_nx, sq_rt, sq_bk, sq_ct, sq_err, lp_nx, lp_ct, lp_bk, lp_rt, lp_err, tr_ok, tr_err, br_t, br_f, sbr_t, sbr_f, en_some, so_some, ag_some, go_t, tn_some, tu_ap, fr_st, fr_lv, fr_lvE, end_rt, end_nx, end_err, negD, optI, rg1, rg2, tupD, ix0, ix1, ix2, ix3, ix4, ix5, ix6, ix7, ix8, ix9, ix10, ix11, ix12, ix13, ix14, ix15, ixm1, ixm2, isiV, idxD, seqD, opB, opA, opC, truD, setT, setTs, eqD, full, frz, D.sub, D.subL, D.eqv, D.eqvL, D.depth, D.depthL, biD, permD, opI, dctD, isKey, newL, catD, SZ, isiD, tyOk, lstD, setD, mtD, okM, srcD, mkL, slcD, mkDct, putKD, getK, kEq, ofB_some, fin_pl, finX_pl, pl_non, pl_bl, pl_int, pl_str, pl_tup, pl_lst, pl_ro, plL_nil, plL_cons, fin_k, lg_lt, lg_lt2, mulOk_lit, m34, e1, e2, l1]
  · by_cases h4 : fam = 4
    · subst h4
      obtain ⟨x, y, S1, e2, g1, ov⟩ := s_vector (n + 6) S rest k 1 h (by omega)
      have hv : isSt (.tup [.str tLeft, V2 x y]) := .inr (.inr (.inl ⟨_, _, rfl, ov⟩))
      refine ⟨b ++ undo s ++ [.tup [.str tLeft, V2 x y]], s2 ++ undo s ++ [.tup [.str tLeft, V2 x y]], k + 1, S1, ?_, g1, by omega, okb_back (okb_back ok u1 (by omega)) (sts_one hv) (by rw [List.length_append, List.length_singleton]; omega), by rw [List.length_append, List.length_append, List.length_singleton]; omega, by rw [List.length_append, List.length_append, List.length_singleton]; omega⟩
      have l1 : b.length + (undo s).length ≤ 10000000 := by omega
      have l2 : b.length + (undo s).length + 1 ≤ 10000000 := by omega
      have l3 : b.length + ((undo s).length + 1) ≤ 10000000 := by omega
      generalize undo s = U at *
      simp [b22, e_var, e_cst, e_tup, e_lst, e_bin, e_neg, e_cmp, e_is, e_chain, e_and, e_or, e_not, e_ife, e_idx, e_slc, e_rev, e_cat, e_dg1, e_dg2, e_tg1, e_tg2, e_tix, e_dcp, dgD, tgD, txD, dcpD, cpDct, revD, e_call, e_bi, e_isi, e_mth, e_fld, e_isx, e_lc, e_dct, xs_nil, xs_cons, xo_none, xo_some, ec_nil, ec_cons, s_asg, s_par, s_par3, s_setIx, s_aug, s_expr, s_ret, s_retN, s_ife, s_for, s_whl, s_pass, s_brk, s_cont, s_rais, s_try, ss_nil, ss_cons, e_T, i_seq, i_rng1, i_rng2, i_enum, of_some, bd_ok, bd_err, fo_ok, fo_err, sq_nx, sq_rt, sq_bk, sq_ct, sq_err, lp_nx, lp_ct, lp_bk, lp_rt, lp_err, tr_ok, tr_err, br_t, br_f, sbr_t, sbr_f, en_some, so_some, ag_some, go_t, tn_some, tu_ap, fr_st, fr_lv, fr_lvE, end_rt, end_nx, end_err, negD, optI, rg1, rg2, tupD, ix0, ix1, ix2, ix3, ix4, ix5, ix6, ix7, ix8, ix9, ix10, ix11, ix12, ix13, ix14, ix15, ixm1, ixm2, isiV, idxD, seqD, opB, opA, opC, truD, setT, setTs, eqD, full, frz, D.sub, D.subL, D.eqv, D.eqvL, D.depth, D.depthL, biD, permD, opI, dctD, isKey, newL, catD, SZ, isiD, tyOk, lstD, setD, mtD, okM, srcD, mkL, slcD, mkDct, putKD, getK, kEq, ofB_some, fin_pl, finX_pl, pl_non, pl_bl, pl_int, pl_str, pl_tup, pl_lst, pl_ro, plL_nil, plL_cons, fin_k, lg_lt, lg_lt2, mulOk_lit, m34, e1, e2, l1, l2, l3]
    · refine ⟨b, s2, k, S, ?_, h, by omega, ok, by omega, by omega⟩
      simp [b22, e_var, e_cst, e_tup, e_lst, e_bin, e_neg, e_cmp, e_is, e_chain, e_and, e_or, e_not, e_ife, e_idx, e_slc, e_rev, e_cat, e_dg1, e_dg2, e_tg1, e_tg2, e_tix, e_dcp, dgD, tgD, txD, dcpD, cpDct, revD, e_call, e_bi, e_isi, e_mth, e_fld, e_isx, e_lc, e_dct, xs_nil, xs_cons, xo_none, xo_some, ec_nil, ec_cons, s_asg, s_par, s_par3, s_setIx, s_aug, s_expr, s_ret, s_retN, s_ife, s_for, s_whl, s_pass, s_brk, s_cont, s_rais, s_try, ss_nil, ss_cons, e_T, i_seq, i_rng1, i_rng2, i_enum, of_some, bd_ok, bd_err, fo_ok, fo_err, sq_nx, sq_rt, sq_bk, sq_ct, sq_err, lp_nx, lp_ct, lp_bk, lp_rt, lp_err, tr_ok, tr_err, br_t, br_f, sbr_t, sbr_f, en_some, so_some, ag_some, go_t, tn_some, tu_ap, fr_st, fr_lv, fr_lvE, end_rt, end_nx, end_err, negD, optI, rg1, rg2, tupD, ix0, ix1, ix2, ix3, ix4, ix5, ix6, ix7, ix8, ix9, ix10, ix11, ix12, ix13, ix14, ix15, ixm1, ixm2, isiV, idxD, seqD, opB, opA, opC, truD, setT, setTs, eqD, full, frz, D.sub, D.subL, D.eqv, D.eqvL, D.depth, D.depthL, biD, permD, opI, dctD, isKey, newL, catD, SZ, isiD, tyOk, lstD, setD, mtD, okM, srcD, mkL, slcD, mkDct, putKD, getK, kEq, ofB_some, fin_pl, finX_pl, pl_non, pl_bl, pl_int, pl_str, pl_tup, pl_lst, pl_ro, plL_nil, plL_cons, fin_k, lg_lt, lg_lt2, mulOk_lit, m34, h3, h4]
theorem ph_f (n : Nat) {mk b s2 : List D} (s : List D) (ok : Okb mk b s2) (hbl : b.length ≤ 32) (hl2 : s2.length ≤ 48) (rest S : Sto) (k fam : Int) (z3 z6 z7 : Option D) (h : Gs k rest S) (hk : k ≤ 900000) :
    ∃ (b' s' : List D) (z8 : Option D) (k' : Int) (S' : Sto), evSs (cal (n + 8)) ((b22.drop 8).take 1) (eP fam mk b s z3 z6 z7 none) S = .ok .nx (eP fam mk b' s z3 z6 z7 z8) S' ∧ Gs k' rest S' ∧ k' ≤ k + 1 ∧ Okb mk b' s' ∧ s'.length ≤ 50 := by
  by_cases h5 : fam = 5
  · subst h5
    obtain ⟨x, y, S1, e2, g1, ov⟩ := s_vector (n + 6) S rest k 1 h (by omega)
    have hv : isSt (.tup [.str tLeft, V2 x y]) := .inr (.inr (.inl ⟨_, _, rfl, ov⟩))
    have hw : isSt (.tup [.str tRight, V2 x y]) := .inr (.inr (.inr ⟨_, _, rfl, ov⟩))
    refine ⟨[.tup [.str tLeft, V2 x y]] ++ b ++ [.tup [.str tRight, V2 x y]], [.tup [.str tLeft, V2 x y]] ++ s2 ++ [.tup [.str tRight, V2 x y]], some (V2 x y), k + 1, S1, ?_, g1, by omega, okb_back (okb_front ok (sts_one hv) (by rw [List.length_singleton]; omega)) (sts_one hw) (by rw [List.length_append, List.length_singleton, List.length_singleton]; omega), by rw [List.length_append, List.length_append, List.length_singleton, List.length_singleton]; omega⟩
    have l1 : b.length + 1 ≤ 10000000 := by omega
    have l2 : 1 + b.length ≤ 10000000 := by omega
    have l3 : b.length + 1 + 1 ≤ 10000000 := by omega
    have l4 : 1 + b.length + 1 ≤ 10000000 := by omega
    simp [b22, e_var, e_cst, e_tup, e_lst, e_bin, e_neg, e_cmp, e_is, e_chain, e_and, e_or, e_not, e_ife, e_idx, e_slc, e_rev, e_cat, e_dg1, e_dg2, e_tg1, e_tg2, e_tix, e_dcp, dgD, tgD, txD, dcpD, cpDct, revD, e_call, e_bi, e_isi, e_mth, e_fld, e_isx, e_lc, e_dct, xs_nil, xs_cons, xo_none, xo_some, ec_nil, ec_cons, s_asg, s_par, s_par3, s_setIx, s_aug, s_expr, s_ret, s_retN, s_ife, s_for, s_whl, s_pass, s_brk, s_cont, s_rais, s_try, ss_nil, ss_cons, e_T, i_seq, i_rng1, i_rng2, i_enum, of_some, bd_ok, bd_err, fo_ok, fo_err, sq_nx, sq_rt, sq_bk, sq_ct, sq_err, lp_nx, lp_ct, lp_bk, lp_rt, lp_err, tr_ok, tr_err, br_t, br_f, sbr_t, sbr_f, en_some, so_some, ag_some, go_t, tn_some, tu_ap, fr_st, fr_lv, fr_lvE, end_rt, end_nx, end_err, negD, optI, rg1, rg2, tupD, ix0, ix1, ix2, ix3, ix4, ix5, ix6, ix7, ix8, ix9, ix10, ix11, ix12, ix13, ix14, ix15, ixm1, ixm2, isiV, idxD, seqD, opB, opA, opC, truD, setT, setTs, eqD, full, frz, D.sub, D.subL, D.eqv, D.eqvL, D.depth, D.depthL, biD, permD, opI, dctD, isKey, newL, catD, SZ, isiD, tyOk, lstD, setD, mtD, okM, srcD, mkL, slcD, mkDct, putKD, getK, kEq, ofB_some, fin_pl, finX_pl, pl_non, pl_bl, pl_int, pl_str, pl_tup, pl_lst, pl_ro, plL_nil, plL_cons, fin_k, lg_lt, lg_lt2, mulOk_lit, e2, l1, l2, l3, l4]
  · have h5' : (fam == 5) = false := by simpa using h5
    refine ⟨b, s2, none, k, S, ?_, h, by omega, ok, by omega⟩
    simp [b22, e_var, e_cst, e_tup, e_lst, e_bin, e_neg, e_cmp, e_is, e_chain, e_and, e_or, e_not, e_ife, e_idx, e_slc, e_rev, e_cat, e_dg1, e_dg2, e_tg1, e_tg2, e_tix, e_dcp, dgD, tgD, txD, dcpD, cpDct, revD, e_call, e_bi, e_isi, e_mth, e_fld, e_isx, e_lc, e_dct, xs_nil, xs_cons, xo_none, xo_some, ec_nil, ec_cons, s_asg, s_par, s_par3, s_setIx, s_aug, s_expr, s_ret, s_retN, s_ife, s_for, s_whl, s_pass, s_brk, s_cont, s_rais, s_try, ss_nil, ss_cons, e_T, i_seq, i_rng1, i_rng2, i_enum, of_some, bd_ok, bd_err, fo_ok, fo_err, sq_nx, sq_rt, sq_bk, sq_ct, sq_err, lp_nx, lp_ct, lp_bk, lp_rt, lp_err, tr_ok, tr_err, br_t, br_f, sbr_t, sbr_f, en_some, so_some, ag_some, go_t, tn_some, tu_ap, fr_st, fr_lv, fr_lvE, end_rt, end_nx, end_err, negD, optI, rg1, rg2, tupD, ix0, ix1, ix2, ix3, ix4, ix5, ix6, ix7, ix8, ix9, ix10, ix11, ix12, ix13, ix14, ix15, ixm1, ixm2, isiV, idxD, seqD, opB, opA, opC, truD, setT, setTs, eqD, full, frz, D.sub, D.subL, D.eqv, D.eqvL, D.depth, D.depthL, biD, permD, opI, dctD, isKey, newL, catD, SZ, isiD, tyOk, lstD, setD, mtD, okM, srcD, mkL, slcD, mkDct, putKD, getK, kEq, ofB_some, fin_pl, finX_pl, pl_non, pl_bl, pl_int, pl_str, pl_tup, pl_lst, pl_ro, plL_nil, plL_cons, fin_k, lg_lt, lg_lt2, mulOk_lit, h5, h5']
theorem s_plan (n : Nat) (st rest : Sto) (k fam : Int) (h : Gs k rest st) (hk : k ≤ 700000) : ∃ (d : D) (ss : List D) (k' : Int) (st' : Sto), callD fds anc (n + 9) 22 [.loc 1, .int fam] st = .ok (.tup [d, .tup ss]) st' ∧ Gs k' rest st' ∧ k' ≤ k + 100 ∧ Pl d ss ∧ ss.length ≤ 50 ∧ d.pl = true := by
  obtain ⟨ms, f, z3, k1, S1, ex1, e1, g1, q1, ml, hok⟩ := s_mks (n + 3) rest st k fam h (by omega)
  obtain ⟨b2, s2, k2, S2, o2, e2, g2, q2, ok2, bl2⟩ := ph_b n ms ml f hok _ S1 k1 fam z3 g1 (by omega)
  obtain ⟨mk3, b3, s3, k3, S3, e3, g3, q3, ok3, sl3, tl3, bl3⟩ := ph_c n ok2 bl2 _ S2 k2 fam z3 g2 (by omega)
  obtain ⟨b4, s4, z7, k4, S4, e4, g4, q4, ok4, sl4, bl4⟩ := ph_d n ok3 bl3 sl3 tl3 _ S3 k3 fam z3 (some (.lst (s2.filterMap tnF))) g3 (by omega)
  obtain ⟨b5, s5, k5, S5, e5, g5, q5, ok5, sl5, bl5⟩ := ph_e n ok4 bl4 (okb_sts ok3) sl3 sl4 _ S4 k4 fam z3 (some (.lst (s2.filterMap tnF))) z7 g4 (by omega)
  obtain ⟨b6, s6, z8, k6, S6, e6, g6, q6, ok6, sl6⟩ := ph_f n s3 ok5 bl5 sl5 _ S5 k5 fam z3 (some (.lst (s2.filterMap tnF))) z7 g5 (by omega)
  have e7 := okb_steps (n + 1) ok6 S6
  have hp : D.pl (.tup [.tup [.tup mk3, .tup b6], .tup s6]) = true := by
    obtain ⟨_, _, _, _, _, _, p1, p2, _⟩ := id ok6
    simp [pl_tup, plL_cons, plL_nil, p1, p2, sts_pl (okb_sts ok6)]
  have hp2 : D.pl (.tup [.tup mk3, .tup b6]) = true := by
    obtain ⟨_, _, _, _, _, _, p1, p2, _⟩ := id ok6
    simp [pl_tup, plL_cons, plL_nil, p1, p2]
  rw [List.append_assoc] at g6
  obtain ⟨S7, e8, g7⟩ := fin_gsx (d := .tup [.tup [.tup mk3, .tup b6], .tup s6]) h g6 (frzX_pl hp _ _ _)
  refine ⟨_, s6, k6, S7, call_run (F := F22) rfl rfl ?_, g7, by omega, okb_pl ok6, sl6, hp2⟩
  have hb22 : F22.body = b22.take 2 ++ ((b22.drop 2).take 3 ++ ((b22.drop 5).take 1 ++ ((b22.drop 6).take 1 ++ ((b22.drop 7).take 1 ++ ((b22.drop 8).take 1 ++ b22.drop 9))))) := rfl
  show endD false st (evSs (cal (n + 8)) F22.body [some (.loc 1), some (.int fam), none, none, none, none, none, none, none, none, none, none] st) = _
  rw [hb22, ss_app _ _ e1, ss_app _ _ e2, ss_app _ _ e3, ss_app _ _ e4, ss_app _ _ e5, ss_app _ _ e6]
  simp [b22, e_var, e_cst, e_tup, e_lst, e_bin, e_neg, e_cmp, e_is, e_chain, e_and, e_or, e_not, e_ife, e_idx, e_slc, e_rev, e_cat, e_dg1, e_dg2, e_tg1, e_tg2, e_tix, e_dcp, dgD, tgD, txD, dcpD, cpDct, revD, e_call, e_bi, e_isi, e_mth, e_fld, e_isx, e_lc, e_dct, xs_nil, xs_cons, xo_none, xo_some, ec_nil, ec_cons, s_asg, s_par, s_par3, s_setIx, s_aug, s_expr, s_ret, s_retN, s_ife, s_for, s_whl, s_pass, s_brk, s_cont, s_rais, s_try, ss_nil, ss_cons, e_T, i_seq, i_rng1, i_rng2, i_enum, of_some, bd_ok, bd_err, fo_ok, fo_err, sq_nx, sq_rt, sq_bk, sq_ct, sq_err, lp_nx, lp_ct, lp_bk, lp_rt, lp_err, tr_ok, tr_err, br_t, br_f, sbr_t, sbr_f, en_some, so_some, ag_some, go_t, tn_some, tu_ap, fr_st, fr_lv, fr_lvE, end_rt, end_nx, end_err, negD, optI, rg1, rg2, tupD, ix0, ix1, ix2, ix3, ix4, ix5, ix6, ix7, ix8, ix9, ix10, ix11, ix12, ix13, ix14, ix15, ixm1, ixm2, isiV, idxD, seqD, opB, opA, opC, truD, setT, setTs, eqD, full, frz, D.sub, D.subL, D.eqv, D.eqvL, D.depth, D.depthL, biD, permD, opI, dctD, isKey, newL, catD, SZ, isiD, tyOk, lstD, setD, mtD, okM, srcD, mkL, slcD, mkDct, putKD, getK, kEq, ofB_some, fin_pl, finX_pl, pl_non, pl_bl, pl_int, pl_str, pl_tup, pl_lst, pl_ro, plL_nil, plL_cons, fin_k, lg_lt, lg_lt2, mulOk_lit, e7]
  exact e8
end K44
set_option Elab.async false
set_option linter.all false
set_option maxRecDepth 100000
set_option maxHeartbeats 4000000
namespace K44
open DI
/-! cuts -/
abbrev FL (q : List D) : D := .tup [.tup [], .tup q]
theorem same_fl (n : Nat) (st : Sto) {q : List D} (h : Sts q) (hl : q.length ≤ 100000) : callD fds anc (n + 1) 11 [FL q, FL q] st = .ok (.bl true) st := by
  obtain ⟨h1, h2⟩ := sts_cl h
  refine s_same n _ st (by simp [cl, clL, h1]) ?_
  simp only [wt, wtL]
  omega
theorem same_fl2 (n : Nat) (st : Sto) {q r : List D} (h : Sts q) (k : Sts r) (hl : q.length ≤ 50000) (kl : r.length ≤ 50000) : callD fds anc (n + 1) 11 [.tup [FL q, FL r], .tup [FL q, FL r]] st = .ok (.bl true) st := by
  obtain ⟨h1, h2⟩ := sts_cl h
  obtain ⟨h3, h4⟩ := sts_cl k
  refine s_same n _ st (by simp [cl, clL, h1, h3]) ?_
  simp only [wt, wtL]
  omega
theorem cut_lap (n : Nat) (S : Sto) {p : D} {ss : List D} (h : Pl p ss) (a b : Int) (m z4 z5 z6 z7 z8 z9 z10 z11 z12 z13 : Option D) : RS.tu (cal (n + 5)) (.tp [.nm 4, .nm 5]) l26_0 (V2 a b) [some (.loc 1), some p, some (.tup ss), m, z4, z5, z6, z7, z8, z9, z10, z11, z12, z13] S = .ok .nx [some (.loc 1), some p, some (.tup ss), m, some (.int a), some (.int b), z6, z7, z8, z9, z10, z11, z12, z13] S := by
  have e1 := s_cut n S h a b
  obtain ⟨c1, c2⟩ := cut_sts (pl_sts h) (some a) (some b)
  have pl := pl_len h
  have e2 := s_flat (n + 4) S c1
  have e3 := same_fl (n + 4) S c1 (by omega)
  simp [l26_0, e_var, e_cst, e_tup, e_lst, e_bin, e_neg, e_cmp, e_is, e_chain, e_and, e_or, e_not, e_ife, e_idx, e_slc, e_rev, e_cat, e_dg1, e_dg2, e_tg1, e_tg2, e_tix, e_dcp, dgD, tgD, txD, dcpD, cpDct, revD, e_call, e_bi, e_isi, e_mth, e_fld, e_isx, e_lc, e_dct, xs_nil, xs_cons, xo_none, xo_some, ec_nil, ec_cons, s_asg, s_par, s_par3, s_setIx, s_aug, s_expr, s_ret, s_retN, s_ife, s_for, s_whl, s_pass, s_brk, s_cont, s_rais, s_try, ss_nil, ss_cons, e_T, i_seq, i_rng1, i_rng2, i_enum, of_some, bd_ok, bd_err, fo_ok, fo_err, sq_nx, sq_rt, sq_bk, sq_ct, sq_err, lp_nx, lp_ct, lp_bk, lp_rt, lp_err, tr_ok, tr_err, br_t, br_f, sbr_t, sbr_f, en_some, so_some, ag_some, go_t, tn_some, tu_ap, fr_st, fr_lv, fr_lvE, end_rt, end_nx, end_err, negD, optI, rg1, rg2, tupD, ix0, ix1, ix2, ix3, ix4, ix5, ix6, ix7, ix8, ix9, ix10, ix11, ix12, ix13, ix14, ix15, ixm1, ixm2, isiV, idxD, seqD, opB, opA, opC, truD, setT, setTs, eqD, full, frz, D.sub, D.subL, D.eqv, D.eqvL, D.depth, D.depthL, biD, permD, opI, dctD, isKey, newL, catD, SZ, isiD, tyOk, lstD, setD, mtD, okM, srcD, mkL, slcD, mkDct, putKD, getK, kEq, ofB_some, fin_pl, finX_pl, pl_non, pl_bl, pl_int, pl_str, pl_tup, pl_lst, pl_ro, plL_nil, plL_cons, fin_k, lg_lt, lg_lt2, mulOk_lit, setTs, e1, e2, e3]
theorem ph2_1 (n : Nat) {p : D} {ss : List D} (hp : Pl p ss) (hl : ss.length ≤ 1000) (rest S : Sto) (k : Int) (h : Gs k rest S) (hk : k ≤ 900000) : ∃ (z4 z5 : Option D) (S' : Sto), evSs (cal (n + 9)) (b26.take 2) [some (.loc 1), some p, some (.tup ss), none, none, none, none, none, none, none, none, none, none, none] S = .ok .nx [some (.loc 1), some p, some (.tup ss), some (.int ss.length), z4, z5, none, none, none, none, none, none, none, none] S' ∧ Gs (k + 2) rest S' := by
  obtain ⟨a, S1, e1, g1, a0, a1⟩ := s_sip (n + 8) S rest k (ss.length + 1) h (by omega) (by omega) (by omega)
  obtain ⟨b, S2, e2, g2, b0, b1⟩ := s_sip (n + 8) S1 rest (k + 1) (ss.length + 1) g1 (by omega) (by omega) (by omega)
  refine ⟨some (.int 0), some (.int b), S2, ?_, gs_mono g2 (by omega)⟩
  have fe : forS (RS.tu (cal (n + 9)) (.tp [.nm 4, .nm 5]) l26_0) [V2 0 ss.length, V2 ss.length ss.length, V2 a ss.length, V2 0 b] [some (.loc 1), some p, some (.tup ss), some (.int ss.length), none, none, none, none, none, none, none, none, none, none] S2 = .ok .nx [some (.loc 1), some p, some (.tup ss), some (.int ss.length), some (.int 0), some (.int b), none, none, none, none, none, none, none, none] S2 := by
    rw [fs_cons, cut_lap (n + 4) S2 hp, lp_nx, fs_cons, cut_lap (n + 4) S2 hp, lp_nx, fs_cons, cut_lap (n + 4) S2 hp, lp_nx, fs_cons, cut_lap (n + 4) S2 hp, lp_nx, fs_nil]
  simp [b26, e_var, e_cst, e_tup, e_lst, e_bin, e_neg, e_cmp, e_is, e_chain, e_and, e_or, e_not, e_ife, e_idx, e_slc, e_rev, e_cat, e_dg1, e_dg2, e_tg1, e_tg2, e_tix, e_dcp, dgD, tgD, txD, dcpD, cpDct, revD, e_call, e_bi, e_isi, e_mth, e_fld, e_isx, e_lc, e_dct, xs_nil, xs_cons, xo_none, xo_some, ec_nil, ec_cons, s_asg, s_par, s_par3, s_setIx, s_aug, s_expr, s_ret, s_retN, s_ife, s_for, s_whl, s_pass, s_brk, s_cont, s_rais, s_try, ss_nil, ss_cons, e_T, i_seq, i_rng1, i_rng2, i_enum, of_some, bd_ok, bd_err, fo_ok, fo_err, sq_nx, sq_rt, sq_bk, sq_ct, sq_err, lp_nx, lp_ct, lp_bk, lp_rt, lp_err, tr_ok, tr_err, br_t, br_f, sbr_t, sbr_f, en_some, so_some, ag_some, go_t, tn_some, tu_ap, fr_st, fr_lv, fr_lvE, end_rt, end_nx, end_err, negD, optI, rg1, rg2, tupD, ix0, ix1, ix2, ix3, ix4, ix5, ix6, ix7, ix8, ix9, ix10, ix11, ix12, ix13, ix14, ix15, ixm1, ixm2, isiV, idxD, seqD, opB, opA, opC, truD, setT, setTs, eqD, full, frz, D.sub, D.subL, D.eqv, D.eqvL, D.depth, D.depthL, biD, permD, opI, dctD, isKey, newL, catD, SZ, isiD, tyOk, lstD, setD, mtD, okM, srcD, mkL, slcD, mkDct, putKD, getK, kEq, ofB_some, fin_pl, finX_pl, pl_non, pl_bl, pl_int, pl_str, pl_tup, pl_lst, pl_ro, plL_nil, plL_cons, fin_k, lg_lt, lg_lt2, mulOk_lit, e1, e2, fe]
abbrev c26 (p : D) (ss : List D) (z4 z5 z6 z7 z8 z9 z10 z11 z12 : Option D) : Env := [some (.loc 1), some p, some (.tup ss), some (.int ss.length), z4, z5, z6, z7, z8, z9, z10, z11, z12, none]
theorem cut_0 (ss : List D) (a : Int) : cutD ss (some 0) (some a) = cutD ss none (some a) := by
  unfold cutD
  have : sIxD ss.length 0 (some 0) = sIxD ss.length 0 none := by
    show (if (0 : Int) < 0 then ((0 : Int) + (ss.length : Int)).toNat else min (0 : Int).toNat ss.length) = 0
    rw [if_neg (by omega)]
    simp
  rw [this]
theorem cut_n (ss : List D) (a : Int) : cutD ss (some a) (some ss.length) = cutD ss (some a) none := by
  unfold cutD
  have : sIxD ss.length ss.length (some (ss.length : Int)) = sIxD ss.length ss.length none := by
    show (if (ss.length : Int) < 0 then ((ss.length : Int) + (ss.length : Int)).toNat else min (ss.length : Int).toNat ss.length) = ss.length
    rw [if_neg (by omega)]
    omega
  rw [this]
theorem ph2_2 (n : Nat) {p : D} {ss : List D} (hp : Pl p ss) (hl : ss.length ≤ 1000) (rest S : Sto) (k : Int) (h : Gs k rest S) (hk : k ≤ 900000) (z4 z5 : Option D) : ∃ (z4' z5' z7' : Option D) (a : Int) (S' : Sto), evSs (cal (n + 9)) ((b26.drop 2).take 5) (c26 p ss z4 z5 none none none none none none none) S = .ok .nx (c26 p ss z4' z5' (some (.int a)) z7' none none none none none) S' ∧ Gs (k + 3) rest S' ∧ 0 ≤ a ∧ a ≤ ss.length := by
  obtain ⟨b, S1, e1, g1, b0, b1⟩ := s_sip (n + 8) S rest k (ss.length + 1) h (by omega) (by omega) (by omega)
  obtain ⟨c, S2, e2, g2, c0, c1⟩ := s_sip (n + 8) S1 rest (k + 1) (ss.length - b + 1) g1 (by omega) (by omega) (by omega)
  obtain ⟨a, S3, e3, g3, a0, a1⟩ := s_sip (n + 8) S2 rest (k + 1 + 1) (ss.length + 1) g2 (by omega) (by omega) (by omega)
  have hs := pl_sts hp
  have q1 := s_cut (n + 4) S3 hp b (b + c)
  have q2 := s_cut (n + 4) S3 hp 0 a
  have q3 := s_cut (n + 4) S3 hp a ss.length
  obtain ⟨w1, w2⟩ := cut_sts hs (some b) (some (b + c))
  have x2 := (cut_0 ss a).trans (cut_to ss a0 (by omega))
  have x3 := (cut_n ss a).trans (cut_from ss a0 (by omega))
  rw [x2] at q2
  rw [x3] at q3
  have y2 : Sts (ss.take a.toNat) := sts_take hs _
  have y3 : Sts (ss.drop a.toNat) := sts_drop hs _
  have l2 : (ss.take a.toNat).length = a.toNat := by rw [List.length_take]; omega
  have l3 : (ss.drop a.toNat).length = ss.length - a.toNat := by rw [List.length_drop]
  have q4 := s_splice (n + 4) S3 (pl_flat y2 (by omega)) (pl_flat y3 (by omega)) a (by omega)
  have x4 : cutD (ss.take a.toNat) none (some a) ++ ss.drop a.toNat ++ cutD (ss.take a.toNat) (some a) none = ss := by
    rw [cut_to _ a0 (by omega), cut_from _ a0 (by omega), List.take_of_length_le (by omega), List.drop_of_length_le (l := ss.take a.toNat) (by omega), List.append_nil, List.take_append_drop]
  rw [x4] at q4
  have f1 := s_flat (n + 8) S3 w1
  have f2 := s_flat (n + 8) S3 hs
  have sm := same_fl2 (n + 8) S3 w1 hs (by omega) (by omega)
  refine ⟨some (.int b), some (.int (b + c)), some (.tup [FL (cutD ss (some b) (some (b + c))), FL ss]), a, S3, ?_, gs_mono g3 (by omega), a0, by omega⟩
  generalize hG : cutD ss (some b) (some (b + c)) = G at *
  generalize ss.take a.toNat = A at *
  generalize ss.drop a.toNat = B at *
  simp [b26, e_var, e_cst, e_tup, e_lst, e_bin, e_neg, e_cmp, e_is, e_chain, e_and, e_or, e_not, e_ife, e_idx, e_slc, e_rev, e_cat, e_dg1, e_dg2, e_tg1, e_tg2, e_tix, e_dcp, dgD, tgD, txD, dcpD, cpDct, revD, e_call, e_bi, e_isi, e_mth, e_fld, e_isx, e_lc, e_dct, xs_nil, xs_cons, xo_none, xo_some, ec_nil, ec_cons, s_asg, s_par, s_par3, s_setIx, s_aug, s_expr, s_ret, s_retN, s_ife, s_for, s_whl, s_pass, s_brk, s_cont, s_rais, s_try, ss_nil, ss_cons, e_T, i_seq, i_rng1, i_rng2, i_enum, of_some, bd_ok, bd_err, fo_ok, fo_err, sq_nx, sq_rt, sq_bk, sq_ct, sq_err, lp_nx, lp_ct, lp_bk, lp_rt, lp_err, tr_ok, tr_err, br_t, br_f, sbr_t, sbr_f, en_some, so_some, ag_some, go_t, tn_some, tu_ap, fr_st, fr_lv, fr_lvE, end_rt, end_nx, end_err, negD, optI, rg1, rg2, tupD, ix0, ix1, ix2, ix3, ix4, ix5, ix6, ix7, ix8, ix9, ix10, ix11, ix12, ix13, ix14, ix15, ixm1, ixm2, isiV, idxD, seqD, opB, opA, opC, truD, setT, setTs, eqD, full, frz, D.sub, D.subL, D.eqv, D.eqvL, D.depth, D.depthL, biD, permD, opI, dctD, isKey, newL, catD, SZ, isiD, tyOk, lstD, setD, mtD, okM, srcD, mkL, slcD, mkDct, putKD, getK, kEq, ofB_some, fin_pl, finX_pl, pl_non, pl_bl, pl_int, pl_str, pl_tup, pl_lst, pl_ro, plL_nil, plL_cons, fin_k, lg_lt, lg_lt2, mulOk_lit, e1, e2, e3, q1, q2, q3, q4, f1, f2, sm, hG]
theorem ph2_3 (n : Nat) {p : D} {ss : List D} (hp : Pl p ss) (hl : ss.length ≤ 1000) (rest S : Sto) (k : Int) (h : Gs k rest S) (hk : k ≤ 600000) (z4 z5 z7 : Option D) (a : Int) (a0 : 0 ≤ a) (a1 : a ≤ ss.length) : ∃ (o : D) (ws : List D) (k' : Int) (S' : Sto), evSs (cal (n + 9)) ((b26.drop 7).take 2) (c26 p ss z4 z5 (some (.int a)) z7 none none none none none) S = .ok .nx (c26 p ss z4 z5 (some (.int a)) z7 (some o) (some (.tup ws)) none none none) S' ∧ Gs k' rest S' ∧ k' ≤ k + 101 ∧ Pl o ws ∧ ws.length ≤ 50 := by
  obtain ⟨f, S1, e1, g1, f0, f1⟩ := s_sip (n + 8) S rest k 6 h (by omega) (by decide) (by decide)
  obtain ⟨o, ws, k', S2, e2, g2, kl, ho, wl, _⟩ := s_plan n S1 rest (k + 1) f g1 (by omega)
  refine ⟨o, ws, k', S2, ?_, g2, by omega, ho, wl⟩
  have hs := pl_sts hp
  have hw := pl_sts ho
  have q1 := s_splice (n + 4) S2 hp ho a (by omega)
  have x2 := cut_to ss a0 a1
  have x3 := cut_from ss a0 a1
  rw [x2, x3] at q1
  have y : Sts (ss.take a.toNat ++ ws ++ ss.drop a.toNat) := sts_app (sts_app (sts_take hs _) hw) (sts_drop hs _)
  have yl : (ss.take a.toNat ++ ws ++ ss.drop a.toNat).length ≤ 2000 := by
    rw [List.length_append, List.length_append, List.length_take, List.length_drop]; omega
  have f2 := s_flat (n + 8) S2 y
  have sm := same_fl (n + 8) S2 y (by omega)
  have l1 : (ss.take a.toNat).length + ws.length ≤ 10000000 := by rw [List.length_take]; omega
  have l2 : (ss.take a.toNat).length + ws.length + (ss.drop a.toNat).length ≤ 10000000 := by rw [List.length_take, List.length_drop]; omega
  have l3 : (ss.take a.toNat).length + (ws.length + (ss.drop a.toNat).length) ≤ 10000000 := by omega
  by_cases hc : (ss.length : Int) + ws.length < 61
  · generalize ss.take a.toNat = A at *
    generalize ss.drop a.toNat = B at *
    simp only [List.append_assoc] at q1 f2 sm
    simp [b26, e_var, e_cst, e_tup, e_lst, e_bin, e_neg, e_cmp, e_is, e_chain, e_and, e_or, e_not, e_ife, e_idx, e_slc, e_rev, e_cat, e_dg1, e_dg2, e_tg1, e_tg2, e_tix, e_dcp, dgD, tgD, txD, dcpD, cpDct, revD, e_call, e_bi, e_isi, e_mth, e_fld, e_isx, e_lc, e_dct, xs_nil, xs_cons, xo_none, xo_some, ec_nil, ec_cons, s_asg, s_par, s_par3, s_setIx, s_aug, s_expr, s_ret, s_retN, s_ife, s_for, s_whl, s_pass, s_brk, s_cont, s_rais, s_try, ss_nil, ss_cons, e_T, i_seq, i_rng1, i_rng2, i_enum, of_some, bd_ok, bd_err, fo_ok, fo_err, sq_nx, sq_rt, sq_bk, sq_ct, sq_err, lp_nx, lp_ct, lp_bk, lp_rt, lp_err, tr_ok, tr_err, br_t, br_f, sbr_t, sbr_f, en_some, so_some, ag_some, go_t, tn_some, tu_ap, fr_st, fr_lv, fr_lvE, end_rt, end_nx, end_err, negD, optI, rg1, rg2, tupD, ix0, ix1, ix2, ix3, ix4, ix5, ix6, ix7, ix8, ix9, ix10, ix11, ix12, ix13, ix14, ix15, ixm1, ixm2, isiV, idxD, seqD, opB, opA, opC, truD, setT, setTs, eqD, full, frz, D.sub, D.subL, D.eqv, D.eqvL, D.depth, D.depthL, biD, permD, opI, dctD, isKey, newL, catD, SZ, isiD, tyOk, lstD, setD, mtD, okM, srcD, mkL, slcD, mkDct, putKD, getK, kEq, ofB_some, fin_pl, finX_pl, pl_non, pl_bl, pl_int, pl_str, pl_tup, pl_lst, pl_ro, plL_nil, plL_cons, fin_k, lg_lt, lg_lt2, mulOk_lit, setTs, e1, e2, hc, q1, f2, sm, x2, x3, l1, l2, l3]
  · simp [b26, e_var, e_cst, e_tup, e_lst, e_bin, e_neg, e_cmp, e_is, e_chain, e_and, e_or, e_not, e_ife, e_idx, e_slc, e_rev, e_cat, e_dg1, e_dg2, e_tg1, e_tg2, e_tix, e_dcp, dgD, tgD, txD, dcpD, cpDct, revD, e_call, e_bi, e_isi, e_mth, e_fld, e_isx, e_lc, e_dct, xs_nil, xs_cons, xo_none, xo_some, ec_nil, ec_cons, s_asg, s_par, s_par3, s_setIx, s_aug, s_expr, s_ret, s_retN, s_ife, s_for, s_whl, s_pass, s_brk, s_cont, s_rais, s_try, ss_nil, ss_cons, e_T, i_seq, i_rng1, i_rng2, i_enum, of_some, bd_ok, bd_err, fo_ok, fo_err, sq_nx, sq_rt, sq_bk, sq_ct, sq_err, lp_nx, lp_ct, lp_bk, lp_rt, lp_err, tr_ok, tr_err, br_t, br_f, sbr_t, sbr_f, en_some, so_some, ag_some, go_t, tn_some, tu_ap, fr_st, fr_lv, fr_lvE, end_rt, end_nx, end_err, negD, optI, rg1, rg2, tupD, ix0, ix1, ix2, ix3, ix4, ix5, ix6, ix7, ix8, ix9, ix10, ix11, ix12, ix13, ix14, ix15, ixm1, ixm2, isiV, idxD, seqD, opB, opA, opC, truD, setT, setTs, eqD, full, frz, D.sub, D.subL, D.eqv, D.eqvL, D.depth, D.depthL, biD, permD, opI, dctD, isKey, newL, catD, SZ, isiD, tyOk, lstD, setD, mtD, okM, srcD, mkL, slcD, mkDct, putKD, getK, kEq, ofB_some, fin_pl, finX_pl, pl_non, pl_bl, pl_int, pl_str, pl_tup, pl_lst, pl_ro, plL_nil, plL_cons, fin_k, lg_lt, lg_lt2, mulOk_lit, setTs, e1, e2, hc]
end K44
set_option Elab.async false
set_option linter.all false
set_option maxRecDepth 100000
set_option maxHeartbeats 4000000
namespace K44
open DI
theorem compS_mapX {f : D → Sto → R (Option D)} {h : D → D} : ∀ (xs acc : List D) (st : Sto), (∀ x ∈ xs, ∀ st, ∃ ex, f x st = .ok (some (h x)) (st ++ ex)) → ∃ ex, compS f xs acc st = .ok (acc ++ xs.map h) (st ++ ex)
  | [], acc, st, _ => ⟨[], by simp [compS]⟩
  | x :: xs, acc, st, k => by
    obtain ⟨ex, e⟩ := k x (List.mem_cons_self ..) st
    obtain ⟨ex2, e2⟩ := compS_mapX xs (acc ++ [h x]) (st ++ ex) fun y hy => k y (List.mem_cons_of_mem _ hy)
    refine ⟨ex ++ ex2, ?_⟩
    rw [compS, e]
    simp only [R.bind]
    rw [e2]
    simp
theorem lc_mapX {C : Cal} {t : Tg} {e : Ex} {own : List Nat} {ρ : Env} {st : Sto} (h : D → D) {xs : List D} (hb : ∀ x ∈ xs, ∀ st, ∃ ρ' ex, setT t x (wipeD ρ own) = some ρ' ∧ evE C e ρ' st = .ok (h x) (st ++ ex)) : ∃ ex, R.lc C t [] e own (.st xs) ρ st = .ok (xs.map h) (st ++ ex) := by
  unfold R.lc
  obtain ⟨ex, e1⟩ := compS_mapX (f := fun x st => match setT t x (wipeD ρ own) with
      | none => .bad
      | some ρ' => (evCs C [] ρ' st).bind fun b st => if b then (evE C e ρ' st).bind fun d st => .ok (some d) st else .ok none st) (h := h) xs [] st (fun x hx st => by
    obtain ⟨ρ', ex, h1, h2⟩ := hb x hx st
    exact ⟨ex, by simp only [h1, ec_nil, R.bind, if_true, h2]⟩)
  exact ⟨ex, (congrArg R.noE e1).trans rfl⟩
theorem lcs (C : Cal) {s : List D} (hs : Sts s) (st : Sto) (d0 d1 d2 d3 d4 d5 d6 d7 d8 d9 d10 d11 d12 d13 : Option D) : ∃ ex, R.lc C (.nm 13) [] (.tup [.dg2 (.dct [.str tGo, .str tSkip] [.cst (.str tSkip), .cst (.str tGo)]) (.idx (.var 13) (.cst (.int 0))) (.idx (.var 13) (.cst (.int 0))), .idx (.var 13) (.cst (.int 1))]) [13] (.st s) [d0, d1, d2, d3, d4, d5, d6, d7, d8, d9, d10, d11, d12, d13] st = .ok (s.map sw) (st ++ ex) := by
  refine lc_mapX sw fun x hx st => ⟨[d0, d1, d2, d3, d4, d5, d6, d7, d8, d9, d10, d11, d12, some x], [.dct [(.str tGo, .str tSkip), (.str tSkip, .str tGo)]], rfl, ?_⟩
  have hm : mkDct [.str tGo, .str tSkip] [.str tSkip, .str tGo] = [(.str tGo, .str tSkip), (.str tSkip, .str tGo)] := rfl
  rcases hs x hx with ⟨k, rfl⟩ | ⟨k, rfl⟩ | ⟨u, v, rfl, _⟩ | ⟨u, v, rfl, _⟩
  · simp [e_var, e_cst, e_tup, e_lst, e_bin, e_neg, e_cmp, e_is, e_chain, e_and, e_or, e_not, e_ife, e_idx, e_slc, e_rev, e_cat, e_dg1, e_dg2, e_tg1, e_tg2, e_tix, e_dcp, dgD, tgD, txD, dcpD, cpDct, revD, e_call, e_bi, e_isi, e_mth, e_fld, e_isx, e_lc, e_dct, xs_nil, xs_cons, xo_none, xo_some, ec_nil, ec_cons, s_asg, s_par, s_par3, s_setIx, s_aug, s_expr, s_ret, s_retN, s_ife, s_for, s_whl, s_pass, s_brk, s_cont, s_rais, s_try, ss_nil, ss_cons, e_T, i_seq, i_rng1, i_rng2, i_enum, of_some, bd_ok, bd_err, fo_ok, fo_err, sq_nx, sq_rt, sq_bk, sq_ct, sq_err, lp_nx, lp_ct, lp_bk, lp_rt, lp_err, tr_ok, tr_err, br_t, br_f, sbr_t, sbr_f, en_some, so_some, ag_some, go_t, tn_some, tu_ap, fr_st, fr_lv, fr_lvE, end_rt, end_nx, end_err, negD, optI, rg1, rg2, tupD, ix0, ix1, ix2, ix3, ix4, ix5, ix6, ix7, ix8, ix9, ix10, ix11, ix12, ix13, ix14, ix15, ixm1, ixm2, isiV, idxD, seqD, opB, opA, opC, truD, setT, setTs, eqD, full, frz, D.sub, D.subL, D.eqv, D.eqvL, D.depth, D.depthL, biD, permD, opI, dctD, isKey, newL, catD, SZ, isiD, tyOk, lstD, setD, mtD, okM, srcD, mkL, slcD, mkDct, putKD, getK, kEq, ofB_some, fin_pl, finX_pl, pl_non, pl_bl, pl_int, pl_str, pl_tup, pl_lst, pl_ro, plL_nil, plL_cons, fin_k, lg_lt, lg_lt2, mulOk_lit, hm, sw]
  · simp [e_var, e_cst, e_tup, e_lst, e_bin, e_neg, e_cmp, e_is, e_chain, e_and, e_or, e_not, e_ife, e_idx, e_slc, e_rev, e_cat, e_dg1, e_dg2, e_tg1, e_tg2, e_tix, e_dcp, dgD, tgD, txD, dcpD, cpDct, revD, e_call, e_bi, e_isi, e_mth, e_fld, e_isx, e_lc, e_dct, xs_nil, xs_cons, xo_none, xo_some, ec_nil, ec_cons, s_asg, s_par, s_par3, s_setIx, s_aug, s_expr, s_ret, s_retN, s_ife, s_for, s_whl, s_pass, s_brk, s_cont, s_rais, s_try, ss_nil, ss_cons, e_T, i_seq, i_rng1, i_rng2, i_enum, of_some, bd_ok, bd_err, fo_ok, fo_err, sq_nx, sq_rt, sq_bk, sq_ct, sq_err, lp_nx, lp_ct, lp_bk, lp_rt, lp_err, tr_ok, tr_err, br_t, br_f, sbr_t, sbr_f, en_some, so_some, ag_some, go_t, tn_some, tu_ap, fr_st, fr_lv, fr_lvE, end_rt, end_nx, end_err, negD, optI, rg1, rg2, tupD, ix0, ix1, ix2, ix3, ix4, ix5, ix6, ix7, ix8, ix9, ix10, ix11, ix12, ix13, ix14, ix15, ixm1, ixm2, isiV, idxD, seqD, opB, opA, opC, truD, setT, setTs, eqD, full, frz, D.sub, D.subL, D.eqv, D.eqvL, D.depth, D.depthL, biD, permD, opI, dctD, isKey, newL, catD, SZ, isiD, tyOk, lstD, setD, mtD, okM, srcD, mkL, slcD, mkDct, putKD, getK, kEq, ofB_some, fin_pl, finX_pl, pl_non, pl_bl, pl_int, pl_str, pl_tup, pl_lst, pl_ro, plL_nil, plL_cons, fin_k, lg_lt, lg_lt2, mulOk_lit, hm, sw]
  · simp [e_var, e_cst, e_tup, e_lst, e_bin, e_neg, e_cmp, e_is, e_chain, e_and, e_or, e_not, e_ife, e_idx, e_slc, e_rev, e_cat, e_dg1, e_dg2, e_tg1, e_tg2, e_tix, e_dcp, dgD, tgD, txD, dcpD, cpDct, revD, e_call, e_bi, e_isi, e_mth, e_fld, e_isx, e_lc, e_dct, xs_nil, xs_cons, xo_none, xo_some, ec_nil, ec_cons, s_asg, s_par, s_par3, s_setIx, s_aug, s_expr, s_ret, s_retN, s_ife, s_for, s_whl, s_pass, s_brk, s_cont, s_rais, s_try, ss_nil, ss_cons, e_T, i_seq, i_rng1, i_rng2, i_enum, of_some, bd_ok, bd_err, fo_ok, fo_err, sq_nx, sq_rt, sq_bk, sq_ct, sq_err, lp_nx, lp_ct, lp_bk, lp_rt, lp_err, tr_ok, tr_err, br_t, br_f, sbr_t, sbr_f, en_some, so_some, ag_some, go_t, tn_some, tu_ap, fr_st, fr_lv, fr_lvE, end_rt, end_nx, end_err, negD, optI, rg1, rg2, tupD, ix0, ix1, ix2, ix3, ix4, ix5, ix6, ix7, ix8, ix9, ix10, ix11, ix12, ix13, ix14, ix15, ixm1, ixm2, isiV, idxD, seqD, opB, opA, opC, truD, setT, setTs, eqD, full, frz, D.sub, D.subL, D.eqv, D.eqvL, D.depth, D.depthL, biD, permD, opI, dctD, isKey, newL, catD, SZ, isiD, tyOk, lstD, setD, mtD, okM, srcD, mkL, slcD, mkDct, putKD, getK, kEq, ofB_some, fin_pl, finX_pl, pl_non, pl_bl, pl_int, pl_str, pl_tup, pl_lst, pl_ro, plL_nil, plL_cons, fin_k, lg_lt, lg_lt2, mulOk_lit, hm, sw]
  · simp [e_var, e_cst, e_tup, e_lst, e_bin, e_neg, e_cmp, e_is, e_chain, e_and, e_or, e_not, e_ife, e_idx, e_slc, e_rev, e_cat, e_dg1, e_dg2, e_tg1, e_tg2, e_tix, e_dcp, dgD, tgD, txD, dcpD, cpDct, revD, e_call, e_bi, e_isi, e_mth, e_fld, e_isx, e_lc, e_dct, xs_nil, xs_cons, xo_none, xo_some, ec_nil, ec_cons, s_asg, s_par, s_par3, s_setIx, s_aug, s_expr, s_ret, s_retN, s_ife, s_for, s_whl, s_pass, s_brk, s_cont, s_rais, s_try, ss_nil, ss_cons, e_T, i_seq, i_rng1, i_rng2, i_enum, of_some, bd_ok, bd_err, fo_ok, fo_err, sq_nx, sq_rt, sq_bk, sq_ct, sq_err, lp_nx, lp_ct, lp_bk, lp_rt, lp_err, tr_ok, tr_err, br_t, br_f, sbr_t, sbr_f, en_some, so_some, ag_some, go_t, tn_some, tu_ap, fr_st, fr_lv, fr_lvE, end_rt, end_nx, end_err, negD, optI, rg1, rg2, tupD, ix0, ix1, ix2, ix3, ix4, ix5, ix6, ix7, ix8, ix9, ix10, ix11, ix12, ix13, ix14, ix15, ixm1, ixm2, isiV, idxD, seqD, opB, opA, opC, truD, setT, setTs, eqD, full, frz, D.sub, D.subL, D.eqv, D.eqvL, D.depth, D.depthL, biD, permD, opI, dctD, isKey, newL, catD, SZ, isiD, tyOk, lstD, setD, mtD, okM, srcD, mkL, slcD, mkDct, putKD, getK, kEq, ofB_some, fin_pl, finX_pl, pl_non, pl_bl, pl_int, pl_str, pl_tup, pl_lst, pl_ro, plL_nil, plL_cons, fin_k, lg_lt, lg_lt2, mulOk_lit, hm, sw]
theorem five_v (i : Nat) (h : i < 5) : ∃ x y : Int, ([.tup [.int 1, .int 0], .tup [.int (-1000), .int 999], .tup [.int 2, .int 1], .tup [.int 0, .int (-1)], .tup [.int 7, .int (-1000)]] : List D)[i]? = some (.tup [.int x, .int y]) ∧ okV x y := by
  have : i = 0 ∨ i = 1 ∨ i = 2 ∨ i = 3 ∨ i = 4 := by omega
  rcases this with rfl | rfl | rfl | rfl | rfl <;> exact ⟨_, _, rfl, by decide, by decide, by decide⟩
theorem ph2_4 (n : Nat) {p : D} {ss : List D} (hp : Pl p ss) (hl : ss.length ≤ 1000) (rest S : Sto) (k : Int) (h : Gs k rest S) (hk : k ≤ 900000) (z4 z5 z6 z7 z8 z9 : Option D) : ∃ (z10 z11 : Option D) (S' ex : Sto), evSs (cal (n + 9)) ((b26.drop 9).take 3) (c26 p ss z4 z5 z6 z7 z8 z9 none none none) S = .ok .nx (c26 p ss z4 z5 z6 z7 z8 z9 z10 z11 none) S' ∧ Gs (k + 1) (rest ++ ex) S' := by
  obtain ⟨f, S1, e1, g1, f0, f1⟩ := s_sip (n + 8) S rest k 5 h (by omega) (by decide) (by decide)
  obtain ⟨x, y, hx, ov⟩ := five_v f.toNat (by omega)
  have ix : ixD 5 f = some f.toNat := ix_at f0 (by omega)
  have hs := pl_sts hp
  obtain ⟨ex, lc⟩ := lcs (cal (n + 9)) hs S1 (some (.loc 1)) (some p) (some (.tup ss)) (some (.int ss.length)) z4 z5 z6 z7 z8 z9 (some (V2 x y)) none none none
  have hv : isSt (.tup [.str tLeft, V2 x y]) := .inr (.inr (.inl ⟨_, _, rfl, ov⟩))
  have y1 : Sts (D.tup [.str tLeft, V2 x y] :: ss) := fun d hd => by
    rcases List.mem_cons.mp hd with rfl | hd
    · exact hv
    · exact hs d hd
  have y2 : Sts (ss.map sw ++ [D.tup [.str tLeft, V2 x y]]) := sts_app (sw_sts hs) (sts_one hv)
  have ml : (ss.map sw).length = ss.length := List.length_map _
  have yl : (ss.map sw ++ [D.tup [.str tLeft, V2 x y]]).length ≤ 1001 := by rw [List.length_append, ml, List.length_singleton]; omega
  have q1 := s_turnd (n + 4) (S1 ++ ex) hp x y
  have q2 := s_swap (n + 4) (S1 ++ ex) hp x y
  have f1 := s_flat (n + 8) (S1 ++ ex) y1
  have f2 := s_flat (n + 8) (S1 ++ ex) y2
  have sm := same_fl2 (n + 8) (S1 ++ ex) y1 y2 (by rw [List.length_cons]; omega) (by omega)
  have l1 : (ss.map sw).length ≤ 10000000 := by omega
  have l2 : (ss.map sw).length + 1 ≤ 10000000 := by omega
  have l3 : 1 + ss.length ≤ 10000000 := by omega
  have l4 : ss.length + 1 ≤ 10000000 := by omega
  refine ⟨some (V2 x y), some (.tup (ss.map sw ++ [.tup [.str tLeft, V2 x y]])), S1 ++ ex, ex, ?_, gs_app g1 ex⟩
  by_cases hc : (ss.length : Int) < 60
  · generalize ss.map sw = W at *
    simp [b26, e_var, e_cst, e_tup, e_lst, e_bin, e_neg, e_cmp, e_is, e_chain, e_and, e_or, e_not, e_ife, e_idx, e_slc, e_rev, e_cat, e_dg1, e_dg2, e_tg1, e_tg2, e_tix, e_dcp, dgD, tgD, txD, dcpD, cpDct, revD, e_call, e_bi, e_isi, e_mth, e_fld, e_isx, e_lc, e_dct, xs_nil, xs_cons, xo_none, xo_some, ec_nil, ec_cons, s_asg, s_par, s_par3, s_setIx, s_aug, s_expr, s_ret, s_retN, s_ife, s_for, s_whl, s_pass, s_brk, s_cont, s_rais, s_try, ss_nil, ss_cons, e_T, i_seq, i_rng1, i_rng2, i_enum, of_some, bd_ok, bd_err, fo_ok, fo_err, sq_nx, sq_rt, sq_bk, sq_ct, sq_err, lp_nx, lp_ct, lp_bk, lp_rt, lp_err, tr_ok, tr_err, br_t, br_f, sbr_t, sbr_f, en_some, so_some, ag_some, go_t, tn_some, tu_ap, fr_st, fr_lv, fr_lvE, end_rt, end_nx, end_err, negD, optI, rg1, rg2, tupD, ix0, ix1, ix2, ix3, ix4, ix5, ix6, ix7, ix8, ix9, ix10, ix11, ix12, ix13, ix14, ix15, ixm1, ixm2, isiV, idxD, seqD, opB, opA, opC, truD, setT, setTs, eqD, full, frz, D.sub, D.subL, D.eqv, D.eqvL, D.depth, D.depthL, biD, permD, opI, dctD, isKey, newL, catD, SZ, isiD, tyOk, lstD, setD, mtD, okM, srcD, mkL, slcD, mkDct, putKD, getK, kEq, ofB_some, fin_pl, finX_pl, pl_non, pl_bl, pl_int, pl_str, pl_tup, pl_lst, pl_ro, plL_nil, plL_cons, fin_k, lg_lt, lg_lt2, mulOk_lit, e1, hx, ix, lc, l1, l2, l3, l4, hc, q1, q2, f1, f2, sm]
  · generalize ss.map sw = W at *
    simp [b26, e_var, e_cst, e_tup, e_lst, e_bin, e_neg, e_cmp, e_is, e_chain, e_and, e_or, e_not, e_ife, e_idx, e_slc, e_rev, e_cat, e_dg1, e_dg2, e_tg1, e_tg2, e_tix, e_dcp, dgD, tgD, txD, dcpD, cpDct, revD, e_call, e_bi, e_isi, e_mth, e_fld, e_isx, e_lc, e_dct, xs_nil, xs_cons, xo_none, xo_some, ec_nil, ec_cons, s_asg, s_par, s_par3, s_setIx, s_aug, s_expr, s_ret, s_retN, s_ife, s_for, s_whl, s_pass, s_brk, s_cont, s_rais, s_try, ss_nil, ss_cons, e_T, i_seq, i_rng1, i_rng2, i_enum, of_some, bd_ok, bd_err, fo_ok, fo_err, sq_nx, sq_rt, sq_bk, sq_ct, sq_err, lp_nx, lp_ct, lp_bk, lp_rt, lp_err, tr_ok, tr_err, br_t, br_f, sbr_t, sbr_f, en_some, so_some, ag_some, go_t, tn_some, tu_ap, fr_st, fr_lv, fr_lvE, end_rt, end_nx, end_err, negD, optI, rg1, rg2, tupD, ix0, ix1, ix2, ix3, ix4, ix5, ix6, ix7, ix8, ix9, ix10, ix11, ix12, ix13, ix14, ix15, ixm1, ixm2, isiV, idxD, seqD, opB, opA, opC, truD, setT, setTs, eqD, full, frz, D.sub, D.subL, D.eqv, D.eqvL, D.depth, D.depthL, biD, permD, opI, dctD, isKey, newL, catD, SZ, isiD, tyOk, lstD, setD, mtD, okM, srcD, mkL, slcD, mkDct, putKD, getK, kEq, ofB_some, fin_pl, finX_pl, pl_non, pl_bl, pl_int, pl_str, pl_tup, pl_lst, pl_ro, plL_nil, plL_cons, fin_k, lg_lt, lg_lt2, mulOk_lit, e1, hx, ix, lc, l1, l2, hc]
def onF (c : Nat) (d : D) : Option D := match d with
  | .int j => if j < c then some (.int 1) else none
  | _ => none
theorem on_len (c : Nat) : ∀ M : Nat, ((rngD 0 (M : Int)).filterMap (onF c)).length = min M c := by
  intro M
  rw [rng_nat]
  induction M with
  | zero => simp
  | succ M ih =>
    rw [List.range'_concat, List.map_append, List.filterMap_append, List.length_append, ih]
    simp only [List.map_cons, List.map_nil, List.filterMap_cons, List.filterMap_nil, onF, Nat.zero_add, Nat.one_mul]
    by_cases h : M < c
    · have : ((M : Nat) : Int) < (c : Int) := by omega
      rw [if_pos this]
      simp; omega
    · have : ¬ ((M : Nat) : Int) < (c : Int) := by omega
      rw [if_neg this]
      simp; omega
theorem lc_on (C : Cal) {ss ws : List D} (hs : Sts ss) (hw : Sts ws) (M : Nat) (h1 : M ≤ ss.length) (h2 : M ≤ ws.length) (st : Sto) (d0 d1 d3 d4 d5 d6 d7 d8 d10 d11 d12 d13 : Option D) : R.lc C (.nm 6) [.cmp .eq (.slc false (.var 2) none (some (.bin .add (.var 6) (.cst (.int 1))))) (.slc false (.var 9) none (some (.bin .add (.var 6) (.cst (.int 1)))))] (.cst (.int 1)) [6] (.st (rngD 0 (M : Int))) [d0, d1, some (.tup ss), d3, d4, d5, d6, d7, d8, some (.tup ws), d10, d11, d12, d13] st = .ok ((rngD 0 (M : Int)).filterMap (onF (cp ss ws))) st := by
  refine lc_fm _ fun x hx => ?_
  obtain ⟨j, rfl, hj⟩ : ∃ j : Nat, x = .int (j : Int) ∧ j < M := by
    rw [rng_nat] at hx
    obtain ⟨j, hj, rfl⟩ := List.mem_map.mp hx
    exact ⟨j, rfl, by have := List.mem_range'.mp hj; omega⟩
  refine ⟨[d0, d1, some (.tup ss), d3, d4, d5, some (.int (j : Int)), d7, d8, some (.tup ws), d10, d11, d12, d13], rfl, ?_⟩
  have c1 : cutD ss none (some ((j : Int) + 1)) = ss.take (j + 1) := (cut_to ss (by omega) (by omega)).trans (by congr 1)
  have c2 : cutD ws none (some ((j : Int) + 1)) = ws.take (j + 1) := (cut_to ws (by omega) (by omega)).trans (by congr 1)
  have ct := cp_take ss ws j (by omega) (by omega)
  have sA := subL_sts (sts_take hs (j + 1))
  have sB := subL_sts (sts_take hw (j + 1))
  have dA := (sts_sc (sts_take hs (j + 1))).2
  have hdep : min (D.depthL (ss.take (j + 1))) (D.depthL (ws.take (j + 1))) ≤ 59 := by omega
  generalize ss.take (j + 1) = A at *
  generalize ws.take (j + 1) = B at *
  by_cases hc : j < cp ss ws
  · have ct' : D.eqvL A B = true := by rw [ct]; exact decide_eq_true hc
    have hc' : (j : Int) < (cp ss ws : Int) := by omega
    refine .inr ⟨.int 1, by simp only [onF]; rw [if_pos hc'], ?_, by simp [e_var, e_cst, e_tup, e_lst, e_bin, e_neg, e_cmp, e_is, e_chain, e_and, e_or, e_not, e_ife, e_idx, e_slc, e_rev, e_cat, e_dg1, e_dg2, e_tg1, e_tg2, e_tix, e_dcp, dgD, tgD, txD, dcpD, cpDct, revD, e_call, e_bi, e_isi, e_mth, e_fld, e_isx, e_lc, e_dct, xs_nil, xs_cons, xo_none, xo_some, ec_nil, ec_cons, s_asg, s_par, s_par3, s_setIx, s_aug, s_expr, s_ret, s_retN, s_ife, s_for, s_whl, s_pass, s_brk, s_cont, s_rais, s_try, ss_nil, ss_cons, e_T, i_seq, i_rng1, i_rng2, i_enum, of_some, bd_ok, bd_err, fo_ok, fo_err, sq_nx, sq_rt, sq_bk, sq_ct, sq_err, lp_nx, lp_ct, lp_bk, lp_rt, lp_err, tr_ok, tr_err, br_t, br_f, sbr_t, sbr_f, en_some, so_some, ag_some, go_t, tn_some, tu_ap, fr_st, fr_lv, fr_lvE, end_rt, end_nx, end_err, negD, optI, rg1, rg2, tupD, ix0, ix1, ix2, ix3, ix4, ix5, ix6, ix7, ix8, ix9, ix10, ix11, ix12, ix13, ix14, ix15, ixm1, ixm2, isiV, idxD, seqD, opB, opA, opC, truD, setT, setTs, eqD, full, frz, D.sub, D.subL, D.eqv, D.eqvL, D.depth, D.depthL, biD, permD, opI, dctD, isKey, newL, catD, SZ, isiD, tyOk, lstD, setD, mtD, okM, srcD, mkL, slcD, mkDct, putKD, getK, kEq, ofB_some, fin_pl, finX_pl, pl_non, pl_bl, pl_int, pl_str, pl_tup, pl_lst, pl_ro, plL_nil, plL_cons, fin_k, lg_lt, lg_lt2, mulOk_lit]⟩
    simp [e_var, e_cst, e_tup, e_lst, e_bin, e_neg, e_cmp, e_is, e_chain, e_and, e_or, e_not, e_ife, e_idx, e_slc, e_rev, e_cat, e_dg1, e_dg2, e_tg1, e_tg2, e_tix, e_dcp, dgD, tgD, txD, dcpD, cpDct, revD, e_call, e_bi, e_isi, e_mth, e_fld, e_isx, e_lc, e_dct, xs_nil, xs_cons, xo_none, xo_some, ec_nil, ec_cons, s_asg, s_par, s_par3, s_setIx, s_aug, s_expr, s_ret, s_retN, s_ife, s_for, s_whl, s_pass, s_brk, s_cont, s_rais, s_try, ss_nil, ss_cons, e_T, i_seq, i_rng1, i_rng2, i_enum, of_some, bd_ok, bd_err, fo_ok, fo_err, sq_nx, sq_rt, sq_bk, sq_ct, sq_err, lp_nx, lp_ct, lp_bk, lp_rt, lp_err, tr_ok, tr_err, br_t, br_f, sbr_t, sbr_f, en_some, so_some, ag_some, go_t, tn_some, tu_ap, fr_st, fr_lv, fr_lvE, end_rt, end_nx, end_err, negD, optI, rg1, rg2, tupD, ix0, ix1, ix2, ix3, ix4, ix5, ix6, ix7, ix8, ix9, ix10, ix11, ix12, ix13, ix14, ix15, ixm1, ixm2, isiV, idxD, seqD, opB, opA, opC, truD, setT, setTs, eqD, full, frz, D.sub, D.subL, D.eqv, D.eqvL, D.depth, D.depthL, biD, permD, opI, dctD, isKey, newL, catD, SZ, isiD, tyOk, lstD, setD, mtD, okM, srcD, mkL, slcD, mkDct, putKD, getK, kEq, ofB_some, fin_pl, finX_pl, pl_non, pl_bl, pl_int, pl_str, pl_tup, pl_lst, pl_ro, plL_nil, plL_cons, fin_k, lg_lt, lg_lt2, mulOk_lit, c1, c2, sA, sB, hdep, ct']
  · have ct' : D.eqvL A B = false := by rw [ct]; exact decide_eq_false hc
    have hc' : ¬ (j : Int) < (cp ss ws : Int) := by omega
    refine .inl ⟨by simp only [onF]; rw [if_neg hc'], ?_⟩
    simp [e_var, e_cst, e_tup, e_lst, e_bin, e_neg, e_cmp, e_is, e_chain, e_and, e_or, e_not, e_ife, e_idx, e_slc, e_rev, e_cat, e_dg1, e_dg2, e_tg1, e_tg2, e_tix, e_dcp, dgD, tgD, txD, dcpD, cpDct, revD, e_call, e_bi, e_isi, e_mth, e_fld, e_isx, e_lc, e_dct, xs_nil, xs_cons, xo_none, xo_some, ec_nil, ec_cons, s_asg, s_par, s_par3, s_setIx, s_aug, s_expr, s_ret, s_retN, s_ife, s_for, s_whl, s_pass, s_brk, s_cont, s_rais, s_try, ss_nil, ss_cons, e_T, i_seq, i_rng1, i_rng2, i_enum, of_some, bd_ok, bd_err, fo_ok, fo_err, sq_nx, sq_rt, sq_bk, sq_ct, sq_err, lp_nx, lp_ct, lp_bk, lp_rt, lp_err, tr_ok, tr_err, br_t, br_f, sbr_t, sbr_f, en_some, so_some, ag_some, go_t, tn_some, tu_ap, fr_st, fr_lv, fr_lvE, end_rt, end_nx, end_err, negD, optI, rg1, rg2, tupD, ix0, ix1, ix2, ix3, ix4, ix5, ix6, ix7, ix8, ix9, ix10, ix11, ix12, ix13, ix14, ix15, ixm1, ixm2, isiV, idxD, seqD, opB, opA, opC, truD, setT, setTs, eqD, full, frz, D.sub, D.subL, D.eqv, D.eqvL, D.depth, D.depthL, biD, permD, opI, dctD, isKey, newL, catD, SZ, isiD, tyOk, lstD, setD, mtD, okM, srcD, mkL, slcD, mkDct, putKD, getK, kEq, ofB_some, fin_pl, finX_pl, pl_non, pl_bl, pl_int, pl_str, pl_tup, pl_lst, pl_ro, plL_nil, plL_cons, fin_k, lg_lt, lg_lt2, mulOk_lit, c1, c2, sA, sB, hdep, ct']
theorem ph2_5 (n : Nat) {p o : D} {ss ws : List D} (hp : Pl p ss) (ho : Pl o ws) (hl : ss.length ≤ 1000) (wl : ws.length ≤ 1000) (S : Sto) (z4 z5 z6 z7 z10 z11 : Option D) : ∃ ρ', evSs (cal (n + 9)) (b26.drop 12) (c26 p ss z4 z5 z6 z7 (some o) (some (.tup ws)) z10 z11 none) S = .ok (.rt (.bl true)) ρ' S := by
  have hs := pl_sts hp
  have hw := pl_sts ho
  have cl0 := cp_le ss ws
  have q1 := s_common (n + 4) S hp ho
  have q2 := s_common (n + 4) S ho hp
  have q3 := s_common (n + 4) S hp hp
  rw [cp_comm hw hs] at q2
  rw [cp_self hs] at q3
  have sm := s_same (n + 8) (.tup [.int (cp ss ws), .int (cp ss ws), .int ss.length]) S rfl (by simp [wt, wtL])
  by_cases hm : ws.length < ss.length
  · have lc := lc_on (cal (n + 9)) hs hw ws.length (by omega) (by omega) S (some (.loc 1)) (some p) (some (.int ss.length)) z4 z5 z6 z7 (some o) z10 z11 none none
    have ln := on_len (cp ss ws) ws.length
    rw [show min ws.length (cp ss ws) = cp ss ws by omega] at ln
    have s2 : small62 (ws.length : Int) = true := small62_of (by omega) (by omega)
    generalize (rngD 0 (ws.length : Int)).filterMap (onF (cp ss ws)) = Q at *
    have l1 : Q.length ≤ 10000000 := by omega
    rw [← ln] at q1 q2 sm
    refine ⟨c26 p ss z4 z5 z6 z7 (some o) (some (.tup ws)) z10 z11 (some (.int Q.length)), ?_⟩
    simp [b26, e_var, e_cst, e_tup, e_lst, e_bin, e_neg, e_cmp, e_is, e_chain, e_and, e_or, e_not, e_ife, e_idx, e_slc, e_rev, e_cat, e_dg1, e_dg2, e_tg1, e_tg2, e_tix, e_dcp, dgD, tgD, txD, dcpD, cpDct, revD, e_call, e_bi, e_isi, e_mth, e_fld, e_isx, e_lc, e_dct, xs_nil, xs_cons, xo_none, xo_some, ec_nil, ec_cons, s_asg, s_par, s_par3, s_setIx, s_aug, s_expr, s_ret, s_retN, s_ife, s_for, s_whl, s_pass, s_brk, s_cont, s_rais, s_try, ss_nil, ss_cons, e_T, i_seq, i_rng1, i_rng2, i_enum, of_some, bd_ok, bd_err, fo_ok, fo_err, sq_nx, sq_rt, sq_bk, sq_ct, sq_err, lp_nx, lp_ct, lp_bk, lp_rt, lp_err, tr_ok, tr_err, br_t, br_f, sbr_t, sbr_f, en_some, so_some, ag_some, go_t, tn_some, tu_ap, fr_st, fr_lv, fr_lvE, end_rt, end_nx, end_err, negD, optI, rg1, rg2, tupD, ix0, ix1, ix2, ix3, ix4, ix5, ix6, ix7, ix8, ix9, ix10, ix11, ix12, ix13, ix14, ix15, ixm1, ixm2, isiV, idxD, seqD, opB, opA, opC, truD, setT, setTs, eqD, full, frz, D.sub, D.subL, D.eqv, D.eqvL, D.depth, D.depthL, biD, permD, opI, dctD, isKey, newL, catD, SZ, isiD, tyOk, lstD, setD, mtD, okM, srcD, mkL, slcD, mkDct, putKD, getK, kEq, ofB_some, fin_pl, finX_pl, pl_non, pl_bl, pl_int, pl_str, pl_tup, pl_lst, pl_ro, plL_nil, plL_cons, fin_k, lg_lt, lg_lt2, mulOk_lit, hm, s2, lc, l1, q1, q2, q3, sm]
  · have lc := lc_on (cal (n + 9)) hs hw ss.length (by omega) (by omega) S (some (.loc 1)) (some p) (some (.int ss.length)) z4 z5 z6 z7 (some o) z10 z11 none none
    have ln := on_len (cp ss ws) ss.length
    rw [show min ss.length (cp ss ws) = cp ss ws by omega] at ln
    have s2 : small62 (ss.length : Int) = true := small62_of (by omega) (by omega)
    generalize (rngD 0 (ss.length : Int)).filterMap (onF (cp ss ws)) = Q at *
    have l1 : Q.length ≤ 10000000 := by omega
    rw [← ln] at q1 q2 sm
    refine ⟨c26 p ss z4 z5 z6 z7 (some o) (some (.tup ws)) z10 z11 (some (.int Q.length)), ?_⟩
    simp [b26, e_var, e_cst, e_tup, e_lst, e_bin, e_neg, e_cmp, e_is, e_chain, e_and, e_or, e_not, e_ife, e_idx, e_slc, e_rev, e_cat, e_dg1, e_dg2, e_tg1, e_tg2, e_tix, e_dcp, dgD, tgD, txD, dcpD, cpDct, revD, e_call, e_bi, e_isi, e_mth, e_fld, e_isx, e_lc, e_dct, xs_nil, xs_cons, xo_none, xo_some, ec_nil, ec_cons, s_asg, s_par, s_par3, s_setIx, s_aug, s_expr, s_ret, s_retN, s_ife, s_for, s_whl, s_pass, s_brk, s_cont, s_rais, s_try, ss_nil, ss_cons, e_T, i_seq, i_rng1, i_rng2, i_enum, of_some, bd_ok, bd_err, fo_ok, fo_err, sq_nx, sq_rt, sq_bk, sq_ct, sq_err, lp_nx, lp_ct, lp_bk, lp_rt, lp_err, tr_ok, tr_err, br_t, br_f, sbr_t, sbr_f, en_some, so_some, ag_some, go_t, tn_some, tu_ap, fr_st, fr_lv, fr_lvE, end_rt, end_nx, end_err, negD, optI, rg1, rg2, tupD, ix0, ix1, ix2, ix3, ix4, ix5, ix6, ix7, ix8, ix9, ix10, ix11, ix12, ix13, ix14, ix15, ixm1, ixm2, isiV, idxD, seqD, opB, opA, opC, truD, setT, setTs, eqD, full, frz, D.sub, D.subL, D.eqv, D.eqvL, D.depth, D.depthL, biD, permD, opI, dctD, isKey, newL, catD, SZ, isiD, tyOk, lstD, setD, mtD, okM, srcD, mkL, slcD, mkDct, putKD, getK, kEq, ofB_some, fin_pl, finX_pl, pl_non, pl_bl, pl_int, pl_str, pl_tup, pl_lst, pl_ro, plL_nil, plL_cons, fin_k, lg_lt, lg_lt2, mulOk_lit, hm, s2, lc, l1, q1, q2, q3, sm]
theorem s_cuts (n : Nat) (st rest : Sto) (k : Int) (h : Gs k rest st) (hk : k ≤ 500000) {p : D} {ss : List D} (hp : Pl p ss) (hl : ss.length ≤ 1000) : ∃ (k' : Int) (st' : Sto), callD fds anc (n + 10) 26 [.loc 1, p, .tup ss] st = .ok (.bl true) st' ∧ Gs k' rest st' ∧ k' ≤ k + 110 := by
  obtain ⟨z4, z5, S1, e1, g1⟩ := ph2_1 n hp hl rest st k h (by omega)
  obtain ⟨z4', z5', z7', a, S2, e2, g2, a0, a1⟩ := ph2_2 n hp hl rest S1 (k + 2) g1 (by omega) z4 z5
  obtain ⟨o, ws, k3, S3, e3, g3, kl, ho, wl⟩ := ph2_3 n hp hl rest S2 (k + 2 + 3) g2 (by omega) z4' z5' z7' a a0 a1
  obtain ⟨z10, z11, S4, ex, e4, g4⟩ := ph2_4 n hp hl rest S3 k3 g3 (by omega) z4' z5' (some (.int a)) z7' (some o) (some (.tup ws))
  obtain ⟨ρ', e5⟩ := ph2_5 n hp ho hl (by omega) S4 z4' z5' (some (.int a)) z7' z10 z11
  obtain ⟨S5, e6, g5⟩ := fin_gsx (d := .bl true) h g4 (frzX_pl rfl _ _ _)
  refine ⟨k3 + 1, S5, call_run (F := F26) rfl rfl ?_, g5, by omega⟩
  have hb : F26.body = b26.take 2 ++ ((b26.drop 2).take 5 ++ ((b26.drop 7).take 2 ++ ((b26.drop 9).take 3 ++ b26.drop 12))) := rfl
  show endD false st (evSs (cal (n + 9)) F26.body [some (.loc 1), some p, some (.tup ss), none, none, none, none, none, none, none, none, none, none, none] st) = _
  rw [hb, ss_app _ _ e1, ss_app _ _ e2, ss_app _ _ e3, ss_app _ _ e4, e5, end_rt]
  exact e6
end K44
set_option Elab.async false
set_option linter.all false
set_option maxRecDepth 100000
set_option maxHeartbeats 4000000
namespace K44
open DI
/-! parts -/
theorem same_fnd (n : Nat) (st : Sto) (ss ws : List D) (hl : ss.length ≤ 100000) : callD fds anc (n + 1) 11 [.tup (fnd ss ws), .tup (fnd ss ws)] st = .ok (.bl true) st := by
  obtain ⟨h1, h2⟩ := ints_cl (fnd_ints ss ws)
  have h3 := fnd_len ss ws
  refine s_same n _ st (by simp [cl, h1]) ?_
  simp only [wt]
  omega
theorem part_lap (n : Nat) (S : Sto) {p : D} {ss : List D} (hp : Pl p ss) (hl : ss.length ≤ 1000) (b j : Nat) (hb : b + j ≤ ss.length) (hj : 0 < j) (e : Int) (he : e = (b : Int) + (j : Int)) (z5 z6 z7 z8 z9 : Option D) :
    ∃ y6 y7 : Option D, RS.tu (cal (n + 9)) (.nm 5) l27_0 (.int e) [some (.loc 1), some p, some (.tup ss), some (.int ss.length), some (.int (b : Int)), z5, z6, z7, z8, z9] S = .ok .nx [some (.loc 1), some p, some (.tup ss), some (.int ss.length), some (.int (b : Int)), some (.int e), y6, y7, z8, z9] S := by
  subst he
  have hs := pl_sts hp
  have hc := cut_mid ss b j (by omega)
  have hw : Sts ((ss.drop b).take j) := sts_take (sts_drop hs _) _
  have hwl : ((ss.drop b).take j).length = j := by rw [List.length_take, List.length_drop]; omega
  have h0 : (ss.drop b).take j ≠ [] := fun e => by rw [e] at hwl; simp at hwl; omega
  have q1 := s_flat (n + 8) S hw
  have q2 := s_occ (n + 4) S hp (pl_flat hw (by omega))
  have q3 := s_lfound (n + 8) S hs hw (by omega) (by omega)
  have q4 := same_fnd (n + 8) S ss ((ss.drop b).take j) (by omega)
  have q5 := s_lmade (n + 8) S hs hw h0 (by omega)
  have q6 := s_made (n + 4) S hp (b : Int) ((b : Int) + (j : Int)) hc h0
  obtain ⟨c1, c2⟩ := mdF_cl ((ss.drop b).take j) ss.length ss hs
  obtain ⟨c3, c4⟩ := sts_cl hw
  have q7 : callD fds anc (n + 9) 11 [mdp ss ((ss.drop b).take j), mdp ss ((ss.drop b).take j)] S = .ok (.bl true) S := by
    refine s_same (n + 8) _ S (by simp [cl, clL, c1, c3]) ?_
    simp only [wt, wtL]
    omega
  have q8 := s_steps (n + 5) S (pl_made hs hw h0 (by omega) (by omega))
  have q9 : callD fds anc (n + 9) 11 [.tup ss, .tup ss] S = .ok (.bl true) S := by
    obtain ⟨c5, c6⟩ := sts_cl hs
    refine s_same (n + 8) _ S (by simp [cl, c5]) ?_
    simp only [wt]
    omega
  refine ⟨some (.tup ((ss.drop b).take j)), some (mdp ss ((ss.drop b).take j)), ?_⟩
  generalize (ss.drop b).take j = w at *
  generalize mdp ss w = M at *
  generalize fnd ss w = F at *
  simp [l27_0, e_var, e_cst, e_tup, e_lst, e_bin, e_neg, e_cmp, e_is, e_chain, e_and, e_or, e_not, e_ife, e_idx, e_slc, e_rev, e_cat, e_dg1, e_dg2, e_tg1, e_tg2, e_tix, e_dcp, dgD, tgD, txD, dcpD, cpDct, revD, e_call, e_bi, e_isi, e_mth, e_fld, e_isx, e_lc, e_dct, xs_nil, xs_cons, xo_none, xo_some, ec_nil, ec_cons, s_asg, s_par, s_par3, s_setIx, s_aug, s_expr, s_ret, s_retN, s_ife, s_for, s_whl, s_pass, s_brk, s_cont, s_rais, s_try, ss_nil, ss_cons, e_T, i_seq, i_rng1, i_rng2, i_enum, of_some, bd_ok, bd_err, fo_ok, fo_err, sq_nx, sq_rt, sq_bk, sq_ct, sq_err, lp_nx, lp_ct, lp_bk, lp_rt, lp_err, tr_ok, tr_err, br_t, br_f, sbr_t, sbr_f, en_some, so_some, ag_some, go_t, tn_some, tu_ap, fr_st, fr_lv, fr_lvE, end_rt, end_nx, end_err, negD, optI, rg1, rg2, tupD, ix0, ix1, ix2, ix3, ix4, ix5, ix6, ix7, ix8, ix9, ix10, ix11, ix12, ix13, ix14, ix15, ixm1, ixm2, isiV, idxD, seqD, opB, opA, opC, truD, setT, setTs, eqD, full, frz, D.sub, D.subL, D.eqv, D.eqvL, D.depth, D.depthL, biD, permD, opI, dctD, isKey, newL, catD, SZ, isiD, tyOk, lstD, setD, mtD, okM, srcD, mkL, slcD, mkDct, putKD, getK, kEq, ofB_some, fin_pl, finX_pl, pl_non, pl_bl, pl_int, pl_str, pl_tup, pl_lst, pl_ro, plL_nil, plL_cons, fin_k, lg_lt, lg_lt2, mulOk_lit, hc, q1, q2, q3, q4, q5, q6, q7, q8, q9]
theorem s_parts (n : Nat) (st rest : Sto) (k : Int) (h : Gs k rest st) (hk : k ≤ 900000) {p : D} {ss : List D} (hp : Pl p ss) (hl : ss.length ≤ 1000) (h0 : 0 < ss.length) : ∃ (k' : Int) (st' : Sto), callD fds anc (n + 10) 27 [.loc 1, p, .tup ss] st = .ok (.bl true) st' ∧ Gs k' rest st' ∧ k' ≤ k + 2 := by
  obtain ⟨b', S1, e1, g1, b0, b1⟩ := s_sip (n + 8) st rest k ss.length h (by omega) (by omega) (by omega)
  obtain ⟨b, rfl⟩ : ∃ b : Nat, b' = (b : Int) := ⟨b'.toNat, by omega⟩
  obtain ⟨c', S2, e2, g2, c0, c1⟩ := s_sip (n + 8) S1 rest (k + 1) (ss.length - b) g1 (by omega) (by omega) (by omega)
  obtain ⟨c, rfl⟩ : ∃ c : Nat, c' = (c : Int) := ⟨c'.toNat, by omega⟩
  have hs := pl_sts hp
  obtain ⟨S3, f3, g3⟩ := fin_gsx (ex := []) (d := .bl true) h (by rw [List.append_nil]; exact g2) (frzX_pl rfl _ _ _)
  refine ⟨k + 1 + 1, S3, call_run (F := F27) rfl rfl ?_, g3, by omega⟩
  obtain ⟨u6, u7, r1⟩ := part_lap n S2 hp hl b 1 (by omega) (by omega) ((b : Int) + 1) rfl none none none none none
  obtain ⟨v6, v7, r2⟩ := part_lap n S2 hp hl b (c + 1) (by omega) (by omega) ((b : Int) + 1 + c) (by omega) (some (.int ((b : Int) + 1))) u6 u7 none none
  obtain ⟨w6, w7, r3⟩ := part_lap n S2 hp hl b (min ss.length (b + 2) - b) (by omega) (by omega) (if (b : Int) + 2 < ss.length then (b : Int) + 2 else ss.length) (by split <;> omega) (some (.int ((b : Int) + 1 + c))) v6 v7 none none
  have fe : forS (RS.tu (cal (n + 9)) (.nm 5) l27_0) [.int ((b : Int) + 1), .int ((b : Int) + 1 + c), .int (if (b : Int) + 2 < ss.length then (b : Int) + 2 else ss.length)] [some (.loc 1), some p, some (.tup ss), some (.int ss.length), some (.int (b : Int)), none, none, none, none, none] S2 = .ok .nx [some (.loc 1), some p, some (.tup ss), some (.int ss.length), some (.int (b : Int)), some (.int (if (b : Int) + 2 < ss.length then (b : Int) + 2 else ss.length)), w6, w7, none, none] S2 := by
    rw [fs_cons, r1, lp_nx, fs_cons, r2, lp_nx, fs_cons, r3, lp_nx, fs_nil]
  have hx : isSt (.tup [.str tGo, .int 999]) := .inl ⟨_, rfl⟩
  have hy : isSt (.tup [.str tGo, .int 1]) := .inl ⟨_, rfl⟩
  obtain ⟨d1, d2⟩ := cut_sts hs (some (b : Int)) none
  have hbn : Sts (cutD ss (some (b : Int)) none ++ [.tup [.str tGo, .int 999]]) := sts_app d1 (sts_one hx)
  have hbl : (cutD ss (some (b : Int)) none ++ [D.tup [.str tGo, .int 999]]).length ≤ 1001 := by rw [List.length_append, List.length_singleton]; omega
  have hcn : Sts (ss ++ [.tup [.str tGo, .int 1]]) := sts_app hs (sts_one hy)
  have hcl : (ss ++ [D.tup [.str tGo, .int 1]]).length ≤ 1001 := by rw [List.length_append, List.length_singleton]; omega
  have q1 := s_flat (n + 8) S2 sts_nil
  have q2 := s_occ (n + 4) S2 hp (pl_flat sts_nil (by decide))
  rw [show fnd ss [] = [] from by unfold fnd; rw [if_pos rfl]] at q2
  have q3 := s_occ (n + 4) S2 hp hp
  have q4 := s_flat (n + 8) S2 hbn
  have q5 := s_occ (n + 4) S2 hp (pl_flat hbn (by omega))
  have q6 := s_flat (n + 8) S2 hcn
  have q7 := s_common (n + 4) S2 hp (pl_flat hcn (by omega))
  rw [cp_app _ hs] at q7
  have q8 := s_lfound (n + 8) S2 hs hs (by omega) (by omega)
  have q9 := s_lfound (n + 8) S2 hs hbn (by omega) (by omega)
  obtain ⟨a1, a2⟩ := ints_cl (fnd_ints ss ss)
  obtain ⟨a3, a4⟩ := ints_cl (fnd_ints ss (cutD ss (some (b : Int)) none ++ [.tup [.str tGo, .int 999]]))
  have a5 := fnd_len ss ss
  have a6 := fnd_len ss (cutD ss (some (b : Int)) none ++ [.tup [.str tGo, .int 999]])
  have sm : callD fds anc (n + 9) 11 [.tup [.tup [], .tup (fnd ss ss), .tup (fnd ss (cutD ss (some (b : Int)) none ++ [.tup [.str tGo, .int 999]])), .int ss.length], .tup [.tup [], .tup (fnd ss ss), .tup (fnd ss (cutD ss (some (b : Int)) none ++ [.tup [.str tGo, .int 999]])), .int ss.length]] S2 = .ok (.bl true) S2 := by
    refine s_same (n + 8) _ S2 (by simp [cl, clL, a1, a3]) ?_
    simp only [wt, wtL]
    omega
  have l1 : (cutD ss (some (b : Int)) none).length + 1 ≤ 10000000 := by omega
  have l2 : ss.length + 1 ≤ 10000000 := by omega
  have hsub : (b : Int) + 1 + 1 = b + 2 := by omega
  generalize fnd ss (cutD ss (some (b : Int)) none ++ [.tup [.str tGo, .int 999]]) = F1 at *
  generalize hC : cutD ss (some (b : Int)) none = C at *
  generalize fnd ss ss = F2 at *
  simp [F27, b27, e_var, e_cst, e_tup, e_lst, e_bin, e_neg, e_cmp, e_is, e_chain, e_and, e_or, e_not, e_ife, e_idx, e_slc, e_rev, e_cat, e_dg1, e_dg2, e_tg1, e_tg2, e_tix, e_dcp, dgD, tgD, txD, dcpD, cpDct, revD, e_call, e_bi, e_isi, e_mth, e_fld, e_isx, e_lc, e_dct, xs_nil, xs_cons, xo_none, xo_some, ec_nil, ec_cons, s_asg, s_par, s_par3, s_setIx, s_aug, s_expr, s_ret, s_retN, s_ife, s_for, s_whl, s_pass, s_brk, s_cont, s_rais, s_try, ss_nil, ss_cons, e_T, i_seq, i_rng1, i_rng2, i_enum, of_some, bd_ok, bd_err, fo_ok, fo_err, sq_nx, sq_rt, sq_bk, sq_ct, sq_err, lp_nx, lp_ct, lp_bk, lp_rt, lp_err, tr_ok, tr_err, br_t, br_f, sbr_t, sbr_f, en_some, so_some, ag_some, go_t, tn_some, tu_ap, fr_st, fr_lv, fr_lvE, end_rt, end_nx, end_err, negD, optI, rg1, rg2, tupD, ix0, ix1, ix2, ix3, ix4, ix5, ix6, ix7, ix8, ix9, ix10, ix11, ix12, ix13, ix14, ix15, ixm1, ixm2, isiV, idxD, seqD, opB, opA, opC, truD, setT, setTs, eqD, full, frz, D.sub, D.subL, D.eqv, D.eqvL, D.depth, D.depthL, biD, permD, opI, dctD, isKey, newL, catD, SZ, isiD, tyOk, lstD, setD, mtD, okM, srcD, mkL, slcD, mkDct, putKD, getK, kEq, ofB_some, fin_pl, finX_pl, pl_non, pl_bl, pl_int, pl_str, pl_tup, pl_lst, pl_ro, plL_nil, plL_cons, fin_k, lg_lt, lg_lt2, mulOk_lit, e1, e2, fe, hC, l1, l2, q1, q2, q3, q4, q5, q6, q7, q8, q9, sm]
  exact f3
/-! a plan whose maker is told twice -/
theorem compS_gen {f : D → Sto → R (Option D)} (I : Nat → Sto → Prop) (P : D → Prop) (L : Nat) (hb : ∀ j x st, j < L → I j st → ∃ y st', f x st = .ok (some y) st' ∧ I (j + 1) st' ∧ P y) : ∀ (xs acc : List D) (j : Nat) (st : Sto), j + xs.length = L → I j st → ∃ (ys : List D) (st' : Sto), compS f xs acc st = .ok (acc ++ ys) st' ∧ I (j + xs.length) st' ∧ ys.length = xs.length ∧ ∀ y ∈ ys, P y
  | [], acc, j, st, _, h => ⟨[], st, by rw [List.append_nil]; rfl, h, rfl, fun y hy => by cases hy⟩
  | x :: xs, acc, j, st, hl, h => by
    rw [List.length_cons] at hl
    obtain ⟨y, s1, e1, i1, p1⟩ := hb j x st (by omega) h
    obtain ⟨ys, s2, e2, i2, l2, p2⟩ := compS_gen I P L hb xs (acc ++ [y]) (j + 1) s1 (by omega) i1
    refine ⟨y :: ys, s2, ?_, ?_, by rw [List.length_cons, List.length_cons, l2], ?_⟩
    · rw [compS, e1]
      show compS f xs (acc ++ [y]) s1 = _
      rw [e2, List.append_assoc]
      rfl
    · rw [List.length_cons, show j + (xs.length + 1) = j + 1 + xs.length by omega]
      exact i2
    · intro z hz
      rcases List.mem_cons.mp hz with rfl | hz
      · exact p1
      · exact p2 z hz
theorem lc_gen {C : Cal} {t : Tg} {e : Ex} {own : List Nat} {ρ : Env} (I : Nat → Sto → Prop) (P : D → Prop) (xs : List D) (hb : ∀ j x st, j < xs.length → I j st → ∃ ρ' y st', setT t x (wipeD ρ own) = some ρ' ∧ evE C e ρ' st = .ok y st' ∧ I (j + 1) st' ∧ P y) (st : Sto) (h : I 0 st) :
    ∃ (ys : List D) (st' : Sto), R.lc C t [] e own (.st xs) ρ st = .ok ys st' ∧ I xs.length st' ∧ ys.length = xs.length ∧ ∀ y ∈ ys, P y := by
  unfold R.lc
  obtain ⟨ys, st', e1, i1, l1, p1⟩ := compS_gen (f := fun x st => match setT t x (wipeD ρ own) with
      | none => .bad
      | some ρ' => (evCs C [] ρ' st).bind fun b st => if b then (evE C e ρ' st).bind fun d st => .ok (some d) st else .ok none st) I P xs.length (fun j x st hj hi => by
    obtain ⟨ρ', y, s1, h1, h2, h3, h4⟩ := hb j x st hj hi
    refine ⟨y, s1, ?_, h3, h4⟩
    simp only [h1, ec_nil, R.bind, if_true, h2]) xs [] 0 st (by omega) h
  refine ⟨ys, st', ?_, by rw [Nat.zero_add] at i1; exact i1, l1, p1⟩
  exact (congrArg R.noE e1).trans rfl
theorem four_k (i : Nat) (h : i < 4) : ∃ d : D, ([.tup [.str tGo, .int 1], .tup [.str tLeft, .tup [.int 0, .int 1]], .tup [.str tGo, .int 2], .tup [.str tSkip, .int 1]] : List D)[i]? = some d ∧ isSt d := by
  have : i = 0 ∨ i = 1 ∨ i = 2 ∨ i = 3 := by omega
  rcases this with rfl | rfl | rfl | rfl
  · exact ⟨_, rfl, .inl ⟨_, rfl⟩⟩
  · exact ⟨_, rfl, .inr (.inr (.inl ⟨_, _, rfl, okV_of (by decide) (by decide) (by decide)⟩))⟩
  · exact ⟨_, rfl, .inl ⟨_, rfl⟩⟩
  · exact ⟨_, rfl, .inr (.inl ⟨_, rfl⟩)⟩
abbrev tM : Tx := [109]
theorem s_again (n : Nat) (st rest : Sto) (k : Int) (h : Gs k rest st) (hk : k ≤ 900000) : ∃ (d : D) (ss : List D) (st' : Sto), callD fds anc (n + 9) 28 [.loc 1] st = .ok (.tup [d, .tup ss]) st' ∧ Gs (k + 6) rest st' ∧ Pl d ss ∧ ss.length ≤ 50 := by
  obtain ⟨q, S1, e1, g1, q0, q1⟩ := s_sip (n + 7) st rest k 3 h (by omega) (by decide) (by decide)
  have hr : (rngD 0 (1 + q)).length ≤ 3 ∧ (1 + q).toNat = (rngD 0 (1 + q)).length := by
    simp only [rngD, List.length_map, List.length_range]; omega
  obtain ⟨ys, S2, e2, g2, l2, p2⟩ := lc_gen (C := cal (n + 8)) (t := .nm 3) (e := .idx (.lst false [.tup [.cst (.str [103, 111]), .cst (.int 1)], .tup [.cst (.str [108, 101, 102, 116]), .tup [.cst (.int 0), .cst (.int 1)]], .tup [.cst (.str [103, 111]), .cst (.int 2)], .tup [.cst (.str [115, 107, 105, 112]), .cst (.int 1)]]) (.call 10 [.var 0, .cst (.int 4)] [0, 1])) (own := [3]) (ρ := [some (.loc 1), none, none, none]) (fun j s => Gs (k + 1 + j) rest s) isSt (rngD 0 (1 + q)) (by
    intro j x s hj hg
    obtain ⟨r, s', e, g, r0, r1⟩ := s_sip (n + 7) s rest (k + 1 + j) 4 hg (by omega) (by decide) (by decide)
    obtain ⟨d, hd, hs⟩ := four_k r.toNat (by omega)
    have ix : ixD 4 r = some r.toNat := ix_at r0 (by omega)
    generalize r.toNat = ri at hd ix
    refine ⟨[some (.loc 1), none, none, some x], d, s', rfl, ?_, ?_, hs⟩
    · simp [e_var, e_cst, e_tup, e_lst, e_bin, e_neg, e_cmp, e_is, e_chain, e_and, e_or, e_not, e_ife, e_idx, e_slc, e_rev, e_cat, e_dg1, e_dg2, e_tg1, e_tg2, e_tix, e_dcp, dgD, tgD, txD, dcpD, cpDct, revD, e_call, e_bi, e_isi, e_mth, e_fld, e_isx, e_lc, e_dct, xs_nil, xs_cons, xo_none, xo_some, ec_nil, ec_cons, s_asg, s_par, s_par3, s_setIx, s_aug, s_expr, s_ret, s_retN, s_ife, s_for, s_whl, s_pass, s_brk, s_cont, s_rais, s_try, ss_nil, ss_cons, e_T, i_seq, i_rng1, i_rng2, i_enum, of_some, bd_ok, bd_err, fo_ok, fo_err, sq_nx, sq_rt, sq_bk, sq_ct, sq_err, lp_nx, lp_ct, lp_bk, lp_rt, lp_err, tr_ok, tr_err, br_t, br_f, sbr_t, sbr_f, en_some, so_some, ag_some, go_t, tn_some, tu_ap, fr_st, fr_lv, fr_lvE, end_rt, end_nx, end_err, negD, optI, rg1, rg2, tupD, ix0, ix1, ix2, ix3, ix4, ix5, ix6, ix7, ix8, ix9, ix10, ix11, ix12, ix13, ix14, ix15, ixm1, ixm2, isiV, idxD, seqD, opB, opA, opC, truD, setT, setTs, eqD, full, frz, D.sub, D.subL, D.eqv, D.eqvL, D.depth, D.depthL, biD, permD, opI, dctD, isKey, newL, catD, SZ, isiD, tyOk, lstD, setD, mtD, okM, srcD, mkL, slcD, mkDct, putKD, getK, kEq, ofB_some, fin_pl, finX_pl, pl_non, pl_bl, pl_int, pl_str, pl_tup, pl_lst, pl_ro, plL_nil, plL_cons, fin_k, lg_lt, lg_lt2, mulOk_lit, e, hd, ix]
    · rw [show k + 1 + ((j + 1 : Nat) : Int) = k + 1 + j + 1 by omega]
      exact g) S1 (by simpa using g1)
  obtain ⟨j, S3, e3, g3, j0, j1⟩ := s_sip (n + 7) S2 rest _ 6 g2 (by omega) (by decide) (by decide)
  have hy : Sts ys := p2
  have hl : ys.length ≤ 3 := by omega
  have hg1 : isSt (.tup [.str tGo, .int 1]) := .inl ⟨_, rfl⟩
  have ok : Okb [.tup [.str tM, .tup ys]] [doD tM, repD (1 + j) ys, .tup [.str tGo, .int 1], doD tM] (ys ++ ((List.replicate (1 + j).toNat ys).flatten ++ ([D.tup [.str tGo, .int 1]] ++ (ys ++ [])))) := by
    refine ⟨[(.str tM, .lst ys)], [(.str tM, .tup ys)], .cons (bm_flat hy) (by omega) (by decide) (.nil _), ⟨_, rfl, rfl⟩, ?_, ?_, ?_, ?_, ?_⟩
    · exact .cons (.inr (.inl ⟨tM, rfl, rfl, hy⟩)) (.cons (.inr (.inr ⟨1 + j, ys, ys, rfl, bm_flat hy, rfl, by omega, by omega, by omega, hy⟩)) (.cons (.inl ⟨hg1, rfl⟩) (.cons (.inr (.inl ⟨tM, rfl, rfl, hy⟩)) .nil)))
    · exact .cons (.inr (.inl ⟨tM, ys, rfl, rfl, lbm_flat hy, hy⟩)) (.cons (.inr (.inr ⟨1 + j, ys, ys, rfl, lbm_flat hy, rfl, by omega, by omega, by omega, hy⟩)) (.cons (.inl ⟨hg1, rfl⟩) (.cons (.inr (.inl ⟨tM, ys, rfl, rfl, lbm_flat hy, hy⟩)) .nil)))
    · simp [plL_cons, pl_tup, pl_str, plL_nil, sts_pl hy]
    · simp [plL_cons, pl_tup, pl_str, pl_int, plL_nil, sts_pl hy]
    · have := flat_len (1 + j).toNat ys
      simp only [List.length_append, List.length_singleton, List.length_nil, this]
      have : (1 + j).toNat * ys.length ≤ 6 * 3 := Nat.mul_le_mul (by omega) hl
      omega
  have hlen : (ys ++ ((List.replicate (1 + j).toNat ys).flatten ++ ([D.tup [.str tGo, .int 1]] ++ (ys ++ [])))).length ≤ 50 := by
    have := flat_len (1 + j).toNat ys
    simp only [List.length_append, List.length_singleton, List.length_nil, this]
    have : (1 + j).toNat * ys.length ≤ 6 * 3 := Nat.mul_le_mul (by omega) hl
    omega
  have e4 := okb_steps (n + 1) ok S3
  have hss := okb_sts ok
  generalize (ys ++ ((List.replicate (1 + j).toNat ys).flatten ++ ([D.tup [.str tGo, .int 1]] ++ (ys ++ [])))) = ss at *
  have hp : D.pl (.tup [.tup [.tup [.tup [.str tM, .tup ys]], .tup [doD tM, repD (1 + j) ys, .tup [.str tGo, .int 1], doD tM]], .tup ss]) = true := by
    simp [pl_tup, plL_cons, plL_nil, pl_str, pl_int, sts_pl hy, sts_pl hss]
  have f := fin_gs h g3 hp
  refine ⟨_, ss, S3, call_run (F := F28) rfl rfl ?_, gs_mono g3 (by omega), okb_pl ok, hlen⟩
  have sm : small62 (1 + q) = true := small62_of (by omega) (by omega)
  have l3 : ys.length ≤ 10000000 := by omega
  simp [F28, b28, e_var, e_cst, e_tup, e_lst, e_bin, e_neg, e_cmp, e_is, e_chain, e_and, e_or, e_not, e_ife, e_idx, e_slc, e_rev, e_cat, e_dg1, e_dg2, e_tg1, e_tg2, e_tix, e_dcp, dgD, tgD, txD, dcpD, cpDct, revD, e_call, e_bi, e_isi, e_mth, e_fld, e_isx, e_lc, e_dct, xs_nil, xs_cons, xo_none, xo_some, ec_nil, ec_cons, s_asg, s_par, s_par3, s_setIx, s_aug, s_expr, s_ret, s_retN, s_ife, s_for, s_whl, s_pass, s_brk, s_cont, s_rais, s_try, ss_nil, ss_cons, e_T, i_seq, i_rng1, i_rng2, i_enum, of_some, bd_ok, bd_err, fo_ok, fo_err, sq_nx, sq_rt, sq_bk, sq_ct, sq_err, lp_nx, lp_ct, lp_bk, lp_rt, lp_err, tr_ok, tr_err, br_t, br_f, sbr_t, sbr_f, en_some, so_some, ag_some, go_t, tn_some, tu_ap, fr_st, fr_lv, fr_lvE, end_rt, end_nx, end_err, negD, optI, rg1, rg2, tupD, ix0, ix1, ix2, ix3, ix4, ix5, ix6, ix7, ix8, ix9, ix10, ix11, ix12, ix13, ix14, ix15, ixm1, ixm2, isiV, idxD, seqD, opB, opA, opC, truD, setT, setTs, eqD, full, frz, D.sub, D.subL, D.eqv, D.eqvL, D.depth, D.depthL, biD, permD, opI, dctD, isKey, newL, catD, SZ, isiD, tyOk, lstD, setD, mtD, okM, srcD, mkL, slcD, mkDct, putKD, getK, kEq, ofB_some, fin_pl, finX_pl, pl_non, pl_bl, pl_int, pl_str, pl_tup, pl_lst, pl_ro, plL_nil, plL_cons, fin_k, lg_lt, lg_lt2, mulOk_lit, e1, sm, e2, l3, e3, e4]
  exact f
end K44
set_option Elab.async false
set_option linter.all false
set_option maxRecDepth 100000
set_option maxHeartbeats 4000000
namespace K44
open DI
abbrev g1 : D := .tup [.str tGo, .int 1]
abbrev l01 : D := .tup [.str tLeft, .tup [.int 0, .int 1]]
abbrev l21 : D := .tup [.str tLeft, .tup [.int 2, .int 1]]
theorem g1_st : isSt g1 := .inl ⟨_, rfl⟩
theorem l01_st : isSt l01 := .inr (.inr (.inl ⟨_, _, rfl, okV_of (by decide) (by decide) (by decide)⟩))
theorem l21_st : isSt l21 := .inr (.inr (.inl ⟨_, _, rfl, okV_of (by decide) (by decide) (by decide)⟩))
theorem sts2 {a b : D} (h : isSt a) (k : isSt b) : Sts [a, b] := fun d hd => by
  simp only [List.mem_cons, List.not_mem_nil, or_false] at hd
  rcases hd with rfl | rfl
  · exact h
  · exact k
abbrev sqD : D := .tup [.tup [], .tup [repD 4 [g1, l01]]]
abbrev sq8 : List D := [g1, l01, g1, l01, g1, l01, g1, l01]
theorem pl_rep (j : Int) (b : List D) (hb : Sts b) (h0 : 0 ≤ j) (h1 : j ≤ 1000) (hl : b.length ≤ 100) : Pl (.tup [.tup [], .tup [repD j b]]) (List.replicate j.toNat b).flatten := by
  have := flat_len j.toNat b
  refine ⟨[], [repD j b], [], rfl, .nil _, bm_one (.inr (.inr ⟨j, b, b, rfl, bm_flat hb, rfl, by omega, h0, h1, hb⟩)), ?_⟩
  rw [this]
  have : j.toNat * b.length ≤ 1000 * 100 := Nat.mul_le_mul (by omega) hl
  omega
theorem pl_sq : Pl sqD sq8 := pl_rep 4 [g1, l01] (sts2 g1_st l01_st) (by decide) (by decide) (by decide)
abbrev grD : D := .tup [.tup [], .tup [g1, l21]]
theorem pl_gr : Pl grD [g1, l21] := pl_flat (sts2 g1_st l21_st) (by decide)
abbrev fvD : D := .tup [.tup [], .tup [repD 5 [g1]]]
theorem pl_fv : Pl fvD [g1, g1, g1, g1, g1] := pl_rep 5 [g1] (sts_one g1_st) (by decide) (by decide) (by decide)
abbrev du1 : D := .tup [.tup [.tup [], .tup [l01, g1]], .tup [.tup [], .tup [.tup [.str tSkip, .int 1], l21, l01]], .tup [.int 0, .int 2, .int 4, .int 6], .tup [.tup [.tup [.str tP0, .tup [g1, l01]]], .tup [dP0, dP0, dP0, dP0]]]
abbrev du2 : D := .tup [.tup [.int 0, .int 1, .int 2, .int 3], .tup [dP0, dP0, g1]]
theorem head_run (n : Nat) (st : Sto) : callD fds anc (n + 9) 5 [sqD, .int 1, .int 3] st = .ok (.tup [.tup [], .tup [l01, g1]]) st ∧ callD fds anc (n + 9) 8 [grD, .tup [.int 0, .int 1]] st = .ok (.tup [.tup [], .tup [.tup [.str tSkip, .int 1], l21, l01]]) st ∧
    callD fds anc (n + 9) 2 [sqD, .tup [.tup [], .tup [g1, l01]]] st = .ok (.tup [.int 0, .int 2, .int 4, .int 6]) st ∧ callD fds anc (n + 9) 3 [sqD, .int 0, .int 2] st = .ok (.tup [.tup [.tup [.str tP0, .tup [g1, l01]]], .tup [dP0, dP0, dP0, dP0]]) st ∧
    callD fds anc (n + 9) 11 [du1, du1] st = .ok (.bl true) st ∧
    callD fds anc (n + 9) 5 [fvD, .int 0, .int 2] st = .ok (.tup [.tup [], .tup [g1, g1]]) st ∧ callD fds anc (n + 9) 2 [fvD, .tup [.tup [], .tup [g1, g1]]] st = .ok (.tup [.int 0, .int 1, .int 2, .int 3]) st ∧
    callD fds anc (n + 9) 3 [fvD, .int 1, .int 3] st = .ok (.tup [.tup [.tup [.str tP0, .tup [g1, g1]]], .tup [dP0, dP0, g1]]) st ∧ callD fds anc (n + 9) 11 [du2, du2] st = .ok (.bl true) st := by
  refine ⟨?_, ?_, ?_, ?_, ?_, ?_, ?_, ?_, ?_⟩
  · exact (s_cut (n + 4) st pl_sq 1 3).trans rfl
  · exact (s_swap (n + 4) st pl_gr 0 1).trans rfl
  · exact (s_occ (n + 4) st pl_sq (pl_flat (sts2 g1_st l01_st) (by decide))).trans rfl
  · exact (s_made (n + 4) st pl_sq 0 2 (w := [g1, l01]) rfl (by simp)).trans rfl
  · exact s_same (n + 8) du1 st rfl (by decide)
  · exact (s_cut (n + 4) st pl_fv 0 2).trans rfl
  · exact (s_occ (n + 4) st pl_fv (pl_flat (sts2 g1_st g1_st) (by decide))).trans rfl
  · exact (s_made (n + 4) st pl_fv 1 3 (w := [g1, g1]) rfl (by simp)).trans rfl
  · exact s_same (n + 8) du2 st rfl (by decide)
theorem law_lap (n : Nat) (X m2 m3 m4 m5 m6 z7 z8 : Option D) (rest S : Sto) (k : Int) (h : Gs k rest S) (hk : k ≤ 400000) {p : D} {ss : List D} (hp : Pl p ss) (hl : ss.length ≤ 1000) :
    ∃ (k' : Int) (S' : Sto), RS.tu (cal (n + 10)) (.tp [.nm 7, .nm 8]) l29_0 (.tup [p, .tup ss]) [X, some (.loc 1), m2, m3, m4, m5, m6, z7, z8] S = .ok .nx [X, some (.loc 1), m2, m3, m4, m5, m6, some p, some (.tup ss)] S' ∧ Gs k' rest S' ∧ k' ≤ k + 112 := by
  obtain ⟨k1, S1, e1, g1, q1⟩ := s_cuts n S rest k h (by omega) hp hl
  by_cases h0 : 0 < ss.length
  · obtain ⟨k2, S2, e2, g2, q2⟩ := s_parts n S1 rest k1 g1 (by omega) hp hl h0
    refine ⟨k2, S2, ?_, g2, by omega⟩
    simp [l29_0, e_var, e_cst, e_tup, e_lst, e_bin, e_neg, e_cmp, e_is, e_chain, e_and, e_or, e_not, e_ife, e_idx, e_slc, e_rev, e_cat, e_dg1, e_dg2, e_tg1, e_tg2, e_tix, e_dcp, dgD, tgD, txD, dcpD, cpDct, revD, e_call, e_bi, e_isi, e_mth, e_fld, e_isx, e_lc, e_dct, xs_nil, xs_cons, xo_none, xo_some, ec_nil, ec_cons, s_asg, s_par, s_par3, s_setIx, s_aug, s_expr, s_ret, s_retN, s_ife, s_for, s_whl, s_pass, s_brk, s_cont, s_rais, s_try, ss_nil, ss_cons, e_T, i_seq, i_rng1, i_rng2, i_enum, of_some, bd_ok, bd_err, fo_ok, fo_err, sq_nx, sq_rt, sq_bk, sq_ct, sq_err, lp_nx, lp_ct, lp_bk, lp_rt, lp_err, tr_ok, tr_err, br_t, br_f, sbr_t, sbr_f, en_some, so_some, ag_some, go_t, tn_some, tu_ap, fr_st, fr_lv, fr_lvE, end_rt, end_nx, end_err, negD, optI, rg1, rg2, tupD, ix0, ix1, ix2, ix3, ix4, ix5, ix6, ix7, ix8, ix9, ix10, ix11, ix12, ix13, ix14, ix15, ixm1, ixm2, isiV, idxD, seqD, opB, opA, opC, truD, setT, setTs, eqD, full, frz, D.sub, D.subL, D.eqv, D.eqvL, D.depth, D.depthL, biD, permD, opI, dctD, isKey, newL, catD, SZ, isiD, tyOk, lstD, setD, mtD, okM, srcD, mkL, slcD, mkDct, putKD, getK, kEq, ofB_some, fin_pl, finX_pl, pl_non, pl_bl, pl_int, pl_str, pl_tup, pl_lst, pl_ro, plL_nil, plL_cons, fin_k, lg_lt, lg_lt2, mulOk_lit, setTs, e1, e2, h0]
  · refine ⟨k1, S1, ?_, g1, by omega⟩
    simp [l29_0, e_var, e_cst, e_tup, e_lst, e_bin, e_neg, e_cmp, e_is, e_chain, e_and, e_or, e_not, e_ife, e_idx, e_slc, e_rev, e_cat, e_dg1, e_dg2, e_tg1, e_tg2, e_tix, e_dcp, dgD, tgD, txD, dcpD, cpDct, revD, e_call, e_bi, e_isi, e_mth, e_fld, e_isx, e_lc, e_dct, xs_nil, xs_cons, xo_none, xo_some, ec_nil, ec_cons, s_asg, s_par, s_par3, s_setIx, s_aug, s_expr, s_ret, s_retN, s_ife, s_for, s_whl, s_pass, s_brk, s_cont, s_rais, s_try, ss_nil, ss_cons, e_T, i_seq, i_rng1, i_rng2, i_enum, of_some, bd_ok, bd_err, fo_ok, fo_err, sq_nx, sq_rt, sq_bk, sq_ct, sq_err, lp_nx, lp_ct, lp_bk, lp_rt, lp_err, tr_ok, tr_err, br_t, br_f, sbr_t, sbr_f, en_some, so_some, ag_some, go_t, tn_some, tu_ap, fr_st, fr_lv, fr_lvE, end_rt, end_nx, end_err, negD, optI, rg1, rg2, tupD, ix0, ix1, ix2, ix3, ix4, ix5, ix6, ix7, ix8, ix9, ix10, ix11, ix12, ix13, ix14, ix15, ixm1, ixm2, isiV, idxD, seqD, opB, opA, opC, truD, setT, setTs, eqD, full, frz, D.sub, D.subL, D.eqv, D.eqvL, D.depth, D.depthL, biD, permD, opI, dctD, isKey, newL, catD, SZ, isiD, tyOk, lstD, setD, mtD, okM, srcD, mkL, slcD, mkDct, putKD, getK, kEq, ofB_some, fin_pl, finX_pl, pl_non, pl_bl, pl_int, pl_str, pl_tup, pl_lst, pl_ro, plL_nil, plL_cons, fin_k, lg_lt, lg_lt2, mulOk_lit, setTs, e1, h0]
abbrev eL (ns : List Int) (z7 z8 : Option D) : Env := [some (.ro (ns.map .int)), some (.loc 1), some sqD, some grD, some du1, some (.tup [.tup [.tup [], .tup [l01, g1]], .tup [.tup [], .tup [.tup [.str tSkip, .int 1], l21, l01]], .tup [.int 0, .int 2, .int 4, .int 6]]), some fvD, z7, z8]
theorem plain0 (n : Nat) (ns : List Int) (hn : ns.length ≤ 63) : ∃ st, callD fds anc (n + 11) 29 [.ro (ns.map .int)] [] = .ok (.bl true) st := by
  obtain ⟨S0, e0, g0⟩ := s_mug (n + 9) ns hn
  obtain ⟨r1, r2, r3, r4, r5, r6, r7, r8, r9⟩ := head_run (n + 1) S0
  obtain ⟨f, S1, e1, h1, f0, f1⟩ := s_sip (n + 9) S0 [] 0 6 g0 (by decide) (by decide) (by decide)
  obtain ⟨p1, s1, k2, S2, e2, h2, q2, o1, l1, _⟩ := s_plan (n + 1) S1 [] _ f h1 (by decide)
  obtain ⟨p2, s2, S3, e3, h3, o2, l2⟩ := s_again (n + 1) S2 [] k2 h2 (by omega)
  obtain ⟨k4, S4, e4, h4, q4⟩ := law_lap n (some (.ro (ns.map .int))) (some sqD) (some grD) (some du1) (some (.tup [.tup [.tup [], .tup [l01, g1]], .tup [.tup [], .tup [.tup [.str tSkip, .int 1], l21, l01]], .tup [.int 0, .int 2, .int 4, .int 6]])) (some fvD) none none [] S3 _ h3 (by omega) o1 (by omega)
  obtain ⟨k5, S5, e5, h5, q5⟩ := law_lap n (some (.ro (ns.map .int))) (some sqD) (some grD) (some du1) (some (.tup [.tup [.tup [], .tup [l01, g1]], .tup [.tup [], .tup [.tup [.str tSkip, .int 1], l21, l01]], .tup [.int 0, .int 2, .int 4, .int 6]])) (some fvD) (some p1) (some (.tup s1)) [] S4 k4 h4 (by omega) o2 (by omega)
  obtain ⟨k6, S6, e6, h6, q6⟩ := law_lap n (some (.ro (ns.map .int))) (some sqD) (some grD) (some du1) (some (.tup [.tup [.tup [], .tup [l01, g1]], .tup [.tup [], .tup [.tup [.str tSkip, .int 1], l21, l01]], .tup [.int 0, .int 2, .int 4, .int 6]])) (some fvD) (some p2) (some (.tup s2)) [] S5 k5 h5 (by omega) (pl_flat sts_nil (by decide)) (by decide)
  have fe : forS (RS.tu (cal (n + 10)) (.tp [.nm 7, .nm 8]) l29_0) [.tup [p1, .tup s1], .tup [p2, .tup s2], .tup [.tup [.tup [], .tup []], .tup []]] (eL ns none none) S3 = .ok .nx (eL ns (some (.tup [.tup [], .tup []])) (some (.tup []))) S6 := by
    rw [fs_cons, e4, lp_nx, fs_cons, e5, lp_nx, fs_cons, e6, lp_nx, fs_nil]
  have hfin : finD false [] (.bl true) S6 = .ok (.bl true) [] := by
    refine (fin_to (frzX_pl rfl _ _ _) ?_).trans (by simp)
    rfl
  refine ⟨[], call_run (F := F29) rfl rfl ?_⟩
  simp [F29, b29, e_var, e_cst, e_tup, e_lst, e_bin, e_neg, e_cmp, e_is, e_chain, e_and, e_or, e_not, e_ife, e_idx, e_slc, e_rev, e_cat, e_dg1, e_dg2, e_tg1, e_tg2, e_tix, e_dcp, dgD, tgD, txD, dcpD, cpDct, revD, e_call, e_bi, e_isi, e_mth, e_fld, e_isx, e_lc, e_dct, xs_nil, xs_cons, xo_none, xo_some, ec_nil, ec_cons, s_asg, s_par, s_par3, s_setIx, s_aug, s_expr, s_ret, s_retN, s_ife, s_for, s_whl, s_pass, s_brk, s_cont, s_rais, s_try, ss_nil, ss_cons, e_T, i_seq, i_rng1, i_rng2, i_enum, of_some, bd_ok, bd_err, fo_ok, fo_err, sq_nx, sq_rt, sq_bk, sq_ct, sq_err, lp_nx, lp_ct, lp_bk, lp_rt, lp_err, tr_ok, tr_err, br_t, br_f, sbr_t, sbr_f, en_some, so_some, ag_some, go_t, tn_some, tu_ap, fr_st, fr_lv, fr_lvE, end_rt, end_nx, end_err, negD, optI, rg1, rg2, tupD, ix0, ix1, ix2, ix3, ix4, ix5, ix6, ix7, ix8, ix9, ix10, ix11, ix12, ix13, ix14, ix15, ixm1, ixm2, isiV, idxD, seqD, opB, opA, opC, truD, setT, setTs, eqD, full, frz, D.sub, D.subL, D.eqv, D.eqvL, D.depth, D.depthL, biD, permD, opI, dctD, isKey, newL, catD, SZ, isiD, tyOk, lstD, setD, mtD, okM, srcD, mkL, slcD, mkDct, putKD, getK, kEq, ofB_some, fin_pl, finX_pl, pl_non, pl_bl, pl_int, pl_str, pl_tup, pl_lst, pl_ro, plL_nil, plL_cons, fin_k, lg_lt, lg_lt2, mulOk_lit, setTs, e0, r1, r2, r3, r4, r5, r6, r7, r8, r9, e1, e2, e3, fe]
  exact hfin
theorem plain (ns : List Int) (hn : ns.length ≤ 63) : ∃ st, callD fds anc 40 29 [.ro (ns.map .int)] [] = .ok (.bl true) st := plain0 29 ns hn
end K44
set_option Elab.async false
set_option linter.all false
set_option maxRecDepth 100000
set_option maxHeartbeats 0
namespace K44
open PySem PySem.Spec PyProof.Rows L2 DI
abbrev R : PySem.W.OpenRow := PySem.W.OpenLaw.row PySem.Challenge.rw_turnpens_k44_plans_cut
abbrev hk : PySem.W.Hook := hookK 5 fb (defsB tab Lw0) (tsOf2 Lw0)
def ob (s : PySem.W.SharedT) : AlK := obsKG 5 fb (defsB tab Lw0) (tsOf2 Lw0) (HandSHeadRun.getT s)
theorem ob_eq (s : PySem.W.SharedT) : ob s = hk.obs s.abs := obsKG_eq (HandSHeadRun.getT_eq s)
def loose : List Str := [("block_steps" : Str), ("steps_of" : Str), ("occurrences" : Str), ("made_plan" : Str), ("common_begin" : Str), ("SWAPPED" : Str), ("cut_plan" : Str), ("spliced_plan" : Str), ("turned_plan" : Str), ("swapped_steps" : Str), ("_law_mug" : Str), ("_law_sip" : Str), ("_law_same" : Str), ("_law_product" : Str), ("_law_least" : Str), ("_law_back" : Str), ("_law_earlier" : Str), ("_law_turned" : Str), ("_law_steps" : Str), ("_law_turn_of" : Str), ("_law_vector" : Str), ("_law_drawn" : Str), ("_law_undone" : Str), ("_law_plan" : Str), ("_law_flat" : Str), ("_law_found" : Str), ("_law_made" : Str), ("_law_cuts" : Str), ("_law_parts" : Str), ("_law_again" : Str)]
/-- the one habit on which a dict's making hangs, told apart -/
def wld (d : Source → Nat → Nat) (p : Params) (f : String → Bool) (b : Bool) : World := ⟨d, { p with followText := fun s => if s = "special-get-raises" then b else f s }⟩
theorem wld_eq (w : World) : w = wld w.draws w.params w.params.followText (w.params.followText "special-get-raises") := by
  have e : (fun s => if s = "special-get-raises" then w.params.followText "special-get-raises" else w.params.followText s) = w.params.followText := by
    funext s
    split
    · rename_i h; rw [h]
    · rfl
  unfold wld
  rw [e]
theorem run_t (d : Source → Nat → Nat) (p : Params) (f : String → Bool) : HandSHeadRun.RunEq R (PySem.W.view R.prog [34]) hk ob 4000 loose (wld d p f true) := by
  intro os
  kernel_rfl
theorem run_f (d : Source → Nat → Nat) (p : Params) (f : String → Bool) : HandSHeadRun.RunEq R (PySem.W.view R.prog [34]) hk ob 4000 loose (wld d p f false) := by
  intro os
  kernel_rfl
theorem run (w : World) : HandSHeadRun.RunEq R (PySem.W.view R.prog [34]) hk ob 4000 loose w := by
  rw [wld_eq w]
  cases w.params.followText "special-get-raises"
  · exact run_f _ _ _
  · exact run_t _ _ _
end K44
set_option Elab.async false
set_option linter.all false
set_option maxRecDepth 100000
set_option maxHeartbeats 0
namespace K44
open PySem PySem.Spec PyProof.Rows L2 DI
theorem facts {P : Program} {w : World} {K : PySem.W.Frag} {h : Heap} {mg : Str → Option Value} {f : Addr} {lix : Nat} {le : Ent} (hlix : tab[lix]? = some le) (hnm : le.nm = "law") (hnp : le.ps = [("script" : Str)]) (hnp1 : le.F.np = 1) (X : K.In h) (G : h.Ns mainGlobals mg) (hfa : mg ("law" : Str) = some (.ref f)) (c : obsB fb (defsB tab Lw0) K = He.valD (defsB tab Lw0)) (ct : dicsW (tsOf2 Lw0) K = keysW (tsOf2 Lw0) w)
    (plain : ∀ ns : List Int, ns.length ≤ 63 → ∃ st', callD (tab.map Ent.F) (ancB ancT) 40 lix [.ro (ns.map .int)] [] = .ok (.bl true) st') :
    ∃ fd : FuncData, (∀ (s : Shared) (v : Value), BindsTo s fd ⟨[v], []⟩ [("script", v)]) ∧ ∀ base : Heap, K.In base → base.Ns mainGlobals mg → FnOk P w K mg base CX0 42 f fd ["script"] (spLaw K 63) := by
  obtain ⟨hF, hB, hG, hC, hX, hH, hI, hE, hV, hT⟩ := facts_B (L := Lw0) (t := ancT) X G c (fun z => by unfold fb at z; rw [Bool.and_eq_true] at z; exact z.1) okL
  obtain ⟨f', fd, hm, F⟩ := hF le (List.mem_of_getElem? hlix)
  rw [hnm] at hm
  have ef : f = f' := by
    have := hfa.symm.trans hm
    cases this
    rfl
  subst ef
  have hA := List.all_eq_true.mp okA le (List.mem_of_getElem? hlix)
  refine ⟨fd, fun s v => ?_, fun base _ _ => ?_⟩
  · have := (ent_binds hA F).2 s [v] (by rw [hnp]; rfl)
    rw [hnp] at this
    exact this
  · have k := fns_ok (P := P) (w := w) (base := base) (T := tbA Lw0 K) (L := Lw0) (anc := ancB ancT) rfl rfl hF okA okS hB (cst_ok X G c) hG (hC P w base) (fun i f z => by show fnA Lw0 i = f; unfold fnA; rw [z]) hI hX hH rfl hE hV (hT (by decide +kernel)) (dct_ok X G c ct) 40 lix le hlix f fd (by rw [hnm]; exact hfa) F
    rw [hnp, hnp1] at k
    exact cx0_of (m := 63) k fun vs H Q E q => law_sp (T := tbA Lw0 K) rfl plain vs H Q E q
end K44
open PySem PySem.W PySem.Calls PyProof.Rows
theorem PySem.Challenge.cw_turnpens_k44_plans_cut_holds : PySem.Challenge.rw_turnpens_k44_plans_cut.Holds := by
  w_on; o_law
  refine HandSHeadRun.head_any (r := OpenLaw.row PySem.Challenge.rw_turnpens_k44_plans_cut) (q := view (OpenLaw.row PySem.Challenge.rw_turnpens_k44_plans_cut).prog [34]) (H := K44.hk) (ob := K44.ob) (M := 4000) (loose := K44.loose) (d := HandSHeadRun.topDef (OpenLaw.row PySem.Challenge.rw_turnpens_k44_plans_cut).prog 34) (kwd := []) K44.ob_eq
    (by kernel_rfl) (fun s => by kernel_rfl) K44.run (by kernel_rfl) (by kernel_rfl) (by kernel_rfl) (by rfl) (by first | assumption | decide +kernel) (by decide +kernel) ⟨rfl, rfl, rfl, rfl, rfl, by decide +kernel⟩ ?hw ?hc
  case hw => w_witness2
  case hc =>
    refine L2.walk_ofE (l := PySem.Challenge.rw_turnpens_k44_plans_cut) (n := 63) (k := 42) (x := "script") (CX := L2.CX0) rfl (by decide) (by kernel_rfl) ⟨rfl, by decide, by decide⟩ ?F (fun _ _ _ _ z => z)
    intro w mg fa h Y G hmg0
    obtain ⟨K, KX, c0⟩ := Y
    obtain ⟨c, ct⟩ := DI.says_K c0
    have hmg : mg ("law" : PySem.Str) = some (.ref fa) := by
      have e : (HandSHeadRun.topDef (OpenLaw.row PySem.Challenge.rw_turnpens_k44_plans_cut).prog 34).name = ("law" : PySem.Str) := by kernel_rfl
      rw [← e]
      exact hmg0
    obtain ⟨fd, hb, hF⟩ := K44.facts (P := (PySem.Challenge.rw_turnpens_k44_plans_cut).prog) (w := w) (lix := 29) (le := K44.e29) rfl rfl (by decide +kernel) rfl KX G hmg c ct K44.plain
    exact ⟨K, fd, DI.spLaw K 63, KX, hb, fun H a ns hl _ hS => ⟨a, ns, rfl, hl, hS, fun _ => rfl⟩, hF⟩
