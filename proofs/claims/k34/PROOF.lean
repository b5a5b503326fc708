import PyProof.Rows.All
import Wide.All
import OpenK.AllK
import Wide.FinOn
import HandS.ForMost
import HandS.Exc
import HandS.ExcOwn
import HandS.TupAny
import HandS.Wide
import HandS.WideBits
import HandS.Deep
import HandS.Flow
import HandS.Gcd
import HandS.IsInst
import HandS.Conv
import HandS.SortInts
import HandS.ExcInit
import HandS.CallSlots
import HandS.TryOnly
import HandS.TryMany
import HandS.WordsExc
import HandS.Defaults
import HandS.Style
import HandS.More
import HandS.Zip
import HandS.Iter
import HandS.Head0
import HandS.Head1
import HandS.Head2
import HandS.HeadEnd
import HandS.HeadHook1
import HandS.HeadHook2
import HandS.Head3
import PySem.Challenge.RW_turnpens_k34_rests
set_option Elab.async false
set_option linter.all false
set_option maxRecDepth 100000
namespace DI
abbrev Tx := List Nat
/-- data: immutable things by what they are, mutable ones by a number -/
inductive D where
  | non | bl (b : Bool) | int (i : Int) | str (s : Tx)
  | tup (xs : List D) | lst (xs : List D) | ro (xs : List D) | loc (n : Nat)
  | exc (c : Nat) (fs : List (Nat × D))
instance : Inhabited D := ⟨.non⟩
inductive Ob where
  | lst (xs : List D)
  | dct (kvs : List (D × D))
abbrev Sto := List Ob
abbrev Env := List (Option D)
inductive R (α : Type) where
  | ok (a : α) (st : Sto)
  | err (c : Nat) (fs : List (Nat × D)) (st : Sto)
  | bad
def R.bind {α β : Type} : R α → (α → Sto → R β) → R β
  | .ok a st, f => f a st
  | .err c fs st, _ => .err c fs st
  | .bad, _ => .bad
/-- nothing is raised -/
def R.noE {α : Type} : R α → R α
  | .err _ _ _ => .bad
  | r => r
/-- from a value that is there or not -/
def R.of {α : Type} (o : Option α) (st : Sto) : R α := match o with
  | some a => .ok a st
  | none => .bad
inductive BO where | add | sub | mul | fdiv | mod | pow | shl
inductive CO where | eq | ne | lt | le | gt | ge | mem | nmem
inductive IO where | isN | isnN | isB (b : Bool) | isnB (b : Bool)
inductive Ty where | int | bool | str | tuple | list | dict | cls (k : Nat) | ve
inductive Bi where | len | abs | int | str | max2 | min2 | maxL | minL | sum | gcd | tuple | list | listM | sorted | bool
inductive Mt where | append | pop | popAt | insert | extend | index | bitlen | reverse
inductive Tg where | nm (i : Nat) | tp (ts : List Tg)
mutual
inductive Ex where
  | var (i : Nat) | cst (d : D)
  | tup (es : List Ex) | lst (mu : Bool) (es : List Ex)
  | bin (op : BO) (a b : Ex) | neg (a : Ex)
  | cmp (op : CO) (a b : Ex) | is_ (op : IO) (a : Ex) | chain (op op' : CO) (a b c : Ex)
  | and (a b : Ex) | or (a b : Ex) | not (a : Ex) | ife (c a b : Ex)
  | idx (a b : Ex) | slc (mu : Bool) (a : Ex) (lo hi : Option Ex)
  | call (k : Nat) (es : List Ex) (pm : List Nat)
  | bi (f : Bi) (es : List Ex)
  | isi (a : Ex) (ts : List Ty)
  | mth (m : Mt) (o : Ex) (es : List Ex)
  | lc (mu : Bool) (t : Tg) (it : Ir) (cs : List Ex) (e : Ex) (own : List Nat)
  | fld (a : Ex) (f : Nat)
inductive Ir where
  | seq (e : Ex) | rng1 (a : Ex) | rng2 (a b : Ex) | rng3 (a b c : Ex) | enum (e : Ex) | zip (a b : Ex)
end
inductive Cm where
  | asg (t : Tg) (e : Ex) | par (i j : Nat) (a b : Ex) | setIx (o i e : Ex) | aug (i : Nat) (op : BO) (e : Ex)
  | expr (e : Ex) | ret (e : Ex) | retN | ife (c : Ex) (a b : List Cm) | whl (c : Ex) (b : List Cm) | for_ (t : Tg) (it : Ir) (b : List Cm)
  | pass | brk | cont | rais (c : Nat) (fl : List Nat) (es : List Ex)
  | try_ (b : List Cm) (hs : List (Nat × Option Nat × List Cm))
  | par3 (i j l : Nat) (a b c : Ex) | bad
/-! ### ground operations -/
def SZ : Nat := 10000000
mutual
def D.depth : D → Nat
  | .tup xs => D.depthL xs + 1
  | .lst xs => D.depthL xs + 1
  | .ro xs => D.depthL xs + 1
  | _ => 1
def D.depthL : List D → Nat
  | [] => 0
  | x :: r => max (D.depth x) (D.depthL r)
end
mutual
/-- == of Python, of things without numbers of mutable ones -/
def D.eqv : D → D → Bool
  | .non, .non => true
  | .bl a, .bl b => a == b
  | .bl a, .int j => (if a then 1 else 0) == j
  | .int i, .bl b => i == (if b then 1 else 0)
  | .int i, .int j => i == j
  | .str x, .str y => x == y
  | .lst xs, .lst ys => D.eqvL xs ys
  | .tup xs, .tup ys => D.eqvL xs ys
  | _, _ => false
def D.eqvL : List D → List D → Bool
  | [], [] => true
  | x :: xs, y :: ys => D.eqv x y && D.eqvL xs ys
  | _, _ => false
end
mutual
/-- every number of a mutable thing in it told by g -/
def D.sub (g : Nat → Option D) : D → Option D
  | .tup xs => (D.subL g xs).map .tup
  | .lst xs => (D.subL g xs).map .lst
  | .ro xs => (D.subL g xs).map .lst
  | .loc i => g i
  | .exc _ _ => none
  | .non => some .non
  | .bl b => some (.bl b)
  | .int i => some (.int i)
  | .str s => some (.str s)
def D.subL (g : Nat → Option D) : List D → Option (List D)
  | [] => some []
  | x :: r => match D.sub g x with
    | none => none
    | some y => match D.subL g r with
      | none => none
      | some ys => some (y :: ys)
end
/-- mutable things from number n on told as what they hold, f levels deep -/
def frz (st : Sto) (n : Nat) : Nat → D → Option D
  | 0, d => d.sub fun i => if i < n then some (.loc i) else none
  | f + 1, d => d.sub fun i => if i < n then some (.loc i) else match st[i]? with
    | some (.lst xs) => frz st n f (.lst xs)
    | _ => none
def full (st : Sto) (d : D) : Option D := frz st 0 5 d
mutual
/-- every number in it is below n -/
def D.lo (n : Nat) : D → Bool
  | .tup xs => D.loL n xs
  | .lst xs => D.loL n xs
  | .ro xs => D.loL n xs
  | .loc i => decide (i < n)
  | .exc _ fs => D.loF n fs
  | .non | .bl _ | .int _ | .str _ => true
def D.loL (n : Nat) : List D → Bool
  | [] => true
  | x :: r => D.lo n x && D.loL n r
def D.loF (n : Nat) : List (Nat × D) → Bool
  | [] => true
  | (_, x) :: r => D.lo n x && D.loF n r
end
def Ob.lo (n : Nat) : Ob → Bool
  | .lst xs => D.loL n xs
  | .dct kvs => kvs.all fun p => p.1.lo n && p.2.lo n
/-- the items of a sequence -/
def seqD (st : Sto) : D → Option (List D)
  | .tup xs => some xs
  | .lst xs => some xs
  | .ro xs => some xs
  | .loc i => match st[i]? with
    | some (.lst xs) => some xs
    | _ => none
  | _ => none
def lstD (st : Sto) : D → Option (List D)
  | .lst xs => some xs
  | .loc i => match st[i]? with
    | some (.lst xs) => some xs
    | _ => none
  | _ => none
def truD (st : Sto) : D → Option Bool
  | .non => some false
  | .bl b => some b
  | .int i => some (i != 0)
  | .str s => some (!s.isEmpty)
  | .tup xs => some (!xs.isEmpty)
  | .lst xs => some (!xs.isEmpty)
  | .ro xs => some (!xs.isEmpty)
  | .loc i => match st[i]? with
    | some (.lst xs) => some (!xs.isEmpty)
    | some (.dct kvs) => some (!kvs.isEmpty)
    | none => none
  | .exc _ _ => none
def mulOk (i j : Int) : Bool := decide (i.natAbs.log2 + j.natAbs.log2 < 1000000)
def opB (op : BO) (x y : D) (st : Sto) : Option D := match op, x, y with
  | .add, .int i, .int j => some (.int (i + j))
  | .sub, .int i, .int j => some (.int (i - j))
  | .mul, .int i, .int j => if mulOk i j then some (.int (i * j)) else none
  | .fdiv, .int i, .int j => if 0 < j ∧ j.natAbs.log2 < 9000 then some (.int (i / j)) else if j < 0 ∧ j.natAbs < 1073741824 then some (.int (i.fdiv j)) else none
  | .mod, .int i, .int j => if 0 < j then some (.int (i % j)) else if j < 0 then some (.int (i.fmod j)) else none
  | .pow, .int i, .int j => if 0 ≤ j ∧ j ≤ 1000000 ∧ i.natAbs < 2 ^ 64 then some (.int (i ^ j.toNat)) else none
  | .shl, .int i, .int j => if 0 ≤ j ∧ j ≤ 1000000 ∧ i.natAbs < 2 ^ 64 then some (.int (i * 2 ^ j.toNat)) else none
  | .add, .str x, .str y => if x.length + y.length ≤ SZ then some (.str (x ++ y)) else none
  | .add, .tup xs, .tup ys => if xs.length + ys.length ≤ SZ then some (.tup (xs ++ ys)) else none
  | .add, x, y => match lstD st x, lstD st y with
    | some xs, some ys => if xs.length + ys.length ≤ SZ then some (.lst (xs ++ ys)) else none
    | _, _ => none
  | _, _, _ => none
/-- in place: numbers and texts alone -/
def opA (op : BO) (x y : D) : Option D := match op, x, y with
  | .add, .int i, .int j => some (.int (i + j))
  | .sub, .int i, .int j => some (.int (i - j))
  | .add, .str x, .str y => if x.length + y.length ≤ SZ then some (.str (x ++ y)) else none
  | _, _, _ => none
def eqD (st : Sto) (x y : D) : Option Bool := match full st x, full st y with
  | some a, some b => if min a.depth b.depth ≤ 60 then some (D.eqv a b) else none
  | _, _ => none
def memD (st : Sto) (x y : D) : Option Bool := match full st x, full st y with
  | some a, some (.tup ys) => if a.depth ≤ 60 ∧ D.depthL ys ≤ 60 then some (ys.any fun z => D.eqv z a) else none
  | some a, some (.lst ys) => if a.depth ≤ 60 ∧ D.depthL ys ≤ 60 then some (ys.any fun z => D.eqv z a) else none
  | some (.str [c]), some (.str s) => some (decide (c ∈ s))
  | _, _ => none
def opC (op : CO) (x y : D) (st : Sto) : Option Bool := match op with
  | .eq => eqD st x y
  | .ne => (eqD st x y).map (!·)
  | .mem => memD st x y
  | .nmem => (memD st x y).map (!·)
  | .lt => match x, y with
    | .int i, .int j => some (decide (i < j))
    | _, _ => none
  | .le => match x, y with
    | .int i, .int j => some (decide (i ≤ j))
    | _, _ => none
  | .gt => match x, y with
    | .int i, .int j => some (decide (j < i))
    | _, _ => none
  | .ge => match x, y with
    | .int i, .int j => some (decide (j ≤ i))
    | _, _ => none
def opI (op : IO) (x : D) : Option Bool := match op, x with
  | .isN, .non => some true
  | .isN, _ => some false
  | .isnN, .non => some false
  | .isnN, _ => some true
  | .isB b, .bl c => some (c == b)
  | .isnB b, .bl c => some (!(c == b))
  | _, _ => none
/-- the place that an index means -/
def ixD (n : Nat) (i : Int) : Option Nat := if 0 ≤ i then (if i < n then some i.toNat else none) else if -(n : Int) ≤ i then some (i + n).toNat else none
def idxD (x y : D) (st : Sto) : Option D := match y with
  | .int i => match x with
    | .str s => (ixD s.length i).bind fun j => (s[j]?).map fun c => .str [c]
    | _ => (seqD st x).bind fun xs => (ixD xs.length i).bind fun j => xs[j]?
  | _ => none
/-- a slice's bound -/
def sIxD (n d : Nat) : Option Int → Nat
  | none => d
  | some v => if v < 0 then (v + (n : Int)).toNat else min v.toNat n
def cutD {α : Type} (xs : List α) (lo hi : Option Int) : List α := (xs.drop (sIxD xs.length 0 lo)).take (sIxD xs.length xs.length hi - sIxD xs.length 0 lo)
def slcD (x : D) (lo hi : Option Int) (st : Sto) : Option D := match x with
  | .str s => some (.str (cutD s lo hi))
  | .tup xs => some (.tup (cutD xs lo hi))
  | x => (seqD st x).map fun xs => .lst (cutD xs lo hi)
/-- a fresh list: kept as it is, or laid as a mutable thing -/
def newL (mu : Bool) (xs : List D) (st : Sto) : R D := if xs.length ≤ SZ then (if mu then .ok (.loc st.length) (st ++ [.lst xs]) else .ok (.lst xs) st) else .bad
def mkL (mu : Bool) (d : D) (st : Sto) : R D := match mu, d with
  | true, .lst xs => .ok (.loc st.length) (st ++ [.lst xs])
  | _, d => .ok d st
def intsOf : List D → Option (List Int)
  | [] => some []
  | .int i :: r => (intsOf r).map (i :: ·)
  | _ => none
def isiD (anc : Nat → Nat → Bool) (st : Sto) (x : D) (t : Ty) : Bool := match t, x with
  | .int, .int _ => true
  | .int, .bl _ => true
  | .bool, .bl _ => true
  | .str, .str _ => true
  | .tuple, .tup _ => true
  | .list, .lst _ => true
  | .list, .ro _ => true
  | .list, .loc i => match st[i]? with
    | some (.lst _) => true
    | _ => false
  | .dict, .loc i => match st[i]? with
    | some (.dct _) => true
    | _ => false
  | .cls k, .exc c _ => anc c k
  | .ve, .exc _ _ => true
  | _, _ => false
/-- built-in types are asked of anything but errors, own classes of errors alone -/
def tyOk : Ty → D → Bool
  | .cls _, .exc _ _ => true
  | .ve, .exc _ _ => true
  | .cls _, _ => false
  | .ve, _ => false
  | _, .exc _ _ => false
  | _, _ => true
/-- a number as Python writes it -/
def intTx (i : Int) : Tx := (toString i).toList.map Char.toNat
def insSort (x : Int) : List Int → List Int
  | [] => [x]
  | y :: r => if x ≤ y then x :: y :: r else y :: insSort x r
def biD (f : Bi) (vs : List D) (st : Sto) : R D := match f, vs with
  | .len, [.str s] => .ok (.int s.length) st
  | .len, [x] => match x with
    | .loc i => match st[i]? with
      | some (.lst xs) => .ok (.int xs.length) st
      | some (.dct kvs) => .ok (.int kvs.length) st
      | none => .bad
    | x => match seqD st x with
      | some xs => .ok (.int xs.length) st
      | none => .bad
  | .abs, [.int i] => .ok (.int (if i < 0 then -i else i)) st
  | .int, [.int i] => .ok (.int i) st
  | .int, [.bl b] => .ok (.int (if b then 1 else 0)) st
  | .bool, [x] => R.of ((truD st x).map .bl) st
  | .str, [.int i] => if i.natAbs.log2 < 1900 then .ok (.str (intTx i)) st else .bad
  | .max2, [.int i, .int j] => .ok (.int (if j > i then j else i)) st
  | .min2, [.int i, .int j] => .ok (.int (if j < i then j else i)) st
  | .sum, [x] => match lstD st x with
    | some xs => match intsOf xs with
      | some ns => .ok (.int ns.sum) st
      | none => .bad
    | none => .bad
  | .maxL, [x] => match lstD st x with
    | some xs => match intsOf xs with
      | some (n :: ns) => .ok (.int (ns.foldl (fun m y => if m < y then y else m) n)) st
      | _ => .bad
    | none => .bad
  | .minL, [x] => match lstD st x with
    | some xs => match intsOf xs with
      | some (n :: ns) => .ok (.int (ns.foldl (fun m y => if y < m then y else m) n)) st
      | _ => .bad
    | none => .bad
  | .gcd, [.int i, .int j] => .ok (.int (Nat.gcd i.natAbs j.natAbs)) st
  | .tuple, [x] => match seqD st x with
    | some xs => .ok (.tup xs) st
    | none => .bad
  | .list, [x] => match seqD st x with
    | some xs => .ok (.lst xs) st
    | none => .bad
  | .listM, [x] => match seqD st x with
    | some xs => .ok (.loc st.length) (st ++ [.lst xs])
    | none => .bad
  | .sorted, [x] => match lstD st x with
    | some xs => match intsOf xs with
      | some ns => .ok (.lst ((ns.foldr insSort []).map .int)) st
      | none => .bad
    | none => .bad
  | _, _ => .bad
def small62 (i : Int) : Bool := i == 0 || decide (i.natAbs.log2 < 62)
theorem small62_ok {i : Int} (h : small62 i = true) : -(2 ^ 62) ≤ i ∧ i < 2 ^ 62 := by
  unfold small62 at h
  rw [Bool.or_eq_true, beq_iff_eq, decide_eq_true_eq] at h
  rcases h with rfl | h
  · decide
  · have : i.natAbs < 2 ^ 62 := by
      by_cases h0 : i.natAbs = 0
      · rw [h0]; decide
      · exact (Nat.log2_lt h0).mp h
    have e : (2 : Int) ^ 62 = 4611686018427387904 := by decide
    have e2 : (2 : Nat) ^ 62 = 4611686018427387904 := by decide
    rw [e]
    rw [e2] at this
    omega
def mtD (m : Mt) (o : D) (vs : List D) (st : Sto) : R D := match m, o with
  | .index, x => match full st x, vs with
    | some (.lst ys), [y] => match full st y with
      | some a => if a.depth ≤ 60 ∧ D.depthL ys ≤ 60 then (match ys.findIdx? fun z => D.eqv z a with
          | some j => .ok (.int (j : Nat)) st
          | none => .bad) else .bad
      | none => .bad
    | _, _ => .bad
  | .bitlen, .int i => match vs with
    | [] => .ok (.int (if i = 0 then 0 else i.natAbs.log2 + 1)) st
    | _ => .bad
  | m, .loc i => match st[i]? with
    | some (.lst xs) => match m, vs with
      | .append, [y] => if xs.length < SZ then .ok .non (st.set i (.lst (xs ++ [y]))) else .bad
      | .pop, [] => match xs[xs.length - 1]? with
        | some y => .ok y (st.set i (.lst xs.dropLast))
        | none => .bad
      | .popAt, [.int k] => if small62 k then match ixD xs.length k with
        | some j => match xs[j]? with
          | some y => .ok y (st.set i (.lst (xs.eraseIdx j)))
          | none => .bad
        | none => .bad
        else .bad
      | .insert, [.int k, y] => if xs.length < SZ ∧ 0 ≤ k ∧ k < 2 ^ 63 then .ok .non (st.set i (.lst (xs.take k.toNat ++ y :: xs.drop k.toNat))) else .bad
      | .extend, [z] => match lstD st z with
        | some ys => if xs.length + ys.length ≤ SZ then .ok .non (st.set i (.lst (xs ++ ys))) else .bad
        | none => .bad
      | .reverse, [] => .ok .non (st.set i (.lst xs.reverse))
      | _, _ => .bad
    | _ => .bad
  | _, _ => .bad
/-- a method's receiver is of the method's type -/
def okM (m : Mt) (x : D) (st : Sto) : Bool := match m, x with
  | .bitlen, .int _ => true
  | .bitlen, _ => false
  | .index, .lst _ => true
  | .index, .ro _ => true
  | _, .loc i => match st[i]? with
    | some (.lst _) => true
    | _ => false
  | _, _ => false
def setD (o i v : D) (st : Sto) : Option Sto := match o, i with
  | .loc a, .int k => match st[a]? with
    | some (.lst xs) => (ixD xs.length k).map fun j => st.set a (.lst (xs.set j v))
    | _ => none
  | _, _ => none
mutual
def setT : Tg → D → Env → Option Env
  | .nm i, d, ρ => some (ρ.set i (some d))
  | .tp ts, .tup xs, ρ => setTs ts xs ρ
  | .tp _, _, _ => none
def setTs : List Tg → List D → Env → Option Env
  | [], [], ρ => some ρ
  | t :: ts, x :: xs, ρ => match setT t x ρ with
    | some ρ' => setTs ts xs ρ'
    | none => none
  | _, _, _ => none
end
def wipeD (ρ : Env) : List Nat → Env
  | [] => ρ
  | v :: vs => (wipeD ρ vs).set v none
mutual
/-- a target's places are among these -/
def Tg.inn (own : List Nat) : Tg → Bool
  | .nm i => own.contains i
  | .tp ts => Tg.innL own ts
def Tg.innL (own : List Nat) : List Tg → Bool
  | [] => true
  | t :: ts => Tg.inn own t && Tg.innL own ts
end
/-- what a loop walks: things told ahead; a mutable list as it stands; the same numbered -/
inductive Src where | st (xs : List D) | lv (i : Nat) | lvE (i : Nat)
def srcD (st : Sto) : D → Option Src
  | .loc i => some (.lv i)
  | .str s => some (.st (s.map fun c => .str [c]))
  | x => (seqD st x).map .st
def enumL (xs : List D) : List D := xs.zipIdx.map fun p => .tup [.int (p.2 : Nat), p.1]
def srcE (st : Sto) : D → Option Src
  | .loc i => some (.lvE i)
  | .lst xs => some (.st (enumL xs))
  | .ro xs => some (.st (enumL xs))
  | _ => none
def rngD (lo hi : Int) : List D := (List.range (hi - lo).toNat).map fun k => .int (lo + (k : Nat))
def rng3D (lo hi c : Int) : List D := if 0 < c then (List.range ((hi - lo + c - 1) / c).toNat).map fun k => .int (lo + (k : Nat) * c)
  else (List.range ((lo - hi + (-c) - 1) / (-c)).toNat).map fun k => .int (lo + (k : Nat) * c)
/-- a comprehension's turns -/
def compS (f : D → Sto → R (Option D)) : List D → List D → Sto → R (List D)
  | [], acc, st => .ok acc st
  | x :: xs, acc, st => (f x st).bind fun o st => compS f xs (match o with | some d => acc ++ [d] | none => acc) st
def compV (f : D → Sto → R (Option D)) (en : Bool) (i : Nat) : Nat → Nat → List D → Sto → R (List D)
  | 0, _, _, _ => .bad
  | n + 1, j, acc, st => match st[i]? with
    | some (.lst xs) => match xs[j]? with
      | none => .ok acc st
      | some x => (f (if en then .tup [.int (j : Nat), x] else x) st).bind fun o st => compV f en i n (j + 1) (match o with | some d => acc ++ [d] | none => acc) st
    | _ => .bad
def lenOb : Option Ob → Nat
  | some (.lst xs) => xs.length
  | _ => 0
def compD (f : D → Sto → R (Option D)) (s : Src) (st : Sto) : R (List D) := match s with
  | .st xs => compS f xs [] st
  | .lv i => compV f false i (lenOb st[i]? + 1) 0 [] st
  | .lvE i => compV f true i (lenOb st[i]? + 1) 0 [] st
/-- what calls do, what classes there are -/
structure Cal where
  call : Nat → List D → Sto → R D
  anc : Nat → Nat → Bool
def permD (vs : List D) (pm : List Nat) : List D := pm.filterMap fun j => vs[j]?
mutual
def evE (C : Cal) : Ex → Env → Sto → R D
  | .var i, ρ, st => match ρ[i]? with
    | some (some d) => .ok d st
    | _ => .bad
  | .cst d, _, st => .ok d st
  | .tup es, ρ, st => (evEs C es ρ st).bind fun ds st => if ds.length ≤ SZ then .ok (.tup ds) st else .bad
  | .lst mu es, ρ, st => (evEs C es ρ st).bind fun ds st => newL mu ds st
  | .bin op a b, ρ, st => (evE C a ρ st).bind fun x st => (evE C b ρ st).bind fun y st => R.of (opB op x y st) st
  | .neg a, ρ, st => (evE C a ρ st).bind fun x st => match x with
    | .int i => .ok (.int (-i)) st
    | _ => .bad
  | .cmp op a b, ρ, st => (evE C a ρ st).bind fun x st => (evE C b ρ st).bind fun y st => R.of ((opC op x y st).map .bl) st
  | .is_ op a, ρ, st => (evE C a ρ st).bind fun x st => R.of ((opI op x).map .bl) st
  | .chain op op' a b c, ρ, st => (evE C a ρ st).bind fun x st => (evE C b ρ st).bind fun y st => match opC op x y st with
    | some true => (evE C c ρ st).bind fun z st => R.of ((opC op' y z st).map .bl) st
    | some false => .ok (.bl false) st
    | none => .bad
  | .and a b, ρ, st => (evE C a ρ st).bind fun x st => match truD st x with
    | some true => evE C b ρ st
    | some false => .ok x st
    | none => .bad
  | .or a b, ρ, st => (evE C a ρ st).bind fun x st => match truD st x with
    | some true => .ok x st
    | some false => evE C b ρ st
    | none => .bad
  | .not a, ρ, st => (evE C a ρ st).bind fun x st => match truD st x with
    | some b => .ok (.bl (!b)) st
    | none => .bad
  | .ife c a b, ρ, st => (evE C c ρ st).bind fun x st => match truD st x with
    | some true => evE C a ρ st
    | some false => evE C b ρ st
    | none => .bad
  | .idx a b, ρ, st => (evE C a ρ st).bind fun x st => (evE C b ρ st).bind fun y st => R.of (idxD x y st) st
  | .slc mu a lo hi, ρ, st => (evE C a ρ st).bind fun x st => (evO C lo ρ st).bind fun l st => (evO C hi ρ st).bind fun h st => (R.of (slcD x l h st) st).bind fun d st => mkL mu d st
  | .call k es pm, ρ, st => (evEs C es ρ st).bind fun vs st => C.call k (permD vs pm) st
  | .bi f es, ρ, st => (evEs C es ρ st).bind fun vs st => biD f vs st
  | .isi a ts, ρ, st => (evE C a ρ st).bind fun x st => if ts.all fun t => tyOk t x then .ok (.bl (ts.any fun t => isiD C.anc st x t)) st else .bad
  | .mth m o es, ρ, st => (evE C o ρ st).bind fun x st => if okM m x st then (evEs C es ρ st).bind fun vs st => mtD m x vs st else .bad
  | .lc mu t it cs e own, ρ, st => (evIt C it ρ st).bind fun src st => (compD (fun x st => match setT t x (wipeD ρ own) with
      | none => .bad
      | some ρ' => (evCs C cs ρ' st).bind fun b st => if b then (evE C e ρ' st).bind fun d st => .ok (some d) st else .ok none st) src st).noE.bind fun ds st => newL mu ds st
  | .fld a f, ρ, st => (evE C a ρ st).bind fun x st => match x with
    | .exc _ fs => R.of (fs.lookup f) st
    | _ => .bad
def evEs (C : Cal) : List Ex → Env → Sto → R (List D)
  | [], _, st => .ok [] st
  | e :: es, ρ, st => (evE C e ρ st).bind fun d st => (evEs C es ρ st).bind fun ds st => .ok (d :: ds) st
def evO (C : Cal) : Option Ex → Env → Sto → R (Option Int)
  | none, _, st => .ok none st
  | some e, ρ, st => (evE C e ρ st).bind fun x st => match x with
    | .int i => .ok (some i) st
    | _ => .bad
/-- the tests of a comprehension -/
def evCs (C : Cal) : List Ex → Env → Sto → R Bool
  | [], _, st => .ok true st
  | e :: es, ρ, st => (evE C e ρ st).bind fun x st => match truD st x with
    | some true => evCs C es ρ st
    | some false => .ok false st
    | none => .bad
def evIt (C : Cal) : Ir → Env → Sto → R Src
  | .seq e, ρ, st => (evE C e ρ st).bind fun x st => R.of (srcD st x) st
  | .rng1 a, ρ, st => (evE C a ρ st).bind fun x st => match x with
    | .int i => if small62 i then .ok (.st (rngD 0 i)) st else .bad
    | _ => .bad
  | .rng2 a b, ρ, st => (evE C a ρ st).bind fun x st => (evE C b ρ st).bind fun y st => match x, y with
    | .int i, .int j => if small62 i && small62 j then .ok (.st (rngD i j)) st else .bad
    | _, _ => .bad
  | .rng3 a b c, ρ, st => (evE C a ρ st).bind fun x st => (evE C b ρ st).bind fun y st => (evE C c ρ st).bind fun z st => match x, y, z with
    | .int i, .int j, .int k => if small62 i && small62 j && decide (k ≠ 0 ∧ k.natAbs < 2 ^ 29) then .ok (.st (rng3D i j k)) st else .bad
    | _, _, _ => .bad
  | .enum e, ρ, st => (evE C e ρ st).bind fun x st => R.of (srcE st x) st
  | .zip a b, ρ, st => (evE C a ρ st).bind fun x st => (evE C b ρ st).bind fun y st => match x, y with
    | .lst xs, .lst ys => .ok (.st ((xs.zip ys).map fun p => .tup [p.1, p.2])) st
    | .tup xs, .tup ys => .ok (.st ((xs.zip ys).map fun p => .tup [p.1, p.2])) st
    | _, _ => .bad
end
/-! ### statements -/
inductive Fl where | nx | rt (d : D) | bk | ct
inductive RS where
  | ok (f : Fl) (ρ : Env) (st : Sto)
  | err (c : Nat) (fs : List (Nat × D)) (ρ : Env) (st : Sto)
  | bad
def RS.of {α : Type} (r : R α) (ρ : Env) (f : α → Sto → RS) : RS := match r with
  | .ok a st => f a st
  | .err c fs st => .err c fs ρ st
  | .bad => .bad
/-- one statement, then the rest -/
def RS.seq (r : RS) (f : Env → Sto → RS) : RS := match r with
  | .ok .nx ρ st => f ρ st
  | r => r
def FUEL : Nat := 10 ^ 100
def whileF (t : Env → Sto → R Bool) (b : Env → Sto → RS) : Nat → Env → Sto → RS
  | 0, _, _ => .bad
  | n + 1, ρ, st => match t ρ st with
    | .ok true st => (match b ρ st with
      | .ok .nx ρ st => whileF t b n ρ st
      | .ok .ct ρ st => whileF t b n ρ st
      | .ok .bk ρ st => .ok .nx ρ st
      | r => r)
    | .ok false st => .ok .nx ρ st
    | .err c fs st => .err c fs ρ st
    | .bad => .bad
def forS (b : D → Env → Sto → RS) : List D → Env → Sto → RS
  | [], ρ, st => .ok .nx ρ st
  | x :: xs, ρ, st => match b x ρ st with
    | .ok .nx ρ st => forS b xs ρ st
    | .ok .ct ρ st => forS b xs ρ st
    | .ok .bk ρ st => .ok .nx ρ st
    | r => r
def forV (b : D → Env → Sto → RS) (en : Bool) (i : Nat) : Nat → Nat → Env → Sto → RS
  | 0, _, _, _ => .bad
  | n + 1, j, ρ, st => match st[i]? with
    | some (.lst xs) => (match xs[j]? with
      | none => .ok .nx ρ st
      | some x => (match b (if en then .tup [.int (j : Nat), x] else x) ρ st with
        | .ok .nx ρ st => forV b en i n (j + 1) ρ st
        | .ok .ct ρ st => forV b en i n (j + 1) ρ st
        | .ok .bk ρ st => .ok .nx ρ st
        | r => r))
    | _ => .bad
def forD (b : D → Env → Sto → RS) (s : Src) (ρ : Env) (st : Sto) : RS := match s with
  | .st xs => forS b xs ρ st
  | .lv i => forV b false i (lenOb st[i]? + 1) 0 ρ st
  | .lvE i => forV b true i (lenOb st[i]? + 1) 0 ρ st
def evT (C : Cal) (e : Ex) (ρ : Env) (st : Sto) : R Bool := (evE C e ρ st).bind fun x st => R.of (truD st x) st
mutual
def evS (C : Cal) : Cm → Env → Sto → RS
  | .asg t e, ρ, st => RS.of (evE C e ρ st) ρ fun d st => match setT t d ρ with
    | some ρ' => .ok .nx ρ' st
    | none => .bad
  | .par i j a b, ρ, st => RS.of (evE C a ρ st) ρ fun x st => RS.of (evE C b ρ st) ρ fun y st => .ok .nx ((ρ.set i (some x)).set j (some y)) st
  | .par3 i j l a b c, ρ, st => RS.of (evE C a ρ st) ρ fun x st => RS.of (evE C b ρ st) ρ fun y st => RS.of (evE C c ρ st) ρ fun z st => .ok .nx (((ρ.set i (some x)).set j (some y)).set l (some z)) st
  | .bad, _, _ => .bad
  | .setIx o i e, ρ, st => RS.of (evE C e ρ st) ρ fun v st => RS.of (evE C o ρ st) ρ fun a st => RS.of (evE C i ρ st) ρ fun k st => match setD a k v st with
    | some st' => .ok .nx ρ st'
    | none => .bad
  | .aug i op e, ρ, st => match ρ[i]? with
    | some (some x) => RS.of (evE C e ρ st) ρ fun y st => match opA op x y with
      | some z => .ok .nx (ρ.set i (some z)) st
      | none => .bad
    | _ => .bad
  | .expr e, ρ, st => RS.of (evE C e ρ st) ρ fun _ st => .ok .nx ρ st
  | .ret e, ρ, st => RS.of (evE C e ρ st) ρ fun d st => .ok (.rt d) ρ st
  | .retN, ρ, st => .ok (.rt .non) ρ st
  | .ife c a b, ρ, st => RS.of (evT C c ρ st) ρ fun k st => if k then evSs C a ρ st else evSs C b ρ st
  | .whl c b, ρ, st => whileF (fun ρ st => evT C c ρ st) (fun ρ st => evSs C b ρ st) FUEL ρ st
  | .for_ t it b, ρ, st => RS.of (evIt C it ρ st) ρ fun s st => forD (fun x ρ st => match setT t x ρ with
    | some ρ' => evSs C b ρ' st
    | none => .bad) s ρ st
  | .pass, ρ, st => .ok .nx ρ st
  | .brk, ρ, st => .ok .bk ρ st
  | .cont, ρ, st => .ok .ct ρ st
  | .rais c fl es, ρ, st => RS.of (evEs C es ρ st) ρ fun vs st => .err c (fl.zip vs).reverse ρ st
  | .try_ b hs, ρ, st => match evSs C b ρ st with
    | .err c fs ρ st => evHs C hs c fs ρ st
    | r => r
def evSs (C : Cal) : List Cm → Env → Sto → RS
  | [], ρ, st => .ok .nx ρ st
  | c :: cs, ρ, st => (evS C c ρ st).seq fun ρ st => evSs C cs ρ st
def evHs (C : Cal) : List (Nat × Option Nat × List Cm) → Nat → List (Nat × D) → Env → Sto → RS
  | [], c, fs, ρ, st => .err c fs ρ st
  | (k, o, b) :: hs, c, fs, ρ, st => if C.anc c k then (match o with
      | none => evSs C b ρ st
      | some i => match evSs C b (ρ.set i (some (.exc c fs))) st with
        | .ok f ρ st => .ok f (ρ.set i none) st
        | _ => .bad) else evHs C hs c fs ρ st
end
/-! ### equality of data, as a test -/
mutual
def D.beq : D → D → Bool
  | .non, .non => true
  | .bl a, .bl b => a == b
  | .int a, .int b => a == b
  | .str a, .str b => a == b
  | .tup a, .tup b => D.beqL a b
  | .lst a, .lst b => D.beqL a b
  | .ro a, .ro b => D.beqL a b
  | .loc a, .loc b => a == b
  | .exc a f, .exc b g => a == b && D.beqF f g
  | _, _ => false
def D.beqL : List D → List D → Bool
  | [], [] => true
  | x :: xs, y :: ys => D.beq x y && D.beqL xs ys
  | _, _ => false
def D.beqF : List (Nat × D) → List (Nat × D) → Bool
  | [], [] => true
  | (i, x) :: xs, (j, y) :: ys => i == j && D.beq x y && D.beqF xs ys
  | _, _ => false
end
mutual
theorem D.beq_refl : ∀ x : D, D.beq x x = true
  | .non => rfl
  | .bl a => by simp [D.beq]
  | .int a => by simp [D.beq]
  | .str a => by simp [D.beq]
  | .tup a => by simp [D.beq, D.beqL_refl a]
  | .lst a => by simp [D.beq, D.beqL_refl a]
  | .ro a => by simp [D.beq, D.beqL_refl a]
  | .loc a => by simp [D.beq]
  | .exc a f => by simp [D.beq, D.beqF_refl f]
theorem D.beqL_refl : ∀ xs : List D, D.beqL xs xs = true
  | [] => rfl
  | x :: xs => by simp [D.beqL, D.beq_refl x, D.beqL_refl xs]
theorem D.beqF_refl : ∀ xs : List (Nat × D), D.beqF xs xs = true
  | [] => rfl
  | (i, x) :: xs => by simp [D.beqF, D.beq_refl x, D.beqF_refl xs]
end
mutual
theorem D.beq_eq : ∀ x y : D, D.beq x y = true → x = y
  | .non, y, h => by cases y <;> simp_all [D.beq]
  | .bl a, y, h => by cases y <;> simp_all [D.beq]
  | .int a, y, h => by cases y <;> simp_all [D.beq]
  | .str a, y, h => by cases y <;> simp_all [D.beq]
  | .loc a, y, h => by cases y <;> simp_all [D.beq]
  | .tup a, y, h => by
    cases y <;> simp only [D.beq] at h <;> first | (rw [D.beqL_eq a _ h]; done) | (cases h; done)
  | .lst a, y, h => by
    cases y <;> simp only [D.beq] at h <;> first | (rw [D.beqL_eq a _ h]; done) | (cases h; done)
  | .ro a, y, h => by
    cases y <;> simp only [D.beq] at h <;> first | (rw [D.beqL_eq a _ h]; done) | (cases h; done)
  | .exc a f, y, h => by
    cases y <;> simp only [D.beq] at h <;> first | (obtain ⟨h1, h2⟩ := Bool.and_eq_true_iff.mp h; rw [D.beqF_eq f _ h2, eq_of_beq h1]; done) | (cases h; done)
theorem D.beqL_eq : ∀ xs ys : List D, D.beqL xs ys = true → xs = ys
  | [], ys, h => by cases ys <;> simp_all [D.beqL]
  | x :: xs, [], h => by simp [D.beqL] at h
  | x :: xs, y :: ys, h => by
    simp only [D.beqL, Bool.and_eq_true] at h
    rw [D.beq_eq x y h.1, D.beqL_eq xs ys h.2]
theorem D.beqF_eq : ∀ xs ys : List (Nat × D), D.beqF xs ys = true → xs = ys
  | [], ys, h => by cases ys <;> simp_all [D.beqF]
  | (i, x) :: xs, [], h => by simp [D.beqF] at h
  | (i, x) :: xs, (j, y) :: ys, h => by
    simp only [D.beqF, Bool.and_eq_true, beq_iff_eq] at h
    rw [h.1.1, D.beq_eq x y h.1.2, D.beqF_eq xs ys h.2]
end
def kvEq : List (D × D) → List (D × D) → Bool
  | [], [] => true
  | (a, b) :: r, (c, d) :: s => D.beq a c && D.beq b d && kvEq r s
  | _, _ => false
def Ob.beq : Ob → Ob → Bool
  | .lst a, .lst b => D.beqL a b
  | .dct a, .dct b => kvEq a b
  | _, _ => false
theorem kvEq_refl : ∀ l : List (D × D), kvEq l l = true
  | [] => rfl
  | (a, b) :: r => by simp [kvEq, D.beq_refl, kvEq_refl r]
theorem kvEq_eq : ∀ l m : List (D × D), kvEq l m = true → l = m
  | [], m, h => by cases m <;> simp_all [kvEq]
  | (a, b) :: r, [], h => by simp [kvEq] at h
  | (a, b) :: r, (c, d) :: s, h => by
    simp only [kvEq, Bool.and_eq_true] at h
    rw [D.beq_eq _ _ h.1.1, D.beq_eq _ _ h.1.2, kvEq_eq r s h.2]
theorem Ob.beq_refl : ∀ o : Ob, Ob.beq o o = true
  | .lst a => D.beqL_refl a
  | .dct a => kvEq_refl a
theorem Ob.beq_eq : ∀ o u : Ob, Ob.beq o u = true → o = u
  | .lst a, u, h => by cases u <;> simp only [Ob.beq] at h <;> first | (rw [D.beqL_eq _ _ h]; done) | (cases h; done)
  | .dct a, u, h => by cases u <;> simp only [Ob.beq] at h <;> first | (rw [kvEq_eq _ _ h]; done) | (cases h; done)
/-- the old things are as they were, or name old things alone -/
def keeps (n : Nat) : Sto → Sto → Bool
  | [], _ => true
  | o :: st0, u :: st => (Ob.beq o u || u.lo n) && keeps n st0 st
  | _ :: _, [] => false
/-! ### a def's end, calls -/
mutual
def D.subX (g : Nat → Option D) : D → Option D
  | .tup xs => (D.subXL g xs).map .tup
  | .lst xs => (D.subXL g xs).map .lst
  | .ro xs => (D.subXL g xs).map .ro
  | .loc i => g i
  | .exc _ _ => none
  | .non => some .non
  | .bl b => some (.bl b)
  | .int i => some (.int i)
  | .str s => some (.str s)
def D.subXL (g : Nat → Option D) : List D → Option (List D)
  | [] => some []
  | x :: r => match D.subX g x with
    | none => none
    | some y => match D.subXL g r with
      | none => none
      | some ys => some (y :: ys)
end
/-- mutable things from number n on told as what they hold, f levels deep -/
def frzX (st : Sto) (n : Nat) : Nat → D → Option D
  | 0, d => d.subX fun i => if i < n then some (.loc i) else none
  | f + 1, d => d.subX fun i => if i < n then some (.loc i) else match st[i]? with
    | some (.lst xs) => frzX st n f (.lst xs)
    | _ => none
def frzF (st : Sto) (n : Nat) : List (Nat × D) → Option (List (Nat × D))
  | [] => some []
  | (i, x) :: r => match frzX st n 5 x with
    | none => none
    | some y => (frzF st n r).map ((i, y) :: ·)
def finD (keep : Bool) (st0 : Sto) (d : D) (st : Sto) : R D :=
  if keep then .ok d st else match frzX st st0.length 5 d with
    | some d' => if keeps st0.length st0 st then .ok d' (st.take st0.length) else .bad
    | none => .bad
def finX (keep : Bool) (st0 : Sto) (c : Nat) (fs : List (Nat × D)) (st : Sto) : R D :=
  if keep then .err c fs st else match frzF st st0.length fs with
    | some fs' => if keeps st0.length st0 st then .err c fs' (st.take st0.length) else .bad
    | none => .bad
def endD (keep : Bool) (st0 : Sto) : RS → R D
  | .ok .nx _ st => finD keep st0 .non st
  | .ok (.rt d) _ st => finD keep st0 d st
  | .err c fs _ st => finX keep st0 c fs st
  | _ => .bad
structure Fd where
  np : Nat
  nn : Nat
  keep : Bool
  body : List Cm
def callD (fds : List Fd) (anc : Nat → Nat → Bool) : Nat → Nat → List D → Sto → R D
  | 0, _, _, _ => .bad
  | n + 1, k, vs, st => match fds[k]? with
    | none => .bad
    | some f => if vs.length = f.np then endD f.keep st (evSs ⟨callD fds anc n, anc⟩ f.body (vs.map some ++ List.replicate (f.nn - vs.length) none) st) else .bad
end DI
set_option Elab.async false
set_option linter.all false
set_option maxRecDepth 100000
set_option maxHeartbeats 4000000
set_option autoImplicit false
namespace DI
open PySem PySem.Spec PyProof.Rows L2
/-- what is fixed through a law: the written part, where the classes stand, the fields' names, the exception in hand -/
structure Tb where
  K : PySem.W.Frag
  cl : Nat → Addr
  fn : Nat → Str
  xa : Option (Addr × Nat × Addr)
abbrev txS (s : Tx) : Str := ⟨s.toArray⟩
/-- a text as the machine holds it -/
def TxOk (s : Tx) : Prop := PyData.strOk (txS s) = true ∧ s.length ≤ sizeLine
mutual
inductive Rp (T : Tb) (G : Hp) (μ : List Addr) : V → D → Prop
  | non : Rp T G μ .non .non
  | bl (b : Bool) : Rp T G μ (.bl b) (.bl b)
  | int (i : Int) : Rp T G μ (.int i) (.int i)
  | str (s : Tx) : TxOk s → Rp T G μ (.str (txS s)) (.str s)
  | tup {a : Addr} {vs : List V} {ds : List D} : SqT T.K G a vs → RpL T G μ vs ds → Rp T G μ (.ref a) (.tup ds)
  | lst {a : Addr} {vs : List V} {ds : List D} : G a = some (.lst vs) → RpL T G μ vs ds → Rp T G μ (.ref a) (.lst ds)
  | ro {a : Addr} {vs : List V} {ds : List D} : SqL T.K G a vs → RpL T G μ vs ds → Rp T G μ (.ref a) (.ro ds)
  | loc {a : Addr} {i : Nat} : μ[i]? = some a → Rp T G μ (.ref a) (.loc i)
  | exc {a : Addr} {c : Nat} {fs : List (Nat × D)} {d : Addr} {fv : List (Str × V)} : T.xa = some (a, c, d) → G d = some (.xd fv) → RpF T G μ fv fs → Rp T G μ (.ref a) (.exc c fs)
inductive RpL (T : Tb) (G : Hp) (μ : List Addr) : List V → List D → Prop
  | nil : RpL T G μ [] []
  | cons {v : V} {vs : List V} {d : D} {ds : List D} : Rp T G μ v d → RpL T G μ vs ds → RpL T G μ (v :: vs) (d :: ds)
inductive RpF (T : Tb) (G : Hp) (μ : List Addr) : List (Str × V) → List (Nat × D) → Prop
  | nil : RpF T G μ [] []
  | cons {f : Str} {v : V} {fv : List (Str × V)} {i : Nat} {d : D} {fs : List (Nat × D)} : T.fn i = f → Rp T G μ v d → RpF T G μ fv fs → RpF T G μ ((f, v) :: fv) ((i, d) :: fs)
end
/-- what is known grows -/
structure Gm (G : Hp) (μ : List Addr) (G' : Hp) (μ' : List Addr) : Prop where
  g : ∀ a o, G a = some o → G' a = some o
  m : ∀ (i : Nat) (a : Addr), μ[i]? = some a → μ'[i]? = some a
/-- .. and what is neither known nor numbered stands as it stood -/
structure Gx (G : Hp) (μ : List Addr) (H : Hp) (G' : Hp) (μ' : List Addr) (H' : Hp) : Prop extends Gm G μ G' μ' where
  fr : ∀ a o, H a = some o → (∀ i : Nat, μ[i]? ≠ some a) → H' a = some o
  kp : ∀ a o, H a = some o → ∃ u, H' a = some u
  ng : ∀ a o, G' a = some o → G a = some o ∨ H a = none
  nm : ∀ (i : Nat) (a : Addr), μ'[i]? = some a → μ[i]? = some a ∨ H a = none
theorem Gx.refl {G : Hp} {μ : List Addr} {H : Hp} : Gx G μ H G μ H := ⟨⟨fun _ _ h => h, fun _ _ h => h⟩, fun _ _ h _ => h, fun _ o h => ⟨o, h⟩, fun _ _ h => .inl h, fun _ _ h => .inl h⟩
theorem Gx.trans {G1 G2 G3 : Hp} {m1 m2 m3 : List Addr} {H1 H2 H3 : Hp} (a : Gx G1 m1 H1 G2 m2 H2) (b : Gx G2 m2 H2 G3 m3 H3) : Gx G1 m1 H1 G3 m3 H3 := by
  have n0 : ∀ x, H2 x = none → H1 x = none := fun x h => by
    cases q : H1 x with
    | none => rfl
    | some o =>
      obtain ⟨u, hu⟩ := a.kp x o q
      rw [hu] at h
      cases h
  refine ⟨⟨fun x o h => b.g x o (a.g x o h), fun i x h => b.m i x (a.m i x h)⟩, fun x o h hn => b.fr x o (a.fr x o h hn) fun i z => ?_, fun x o h => ?_, fun x o h => ?_, fun i x h => ?_⟩
  · rcases a.nm i x z with z | z
    · exact hn i z
    · rw [z] at h; cases h
  · obtain ⟨u, hu⟩ := a.kp x o h
    exact b.kp x u hu
  · rcases b.ng x o h with z | z
    · exact a.ng x o z
    · exact .inr (n0 x z)
  · rcases b.nm i x h with z | z
    · exact a.nm i x z
    · exact .inr (n0 x z)
theorem sqt_mono {K : PySem.W.Frag} {G G' : Hp} {a : Addr} {xs : List V} (e : ∀ a o, G a = some o → G' a = some o) (h : SqT K G a xs) : SqT K G' a xs := by
  rcases h with (h | ⟨o, h⟩) | h
  · exact .inl (.inl (e _ _ h))
  · exact .inl (.inr ⟨o, e _ _ h⟩)
  · exact .inr h
theorem sql_mono {K : PySem.W.Frag} {G G' : Hp} {a : Addr} {xs : List V} (e : ∀ a o, G a = some o → G' a = some o) (h : SqL K G a xs) : SqL K G' a xs := by
  rcases h with (h | ⟨o, h⟩) | h
  · exact .inl (.inl (e _ _ h))
  · exact .inl (.inr ⟨o, e _ _ h⟩)
  · exact .inr h
section
variable {T : Tb} {G G' : Hp} {μ μ' : List Addr}
mutual
theorem Rp.mono (e : Gm G μ G' μ') : ∀ {v : V} {d : D}, Rp T G μ v d → Rp T G' μ' v d
  | _, _, .non => .non
  | _, _, .bl b => .bl b
  | _, _, .int i => .int i
  | _, _, .str s h => .str s h
  | _, _, .tup h r => .tup (sqt_mono e.g h) (RpL.mono e r)
  | _, _, .lst h r => .lst (e.g _ _ h) (RpL.mono e r)
  | _, _, .ro h r => .ro (sql_mono e.g h) (RpL.mono e r)
  | _, _, .loc h => .loc (e.m _ _ h)
  | _, _, .exc h1 h2 r => .exc h1 (e.g _ _ h2) (RpF.mono e r)
theorem RpL.mono (e : Gm G μ G' μ') : ∀ {vs : List V} {ds : List D}, RpL T G μ vs ds → RpL T G' μ' vs ds
  | _, _, .nil => .nil
  | _, _, .cons r t => .cons (Rp.mono e r) (RpL.mono e t)
theorem RpF.mono (e : Gm G μ G' μ') : ∀ {vs : List (Str × V)} {ds : List (Nat × D)}, RpF T G μ vs ds → RpF T G' μ' vs ds
  | _, _, .nil => .nil
  | _, _, .cons h r t => .cons h (Rp.mono e r) (RpF.mono e t)
end
theorem RpL.len : ∀ {vs : List V} {ds : List D}, RpL T G μ vs ds → vs.length = ds.length
  | _, _, .nil => rfl
  | _, _, .cons _ t => congrArg Nat.succ t.len
theorem RpL.get : ∀ {vs : List V} {ds : List D} {i : Nat} {d : D}, RpL T G μ vs ds → ds[i]? = some d → ∃ v, vs[i]? = some v ∧ Rp T G μ v d
  | _, _, _, _, .nil, e => by simp at e
  | _, _, 0, _, .cons r _, e => by simp at e; subst e; exact ⟨_, rfl, r⟩
  | _, _, i + 1, x, .cons _ t, e => by
    obtain ⟨u, h1, h2⟩ := RpL.get (i := i) (d := x) t (by simpa using e)
    exact ⟨u, by simpa using h1, h2⟩
theorem RpL.app : ∀ {vs ws : List V} {ds es : List D}, RpL T G μ vs ds → RpL T G μ ws es → RpL T G μ (vs ++ ws) (ds ++ es)
  | _, _, _, _, .nil, s => s
  | _, _, _, _, .cons r t, s => .cons r (t.app s)
theorem RpL.take : ∀ {vs : List V} {ds : List D} (n : Nat), RpL T G μ vs ds → RpL T G μ (vs.take n) (ds.take n)
  | _, _, 0, _ => .nil
  | _, _, _ + 1, .nil => .nil
  | _, _, n + 1, .cons r t => .cons r (t.take n)
theorem RpL.drop : ∀ {vs : List V} {ds : List D} (n : Nat), RpL T G μ vs ds → RpL T G μ (vs.drop n) (ds.drop n)
  | _, _, 0, r => r
  | _, _, _ + 1, .nil => .nil
  | _, _, n + 1, .cons _ t => t.drop n
theorem RpL.set {v : V} {d : D} (q : Rp T G μ v d) : ∀ {vs : List V} {ds : List D} (i : Nat), RpL T G μ vs ds → RpL T G μ (vs.set i v) (ds.set i d)
  | _, _, _, .nil => .nil
  | _, _, 0, .cons _ t => .cons q t
  | _, _, i + 1, .cons r t => .cons r (RpL.set q i t)
theorem RpL.erase : ∀ {vs : List V} {ds : List D} (i : Nat), RpL T G μ vs ds → RpL T G μ (vs.eraseIdx i) (ds.eraseIdx i)
  | _, _, _, .nil => .nil
  | _, _, 0, .cons _ t => t
  | _, _, i + 1, .cons r t => .cons r (RpL.erase i t)
theorem RpL.dropLast {vs : List V} {ds : List D} (h : RpL T G μ vs ds) : RpL T G μ vs.dropLast ds.dropLast := by
  rw [List.dropLast_eq_take, List.dropLast_eq_take, h.len]
  exact h.take _
theorem RpL.reverse : ∀ {vs : List V} {ds : List D}, RpL T G μ vs ds → RpL T G μ vs.reverse ds.reverse
  | _, _, .nil => .nil
  | _, _, .cons r t => by
    rw [List.reverse_cons, List.reverse_cons]
    exact t.reverse.app (.cons r .nil)
theorem RpL.ofInts : ∀ (ns : List Int), RpL T G μ (ns.map V.int) (ns.map D.int)
  | [] => .nil
  | n :: r => .cons (.int n) (RpL.ofInts r)
theorem RpL.ints : ∀ {vs : List V} {ds : List D} {ns : List Int}, RpL T G μ vs ds → intsOf ds = some ns → vs = ns.map V.int
  | _, _, _, .nil, e => by cases e; rfl
  | _, _, _, .cons r t, e => by
    cases r with
    | int i =>
      simp only [intsOf, Option.map_eq_some_iff] at e
      obtain ⟨ms, e1, rfl⟩ := e
      rw [List.map_cons, t.ints e1]
    | _ => cases e
end
/-! ### the heap and the store -/
inductive ObR (T : Tb) (G : Hp) (μ : List Addr) (H : Hp) (a : Addr) : Ob → Prop
  | lst {vs : List V} {ds : List D} : H a = some (.lst vs) → RpL T G μ vs ds → ObR T G μ H a (.lst ds)
structure Hr (T : Tb) (G : Hp) (μ : List Addr) (st : Sto) (H : Hp) : Prop where
  sub : ∀ a o, G a = some o → H a = some o
  len : μ.length = st.length
  obj : ∀ (i : Nat) (a : Addr), μ[i]? = some a → G a = none ∧ ∃ o, st[i]? = some o ∧ ObR T G μ H a o
  nd : ∀ (i j : Nat) (a : Addr), μ[i]? = some a → μ[j]? = some a → i = j
structure Er (T : Tb) (G : Hp) (μ : List Addr) (ρ : Env) (σ : L2.St) : Prop where
  len : σ.length = ρ.length
  at_ : ∀ (i : Nat) (d : D), ρ[i]? = some (some d) → ∃ v, σ[i]? = some (some v) ∧ Rp T G μ v d
section
variable {T : Tb} {G G' : Hp} {μ μ' : List Addr} {st : Sto} {H : Hp} {ρ : Env} {σ : L2.St}
theorem Er.mono (e : Gm G μ G' μ') (h : Er T G μ ρ σ) : Er T G' μ' ρ σ := ⟨h.len, fun i d q => by
  obtain ⟨v, h1, h2⟩ := h.at_ i d q
  exact ⟨v, h1, h2.mono e⟩⟩
theorem Er.set {v : V} {d : D} (h : Er T G μ ρ σ) (r : Rp T G μ v d) (i : Nat) : Er T G μ (ρ.set i (some d)) (σ.set i (some v)) := ⟨by simp [h.len], fun j x q => by
  by_cases e : i = j
  · subst e
    by_cases hi : i < ρ.length
    · rw [List.getElem?_set_self hi] at q
      cases q
      exact ⟨v, by rw [List.getElem?_set_self (by rw [h.len]; exact hi)], r⟩
    · rw [List.getElem?_eq_none (by simpa using hi)] at q
      cases q
  · rw [List.getElem?_set_ne e] at q
    obtain ⟨u, h1, h2⟩ := h.at_ j x q
    exact ⟨u, by rw [List.getElem?_set_ne e]; exact h1, h2⟩⟩
theorem Er.unset (h : Er T G μ ρ σ) (i : Nat) : Er T G μ (ρ.set i none) (σ.set i none) := ⟨by simp [h.len], fun j x q => by
  by_cases e : i = j
  · subst e
    by_cases hi : i < ρ.length
    · rw [List.getElem?_set_self hi] at q
      cases q
    · rw [List.getElem?_eq_none (by simpa using hi)] at q
      cases q
  · rw [List.getElem?_set_ne e] at q
    obtain ⟨u, h1, h2⟩ := h.at_ j x q
    exact ⟨u, by rw [List.getElem?_set_ne e]; exact h1, h2⟩⟩
theorem Er.wipe (h : Er T G μ ρ σ) : ∀ vs : List Nat, Er T G μ (wipeD ρ vs) (wipe σ vs)
  | [] => h
  | v :: vs => (Er.wipe h vs).unset v
/-- a new thing that is not to change: known -/
theorem Hr.known {p : Addr} {o : HO} (h : Hr T G μ st H) (hp : H p = none) : Hr T (upd G p o) μ st (upd H p o) ∧ Gx G μ H (upd G p o) μ (upd H p o) := by
  have gp : G p = none := by
    cases q : G p with
    | none => rfl
    | some u => rw [h.sub p u q] at hp; cases hp
  have e : Gx G μ H (upd G p o) μ (upd H p o) := by
    refine ⟨⟨fun a u q => by rw [upd_ne (ne_of_none q gp)]; exact q, fun _ _ q => q⟩, fun a u q _ => by rw [upd_ne (ne_of_none q hp)]; exact q, fun a u q => ⟨u, by rw [upd_ne (ne_of_none q hp)]; exact q⟩, fun a u q => ?_, fun _ _ q => .inl q⟩
    by_cases ha : a = p
    · subst ha; exact .inr hp
    · rw [upd_ne ha] at q; exact .inl q
  refine ⟨⟨fun a u q => ?_, h.len, fun i a q => ?_, h.nd⟩, e⟩
  · by_cases ha : a = p
    · subst ha; rw [upd_same] at q ⊢; exact q
    · rw [upd_ne ha] at q ⊢; exact h.sub a u q
  · obtain ⟨h1, ob, h2, h3⟩ := h.obj i a q
    cases h3 with
    | @lst vs ds h4 r =>
      have ne : a ≠ p := ne_of_none h4 hp
      exact ⟨by rw [upd_ne ne]; exact h1, _, h2, .lst (by rw [upd_ne ne]; exact h4) (r.mono e.1)⟩
/-- a new thing that may change: numbered -/
theorem Hr.laid {p : Addr} {vs : List V} {ds : List D} (h : Hr T G μ st H) (hp : H p = none) (r : RpL T G μ vs ds) : Hr T G (μ ++ [p]) (st ++ [.lst ds]) (upd H p (.lst vs)) ∧ Gx G μ H G (μ ++ [p]) (upd H p (.lst vs)) := by
  have gp : G p = none := by
    cases q : G p with
    | none => rfl
    | some u => rw [h.sub p u q] at hp; cases hp
  have np : ∀ (i : Nat) (a : Addr), μ[i]? = some a → a ≠ p := fun i a q => by
    obtain ⟨_, ob, _, h3⟩ := h.obj i a q
    cases h3 with
    | lst h4 _ => exact ne_of_none h4 hp
  have split : ∀ (i : Nat) (a : Addr), (μ ++ [p])[i]? = some a → μ[i]? = some a ∨ (i = μ.length ∧ a = p) := fun i a q => by
    by_cases hi : i < μ.length
    · rw [List.getElem?_append_left hi] at q; exact .inl q
    · rw [List.getElem?_append_right (by omega)] at q
      have h0 : i - μ.length = 0 := by
        have := (List.getElem?_eq_some_iff.mp q).1
        simp at this; omega
      rw [h0] at q
      simp at q
      exact .inr ⟨by omega, q.symm⟩
  have e : Gx G μ H G (μ ++ [p]) (upd H p (.lst vs)) := by
    refine ⟨⟨fun _ _ q => q, fun i a q => by rw [List.getElem?_append_left (List.getElem?_eq_some_iff.mp q).1]; exact q⟩, fun a u q _ => by rw [upd_ne (ne_of_none q hp)]; exact q, fun a u q => ⟨u, by rw [upd_ne (ne_of_none q hp)]; exact q⟩, fun a u q => .inl q, fun i a q => ?_⟩
    rcases split i a q with q | ⟨_, rfl⟩
    · exact .inl q
    · exact .inr hp
  refine ⟨⟨fun a u q => ?_, by simp [h.len], fun i a q => ?_, fun i j a q1 q2 => ?_⟩, e⟩
  · rw [upd_ne (ne_of_none q gp)]; exact h.sub a u q
  · rcases split i a q with q | ⟨rfl, rfl⟩
    · obtain ⟨h1, ob, h2, h3⟩ := h.obj i a q
      refine ⟨h1, ob, by rw [List.getElem?_append_left (List.getElem?_eq_some_iff.mp h2).1]; exact h2, ?_⟩
      cases h3 with
      | lst h4 r => exact .lst (by rw [upd_ne (np i a q)]; exact h4) (r.mono e.1)
    · exact ⟨gp, .lst ds, by rw [h.len]; simp, .lst upd_same (r.mono e.1)⟩
  · rcases split i a q1 with z1 | ⟨e1, z1⟩ <;> rcases split j a q2 with z2 | ⟨e2, z2⟩
    · exact h.nd i j a z1 z2
    · exact absurd z2 (np i a z1)
    · exact absurd z1 (np j a z2)
    · omega
theorem Gx.put {i : Nat} {a : Addr} {o : HO} (hi : μ[i]? = some a) : Gx G μ H G μ (upd H a o) := by
  refine ⟨⟨fun _ _ q => q, fun _ _ q => q⟩, fun b u q hn => ?_, fun b u q => ?_, fun _ _ q => .inl q, fun _ _ q => .inl q⟩
  · have : b ≠ a := fun z => hn i (z ▸ hi)
    rw [upd_ne this]; exact q
  · by_cases hb : b = a
    · subst hb; exact ⟨o, upd_same⟩
    · exact ⟨u, by rw [upd_ne hb]; exact q⟩
/-- a mutable list is changed -/
theorem Hr.put {i : Nat} {a : Addr} {vs : List V} {ds : List D} (h : Hr T G μ st H) (hi : μ[i]? = some a) (r : RpL T G μ vs ds) : Hr T G μ (st.set i (.lst ds)) (upd H a (.lst vs)) := by
  have ga := (h.obj i a hi).1
  refine ⟨fun b u q => ?_, by simp [h.len], fun j b q => ?_, h.nd⟩
  · rw [upd_ne (ne_of_none q ga)]; exact h.sub b u q
  · obtain ⟨h1, ob, h2, h3⟩ := h.obj j b q
    refine ⟨h1, ?_⟩
    by_cases e : i = j
    · subst e
      have e2 : a = b := Option.some.inj (hi.symm.trans q)
      subst e2
      exact ⟨.lst ds, by rw [List.getElem?_set_self (List.getElem?_eq_some_iff.mp h2).1], .lst upd_same r⟩
    · refine ⟨ob, by rw [List.getElem?_set_ne e]; exact h2, ?_⟩
      have ne : b ≠ a := fun z => e (h.nd i j a hi (z ▸ q))
      cases h3 with
      | lst h4 r => exact .lst (by rw [upd_ne ne]; exact h4) r
theorem Hr.at_ {i : Nat} {ds : List D} {a : Addr} (h : Hr T G μ st H) (hi : μ[i]? = some a) (hs : st[i]? = some (.lst ds)) : ∃ vs, H a = some (.lst vs) ∧ RpL T G μ vs ds := by
  obtain ⟨_, ob, h2, h3⟩ := h.obj i a hi
  rw [hs] at h2
  cases h2
  cases h3 with
  | lst h4 r => exact ⟨_, h4, r⟩
end
/-! ### what is wanted behind a run -/
/-- Rel: how a value of the run shows in the machine -/
def Pr {α β : Type} (T : Tb) (Rel : Hp → List Addr → β → α → Prop) (W : XK) (G : Hp) (μ : List Addr) (H : Hp) (Q : β → Hp → Prop) : R α → Prop
  | .ok a st' => ∀ (G' : Hp) (μ' : List Addr) (H' : Hp) (v : β), Gx G μ H G' μ' H' → Hr T G' μ' st' H' → Rel G' μ' v a → Q v H'
  | .err c fs st' => ∀ (G' : Hp) (μ' : List Addr) (H' : Hp) (d : Addr) (fv : List (Str × V)), Gx G μ H G' μ' H' → Hr T G' μ' st' H' → G' d = some (.xd fv) → RpF T G' μ' fv fs → W (.ref (T.cl c)) (some d) H'
  | .bad => False
section
variable {α β γ δ : Type} {T : Tb} {Rel : Hp → List Addr → β → α → Prop} {Rel' : Hp → List Addr → δ → γ → Prop} {W : XK} {G G' H H' : Hp} {μ μ' : List Addr}
theorem Pr.mono {Q : β → Hp → Prop} {r : R α} (e : Gx G μ H G' μ' H') (h : Pr T Rel W G μ H Q r) : Pr T Rel W G' μ' H' Q r := by
  cases r with
  | ok a st' => exact fun G2 m2 H2 v e2 hr rv => h G2 m2 H2 v (e.trans e2) hr rv
  | err c fs st' => exact fun G2 m2 H2 d fv e2 hr hd rf => h G2 m2 H2 d fv (e.trans e2) hr hd rf
  | bad => exact h
theorem Pr.bind {Q : δ → Hp → Prop} {r : R α} {f : α → Sto → R γ} (h : Pr T Rel' W G μ H Q (r.bind f)) :
    Pr T Rel W G μ H (fun v H' => ∃ G' μ' st' a, Gx G μ H G' μ' H' ∧ Hr T G' μ' st' H' ∧ Rel G' μ' v a ∧ Pr T Rel' W G' μ' H' Q (f a st')) r := by
  cases r with
  | ok a st' => exact fun G2 m2 H2 v e2 hr rv => ⟨G2, m2, st', a, e2, hr, rv, Pr.mono e2 h⟩
  | err c fs st' => exact h
  | bad => exact h
theorem Pr.imp {Q Q' : β → Hp → Prop} {r : R α} (h : Pr T Rel W G μ H Q r) (k : ∀ v H, Q v H → Q' v H) : Pr T Rel W G μ H Q' r := by
  cases r with
  | ok a st' => exact fun G2 m2 H2 v e2 hr rv => k _ _ (h G2 m2 H2 v e2 hr rv)
  | err c fs st' => exact h
  | bad => exact h
theorem Pr.here {Q : β → Hp → Prop} {a : α} {st : Sto} {v : β} (h : Pr T Rel W G μ H Q (.ok a st)) (hr : Hr T G μ st H) (rv : Rel G μ v a) : Q v H := h G μ H v .refl hr rv
theorem Pr.of {Q : β → Hp → Prop} {o : Option α} {st : Sto} (h : Pr T Rel W G μ H Q (R.of o st)) : ∃ a, o = some a ∧ Pr T Rel W G μ H Q (.ok a st) := by
  cases o with
  | none => exact h.elim
  | some a => exact ⟨a, rfl, h⟩
end
/-- a run as a reading -/
def tR {α β : Type} (T : Tb) (Rel : Hp → List Addr → β → α → Prop) (W : L2.St → XK) (f : Env → Sto → R α) : L2.St → Hp → (β → Hp → Prop) → Prop := fun σ H Q =>
  ∃ (G : Hp) (μ : List Addr) (ρ : Env) (st : Sto), Hr T G μ st H ∧ Er T G μ ρ σ ∧ Pr T Rel (W σ) G μ H Q (f ρ st)
abbrev tEx (T : Tb) (W : L2.St → XK) (f : Env → Sto → R D) : TE := tR T (fun G μ v d => Rp T G μ v d) W f
abbrev tBo (T : Tb) (W : L2.St → XK) (f : Env → Sto → R Bool) : TT := tR T (fun _ _ (v : Bool) (b : Bool) => v = b) W f
abbrev tLi (T : Tb) (W : L2.St → XK) (f : Env → Sto → R (List D)) : TA := tR T (fun G μ v d => RpL T G μ v d) W f
theorem tR.bind {α β γ δ : Type} {T : Tb} {Rel : Hp → List Addr → β → α → Prop} {Rel' : Hp → List Addr → δ → γ → Prop} {W : L2.St → XK} {σ : L2.St} {H : Hp} {G : Hp} {μ : List Addr} {ρ : Env} {st : Sto} {Q : δ → Hp → Prop}
    {f : Env → Sto → R α} {g : α → Sto → R γ} (hr : Hr T G μ st H) (er : Er T G μ ρ σ) (h : Pr T Rel' (W σ) G μ H Q ((f ρ st).bind g)) :
    tR T Rel W f σ H fun v H' => ∃ G' μ' st' a, Gx G μ H G' μ' H' ∧ Hr T G' μ' st' H' ∧ Rel G' μ' v a ∧ Pr T Rel' (W σ) G' μ' H' Q (g a st') := ⟨G, μ, ρ, st, hr, er, h.bind⟩
theorem tR.imp {α β : Type} {T : Tb} {Rel : Hp → List Addr → β → α → Prop} {W : L2.St → XK} {f : Env → Sto → R α} {σ : L2.St} {H : Hp} {Q Q' : β → Hp → Prop} (h : tR T Rel W f σ H Q) (k : ∀ v H, Q v H → Q' v H) : tR T Rel W f σ H Q' := by
  obtain ⟨G, μ, ρ, st, hr, er, p⟩ := h
  exact ⟨G, μ, ρ, st, hr, er, p.imp k⟩
/-! ### weaker readings -/
theorem pe_of {X : Cx} {e : Expr} {t t' : TE} (h : PE X e t) (k : ∀ σ H Q, t' σ H Q → t σ H Q) : PE X e t' := ⟨fun pins s σ H Q I q => h.run pins s σ H Q I (k σ H Q q)⟩
theorem pt_of {X : Cx} {e : Expr} {t t' : TT} (h : PT X e t) (k : ∀ σ H Q, t' σ H Q → t σ H Q) : PT X e t' := ⟨fun pins s σ H Q I q => h.run pins s σ H Q I (k σ H Q q)⟩
theorem pa_of {X : Cx} {e : List Expr} {t t' : TA} (h : PA X e t) (k : ∀ σ H Q, t' σ H Q → t σ H Q) : PA X e t' := ⟨fun pos pins s σ H Q I q => h.run pos pins s σ H Q I (k σ H Q q)⟩
theorem ps_of {X : Cx} {e : Stmt} {t t' : TS} (h : PS X e t) (k : ∀ D σ H, t' D σ H → t D σ H) : PS X e t' := ⟨fun pins s σ H D I q => h.run pins s σ H D I (k D σ H q)⟩
theorem pss_of {X : Cx} {e : List Stmt} {t t' : TS} (h : PSs X e t) (k : ∀ D σ H, t' D σ H → t D σ H) : PSs X e t' := ⟨fun pins s σ H D I q => h.run pins s σ H D I (k D σ H q)⟩
end DI
set_option Elab.async false
set_option linter.all false
set_option maxRecDepth 100000
set_option maxHeartbeats 4000000
set_option autoImplicit false
namespace DI
open PySem PySem.Spec PyProof.Rows L2
theorem sz_le {n : Nat} (h : n ≤ SZ) : n ≤ sizeLine := Nat.le_trans h (by decide)
theorem sz_lt {n : Nat} (h : n < SZ) : n < sizeLine := Nat.lt_of_lt_of_le h (by decide)
/-! ### data as the library's data -/
mutual
def D.py : D → PyData
  | .non => .none
  | .bl b => .bool b
  | .int i => .int i
  | .str s => .str (txS s)
  | .tup xs => .tuple (D.pyL xs)
  | .lst xs => .list (D.pyL xs)
  | .ro _ => .dict []
  | .loc _ => .dict []
  | .exc _ _ => .dict []
def D.pyL : List D → List PyData
  | [] => []
  | x :: r => D.py x :: D.pyL r
end
theorem txS_inj (a b : Tx) : (txS a == txS b) = (a == b) := by
  by_cases h : a = b
  · subst h
    simp
  · have h1 : (a == b) = false := by simpa using h
    rw [h1]
    have h2 : txS a ≠ txS b := fun e => h (by
      have := congrArg (fun z : Str => z.cps.toList) e
      simpa [txS] using this)
    simpa using h2
theorem pyL_len : ∀ xs : List D, (D.pyL xs).length = xs.length
  | [] => rfl
  | _ :: r => congrArg Nat.succ (pyL_len r)
mutual
theorem eqv_py : ∀ a b : D, PyData.eqv (D.py a) (D.py b) = D.eqv a b
  | .non, b => by cases b <;> simp [D.py, D.eqv, PyData.eqv]
  | .bl x, b => by cases b <;> simp [D.py, D.eqv, PyData.eqv]
  | .int x, b => by cases b <;> simp [D.py, D.eqv, PyData.eqv]
  | .str x, b => by cases b <;> simp [D.py, D.eqv, PyData.eqv, txS_inj]
  | .tup x, b => by cases b <;> simp [D.py, D.eqv, PyData.eqv, eqvL_py x]
  | .lst x, b => by cases b <;> simp [D.py, D.eqv, PyData.eqv, eqvL_py x]
  | .ro x, b => by cases b <;> simp [D.py, D.eqv, PyData.eqv]
  | .loc x, b => by cases b <;> simp [D.py, D.eqv, PyData.eqv]
  | .exc x f, b => by cases b <;> simp [D.py, D.eqv, PyData.eqv]
theorem eqvL_py : ∀ a b : List D, PyData.eqvAll (D.pyL a) (D.pyL b) = D.eqvL a b
  | [], [] => by simp [D.pyL, D.eqvL, PyData.eqvAll]
  | [], _ :: _ => by simp [D.pyL, D.eqvL, PyData.eqvAll]
  | _ :: _, [] => by simp [D.pyL, D.eqvL, PyData.eqvAll]
  | x :: xs, y :: ys => by simp [D.pyL, D.eqvL, PyData.eqvAll, eqv_py x y, eqvL_py xs ys]
end
mutual
theorem depth_py : ∀ a : D, PyData.depth (D.py a) ≤ D.depth a
  | .non => by simp [D.py, D.depth, PyData.depth]
  | .bl x => by simp [D.py, D.depth, PyData.depth]
  | .int x => by simp [D.py, D.depth, PyData.depth]
  | .str x => by simp [D.py, D.depth, PyData.depth]
  | .tup x => by have := depthL_py x; simp [D.py, D.depth, PyData.depth]; omega
  | .lst x => by have := depthL_py x; simp [D.py, D.depth, PyData.depth]; omega
  | .ro x => by simp [D.py, D.depth, PyData.depth, PyData.depthKv]
  | .loc x => by simp [D.py, D.depth, PyData.depth, PyData.depthKv]
  | .exc x f => by simp [D.py, D.depth, PyData.depth, PyData.depthKv]
theorem depthL_py : ∀ a : List D, PyData.depthAll (D.pyL a) ≤ D.depthL a
  | [] => by simp [D.pyL, D.depthL, PyData.depthAll]
  | x :: r => by have := depth_py x; have := depthL_py r; simp [D.pyL, D.depthL, PyData.depthAll]; omega
end
section
variable {T : Tb} {G : Hp} {μ : List Addr} {st : Sto} {H : Hp}
/-- how a thing that is told whole lies -/
def Lies (K : PySem.W.Frag) (H : Hp) (v : V) (d : D) : Prop := Dp K H v (D.py d) ∧ (D.py d).canLay0 = true
theorem sqt_sub (hr : Hr T G μ st H) {a : Addr} {xs : List V} (h : SqT T.K G a xs) : SqT T.K H a xs := sqt_mono hr.sub h
theorem sql_sub (hr : Hr T G μ st H) {a : Addr} {xs : List V} (h : SqL T.K G a xs) : SqL T.K H a xs := sql_mono hr.sub h
mutual
theorem sub_lies {g : Nat → Option D} (hg : ∀ (i : Nat) (a : Addr) (d : D), μ[i]? = some a → g i = some d → Lies T.K H (.ref a) d) :
    ∀ (d : D) {v : V} {d' : D}, Rp T H μ v d → D.sub g d = some d' → Lies T.K H v d'
  | .non, _, _, r, e => by cases r; cases e; exact ⟨.non, rfl⟩
  | .bl b, _, _, r, e => by cases r; cases e; exact ⟨.bl b, rfl⟩
  | .int i, _, _, r, e => by cases r; cases e; exact ⟨.int i, rfl⟩
  | .str s, _, _, r, e => by
    cases r with
    | str _ h => cases e; exact ⟨.str _, h.1⟩
  | .tup xs, _, _, r, e => by
    cases r with
    | tup h1 h2 =>
      simp only [D.sub, Option.map_eq_some_iff] at e
      obtain ⟨ys, e1, rfl⟩ := e
      obtain ⟨q1, q2⟩ := subL_lies hg xs h2 e1
      exact ⟨.tup h1 q1, q2⟩
  | .lst xs, _, _, r, e => by
    cases r with
    | lst h1 h2 =>
      simp only [D.sub, Option.map_eq_some_iff] at e
      obtain ⟨ys, e1, rfl⟩ := e
      obtain ⟨q1, q2⟩ := subL_lies hg xs h2 e1
      exact ⟨.lst (.inl (.inl h1)) q1, q2⟩
  | .ro xs, _, _, r, e => by
    cases r with
    | ro h1 h2 =>
      simp only [D.sub, Option.map_eq_some_iff] at e
      obtain ⟨ys, e1, rfl⟩ := e
      obtain ⟨q1, q2⟩ := subL_lies hg xs h2 e1
      exact ⟨.lst h1 q1, q2⟩
  | .loc i, _, d', r, e => by
    cases r with
    | loc h => exact hg i _ d' h e
  | .exc _ _, _, _, _, e => by cases e
theorem subL_lies {g : Nat → Option D} (hg : ∀ (i : Nat) (a : Addr) (d : D), μ[i]? = some a → g i = some d → Lies T.K H (.ref a) d) :
    ∀ (ds : List D) {vs : List V} {es : List D}, RpL T H μ vs ds → D.subL g ds = some es → DpAll T.K H vs (D.pyL es) ∧ PyData.canLayAll0 (D.pyL es) = true
  | [], _, _, r, e => by cases r; cases e; exact ⟨.nil, rfl⟩
  | x :: xs, _, es, r, e => by
    cases r with
    | cons r1 r2 =>
      simp only [D.subL] at e
      cases h1 : D.sub g x with
      | none => rw [h1] at e; cases e
      | some y =>
        rw [h1] at e
        simp only at e
        cases h2 : D.subL g xs with
        | none => rw [h2] at e; cases e
        | some ys =>
          rw [h2] at e
          cases e
          obtain ⟨p1, p2⟩ := sub_lies hg x r1 h1
          obtain ⟨q1, q2⟩ := subL_lies hg xs r2 h2
          exact ⟨.cons p1 q1, by simp [D.pyL, PyData.canLayAll0, p2, q2]⟩
end
theorem Hr.toH (hr : Hr T G μ st H) : Gm G μ H μ := ⟨hr.sub, fun _ _ h => h⟩
theorem frz_lies (hr : Hr T G μ st H) : ∀ (f : Nat) {d : D} {v : V} {d' : D}, Rp T H μ v d → frz st 0 f d = some d' → Lies T.K H v d' := by
  intro f
  induction f with
  | zero => exact fun {d v d'} r e => sub_lies (fun i a x _ q => by simp at q) d r e
  | succ f ih =>
    intro d v d' r e
    refine sub_lies (fun i a x hi q => ?_) d r e
    simp only [Nat.not_lt_zero, if_false] at q
    obtain ⟨_, o, ho, hob⟩ := hr.obj i a hi
    rw [ho] at q
    cases hob with
    | @lst vs ds h1 h2 => exact ih (.lst h1 (h2.mono hr.toH)) q
theorem full_lies (hr : Hr T G μ st H) {d : D} {v : V} {d' : D} (r : Rp T G μ v d) (e : full st d = some d') : Lies T.K H v d' := frz_lies hr 5 (r.mono hr.toH) e
end
/-! ### what a thing is, by the store -/
section
variable {T : Tb} {G : Hp} {μ : List Addr} {st : Sto} {H : Hp}
/-- a list that stands at an address of its own -/
theorem lstD_at (hr : Hr T G μ st H) {d : D} {v : V} {xs : List D} (r : Rp T G μ v d) (e : lstD st d = some xs) : ∃ a vs, v = .ref a ∧ H a = some (.lst vs) ∧ RpL T G μ vs xs := by
  cases r with
  | lst h1 h2 => cases e; exact ⟨_, _, rfl, hr.sub _ _ h1, h2⟩
  | @loc a i h =>
    simp only [lstD] at e
    cases q : st[i]? with
    | none => rw [q] at e; cases e
    | some o =>
      rw [q] at e
      cases o with
      | dct _ => cases e
      | lst ys =>
        cases e
        obtain ⟨vs, h1, h2⟩ := hr.at_ h q
        exact ⟨a, vs, rfl, h1, h2⟩
  | _ => cases e
/-- a list or a tuple -/
theorem seqD_at (hr : Hr T G μ st H) {d : D} {v : V} {xs : List D} (r : Rp T G μ v d) (e : seqD st d = some xs) : ∃ a vs, v = .ref a ∧ RpL T G μ vs xs ∧ ((SqL T.K H a vs ∧ ∀ ys, d ≠ .tup ys) ∨ (SqT T.K H a vs ∧ d = .tup xs)) := by
  cases r with
  | tup h1 h2 => cases e; exact ⟨_, _, rfl, h2, .inr ⟨sqt_sub hr h1, rfl⟩⟩
  | lst h1 h2 => cases e; exact ⟨_, _, rfl, h2, .inl ⟨.inl (.inl (hr.sub _ _ h1)), fun _ z => by cases z⟩⟩
  | ro h1 h2 => cases e; exact ⟨_, _, rfl, h2, .inl ⟨sql_sub hr h1, fun _ z => by cases z⟩⟩
  | @loc a i h =>
    simp only [seqD] at e
    cases q : st[i]? with
    | none => rw [q] at e; cases e
    | some o =>
      rw [q] at e
      cases o with
      | dct _ => cases e
      | lst ys =>
        cases e
        obtain ⟨vs, h1, h2⟩ := hr.at_ h q
        exact ⟨a, vs, rfl, h2, .inl ⟨.inl (.inl h1), fun _ z => by cases z⟩⟩
  | _ => cases e
theorem txS_len (s : Tx) : (txS s).length = s.length := by simp [txS, Str.length]
theorem txS_app (a b : Tx) : txS (a ++ b) = txS a ++ txS b := by
  show (⟨(a ++ b).toArray⟩ : Str) = Str.append ⟨a.toArray⟩ ⟨b.toArray⟩
  simp [Str.append]
theorem strOk_app {a b : Tx} (h1 : PyData.strOk (txS a) = true) (h2 : PyData.strOk (txS b) = true) : PyData.strOk (txS (a ++ b)) = true := by
  simp only [PyData.strOk, List.all_toArray, List.all_append, Bool.and_eq_true] at *
  exact ⟨h1, h2⟩
theorem strOk_sub {a b : Tx} (h1 : PyData.strOk (txS a) = true) (h : ∀ c ∈ b, c ∈ a) : PyData.strOk (txS b) = true := by
  simp only [PyData.strOk, List.all_toArray, List.all_eq_true] at *
  exact fun c hc => h1 c (h c hc)
end
/-! ### operators -/
def BO.op : BO → Operator
  | .add => .Add | .sub => .Sub | .mul => .Mult | .fdiv => .FloorDiv | .mod => .Mod | .pow => .Pow | .shl => .LShift
def rB (T : Tb) (op : BO) (W : XK) : R2 := fun x y H Q => ∃ (G : Hp) (μ : List Addr) (st : Sto) (dx dy : D), Hr T G μ st H ∧ Rp T G μ x dx ∧ Rp T G μ y dy ∧ Pr T (fun G μ v d => Rp T G μ v d) W G μ H Q (R.of (opB op dx dy st) st)
section
variable {X : Cx} {T : Tb} {W : XK}
theorem op_B (hK : T.K = X.K) (op : BO) : OpR X (binaryOp op.op) (rB T op W) := by
  intro pins s σ H x y v u Q I rx ry h
  obtain ⟨G, μ, st, dx, dy, hr, px, py, p⟩ := h
  obtain ⟨z, e, p⟩ := p.of
  cases op with
  | sub =>
    cases px with
    | int i => cases py with
      | int j => cases e; exact op_sub pins s σ H _ _ v u Q I rx ry ⟨i, j, rfl, rfl, p.here hr (.int _)⟩
      | _ => cases e
    | _ => cases e
  | mul =>
    cases px with
    | int i => cases py with
      | int j =>
        simp only [opB] at e
        split at e
        · rename_i hc
          cases e
          exact op_mulW pins s σ H _ _ v u Q I rx ry ⟨i, j, rfl, rfl, (show i.natAbs.log2 + j.natAbs.log2 < 1000000 from of_decide_eq_true hc), p.here hr (.int _)⟩
        · cases e
      | _ => cases e
    | _ => cases e
  | fdiv =>
    cases px with
    | int i => cases py with
      | int j =>
        simp only [opB] at e
        split at e
        · rename_i hc
          cases e
          exact op_fdivW pins s σ H _ _ v u Q I rx ry ⟨i, j, rfl, rfl, hc, p.here hr (.int _)⟩
        · split at e
          · rename_i hc
            cases e
            exact op_fdivN pins s σ H _ _ v u Q I rx ry ⟨i, j, rfl, rfl, ⟨by omega, hc.2⟩, p.here hr (.int _)⟩
          · cases e
      | _ => cases e
    | _ => cases e
  | mod =>
    cases px with
    | int i => cases py with
      | int j =>
        simp only [opB] at e
        split at e
        · rename_i hc
          cases e
          exact op_mod pins s σ H _ _ v u Q I rx ry ⟨i, j, rfl, rfl, hc, p.here hr (.int _)⟩
        · split at e
          · rename_i hc
            cases e
            exact op_modN pins s σ H _ _ v u Q I rx ry ⟨i, j, rfl, rfl, by omega, p.here hr (.int _)⟩
          · cases e
      | _ => cases e
    | _ => cases e
  | pow =>
    cases px with
    | int i => cases py with
      | int j =>
        simp only [opB] at e
        split at e
        · rename_i hc
          cases e
          exact op_pow pins s σ H _ _ v u Q I rx ry ⟨i, j, rfl, rfl, hc, p.here hr (.int _)⟩
        · cases e
      | _ => cases e
    | _ => cases e
  | shl =>
    cases px with
    | int i => cases py with
      | int j =>
        simp only [opB] at e
        split at e
        · rename_i hc
          cases e
          exact op_shl pins s σ H _ _ v u Q I rx ry ⟨i, j, rfl, rfl, hc, p.here hr (.int _)⟩
        · cases e
      | _ => cases e
    | _ => cases e
  | add =>
    have lists : ∀ {xs ys : List D}, lstD st dx = some xs → lstD st dy = some ys → xs.length + ys.length ≤ SZ → z = .lst (xs ++ ys) → wpAny (model X.prog X.w) X.A (binaryOp BO.add.op v u) (EP X pins σ Q) X.xe s := by
      intro xs ys h1 h2 hz ez
      obtain ⟨a, vs, rfl, ha, ra⟩ := lstD_at hr px h1
      obtain ⟨b, ws, rfl, hb, rb⟩ := lstD_at hr py h2
      refine op_cat pins s σ H _ _ v u Q I rx ry ⟨a, b, vs, ws, rfl, rfl, ha, hb, sz_le (by rw [ra.len, rb.len]; exact hz), fun q hq => ?_⟩
      obtain ⟨k1, k2⟩ := hr.known (o := .lst (vs ++ ws)) hq
      subst ez
      exact p _ _ _ _ k2 k1 (.lst upd_same ((ra.app rb).mono k2.1))
    cases px with
    | int i => cases py with
      | int j => cases e; exact op_add pins s σ H _ _ v u Q I rx ry ⟨i, j, rfl, rfl, p.here hr (.int _)⟩
      | _ => cases e
    | str a ha => cases py with
      | str b hb =>
        simp only [opB] at e
        split at e
        · rename_i hc
          cases e
          refine op_add_str pins s σ H _ _ v u Q I rx ry ⟨_, _, rfl, rfl, sz_le (by rw [txS_len, txS_len]; exact hc), ?_⟩
          rw [← txS_app]
          exact p.here hr (.str _ ⟨strOk_app ha.1 hb.1, sz_le (by rw [List.length_append]; exact hc)⟩)
        · cases e
      | _ => cases e
    | @tup a vs ds h1 h2 => cases py with
      | @tup b ws es k1 k2 =>
        simp only [opB] at e
        split at e
        · rename_i hc
          cases e
          refine op_catA pins s σ H _ _ v u Q I rx ry ⟨a, b, vs, ws, rfl, rfl, hK ▸ sqt_sub hr h1, hK ▸ sqt_sub hr k1, sz_le (by rw [h2.len, k2.len]; exact hc), fun z0 => ?_, fun _ z0 => ?_, fun _ _ q hq => ?_⟩
          · subst z0
            cases h2
            exact p.here hr (.tup k1 k2)
          · subst z0
            cases k2
            exact p.here hr (.tup h1 (by rw [List.append_nil]; exact h2))
          · obtain ⟨k1, k3⟩ := hr.known (o := .tup (vs ++ ws)) hq
            exact p _ _ _ _ k3 k1 (.tup (.inl (.inl upd_same)) ((h2.app k2).mono k3.1))
        · cases e
      | _ => cases e
    | lst h1 h2 =>
      simp only [opB] at e
      split at e
      · split at e
        · cases e; exact lists (by assumption) (by assumption) (by assumption) rfl
        · cases e
      · cases e
    | loc h1 =>
      simp only [opB] at e
      split at e
      · split at e
        · cases e; exact lists (by assumption) (by assumption) (by assumption) rfl
        · cases e
      · cases e
    | _ => cases py <;> cases e
end
/-! ### comparisons -/
def CO.op : CO → CmpOp
  | .eq => .Eq | .ne => .NotEq | .lt => .Lt | .le => .LtE | .gt => .Gt | .ge => .GtE | .mem => .In | .nmem => .NotIn
def IO.op : IO → CmpOp
  | .isN => .Is | .isnN => .IsNot | .isB _ => .Is | .isnB _ => .IsNot
def rC (T : Tb) (op : CO) : R2 := fun x y H Q => ∃ (G : Hp) (μ : List Addr) (st : Sto) (dx dy : D) (b : Bool), Hr T G μ st H ∧ Rp T G μ x dx ∧ Rp T G μ y dy ∧ opC op dx dy st = some b ∧ Q (.bl b) H
section
variable {X : Cx} {T : Tb}
theorem op_C (hK : T.K = X.K) (hu : X.A.units + 100 < cLine) (op : CO) : OpR X (compareOp op.op) (rC T op) := by
  intro pins s σ H x y v u Q I rx ry h
  obtain ⟨G, μ, st, dx, dy, b, hr, px, py, e, q⟩ := h
  have eqs : ∀ {c : Bool}, eqD st dx dy = some c → ∃ da db as bs, Reads s.heap v da as ∧ Reads s.heap u db bs ∧ da.canLay0 = true ∧ db.canLay0 = true ∧ X.A.units + min da.depth db.depth < cLine ∧ c = PyData.eqv da db := by
    intro c e
    unfold eqD at e
    cases h1 : full st dx with
    | none => rw [h1] at e; cases e
    | some a =>
      cases h2 : full st dy with
      | none => rw [h1, h2] at e; cases e
      | some a2 =>
        rw [h1, h2] at e
        simp only at e
        split at e
        · rename_i hd
          cases e
          obtain ⟨d1, l1⟩ := full_lies hr px h1
          obtain ⟨d2, l2⟩ := full_lies hr py h2
          rw [hK] at d1 d2
          obtain ⟨as, r1⟩ := Dp.reads I _ x v d1 rx
          obtain ⟨bs, r2⟩ := Dp.reads I _ y u d2 ry
          have k1 := depth_py a
          have k2 := depth_py a2
          exact ⟨_, _, as, bs, r1, r2, l1, l2, by omega, (eqv_py _ _).symm⟩
        · cases e
  have nums : ∀ {f : Int → Int → Bool}, (∀ i j, dx = .int i → dy = .int j → OpR X (compareOp op.op) (rI0 fun i j => .bl (f i j)) ∧ b = f i j) → (∃ i j, dx = .int i ∧ dy = .int j) → wpAny (model X.prog X.w) X.A (compareOp op.op v u) (EP X pins σ Q) X.xe s := by
    intro f k ⟨i, j, e1, e2⟩
    subst e1 e2
    cases px
    cases py
    obtain ⟨k1, k2⟩ := k i j rfl rfl
    subst k2
    exact k1 pins s σ H _ _ v u Q I rx ry ⟨i, j, rfl, rfl, q⟩
  have mems : ∀ {c : Bool}, memD st dx dy = some c → (∃ (c1 : Nat) (z : Str), x = .str ⟨#[c1]⟩ ∧ y = .str z ∧ c = decide (c1 ∈ z.cps.toList)) ∨
      ∃ da xs as bs, ((Reads s.heap u (.list xs) as) ∨ (Reads s.heap u (.tuple xs) as)) ∧ Reads s.heap v da bs ∧ PyData.canLayAll0 xs = true ∧ da.canLay0 = true ∧ X.A.units + 1 + min (PyData.depthAll xs) da.depth < cLine ∧ c = xs.any (fun z => PyData.eqv z da) := by
    intro c e
    have go : ∀ (a : D) (ys : List D), full st dx = some a → (full st dy = some (.tup ys) ∨ full st dy = some (.lst ys)) → D.depth a ≤ 60 ∧ D.depthL ys ≤ 60 → c = ys.any (fun z => D.eqv z a) →
      ∃ da xs as bs, ((Reads s.heap u (.list xs) as) ∨ (Reads s.heap u (.tuple xs) as)) ∧ Reads s.heap v da bs ∧ PyData.canLayAll0 xs = true ∧ da.canLay0 = true ∧ X.A.units + 1 + min (PyData.depthAll xs) da.depth < cLine ∧ c = xs.any (fun z => PyData.eqv z da) := by
      intro a ys h1 h2 hd ec
      obtain ⟨d1, l1⟩ := full_lies hr px h1
      rw [hK] at d1
      obtain ⟨bs, r1⟩ := Dp.reads I _ x v d1 rx
      have k1 := depth_py a
      have k2 := depthL_py ys
      have hany : ∀ ys : List D, ys.any (fun z => D.eqv z a) = (D.pyL ys).any (fun z => PyData.eqv z (D.py a)) := by
        intro ys
        induction ys with
        | nil => rfl
        | cons z r ih => simp [D.pyL, ih, eqv_py]
      rcases h2 with h2 | h2
      · obtain ⟨d2, l2⟩ := full_lies hr py h2
        rw [hK] at d2
        obtain ⟨as, r2⟩ := Dp.reads I _ y u d2 ry
        exact ⟨_, _, as, bs, .inr r2, r1, l2, l1, by omega, ec.trans (hany ys)⟩
      · obtain ⟨d2, l2⟩ := full_lies hr py h2
        rw [hK] at d2
        obtain ⟨as, r2⟩ := Dp.reads I _ y u d2 ry
        exact ⟨_, _, as, bs, .inl r2, r1, l2, l1, by omega, ec.trans (hany ys)⟩
    unfold memD at e
    split at e
    · rename_i a ys h1 h2
      split at e
      · rename_i hd
        cases e
        exact .inr (go a ys h1 (.inl h2) hd rfl)
      · cases e
    · rename_i a ys h1 h2
      split at e
      · rename_i hd
        cases e
        exact .inr (go a ys h1 (.inr h2) hd rfl)
      · cases e
    · rename_i c1 z h1 h2
      cases e
      have f1 : dx = .str [c1] := by
        unfold full frz at h1
        cases px <;> simp [D.sub] at h1
        · exact congrArg D.str h1
        · rename_i i hi
          have key : ∀ k d', frz st 0 k (.lst d') ≠ some (.str [c1]) := by
            intro k d' z
            cases k <;> simp [frz, D.sub] at z
          split at h1
          · exact absurd h1 (key _ _)
          · cases h1
      have f2 : dy = .str z := by
        unfold full frz at h2
        cases py <;> simp [D.sub] at h2
        · exact congrArg D.str h2
        · rename_i i hi
          have key : ∀ k d', frz st 0 k (.lst d') ≠ some (.str z) := by
            intro k d' z
            cases k <;> simp [frz, D.sub] at z
          split at h2
          · exact absurd h2 (key _ _)
          · cases h2
      subst f1 f2
      cases px
      cases py
      exact .inl ⟨c1, txS z, rfl, rfl, by simp [txS]⟩
    · cases e
  cases op with
  | lt => 
    simp only [opC] at e
    split at e
    · cases e; exact nums (fun i j e1 e2 => by cases e1; cases e2; exact ⟨op_lt, rfl⟩) ⟨_, _, rfl, rfl⟩
    · cases e
  | le => 
    simp only [opC] at e
    split at e
    · cases e; exact nums (fun i j e1 e2 => by cases e1; cases e2; exact ⟨op_le, rfl⟩) ⟨_, _, rfl, rfl⟩
    · cases e
  | gt => 
    simp only [opC] at e
    split at e
    · cases e; exact nums (f := fun i j => decide (j < i)) (fun i j e1 e2 => by cases e1; cases e2; exact ⟨op_gt, rfl⟩) ⟨_, _, rfl, rfl⟩
    · cases e
  | ge => 
    simp only [opC] at e
    split at e
    · cases e; exact nums (f := fun i j => decide (j ≤ i)) (fun i j e1 e2 => by cases e1; cases e2; exact ⟨op_ge, rfl⟩) ⟨_, _, rfl, rfl⟩
    · cases e
  | eq =>
    obtain ⟨da, db, as, bs, r1, r2, l1, l2, hd, ec⟩ := eqs e
    exact SeqAt.compareEq_reads r1 r2 l1 l2 hd ⟨.bl _, H, I, rfl, ec ▸ q⟩
  | ne =>
    simp only [opC, Option.map_eq_some_iff] at e
    obtain ⟨c, e1, rfl⟩ := e
    obtain ⟨da, db, as, bs, r1, r2, l1, l2, hd, ec⟩ := eqs e1
    exact SeqAt.compareNe_reads r1 r2 l1 l2 hd ⟨.bl _, H, I, rfl, ec ▸ q⟩
  | mem =>
    rcases mems e with ⟨c1, z, rfl, rfl, ec⟩ | ⟨da, xs, as, bs, ru | ru, rv, l1, l2, hd, ec⟩
    · exact op_in_sign pins s σ H _ _ v u Q I rx ry ⟨c1, z, rfl, rfl, ec ▸ q⟩
    · exact SeqAt.in_list_reads ru rv l1 l2 hd ⟨.bl _, H, I, rfl, ec ▸ q⟩
    · exact SeqAt.in_tuple_reads ru rv l1 l2 hd ⟨.bl _, H, I, rfl, ec ▸ q⟩
  | nmem =>
    simp only [opC, Option.map_eq_some_iff] at e
    obtain ⟨c, e1, rfl⟩ := e
    rcases mems e1 with ⟨c1, z, rfl, rfl, ec⟩ | ⟨da, xs, as, bs, ru | ru, rv, l1, l2, hd, ec⟩
    · exact op_notIn_sign pins s σ H _ _ v u Q I rx ry ⟨c1, z, rfl, rfl, ec ▸ q⟩
    · exact SeqAt.notIn_list_reads ru rv l1 l2 hd ⟨.bl _, H, I, rfl, ec ▸ q⟩
    · exact SeqAt.notIn_tuple_reads ru rv l1 l2 hd ⟨.bl _, H, I, rfl, ec ▸ q⟩
end
end DI
set_option Elab.async false
set_option linter.all false
set_option maxRecDepth 100000
set_option maxHeartbeats 4000000
set_option autoImplicit false
namespace DI
open PySem PySem.Spec PyProof.Rows L2
abbrev RpD (T : Tb) : Hp → List Addr → V → D → Prop := fun G μ v d => Rp T G μ v d
abbrev WF0 : XK := fun _ _ _ => False
theorem Pr.ofW {α β : Type} {T : Tb} {Rel : Hp → List Addr → β → α → Prop} {W W' : XK} {G H : Hp} {μ : List Addr} {Q : β → Hp → Prop} {o : Option α} {st : Sto} (h : Pr T Rel W G μ H Q (R.of o st)) : Pr T Rel W' G μ H Q (R.of o st) := by
  cases o with
  | none => exact h
  | some a => exact h
section
variable {X : Cx} {T : Tb} {W : L2.St → XK} {a b c : Expr} {fa fb fc : Env → Sto → R D} {pos : Pos}
theorem ex_bin (hK : T.K = X.K) (op : BO) (ha : PE X a (tEx T W fa)) (hb : PE X b (tEx T W fb)) :
    PE X (.BinOp a op.op b pos) (tEx T W fun ρ st => (fa ρ st).bind fun x st => (fb ρ st).bind fun y st => R.of (opB op x y st) st) := by
  refine pe_of (pe_op (op_B (W := WF0) hK op) ha hb) fun σ H Q h => ?_
  obtain ⟨G, μ, ρ, st, hr, er, p⟩ := h
  refine tR.imp (tR.bind (Rel := RpD T) hr er p) fun x H1 ⟨G1, m1, s1, dx, e1, hr1, r1, p1⟩ => ?_
  refine tR.imp (tR.bind (Rel := RpD T) hr1 (er.mono e1.1) p1) fun y H2 ⟨G2, m2, s2, dy, e2, hr2, r2, p2⟩ => ?_
  exact ⟨G2, m2, s2, dx, dy, hr2, r1.mono e2.1, r2, p2.ofW⟩
theorem ex_neg (ha : PE X a (tEx T W fa)) : PE X (.UnaryOp .USub a pos) (tEx T W fun ρ st => (fa ρ st).bind fun x st => match x with
    | .int i => .ok (.int (-i)) st
    | _ => .bad) := by
  refine pe_of (pe_un un_neg ha) fun σ H Q h => ?_
  obtain ⟨G, μ, ρ, st, hr, er, p⟩ := h
  refine tR.imp (tR.bind (Rel := RpD T) hr er p) fun x H1 ⟨G1, m1, s1, dx, e1, hr1, r1, p1⟩ => ?_
  cases r1 with
  | int i => exact ⟨i, rfl, p1.here hr1 (.int _)⟩
  | _ => exact p1.elim
theorem ex_cmp (hK : T.K = X.K) (hu : X.A.units + 100 < cLine) (op : CO) (hm : behindInMarks op.op b = false) (ha : PE X a (tEx T W fa)) (hb : PE X b (tEx T W fb)) :
    PE X (.Compare a [op.op] [b] pos) (tEx T W fun ρ st => (fa ρ st).bind fun x st => (fb ρ st).bind fun y st => R.of ((opC op x y st).map .bl) st) := by
  refine pe_of (pe_cmpR (op_C hK hu op) ha hb hm) fun σ H Q h => ?_
  obtain ⟨G, μ, ρ, st, hr, er, p⟩ := h
  refine tR.imp (tR.bind (Rel := RpD T) hr er p) fun x H1 ⟨G1, m1, s1, dx, e1, hr1, r1, p1⟩ => ?_
  refine tR.imp (tR.bind (Rel := RpD T) hr1 (er.mono e1.1) p1) fun y H2 ⟨G2, m2, s2, dy, e2, hr2, r2, p2⟩ => ?_
  obtain ⟨z, ez, p3⟩ := p2.of
  simp only [Option.map_eq_some_iff] at ez
  obtain ⟨k, ek, rfl⟩ := ez
  exact ⟨G2, m2, s2, dx, dy, k, hr2, r1.mono e2.1, r2, ek, p3.here hr2 (.bl _)⟩
def IO.lit : IO → Expr → Bool
  | .isN, .Constant .none _ _ => true
  | .isnN, .Constant .none _ _ => true
  | .isB b, .Constant (.bool c) _ _ => b == c
  | .isnB b, .Constant (.bool c) _ _ => b == c
  | _, _ => false
theorem rp_non {G : Hp} {μ : List Addr} {x : V} {d : D} (r : Rp T G μ x d) : opI .isN d = some (decide (x = .non)) ∧ opI .isnN d = some (!decide (x = .non)) := by
  cases r <;> exact ⟨rfl, rfl⟩
theorem ex_is {op : IO} (hl : op.lit b = true) (ha : PE X a (tEx T W fa)) : PE X (.Compare a [op.op] [b] pos) (tEx T W fun ρ st => (fa ρ st).bind fun x st => R.of ((opI op x).map .bl) st) := by
  have go : ∀ {r : R2} {tb : TE}, PE X (.Compare a [op.op] [b] pos) (tOp r (tEx T W fa) tb) → (∀ (x : V) (G : Hp) (μ : List Addr) (dx : D) (k : Bool) (σ : L2.St) (H : Hp) (Q : VK), Rp T G μ x dx → opI op dx = some k → Q (.bl k) H → tb σ H fun y H2 => r x y H2 Q) →
      PE X (.Compare a [op.op] [b] pos) (tEx T W fun ρ st => (fa ρ st).bind fun x st => R.of ((opI op x).map .bl) st) := by
    intro r tb h k
    refine pe_of h fun σ H Q h => ?_
    obtain ⟨G, μ, ρ, st, hr, er, p⟩ := h
    refine tR.imp (tR.bind (Rel := RpD T) hr er p) fun x H1 ⟨G1, m1, s1, dx, e1, hr1, r1, p1⟩ => ?_
    obtain ⟨z, ez, p3⟩ := p1.of
    simp only [Option.map_eq_some_iff] at ez
    obtain ⟨kb, ek, rfl⟩ := ez
    exact k x G1 m1 dx kb σ H1 Q r1 ek (p3.here hr1 (.bl _))
  cases op with
  | isN =>
    cases b <;> try (simp [IO.lit] at hl; done)
    rename_i c k p
    cases c <;> try (simp [IO.lit] at hl; done)
    refine go (pe_cmpR op_isN ha pe_non (nomark _)) fun x G μ dx k σ H Q r e q => ⟨rfl, ?_⟩
    rw [(rp_non r).1] at e
    cases e
    exact q
  | isnN =>
    cases b <;> try (simp [IO.lit] at hl; done)
    rename_i c k p
    cases c <;> try (simp [IO.lit] at hl; done)
    refine go (pe_cmpR op_notN ha pe_non (nomark _)) fun x G μ dx k σ H Q r e q => ⟨rfl, ?_⟩
    rw [(rp_non r).2] at e
    cases e
    exact q
  | isB c0 =>
    cases b <;> try (simp [IO.lit] at hl; done)
    rename_i c k p
    cases c <;> try (simp [IO.lit] at hl; done)
    rename_i c1
    have ec : c0 = c1 := by simpa [IO.lit] using hl
    subst ec
    refine go (pe_cmpR (op := .Is) op_isBl ha pe_bl (by rfl)) fun x G μ dx k σ H Q r e q => ?_
    cases r with
    | bl z =>
      cases e
      exact ⟨_, _, rfl, rfl, by rw [show decide (z = c0) = (z == c0) from by cases z <;> cases c0 <;> rfl]; exact q⟩
    | _ => cases e
  | isnB c0 =>
    cases b <;> try (simp [IO.lit] at hl; done)
    rename_i c k p
    cases c <;> try (simp [IO.lit] at hl; done)
    rename_i c1
    have ec : c0 = c1 := by simpa [IO.lit] using hl
    subst ec
    refine go (pe_cmpR (op := .IsNot) op_notBl ha pe_bl (by rfl)) fun x G μ dx k σ H Q r e q => ?_
    cases r with
    | bl z =>
      cases e
      exact ⟨_, _, rfl, rfl, by rw [show (!decide (z = c0)) = !(z == c0) from by cases z <;> cases c0 <;> rfl]; exact q⟩
    | _ => cases e
theorem ex_chain (hK : T.K = X.K) (hu : X.A.units + 100 < cLine) (op op' : CO) (hm : lastMarks [op.op, op'.op] [b, c] = false) (ha : PE X a (tEx T W fa)) (hb : PE X b (tEx T W fb)) (hc : PE X c (tEx T W fc)) :
    PE X (.Compare a [op.op, op'.op] [b, c] pos) (tEx T W fun ρ st => (fa ρ st).bind fun x st => (fb ρ st).bind fun y st => match opC op x y st with
      | some true => (fc ρ st).bind fun z st => R.of ((opC op' y z st).map .bl) st
      | some false => .ok (.bl false) st
      | none => .bad) := by
  refine pe_of (pe_chain (op_C hK hu op) (op_C hK hu op') ha hb hc hm) fun σ H Q h => ?_
  obtain ⟨G, μ, ρ, st, hr, er, p⟩ := h
  refine tR.imp (tR.bind (Rel := RpD T) hr er p) fun x H1 ⟨G1, m1, s1, dx, e1, hr1, r1, p1⟩ => ?_
  refine tR.imp (tR.bind (Rel := RpD T) hr1 (er.mono e1.1) p1) fun y H2 ⟨G2, m2, s2, dy, e2, hr2, r2, p2⟩ => ?_
  cases h1 : opC op dx dy s2 with
  | none => rw [h1] at p2; exact p2.elim
  | some k =>
    refine ⟨G2, m2, s2, dx, dy, k, hr2, r1.mono e2.1, r2, h1, k, rfl, ?_⟩
    rw [h1] at p2
    cases k with
    | false => exact p2.here hr2 (.bl _)
    | true =>
      refine tR.imp (tR.bind (Rel := RpD T) hr2 ((er.mono e1.1).mono e2.1) p2) fun z H3 ⟨G3, m3, s3, dz, e3, hr3, r3, p3⟩ => ?_
      obtain ⟨z, ez, p4⟩ := p3.of
      simp only [Option.map_eq_some_iff] at ez
      obtain ⟨k, ek, rfl⟩ := ez
      exact ⟨G3, m3, s3, dy, dz, k, hr3, r2.mono e3.1, r3, ek, p4.here hr3 (.bl _)⟩
/-! ### truth -/
theorem tru_V {G : Hp} {μ : List Addr} {st : Sto} {H : Hp} {x : V} {d : D} {k : Bool} (hK : T.K = X.K) (hr : Hr T G μ st H) (r : Rp T G μ x d) (e : truD st d = some k) : TruV X.K x H k := by
  cases r with
  | non => cases e; rfl
  | bl b => cases e; rfl
  | int i => cases e; rfl
  | str s h =>
    cases e
    refine ⟨by rw [txS_len]; exact h.2, ?_⟩
    rw [txS_len]
    cases s with
    | nil => rfl
    | cons c s => simp; omega
  | tup h1 h2 =>
    cases e
    refine .inr (.inl ⟨_, hK ▸ sqt_sub hr h1, ?_⟩)
    cases h2 <;> rfl
  | lst h1 h2 =>
    cases e
    refine .inl ⟨_, .inl (.inl (hr.sub _ _ h1)), ?_⟩
    cases h2 <;> rfl
  | ro h1 h2 =>
    cases e
    refine .inl ⟨_, hK ▸ sql_sub hr h1, ?_⟩
    cases h2 <;> rfl
  | @loc a i h =>
    simp only [truD] at e
    obtain ⟨_, o, ho, hob⟩ := hr.obj i a h
    rw [ho] at e
    cases hob with
    | lst h1 h2 =>
      cases e
      refine .inl ⟨_, .inl (.inl h1), ?_⟩
      cases h2 <;> rfl
  | exc h1 h2 h3 => cases e
def teT (f : Env → Sto → R D) : Env → Sto → R Bool := fun ρ st => (f ρ st).bind fun x st => R.of (truD st x) st
theorem et_truth (hK : T.K = X.K) (ha : PE X a (tEx T W fa)) (he : ∀ whole, isTrue a X.env whole = (do let v ← whole; standAt a.pos; holding [v] (truthy v))) : PT X a (tBo T W (teT fa)) := by
  refine pt_of (pt_truth ha he) fun σ H Q h => ?_
  obtain ⟨G, μ, ρ, st, hr, er, p⟩ := h
  refine tR.imp (tR.bind (Rel := RpD T) hr er p) fun x H1 ⟨G1, m1, s1, dx, e1, hr1, r1, p1⟩ => ?_
  obtain ⟨k, ek, p2⟩ := p1.of
  exact ⟨k, tru_V hK hr1 r1 ek, p2.here hr1 rfl⟩
def fAnd (fa fb : Env → Sto → R D) : Env → Sto → R D := fun ρ st => (fa ρ st).bind fun x st => match truD st x with
  | some true => fb ρ st
  | some false => .ok x st
  | none => .bad
def fOr (fa fb : Env → Sto → R D) : Env → Sto → R D := fun ρ st => (fa ρ st).bind fun x st => match truD st x with
  | some true => .ok x st
  | some false => fb ρ st
  | none => .bad
def fNot (fa : Env → Sto → R D) : Env → Sto → R D := fun ρ st => (fa ρ st).bind fun x st => match truD st x with
  | some b => .ok (.bl (!b)) st
  | none => .bad
def fIfe (fc fa fb : Env → Sto → R D) : Env → Sto → R D := fun ρ st => (fc ρ st).bind fun x st => match truD st x with
  | some true => fa ρ st
  | some false => fb ρ st
  | none => .bad
theorem te_and (ρ : Env) (st : Sto) : teT (fAnd fa fb) ρ st = (teT fa ρ st).bind fun k st => if k then teT fb ρ st else .ok false st := by
  unfold teT fAnd
  cases h : fa ρ st with
  | ok x st' =>
    simp only [R.bind]
    cases ht : truD st' x with
    | none => rfl
    | some k => cases k with
      | true => rfl
      | false => simp [R.bind, R.of, ht]
  | _ => rfl
theorem te_or (ρ : Env) (st : Sto) : teT (fOr fa fb) ρ st = (teT fa ρ st).bind fun k st => if k then .ok true st else teT fb ρ st := by
  unfold teT fOr
  cases h : fa ρ st with
  | ok x st' =>
    simp only [R.bind]
    cases ht : truD st' x with
    | none => rfl
    | some k => cases k with
      | false => rfl
      | true => simp [R.bind, R.of, ht]
  | _ => rfl
theorem te_not (ρ : Env) (st : Sto) : teT (fNot fa) ρ st = (teT fa ρ st).bind fun k st => .ok (!k) st := by
  unfold teT fNot
  cases h : fa ρ st with
  | ok x st' =>
    simp only [R.bind]
    cases ht : truD st' x with
    | none => rfl
    | some k => rfl
  | _ => rfl
theorem ex_and {rest : List Expr} (hK : T.K = X.K) (ha : PE X a (tEx T W fa)) (hb : PE X (.BoolOp .And (b :: rest) pos) (tEx T W fb)) : PE X (.BoolOp .And (a :: b :: rest) pos) (tEx T W (fAnd fa fb)) := by
  refine pe_of (pe_andT ha hb) fun σ H Q h => ?_
  obtain ⟨G, μ, ρ, st, hr, er, p⟩ := h
  refine tR.imp (tR.bind (Rel := RpD T) hr er p) fun x H1 ⟨G1, m1, s1, dx, e1, hr1, r1, p1⟩ => ?_
  cases ht : truD s1 dx with
  | none => rw [ht] at p1; exact p1.elim
  | some k =>
    rw [ht] at p1
    refine ⟨k, tru_V hK hr1 r1 ht, ?_⟩
    cases k with
    | true => exact ⟨G1, m1, ρ, s1, hr1, er.mono e1.1, p1⟩
    | false => exact p1.here hr1 r1
theorem ex_or {rest : List Expr} (hK : T.K = X.K) (ha : PE X a (tEx T W fa)) (hb : PE X (.BoolOp .Or (b :: rest) pos) (tEx T W fb)) : PE X (.BoolOp .Or (a :: b :: rest) pos) (tEx T W (fOr fa fb)) := by
  refine pe_of (pe_orT ha hb) fun σ H Q h => ?_
  obtain ⟨G, μ, ρ, st, hr, er, p⟩ := h
  refine tR.imp (tR.bind (Rel := RpD T) hr er p) fun x H1 ⟨G1, m1, s1, dx, e1, hr1, r1, p1⟩ => ?_
  cases ht : truD s1 dx with
  | none => rw [ht] at p1; exact p1.elim
  | some k =>
    rw [ht] at p1
    refine ⟨k, tru_V hK hr1 r1 ht, ?_⟩
    cases k with
    | false => exact ⟨G1, m1, ρ, s1, hr1, er.mono e1.1, p1⟩
    | true => exact p1.here hr1 r1
theorem ex_not (hK : T.K = X.K) (ha : PE X a (tEx T W fa)) : PE X (.UnaryOp .Not a pos) (tEx T W (fNot fa)) := by
  refine pe_of (pe_notT ha) fun σ H Q h => ?_
  obtain ⟨G, μ, ρ, st, hr, er, p⟩ := h
  refine tR.imp (tR.bind (Rel := RpD T) hr er p) fun x H1 ⟨G1, m1, s1, dx, e1, hr1, r1, p1⟩ => ?_
  cases ht : truD s1 dx with
  | none => rw [ht] at p1; exact p1.elim
  | some k =>
    rw [ht] at p1
    exact ⟨k, tru_V hK hr1 r1 ht, p1.here hr1 (.bl _)⟩
theorem ex_ife {ga : Env → Sto → R Bool} (hK : T.K = X.K) (hc : PT X c (tBo T W (teT fc))) (ha : PE X a (tEx T W fa)) (hb : PE X b (tEx T W fb)) : PE X (.IfExp c a b pos) (tEx T W (fIfe fc fa fb)) := by
  refine pe_of (pe_ifExp hc ha hb) fun σ H Q h => ?_
  obtain ⟨G, μ, ρ, st, hr, er, p⟩ := h
  have e : fIfe fc fa fb ρ st = (teT fc ρ st).bind fun k st => if k then fa ρ st else fb ρ st := by
    unfold teT fIfe
    cases h : fc ρ st with
    | ok x st' =>
      simp only [R.bind]
      cases ht : truD st' x with
      | none => rfl
      | some k => cases k <;> rfl
    | _ => rfl
  rw [e] at p
  refine tR.imp (tR.bind (Rel := fun _ _ (v : Bool) (b : Bool) => v = b) hr er p) fun x H1 ⟨G1, m1, s1, dx, e1, hr1, r1, p1⟩ => ?_
  subst r1
  cases x with
  | true => exact ⟨G1, m1, ρ, s1, hr1, er.mono e1.1, p1⟩
  | false => exact ⟨G1, m1, ρ, s1, hr1, er.mono e1.1, p1⟩
/-! tests -/
theorem et_and {rest : List Expr} (ha : PT X a (tBo T W (teT fa))) (hb : PW X (.BoolOp .And (b :: rest) pos) (tBo T W (teT fb))) : PW X (.BoolOp .And (a :: b :: rest) pos) (tBo T W (teT (fAnd fa fb))) := by
  refine ⟨fun wh pins s σ H Q I h => (pw_and ha hb).run wh pins s σ H Q I ?_⟩
  obtain ⟨G, μ, ρ, st, hr, er, p⟩ := h
  rw [te_and] at p
  refine tR.imp (tR.bind (Rel := fun _ _ (v : Bool) (b : Bool) => v = b) hr er p) fun x H1 ⟨G1, m1, s1, dx, e1, hr1, r1, p1⟩ => ?_
  subst r1
  cases x with
  | true => exact ⟨G1, m1, ρ, s1, hr1, er.mono e1.1, p1⟩
  | false => exact p1.here hr1 rfl
theorem et_or {rest : List Expr} (ha : PT X a (tBo T W (teT fa))) (hb : PW X (.BoolOp .Or (b :: rest) pos) (tBo T W (teT fb))) : PW X (.BoolOp .Or (a :: b :: rest) pos) (tBo T W (teT (fOr fa fb))) := by
  refine ⟨fun wh pins s σ H Q I h => (pw_or ha hb).run wh pins s σ H Q I ?_⟩
  obtain ⟨G, μ, ρ, st, hr, er, p⟩ := h
  rw [te_or] at p
  refine tR.imp (tR.bind (Rel := fun _ _ (v : Bool) (b : Bool) => v = b) hr er p) fun x H1 ⟨G1, m1, s1, dx, e1, hr1, r1, p1⟩ => ?_
  subst r1
  cases x with
  | false => exact ⟨G1, m1, ρ, s1, hr1, er.mono e1.1, p1⟩
  | true => exact p1.here hr1 rfl
theorem et_not (ha : PT X a (tBo T W (teT fa))) : PT X (.UnaryOp .Not a pos) (tBo T W (teT (fNot fa))) := by
  refine pt_of (pt_not ha) fun σ H Q h => ?_
  obtain ⟨G, μ, ρ, st, hr, er, p⟩ := h
  rw [te_not] at p
  refine tR.imp (tR.bind (Rel := fun _ _ (v : Bool) (b : Bool) => v = b) hr er p) fun x H1 ⟨G1, m1, s1, dx, e1, hr1, r1, p1⟩ => ?_
  subst r1
  exact p1.here hr1 rfl
theorem et_is {op : IO} (hl : op.lit b = true) (ha : PE X a (tEx T W fa)) : PT X (.Compare a [op.op] [b] pos) (tBo T W (teT fun ρ st => (fa ρ st).bind fun x st => R.of ((opI op x).map .bl) st)) := by
  have go : ∀ {r : R2} {tb : TE}, PT X (.Compare a [op.op] [b] pos) (tTest (tOp r (tEx T W fa) tb)) → (∀ (x : V) (G : Hp) (μ : List Addr) (dx : D) (k : Bool) (σ : L2.St) (H : Hp) (Q : VK), Rp T G μ x dx → opI op dx = some k → Q (.bl k) H → tb σ H fun y H2 => r x y H2 Q) →
      PT X (.Compare a [op.op] [b] pos) (tBo T W (teT fun ρ st => (fa ρ st).bind fun x st => R.of ((opI op x).map .bl) st)) := by
    intro r tb h k
    refine pt_of h fun σ H Q h => ?_
    obtain ⟨G, μ, ρ, st, hr, er, p⟩ := h
    have e : teT (fun ρ st => (fa ρ st).bind fun x st => R.of ((opI op x).map .bl) st) ρ st = (fa ρ st).bind fun x st => R.of (opI op x) st := by
      simp only [teT]
      cases h1 : fa ρ st with
      | ok x s1 => simp only [R.bind]; cases opI op x <;> rfl
      | _ => rfl
    rw [e] at p
    refine tR.imp (tR.bind (Rel := RpD T) hr er p) fun x H1 ⟨G1, m1, s1, dx, e1, hr1, r1, p1⟩ => ?_
    obtain ⟨kb, ek, p3⟩ := p1.of
    exact k x G1 m1 dx kb σ H1 _ r1 ek ⟨kb, rfl, p3.here hr1 rfl⟩
  cases op with
  | isN =>
    cases b <;> try (simp [IO.lit] at hl; done)
    rename_i c k p
    cases c <;> try (simp [IO.lit] at hl; done)
    refine go (pt_cmpR op_isN ha pe_non (nomark _)) fun x G μ dx k σ H Q r e q => ⟨rfl, ?_⟩
    rw [(rp_non r).1] at e
    cases e
    exact q
  | isnN =>
    cases b <;> try (simp [IO.lit] at hl; done)
    rename_i c k p
    cases c <;> try (simp [IO.lit] at hl; done)
    refine go (pt_cmpR op_notN ha pe_non (nomark _)) fun x G μ dx k σ H Q r e q => ⟨rfl, ?_⟩
    rw [(rp_non r).2] at e
    cases e
    exact q
  | isB c0 =>
    cases b <;> try (simp [IO.lit] at hl; done)
    rename_i c k p
    cases c <;> try (simp [IO.lit] at hl; done)
    rename_i c1
    have ec : c0 = c1 := by simpa [IO.lit] using hl
    subst ec
    refine go (pt_cmpR (op := .Is) op_isBl ha pe_bl (by rfl)) fun x G μ dx k σ H Q r e q => ?_
    cases r with
    | bl z =>
      cases e
      exact ⟨_, _, rfl, rfl, by rw [show decide (z = c0) = (z == c0) from by cases z <;> cases c0 <;> rfl]; exact q⟩
    | _ => cases e
  | isnB c0 =>
    cases b <;> try (simp [IO.lit] at hl; done)
    rename_i c k p
    cases c <;> try (simp [IO.lit] at hl; done)
    rename_i c1
    have ec : c0 = c1 := by simpa [IO.lit] using hl
    subst ec
    refine go (pt_cmpR (op := .IsNot) op_notBl ha pe_bl (by rfl)) fun x G μ dx k σ H Q r e q => ?_
    cases r with
    | bl z =>
      cases e
      exact ⟨_, _, rfl, rfl, by rw [show (!decide (z = c0)) = !(z == c0) from by cases z <;> cases c0 <;> rfl]; exact q⟩
    | _ => cases e
def fChain (op op' : CO) (fa fb fc : Env → Sto → R D) : Env → Sto → R D := fun ρ st => (fa ρ st).bind fun x st => (fb ρ st).bind fun y st => match opC op x y st with
      | some true => (fc ρ st).bind fun z st => R.of ((opC op' y z st).map .bl) st
      | some false => .ok (.bl false) st
      | none => .bad
theorem et_chain (hK : T.K = X.K) (hu : X.A.units + 100 < cLine) (op op' : CO) (hm : lastMarks [op.op, op'.op] [b, c] = false) (ha : PE X a (tEx T W fa)) (hb : PE X b (tEx T W fb)) (hc : PE X c (tEx T W fc)) :
    PT X (.Compare a [op.op, op'.op] [b, c] pos) (tBo T W (teT (fChain op op' fa fb fc))) := by
  refine pt_of (pt_chain (op_C hK hu op) (op_C hK hu op') ha hb hc hm) fun σ H Q h => ?_
  obtain ⟨G, μ, ρ, st, hr, er, p⟩ := h
  have e : teT (fChain op op' fa fb fc) ρ st = (fa ρ st).bind fun x st => (fb ρ st).bind fun y st => match opC op x y st with
      | some true => (fc ρ st).bind fun z st => R.of (opC op' y z st) st
      | some false => .ok false st
      | none => .bad := by
    simp only [teT, fChain]
    cases h1 : fa ρ st with
    | ok x s1 =>
      simp only [R.bind]
      cases h2 : fb ρ s1 with
      | ok y s2 =>
        simp only [R.bind]
        cases opC op x y s2 with
        | none => rfl
        | some k =>
          cases k with
          | false => rfl
          | true =>
            simp only
            cases h3 : fc ρ s2 with
            | ok z s3 => simp only [R.bind]; cases opC op' y z s3 <;> rfl
            | _ => rfl
      | _ => rfl
    | _ => rfl
  rw [e] at p
  refine tR.imp (tR.bind (Rel := RpD T) hr er p) fun x H1 ⟨G1, m1, s1, dx, e1, hr1, r1, p1⟩ => ?_
  refine tR.imp (tR.bind (Rel := RpD T) hr1 (er.mono e1.1) p1) fun y H2 ⟨G2, m2, s2, dy, e2, hr2, r2, p2⟩ => ?_
  cases h1 : opC op dx dy s2 with
  | none => rw [h1] at p2; exact p2.elim
  | some k =>
    refine ⟨G2, m2, s2, dx, dy, k, hr2, r1.mono e2.1, r2, h1, k, rfl, ?_⟩
    rw [h1] at p2
    cases k with
    | false => exact ⟨false, rfl, p2.here hr2 rfl⟩
    | true =>
      refine tR.imp (tR.bind (Rel := RpD T) hr2 ((er.mono e1.1).mono e2.1) p2) fun z H3 ⟨G3, m3, s3, dz, e3, hr3, r3, p3⟩ => ?_
      obtain ⟨k, ek, p4⟩ := p3.of
      exact ⟨G3, m3, s3, dy, dz, k, hr3, r2.mono e3.1, r3, ek, k, rfl, p4.here hr3 rfl⟩
/-- a comparison, as a test: its value is a bool -/
theorem et_cmp (hK : T.K = X.K) (hu : X.A.units + 100 < cLine) (op : CO) (hm : behindInMarks op.op b = false) (ha : PE X a (tEx T W fa)) (hb : PE X b (tEx T W fb)) :
    PT X (.Compare a [op.op] [b] pos) (tBo T W (teT fun ρ st => (fa ρ st).bind fun x st => (fb ρ st).bind fun y st => R.of ((opC op x y st).map .bl) st)) := by
  refine pt_of (pt_cmpR (op_C hK hu op) ha hb hm) fun σ H Q h => ?_
  obtain ⟨G, μ, ρ, st, hr, er, p⟩ := h
  have e : teT (fun ρ st => (fa ρ st).bind fun x st => (fb ρ st).bind fun y st => R.of ((opC op x y st).map .bl) st) ρ st = (fa ρ st).bind fun x st => (fb ρ st).bind fun y st => R.of (opC op x y st) st := by
    simp only [teT]
    cases h1 : fa ρ st with
    | ok x s1 =>
      simp only [R.bind]
      cases h2 : fb ρ s1 with
      | ok y s2 => simp only [R.bind]; cases opC op x y s2 <;> rfl
      | _ => rfl
    | _ => rfl
  rw [e] at p
  refine tR.imp (tR.bind (Rel := RpD T) hr er p) fun x H1 ⟨G1, m1, s1, dx, e1, hr1, r1, p1⟩ => ?_
  refine tR.imp (tR.bind (Rel := RpD T) hr1 (er.mono e1.1) p1) fun y H2 ⟨G2, m2, s2, dy, e2, hr2, r2, p2⟩ => ?_
  obtain ⟨k, ek, p3⟩ := p2.of
  exact ⟨G2, m2, s2, dx, dy, k, hr2, r1.mono e2.1, r2, ek, k, rfl, p3.here hr2 rfl⟩
end
end DI
set_option Elab.async false
set_option linter.all false
set_option maxRecDepth 100000
set_option maxHeartbeats 4000000
set_option autoImplicit false
namespace DI
open PySem PySem.Spec PyProof.Rows L2
abbrev RpLs (T : Tb) : Hp → List Addr → List V → List D → Prop := fun G μ v d => RpL T G μ v d
def nst : Expr → Bool
  | .Starred _ _ => false
  | _ => true
def nsl : Expr → Bool
  | .Slice _ _ _ _ => false
  | _ => true
theorem star_cons {e : Expr} {es : List Expr} {env : PySem.Env} (h : nst e = true) : starEach (e :: es) env = (false, eval e env) :: starEach es env := by
  cases e <;> first | rfl | cases h
theorem star_plain (pos : Pos) (env : PySem.Env) : ∀ es : List Expr, es.all nst = true → (backTo pos (starEach es env)).any (·.1) = false
  | [], _ => rfl
  | e :: es, h => by
    simp only [List.all_cons, Bool.and_eq_true] at h
    rw [star_cons h.1]
    simp only [backTo, List.map_cons, List.any_cons, Bool.false_or]
    exact star_plain pos env es h.2
theorem star_few (pos : Pos) (env : PySem.Env) : ∀ es : List Expr, es.all nst = true → (backTo pos (starEach es env)).all (fun x => !x.1) = true
  | [], _ => rfl
  | e :: es, h => by
    simp only [List.all_cons, Bool.and_eq_true] at h
    rw [star_cons h.1]
    simp only [backTo, List.map_cons, List.all_cons, Bool.not_false, Bool.true_and]
    exact star_few pos env es h.2
theorem plain_ix {b : Expr} (h : nsl b = true) : PlainIx b := fun o i => by
  cases b <;> first | rfl | cases h
section
variable {X : Cx} {T : Tb} {W : L2.St → XK} {a b c e : Expr} {es : List Expr} {fa fb fc : Env → Sto → R D} {fs : Env → Sto → R (List D)} {pos : Pos}
theorem ea_nil : PA X [] (tLi T W fun _ st => .ok [] st) := pa_of pa_nil fun σ H Q h => by
  obtain ⟨G, μ, ρ, st, hr, er, p⟩ := h
  exact p.here hr .nil
theorem ea_cons (hn : nst e = true) (ha : PE X e (tEx T W fa)) (hs : PA X es (tLi T W fs)) : PA X (e :: es) (tLi T W fun ρ st => (fa ρ st).bind fun d st => (fs ρ st).bind fun ds st => .ok (d :: ds) st) := by
  refine pa_of (pa_cons ha hs (star_cons hn)) fun σ H Q h => ?_
  obtain ⟨G, μ, ρ, st, hr, er, p⟩ := h
  refine tR.imp (tR.bind (Rel := RpD T) hr er p) fun x H1 ⟨G1, m1, s1, dx, e1, hr1, r1, p1⟩ => ?_
  refine tR.imp (tR.bind (Rel := RpLs T) hr1 (er.mono e1.1) p1) fun y H2 ⟨G2, m2, s2, dy, e2, hr2, r2, p2⟩ => ?_
  exact p2.here hr2 (.cons (r1.mono e2.1) r2)
theorem ex_tup {k : Nat} (hs : PA X es (tLi T W fs)) : PE X (.Tuple es k pos) (tEx T W fun ρ st => (fs ρ st).bind fun ds st => if ds.length ≤ SZ then .ok (.tup ds) st else .bad) := by
  refine pe_of (pe_tup hs) fun σ H Q h => ?_
  obtain ⟨G, μ, ρ, st, hr, er, p⟩ := h
  refine tR.imp (tR.bind (Rel := RpLs T) hr er p) fun xs H1 ⟨G1, m1, s1, ds, e1, hr1, r1, p1⟩ => ?_
  split at p1
  · rename_i hz
    refine ⟨by rw [r1.len]; exact sz_le hz, fun q hq => ?_⟩
    obtain ⟨k1, k2⟩ := hr1.known (o := .tup xs) hq
    exact p1 _ _ _ _ k2 k1 (.tup (.inl (.inl upd_same)) (r1.mono k2.1))
  · exact p1.elim
/-- a new list, kept or numbered -/
theorem new_list {G : Hp} {μ : List Addr} {st : Sto} {H : Hp} {xs : List V} {ds : List D} {mu : Bool} {Q : VK} {w : XK} {p : Addr} (hr : Hr T G μ st H) (r : RpL T G μ xs ds) (h : Pr T (RpD T) w G μ H Q (mkL mu (.lst ds) st)) (hp : H p = none) : Q (.ref p) (upd H p (.lst xs)) := by
  cases mu with
  | false =>
    obtain ⟨k1, k2⟩ := hr.known (o := .lst xs) hp
    exact h _ _ _ _ k2 k1 (.lst upd_same (r.mono k2.1))
  | true =>
    obtain ⟨k1, k2⟩ := hr.laid hp r
    exact h _ _ _ _ k2 k1 (.loc (by rw [← hr.len]; simp))
theorem newL_mk {mu : Bool} {ds : List D} {st : Sto} : newL mu ds st = if ds.length ≤ SZ then mkL mu (.lst ds) st else .bad := by
  unfold newL mkL
  cases mu <;> rfl
theorem ex_lst (mu : Bool) (hs : PA X es (tLi T W fs)) : PE X (.List es pos) (tEx T W fun ρ st => (fs ρ st).bind fun ds st => newL mu ds st) := by
  refine pe_of (pe_lst hs) fun σ H Q h => ?_
  obtain ⟨G, μ, ρ, st, hr, er, p⟩ := h
  refine tR.imp (tR.bind (Rel := RpLs T) hr er p) fun xs H1 ⟨G1, m1, s1, ds, e1, hr1, r1, p1⟩ => ?_
  rw [newL_mk] at p1
  split at p1
  · rename_i hz
    exact ⟨by rw [r1.len]; exact sz_le hz, fun q hq => new_list hr1 r1 p1 hq⟩
  · exact p1.elim
theorem ixD_N : ixD = ixN := rfl
theorem ex_idx (hK : T.K = X.K) (hn : nsl b = true) (ha : PE X a (tEx T W fa)) (hb : PE X b (tEx T W fb)) : PE X (.Subscript a b pos) (tEx T W fun ρ st => (fa ρ st).bind fun x st => (fb ρ st).bind fun y st => R.of (idxD x y st) st) := by
  refine pe_of (pe_ix ix_seq ha hb (plain_ix hn)) fun σ H Q h => ?_
  obtain ⟨G, μ, ρ, st, hr, er, p⟩ := h
  refine tR.imp (tR.bind (Rel := RpD T) hr er p) fun x H1 ⟨G1, m1, s1, dx, e1, hr1, r1, p1⟩ => ?_
  refine tR.imp (tR.bind (Rel := RpD T) hr1 (er.mono e1.1) p1) fun y H2 ⟨G2, m2, s2, dy, e2, hr2, r2, p2⟩ => ?_
  obtain ⟨z, ez, p3⟩ := p2.of
  have r1 := r1.mono e2.1
  cases r2 with
  | int i =>
    have seqs : (seqD s2 dx).bind (fun xs => (ixD xs.length i).bind fun j => xs[j]?) = some z → rIx X.K x (.int i) H2 Q := fun ez => by
      obtain ⟨xs, h1, ez⟩ := Option.bind_eq_some_iff.mp ez
      obtain ⟨j, h2, ez⟩ := Option.bind_eq_some_iff.mp ez
      obtain ⟨ad, vs, rfl, rl, hh⟩ := seqD_at hr2 r1 h1
      obtain ⟨v, hv, rv⟩ := rl.get ez
      have ha : atI vs i = some v := by
        unfold atI
        rw [rl.len, ← ixD_N, h2]
        exact hv
      rcases hh with ⟨hl, _⟩ | ⟨ht, _⟩
      · exact .inl ⟨ad, vs, i, v, rfl, rfl, hK ▸ hl, ha, p3.here hr2 rv⟩
      · exact .inr (.inl ⟨ad, vs, i, v, rfl, rfl, hK ▸ ht, ha, p3.here hr2 rv⟩)
    cases r1 with
    | str s hs =>
      simp only [idxD] at ez
      obtain ⟨j, h2, ez⟩ := Option.bind_eq_some_iff.mp ez
      simp only [Option.map_eq_some_iff] at ez
      obtain ⟨cd, hc, rfl⟩ := ez
      refine .inr (.inr ⟨_, i, cd, rfl, rfl, by rw [txS_len]; exact hs.2, ?_, p3.here hr2 (.str [cd] ⟨strOk_sub hs.1 fun z hz => ?_, by show 1 ≤ sizeLine; decide⟩)⟩)
      · show atI s i = some cd
        unfold atI
        rw [← ixD_N, h2]
        exact hc
      · simp at hz
        subst hz
        exact List.mem_of_getElem? hc
    | tup h1 h2 => exact seqs ez
    | lst h1 h2 => exact seqs ez
    | ro h1 h2 => exact seqs ez
    | loc h1 => exact seqs ez
    | non => exact seqs ez
    | bl _ => exact seqs ez
    | int _ => exact seqs ez
    | exc _ _ _ => exact seqs ez
  | _ => cases ez
/-! ### slices -/
abbrev tOo (T : Tb) (W : L2.St → XK) (f : Env → Sto → R (Option Int)) : TO := tR T (fun _ _ (v : Option Int) (b : Option Int) => v = b) W f
theorem eo_none : PO X none (tOo T W fun _ st => .ok none st) := ⟨fun pins s σ H Q I h => po_none.run pins s σ H Q I (by
  obtain ⟨G, μ, ρ, st, hr, er, p⟩ := h
  exact p.here hr rfl)⟩
theorem eo_some (ha : PE X a (tEx T W fa)) : PO X (some a) (tOo T W fun ρ st => (fa ρ st).bind fun x st => match x with
    | .int i => .ok (some i) st
    | _ => .bad) := ⟨fun pins s σ H Q I h => (po_some ha).run pins s σ H Q I (by
  obtain ⟨G, μ, ρ, st, hr, er, p⟩ := h
  refine tR.imp (tR.bind (Rel := RpD T) hr er p) fun x H1 ⟨G1, m1, s1, dx, e1, hr1, r1, p1⟩ => ?_
  cases r1 with
  | int i => exact ⟨i, rfl, p1.here hr1 rfl⟩
  | _ => exact p1.elim)⟩
theorem sIxD_eq (n d : Nat) : sIxD n d = HT.sIx n d := by
  funext o
  cases o <;> rfl
theorem rpl_cut {G : Hp} {μ : List Addr} {vs : List V} {ds : List D} (r : RpL T G μ vs ds) (lo hi : Option Int) : RpL T G μ (cutV vs lo hi) (cutD ds lo hi) := by
  unfold cutV cutD
  rw [sIxD_eq, sIxD_eq, r.len]
  exact (r.drop _).take _
theorem ex_slc {lo hi : Option Expr} {fl fh : Env → Sto → R (Option Int)} {p2 : Pos} (hK : T.K = X.K) (mu : Bool) (ha : PE X a (tEx T W fa)) (hl : PO X lo (tOo T W fl)) (hh : PO X hi (tOo T W fh)) :
    PE X (.Subscript a (.Slice lo hi none p2) pos) (tEx T W fun ρ st => (fa ρ st).bind fun x st => (fl ρ st).bind fun l st => (fh ρ st).bind fun h st => (R.of (slcD x l h st) st).bind fun d st => mkL mu d st) := by
  refine pe_of (pe_slice (sl_list.or (sl_tupA.or sl_str)) ha hl hh) fun σ H Q h => ?_
  obtain ⟨G, μ, ρ, st, hr, er, p⟩ := h
  refine tR.imp (tR.bind (Rel := RpD T) hr er p) fun x H1 ⟨G1, m1, s1, dx, e1, hr1, r1, p1⟩ => ?_
  refine tR.imp (tR.bind (Rel := fun _ _ (v : Option Int) (b : Option Int) => v = b) hr1 (er.mono e1.1) p1) fun l H2 ⟨G2, m2, s2, dl, e2, hr2, r2, p2⟩ => ?_
  refine tR.imp (tR.bind (Rel := fun _ _ (v : Option Int) (b : Option Int) => v = b) hr2 ((er.mono e1.1).mono e2.1) p2) fun h H3 ⟨G3, m3, s3, dh, e3, hr3, r3, p3⟩ => ?_
  subst r2 r3
  have r1 := (r1.mono e2.1).mono e3.1
  cases hd : slcD dx l h s3 with
  | none => rw [hd] at p3; exact p3.elim
  | some d =>
    rw [hd] at p3
    have p3 : Pr T (RpD T) (W σ) G3 m3 H3 Q (mkL mu d s3) := p3
    have seqs : (seqD s3 dx).map (fun xs => D.lst (cutD xs l h)) = some d → (∀ ys, dx ≠ .tup ys) → rSlL X.K x l h H3 Q := fun ez nt => by
      simp only [Option.map_eq_some_iff] at ez
      obtain ⟨xs, h1, rfl⟩ := ez
      obtain ⟨ad, vs, rfl, rl, hh⟩ := seqD_at hr3 r1 h1
      rcases hh with ⟨hl, _⟩ | ⟨_, z⟩
      · exact ⟨ad, vs, rfl, hK ▸ hl, fun q hq => new_list hr3 (rpl_cut rl l h) p3 hq⟩
      · exact absurd z (nt xs)
    cases r1 with
    | str s hs =>
      cases hd
      have e4 : mkL mu (.str (cutD s l h)) s3 = .ok (.str (cutD s l h)) s3 := by cases mu <;> rfl
      rw [e4] at p3
      refine .inr (.inr ⟨_, rfl, by rw [txS_len]; exact hs.2, ?_⟩)
      have e5 : cutS (txS s) l h = txS (cutD s l h) := by
        unfold cutS cutD txS
        rw [sIxD_eq, sIxD_eq]
        simp [Str.length]
      rw [e5]
      have hsub : ∀ z ∈ cutD s l h, z ∈ s := fun z hz => List.mem_of_mem_drop (List.mem_of_mem_take hz)
      have hlen : (cutD s l h).length ≤ s.length := by
        unfold cutD
        rw [List.length_take, List.length_drop]
        omega
      exact p3.here hr3 (.str _ ⟨strOk_sub hs.1 hsub, Nat.le_trans hlen hs.2⟩)
    | @tup ad vs ds h1 h2 =>
      cases hd
      have e4 : mkL mu (.tup (cutD ds l h)) s3 = .ok (.tup (cutD ds l h)) s3 := by cases mu <;> rfl
      rw [e4] at p3
      have rc := rpl_cut h2 l h
      refine .inr (.inl ⟨ad, vs, rfl, hK ▸ sqt_sub hr3 h1, fun hw => ?_, fun _ q hq => ?_⟩)
      · refine p3.here hr3 (.tup h1 ?_)
        have : cutV vs l h = vs := by
          unfold cutV
          rw [hw.1, hw.2]
          simp
        rw [← this]
        exact rc
      · obtain ⟨k1, k2⟩ := hr3.known (o := .tup (cutV vs l h)) hq
        exact p3 _ _ _ _ k2 k1 (.tup (.inl (.inl upd_same)) (rc.mono k2.1))
    | lst h1 h2 => exact .inl (seqs hd fun _ z => by cases z)
    | ro h1 h2 => exact .inl (seqs hd fun _ z => by cases z)
    | loc h1 => exact .inl (seqs hd fun _ z => by cases z)
    | non => exact .inl (seqs hd fun _ z => by cases z)
    | bl _ => exact .inl (seqs hd fun _ z => by cases z)
    | int _ => exact .inl (seqs hd fun _ z => by cases z)
    | exc _ _ _ => exact .inl (seqs hd fun _ z => by cases z)
end
end DI
set_option Elab.async false
set_option linter.all false
set_option maxRecDepth 100000
set_option maxHeartbeats 4000000
set_option autoImplicit false
namespace DI
open PySem PySem.Spec PyProof.Rows L2
/-- what a def promises: its run -/
def spD (T : Tb) (np : Nat) (cal : List D → Sto → R D) : Sp := fun vs H Q E => ∃ (G : Hp) (μ : List Addr) (st : Sto) (ds : List D), Hr T G μ st H ∧ RpL T G μ vs ds ∧ ds.length = np ∧ Pr T (RpD T) E G μ H Q (cal ds st)
section
variable {X : Cx} {T : Tb} {W : L2.St → XK} {e : Expr} {es : List Expr} {kws : List Keyword} {fa : Env → Sto → R D} {fs fk : Env → Sto → R (List D)} {pos p : Pos} {x : Str}
variable {CX : CXT} {n np : Nat} {f : Addr} {fd : FuncData} {ps : List Str} {cal : List D → Sto → R D}
theorem ex_call (F : FnOk X.prog X.w X.K X.mg X.base CX n f fd ps (spD T np cal)) (hr : Room n X.A) (hg : Gl X x) (hm : X.mg x = some (.ref f)) (hk : PySem.W.keepIn X.K (.ref f) = true) (hb : Binds X.K fd ps []) (hx : ∀ σ, PassesAt CX X σ (W σ))
    (hdb : (x == ("__debug__" : Str)) = false) (hn : (e :: es).all nst = true) (hl : (∀ ρ st vs st', fs ρ st = .ok vs st' → vs.length = np)) (ha : PA X (e :: es) (tLi T W fs)) :
    PE X (.Call (.Name x p) (e :: es) [] pos) (tEx T W fun ρ st => (fs ρ st).bind fun vs st => cal vs st) := by
  have hn' : nst e = true ∧ es.all nst = true := by simpa using hn
  refine pe_of (pe_callSD F hr hg hm hk hb .nil hx ha hdb (star_cons hn'.1) (star_plain pos X.env es hn'.2)) fun σ H Q h => ?_
  obtain ⟨G, μ, ρ, st, hr, er, p⟩ := h
  have hl' : ∀ vs st', fs ρ st = .ok vs st' → vs.length = np := fun vs st' q => hl ρ st vs st' q
  dsimp only at p
  cases hf : fs ρ st with
  | ok vs s1 =>
    refine ⟨G, μ, ρ, st, hr, er, ?_⟩
    rw [hf] at p ⊢
    intro G1 m1 H1 us e1 hr1 r1
    refine ⟨G1, m1, s1, vs, hr1, ?_, hl' vs s1 hf, Pr.mono e1 p⟩
    rw [List.append_nil]
    exact r1
  | err c q s1 =>
    refine ⟨G, μ, ρ, st, hr, er, ?_⟩
    rw [hf] at p ⊢
    exact p
  | bad => rw [hf] at p; exact p.elim
theorem ex_call0 (F : FnOk X.prog X.w X.K X.mg X.base CX n f fd ps (spD T 0 cal)) (hr : Room n X.A) (hg : Gl X x) (hm : X.mg x = some (.ref f)) (hk : PySem.W.keepIn X.K (.ref f) = true) (hb : Binds X.K fd ps []) (hx : ∀ σ, PassesAt CX X σ (W σ))
    (hdb : (x == ("__debug__" : Str)) = false) : PE X (.Call (.Name x p) [] [] pos) (tEx T W fun ρ st => cal [] st) := by
  refine ⟨fun pins s σ H Q I h => ?_⟩
  obtain ⟨G, μ, ρ, st, hrr, er, q⟩ := h
  refine wpAny_Call_Name_kw (ld_glob I hg hm ?_ hdb)
  exact PySem.W.callWith_K0 I.kIn hk (run_fnSD (E := W) (us := []) F hr hb .nil (hx σ) I .nil ⟨G, μ, st, [], hrr, .nil, rfl, q⟩)
/-! ### keywords -/
theorem ek_nil : PK X [] (tLi T W fun _ st => .ok [] st) := ⟨fun pos pins s σ H Q I h => pk_nil.run pos pins s σ H Q I (by
  obtain ⟨G, μ, ρ, st, hr, er, p⟩ := h
  exact p.here hr .nil)⟩
theorem ek_cons {nm : Option Str} {kp : Pos} (ha : PE X e (tEx T W fa)) (hs : PK X kws (tLi T W fs)) : PK X (⟨nm, e, kp⟩ :: kws) (tLi T W fun ρ st => (fa ρ st).bind fun d st => (fs ρ st).bind fun ds st => .ok (d :: ds) st) :=
  ⟨fun pos pins s σ H Q I h => (pk_cons ha hs).run pos pins s σ H Q I (by
  obtain ⟨G, μ, ρ, st, hr, er, p⟩ := h
  refine tR.imp (tR.bind (Rel := RpD T) hr er p) fun x H1 ⟨G1, m1, s1, dx, e1, hr1, r1, p1⟩ => ?_
  refine tR.imp (tR.bind (Rel := RpLs T) hr1 (er.mono e1.1) p1) fun y H2 ⟨G2, m2, s2, dy, e2, hr2, r2, p2⟩ => ?_
  exact p2.here hr2 (.cons (r1.mono e2.1) r2))⟩
theorem kw_all (pos : Pos) (env : PySem.Env) : ∀ kws : List Keyword, kws.all (fun k => k.arg.isSome) = true → (backToKw pos (keywordEach kws env)).all (·.1.isSome) = true
  | [], _ => rfl
  | ⟨nm, e, kp⟩ :: r, h => by
    simp only [List.all_cons, Bool.and_eq_true] at h
    simp only [keywordEach, backToKw, List.map_cons, List.all_cons, Bool.and_eq_true]
    exact ⟨h.1, kw_all pos env r h.2⟩
theorem kw_none (pos : Pos) (env : PySem.Env) : ∀ kws : List Keyword, kws.all (fun k => k.arg.isSome) = true → (backToKw pos (keywordEach kws env)).any (·.1.isNone) = false
  | [], _ => rfl
  | ⟨nm, e, kp⟩ :: r, h => by
    simp only [List.all_cons, Bool.and_eq_true] at h
    simp only [keywordEach, backToKw, List.map_cons, List.any_cons, Bool.or_eq_false_iff]
    refine ⟨?_, kw_none pos env r h.2⟩
    cases nm with
    | none => simp at h
    | some _ => rfl
theorem kw_names (pos : Pos) (env : PySem.Env) : ∀ kws : List Keyword, (backToKw pos (keywordEach kws env)).filterMap (·.1) = kws.filterMap (·.arg)
  | [] => rfl
  | ⟨nm, e, kp⟩ :: r => by
    have ih := kw_names pos env r
    simp only [backToKw] at ih
    simp only [keywordEach, backToKw, List.map_cons, List.filterMap_cons]
    rw [ih]
def permV {α : Type} (pm : List Nat) (vs : List α) : List α := pm.filterMap fun j => vs[j]?
theorem rpl_perm {G : Hp} {μ : List Addr} {vs : List V} {ds : List D} (r : RpL T G μ vs ds) : ∀ pm : List Nat, RpL T G μ (permV pm vs) (permD ds pm)
  | [] => .nil
  | j :: pm => by
    have ih := rpl_perm r pm
    unfold permV permD at *
    rw [List.filterMap_cons, List.filterMap_cons]
    cases h : ds[j]? with
    | none =>
      have h2 : vs[j]? = none := by
        rw [List.getElem?_eq_none_iff] at h ⊢
        rw [r.len]; exact h
      rw [h2]
      exact ih
    | some d =>
      obtain ⟨v, hv, rv⟩ := r.get h
      rw [hv]
      exact .cons rv ih
/-- how a call with n positional values and the keywords ks binds -/
def KwB (K : PySem.W.Frag) (fd : FuncData) (ps : List Str) (n : Nat) (ks : List Str) (pm : List Nat) : Prop :=
  ∀ (s : Shared) (us ws : List Value), K.In s.heap → us.length = n → ws.length = ks.length → BindsTo s fd ⟨us, ks.zip ws⟩ (ps.zip (permV pm (us ++ ws)))
theorem vals_perm {vs : List V} {us : List Value} (r : Vals vs us) : ∀ pm : List Nat, Vals (permV pm vs) (permV pm us)
  | [] => .nil
  | j :: pm => by
    have ih := vals_perm r pm
    unfold permV at *
    rw [List.filterMap_cons, List.filterMap_cons]
    cases h : vs[j]? with
    | none =>
      rw [Vals.none_of r h]
      exact ih
    | some d =>
      obtain ⟨v, hv, rv⟩ := Vals.get r h
      rw [hv]
      exact .cons rv ih
theorem run_kw {n0 : Nat} {ks : List Str} {pm : List Nat} {pins : List (Addr × Obj)} {σ : L2.St} {H : Hp} {s : Shared} {Q : VK} {us ws : List Value} {vs zs : List V} {E : L2.St → XK} {sp : Sp} (F : FnOk X.prog X.w X.K X.mg X.base CX n f fd ps sp) (hr : Room n X.A) (hb : KwB X.K fd ps n0 ks pm) (hx : PassesAt CX X σ (E σ))
    (I : Inv X pins σ H s) (r : Vals vs us) (rz : Vals zs ws) (l1 : vs.length = n0) (l2 : zs.length = ks.length) (h : sp (permV pm (vs ++ zs)) H Q (E σ)) : wpAny (model X.prog X.w) X.A (call (.ref f) us (ks.zip ws)) (EP X pins σ Q) X.xe s := by
  have r2 := vals_perm (r.append rz) pm
  refine wpAny_call (codeAny_mono (F.run X.A X.stack s H ⟨us, ks.zip ws⟩ (permV pm (us ++ ws)) (permV pm (vs ++ zs)) Q (E σ) hr I.env0 (hb s us ws I.kIn (r.length.symm.trans l1) (rz.length.symm.trans l2)) r2 h) fun r s' hq => ?_)
  cases r with
  | error e => exact hx pins H s e s' I hq
  | ok fl =>
    cases fl with
    | ret u => exact I.after hq
    | next => exact False.elim hq
    | brk => exact False.elim hq
    | cont => exact False.elim hq
def fCat (fs fk : Env → Sto → R (List D)) : Env → Sto → R (List D) := fun ρ st => (fs ρ st).bind fun vs st => (fk ρ st).bind fun ws st => .ok (vs ++ ws) st
section
variable {n0 : Nat} {pm : List Nat}
/-- behind the positional values -/
theorem kw_fin {pins : List (Addr × Obj)} {σ : L2.St} {Q : VK} (F : FnOk X.prog X.w X.K X.mg X.base CX n f fd ps (spD T np cal)) (hr : Room n X.A) (hb : KwB X.K fd ps n0 (kws.filterMap (·.arg)) pm) (hx : ∀ σ, PassesAt CX X σ (W σ))
    (hl2 : (∀ ρ st vs st', fk ρ st = .ok vs st' → vs.length = (kws.filterMap (·.arg)).length)) (hp : pm.length = np) (hpm : ∀ j ∈ pm, j < n0 + (kws.filterMap (·.arg)).length) (hkk : PK X kws (tLi T W fk))
    (us : List Value) (vs : List V) (s1 : Shared) (H1 : Hp) (I1 : Inv X pins σ H1 s1) (r : Vals vs us) (l1 : vs.length = n0) (h : ∃ (G : Hp) (μ : List Addr) (st : Sto) (ds : List D) (ρ : Env), Hr T G μ st H1 ∧ Er T G μ ρ σ ∧ RpL T G μ vs ds ∧ ds.length = n0 ∧ Pr T (RpD T) (W σ) G μ H1 Q ((fk ρ st).bind fun ws st => cal (permD (ds ++ ws) pm) st)) :
      wpAny (model X.prog X.w) X.A (evalAll ((backToKw pos (keywordEach kws X.env)).map (·.2))) (fun ks s₂ => X.K.In s₂.heap ∧ wpAny (model X.prog X.w) X.A (call (.ref f) us (((backToKw pos (keywordEach kws X.env)).filterMap (·.1)).zip ks)) (EP X pins σ Q) X.xe s₂) X.xe s1 := by
  obtain ⟨G, μ, st, ds, ρ, hrr, er, rl, ld, p⟩ := h
  cases hf : fk ρ st with
  | ok wd s2 =>
    have q : tLi T W fk σ H1 fun zs H2 => zs.length = (kws.filterMap (·.arg)).length ∧ spD T np cal (permV pm (vs ++ zs)) H2 Q (W σ) := by
      refine ⟨G, μ, ρ, st, hrr, er, ?_⟩
      rw [hf] at p ⊢
      intro G2 m2 H2 zs e2 hr2 r2
      have ll := hl2 ρ st wd s2 hf
      refine ⟨by rw [r2.len]; exact ll, G2, m2, s2, permD (ds ++ wd) pm, hr2, rpl_perm ((rl.mono e2.1).app r2) pm, ?_, Pr.mono e2 p⟩
      unfold permD
      rw [← hp]
      have : ∀ pm : List Nat, (∀ j ∈ pm, j < n0 + (kws.filterMap (·.arg)).length) → (pm.filterMap fun j => (ds ++ wd)[j]?).length = pm.length := by
        intro pm
        induction pm with
        | nil => intro _; rfl
        | cons j r ih =>
          intro hj
          have h1 : j < (ds ++ wd).length := by rw [List.length_append, ld, ll]; exact hj j (List.mem_cons_self ..)
          rw [List.filterMap_cons, List.getElem?_eq_getElem h1]
          simp only [List.length_cons]
          rw [ih fun j hj' => hj j (List.mem_cons_of_mem _ hj')]
      exact this pm hpm
    refine thn (hkk.run pos pins s1 σ H1 _ I1 q) fun ws s3 ⟨zs, H3, I3, rz, lz, sp⟩ => ⟨I3.kIn, ?_⟩
    rw [kw_names]
    exact run_kw (E := W) F hr hb (hx σ) I3 r rz l1 lz sp
  | err c q s2 =>
    have q' : tLi T W fk σ H1 fun zs H2 => False := by
      refine ⟨G, μ, ρ, st, hrr, er, ?_⟩
      rw [hf] at p ⊢
      exact p
    exact thn (hkk.run pos pins s1 σ H1 _ I1 q') fun ws s3 ⟨zs, H3, I3, rz, z⟩ => z.elim
  | bad => rw [hf] at p; exact p.elim
/-- f(a, .., k = v, ..) -/
theorem ex_callK (F : FnOk X.prog X.w X.K X.mg X.base CX n f fd ps (spD T np cal)) (hr : Room n X.A) (hg : Gl X x) (hm : X.mg x = some (.ref f)) (hk : PySem.W.keepIn X.K (.ref f) = true) (hb : KwB X.K fd ps n0 (kws.filterMap (·.arg)) pm) (hx : ∀ σ, PassesAt CX X σ (W σ))
    (hdb : (x == ("__debug__" : Str)) = false) (hn : (e :: es).all nst = true) (hka : kws.all (fun k => k.arg.isSome) = true) (hl : (∀ ρ st vs st', fs ρ st = .ok vs st' → vs.length = n0)) (hl2 : (∀ ρ st vs st', fk ρ st = .ok vs st' → vs.length = (kws.filterMap (·.arg)).length))
    (hp : pm.length = np) (hpm : ∀ j ∈ pm, j < n0 + (kws.filterMap (·.arg)).length) (ha : PA X (e :: es) (tLi T W fs)) (hkk : PK X kws (tLi T W fk)) :
    PE X (.Call (.Name x p) (e :: es) kws pos) (tEx T W fun ρ st => (fs ρ st).bind fun ds st => (fk ρ st).bind fun ws st => cal (permD (ds ++ ws) pm) st) := by
  refine ⟨fun pins s σ H Q I h => ?_⟩
  refine wpAny_Call_Name_kw (ld_glob I hg hm ?_ hdb)
  obtain ⟨G, μ, ρ, st, hrr, er, q0⟩ := h
  have hn' : nst e = true ∧ es.all nst = true := by simpa using hn
  refine PySem.W.callWith_KW (h₀ := X.base) I.ok.mod.kin hk (kw_all pos X.env kws hka) (thn (ha.run pos pins s σ H (fun vs H1 => vs.length = n0 ∧ ∃ (G : Hp) (μ : List Addr) (st : Sto) (ds : List D) (ρ : Env), Hr T G μ st H1 ∧ Er T G μ ρ σ ∧ RpL T G μ vs ds ∧ ds.length = n0 ∧ Pr T (RpD T) (W σ) G μ H1 Q ((fk ρ st).bind fun ws st => cal (permD (ds ++ ws) pm) st)) I ?_) fun us s1 ⟨vs, H1, I1, r, l1, z⟩ => kw_fin F hr hb hx hl2 hp hpm hkk us vs s1 H1 I1 r l1 z)
    (by rw [star_plain pos X.env (e :: es) hn, kw_none pos X.env kws hka]; rfl) (star_cons hn'.1)
  refine ⟨G, μ, ρ, st, hrr, er, ?_⟩
  dsimp only at q0
  cases hf : fs ρ st with
  | ok vd s1 =>
    rw [hf] at q0
    intro G2 m2 H2 zs e2 hr2 r2
    have ll := hl ρ st vd s1 hf
    exact ⟨by rw [r2.len]; exact ll, G2, m2, s1, vd, ρ, hr2, er.mono e2.1, r2, ll, Pr.mono e2 q0⟩
  | err c qq s1 => rw [hf] at q0; exact q0
  | bad => rw [hf] at q0; exact q0.elim
/-- f(k = v, ..) -/
theorem ex_callK0 (F : FnOk X.prog X.w X.K X.mg X.base CX n f fd ps (spD T np cal)) (hr : Room n X.A) (hg : Gl X x) (hm : X.mg x = some (.ref f)) (hk : PySem.W.keepIn X.K (.ref f) = true) (hb : KwB X.K fd ps 0 (kws.filterMap (·.arg)) pm) (hx : ∀ σ, PassesAt CX X σ (W σ))
    (hdb : (x == ("__debug__" : Str)) = false) (hka : kws.all (fun k => k.arg.isSome) = true) (hl2 : (∀ ρ st vs st', fk ρ st = .ok vs st' → vs.length = (kws.filterMap (·.arg)).length))
    (hp : pm.length = np) (hpm : ∀ j ∈ pm, j < 0 + (kws.filterMap (·.arg)).length) (hkk : PK X kws (tLi T W fk)) :
    PE X (.Call (.Name x p) [] kws pos) (tEx T W fun ρ st => (fk ρ st).bind fun ws st => cal (permD ws pm) st) := by
  refine ⟨fun pins s σ H Q I h => ?_⟩
  refine wpAny_Call_Name_kw (ld_glob I hg hm ?_ hdb)
  obtain ⟨G, μ, ρ, st, hrr, er, q0⟩ := h
  exact PySem.W.callWith_KW0 (h₀ := X.base) I.ok.mod.kin hk (kw_all pos X.env kws hka) (kw_fin (n0 := 0) F hr hb hx hl2 hp hpm hkk [] [] s H I .nil rfl ⟨G, μ, st, [], ρ, hrr, er, .nil, rfl, q0⟩) (by rw [kw_none pos X.env kws hka]; rfl)
end
end
end DI
set_option Elab.async false
set_option linter.all false
set_option maxRecDepth 100000
set_option maxHeartbeats 4000000
set_option autoImplicit false
namespace DI
open PySem PySem.Spec PyProof.Rows L2
def rBi (T : Tb) (fb : Bi) : List V → Hp → VK → Prop := fun xs H Q => ∃ (W : XK) (G : Hp) (μ : List Addr) (st : Sto) (ds : List D), Hr T G μ st H ∧ RpL T G μ xs ds ∧ Pr T (RpD T) W G μ H Q (biD fb ds st)
theorem max_uniq : ∀ (ns : List Int) (n m : Int), m ∈ n :: ns → (∀ y ∈ n :: ns, y ≤ m) → m = ns.foldl (fun m y => if m < y then y else m) n
  | [], n, m, h, _ => by simpa using h
  | y :: ns, n, m, h, k => by
    rw [List.foldl_cons]
    refine max_uniq ns _ m ?_ fun z hz => ?_
    · have h1 := k n (by simp)
      have h2 := k y (by simp)
      split
      · rcases List.mem_cons.mp h with e | h
        · subst e; omega
        · exact h
      · rcases List.mem_cons.mp h with e | h
        · subst e; exact List.mem_cons_self ..
        · rcases List.mem_cons.mp h with e | h
          · subst e
            have : m = n := by omega
            rw [this]; exact List.mem_cons_self ..
          · exact List.mem_cons_of_mem _ h
    · rcases List.mem_cons.mp hz with e | hz
      · subst e
        split
        · exact k y (by simp)
        · exact k n (by simp)
      · exact k z (by simp [hz])
theorem min_uniq : ∀ (ns : List Int) (n m : Int), m ∈ n :: ns → (∀ y ∈ n :: ns, m ≤ y) → m = ns.foldl (fun m y => if y < m then y else m) n
  | [], n, m, h, _ => by simpa using h
  | y :: ns, n, m, h, k => by
    rw [List.foldl_cons]
    refine min_uniq ns _ m ?_ fun z hz => ?_
    · have h1 := k n (by simp)
      have h2 := k y (by simp)
      split
      · rcases List.mem_cons.mp h with e | h
        · subst e; omega
        · exact h
      · rcases List.mem_cons.mp h with e | h
        · subst e; exact List.mem_cons_self ..
        · rcases List.mem_cons.mp h with e | h
          · subst e
            have : m = n := by omega
            rw [this]; exact List.mem_cons_self ..
          · exact List.mem_cons_of_mem _ h
    · rcases List.mem_cons.mp hz with e | hz
      · subst e
        split
        · exact k y (by simp)
        · exact k n (by simp)
      · exact k z (by simp [hz])
theorem ins_perm (x : Int) : ∀ l : List Int, (insSort x l).Perm (x :: l)
  | [] => .refl _
  | y :: r => by
    unfold insSort
    split
    · exact .refl _
    · exact ((ins_perm x r).cons y).trans (.swap x y r)
theorem ins_sorted (x : Int) : ∀ l : List Int, l.Pairwise (· ≤ ·) → (insSort x l).Pairwise (· ≤ ·)
  | [], _ => by simp [insSort]
  | y :: r, h => by
    unfold insSort
    have h1 := List.pairwise_cons.mp h
    split
    · rename_i hxy
      refine List.pairwise_cons.mpr ⟨fun z hz => ?_, h⟩
      rcases List.mem_cons.mp hz with e | hz
      · subst e; exact hxy
      · have := h1.1 z hz; omega
    · rename_i hxy
      refine List.pairwise_cons.mpr ⟨fun z hz => ?_, ins_sorted x r h1.2⟩
      rcases List.mem_cons.mp ((ins_perm x r).mem_iff.mp hz) with e | hz
      · subst e; omega
      · exact h1.1 z hz
theorem sort_perm : ∀ l : List Int, (l.foldr insSort []).Perm l
  | [] => .refl _
  | x :: r => (ins_perm x _).trans ((sort_perm r).cons x)
theorem sort_sorted : ∀ l : List Int, (l.foldr insSort []).Pairwise (· ≤ ·)
  | [] => .nil
  | x :: r => ins_sorted x _ (sort_sorted r)
theorem sort_uniq {l m : List Int} (h : m.Perm l) (hs : m.Pairwise (· ≤ ·)) : m = l.foldr insSort [] :=
  List.Perm.eq_of_pairwise (fun a b _ _ h1 h2 => by omega) hs (sort_sorted l) (h.trans (sort_perm l).symm)
theorem intTx_len (i : Int) (h : i.natAbs.log2 < 1900) : (intTx i).length ≤ 1000000 := by
  have h1 : i.natAbs < 10 ^ 1900 := by
    have : i.natAbs < 2 ^ 1900 := by
      by_cases e : i.natAbs = 0
      · rw [e]; exact Nat.two_pow_pos 1900
      · exact (Nat.log2_lt e).mp h
    exact Nat.lt_of_lt_of_le this (Nat.pow_le_pow_left (by decide) 1900)
  have h2 := (Nat.length_repr_le_iff (n := i.natAbs) (k := 1900) (by decide)).mpr h1
  unfold intTx
  rw [List.length_map, Int.toString_eq_repr]
  cases i with
  | ofNat n =>
    show (Nat.repr n).length ≤ _
    have h2 : (Nat.repr n).length ≤ 1900 := h2
    omega
  | negSucc n =>
    show (("-" ++ Nat.repr (n + 1) : String)).length ≤ _
    rw [String.length_append]
    have h2 : (Nat.repr (n + 1)).length ≤ 1900 := h2
    have : "-".length = 1 := rfl
    omega
theorem intTx_ok (i : Int) (h : i.natAbs.log2 < 1900) : (Str.ofString (toString i)) = txS (intTx i) ∧ TxOk (intTx i) := by
  have e : (Str.ofString (toString i)) = txS (intTx i) := Str.ofString_eq_toList _
  refine ⟨e, ?_, ?_⟩
  · simp only [PyData.strOk, txS, intTx, List.all_toArray, List.all_map, List.all_eq_true]
    intro c _
    simp only [Function.comp, decide_eq_true_eq]
    have h : c.toNat.isValidChar := c.valid
    rcases h with h | h <;> omega
  · exact Nat.le_trans (intTx_len i h) (by decide)
section
variable {X : Cx} {T : Tb}
theorem pr_here {W : XK} {G : Hp} {μ : List Addr} {Q : VK} {d : D} {st : Sto} {H : Hp} {v : V} (h : Pr T (RpD T) W G μ H Q (.ok d st)) (hr : Hr T G μ st H) (rv : Rp T G μ v d) : Q v H := h.here hr rv
theorem call_len_D (hK : T.K = X.K) : CallR X (.builtin "len") (rBi T .len) := by
  intro pins s σ H xs us Q I r h
  obtain ⟨W, G, μ, st, ds, hr, rl, p⟩ := h
  refine call_len pins s σ H xs us Q I r ?_
  cases rl with
  | nil => exact p.elim
  | cons r1 r2 =>
    cases r2 with
    | cons _ _ => cases r1 <;> exact p.elim
    | nil =>
      cases r1 with
      | str s hs => exact ⟨_, s.length, rfl, ⟨by rw [txS_len]; exact hs.2, (txS_len s).symm⟩, pr_here p hr (.int _)⟩
      | tup h1 h2 => exact ⟨_, _, rfl, .inr ⟨_, hK ▸ sqt_sub hr h1, h2.len.symm⟩, pr_here p hr (.int _)⟩
      | lst h1 h2 => exact ⟨_, _, rfl, .inl ⟨_, .inl (.inl (hr.sub _ _ h1)), h2.len.symm⟩, pr_here p hr (.int _)⟩
      | ro h1 h2 => exact ⟨_, _, rfl, .inl ⟨_, hK ▸ sql_sub hr h1, h2.len.symm⟩, pr_here p hr (.int _)⟩
      | @loc a i h =>
        simp only [biD] at p
        obtain ⟨_, o, ho, hob⟩ := hr.obj i a h
        rw [ho] at p
        cases hob with
        | lst h1 h2 => exact ⟨_, _, rfl, .inl ⟨_, .inl (.inl h1), h2.len.symm⟩, pr_here p hr (.int _)⟩
      | _ => exact p.elim
theorem call_abs_D : CallR X (.builtin "abs") (rBi T .abs) := by
  intro pins s σ H xs us Q I r h
  obtain ⟨W, G, μ, st, ds, hr, rl, p⟩ := h
  refine call_abs pins s σ H xs us Q I r ?_
  cases rl with
  | nil => exact p.elim
  | cons r1 r2 => cases r2 with
    | cons _ _ => cases r1 <;> exact p.elim
    | nil => cases r1 with
      | int i => exact ⟨i, rfl, pr_here p hr (.int _)⟩
      | _ => exact p.elim
theorem call_int_D : CallR X (.type "int") (rBi T .int) := by
  intro pins s σ H xs us Q I r h
  obtain ⟨W, G, μ, st, ds, hr, rl, p⟩ := h
  refine call_int1 pins s σ H xs us Q I r ?_
  cases rl with
  | nil => exact p.elim
  | cons r1 r2 => cases r2 with
    | cons _ _ => cases r1 <;> exact p.elim
    | nil => cases r1 with
      | int i => exact .inl ⟨i, rfl, pr_here p hr (.int _)⟩
      | bl b => exact .inr ⟨b, rfl, pr_here p hr (.int _)⟩
      | _ => exact p.elim
theorem call_str_D : CallR X (.type "str") (rBi T .str) := by
  intro pins s σ H xs us Q I r h
  obtain ⟨W, G, μ, st, ds, hr, rl, p⟩ := h
  refine call_str_int pins s σ H xs us Q I r ?_
  cases rl with
  | nil => exact p.elim
  | cons r1 r2 => cases r2 with
    | cons _ _ => cases r1 <;> exact p.elim
    | nil => cases r1 with
      | int i =>
        simp only [biD] at p
        split at p
        · rename_i hz
          obtain ⟨e1, e2⟩ := intTx_ok i hz
          refine ⟨i, rfl, by omega, ?_⟩
          rw [e1]
          exact pr_here p hr (.str _ e2)
        · exact p.elim
      | _ => exact p.elim
theorem call_max2_D (hc : X.calm = true) : CallR X (.builtin "max") (rBi T .max2) := by
  intro pins s σ H xs us Q I r h
  obtain ⟨W, G, μ, st, ds, hr, rl, p⟩ := h
  refine call_max2 hc pins s σ H xs us Q I r ?_
  cases rl with
  | nil => exact p.elim
  | cons r1 r2 => cases r2 with
    | nil => cases r1 <;> exact p.elim
    | cons r2 r3 => cases r3 with
      | cons _ _ => cases r1 <;> first | exact p.elim | (cases r2 <;> exact p.elim)
      | nil => cases r1 with
        | int i => cases r2 with
          | int j => exact ⟨i, j, rfl, pr_here p hr (.int _)⟩
          | _ => exact p.elim
        | _ => exact p.elim
theorem call_min2_D (hc : X.calm = true) : CallR X (.builtin "min") (rBi T .min2) := by
  intro pins s σ H xs us Q I r h
  obtain ⟨W, G, μ, st, ds, hr, rl, p⟩ := h
  refine call_min2 hc pins s σ H xs us Q I r ?_
  cases rl with
  | nil => exact p.elim
  | cons r1 r2 => cases r2 with
    | nil => cases r1 <;> exact p.elim
    | cons r2 r3 => cases r3 with
      | cons _ _ => cases r1 <;> first | exact p.elim | (cases r2 <;> exact p.elim)
      | nil => cases r1 with
        | int i => cases r2 with
          | int j => exact ⟨i, j, rfl, pr_here p hr (.int _)⟩
          | _ => exact p.elim
        | _ => exact p.elim
theorem call_gcd_D : CallR X (.builtin "math.gcd") (rBi T .gcd) := by
  intro pins s σ H xs us Q I r h
  obtain ⟨W, G, μ, st, ds, hr, rl, p⟩ := h
  refine cr_gcd pins s σ H xs us Q I r ?_
  cases rl with
  | nil => exact p.elim
  | cons r1 r2 => cases r2 with
    | nil => cases r1 <;> exact p.elim
    | cons r2 r3 => cases r3 with
      | cons _ _ => cases r1 <;> first | exact p.elim | (cases r2 <;> exact p.elim)
      | nil => cases r1 with
        | int i => cases r2 with
          | int j => exact ⟨i, j, rfl, pr_here p hr (.int _)⟩
          | _ => exact p.elim
        | _ => exact p.elim
/-- of one list of ints -/
theorem ints_at {W : XK} {G : Hp} {μ : List Addr} {st : Sto} {H : Hp} {xs : List V} {ds : List D} {Q : VK} {f : List Int → Option D} (hr : Hr T G μ st H) (rl : RpL T G μ xs ds)
    (h : ∃ d, ds = [d] ∧ ∃ ys, lstD st d = some ys ∧ ∃ ns, intsOf ys = some ns ∧ ∃ z, f ns = some z ∧ Pr T (RpD T) W G μ H Q (.ok z st)) :
    ∃ a ns z, xs = [V.ref a] ∧ H a = some (.lst (ns.map V.int)) ∧ f ns = some z ∧ Pr T (RpD T) W G μ H Q (.ok z st) := by
  obtain ⟨d, rfl, ys, h1, ns, h2, z, h3, p⟩ := h
  cases rl with
  | cons r1 r2 =>
    cases r2
    obtain ⟨a, vs, rfl, ha, rv⟩ := lstD_at hr r1 h1
    have e := rv.ints h2
    subst e
    exact ⟨a, ns, z, rfl, ha, h3, p⟩
theorem one_list {W : XK} {G H : Hp} {μ : List Addr} {st : Sto} {Q : VK} {ds : List D} {fb : Bi} {f : List Int → Option D} (hf : ∀ vs st, biD fb vs st = match vs with
    | [x] => (match lstD st x with
      | some xs => (match intsOf xs with
        | some ns => R.of (f ns) st
        | none => .bad)
      | none => .bad)
    | _ => .bad) (p : Pr T (RpD T) W G μ H Q (biD fb ds st)) : ∃ d, ds = [d] ∧ ∃ ys, lstD st d = some ys ∧ ∃ ns, intsOf ys = some ns ∧ ∃ z, f ns = some z ∧ Pr T (RpD T) W G μ H Q (.ok z st) := by
  rw [hf] at p
  split at p
  · rename_i x
    split at p
    · rename_i ys h1
      split at p
      · rename_i ns h2
        obtain ⟨z, h3, p⟩ := p.of
        exact ⟨_, rfl, ys, h1, ns, h2, z, h3, p⟩
      · exact p.elim
    · exact p.elim
  · exact p.elim
theorem call_sum_D (hK : T.K = X.K) (hc : X.calm = true) : CallR X (.builtin "sum") (rBi T .sum) := by
  intro pins s σ H xs us Q I r h
  obtain ⟨W, G, μ, st, ds, hr, rl, p⟩ := h
  obtain ⟨a, ns, z, rfl, ha, h3, p⟩ := ints_at hr rl (one_list (f := fun ns => some (.int ns.sum)) (fun vs st => by cases vs with | nil => rfl | cons x r => cases r with | cons _ _ => rfl | nil => (simp only [biD]; cases lstD st x with | none => rfl | some ys => (simp only; cases intsOf ys <;> rfl))) p)
  cases h3
  exact cr_sum hc pins s σ H _ us Q I r ⟨a, ns, rfl, .inl (.inl ha), pr_here p hr (.int _)⟩
theorem call_maxL_D (hc : X.calm = true) : CallR X (.builtin "max") (rBi T .maxL) := by
  intro pins s σ H xs us Q I r h
  obtain ⟨W, G, μ, st, ds, hr, rl, p⟩ := h
  obtain ⟨a, ns, z, rfl, ha, h3, p⟩ := ints_at hr rl (one_list (f := fun ns => match ns with | n :: ns => some (.int (ns.foldl (fun m y => if m < y then y else m) n)) | [] => none) (fun vs st => by cases vs with | nil => rfl | cons x r => cases r with | cons _ _ => rfl | nil => (simp only [biD]; cases lstD st x with | none => rfl | some ys => (simp only; cases intsOf ys with | none => rfl | some ns => cases ns <;> rfl))) p)
  cases ns with
  | nil => cases h3
  | cons n ns =>
    cases h3
    exact cr_max hc pins s σ H _ us Q I r ⟨a, n :: ns, rfl, .inl (.inl ha), by simp, fun m h1 h2 => by rw [max_uniq ns n m h1 h2]; exact pr_here p hr (.int _)⟩
theorem call_minL_D (hc : X.calm = true) : CallR X (.builtin "min") (rBi T .minL) := by
  intro pins s σ H xs us Q I r h
  obtain ⟨W, G, μ, st, ds, hr, rl, p⟩ := h
  obtain ⟨a, ns, z, rfl, ha, h3, p⟩ := ints_at hr rl (one_list (f := fun ns => match ns with | n :: ns => some (.int (ns.foldl (fun m y => if y < m then y else m) n)) | [] => none) (fun vs st => by cases vs with | nil => rfl | cons x r => cases r with | cons _ _ => rfl | nil => (simp only [biD]; cases lstD st x with | none => rfl | some ys => (simp only; cases intsOf ys with | none => rfl | some ns => cases ns <;> rfl))) p)
  cases ns with
  | nil => cases h3
  | cons n ns =>
    cases h3
    exact cr_min hc pins s σ H _ us Q I r ⟨a, n :: ns, rfl, .inl (.inl ha), by simp, fun m h1 h2 => by rw [min_uniq ns n m h1 h2]; exact pr_here p hr (.int _)⟩
theorem call_sorted_D : CallR X (.builtin "sorted") (rBi T .sorted) := by
  intro pins s σ H xs us Q I r h
  obtain ⟨W, G, μ, st, ds, hr, rl, p⟩ := h
  obtain ⟨a, ns, z, rfl, ha, h3, p⟩ := ints_at hr rl (one_list (f := fun ns => some (.lst ((ns.foldr insSort []).map .int))) (fun vs st => by cases vs with | nil => rfl | cons x r => cases r with | cons _ _ => rfl | nil => (simp only [biD]; cases lstD st x with | none => rfl | some ys => (simp only; cases intsOf ys <;> rfl))) p)
  cases h3
  refine cr_sortedI pins s σ H _ us Q I r ⟨a, ns, rfl, .inl (.inl ha), fun ns' q h1 h2 hq => ?_⟩
  rw [sort_uniq h1 h2]
  exact new_list (mu := false) hr (.ofInts _) p hq
/-- of one sequence -/
theorem call_tuple_D (hK : T.K = X.K) : CallR X (.type "tuple") (rBi T .tuple) := by
  intro pins s σ H xs us Q I r h
  obtain ⟨W, G, μ, st, ds, hr, rl, p⟩ := h
  refine call_tuple_of pins s σ H xs us Q I r ?_
  cases rl with
  | nil => exact p.elim
  | cons r1 r2 => cases r2 with
    | cons _ _ => cases r1 <;> exact p.elim
    | nil =>
      simp only [biD] at p
      split at p
      · rename_i ys hs
        obtain ⟨a, vs, rfl, rv, hh⟩ := seqD_at hr r1 hs
        rcases hh with ⟨hl, _⟩ | ⟨ht, rfl⟩
        · refine ⟨a, vs, rfl, .inl ⟨hK ▸ hl, fun q hq => ?_⟩⟩
          obtain ⟨k1, k2⟩ := hr.known (o := .tup vs) hq
          exact p _ _ _ _ k2 k1 (.tup (.inl (.inl upd_same)) (rv.mono k2.1))
        · exact ⟨a, vs, rfl, .inr ⟨hK ▸ ht, pr_here p hr r1⟩⟩
      · exact p.elim
theorem call_list_D (hK : T.K = X.K) : CallR X (.type "list") (rBi T .list) := by
  intro pins s σ H xs us Q I r h
  obtain ⟨W, G, μ, st, ds, hr, rl, p⟩ := h
  refine call_list_of pins s σ H xs us Q I r ?_
  cases rl with
  | nil => exact p.elim
  | cons r1 r2 => cases r2 with
    | cons _ _ => cases r1 <;> exact p.elim
    | nil =>
      simp only [biD] at p
      split at p
      · rename_i ys hs
        obtain ⟨a, vs, rfl, rv, hh⟩ := seqD_at hr r1 hs
        refine ⟨a, vs, rfl, ?_, fun q hq => new_list (mu := false) hr rv p hq⟩
        rcases hh with ⟨hl, _⟩ | ⟨ht, _⟩
        · exact .inl (hK ▸ hl)
        · exact .inr (hK ▸ ht)
      · exact p.elim
theorem call_listM_D (hK : T.K = X.K) : CallR X (.type "list") (rBi T .listM) := by
  intro pins s σ H xs us Q I r h
  obtain ⟨W, G, μ, st, ds, hr, rl, p⟩ := h
  refine call_list_of pins s σ H xs us Q I r ?_
  cases rl with
  | nil => exact p.elim
  | cons r1 r2 => cases r2 with
    | cons _ _ => cases r1 <;> exact p.elim
    | nil =>
      simp only [biD] at p
      split at p
      · rename_i ys hs
        obtain ⟨a, vs, rfl, rv, hh⟩ := seqD_at hr r1 hs
        refine ⟨a, vs, rfl, ?_, fun q hq => new_list (mu := true) hr rv p hq⟩
        rcases hh with ⟨hl, _⟩ | ⟨ht, _⟩
        · exact .inl (hK ▸ hl)
        · exact .inr (hK ▸ ht)
      · exact p.elim
end
end DI
set_option Elab.async false
set_option linter.all false
set_option maxRecDepth 100000
set_option maxHeartbeats 4000000
set_option autoImplicit false
namespace DI
open PySem PySem.Spec PyProof.Rows L2
/-! ### isinstance -/
def Ty.nm : Ty → String
  | .int => "int" | .bool => "bool" | .str => "str" | .tuple => "tuple" | .list => "list" | .dict => "dict" | _ => ""
def Ty.id : Ty → Str
  | .int => "int" | .bool => "bool" | .str => "str" | .tuple => "tuple" | .list => "list" | .dict => "dict" | _ => ""
def Ty.blt : Ty → Bool
  | .cls _ => false
  | .ve => false
  | _ => true
theorem ty_boot {t : Ty} (h : t.blt = true) : bootBuiltins t.id = some (.type t.nm) ∧ t.id ≠ "__name__" ∧ (t.id == ("__debug__" : Str)) = false := by
  cases t <;> first | (cases h; done) | exact ⟨by decide +kernel, by decide +kernel, by decide +kernel⟩
/-- the type's name of a thing -/
def dTy (st : Sto) : D → String
  | .non => "NoneType" | .bl _ => "bool" | .int _ => "int" | .str _ => "str" | .tup _ => "tuple" | .lst _ => "list" | .ro _ => "list" | .exc _ _ => ""
  | .loc i => match st[i]? with
    | some (.dct _) => "dict"
    | _ => "list"
section
variable {X : Cx} {T : Tb} {W : L2.St → XK} {a e : Expr} {es : List Expr} {fa : Env → Sto → R D} {fs : Env → Sto → R (List D)} {pos p : Pos}
theorem ty_D {G : Hp} {μ : List Addr} {st : Sto} {H : Hp} {v : V} {d : D} (hr : Hr T G μ st H) (r : Rp T G μ v d) (ne : ∀ c fs, d ≠ .exc c fs) : TyX T.K H v (.type (dTy st d)) := by
  cases r with
  | non => exact .base .non
  | bl b => exact .base (.bl b)
  | int i => exact .base (.int i)
  | str s _ => exact .base (.str _)
  | tup h1 h2 =>
    rcases sqt_sub hr h1 with (h | ⟨o, h⟩) | ⟨o, its, n, h, hc, _⟩
    · exact .base (.tup h)
    · exact .fTuple h
    · exact .kTuple h hc
  | lst h1 h2 => exact .base (.lst (hr.sub _ _ h1))
  | ro h1 h2 =>
    rcases sql_sub hr h1 with (h | ⟨o, h⟩) | ⟨o, its, n, h, hc, _⟩
    · exact .base (.lst h)
    · exact .base (.frz h)
    · exact .kList h hc
  | @loc a i h =>
    obtain ⟨_, o, ho, hob⟩ := hr.obj i a h
    cases hob with
    | lst h1 h2 =>
      simp only [dTy, ho]
      exact .base (.lst h1)
  | exc _ _ _ => exact absurd rfl (ne _ _)
theorem kit_D {anc : Nat → Nat → Bool} {st : Sto} {d : D} {t : Ty} (hb : t.blt = true) (ht : tyOk t d = true) {K : PySem.W.Frag} (ho : ∀ i, d = .loc i → ∃ o, st[i]? = some o) : PySem.W.kitOne K (.type (dTy st d)) (.type t.nm) = some (isiD anc st d t) := by
  refine kit_ty ?_
  cases d with
  | loc i =>
    obtain ⟨o, q⟩ := ho i rfl
    cases o <;> cases t <;> first | (cases hb; done) | (simp only [dTy, isiD, Ty.nm, q]; decide)
  | exc _ _ => cases t <;> first | (cases hb; done) | (cases ht; done)
  | _ => cases t <;> first | (cases hb; done) | (simp only [dTy, isiD, Ty.nm]; decide)
theorem kit_any {anc : Nat → Nat → Bool} {st : Sto} {d : D} {K : PySem.W.Frag} (ho : ∀ i, d = .loc i → ∃ o, st[i]? = some o) : ∀ {ts : List Ty}, ts.all Ty.blt = true → (ts.all fun t => tyOk t d) = true → PySem.W.kitAny K (.type (dTy st d)) (ts.map fun t => .type t.nm) = some (ts.any fun t => isiD anc st d t)
  | [], _, _ => kitAny_nil
  | t :: ts, h1, h2 => by
    simp only [List.all_cons, Bool.and_eq_true] at h1 h2
    rw [List.map_cons, List.any_cons]
    refine kitAny_cons (kit_D (anc := anc) h1.1 h2.1 ho) (fun hf => ?_) fun hf => ?_
    · rw [hf, Bool.false_or]
      exact kit_any ho h1.2 h2.2
    · rw [hf]; rfl
/-- the one type, or several in a tuple, as written -/
def tyLit (t : Ty) : Expr → Bool
  | .Name x _ => x == t.id
  | _ => false
theorem pe_ty {t : Ty} (hb : t.blt = true) (hl : tyLit t e = true) (hg : Gl X t.id) (hm : X.mg t.id = none) : PE X e (tC (.ty t.nm)) := by
  cases e <;> try (cases hl; done)
  rename_i x q
  have ex : x = t.id := beq_iff_eq.mp hl
  subst ex
  obtain ⟨h1, h2, h3⟩ := ty_boot hb
  exact pe_bltn hg hm h1 rfl h2 h3
def isiO (anc : Nat → Nat → Bool) (ts : List Ty) (f : Env → Sto → R D) : Env → Sto → R D := fun ρ st => (f ρ st).bind fun x st => if ts.all fun t => tyOk t x then .ok (.bl (ts.any fun t => isiD anc st x t)) st else .bad
theorem not_exc {ts : List Ty} (hb : ts.all Ty.blt = true) (hne : ts ≠ []) {d : D} (h : (ts.all fun t => tyOk t d) = true) : ∀ c fs, d ≠ .exc c fs := by
  intro c fs e
  subst e
  cases ts with
  | nil => exact hne rfl
  | cons t ts =>
    simp only [List.all_cons, Bool.and_eq_true] at hb h
    cases t <;> first | (cases hb.1; done) | (cases h.1; done)
theorem there_D {G : Hp} {μ : List Addr} {st : Sto} {H : Hp} {v : V} {d : D} (hr : Hr T G μ st H) (r : Rp T G μ v d) : ∀ i, d = .loc i → ∃ o, st[i]? = some o := by
  intro i e
  subst e
  cases r with
  | loc h =>
    obtain ⟨_, o, ho, _⟩ := hr.obj i _ h
    exact ⟨o, ho⟩
theorem ex_isi1 {anc : Nat → Nat → Bool} {t : Ty} {c : Expr} (hK : T.K = X.K) (hb : t.blt = true) (hl : tyLit t c = true) (hg : Gl X t.id) (hm : X.mg t.id = none) (hgi : Gl X "isinstance") (hmi : X.mg "isinstance" = none) (hn : nst a = true) (ha : PE X a (tEx T W fa)) :
    PE X (.Call (.Name "isinstance" p) [a, c] [] pos) (tEx T W (isiO anc [t] fa)) := by
  have hc : nst c = true := by cases c <;> first | rfl | (cases hl; done)
  refine pe_of (pe_callB call_isi hgi hmi (by decide +kernel) (pa_cons ha (pa_cons (pe_ty hb hl hg hm) pa_nil (star_cons hc)) (star_cons hn)) (by decide) (by decide) (star_cons hn) (star_plain _ _ _ (by simp [hc]))) fun σ H Q h => ?_
  obtain ⟨G, μ, ρ, st, hr, er, q⟩ := h
  refine tR.imp (tR.bind (Rel := RpD T) hr er q) fun x H1 ⟨G1, m1, s1, dx, e1, hr1, r1, p1⟩ => ?_
  split at p1
  · rename_i ht
    have hb' : [t].all Ty.blt = true := by simp [hb]
    refine ⟨x, .ty t.nm, .type (dTy s1 dx), .type t.nm, isiD anc s1 dx t, rfl, .ty _, hK ▸ ty_D hr1 r1 (not_exc hb' (by simp) ht), kit_D hb (by simpa using ht) (there_D hr1 r1), ?_⟩
    have := p1.here hr1 (.bl _)
    simpa using this
  · exact p1.elim
theorem pa_tys {ts : List Ty} (hb : ts.all Ty.blt = true) (hg : ∀ t ∈ ts, Gl X t.id ∧ X.mg t.id = none) : ∀ {cs : List Expr}, cs.length = ts.length → (cs.zip ts).all (fun p => tyLit p.2 p.1) = true → cs.all nst = true ∧ PA X cs (fun _ H Q => Q (ts.map fun t => V.ty t.nm) H) := by
  induction ts with
  | nil =>
    intro cs hl _
    cases cs with
    | nil => exact ⟨rfl, pa_nil⟩
    | cons _ _ => cases hl
  | cons t ts ih =>
    intro cs hl hz
    cases cs with
    | nil => cases hl
    | cons c cs =>
      simp only [List.all_cons, Bool.and_eq_true] at hb
      simp only [List.zip_cons_cons, List.all_cons, Bool.and_eq_true] at hz
      obtain ⟨h1, h2⟩ := ih hb.2 (fun t ht => hg t (List.mem_cons_of_mem _ ht)) (by simpa using hl) hz.2
      have hc : nst c = true := by cases c <;> first | rfl | (cases hz.1; done)
      obtain ⟨g1, g2⟩ := hg t (List.mem_cons_self ..)
      exact ⟨by simp [hc]; simpa using h1, pa_cons (pe_ty hb.1 hz.1 g1 g2) h2 (star_cons hc)⟩
theorem paired_tys : ∀ ts : List Ty, Paired ClsV (ts.map fun t => V.ty t.nm) (ts.map fun t => Value.type t.nm)
  | [] => .nil
  | t :: ts => .cons (.ty _) (paired_tys ts)
theorem ex_isiT {anc : Nat → Nat → Bool} {ts : List Ty} {cs : List Expr} {k : Nat} {p2 : Pos} (hK : T.K = X.K) (hb : ts.all Ty.blt = true) (hne : ts ≠ []) (hsz : ts.length ≤ 1000) (hlen : cs.length = ts.length) (hl : (cs.zip ts).all (fun p => tyLit p.2 p.1) = true) (hg : ∀ t ∈ ts, Gl X t.id ∧ X.mg t.id = none) (hgi : Gl X "isinstance") (hmi : X.mg "isinstance" = none) (hn : nst a = true) (ha : PE X a (tEx T W fa)) :
    PE X (.Call (.Name "isinstance" p) [a, .Tuple cs k p2] [] pos) (tEx T W (isiO anc ts fa)) := by
  obtain ⟨hcs, hpa⟩ := pa_tys hb hg hlen hl
  refine pe_of (pe_callB call_isiT hgi hmi (by decide +kernel) (pa_cons ha (pa_cons (pe_tup hpa) pa_nil rfl) (star_cons hn)) (by decide) (by decide) (star_cons hn) (star_plain _ _ _ (by simp [nst]))) fun σ H Q h => ?_
  obtain ⟨G, μ, ρ, st, hr, er, q⟩ := h
  refine tR.imp (tR.bind (Rel := RpD T) hr er q) fun x H1 ⟨G1, m1, s1, dx, e1, hr1, r1, p1⟩ => ?_
  split at p1
  · rename_i ht
    refine ⟨by rw [List.length_map]; exact Nat.le_trans hsz (by decide), fun q hq => ?_⟩
    obtain ⟨k1, k2⟩ := hr1.known (o := .tup (ts.map fun t => V.ty t.nm)) hq
    refine ⟨x, q, _, .type (dTy s1 dx), _, ts.any fun t => isiD anc s1 dx t, rfl, upd_same, paired_tys ts, hK ▸ ty_D k1 (r1.mono k2.1) (not_exc hb hne ht), kit_any (there_D hr1 r1) hb ht, ?_⟩
    exact p1 _ _ _ _ k2 k1 (.bl _)
  · exact p1.elim
/-! ### methods of lists -/
def mthO (m : Mt) (fa : Env → Sto → R D) (fs : Env → Sto → R (List D)) : Env → Sto → R D := fun ρ st => (fa ρ st).bind fun x st => if okM m x st then (fs ρ st).bind fun vs st => mtD m x vs st else .bad
/-- a mutable list, changed -/
theorem put_here {G : Hp} {μ : List Addr} {st : Sto} {H : Hp} {i : Nat} {a : Addr} {vs : List V} {ds : List D} {v : V} {d : D} {Q : VK} {w : XK} (hr : Hr T G μ st H) (hi : μ[i]? = some a) (r : RpL T G μ vs ds) (rv : Rp T G μ v d) (h : Pr T (RpD T) w G μ H Q (.ok d (st.set i (.lst ds)))) : Q v (upd H a (.lst vs)) :=
  h _ _ _ _ (Gx.put hi) (hr.put hi r) rv
theorem loc_of {m : Mt} {x : D} {st : Sto} (h : okM m x st = true) (h1 : m ≠ .bitlen) (h2 : m ≠ .index) : ∃ i xs, x = .loc i ∧ st[i]? = some (.lst xs) := by
  cases x with
  | loc i =>
    cases q : st[i]? with
    | none => cases m <;> simp [okM, q] at h
    | some o => cases o with
      | lst xs => exact ⟨i, xs, rfl, q⟩
      | dct _ => cases m <;> simp [okM, q] at h
  | _ => cases m <;> first | (exact absurd rfl h1) | (exact absurd rfl h2) | (cases h; done)
/-- what a method's rule asks, from what its run asks -/
theorem mth_go {m : Mt} {r : V → List V → Hp → VK → Prop} (h1 : m ≠ .bitlen) (h2 : m ≠ .index)
    (k : ∀ (w : XK) (G : Hp) (μ : List Addr) (st : Sto) (H : Hp) (i : Nat) (a : Addr) (xs : List D) (vs : List V) (ds : List D) (us : List V) (Q : VK), Hr T G μ st H → μ[i]? = some a → st[i]? = some (.lst xs) → H a = some (.lst vs) → RpL T G μ vs xs → RpL T G μ us ds → Pr T (RpD T) w G μ H Q (mtD m (.loc i) ds st) → r (.ref a) us H Q)
    (σ : L2.St) (H : Hp) (Q : VK) (h : tEx T W (mthO m fa fs) σ H Q) : tBM X.K "list" r (tEx T W fa) (tLi T W fs) σ H Q := by
  obtain ⟨G, μ, ρ, st, hr, er, q⟩ := h
  refine tR.imp (tR.bind (Rel := RpD T) hr er q) fun x H1 ⟨G1, m1, s1, dx, e1, hr1, r1, p1⟩ => ?_
  split at p1
  · rename_i hk
    obtain ⟨i, xs, rfl, hi⟩ := loc_of hk h1 h2
    cases r1 with
    | @loc a _ hm =>
      obtain ⟨vs, ha, rv⟩ := hr1.at_ hm hi
      refine ⟨.inl ⟨rfl, _, .inl (.inl ha)⟩, ?_⟩
      refine tR.imp (tR.bind (Rel := RpLs T) hr1 (er.mono e1.1) p1) fun us H2 ⟨G2, m2, s2, ds, e2, hr2, r2, p2⟩ => ?_
      have hm2 := e2.m _ _ hm
      obtain ⟨_, o, ho, hob⟩ := hr2.obj i a hm2
      cases hob with
      | lst h3 h4 => exact k (W σ) G2 m2 s2 H2 i a _ _ ds us Q hr2 hm2 ho h3 h4 r2 p2
  · exact p1.elim
theorem mth_go0 {m : Mt} {r : V → List V → Hp → VK → Prop} (h1 : m ≠ .bitlen) (h2 : m ≠ .index)
    (k : ∀ (w : XK) (G : Hp) (μ : List Addr) (st : Sto) (H : Hp) (i : Nat) (a : Addr) (xs : List D) (vs : List V) (Q : VK), Hr T G μ st H → μ[i]? = some a → st[i]? = some (.lst xs) → H a = some (.lst vs) → RpL T G μ vs xs → Pr T (RpD T) w G μ H Q (mtD m (.loc i) [] st) → r (.ref a) [] H Q)
    (σ : L2.St) (H : Hp) (Q : VK) (h : tEx T W (mthO m fa fun _ st => .ok [] st) σ H Q) : tBM0 X.K "list" r (tEx T W fa) σ H Q := by
  obtain ⟨G, μ, ρ, st, hr, er, q⟩ := h
  refine tR.imp (tR.bind (Rel := RpD T) hr er q) fun x H1 ⟨G1, m1, s1, dx, e1, hr1, r1, p1⟩ => ?_
  split at p1
  · rename_i hk
    obtain ⟨i, xs, rfl, hi⟩ := loc_of hk h1 h2
    cases r1 with
    | @loc a _ hm =>
      obtain ⟨vs, ha, rv⟩ := hr1.at_ hm hi
      exact ⟨.inl ⟨rfl, _, .inl (.inl ha)⟩, k (W σ) G1 m1 s1 H1 i a _ _ Q hr1 hm hi ha rv p1⟩
  · exact p1.elim
theorem kw_few : (backToKw pos (keywordEach [] X.env)).all (fun x => x.1.isSome) = true := rfl
theorem few_ok (hn : (e :: es).all nst = true) (hl : (e :: es).length < 30) : ((backTo pos (starEach (e :: es) X.env)).all (fun x => !x.1) && (backToKw pos (keywordEach [] X.env)).all (fun x => x.1.isSome)
      && decide ((e :: es).length + ([] : List Keyword).length + (if ([] : List Keyword).isEmpty then 0 else 1) < 30)) = true := by
  have e : (backToKw pos (keywordEach [] X.env)).all (fun x => x.1.isSome) = true := rfl
  rw [star_few pos X.env _ hn, e]
  simpa using hl
def attB (o : Expr) : Bool := match o with
  | .Call (.Name x _) [] [] _ => x != "super"
  | _ => true
theorem att_base {o : Expr} {f : Str} {env : PySem.Env} {w : Sem Value} (h : attB o = true) : attributeBase o f env w = w := by
  unfold attributeBase
  split
  · rename_i id p1 p2
    have h : (id != "super") = true := h
    rw [h]
    simp
  · rfl
theorem ex_append {apos : Pos} (hb : attB a = true) (hline : (apos.endLine == pos.line) = true) (hn : nst e = true) (ha : PE X a (tEx T W fa)) (hs : PA X [e] (tLi T W fs)) : PE X (.Call (.Attribute a "append" apos) [e] [] pos) (tEx T W (mthO .append fa fs)) := by
  have hn' : [e].all nst = true := by simp [hn]
  refine pe_of (pe_bm PySem.F.plainAttrs_list PySem.F.slot_list_append PySem.F.type_list_append mt_append ha hs (att_base hb) (few_ok hn' (by simp)) hline (star_cons hn) (star_plain _ _ _ rfl)) (mth_go (by simp) (by simp) ?_)
  intro w G μ st H i a xs vs ds us Q hr hm hi h3 h4 ru p
  simp only [mtD, hi] at p
  split at p
  · split at p
    · rename_i y hz
      cases ru with
      | cons r1 r2 =>
        cases r2
        exact ⟨a, vs, _, rfl, rfl, h3, by rw [h4.len]; exact sz_lt hz, put_here hr hm (h4.app (.cons r1 .nil)) .non p⟩
    · exact p.elim
  all_goals first | (rename_i hh; cases hh; done) | exact p.elim
theorem ex_extend (hb : attB a = true) {apos : Pos} (hline : (apos.endLine == pos.line) = true) (hn : nst e = true) (ha : PE X a (tEx T W fa)) (hs : PA X [e] (tLi T W fs)) : PE X (.Call (.Attribute a "extend" apos) [e] [] pos) (tEx T W (mthO .extend fa fs)) := by
  have hn' : [e].all nst = true := by simp [hn]
  refine pe_of (pe_bm PySem.F.plainAttrs_list PySem.F.slot_list_extend PySem.F.type_list_extend mt_extend ha hs (att_base hb) (few_ok hn' (by simp)) hline (star_cons hn) (star_plain _ _ _ rfl)) (mth_go (by simp) (by simp) ?_)
  intro w G μ st H i a xs vs ds us Q hr hm hi h3 h4 ru p
  simp only [mtD, hi] at p
  split at p
  all_goals try (first | (rename_i hh; cases hh; done) | exact p.elim)
  rename_i z
  split at p
  · rename_i ys hy
    split at p
    · rename_i hz
      cases ru with
      | cons r1 r2 =>
        cases r2
        obtain ⟨b, ws, rfl, hb, rb⟩ := lstD_at hr r1 hy
        exact ⟨a, b, vs, ws, rfl, rfl, h3, hb, sz_le (by rw [h4.len, rb.len]; exact hz), put_here hr hm (h4.app rb) .non p⟩
    · exact p.elim
  · exact p.elim
theorem ex_insert (hb : attB a = true) {apos : Pos} {e2 : Expr} (hline : (apos.endLine == pos.line) = true) (hn : nst e = true) (hn2 : nst e2 = true) (ha : PE X a (tEx T W fa)) (hs : PA X [e, e2] (tLi T W fs)) : PE X (.Call (.Attribute a "insert" apos) [e, e2] [] pos) (tEx T W (mthO .insert fa fs)) := by
  have hn' : [e, e2].all nst = true := by simp [hn, hn2]
  refine pe_of (pe_bm PySem.F.plainAttrs_list PySem.F.slot_list_insert PySem.F.type_list_insert mt_insert ha hs (att_base hb) (few_ok hn' (by simp)) hline (star_cons hn) (star_plain _ _ _ (by simp [hn2]))) (mth_go (by simp) (by simp) ?_)
  intro w G μ st H i a xs vs ds us Q hr hm hi h3 h4 ru p
  cases ru with
  | nil => simp only [mtD, hi] at p; exact p.elim
  | cons r1 r2 =>
    cases r2 with
    | nil => cases r1 <;> (simp only [mtD, hi] at p; exact p.elim)
    | cons r2 r3 =>
      cases r3 with
      | cons _ _ => cases r1 <;> (simp only [mtD, hi] at p; exact p.elim)
      | nil =>
        cases r1 with
        | int k =>
          simp only [mtD, hi] at p
          split at p
          · rename_i hz
            refine ⟨a, vs, k, _, rfl, rfl, h3, by rw [h4.len]; exact sz_lt hz.1, hz.2.1, hz.2.2, ?_⟩
            refine put_here hr hm ?_ .non p
            rw [List.append_assoc]
            exact (h4.take _).app (.cons r2 (h4.drop _))
          · exact p.elim
        | _ => simp only [mtD, hi] at p; exact p.elim
theorem ex_popAt (hb : attB a = true) {apos : Pos} (hline : (apos.endLine == pos.line) = true) (hn : nst e = true) (ha : PE X a (tEx T W fa)) (hs : PA X [e] (tLi T W fs)) : PE X (.Call (.Attribute a "pop" apos) [e] [] pos) (tEx T W (mthO .popAt fa fs)) := by
  have hn' : [e].all nst = true := by simp [hn]
  refine pe_of (pe_bm PySem.F.plainAttrs_list PySem.F.slot_list_pop PySem.F.type_list_pop mt_popAt ha hs (att_base hb) (few_ok hn' (by simp)) hline (star_cons hn) (star_plain _ _ _ rfl)) (mth_go (by simp) (by simp) ?_)
  intro w G μ st H i a xs vs ds us Q hr hm hi h3 h4 ru p
  cases ru with
  | nil => simp only [mtD, hi] at p; exact p.elim
  | cons r1 r2 =>
    cases r2 with
    | cons _ _ => cases r1 <;> (simp only [mtD, hi] at p; exact p.elim)
    | nil =>
      cases r1 with
      | int k =>
        simp only [mtD, hi] at p
        split at p
        · rename_i hk
          have hk : -(2 ^ 62) ≤ k ∧ k < 2 ^ 62 := small62_ok hk
          split at p
          · rename_i j hj
            split at p
            · rename_i y hy
              obtain ⟨v, hv, rv⟩ := h4.get hy
              have hj' : ixN vs.length k = some j := by rw [h4.len]; exact hj
              obtain ⟨q1, q2, q3, q4⟩ := ixN_seq hj'
              exact ⟨a, vs, k, j, v, rfl, rfl, h3, by omega, by omega, q1, hv, put_here hr hm (h4.erase j) rv p⟩
            · exact p.elim
          · exact p.elim
        · exact p.elim
      | _ => simp only [mtD, hi] at p; exact p.elim
theorem ex_pop (hb : attB a = true) {apos : Pos} (hline : (apos.endLine == pos.line) = true) (ha : PE X a (tEx T W fa)) : PE X (.Call (.Attribute a "pop" apos) [] [] pos) (tEx T W (mthO .pop fa fun _ st => .ok [] st)) := by
  refine pe_of (pe_bm0 PySem.F.plainAttrs_list PySem.F.slot_list_pop PySem.F.type_list_pop mt_pop ha (att_base hb) hline) (mth_go0 (by simp) (by simp) ?_)
  intro w G μ st H i a xs vs Q hr hm hi h3 h4 p
  simp only [mtD, hi] at p
  split at p
  · rename_i y hy
    have hy' : xs[vs.length - 1]? = some y := by rw [h4.len]; exact hy
    obtain ⟨v, hv, rv⟩ := h4.get hy'
    exact ⟨a, vs, v, rfl, rfl, h3, hv, put_here hr hm h4.dropLast rv p⟩
  · exact p.elim
theorem ex_reverse (hb : attB a = true) {apos : Pos} (hline : (apos.endLine == pos.line) = true) (ha : PE X a (tEx T W fa)) : PE X (.Call (.Attribute a "reverse" apos) [] [] pos) (tEx T W (mthO .reverse fa fun _ st => .ok [] st)) := by
  refine pe_of (pe_bm0 PySem.F.plainAttrs_list PySem.F.slot_list_reverse PySem.F.type_list_reverse mt_reverse ha (att_base hb) hline) (mth_go0 (by simp) (by simp) ?_)
  intro w G μ st H i a xs vs Q hr hm hi h3 h4 p
  simp only [mtD, hi] at p
  exact ⟨a, vs, rfl, rfl, h3, put_here hr hm h4.reverse .non p⟩
theorem ex_bits (hb : attB a = true) {apos : Pos} (hline : (apos.endLine == pos.line) = true) (ha : PE X a (tEx T W fa)) : PE X (.Call (.Attribute a "bit_length" apos) [] [] pos) (tEx T W (mthO .bitlen fa fun _ st => .ok [] st)) := by
  refine pe_of (pe_bits ha (att_base hb) hline) fun σ H Q h => ?_
  obtain ⟨G, μ, ρ, st, hr, er, q⟩ := h
  refine tR.imp (tR.bind (Rel := RpD T) hr er q) fun x H1 ⟨G1, m1, s1, dx, e1, hr1, r1, p1⟩ => ?_
  cases r1 with
  | int i =>
    have p1 : Pr T (RpD T) (W σ) G1 m1 H1 Q (.ok (.int (if i = 0 then (0 : Int) else (i.natAbs.log2 : Int) + 1)) s1) := p1
    refine ⟨i, rfl, ?_⟩
    have e : ((Builtin.Int.intBits i : Nat) : Int) = (if i = 0 then (0 : Int) else (i.natAbs.log2 : Int) + 1) := by
      unfold Builtin.Int.intBits
      split <;> split <;> first | rfl | omega | simp_all
    rw [e]
    exact p1.here hr1 (.int _)
  | _ => exact p1.elim
end
end DI
set_option Elab.async false
set_option linter.all false
set_option maxRecDepth 100000
set_option maxHeartbeats 4000000
set_option autoImplicit false
namespace DI
open PySem PySem.Spec PyProof.Rows L2
/-! ### what a loop walks -/
/-- in every heap behind: the turn i is there and yields the item i, or there is none -/
def SrcR (T : Tb) : Hp → List Addr → L2.It → Src → Prop := fun G μ J src => ∀ (G1 : Hp) (μ1 : List Addr) (st1 : Sto) (H1 : Hp), Gm G μ G1 μ1 → Hr T G1 μ1 st1 H1 → ∀ i : Nat,
  match src with
  | .st xs => (xs.length ≤ i → J.stop i H1) ∧ ∀ d, xs[i]? = some d → J.go i H1 ∧ ∀ x H2, J.yld i H1 x H2 → ∃ G2, Gx G1 μ1 H1 G2 μ1 H2 ∧ Hr T G2 μ1 st1 H2 ∧ Rp T G2 μ1 x d
  | .lv k => ∀ ys, st1[k]? = some (.lst ys) → (ys.length ≤ i → J.stop i H1) ∧ ∀ d, ys[i]? = some d → J.go i H1 ∧ ∀ x H2, J.yld i H1 x H2 → ∃ G2, Gx G1 μ1 H1 G2 μ1 H2 ∧ Hr T G2 μ1 st1 H2 ∧ Rp T G2 μ1 x d
  | .lvE k => ∀ ys, st1[k]? = some (.lst ys) → (ys.length ≤ i → J.stop i H1) ∧ ∀ d, ys[i]? = some d → J.go i H1 ∧ ∀ x H2, J.yld i H1 x H2 → ∃ G2, Gx G1 μ1 H1 G2 μ1 H2 ∧ Hr T G2 μ1 st1 H2 ∧ Rp T G2 μ1 x (.tup [.int (i : Nat), d])
abbrev tIt (T : Tb) (W : L2.St → XK) (f : Env → Sto → R Src) : TI := tR T (SrcR T) W f
section
variable {X : Cx} {T : Tb} {W : L2.St → XK} {a b c tg : Expr} {fa fb fc : Env → Sto → R D} {pos p : Pos}
/-- an iterable by its value: a list, a tuple, a text -/
def iAny (K : PySem.W.Frag) (te : TE) : TI := fun σ H Rq => te σ H fun x H1 => (∃ a, x = .ref a ∧ (∃ xs, SqL K H1 a xs) ∧ Rq (Itl K a) H1) ∨ (∃ a, x = .ref a ∧ (∃ xs, SqT K H1 a xs) ∧ Rq (Itt K a) H1) ∨ ∃ z, x = .str z ∧ Rq (Its z) H1
theorem pi_any {te : TE} (h : PE X a te) : PI X tg a (iAny X.K te) := by
  refine ⟨fun pins s σ H Rq I hq => thn (h.run pins s σ H _ I hq) fun v s1 ⟨x, H1, I1, r1, q1⟩ => ?_⟩
  rcases q1 with ⟨ad, rfl, ⟨xs, hx⟩, q⟩ | ⟨ad, rfl, ⟨xs, hx⟩, q⟩ | ⟨z, rfl, q⟩
  · cases r1
    obtain ⟨its, rv, pl, hz⟩ := I1.list hx
    exact wpAny_pyIter_list pl.isList (pi_one (tk := s1.toks) I1 _ (turn_list ad _) ⟨_, Heap.get?_push_size _ rfl, rfl, rfl⟩ q)
  · cases r1
    obtain ⟨its, rv, pl, hz⟩ := I1.tuple hx
    exact wpAny_pyIter_tuple (show s1.heap.IsTuple ad its.toArray from pl) (pi_one (tk := s1.toks) I1 _ (turn_tuple ad _) ⟨_, Heap.get?_push_size _ rfl, rfl, rfl⟩ q)
  · obtain ⟨t, rfl⟩ := r1
    cases ha : z.cps.all (· < 128) with
    | false => exact wpAny_pyIter_wide ha (pi_one (tk := s1.toks) I1 _ (turn_str _ z t "str_iterator" (.inr rfl)) ⟨_, Heap.get?_push_size _ rfl, rfl, rfl⟩ q)
    | true => exact wpAny_pyIter_ascii ha (pi_one (tk := s1.toks) I1 _ (turn_str _ z t "str_ascii_iterator" (.inl rfl)) ⟨_, Heap.get?_push_size _ rfl, rfl, rfl⟩ q)
theorem sql_inj {K : PySem.W.Frag} {H : Hp} {a : Addr} {xs : List V} (I : ∀ ys, SqL K H a ys → ys = xs) : True := trivial
/-- a list is one list in the machine -/
theorem src_seq {G : Hp} {μ : List Addr} {st : Sto} {H : Hp} {x : V} {d : D} {src : Src} (hK : T.K = X.K) (hr : Hr T G μ st H) (r : Rp T G μ x d) (e : srcD st d = some src) {Rq : L2.It → Hp → Prop} (q : ∀ J, SrcR T G μ J src → Rq J H) :
    (∃ a, x = .ref a ∧ (∃ xs, SqL X.K H a xs) ∧ Rq (Itl X.K a) H) ∨ (∃ a, x = .ref a ∧ (∃ xs, SqT X.K H a xs) ∧ Rq (Itt X.K a) H) ∨ ∃ z, x = .str z ∧ Rq (Its z) H := by
  have fixL : ∀ {a : Addr} {vs : List V} {ds : List D}, SqL T.K G a vs → RpL T G μ vs ds → src = .st ds → Rq (Itl X.K a) H := by
    intro a vs ds h1 h2 es
    subst es
    refine q _ fun G1 m1 s1 H1 e1 hr1 i => ⟨fun hi => ?_, fun d hd => ?_⟩
    · exact ⟨vs, hK ▸ sql_mono (fun b o z => hr1.sub b o (e1.g b o z)) h1, by rw [h2.len]; exact hi⟩
    · obtain ⟨v, hv, rv⟩ := h2.get hd
      have hs : SqL X.K H1 a vs := hK ▸ sql_mono (fun b o z => hr1.sub b o (e1.g b o z)) h1
      refine ⟨⟨vs, v, hs, hv⟩, fun x H2 ⟨y1, y2⟩ => ?_⟩
      have := y2 vs hs
      rw [hv] at this
      cases this
      subst y1
      exact ⟨G1, .refl, hr1, rv.mono e1⟩
  cases r with
  | str s hs =>
    cases e
    refine .inr (.inr ⟨_, rfl, q _ fun G1 m1 s1 H1 e1 hr1 i => ⟨fun hi => ?_, fun d hd => ?_⟩⟩)
    · show (txS s).cps.size ≤ i
      simpa [txS] using hi
    · simp only [List.getElem?_map, Option.map_eq_some_iff] at hd
      obtain ⟨c, hc, rfl⟩ := hd
      refine ⟨?_, fun x H2 ⟨y1, c2, y2, y3⟩ => ?_⟩
      · show i < (txS s).cps.size
        have := (List.getElem?_eq_some_iff.mp hc).1
        simpa [txS] using this
      · have : c = c2 := by
          simp [txS] at y2
          rw [hc] at y2
          exact Option.some.inj y2
        subst this y1 y3
        refine ⟨G1, .refl, hr1, .str [c] ⟨strOk_sub hs.1 fun z hz => ?_, by show 1 ≤ sizeLine; decide⟩⟩
        simp at hz
        subst hz
        exact List.mem_of_getElem? hc
  | @tup a vs ds h1 h2 =>
    cases e
    refine .inr (.inl ⟨a, rfl, ⟨vs, hK ▸ sqt_sub hr h1⟩, q _ fun G1 m1 s1 H1 e1 hr1 i => ⟨fun hi => ?_, fun d hd => ?_⟩⟩)
    · exact ⟨vs, hK ▸ sqt_mono (fun b o z => hr1.sub b o (e1.g b o z)) h1, by rw [h2.len]; exact hi⟩
    · obtain ⟨v, hv, rv⟩ := h2.get hd
      have hs : SqT X.K H1 a vs := hK ▸ sqt_mono (fun b o z => hr1.sub b o (e1.g b o z)) h1
      refine ⟨⟨vs, v, hs, hv⟩, fun x H2 ⟨y1, y2⟩ => ?_⟩
      have := y2 vs hs
      rw [hv] at this
      cases this
      subst y1
      exact ⟨G1, .refl, hr1, rv.mono e1⟩
  | @lst a vs ds h1 h2 => cases e; exact .inl ⟨a, rfl, ⟨vs, .inl (.inl (hr.sub _ _ h1))⟩, fixL (.inl (.inl h1)) h2 rfl⟩
  | @ro a vs ds h1 h2 => cases e; exact .inl ⟨a, rfl, ⟨vs, hK ▸ sql_sub hr h1⟩, fixL h1 h2 rfl⟩
  | @loc a i h =>
    cases e
    obtain ⟨_, o, ho, hob⟩ := hr.obj i a h
    cases hob with
    | @lst vs ds h1 h2 =>
      refine .inl ⟨a, rfl, ⟨vs, .inl (.inl h1)⟩, q _ fun G1 m1 s1 H1 e1 hr1 j ys hys => ?_⟩
      obtain ⟨ws, h3, h4⟩ := hr1.at_ (e1.m _ _ h) hys
      have hs : SqL X.K H1 a ws := .inl (.inl h3)
      refine ⟨fun hi => ⟨ws, hs, by rw [h4.len]; exact hi⟩, fun d hd => ?_⟩
      obtain ⟨v, hv, rv⟩ := h4.get hd
      refine ⟨⟨ws, v, hs, hv⟩, fun x H2 ⟨y1, y2⟩ => ?_⟩
      have := y2 ws hs
      rw [hv] at this
      cases this
      subst y1
      exact ⟨G1, .refl, hr1, rv⟩
  | non => cases e
  | bl _ => cases e
  | int _ => cases e
  | exc _ _ _ => cases e
theorem ei_seq (hK : T.K = X.K) (ha : PE X a (tEx T W fa)) : PI X tg a (tIt T W fun ρ st => (fa ρ st).bind fun x st => R.of (srcD st x) st) := by
  refine ⟨fun pins s σ H Rq I h => (pi_any ha).run pins s σ H Rq I ?_⟩
  obtain ⟨G, μ, ρ, st, hr, er, q⟩ := h
  refine tR.imp (tR.bind (Rel := RpD T) hr er q) fun x H1 ⟨G1, m1, s1, dx, e1, hr1, r1, p1⟩ => ?_
  obtain ⟨src, es, p2⟩ := p1.of
  exact src_seq hK hr1 r1 es fun J hJ => p2.here hr1 hJ
theorem src_rng {G : Hp} {μ : List Addr} (lo hi : Int) : SrcR T G μ (Itr lo (hi - lo).toNat) (.st (rngD lo hi)) := by
  intro G1 m1 s1 H1 e1 hr1 i
  have hl : (rngD lo hi).length = (hi - lo).toNat := by simp [rngD]
  refine ⟨fun h => by rw [hl] at h; exact h, fun d hd => ?_⟩
  have hi' := (List.getElem?_eq_some_iff.mp hd).1
  rw [hl] at hi'
  refine ⟨hi', fun x H2 ⟨y1, y2⟩ => ?_⟩
  subst y1 y2
  have : d = .int (lo + (i : Nat)) := by
    unfold rngD at hd
    rw [List.getElem?_map, List.getElem?_range hi'] at hd
    exact (Option.some.inj hd).symm
  subst this
  exact ⟨G1, .refl, hr1, .int _⟩
theorem ei_rng1 (hg : Gl X "range") (hm : X.mg "range" = none) (hn : nst a = true) (ha : PE X a (tEx T W fa)) : PI X tg (.Call (.Name "range" p) [a] [] pos) (tIt T W fun ρ st => (fa ρ st).bind fun x st => match x with
    | .int i => if small62 i then .ok (.st (rngD 0 i)) st else .bad
    | _ => .bad) := by
  refine ⟨fun pins s σ H Rq I h => (pi_range1 hg hm (pa_cons ha pa_nil (star_cons hn)) (star_cons hn)).run pins s σ H Rq I ?_⟩
  obtain ⟨G, μ, ρ, st, hr, er, q⟩ := h
  refine tR.imp (tR.bind (Rel := RpD T) hr er q) fun x H1 ⟨G1, m1, s1, dx, e1, hr1, r1, p1⟩ => ?_
  cases r1 with
  | int i =>
    replace p1 : Pr T (SrcR T) (W σ) G1 m1 H1 Rq (if small62 i then .ok (.st (rngD 0 i)) s1 else .bad) := p1
    split at p1
    · rename_i hs
      have hs : -(2 ^ 62) ≤ i ∧ i < 2 ^ 62 := small62_ok hs
      refine ⟨i, rfl, hs.1, hs.2, ?_⟩
      have := src_rng (T := T) (G := G1) (μ := m1) 0 i
      rw [Int.sub_zero] at this
      exact p1.here hr1 this
    · exact p1.elim
  | _ => exact p1.elim
theorem ei_rng2 (hg : Gl X "range") (hm : X.mg "range" = none) (hn : nst a = true) (hn2 : nst b = true) (ha : PE X a (tEx T W fa)) (hb : PE X b (tEx T W fb)) : PI X tg (.Call (.Name "range" p) [a, b] [] pos) (tIt T W fun ρ st => (fa ρ st).bind fun x st => (fb ρ st).bind fun y st => match x, y with
    | .int i, .int j => if small62 i && small62 j then .ok (.st (rngD i j)) st else .bad
    | _, _ => .bad) := by
  refine ⟨fun pins s σ H Rq I h => (pi_range2 hg hm (pa_cons ha (pa_cons hb pa_nil (star_cons hn2)) (star_cons hn)) (by rw [star_cons hn, star_cons hn2]; rfl) (by rw [star_cons hn2]; rfl)).run pins s σ H Rq I ?_⟩
  obtain ⟨G, μ, ρ, st, hr, er, q⟩ := h
  refine tR.imp (tR.bind (Rel := RpD T) hr er q) fun x H1 ⟨G1, m1, s1, dx, e1, hr1, r1, p1⟩ => ?_
  refine tR.imp (tR.bind (Rel := RpD T) hr1 (er.mono e1.1) p1) fun y H2 ⟨G2, m2, s2, dy, e2, hr2, r2, p2⟩ => ?_
  cases r1 with
  | int i =>
    cases r2 with
    | int j =>
      replace p2 : Pr T (SrcR T) (W σ) G2 m2 H2 Rq (if small62 i && small62 j then .ok (.st (rngD i j)) s2 else .bad) := p2
      split at p2
      · rename_i hs
        obtain ⟨h1, h2⟩ := Bool.and_eq_true_iff.mp hs
        have h1 : -(2 ^ 62) ≤ i ∧ i < 2 ^ 62 := small62_ok h1
        have h2 : -(2 ^ 62) ≤ j ∧ j < 2 ^ 62 := small62_ok h2
        exact ⟨i, j, rfl, ⟨h1.1, h1.2, h2.1, h2.2⟩, p2.here hr2 (src_rng i j)⟩
      · exact p2.elim
    | _ => exact p2.elim
  | _ => exact False.elim p2
theorem ei_enum {elts : List Expr} {kk : Nat} {tpos : Pos} (hK : T.K = X.K) (hg : Gl X "enumerate") (hm : X.mg "enumerate" = none) (hn : nst a = true) (ha : PE X a (tEx T W fa)) : PI X (.Tuple elts kk tpos) (.Call (.Name "enumerate" p) [a] [] pos) (tIt T W fun ρ st => (fa ρ st).bind fun x st => R.of (srcE st x) st) := by
  refine ⟨fun pins s σ H Rq I h => (pi_enum hg hm (pa_cons ha pa_nil (star_cons hn)) (star_cons hn)).run pins s σ H Rq I ?_⟩
  obtain ⟨G, μ, ρ, st, hr, er, q⟩ := h
  refine tR.imp (tR.bind (Rel := RpD T) hr er q) fun x H1 ⟨G1, m1, s1, dx, e1, hr1, r1, p1⟩ => ?_
  obtain ⟨src, es, p2⟩ := p1.of
  have fixL : ∀ {a : Addr} {vs : List V} {ds : List D}, SqL T.K G1 a vs → RpL T G1 m1 vs ds → src = .st (enumL ds) → Rq (Ite X.K a) H1 := by
    intro a vs ds h1 h2 es
    subst es
    refine p2.here hr1 fun G2 m2 s2 H2 e2 hr2 i => ⟨fun hi => ?_, fun d hd => ?_⟩
    · have hi : ds.length ≤ i := by simpa [enumL] using hi
      exact ⟨vs, hK ▸ sql_mono (fun b o z => hr2.sub b o (e2.g b o z)) h1, by rw [h2.len]; exact hi⟩
    · have hd' : ∃ y, ds[i]? = some y ∧ d = .tup [.int (i : Nat), y] := by
        unfold enumL at hd
        rw [List.getElem?_map, List.getElem?_zipIdx] at hd
        cases q : ds[i]? with
        | none => rw [q] at hd; cases hd
        | some y =>
          rw [q] at hd
          refine ⟨y, rfl, ?_⟩
          have := (Option.some.inj hd).symm
          simpa using this
      obtain ⟨y, hy, rfl⟩ := hd'
      obtain ⟨v, hv, rv⟩ := h2.get hy
      have hs : SqL X.K H2 a vs := hK ▸ sql_mono (fun b o z => hr2.sub b o (e2.g b o z)) h1
      refine ⟨⟨vs, v, hs, hv⟩, fun x H3 ⟨q, z, y1, y2, y3, y4⟩ => ?_⟩
      have := y4 vs hs
      rw [hv] at this
      cases this
      subst y1 y3
      obtain ⟨k1, k2⟩ := hr2.known (o := .tup [.int (i : Nat), v]) y2
      exact ⟨_, k2, k1, .tup (.inl (.inl upd_same)) (.cons (.int _) (.cons ((rv.mono e2).mono k2.1) .nil))⟩
  cases r1 with
  | @lst a vs ds h1 h2 => cases es; exact ⟨a, vs, rfl, .inl (.inl (hr1.sub _ _ h1)), fixL (.inl (.inl h1)) h2 rfl⟩
  | @ro a vs ds h1 h2 => cases es; exact ⟨a, vs, rfl, hK ▸ sql_sub hr1 h1, fixL h1 h2 rfl⟩
  | @loc a i h =>
    cases es
    obtain ⟨_, o, ho, hob⟩ := hr1.obj i a h
    cases hob with
    | @lst vs ds h1 h2 =>
      refine ⟨a, vs, rfl, .inl (.inl h1), p2.here hr1 fun G2 m2 s2 H2 e2 hr2 j ys hys => ?_⟩
      obtain ⟨ws, h3, h4⟩ := hr2.at_ (e2.m _ _ h) hys
      have hs : SqL X.K H2 a ws := .inl (.inl h3)
      refine ⟨fun hi => ⟨ws, hs, by rw [h4.len]; exact hi⟩, fun d hd => ?_⟩
      obtain ⟨v, hv, rv⟩ := h4.get hd
      refine ⟨⟨ws, v, hs, hv⟩, fun x H3 ⟨q, z, y1, y2, y3, y4⟩ => ?_⟩
      have := y4 ws hs
      rw [hv] at this
      cases this
      subst y1 y3
      obtain ⟨k1, k2⟩ := hr2.known (o := .tup [.int (j : Nat), v]) y2
      exact ⟨_, k2, k1, .tup (.inl (.inl upd_same)) (.cons (.int _) (.cons (rv.mono k2.1) .nil))⟩
  | _ => cases es
theorem ei_zip {elts : List Expr} {kk : Nat} {tpos : Pos} (hK : T.K = X.K) (hg : Gl X "zip") (hm : X.mg "zip" = none) (hn : nst a = true) (hn2 : nst b = true) (ha : PE X a (tEx T W fa)) (hb : PE X b (tEx T W fb)) : PI X (.Tuple elts kk tpos) (.Call (.Name "zip" p) [a, b] [] pos) (tIt T W fun ρ st => (fa ρ st).bind fun x st => (fb ρ st).bind fun y st => match x, y with
    | .lst xs, .lst ys => .ok (.st ((xs.zip ys).map fun p => .tup [p.1, p.2])) st
    | .tup xs, .tup ys => .ok (.st ((xs.zip ys).map fun p => .tup [p.1, p.2])) st
    | _, _ => .bad) := by
  refine ⟨fun pins s σ H Rq I h => (RZ.pi_zipA hg hm (pa_cons ha (pa_cons hb pa_nil (star_cons hn2)) (star_cons hn)) (star_cons hn) (by rw [star_cons hn2]; rfl)).run pins s σ H Rq I ?_⟩
  obtain ⟨G, μ, ρ, st, hr, er, q⟩ := h
  refine tR.imp (tR.bind (Rel := RpD T) hr er q) fun x H1 ⟨G1, m1, s1, dx, e1, hr1, r1, p1⟩ => ?_
  refine tR.imp (tR.bind (Rel := RpD T) hr1 (er.mono e1.1) p1) fun y H2 ⟨G2, m2, s2, dy, e2, hr2, r2, p2⟩ => ?_
  have r1 := r1.mono e2.1
  have at2 : ∀ {xs ys : List D} {i : Nat} {d : D}, ((xs.zip ys).map fun p => D.tup [p.1, p.2])[i]? = some d → ∃ x y, xs[i]? = some x ∧ ys[i]? = some y ∧ d = .tup [x, y] := by
    intro xs ys i d h
    rw [List.getElem?_map] at h
    cases q : (xs.zip ys)[i]? with
    | none => rw [q] at h; cases h
    | some p =>
      rw [q] at h
      rw [List.getElem?_zip_eq_some] at q
      exact ⟨p.1, p.2, q.1, q.2, (Option.some.inj h).symm⟩
  cases r1 with
  | @lst ad vs xs h1 h2 =>
    cases r2 with
    | @lst bd ws ys k1 k2 =>
      refine ⟨ad, bd, vs, ws, rfl, .inl ⟨.inl (.inl (hr2.sub _ _ h1)), .inl (.inl (hr2.sub _ _ k1)), Pr.here (a := Src.st ((xs.zip ys).map fun p => .tup [p.1, p.2])) (st := s2) p2 hr2 fun G3 m3 s3 H3 e3 hr3 i => ?_⟩⟩
      have l1 : SqL X.K H3 ad vs := .inl (.inl (hr3.sub _ _ (e3.g _ _ h1)))
      have l2 : SqL X.K H3 bd ws := .inl (.inl (hr3.sub _ _ (e3.g _ _ k1)))
      refine ⟨fun hi => ⟨vs, ws, l1, l2, ?_⟩, fun d hd => ?_⟩
      · rw [h2.len, k2.len]
        simp only [List.length_map, List.length_zip] at hi
        omega
      · obtain ⟨x, y, hx, hy, rfl⟩ := at2 hd
        obtain ⟨v, hv, rv⟩ := h2.get hx
        obtain ⟨w, hw, rw'⟩ := k2.get hy
        refine ⟨⟨vs, ws, v, w, l1, l2, hv, hw⟩, fun x' H4 ⟨q, z1, z2, y1, y2, y3, y4, y5⟩ => ?_⟩
        have t1 := y4 vs l1
        have t2 := y5 ws l2
        rw [hv] at t1
        rw [hw] at t2
        cases t1
        cases t2
        subst y1 y3
        obtain ⟨k1, k2⟩ := hr3.known (o := .tup [v, w]) y2
        exact ⟨_, k2, k1, .tup (.inl (.inl upd_same)) (.cons ((rv.mono e3).mono k2.1) (.cons ((rw'.mono e3).mono k2.1) .nil))⟩
    | _ => exact False.elim p2
  | @tup ad vs xs h1 h2 =>
    cases r2 with
    | @tup bd ws ys k1 k2 =>
      have l1 : SqT X.K H2 ad vs := hK ▸ sqt_sub hr2 h1
      have l2 : SqT X.K H2 bd ws := hK ▸ sqt_sub hr2 k1
      refine ⟨ad, bd, vs, ws, rfl, .inr ⟨l1, l2, Pr.here (a := Src.st ((xs.zip ys).map fun p => .tup [p.1, p.2])) (st := s2) p2 hr2 fun G3 m3 s3 H3 e3 hr3 i => ?_⟩⟩
      have l1 : SqT X.K H3 ad vs := hK ▸ sqt_mono (fun b o z => hr3.sub b o (e3.g b o z)) h1
      have l2 : SqT X.K H3 bd ws := hK ▸ sqt_mono (fun b o z => hr3.sub b o (e3.g b o z)) k1
      refine ⟨fun hi => ⟨vs, ws, l1, l2, ?_⟩, fun d hd => ?_⟩
      · rw [h2.len, k2.len]
        simp only [List.length_map, List.length_zip] at hi
        omega
      · obtain ⟨x, y, hx, hy, rfl⟩ := at2 hd
        obtain ⟨v, hv, rv⟩ := h2.get hx
        obtain ⟨w, hw, rw'⟩ := k2.get hy
        refine ⟨⟨vs, ws, v, w, l1, l2, hv, hw⟩, fun x' H4 ⟨q, z1, z2, y1, y2, y3, y4, y5⟩ => ?_⟩
        have t1 := y4 vs l1
        have t2 := y5 ws l2
        rw [hv] at t1
        rw [hw] at t2
        cases t1
        cases t2
        subst y1 y3
        obtain ⟨k1, k2⟩ := hr3.known (o := .tup [v, w]) y2
        exact ⟨_, k2, k1, .tup (.inl (.inl upd_same)) (.cons ((rv.mono e3).mono k2.1) (.cons ((rw'.mono e3).mono k2.1) .nil))⟩
    | _ => exact False.elim p2
  | _ => exact False.elim p2
end
end DI
set_option Elab.async false
set_option linter.all false
set_option maxRecDepth 100000
set_option maxHeartbeats 4000000
set_option autoImplicit false
namespace DI
open PySem PySem.Spec PyProof.Rows L2
/-! ### targets -/
def tTg (T : Tb) (t : Tg) : TG := fun v σ H Q => ∃ (G : Hp) (μ : List Addr) (ρ : Env) (d : D) (ρ' : Env), (∀ a o, G a = some o → H a = some o) ∧ Er T G μ ρ σ ∧ Rp T G μ v d ∧ setT t d ρ = some ρ' ∧ ∀ σ', Er T G μ ρ' σ' → (∀ own, Tg.inn own t = true → wipe σ' own = wipe σ own) → Q σ' H
def tTgs (T : Tb) (ts : List Tg) : TGs := fun vs σ H Q => ∃ (G : Hp) (μ : List Addr) (ρ : Env) (ds : List D) (ρ' : Env), (∀ a o, G a = some o → H a = some o) ∧ Er T G μ ρ σ ∧ RpL T G μ vs ds ∧ setTs ts ds ρ = some ρ' ∧ ∀ σ', Er T G μ ρ' σ' → (∀ own, Tg.innL own ts = true → wipe σ' own = wipe σ own) → Q σ' H
theorem pg_of {X : Cx} {e : Expr} {t t' : TG} (h : PG X e t) (k : ∀ v σ H Q, t' v σ H Q → t v σ H Q) : PG X e t' := ⟨fun pins s σ H v u Q I r q => h.run pins s σ H v u Q I r (k v σ H Q q)⟩
theorem pgs_of {X : Cx} {e : List Expr} {t t' : TGs} (h : PGs X e t) (k : ∀ v σ H Q, t' v σ H Q → t v σ H Q) : PGs X e t' := ⟨fun pins s σ H v u Q I r q => h.run pins s σ H v u Q I r (k v σ H Q q)⟩
section
variable {X : Cx} {T : Tb} {W : L2.St → XK} {a b c e : Expr} {es : List Expr} {fa fb fc : Env → Sto → R D} {fs : Env → Sto → R (List D)} {pos p : Pos}
theorem wipe_in {x : Option V} {i : Nat} : ∀ (own : List Nat) (σ : L2.St), (i ∈ own → wipe (σ.set i x) own = wipe σ own) ∧ (i ∉ own → wipe (σ.set i x) own = (wipe σ own).set i x)
  | [], σ => ⟨fun h => by simp at h, fun _ => rfl⟩
  | v :: vs, σ => by
    obtain ⟨h1, h2⟩ := wipe_in vs σ
    unfold wipe
    by_cases hi : i ∈ vs
    · rw [h1 hi]
      exact ⟨fun _ => rfl, fun h => absurd (List.mem_cons_of_mem _ hi) h⟩
    · rw [h2 hi]
      by_cases hv : v = i
      · subst hv
        rw [List.set_set]
        exact ⟨fun _ => rfl, fun h => absurd (List.mem_cons_self ..) h⟩
      · rw [List.set_comm _ _ (fun z => hv z.symm)]
        refine ⟨fun h => ?_, fun _ => rfl⟩
        rcases List.mem_cons.mp h with z | z
        · exact absurd z.symm hv
        · exact absurd z hi
theorem eg_name {i : Nat} {x : Str} (hN : X.N.Nodup) (hi : X.N[i]? = some x) (hx : Loc X.env.scope x) (hf : X.fn x = true ∨ X.env.scope.names.lookup x = some .local) : PG X (.Name x pos) (tTg T (.nm i)) := by
  refine pg_of (pg_name hN hi hx hf) fun v σ H Q ⟨G, μ, ρ, d, ρ', sub, er, r, es, q⟩ => ?_
  cases es
  exact q _ (er.set r i) fun own ho => (wipe_in own σ).1 (by simpa [Tg.inn] using ho)
theorem egs_nil : PGs X [] (tTgs T []) := by
  refine pgs_of pgs_nil fun vs σ H Q ⟨G, μ, ρ, ds, ρ', sub, er, r, es, q⟩ => ?_
  cases r with
  | nil => cases es; exact ⟨rfl, q _ er fun _ _ => rfl⟩
  | cons _ _ => cases es
def asg1 (e : Expr) : Bool := match e with
  | .Name _ _ => true
  | .Tuple _ _ _ => true
  | _ => false
theorem egs_cons {t : Tg} {ts : List Tg} (hc : asg1 e = true) (h1 : PG X e (tTg T t)) (h2 : PGs X es (tTgs T ts)) : PGs X (e :: es) (tTgs T (t :: ts)) := by
  have k : (assignEach (e :: es) X.env).map (·.2) = assign e X.env :: (assignEach es X.env).map (·.2) := by
    cases e <;> first | rfl | (cases hc; done)
  refine pgs_of (pgs_cons h1 h2 k) fun vs σ H Q ⟨G, μ, ρ, ds, ρ', sub, er, r, es, q⟩ => ?_
  cases r with
  | nil => cases es
  | cons r1 r2 =>
    simp only [setTs] at es
    cases h : setT t _ ρ with
    | none => rw [h] at es; cases es
    | some ρ1 =>
      rw [h] at es
      refine ⟨_, _, rfl, G, μ, ρ, _, ρ1, sub, er, r1, h, fun σ' er' hw => ⟨G, μ, ρ1, _, ρ', sub, er', r2, es, fun σ2 er2 hw2 => q σ2 er2 fun own ho => ?_⟩⟩
      have ho : Tg.inn own t = true ∧ Tg.innL own ts = true := by simpa [Tg.innL] using ho
      exact (hw2 own ho.2).trans (hw own ho.1)
theorem asg_len : ∀ es : List Expr, es.all asg1 = true → (assignEach es X.env).length = es.length ∧ (assignEach es X.env).findIdx? (·.1) = none
  | [], _ => ⟨rfl, rfl⟩
  | e :: es, h => by
    simp only [List.all_cons, Bool.and_eq_true] at h
    obtain ⟨h1, h2⟩ := asg_len es h.2
    have k : ∃ z, assignEach (e :: es) X.env = (false, z) :: assignEach es X.env := by
      cases e <;> first | exact ⟨_, rfl⟩ | (cases h.1; done)
    obtain ⟨z, k⟩ := k
    rw [k]
    refine ⟨by simp [h1], ?_⟩
    rw [List.findIdx?_cons]
    simp [h2]
theorem eg_tup {ts : List Tg} {k : Nat} (hK : T.K = X.K) (hc : X.calm = true) (ha : es.all asg1 = true) (hl : es.length = ts.length) (h : PGs X es (tTgs T ts)) : PG X (.Tuple es k pos) (tTg T (.tp ts)) := by
  obtain ⟨h1, h2⟩ := asg_len (X := X) es ha
  refine pg_of (pg_tup hc h (n := es.length) h1 h2) fun v σ H Q ⟨G, μ, ρ, d, ρ', sub, er, r, e2, q⟩ => ?_
  cases r with
  | tup q1 q2 =>
    simp only [setT] at e2
    have hlen : ∀ (ts : List Tg) (ds : List D) (ρ ρ' : Env), setTs ts ds ρ = some ρ' → ds.length = ts.length := by
      intro ts
      induction ts with
      | nil => intro ds ρ ρ' e; cases ds with
        | nil => rfl
        | cons _ _ => cases e
      | cons t ts ih =>
        intro ds ρ ρ' e
        cases ds with
        | nil => cases e
        | cons d ds =>
          simp only [setTs] at e
          cases hh : setT t d ρ with
          | none => rw [hh] at e; cases e
          | some ρ1 => rw [hh] at e; exact congrArg Nat.succ (ih ds ρ1 ρ' e)
    refine ⟨_, _, rfl, hK ▸ sqt_mono sub q1, by rw [q2.len, hlen ts _ ρ ρ' e2, hl], G, μ, ρ, _, ρ', sub, er, q2, e2, fun σ' er' hw => q σ' er' fun own ho => hw own (by simpa [Tg.inn] using ho)⟩
  | _ => cases e2
end
/-! ### statements -/
/-- what is wanted behind a statement's run -/
def Ps (T : Tb) (W : WX) (De : Ends) (G : Hp) (μ : List Addr) (H : Hp) : RS → Prop
  | .ok fl ρ' st' => ∀ (G' : Hp) (μ' : List Addr) (H' : Hp) (σ' : L2.St), Gx G μ H G' μ' H' → Hr T G' μ' st' H' → Er T G' μ' ρ' σ' → (match fl with
    | .nx => De.nx σ' H'
    | .bk => De.bk σ' H'
    | .ct => De.ct σ' H'
    | .rt d => ∀ v, Rp T G' μ' v d → De.rt v H')
  | .err c fs ρ' st' => ∀ (G' : Hp) (μ' : List Addr) (H' : Hp) (σ' : L2.St) (d : Addr) (fv : List (Str × V)), Gx G μ H G' μ' H' → Hr T G' μ' st' H' → Er T G' μ' ρ' σ' → G' d = some (.xd fv) → RpF T G' μ' fv fs → W (.ref (T.cl c)) (some d) σ' H'
  | .bad => False
def tSt (T : Tb) (W : WX) (f : Env → Sto → RS) : TS := fun De σ H => ∃ (G : Hp) (μ : List Addr) (ρ : Env) (st : Sto), Hr T G μ st H ∧ Er T G μ ρ σ ∧ Ps T W De G μ H (f ρ st)
abbrev WE' (W : WX) : L2.St → XK := fun σ cls d H => W cls d σ H
section
variable {X : Cx} {T : Tb} {W : WX} {a b c e : Expr} {es : List Expr} {fa fb fc : Env → Sto → R D} {fs : Env → Sto → R (List D)} {pos p : Pos} {st : Stmt} {rest : List Stmt} {f g : Env → Sto → RS}
theorem Ps.mono {De : Ends} {G G' H H' : Hp} {μ μ' : List Addr} {r : RS} (e : Gx G μ H G' μ' H') (h : Ps T W De G μ H r) : Ps T W De G' μ' H' r := by
  cases r with
  | ok fl ρ' st' => exact fun G2 m2 H2 s2 e2 hr er => h G2 m2 H2 s2 (e.trans e2) hr er
  | err c fs ρ' st' => exact fun G2 m2 H2 s2 d fv e2 hr er hd rf => h G2 m2 H2 s2 d fv (e.trans e2) hr er hd rf
  | bad => exact h
/-- from an expression's run to what is behind it -/
theorem Ps.of {α β : Type} {Rel : Hp → List Addr → β → α → Prop} {De : Ends} {G H : Hp} {μ : List Addr} {r : R α} {ρ : Env} {σ : L2.St} {k : α → Sto → RS} (er : Er T G μ ρ σ) (h : Ps T W De G μ H (RS.of r ρ k)) :
    Pr T Rel (WE' W σ) G μ H (fun v H' => ∃ G' μ' st' a, Gx G μ H G' μ' H' ∧ Hr T G' μ' st' H' ∧ Rel G' μ' v a ∧ Ps T W De G' μ' H' (k a st')) r := by
  cases r with
  | ok a st' => exact fun G2 m2 H2 v e2 hr rv => ⟨G2, m2, st', a, e2, hr, rv, Ps.mono e2 h⟩
  | err c fs st' => exact fun G2 m2 H2 d fv e2 hr hd rf => h G2 m2 H2 σ d fv e2 hr (er.mono e2.1) hd rf
  | bad => exact h
theorem tR.toS {α β : Type} {Rel : Hp → List Addr → β → α → Prop} {De : Ends} {G : Hp} {μ : List Addr} {ρ : Env} {st : Sto} {σ : L2.St} {H : Hp} {r : Env → Sto → R α} {k : α → Sto → RS} (hr : Hr T G μ st H) (er : Er T G μ ρ σ) (h : Ps T W De G μ H (RS.of (r ρ st) ρ k)) :
    tR T Rel (WE' W) r σ H fun v H' => ∃ G' μ' st' a, Gx G μ H G' μ' H' ∧ Hr T G' μ' st' H' ∧ Rel G' μ' v a ∧ Ps T W De G' μ' H' (k a st') := ⟨G, μ, ρ, st, hr, er, Ps.of er h⟩
theorem Ps.nx {De : Ends} {G : Hp} {μ : List Addr} {ρ : Env} {st : Sto} {H : Hp} {σ : L2.St} (h : Ps T W De G μ H (.ok .nx ρ st)) (hr : Hr T G μ st H) (er : Er T G μ ρ σ) : De.nx σ H := h G μ H σ .refl hr er
theorem Ps.rt {De : Ends} {G : Hp} {μ : List Addr} {ρ : Env} {st : Sto} {H : Hp} {σ : L2.St} {d : D} {v : V} (h : Ps T W De G μ H (.ok (.rt d) ρ st)) (hr : Hr T G μ st H) (er : Er T G μ ρ σ) (r : Rp T G μ v d) : De.rt v H := h G μ H σ .refl hr er v r
theorem Ps.seq {De : Ends} {G H : Hp} {μ : List Addr} {r : RS} {k : Env → Sto → RS} (h : Ps T W De G μ H (r.seq k)) : Ps T W { De with nx := fun σ' H' => ∃ G' μ' ρ' st', Gx G μ H G' μ' H' ∧ Hr T G' μ' st' H' ∧ Er T G' μ' ρ' σ' ∧ Ps T W De G' μ' H' (k ρ' st') } G μ H r := by
  cases r with
  | ok fl ρ' st' =>
    cases fl with
    | nx => exact fun G2 m2 H2 s2 e2 hr er => ⟨G2, m2, ρ', st', e2, hr, er, Ps.mono e2 h⟩
    | _ => exact h
  | err c fs ρ' st' => exact h
  | bad => exact h
theorem es_nil : PSs X [] (tSt T W fun ρ st => .ok .nx ρ st) := pss_of pss_nil fun De σ H ⟨G, μ, ρ, st, hr, er, p⟩ => p.nx hr er
theorem es_cons (h1 : PS X st (tSt T W f)) (h2 : PSs X rest (tSt T W g)) : PSs X (st :: rest) (tSt T W fun ρ st => (f ρ st).seq g) := by
  refine pss_of (pss_cons h1 h2) fun De σ H ⟨G, μ, ρ, s0, hr, er, p⟩ => ?_
  refine ⟨G, μ, ρ, s0, hr, er, ?_⟩
  have q := p.seq
  revert q
  generalize f ρ s0 = r
  intro q
  cases r with
  | ok fl ρ' st' =>
    cases fl with
    | nx =>
      intro G2 m2 H2 s2 e2 hr2 er2
      obtain ⟨G3, m3, r3, t3, e3, hr3, er3, p3⟩ := q G2 m2 H2 s2 e2 hr2 er2
      exact ⟨G3, m3, r3, t3, hr3, er3, p3⟩
    | _ => exact q
  | err c fs ρ' st' => exact q
  | bad => exact q
theorem es_pass : PS X (.Pass pos) (tSt T W fun ρ st => .ok .nx ρ st) := ps_of ps_pass fun De σ H ⟨G, μ, ρ, st, hr, er, p⟩ => p.nx hr er
theorem es_brk : PS X (.Break pos) (tSt T W fun ρ st => .ok .bk ρ st) := ps_of ps_break fun De σ H ⟨G, μ, ρ, st, hr, er, p⟩ => p G μ H σ .refl hr er
theorem es_cont : PS X (.Continue pos) (tSt T W fun ρ st => .ok .ct ρ st) := ps_of ps_continue fun De σ H ⟨G, μ, ρ, st, hr, er, p⟩ => p G μ H σ .refl hr er
theorem es_retN : PS X (.Return none pos) (tSt T W fun ρ st => .ok (.rt .non) ρ st) := ps_of ps_retN fun De σ H ⟨G, μ, ρ, st, hr, er, p⟩ => p.rt hr er .non
theorem es_ret (ha : PE X a (tEx T (WE' W) fa)) : PS X (.Return (some a) pos) (tSt T W fun ρ st => RS.of (fa ρ st) ρ fun d st => .ok (.rt d) ρ st) := by
  refine ps_of (ps_ret ha) fun De σ H ⟨G, μ, ρ, st, hr, er, p⟩ => ?_
  exact tR.imp (tR.toS (Rel := RpD T) hr er p) fun x H1 ⟨G1, m1, s1, dx, e1, hr1, r1, p1⟩ => p1.rt hr1 (er.mono e1.1) r1
/-- a value that is no comprehension: its store is the ordinary one -/
def noSw : Expr → Bool
  | .ListComp _ _ _ _ => false
  | .SetComp _ _ _ _ => false
  | .DictComp _ _ _ _ _ => false
  | _ => true
theorem no_sw {t : Option Expr} {l : Nat} {env : PySem.Env} (h : noSw e = true) : swapsWith e t l env = pure false := by
  cases e <;> first | rfl | (cases h; done)
theorem es_expr (hn : noSw a = true) (ha : PE X a (tEx T (WE' W) fa)) : PS X (.Expr a pos) (tSt T W fun ρ st => RS.of (fa ρ st) ρ fun _ st => .ok .nx ρ st) := by
  refine ps_of (ps_expr ha (no_sw hn)) fun De σ H ⟨G, μ, ρ, st, hr, er, p⟩ => ?_
  exact tR.imp (tR.toS (Rel := RpD T) hr er p) fun x H1 ⟨G1, m1, s1, dx, e1, hr1, r1, p1⟩ => p1.nx hr1 (er.mono e1.1)
theorem es_if {q r : List Stmt} (hc : PT X c (tBo T (WE' W) (teT fc))) (ha : PSs X q (tSt T W f)) (hb : PSs X r (tSt T W g)) : PS X (.If c q r pos) (tSt T W fun ρ st => RS.of (teT fc ρ st) ρ fun k st => if k then f ρ st else g ρ st) := by
  refine ps_of (ps_if hc ha hb) fun De σ H ⟨G, μ, ρ, st, hr, er, p⟩ => ?_
  refine tR.imp (tR.toS (Rel := fun _ _ (v : Bool) (b : Bool) => v = b) hr er p) fun x H1 ⟨G1, m1, s1, dx, e1, hr1, r1, p1⟩ => ?_
  subst r1
  cases x with
  | true => exact ⟨G1, m1, ρ, s1, hr1, er.mono e1.1, p1⟩
  | false => exact ⟨G1, m1, ρ, s1, hr1, er.mono e1.1, p1⟩
/-- target = value -/
theorem es_asg {tg : Expr} {t : Tg} (hn : noSw a = true) (h1 : asg1 tg = true) (hw : swappedStores [tg] a X.env = pure none) (ha : PE X a (tEx T (WE' W) fa)) (hg : PG X tg (tTg T t)) :
    PS X (.Assign [tg] a pos) (tSt T W fun ρ st => RS.of (fa ρ st) ρ fun d st => match setT t d ρ with
      | some ρ' => .ok .nx ρ' st
      | none => .bad) := by
  have k : (assignEach [tg] X.env).map (·.2) = [assign tg X.env] := by
    cases tg <;> first | rfl | (cases h1; done)
  refine ps_of (ps_asg ha hg (no_sw hn) hw k) fun De σ H ⟨G, μ, ρ, st, hr, er, p⟩ => ?_
  refine tR.imp (tR.toS (Rel := RpD T) hr er p) fun x H1 ⟨G1, m1, s1, dx, e1, hr1, r1, p1⟩ => ?_
  cases hs : setT t dx ρ with
  | none => rw [hs] at p1; exact p1.elim
  | some ρ' =>
    rw [hs] at p1
    exact ⟨G1, m1, ρ, dx, ρ', hr1.sub, er.mono e1.1, r1, hs, fun σ' er' _ => p1.nx hr1 er'⟩
theorem es_par {i j : Nat} {x y : Str} {px py pt : Pos} {kt k2 : Nat} {pt2 : Pos} (hc : X.calm = true) (hN : X.N.Nodup) (hi : X.N[i]? = some x) (hj : X.N[j]? = some y) (hij : i ≠ j)
    (hx : X.env.scope.names.lookup x = some .local) (hy : X.env.scope.names.lookup y = some .local) (hn : nst a = true) (hn2 : nst b = true)
    (hw : swappedStores [.Tuple [.Name x px, .Name y py] kt pt] (.Tuple [a, b] k2 pt2) X.env = pure (some [x, y])) (ha : PE X a (tEx T (WE' W) fa)) (hb : PE X b (tEx T (WE' W) fb)) :
    PS X (.Assign [.Tuple [.Name x px, .Name y py] kt pt] (.Tuple [a, b] k2 pt2) pos) (tSt T W fun ρ st => RS.of (fa ρ st) ρ fun u st => RS.of (fb ρ st) ρ fun v st => .ok .nx ((ρ.set i (some u)).set j (some v)) st) := by
  refine ps_of (ps_par hc hN hi hj hij hx hy (pa_cons ha (pa_cons hb pa_nil (star_cons hn2)) (star_cons hn)) hw) fun De σ H ⟨G, μ, ρ, st, hr, er, p⟩ => ?_
  refine tR.imp (tR.toS (Rel := RpD T) hr er p) fun x H1 ⟨G1, m1, s1, dx, e1, hr1, r1, p1⟩ => ?_
  refine tR.imp (tR.toS (Rel := RpD T) hr1 (er.mono e1.1) p1) fun y H2 ⟨G2, m2, s2, dy, e2, hr2, r2, p2⟩ => ?_
  exact ⟨x, y, rfl, p2.nx hr2 ((((er.mono e1.1).mono e2.1).set (r1.mono e2.1) i).set r2 j)⟩
theorem op_A {op : BO} {u v z : D} (he : opA op u v = some z) : ∃ r : R2, OpR X (inplaceOp op.op) r ∧ ∀ (G : Hp) (μ : List Addr) (x y : V) (H : Hp) (Q : VK), Rp T G μ x u → Rp T G μ y v → (∀ w, Rp T G μ w z → Q w H) → r x y H Q := by
  unfold opA at he
  split at he
  · cases he
    refine ⟨_, iop_add, fun G μ x y H Q r1 r2 q => ?_⟩
    cases r1; cases r2
    exact ⟨_, _, rfl, rfl, q _ (.int _)⟩
  · cases he
    refine ⟨_, iop_sub, fun G μ x y H Q r1 r2 q => ?_⟩
    cases r1; cases r2
    exact ⟨_, _, rfl, rfl, q _ (.int _)⟩
  · split at he
    · rename_i hz
      cases he
      refine ⟨_, iop_add_str, fun G μ x y H Q r1 r2 q => ?_⟩
      cases r1 with
      | str _ h1 =>
        cases r2 with
        | str _ h2 =>
          refine ⟨_, _, rfl, rfl, sz_le (by rw [txS_len, txS_len]; exact hz), ?_⟩
          rw [← txS_app]
          exact q _ (.str _ ⟨strOk_app h1.1 h2.1, sz_le (by rw [List.length_append]; exact hz)⟩)
    · cases he
  · cases he
theorem es_aug {i : Nat} {x : Str} {p2 : Pos} (op : BO) (hN : X.N.Nodup) (hi : X.N[i]? = some x) (hx : Loc X.env.scope x) (hf : X.fn x = true ∨ X.env.scope.names.lookup x = some .local) (ha : PE X a (tEx T (WE' W) fa)) :
    PS X (.AugAssign (.Name x p2) op.op a pos) (tSt T W fun ρ st => match ρ[i]? with
    | some (some x) => RS.of (fa ρ st) ρ fun y st => match opA op x y with
      | some z => .ok .nx (ρ.set i (some z)) st
      | none => .bad
    | _ => .bad) := by
  refine ps_of (ps_aug hN hi hx ha (ti := fun x y H Q => ∃ (u v z : D) (G : Hp) (μ : List Addr), opA op u v = some z ∧ Rp T G μ x u ∧ Rp T G μ y v ∧ ∀ w, Rp T G μ w z → Q w H) ?_ hf) fun De σ H ⟨G, μ, ρ, st, hr, er, p⟩ => ?_
  · intro pins s σ H x y v u Q I rx ry ⟨du, dv, dz, G, μ, he, r1, r2, q⟩
    obtain ⟨r, ho, k⟩ := op_A (X := X) (T := T) he
    exact ho pins s σ H x y v u Q I rx ry (k G μ x y H Q r1 r2 q)
  · dsimp only at p
    split at p
    · rename_i d hd
      obtain ⟨v, hv, rv⟩ := er.at_ i d hd
      refine ⟨v, hv, tR.imp (tR.toS (Rel := RpD T) hr er p) fun x H1 ⟨G1, m1, s1, dx, e1, hr1, r1, p1⟩ => ?_⟩
      split at p1
      · rename_i z hz
        exact ⟨d, dx, z, G1, m1, hz, rv.mono e1.1, r1, fun w rw' => p1.nx hr1 ((er.mono e1.1).set rw' i)⟩
      · exact p1.elim
    · exact p.elim
theorem es_setIx {o i : Expr} {fo fi : Env → Sto → R D} {p2 : Pos} (hn : noSw a = true) (hnl : nsl i = true) (ha : PE X a (tEx T (WE' W) fa)) (ho : PE X o (tEx T (WE' W) fo)) (hi : PE X i (tEx T (WE' W) fi)) :
    PS X (.Assign [.Subscript o i p2] a pos) (tSt T W fun ρ st => RS.of (fa ρ st) ρ fun v st => RS.of (fo ρ st) ρ fun x st => RS.of (fi ρ st) ρ fun k st => match setD x k v st with
    | some st' => .ok .nx ρ st'
    | none => .bad) := by
  have k1 : ∀ v, assign (.Subscript o i p2) X.env v = (do
      let ov ← holding [v] (eval o X.env)
      let iv ← holding [v, ov] (eval i X.env)
      standAt p2
      holding [v, ov, iv] (setItem ov iv v)
      release [v, ov, iv] []) := by
    intro v
    cases i <;> first | rfl | (cases hnl; done)
  refine ps_of (ps_asg ha (pg_sub ho hi set_list k1) (no_sw (t := some (.Subscript o i p2)) (l := pos.line) (env := X.env) hn)) fun De σ H ⟨G, μ, ρ, st, hr, er, p⟩ => ?_
  refine tR.imp (tR.toS (Rel := RpD T) hr er p) fun x H1 ⟨G1, m1, s1, dx, e1, hr1, r1, p1⟩ => ?_
  refine tR.imp (tR.toS (Rel := RpD T) hr1 (er.mono e1.1) p1) fun y H2 ⟨G2, m2, s2, dy, e2, hr2, r2, p2⟩ => ?_
  refine tR.imp (tR.toS (Rel := RpD T) hr2 ((er.mono e1.1).mono e2.1) p2) fun z H3 ⟨G3, m3, s3, dz, e3, hr3, r3, p3⟩ => ?_
  have r2 := r2.mono e3.1
  have r1 := (r1.mono e2.1).mono e3.1
  cases hs : setD dy dz dx s3 with
  | none => rw [hs] at p3; exact p3.elim
  | some st' =>
    rw [hs] at p3
    cases r2 with
    | @loc ad l hm =>
      cases r3 with
      | int k =>
        simp only [setD] at hs
        split at hs
        · rename_i xs hx
          simp only [Option.map_eq_some_iff] at hs
          obtain ⟨j, hj, rfl⟩ := hs
          obtain ⟨vs, hv, rv⟩ := hr3.at_ hm hx
          refine ⟨ad, vs, k, j, rfl, rfl, hv, by rw [rv.len]; exact hj, ?_⟩
          exact p3 _ _ _ _ (Gx.put hm) (hr3.put hm (rv.set r1 j)) (((er.mono e1.1).mono e2.1).mono e3.1)
        · cases hs
      | _ => cases hs
    | _ => cases hs
end
end DI
set_option Elab.async false
set_option linter.all false
set_option maxRecDepth 100000
set_option maxHeartbeats 4000000
set_option autoImplicit false
namespace DI
open PySem PySem.Spec PyProof.Rows L2
section
variable {X : Cx} {T : Tb} {W : WX} {a b c e tg iter : Expr} {es : List Expr} {fa fb fc : Env → Sto → R D} {fs : Env → Sto → R (List D)} {pos p : Pos} {st : Stmt} {body : List Stmt} {f g : Env → Sto → RS}
theorem es_while (hp : PassesOwn (model X.prog X.w) X.A X.env X.xe) (hc : PT X c (tBo T (WE' W) (teT fc))) (hb : PSs X body (tSt T W f)) : PS X (.While c body [] pos) (tSt T W fun ρ st => whileF (teT fc) f FUEL ρ st) := by
  refine ps_of (ps_while hp hc hb) fun De σ H ⟨G, μ, ρ, st, hr, er, p⟩ => ?_
  refine ⟨fun n σ' H' => ∃ (G' : Hp) (μ' : List Addr) (ρ' : Env) (st' : Sto), Gx G μ H G' μ' H' ∧ Hr T G' μ' st' H' ∧ Er T G' μ' ρ' σ' ∧ Ps T W De G' μ' H' (whileF (teT fc) f n ρ' st'), ⟨FUEL, G, μ, ρ, st, .refl, hr, er, p⟩, ?_⟩
  rintro n σ1 H1 ⟨G1, m1, r1, s1, e1, hr1, er1, p1⟩
  cases n with
  | zero => exact p1.elim
  | succ n =>
    rw [whileF] at p1
    refine ⟨G1, m1, r1, s1, hr1, er1, ?_⟩
    revert p1
    generalize teT fc r1 s1 = rt
    intro p1
    cases rt with
    | bad => exact p1.elim
    | err c fs s2 => exact fun G2 m2 H2 d fv e2 hr2 hd rf => p1 G2 m2 H2 σ1 d fv e2 hr2 (er1.mono e2.1) hd rf
    | ok k s2 =>
      intro G2 m2 H2 v e2 hr2 rv
      subst rv
      cases v with
      | false => exact (Ps.mono e2 p1).nx hr2 (er1.mono e2.1)
      | true =>
        refine ⟨_, fun σ' H' h => ⟨n, Nat.lt_succ_self n, h⟩, G2, m2, r1, s2, hr2, er1.mono e2.1, ?_⟩
        replace p1 := Ps.mono e2 p1
        revert p1
        show Ps T W De G2 m2 H2 (match f r1 s2 with
          | .ok .nx ρ st => whileF (teT fc) f n ρ st
          | .ok .ct ρ st => whileF (teT fc) f n ρ st
          | .ok .bk ρ st => .ok .nx ρ st
          | r => r) → _
        generalize f r1 s2 = rb
        intro p1
        cases rb with
        | bad => exact p1.elim
        | err c fs r3 s3 => exact p1
        | ok fl r3 s3 =>
          cases fl with
          | nx => exact fun G3 m3 H3 σ3 e3 hr3 er3 => ⟨G3, m3, r3, s3, (e1.trans e2).trans e3, hr3, er3, Ps.mono e3 p1⟩
          | ct => exact fun G3 m3 H3 σ3 e3 hr3 er3 => ⟨G3, m3, r3, s3, (e1.trans e2).trans e3, hr3, er3, Ps.mono e3 p1⟩
          | bk => exact p1
          | rt d => exact p1
/-- one turn of a for: the target, then the body -/
def fTurn (t : Tg) (f : Env → Sto → RS) : D → Env → Sto → RS := fun x ρ st => match setT t x ρ with
    | some ρ' => f ρ' st
    | none => .bad
theorem turn_ok {t : Tg} {De : Ends} {G : Hp} {μ : List Addr} {ρ : Env} {s : Sto} {H : Hp} {σ : L2.St} {x : V} {d : D} {k : Env → Sto → RS} {N : L2.St → Hp → Prop} (hr : Hr T G μ s H) (er : Er T G μ ρ σ) (rx : Rp T G μ x d)
    (p : Ps T W De G μ H (match fTurn t f d ρ s with
      | .ok .nx ρ st => k ρ st
      | .ok .ct ρ st => k ρ st
      | .ok .bk ρ st => .ok .nx ρ st
      | r => r)) (hN : ∀ (G3 : Hp) (m3 : List Addr) (r3 : Env) (s3 : Sto) (H3 : Hp) (σ3 : L2.St), Gx G μ H G3 m3 H3 → Hr T G3 m3 s3 H3 → Er T G3 m3 r3 σ3 → Ps T W De G3 m3 H3 (k r3 s3) → N σ3 H3) :
    tTg T t x σ H fun σ2 H2 => tSt T W f { De with nx := N, ct := N, bk := De.nx } σ2 H2 := by
  unfold fTurn at p
  cases hs : setT t d ρ with
  | none => rw [hs] at p; exact p.elim
  | some ρ' =>
    rw [hs] at p
    refine ⟨G, μ, ρ, d, ρ', hr.sub, er, rx, hs, fun σ' er' _ => ⟨G, μ, ρ', s, hr, er', ?_⟩⟩
    revert p
    simp only
    generalize f ρ' s = rb
    intro p
    cases rb with
    | bad => exact p.elim
    | err c fs r3 s3 => exact p
    | ok fl r3 s3 =>
      cases fl with
      | nx => exact fun G3 m3 H3 σ3 e3 hr3 er3 => hN G3 m3 r3 s3 H3 σ3 e3 hr3 er3 (Ps.mono e3 p)
      | ct => exact fun G3 m3 H3 σ3 e3 hr3 er3 => hN G3 m3 r3 s3 H3 σ3 e3 hr3 er3 (Ps.mono e3 p)
      | bk => exact p
      | rt d => exact p
def noSet : Expr → Bool
  | .Set _ _ _ => false
  | _ => true
theorem no_fold {env : PySem.Env} (h : noSet iter = true) : ∀ x, foldedSetIterable iter env x = pure x := fun x => by
  cases iter <;> first | rfl | (cases h; done)
theorem es_for {t : Tg} {fi : Env → Sto → R Src} (hp : PassesOwn (model X.prog X.w) X.A X.env X.xe) (hc : X.calm = true) (hn : noSet iter = true) (hi : PI X tg iter (tIt T (WE' W) fi)) (hg : PG X tg (tTg T t)) (hb : PSs X body (tSt T W f)) :
    PS X (.For tg iter body [] pos) (tSt T W fun ρ st => RS.of (fi ρ st) ρ fun s st => forD (fTurn t f) s ρ st) := by
  refine ps_of (ps_for hp hc hi hg hb (no_fold hn)) fun De σ H ⟨G, μ, ρ, st, hr, er, p⟩ => ?_
  refine tR.imp (tR.toS (Rel := SrcR T) hr er p) fun J H1 ⟨G1, m1, s1, src, e1, hr1, r1, p1⟩ => ?_
  have er1 := er.mono e1.1
  cases src with
  | st xs =>
    refine ⟨fun i m σ' H' => ∃ (G' : Hp) (μ' : List Addr) (ρ' : Env) (st' : Sto), Gx G1 m1 H1 G' μ' H' ∧ Hr T G' μ' st' H' ∧ Er T G' μ' ρ' σ' ∧ m = xs.length - i ∧ Ps T W De G' μ' H' (forS (fTurn t f) (xs.drop i) ρ' st'), ⟨_, G1, m1, ρ, s1, .refl, hr1, er1, rfl, p1⟩, ?_⟩
    rintro i m σ2 H2 ⟨G2, m2, r2, s2, e2, hr2, er2, rfl, p2⟩
    obtain ⟨k1, k2⟩ := r1 G2 m2 s2 H2 e2.1 hr2 i
    cases hx : xs[i]? with
    | none =>
      have hl : xs.length ≤ i := List.getElem?_eq_none_iff.mp hx
      rw [List.drop_eq_nil_of_le hl] at p2
      exact .inl ⟨k1 hl, p2.nx hr2 er2⟩
    | some d =>
      obtain ⟨h1, hd⟩ := List.getElem?_eq_some_iff.mp hx
      obtain ⟨q1, q2⟩ := k2 d hx
      refine .inr ⟨q1, fun σ' H' => ∃ (G' : Hp) (μ' : List Addr) (ρ' : Env) (st' : Sto), Gx G1 m1 H1 G' μ' H' ∧ Hr T G' μ' st' H' ∧ Er T G' μ' ρ' σ' ∧ Ps T W De G' μ' H' (forS (fTurn t f) (xs.drop (i + 1)) ρ' st'), fun σ' H' ⟨G', μ', ρ', st', z1, z2, z3, z4⟩ => ⟨xs.length - (i + 1), by omega, G', μ', ρ', st', z1, z2, z3, rfl, z4⟩, fun x H3 y => ?_⟩
      obtain ⟨G3, e3, hr3, rx⟩ := q2 x H3 y
      rw [List.drop_eq_getElem_cons h1, hd] at p2
      replace p2 := Ps.mono e3 p2
      rw [forS] at p2
      exact turn_ok (k := forS (fTurn t f) (xs.drop (i + 1))) hr3 (er2.mono e3.1) rx p2 fun G4 m4 r4 s4 H4 σ4 e4 hr4 er4 p4 => ⟨G4, m4, r4, s4, (e2.trans e3).trans e4, hr4, er4, p4⟩
  | lv l =>
    refine ⟨fun i m σ' H' => ∃ (G' : Hp) (μ' : List Addr) (ρ' : Env) (st' : Sto), Gx G1 m1 H1 G' μ' H' ∧ Hr T G' μ' st' H' ∧ Er T G' μ' ρ' σ' ∧ Ps T W De G' μ' H' (forV (fTurn t f) false l m i ρ' st'), ⟨_, G1, m1, ρ, s1, .refl, hr1, er1, p1⟩, ?_⟩
    rintro i m σ2 H2 ⟨G2, m2, r2, s2, e2, hr2, er2, p2⟩
    cases m with
    | zero => exact p2.elim
    | succ m =>
      rw [forV] at p2
      cases hl : s2[l]? with
      | none => rw [hl] at p2; exact p2.elim
      | some o =>
        rw [hl] at p2
        cases o with
        | dct _ => exact p2.elim
        | lst xs =>
          obtain ⟨k1, k2⟩ := r1 G2 m2 s2 H2 e2.1 hr2 i xs hl
          simp only at p2
          cases hx : xs[i]? with
          | none =>
            rw [hx] at p2
            exact .inl ⟨k1 (List.getElem?_eq_none_iff.mp hx), p2.nx hr2 er2⟩
          | some d =>
            rw [hx] at p2
            obtain ⟨q1, q2⟩ := k2 d hx
            refine .inr ⟨q1, fun σ' H' => ∃ (G' : Hp) (μ' : List Addr) (ρ' : Env) (st' : Sto), Gx G1 m1 H1 G' μ' H' ∧ Hr T G' μ' st' H' ∧ Er T G' μ' ρ' σ' ∧ Ps T W De G' μ' H' (forV (fTurn t f) false l m (i + 1) ρ' st'), fun σ' H' h => ⟨m, Nat.lt_succ_self m, h⟩, fun x H3 y => ?_⟩
            obtain ⟨G3, e3, hr3, rx⟩ := q2 x H3 y
            replace p2 := Ps.mono e3 p2
            exact turn_ok (k := forV (fTurn t f) false l m (i + 1)) hr3 (er2.mono e3.1) rx p2 fun G4 m4 r4 s4 H4 σ4 e4 hr4 er4 p4 => ⟨G4, m4, r4, s4, (e2.trans e3).trans e4, hr4, er4, p4⟩
  | lvE l =>
    refine ⟨fun i m σ' H' => ∃ (G' : Hp) (μ' : List Addr) (ρ' : Env) (st' : Sto), Gx G1 m1 H1 G' μ' H' ∧ Hr T G' μ' st' H' ∧ Er T G' μ' ρ' σ' ∧ Ps T W De G' μ' H' (forV (fTurn t f) true l m i ρ' st'), ⟨_, G1, m1, ρ, s1, .refl, hr1, er1, p1⟩, ?_⟩
    rintro i m σ2 H2 ⟨G2, m2, r2, s2, e2, hr2, er2, p2⟩
    cases m with
    | zero => exact p2.elim
    | succ m =>
      rw [forV] at p2
      cases hl : s2[l]? with
      | none => rw [hl] at p2; exact p2.elim
      | some o =>
        rw [hl] at p2
        cases o with
        | dct _ => exact p2.elim
        | lst xs =>
          obtain ⟨k1, k2⟩ := r1 G2 m2 s2 H2 e2.1 hr2 i xs hl
          simp only at p2
          cases hx : xs[i]? with
          | none =>
            rw [hx] at p2
            exact .inl ⟨k1 (List.getElem?_eq_none_iff.mp hx), p2.nx hr2 er2⟩
          | some d =>
            rw [hx] at p2
            obtain ⟨q1, q2⟩ := k2 d hx
            refine .inr ⟨q1, fun σ' H' => ∃ (G' : Hp) (μ' : List Addr) (ρ' : Env) (st' : Sto), Gx G1 m1 H1 G' μ' H' ∧ Hr T G' μ' st' H' ∧ Er T G' μ' ρ' σ' ∧ Ps T W De G' μ' H' (forV (fTurn t f) true l m (i + 1) ρ' st'), fun σ' H' h => ⟨m, Nat.lt_succ_self m, h⟩, fun x H3 y => ?_⟩
            obtain ⟨G3, e3, hr3, rx⟩ := q2 x H3 y
            replace p2 := Ps.mono e3 p2
            exact turn_ok (k := forV (fTurn t f) true l m (i + 1)) hr3 (er2.mono e3.1) rx p2 fun G4 m4 r4 s4 H4 σ4 e4 hr4 er4 p4 => ⟨G4, m4, r4, s4, (e2.trans e3).trans e4, hr4, er4, p4⟩
end
/-! ### comprehensions -/
abbrev WN : L2.St → XK := fun _ _ _ _ => False
section
variable {X : Cx} {T : Tb} {W : L2.St → XK} {e tg iter : Expr} {ifs : List Expr} {fe : Env → Sto → R D} {fcs : Env → Sto → R Bool} {pos : Pos}
theorem wipe_set {ρ : Env} {own : List Nat} : ∀ {t : Tg} {d : D} {ρ' : Env}, True := trivial
theorem ets_nil : PTs X [] (tBo T WN fun _ st => .ok true st) := ⟨fun pins s σ H Q I h => pts_nil.run pins s σ H Q I (by
  obtain ⟨G, μ, ρ, st, hr, er, p⟩ := h
  exact p.here hr rfl)⟩
theorem ets_one {c : Expr} {fc : Env → Sto → R D} (h : PT X c (tBo T WN (teT fc))) : PTs X [c] (tBo T WN fun ρ st => (fc ρ st).bind fun x st => match truD st x with
    | some true => .ok true st
    | some false => .ok false st
    | none => .bad) := ⟨fun pins s σ H Q I q => (pts_one h).run pins s σ H Q I (by
  obtain ⟨G, μ, ρ, st, hr, er, p⟩ := q
  refine ⟨G, μ, ρ, st, hr, er, ?_⟩
  have e : teT fc ρ st = (fc ρ st).bind fun x st => match truD st x with
    | some true => .ok true st
    | some false => .ok false st
    | none => .bad := by
    simp only [teT]
    cases fc ρ st with
    | ok x s1 =>
      simp only [R.bind]
      cases truD s1 x with
      | none => rfl
      | some k => cases k <;> rfl
    | _ => rfl
  rw [e]
  exact p)⟩
/-- one turn of a comprehension -/
def cTurn (t : Tg) (own : List Nat) (fcs : Env → Sto → R Bool) (fe : Env → Sto → R D) (ρ : Env) : D → Sto → R (Option D) := fun x st => match setT t x (wipeD ρ own) with
      | none => .bad
      | some ρ' => (fcs ρ' st).bind fun b st => if b then (fe ρ' st).bind fun d st => .ok (some d) st else .ok none st
end
end DI
set_option Elab.async false
set_option linter.all false
set_option maxRecDepth 100000
set_option maxHeartbeats 4000000
set_option autoImplicit false
namespace DI
open PySem PySem.Spec PyProof.Rows L2
/-! ### a list in the making, hidden from the store -/
structure Hid (G : Hp) (μ : List Addr) (H : Hp) (D : Addr) (vs : List V) : Prop where
  h : H D = some (.lst vs)
  g : G D = none
  m : ∀ i : Nat, μ[i]? ≠ some D
section
variable {T : Tb} {G G' H H' H1 : Hp} {μ μ' : List Addr} {st : Sto} {D : Addr} {vs : List V}
theorem Hid.gx (h : Hid G μ H D vs) (e : Gx G μ H G' μ' H') : Hid G' μ' H' D vs := by
  refine ⟨e.fr D _ h.h h.m, ?_, fun i z => ?_⟩
  · cases q : G' D with
    | none => rfl
    | some o =>
      rcases e.ng D o q with z | z
      · rw [h.g] at z; cases z
      · rw [h.h] at z; cases z
  · rcases e.nm i D z with z | z
    · exact h.m i z
    · rw [h.h] at z; cases z
theorem Hr.hid {o : HO} (hr : Hr T G μ st H) (g : G D = none) (m : ∀ i : Nat, μ[i]? ≠ some D) : Hr T G μ st (upd H D o) := by
  refine ⟨fun a u q => ?_, hr.len, fun i a q => ?_, hr.nd⟩
  · rw [upd_ne (ne_of_none q g)]; exact hr.sub a u q
  · obtain ⟨h1, ob, h2, h3⟩ := hr.obj i a q
    have ne : a ≠ D := fun z => m i (z ▸ q)
    refine ⟨h1, ob, h2, ?_⟩
    cases h3 with
    | lst h4 r => exact .lst (by rw [upd_ne ne]; exact h4) r
theorem Gx.hid {G1 : Hp} {m1 : List Addr} {o : HO} (e : Gx G1 m1 H1 G' μ' H') (hD : H1 D = none) : Gx G1 m1 H1 G' μ' (upd H' D o) := by
  refine ⟨e.1, fun a u q n => ?_, fun a u q => ?_, e.ng, e.nm⟩
  · rw [upd_ne (ne_of_none q hD)]; exact e.fr a u q n
  · rw [upd_ne (ne_of_none q hD)]; exact e.kp a u q
theorem Hid.new (hr : Hr T G μ st H) (hD : H D = none) : Hid G μ (upd H D (.lst [])) D [] := by
  refine ⟨upd_same, ?_, fun i z => ?_⟩
  · cases q : G D with
    | none => rfl
    | some o => rw [hr.sub D o q] at hD; cases hD
  · obtain ⟨_, ob, _, h3⟩ := hr.obj i D z
    cases h3 with
    | lst h4 _ => rw [h4] at hD; cases hD
theorem Hid.put {ws : List V} (h : Hid G μ H D vs) : Hid G μ (upd H D (.lst ws)) D ws := ⟨upd_same, h.g, h.m⟩
/-- it comes to light -/
theorem Hid.out {G1 : Hp} {m1 : List Addr} {ds : List DI.D} {mu : Bool} {w : XK} {Q : VK} (h : Hid G μ H D vs) (hD : H1 D = none) (e : Gx G1 m1 H1 G μ H) (hr : Hr T G μ st H) (r : RpL T G μ vs ds) (p : Pr T (RpD T) w G1 m1 H1 Q (newL mu ds st)) : Q (.ref D) H := by
  rw [newL_mk] at p
  split at p
  · cases mu with
    | false =>
      have gm : Gm G μ (upd G D (.lst vs)) μ := ⟨fun a o q => by rw [upd_ne (ne_of_none q h.g)]; exact q, fun _ _ q => q⟩
      refine p (upd G D (.lst vs)) μ H (.ref D) ⟨⟨fun a o q => gm.g a o (e.g a o q), e.m⟩, e.fr, e.kp, fun a o q => ?_, e.nm⟩ ⟨fun a o q => ?_, hr.len, fun i a q => ?_, hr.nd⟩ (.lst upd_same (r.mono gm))
      · by_cases ha : a = D
        · subst ha; exact .inr hD
        · rw [upd_ne ha] at q; exact e.ng a o q
      · by_cases ha : a = D
        · subst ha; rw [upd_same] at q; cases q; exact h.h
        · rw [upd_ne ha] at q; exact hr.sub a o q
      · obtain ⟨h1, ob, h2, h3⟩ := hr.obj i a q
        have ne : a ≠ D := fun z => h.m i (z ▸ q)
        refine ⟨by rw [upd_ne ne]; exact h1, ob, h2, ?_⟩
        cases h3 with
        | lst h4 r => exact .lst h4 (r.mono gm)
    | true =>
      have split : ∀ (i : Nat) (a : Addr), (μ ++ [D])[i]? = some a → μ[i]? = some a ∨ (i = μ.length ∧ a = D) := fun i a q => by
        by_cases hi : i < μ.length
        · rw [List.getElem?_append_left hi] at q; exact .inl q
        · rw [List.getElem?_append_right (by omega)] at q
          have h0 : i - μ.length = 0 := by
            have := (List.getElem?_eq_some_iff.mp q).1
            simp at this; omega
          rw [h0] at q
          simp at q
          exact .inr ⟨by omega, q.symm⟩
      have gm : Gm G μ G (μ ++ [D]) := ⟨fun _ _ q => q, fun i a q => by rw [List.getElem?_append_left (List.getElem?_eq_some_iff.mp q).1]; exact q⟩
      refine p G (μ ++ [D]) H (.ref D) ⟨⟨e.g, fun i a q => gm.m i a (e.m i a q)⟩, e.fr, e.kp, e.ng, fun i a q => ?_⟩ ⟨hr.sub, by simp [hr.len], fun i a q => ?_, fun i j a q1 q2 => ?_⟩ (.loc (by rw [← hr.len]; simp))
      · rcases split i a q with q | ⟨_, rfl⟩
        · exact e.nm i a q
        · exact .inr hD
      · rcases split i a q with q | ⟨rfl, rfl⟩
        · obtain ⟨h1, ob, h2, h3⟩ := hr.obj i a q
          refine ⟨h1, ob, by rw [List.getElem?_append_left (List.getElem?_eq_some_iff.mp h2).1]; exact h2, ?_⟩
          cases h3 with
          | lst h4 r => exact .lst h4 (r.mono gm)
        · exact ⟨h.g, .lst ds, by rw [hr.len]; simp, .lst h.h (r.mono gm)⟩
      · rcases split i a q1 with z1 | ⟨e1, z1⟩ <;> rcases split j a q2 with z2 | ⟨e2, z2⟩
        · exact hr.nd i j a z1 z2
        · exact absurd (z2 ▸ z1) (h.m i)
        · exact absurd (z1 ▸ z2) (h.m j)
        · omega
  · exact p.elim
end
theorem wipe_get (σ : L2.St) (i : Nat) : ∀ vs : List Nat, (wipe σ vs)[i]? = if i ∈ vs then σ[i]?.map fun _ => none else σ[i]?
  | [] => by simp [wipe]
  | v :: vs => by
    unfold wipe
    rw [List.getElem?_set, wipe_length]
    by_cases h : v = i
    · subst h
      by_cases hv : v < σ.length
      · simp [hv]
      · simp [hv, List.getElem?_eq_none (Nat.le_of_not_lt hv)]
    · rw [if_neg h, wipe_get σ i vs]
      have : (i ∈ v :: vs) ↔ i ∈ vs := by simp [Ne.symm h]
      simp only [this]
theorem wipe_wipe (σ : L2.St) (vs : List Nat) : wipe (wipe σ vs) vs = wipe σ vs := by
  apply List.ext_getElem?
  intro i
  rw [wipe_get, wipe_get]
  by_cases h : i ∈ vs
  · simp only [h, if_true]
    cases σ[i]? <;> rfl
  · simp [h]
def accO (acc : List D) : Option D → List D
  | some d => acc ++ [d]
  | none => acc
theorem compS_grow {f : D → Sto → R (Option D)} : ∀ (xs acc : List D) (st : Sto) {ds : List D} {st' : Sto}, compS f xs acc st = .ok ds st' → acc.length ≤ ds.length := by
  intro xs
  induction xs with
  | nil => intro acc st ds st' e; cases e; exact Nat.le_refl _
  | cons x xs ih =>
    intro acc st ds st' e
    simp only [compS] at e
    cases h : f x st with
    | ok o s2 =>
      rw [h] at e
      have := ih _ s2 e
      cases o with
      | none => exact this
      | some d => simp only [List.length_append] at this; omega
    | err _ _ _ => rw [h] at e; cases e
    | bad => rw [h] at e; cases e
theorem compV_grow {f : D → Sto → R (Option D)} {en : Bool} {l : Nat} : ∀ (n j : Nat) (acc : List D) (st : Sto) {ds : List D} {st' : Sto}, compV f en l n j acc st = .ok ds st' → acc.length ≤ ds.length := by
  intro n
  induction n with
  | zero => intro j acc st ds st' e; cases e
  | succ n ih =>
    intro j acc st ds st' e
    simp only [compV] at e
    split at e
    · split at e
      · cases e; exact Nat.le_refl _
      · rename_i x _
        cases h : f (if en = true then .tup [.int (j : Nat), x] else x) st with
        | ok o s2 =>
          rw [h] at e
          have := ih _ _ s2 e
          cases o with
          | none => exact this
          | some d => simp only [List.length_append] at this; omega
        | err _ _ _ => rw [h] at e; cases e
        | bad => rw [h] at e; cases e
    · cases e
section
variable {X : Cx} {T : Tb} {W : L2.St → XK} {e tg iter : Expr} {ifs : List Expr} {fe : Env → Sto → R D} {fcs : Env → Sto → R Bool} {fi : Env → Sto → R Src} {pos : Pos}
abbrev fLc (mu : Bool) (t : Tg) (own : List Nat) (fi : Env → Sto → R Src) (fcs : Env → Sto → R Bool) (fe : Env → Sto → R D) : Env → Sto → R D := fun ρ st => (fi ρ st).bind fun src st => (compD (cTurn t own fcs fe ρ) src st).noE.bind fun ds st => newL mu ds st
/-- what is still to be done -/
abbrev Fin (T : Tb) (w : XK) (G : Hp) (μ : List Addr) (H : Hp) (Q : VK) (mu : Bool) (r : R (List D)) : Prop := Pr T (RpD T) w G μ H Q (r.noE.bind fun ds st => newL mu ds st)
theorem Fin.len {w : XK} {G H : Hp} {μ : List Addr} {Q : VK} {mu : Bool} {r : R (List D)} {n : Nat} (h : Fin T w G μ H Q mu r) (k : ∀ ds st', r = .ok ds st' → n ≤ ds.length) : n ≤ SZ := by
  cases r with
  | ok ds st' =>
    have p : Pr T (RpD T) w G μ H Q (newL mu ds st') := h
    rw [newL_mk] at p
    split at p
    · exact Nat.le_trans (k ds st' rfl) ‹_›
    · exact p.elim
  | err _ _ _ => exact False.elim h
  | bad => exact False.elim h
/-- one turn -/
theorem lc_turn {t : Tg} {own : List Nat} {mu : Bool} {w : XK} {G1 H1 : Hp} {m1 : List Addr} {Q : VK} {G H : Hp} {μ : List Addr} {ρ : Env} {σ : L2.St} {s : Sto} {D : Addr} {vs : List V} {acc : List DI.D} {x : V} {d : DI.D} {k : List DI.D → Sto → R (List DI.D)} {Nx : Hp → Prop}
    (hown : Tg.inn own t = true) (hr : Hr T G μ s H) (er : Er T G μ ρ σ) (hd : Hid G μ H D vs) (ra : RpL T G μ vs acc) (rx : Rp T G μ x d)
    (p : Fin T w G1 m1 H1 Q mu ((cTurn t own fcs fe ρ d s).bind fun o st => k (accO acc o) st)) (hk : ∀ acc st ds st', k acc st = .ok ds st' → acc.length ≤ ds.length)
    (hN : ∀ (G3 : Hp) (m3 : List Addr) (s3 : Sto) (H3 : Hp) (vs3 : List V) (acc3 : List DI.D), Gx G μ H G3 m3 H3 → Hr T G3 m3 s3 H3 → Hid G3 m3 H3 D vs3 → RpL T G3 m3 vs3 acc3 → Fin T w G1 m1 H1 Q mu (k acc3 s3) → Nx H3)
    (hN2 : ∀ (G3 : Hp) (m3 : List Addr) (s3 : Sto) (H3 : Hp) (vs3 ws : List V) (acc3 : List DI.D), Gx G μ H G3 m3 H3 → Hr T G3 m3 s3 H3 → Hid G3 m3 H3 D vs3 → RpL T G3 m3 ws acc3 → Fin T w G1 m1 H1 Q mu (k acc3 s3) → Nx (upd H3 D (.lst ws))) :
    tTg T t x (wipe σ own) H fun σ2 H2 => wipe σ2 own = wipe σ own ∧ tBo T WN fcs σ2 H2 fun b H3 => if b = true then tEx T WN fe σ2 H3 fun y H4 => ∃ a, H4 D = some (.lst a) ∧ a.length < sizeLine ∧ Nx (upd H4 D (.lst (a ++ [y]))) else Nx H3 := by
  cases hs : setT t d (wipeD ρ own) with
  | none => unfold cTurn at p; rw [hs] at p; exact False.elim p
  | some ρ' =>
    unfold cTurn at p
    rw [hs] at p
    refine ⟨G, μ, wipeD ρ own, d, ρ', hr.sub, er.wipe own, rx, hs, fun σ' er' hw => ⟨(hw own hown).trans (wipe_wipe σ own), G, μ, ρ', s, hr, er', ?_⟩⟩
    cases hc : fcs ρ' s with
    | bad => simp only [hc] at p; exact False.elim p
    | err _ _ _ => simp only [hc] at p; exact False.elim p
    | ok b s2 =>
      simp only [hc] at p
      intro G2 m2 H2 v e2 hr2 rv
      subst rv
      cases v with
      | false =>
        simp only [Bool.false_eq_true, if_false]
        exact hN G2 m2 s2 H2 vs acc e2 hr2 (hd.gx e2) (ra.mono e2.1) p
      | true =>
        simp only [if_true]
        refine ⟨G2, m2, ρ', s2, hr2, er'.mono e2.1, ?_⟩
        cases he : fe ρ' s2 with
        | bad => simp only [R.bind, he, if_true] at p; exact False.elim p
        | err _ _ _ => simp only [R.bind, he, if_true] at p; exact False.elim p
        | ok z s3 =>
          simp only [R.bind, he, if_true] at p
          intro G3 m3 H3 y e3 hr3 ry
          have hd3 := (hd.gx e2).gx e3
          have ra3 := (ra.mono e2.1).mono e3.1
          have p : Fin T w G1 m1 H1 Q mu (k (acc ++ [z]) s3) := p
          have hl := Fin.len (n := (acc ++ [z]).length) p fun ds st' e => hk _ _ _ _ e
          refine ⟨vs, hd3.h, ?_, hN2 G3 m3 s3 H3 vs _ _ (e2.trans e3) hr3 hd3 (ra3.app (.cons ry .nil)) p⟩
          rw [ra3.len]
          rw [List.length_append] at hl
          exact sz_lt (Nat.lt_of_lt_of_le (by simp) hl)
theorem lc_go {t : Tg} {own : List Nat} {mu : Bool} (hown : Tg.inn own t = true) (σ : L2.St) (H : Hp) (Q : VK) (h : tEx T W (fLc mu t own fi fcs fe) σ H Q) : tLc (tIt T W fi) (tTg T t) (tBo T WN fcs) (tEx T WN fe) own σ H Q := by
  obtain ⟨G, μ, ρ, st, hr, er, p⟩ := h
  refine tR.imp (tR.bind (Rel := SrcR T) hr er p) fun J H1 ⟨G1, m1, s1, src, e1, hr1, r1, p1⟩ D hD => ?_
  have er1 := er.mono e1.1
  cases src with
  | st xs =>
    refine ⟨fun i m H' => ∃ (G' : Hp) (μ' : List Addr) (st' : Sto) (vs : List V) (acc : List DI.D), Gx G1 m1 H1 G' μ' H' ∧ Hr T G' μ' st' H' ∧ Hid G' μ' H' D vs ∧ RpL T G' μ' vs acc ∧ m = xs.length - i ∧ Fin T (W σ) G1 m1 H1 Q mu (compS (cTurn t own fcs fe ρ) (xs.drop i) acc st'), ⟨_, G1, m1, s1, [], [], Gx.refl.hid hD, hr1.hid (Hid.new hr1 hD).g (Hid.new hr1 hD).m, Hid.new hr1 hD, .nil, rfl, p1⟩, ?_⟩
    rintro i m H2 ⟨G2, m2, s2, vs, acc, e2, hr2, hd2, ra2, rfl, p2⟩
    obtain ⟨k1, k2⟩ := r1 G2 m2 s2 H2 e2.1 hr2 i
    cases hx : xs[i]? with
    | none =>
      have hl : xs.length ≤ i := List.getElem?_eq_none_iff.mp hx
      rw [List.drop_eq_nil_of_le hl] at p2
      exact .inl ⟨k1 hl, hd2.out hD e2 hr2 ra2 p2⟩
    | some d =>
      obtain ⟨h1, hd⟩ := List.getElem?_eq_some_iff.mp hx
      obtain ⟨q1, q2⟩ := k2 d hx
      refine .inr ⟨q1, fun H' => ∃ (G' : Hp) (μ' : List Addr) (st' : Sto) (vs : List V) (acc : List DI.D), Gx G1 m1 H1 G' μ' H' ∧ Hr T G' μ' st' H' ∧ Hid G' μ' H' D vs ∧ RpL T G' μ' vs acc ∧ Fin T (W σ) G1 m1 H1 Q mu (compS (cTurn t own fcs fe ρ) (xs.drop (i + 1)) acc st'), fun H' ⟨G', μ', st', vs, acc, z1, z2, z3, z4, z5⟩ => ⟨xs.length - (i + 1), by omega, G', μ', st', vs, acc, z1, z2, z3, z4, rfl, z5⟩, fun x H3 y => ?_⟩
      obtain ⟨G3, e3, hr3, rx⟩ := q2 x H3 y
      rw [List.drop_eq_getElem_cons h1, hd] at p2
      have e23 := e2.trans e3
      refine lc_turn (G1 := G1) (m1 := m1) (H1 := H1) (Q := Q) (mu := mu) (w := W σ) (k := fun acc st => compS (cTurn t own fcs fe ρ) (xs.drop (i + 1)) acc st) hown hr3 (er1.mono e23.1) (hd2.gx e3) (ra2.mono e3.1) rx ?_ (fun acc st ds st' e => compS_grow _ _ _ e) ?_ ?_
      · rw [compS] at p2
        refine cast (congrArg (fun f => Fin T (W σ) G1 m1 H1 Q mu (R.bind (cTurn t own fcs fe ρ d s2) f)) ?_) p2
        funext o st
        cases o <;> rfl
      · exact fun G4 m4 s4 H4 vs4 acc4 e4 hr4 hd4 ra4 p4 => ⟨G4, m4, s4, vs4, acc4, e23.trans e4, hr4, hd4, ra4, p4⟩
      · exact fun G4 m4 s4 H4 vs4 ws acc4 e4 hr4 hd4 ra4 p4 => ⟨G4, m4, s4, ws, acc4, (e23.trans e4).hid hD, hr4.hid hd4.g hd4.m, hd4.put, ra4, p4⟩
  | lv l =>
    refine ⟨fun i m H' => ∃ (G' : Hp) (μ' : List Addr) (st' : Sto) (vs : List V) (acc : List DI.D), Gx G1 m1 H1 G' μ' H' ∧ Hr T G' μ' st' H' ∧ Hid G' μ' H' D vs ∧ RpL T G' μ' vs acc ∧ Fin T (W σ) G1 m1 H1 Q mu (compV (cTurn t own fcs fe ρ) false l m i acc st'), ⟨_, G1, m1, s1, [], [], Gx.refl.hid hD, hr1.hid (Hid.new hr1 hD).g (Hid.new hr1 hD).m, Hid.new hr1 hD, .nil, p1⟩, ?_⟩
    rintro i m H2 ⟨G2, m2, s2, vs, acc, e2, hr2, hd2, ra2, p2⟩
    cases m with
    | zero => exact False.elim p2
    | succ m =>
      rw [compV] at p2
      cases hl : s2[l]? with
      | none => rw [hl] at p2; exact False.elim p2
      | some o =>
        rw [hl] at p2
        cases o with
        | dct _ => exact False.elim p2
        | lst xs =>
          obtain ⟨k1, k2⟩ := r1 G2 m2 s2 H2 e2.1 hr2 i xs hl
          simp only at p2
          cases hx : xs[i]? with
          | none =>
            rw [hx] at p2
            exact .inl ⟨k1 (List.getElem?_eq_none_iff.mp hx), hd2.out hD e2 hr2 ra2 p2⟩
          | some d =>
            rw [hx] at p2
            obtain ⟨q1, q2⟩ := k2 d hx
            refine .inr ⟨q1, fun H' => ∃ (G' : Hp) (μ' : List Addr) (st' : Sto) (vs : List V) (acc : List DI.D), Gx G1 m1 H1 G' μ' H' ∧ Hr T G' μ' st' H' ∧ Hid G' μ' H' D vs ∧ RpL T G' μ' vs acc ∧ Fin T (W σ) G1 m1 H1 Q mu (compV (cTurn t own fcs fe ρ) false l m (i + 1) acc st'), fun H' h => ⟨m, Nat.lt_succ_self m, h⟩, fun x H3 y => ?_⟩
            obtain ⟨G3, e3, hr3, rx⟩ := q2 x H3 y
            have e23 := e2.trans e3
            refine lc_turn (G1 := G1) (m1 := m1) (H1 := H1) (Q := Q) (mu := mu) (w := W σ) (k := fun acc st => compV (cTurn t own fcs fe ρ) false l m (i + 1) acc st) hown hr3 (er1.mono e23.1) (hd2.gx e3) (ra2.mono e3.1) rx ?_ (fun acc st ds st' e => compV_grow _ _ _ _ e) ?_ ?_
            · refine cast (congrArg (fun f => Fin T (W σ) G1 m1 H1 Q mu (R.bind (cTurn t own fcs fe ρ d s2) f)) ?_) p2
              funext o st
              cases o <;> rfl
            · exact fun G4 m4 s4 H4 vs4 acc4 e4 hr4 hd4 ra4 p4 => ⟨G4, m4, s4, vs4, acc4, e23.trans e4, hr4, hd4, ra4, p4⟩
            · exact fun G4 m4 s4 H4 vs4 ws acc4 e4 hr4 hd4 ra4 p4 => ⟨G4, m4, s4, ws, acc4, (e23.trans e4).hid hD, hr4.hid hd4.g hd4.m, hd4.put, ra4, p4⟩
  | lvE l =>
    refine ⟨fun i m H' => ∃ (G' : Hp) (μ' : List Addr) (st' : Sto) (vs : List V) (acc : List DI.D), Gx G1 m1 H1 G' μ' H' ∧ Hr T G' μ' st' H' ∧ Hid G' μ' H' D vs ∧ RpL T G' μ' vs acc ∧ Fin T (W σ) G1 m1 H1 Q mu (compV (cTurn t own fcs fe ρ) true l m i acc st'), ⟨_, G1, m1, s1, [], [], Gx.refl.hid hD, hr1.hid (Hid.new hr1 hD).g (Hid.new hr1 hD).m, Hid.new hr1 hD, .nil, p1⟩, ?_⟩
    rintro i m H2 ⟨G2, m2, s2, vs, acc, e2, hr2, hd2, ra2, p2⟩
    cases m with
    | zero => exact False.elim p2
    | succ m =>
      rw [compV] at p2
      cases hl : s2[l]? with
      | none => rw [hl] at p2; exact False.elim p2
      | some o =>
        rw [hl] at p2
        cases o with
        | dct _ => exact False.elim p2
        | lst xs =>
          obtain ⟨k1, k2⟩ := r1 G2 m2 s2 H2 e2.1 hr2 i xs hl
          simp only at p2
          cases hx : xs[i]? with
          | none =>
            rw [hx] at p2
            exact .inl ⟨k1 (List.getElem?_eq_none_iff.mp hx), hd2.out hD e2 hr2 ra2 p2⟩
          | some d =>
            rw [hx] at p2
            obtain ⟨q1, q2⟩ := k2 d hx
            refine .inr ⟨q1, fun H' => ∃ (G' : Hp) (μ' : List Addr) (st' : Sto) (vs : List V) (acc : List DI.D), Gx G1 m1 H1 G' μ' H' ∧ Hr T G' μ' st' H' ∧ Hid G' μ' H' D vs ∧ RpL T G' μ' vs acc ∧ Fin T (W σ) G1 m1 H1 Q mu (compV (cTurn t own fcs fe ρ) true l m (i + 1) acc st'), fun H' h => ⟨m, Nat.lt_succ_self m, h⟩, fun x H3 y => ?_⟩
            obtain ⟨G3, e3, hr3, rx⟩ := q2 x H3 y
            have e23 := e2.trans e3
            refine lc_turn (G1 := G1) (m1 := m1) (H1 := H1) (Q := Q) (mu := mu) (w := W σ) (k := fun acc st => compV (cTurn t own fcs fe ρ) true l m (i + 1) acc st) hown hr3 (er1.mono e23.1) (hd2.gx e3) (ra2.mono e3.1) rx ?_ (fun acc st ds st' e => compV_grow _ _ _ _ e) ?_ ?_
            · refine cast (congrArg (fun f => Fin T (W σ) G1 m1 H1 Q mu (R.bind (cTurn t own fcs fe ρ (.tup [.int (i : Nat), d]) s2) f)) ?_) p2
              funext o st
              cases o <;> rfl
            · exact fun G4 m4 s4 H4 vs4 acc4 e4 hr4 hd4 ra4 p4 => ⟨G4, m4, s4, vs4, acc4, e23.trans e4, hr4, hd4, ra4, p4⟩
            · exact fun G4 m4 s4 H4 vs4 ws acc4 e4 hr4 hd4 ra4 p4 => ⟨G4, m4, s4, ws, acc4, (e23.trans e4).hid hD, hr4.hid hd4.g hd4.m, hd4.put, ra4, p4⟩
abbrev Blk (X : Cx) (scope : Scope) (k : Cx → Prop) : Prop := ∀ (s : Shared) (H : Hp) (C : Addr) (cl : List (Str × Addr)) (fp : List Addr), k (X.blk s H scope (compEnvC scope cl C X.env) fp)
theorem ex_lc {t : Tg} {mu : Bool} {scope : Scope} {own : List (Str × Nat)} (hown : Tg.inn (own.map (·.2)) t = true) (hc : X.calm = true) (hN : X.N.Nodup) (hn : noSet iter = true) (hi : PI X tg iter (tIt T W fi)) (ok : BlkOk X.N X.env.scope scope own)
    (hg : Blk X scope fun Y => PG Y tg (tTg T t)) (ht : Blk X scope fun Y => PTs Y ifs (tBo T WN fcs)) (he : Blk X scope fun Y => PE Y e (tEx T WN fe)) :
    PE X (.ListComp e [⟨tg, iter, ifs, 0⟩] scope pos) (tEx T W (fLc mu t (own.map (·.2)) fi fcs fe)) :=
  pe_of (pe_lc hc hN hi ok hg ht he (no_fold hn)) fun σ H Q h => lc_go hown σ H Q h
theorem es_setLc {W : WX} {i : Nat} {y : Str} {py spos : Pos} {t : Tg} {mu : Bool} {scope : Scope} {own : List (Str × Nat)} (hy : X.N[i]? = some y) (hyl : X.env.scope.names.lookup y = some .local) (hl : (py.line == pos.line) = true)
    (ha : (scope.names.any fun (n, k) => n == y && (k == .local || k == .cell)) = false) (hk : X.env.scope.kind = .function)
    (hown : Tg.inn (own.map (·.2)) t = true) (hc : X.calm = true) (hN : X.N.Nodup) (hn : noSet iter = true) (hi : PI X tg iter (tIt T (WE' W) fi)) (ok : BlkOk X.N X.env.scope scope own)
    (hg : Blk X scope fun Y => PG Y tg (tTg T t)) (ht : Blk X scope fun Y => PTs Y ifs (tBo T WN fcs)) (he : Blk X scope fun Y => PE Y e (tEx T WN fe)) :
    PS X (.Assign [.Name y py] (.ListComp e [⟨tg, iter, ifs, 0⟩] scope pos) spos) (tSt T W fun ρ st => RS.of (fLc mu t (own.map (·.2)) fi fcs fe ρ st) ρ fun d st => match setT (.nm i) d ρ with
      | some ρ' => .ok .nx ρ' st
      | none => .bad) := by
  refine ps_of (ps_setLc hc hN hy hyl (sw_true hk hyl hl ha) hi ok hg ht he (no_fold hn)) fun De σ H ⟨G, μ, ρ, st, hr, er, p⟩ => ?_
  refine lc_go (mu := mu) hown σ H _ ?_
  exact tR.imp (tR.toS (Rel := RpD T) hr er p) fun x H1 ⟨G1, m1, s1, dx, e1, hr1, r1, p1⟩ => p1.nx hr1 ((er.mono e1.1).set r1 i)
end
end DI
set_option Elab.async false
set_option linter.all false
set_option maxRecDepth 100000
set_option maxHeartbeats 4000000
set_option autoImplicit false
namespace DI
open PySem PySem.Spec PyProof.Rows L2
/-! ### what is fixed of the text, for the check -/
structure FnI where
  nm : Str
  np : Nat
structure Lw where
  fns : List FnI
  blt : List Str
  cst : List (Str × D)
  gcd : Bool
structure Sc where
  N : List Str
  nms : List (Str × NameKind)
  blk : Option (List (Str × NameKind))
  calm : Bool
def Sc.fnB (S : Sc) (x : Str) : Bool := match S.blk with
  | none => true
  | some l => l.lookup x == some .cell
def Sc.vis (S : Sc) (x : Str) : Bool := match S.nms.lookup x with
  | some .local => true | some .cell => true | some .free => true | _ => false
def Sc.loc (S : Sc) (x : Str) : Bool := match S.nms.lookup x with
  | some .local => true | some .cell => true | _ => false
def Sc.gl (S : Sc) (x : Str) : Bool := S.nms.lookup x == some .globalImplicit
def notDbg (x : Str) : Bool := !(x == ("__debug__" : Str))
/-- the facts of a law's module that a body's check rests on -/
structure Fh (X : Cx) (T : Tb) (L : Lw) (C : Cal) : Prop where
  blt : ∀ x ∈ L.blt, X.mg x = none
  fns : ∀ (k : Nat) (i : FnI), L.fns[k]? = some i → ∃ (f : Addr) (fd : FuncData) (ps : List Str) (n : Nat), X.mg i.nm = some (.ref f) ∧ PySem.W.keepIn X.K (.ref f) = true ∧ Binds X.K fd ps [] ∧ Room n X.A ∧ FnOk X.prog X.w X.K X.mg X.base (L2.CX X.prog X.w) n f fd ps (spD T i.np (C.call k))
  cst : ∀ x d, L.cst.lookup x = some d → ∃ (v : V) (u : Value), X.mg x = some u ∧ RelV v u ∧ ∀ G μ, Rp T G μ v d
  gcd : L.gcd = true → X.mg "gcd" = some (.builtin "math.gcd")
structure Cxo (X : Cx) (T : Tb) (L : Lw) (C : Cal) (S : Sc) : Prop where
  fh : Fh X T L C
  N : X.N = S.N
  nd : S.N.Nodup
  nms : X.env.scope.names = S.nms
  kind : X.env.scope.kind = .function
  fn : ∀ x, S.fnB x = true → X.fn x = true
  hK : T.K = X.K
  calm : S.calm = true → X.calm = true
  units : X.A.units + 100 < cLine
theorem Cxo.vis {X : Cx} {T : Tb} {L : Lw} {C : Cal} {S : Sc} {x : Str} (c : Cxo X T L C S) (h : S.vis x = true) : Vis X.env.scope x := by
  unfold Vis
  rw [c.nms]
  unfold Sc.vis at h
  split at h
  · exact .inl ‹_›
  · exact .inr (.inl ‹_›)
  · exact .inr (.inr ‹_›)
  · cases h
theorem Cxo.loc {X : Cx} {T : Tb} {L : Lw} {C : Cal} {S : Sc} {x : Str} (c : Cxo X T L C S) (h : S.loc x = true) : L2.Loc X.env.scope x := by
  unfold L2.Loc
  rw [c.nms]
  unfold Sc.loc at h
  split at h
  · exact .inl ‹_›
  · exact .inr ‹_›
  · cases h
theorem Cxo.gl {X : Cx} {T : Tb} {L : Lw} {C : Cal} {S : Sc} {x : Str} (c : Cxo X T L C S) (h : S.gl x = true) : Gl X x := by
  unfold Gl Env.kindOf
  rw [c.nms]
  exact beq_iff_eq.mp h
mutual
theorem D.eq_of : ∀ (x y : D), D.beq x y = true → x = y
  | .non, y, h => by cases y <;> simp [D.beq] at h; rfl
  | .bl a, y, h => by cases y <;> simp [D.beq] at h; rw [h]
  | .int a, y, h => by cases y <;> simp [D.beq] at h; rw [h]
  | .str a, y, h => by cases y <;> simp [D.beq] at h; rw [h]
  | .tup a, y, h => by cases y <;> simp [D.beq] at h; rw [D.eqL_of _ _ h]
  | .lst a, y, h => by cases y <;> simp [D.beq] at h; rw [D.eqL_of _ _ h]
  | .ro a, y, h => by cases y <;> simp [D.beq] at h; rw [D.eqL_of _ _ h]
  | .loc a, y, h => by cases y <;> simp [D.beq] at h; rw [h]
  | .exc a f, y, h => by cases y <;> simp [D.beq] at h; rw [h.1, D.eqF_of _ _ h.2]
theorem D.eqL_of : ∀ (x y : List D), D.beqL x y = true → x = y
  | [], y, h => by cases y <;> simp [D.beqL] at h; rfl
  | a :: x, y, h => by cases y <;> simp [D.beqL] at h; rw [D.eq_of _ _ h.1, D.eqL_of _ _ h.2]
theorem D.eqF_of : ∀ (x y : List (Nat × D)), D.beqF x y = true → x = y
  | [], y, h => by cases y <;> simp [D.beqF] at h; rfl
  | (i, a) :: x, y, h => by
    cases y with
    | nil => simp [D.beqF] at h
    | cons q y =>
      obtain ⟨j, b⟩ := q
      simp [D.beqF] at h
      rw [h.1.1, D.eq_of _ _ h.1.2, D.eqF_of _ _ h.2]
end
/-! ### the check of an expression's text -/
def kVar (S : Sc) (i : Nat) (x : Str) : Bool := S.N[i]? == some x && S.vis x && notDbg x && !(x == ("__classdict__" : Str))
def kCst (L : Lw) (S : Sc) : D → Expr → Bool
  | .int i, .Constant (.int j) _ _ => i == j
  | .str s, .Constant (.str x) _ _ => txS s == x && PyData.strOk (txS s) && decide (s.length ≤ sizeLine)
  | .non, .Constant .none _ _ => true
  | .bl b, .Constant (.bool c) _ _ => b == c
  | d, .Name x _ => S.gl x && notDbg x && (match L.cst.lookup x with | some d' => D.beq d d' | none => false)
  | _, _ => false
/-- the tests of it go by its value -/
def plainT : Expr → Bool
  | .Name _ _ => true | .Call _ _ _ _ => true | .Subscript _ _ _ => true | .BinOp _ _ _ _ => true | .Constant _ _ _ => true | .List _ _ => true | .Tuple _ _ _ => true | .ListComp _ _ _ _ => true | .Attribute _ _ _ => true
  | _ => false
def Bi.id : Bi → Str
  | .len => "len" | .abs => "abs" | .int => "int" | .str => "str" | .max2 => "max" | .min2 => "min" | .maxL => "max" | .minL => "min" | .sum => "sum" | .gcd => "gcd" | .tuple => "tuple" | .list => "list" | .listM => "list" | .sorted => "sorted" | .bool => "bool"
def Bi.isG : Bi → Bool
  | .gcd => true
  | _ => false
def Bi.has : Bi → Bool
  | .bool => false
  | _ => true
def Bi.cold : Bi → Bool
  | .max2 => false | .min2 => false | .maxL => false | .minL => false | .sum => false
  | _ => true
def CmpOp.beq (a b : CmpOp) : Bool := decide (a = b)
def relN (sc nms : List (Str × NameKind)) : List (Str × NameKind) := nms.map fun (n, k) => if (k == .free && sc.lookup n == some .cell) then (n, .cell) else (n, k)
def kBlk (S : Sc) (own : List Nat) (scope : Scope) : Bool :=
  (scope.kind == .function) && scope.names.all (fun y => scope.names.lookup y.1 == some y.2) && own.all (fun i => (S.N[i]?).isSome) &&
  scope.names.all (fun y => !(y.2 == .free) || S.nms.lookup y.1 == some .cell || S.nms.lookup y.1 == some .free) &&
  scope.names.all (fun y => !(y.2 == .local || y.2 == .cell) || (own.any fun i => S.N[i]? == some y.1) || !(S.N.contains y.1))
def Sc.sub (S : Sc) (scope : Scope) : Sc := ⟨S.N, relN S.nms scope.names, some scope.names, S.calm⟩
mutual
def kTg (S : Sc) : Tg → Expr → Bool
  | .nm i, e => match e with
    | .Name x _ => S.N[i]? == some x && S.loc x && (S.fnB x || S.nms.lookup x == some .local)
    | _ => false
  | .tp ts, e => match e with
    | .Tuple es _ _ => S.calm && es.all asg1 && es.length == ts.length && kTgs S ts es
    | _ => false
def kTgs (S : Sc) : List Tg → List Expr → Bool
  | [], es => es.isEmpty
  | t :: ts, es => match es with
    | [] => false
    | e :: es => kTg S t e && kTgs S ts es
end
def kMt (L : Lw) (m : Mt) (x : Str) (as : List Expr) (o : Expr) (apos pos : Pos) : Bool := attB o && (apos.endLine == pos.line) && as.all nst && (match m, as with
  | .append, [_] => x == ("append" : Str)
  | .extend, [_] => x == ("extend" : Str)
  | .insert, [_, _] => x == ("insert" : Str)
  | .popAt, [_] => x == ("pop" : Str)
  | .pop, [] => x == ("pop" : Str)
  | .reverse, [] => x == ("reverse" : Str)
  | .bitlen, [] => x == ("bit_length" : Str)
  | _, _ => false)
def gB (L : Lw) (S : Sc) (x : Str) : Bool := S.gl x && L.blt.contains x
mutual
/-- t: as a test -/
def kE (L : Lw) : Bool → Sc → Ex → Expr → Bool
  | t, S, .var i, e => (match e with | .Name x _ => kVar S i x | _ => false)
  | t, S, .cst d, e => plainT e && kCst L S d e
  | t, S, .tup xs, e => (match e with | .Tuple es _ _ => kEs L S xs es | _ => false)
  | t, S, .lst _ xs, e => (match e with | .List es _ => kEs L S xs es | _ => false)
  | t, S, .bin op a b, e => (match e with | .BinOp l o r _ => decide (o = op.op) && kE L false S a l && kE L false S b r | _ => false)
  | t, S, .neg a, e => (match e with | .UnaryOp .USub l _ => !t && kE L false S a l | _ => false)
  | t, S, .cmp op a b, e => (match e with | .Compare l [o] [r] _ => decide (o = op.op) && !(behindInMarks op.op r) && kE L false S a l && kE L false S b r | _ => false)
  | t, S, .is_ op a, e => (match e with | .Compare l [o] [r] _ => decide (o = op.op) && op.lit r && kE L false S a l | _ => false)
  | t, S, .chain op op' a b c, e => (match e with | .Compare l [o, o'] [r, q] _ => decide (o = op.op) && decide (o' = op'.op) && !(lastMarks [op.op, op'.op] [r, q]) && kE L false S a l && kE L false S b r && kE L false S c q | _ => false)
  | t, S, .and a b, e => (match e with
    | .BoolOp .And [l, r] _ => kE L t S a l && kE L t S b r
    | .BoolOp .And (l :: r :: q :: rest) pos => kE L t S a l && kE L t S b (.BoolOp .And (r :: q :: rest) pos)
    | _ => false)
  | t, S, .or a b, e => (match e with
    | .BoolOp .Or [l, r] _ => kE L t S a l && kE L t S b r
    | .BoolOp .Or (l :: r :: q :: rest) pos => kE L t S a l && kE L t S b (.BoolOp .Or (r :: q :: rest) pos)
    | _ => false)
  | t, S, .not a, e => (match e with | .UnaryOp .Not l _ => kE L t S a l | _ => false)
  | t, S, .ife c a b, e => (match e with | .IfExp q l r _ => !t && kE L true S c q && kE L false S a l && kE L false S b r | _ => false)
  | t, S, .idx a b, e => (match e with | .Subscript l r _ => nsl r && kE L false S a l && kE L false S b r | _ => false)
  | t, S, .slc _ a lo hi, e => (match e with | .Subscript l (.Slice lo' hi' none _) _ => kE L false S a l && kO L S lo lo' && kO L S hi hi' | _ => false)
  | t, S, .call k xs pm, e => (match e with
    | .Call (.Name x _) es [] _ => (match L.fns[k]? with
      | some i => i.nm == x && S.gl x && notDbg x && xs.length == i.np && pm == List.range i.np && kEs L S xs es
      | none => false)
    | _ => false)
  | t, S, .bi f xs, e => (match e with
    | .Call (.Name x _) (e0 :: es) [] _ => (f.cold || S.calm) && f.has && x == f.id && (if f.isG then L.gcd && S.gl x else gB L S x) && kEs L S xs (e0 :: es)
    | _ => false)
  | t, S, .isi a ts, e => (match e with
    | .Call (.Name x _) [l, c] [] _ => x == ("isinstance" : Str) && gB L S x && nst l && kE L false S a l && ts.all Ty.blt && ts.all (fun t => gB L S t.id) && (match c with
      | .Tuple cs _ _ => cs.length == ts.length && decide (ts.length ≤ 1000) && !ts.isEmpty && (cs.zip ts).all (fun p => tyLit p.2 p.1)
      | c => (match ts with | [t] => tyLit t c | _ => false))
    | _ => false)
  | t, S, .mth m o xs, e => (match e with
    | .Call (.Attribute l x apos) es [] pos => kMt L m x es l apos pos && kE L false S o l && kEs L S xs es
    | _ => false)
  | t, S, .lc _ tg it cs x own, e => (match e with
    | .ListComp elt [⟨tge, iter, ifs, 0⟩] scope _ => S.calm && Tg.inn own tg && noSet iter && kBlk S own scope && kI L S it tge iter && kTg (S.sub scope) tg tge && kC L (S.sub scope) cs ifs && kE L false (S.sub scope) x elt
    | _ => false)
  | _, _, .fld _ _, _ => false
def kEs (L : Lw) : Sc → List Ex → List Expr → Bool
  | S, [], es => es.isEmpty
  | S, x :: xs, es => (match es with
    | [] => false
    | e :: es => nst e && kE L false S x e && kEs L S xs es)
def kO (L : Lw) : Sc → Option Ex → Option Expr → Bool
  | S, none, e => e.isNone
  | S, some x, e => (match e with
    | some e => kE L false S x e
    | none => false)
/-- the tests of a comprehension -/
def kC (L : Lw) : Sc → List Ex → List Expr → Bool
  | S, [], es => es.isEmpty
  | S, x :: xs, es => (match es with
    | [e] => kE L true S x e && xs.isEmpty
    | _ => false)
def kI (L : Lw) : Sc → Ir → Expr → Expr → Bool
  | S, .seq x, _, e => kE L false S x e
  | S, .rng1 a, _, e => (match e with
    | .Call (.Name x _) [l] [] _ => x == ("range" : Str) && gB L S x && nst l && kE L false S a l
    | _ => false)
  | S, .rng2 a b, _, e => (match e with
    | .Call (.Name x _) [l, r] [] _ => x == ("range" : Str) && gB L S x && nst l && nst r && kE L false S a l && kE L false S b r
    | _ => false)
  | S, .rng3 _ _ _, _, _ => false
  | S, .enum a, tg, e => (match tg, e with
    | .Tuple _ _ _, .Call (.Name x _) [l] [] _ => x == ("enumerate" : Str) && gB L S x && nst l && kE L false S a l
    | _, _ => false)
  | S, .zip a b, tg, e => (match tg, e with
    | .Tuple _ _ _, .Call (.Name x _) [l, r] [] _ => x == ("zip" : Str) && gB L S x && nst l && nst r && kE L false S a l && kE L false S b r
    | _, _ => false)
end
end DI
set_option Elab.async false
set_option linter.all false
set_option maxRecDepth 100000
set_option maxHeartbeats 4000000
set_option autoImplicit false
namespace DI
open PySem PySem.Spec PyProof.Rows L2
/-- what a body may let out of its calls -/
def Hx (X : Cx) (W : L2.St → XK) : Prop := ∀ σ, PassesAt (L2.CX X.prog X.w) X σ (W σ)
theorem hx_no {X : Cx} : Hx X WN := fun σ pins H s e s' I h => by
  obtain ⟨_, _, _, _, _, _, _, _, _, _, _, _, z⟩ := h
  exact z.elim
section
variable {X : Cx} {T : Tb} {L : Lw} {C : Cal} {S : Sc} {W : L2.St → XK}
def Gd (t : Bool) (X : Cx) (T : Tb) (W : L2.St → XK) (e : Expr) (f : Env → Sto → R D) : Prop := match t with
  | true => PT X e (tBo T W (teT f))
  | false => PE X e (tEx T W f)
theorem Gd.plain {e : Expr} {f : Env → Sto → R D} (hK : T.K = X.K) (hp : plainT e = true) (h : PE X e (tEx T W f)) : ∀ t, Gd t X T W e f
  | false => h
  | true => et_truth hK h (by cases e <;> first | (cases hp; done) | exact fun _ => rfl)
theorem range_perm : ∀ (vs : List D), permD vs (List.range vs.length) = vs := by
  intro vs
  unfold permD
  have : ∀ (n : Nat) (ws : List D), n ≤ ws.length → (List.range n).filterMap (fun j => ws[j]?) = ws.take n := by
    intro n
    induction n with
    | zero => intro ws _; rfl
    | succ n ih =>
      intro ws h
      have h1 : ws[n]? = some ws[n] := List.getElem?_eq_getElem (by omega)
      rw [List.range_succ, List.filterMap_append, ih ws (by omega), List.take_add_one, h1]
      rw [List.filterMap_cons, h1]
      rfl
  rw [this _ _ (Nat.le_refl _), List.take_length]
theorem evEs_len : ∀ (xs : List Ex) (ρ : Env) (st : Sto) (vs : List D) (st' : Sto), evEs C xs ρ st = .ok vs st' → vs.length = xs.length := by
  intro xs
  induction xs with
  | nil => intro ρ st vs st' h; cases h; rfl
  | cons x xs ih =>
    intro ρ st vs st' h
    simp only [evEs] at h
    cases h1 : evE C x ρ st with
    | ok d s1 =>
      rw [h1] at h
      simp only [R.bind] at h
      cases h2 : evEs C xs ρ s1 with
      | ok ds s2 =>
        rw [h2] at h
        cases h
        exact congrArg Nat.succ (ih _ _ _ _ h2)
      | err _ _ _ => rw [h2] at h; cases h
      | bad => rw [h2] at h; cases h
    | err _ _ _ => rw [h1] at h; cases h
    | bad => rw [h1] at h; cases h
theorem all_cons2 {e : Expr} {es : List Expr} (h : (e :: es).all nst = true) : nst e = true ∧ es.all nst = true := by
  rw [List.all_cons, Bool.and_eq_true] at h
  exact h
theorem ex_biB {f : Bi} {id : String} {e : Expr} {es : List Expr} {fs : Env → Sto → R (List D)} {p pos : Pos} (hc : CallR X (.builtin id) (rBi T f)) (hg : Gl X f.id) (hm : X.mg f.id = none) (hv : bootBuiltins f.id = some (.builtin id)) (hn : (e :: es).all nst = true) (ha : PA X (e :: es) (tLi T W fs))
    (h1 : f.id ≠ "__name__") (h2 : (f.id == ("__debug__" : Str)) = false) : PE X (.Call (.Name f.id p) (e :: es) [] pos) (tEx T W fun ρ st => (fs ρ st).bind fun vs st => biD f vs st) := by
  obtain ⟨hn', hn2⟩ := all_cons2 hn
  refine pe_of (pe_callB hc hg hm hv ha h1 h2 (star_cons hn') (star_plain _ _ _ hn2)) fun σ H Q h => ?_
  obtain ⟨G, μ, ρ, st, hr, er, q⟩ := h
  exact tR.imp (tR.bind (Rel := RpLs T) hr er q) fun x H1 ⟨G1, m1, s1, dx, e1, hr1, r1, p1⟩ => ⟨W σ, G1, m1, s1, dx, hr1, r1, p1⟩
theorem ex_biT {f : Bi} {id : String} {e : Expr} {es : List Expr} {fs : Env → Sto → R (List D)} {p pos : Pos} (hc : CallR X (.type id) (rBi T f)) (hg : Gl X f.id) (hm : X.mg f.id = none) (hv : bootBuiltins f.id = some (.type id)) (hn : (e :: es).all nst = true) (ha : PA X (e :: es) (tLi T W fs))
    (h1 : f.id ≠ "__name__") (h2 : (f.id == ("__debug__" : Str)) = false) : PE X (.Call (.Name f.id p) (e :: es) [] pos) (tEx T W fun ρ st => (fs ρ st).bind fun vs st => biD f vs st) := by
  obtain ⟨hn', hn2⟩ := all_cons2 hn
  refine pe_of (pe_callTy hc hg hm hv ha h1 h2 (star_cons hn') (star_plain _ _ _ hn2)) fun σ H Q h => ?_
  obtain ⟨G, μ, ρ, st, hr, er, q⟩ := h
  exact tR.imp (tR.bind (Rel := RpLs T) hr er q) fun x H1 ⟨G1, m1, s1, dx, e1, hr1, r1, p1⟩ => ⟨W σ, G1, m1, s1, dx, hr1, r1, p1⟩
theorem ex_gcd {e : Expr} {es : List Expr} {fs : Env → Sto → R (List D)} {p pos : Pos} (hg : Gl X "gcd") (hm : X.mg "gcd" = some (.builtin "math.gcd")) (hn : (e :: es).all nst = true) (ha : PA X (e :: es) (tLi T W fs)) :
    PE X (.Call (.Name "gcd" p) (e :: es) [] pos) (tEx T W fun ρ st => (fs ρ st).bind fun vs st => biD .gcd vs st) := by
  obtain ⟨hn', hn2⟩ := all_cons2 hn
  refine ⟨fun pins s σ H Q I h => ?_⟩
  refine wpAny_Call_Name_kw (ld_glob I hg hm ?_ (by decide +kernel))
  refine PyProof.Rows.callWith_builtin1 (thn (ha.run pos pins s σ H (fun vs H1 => rBi T .gcd vs H1 Q) I ?_) fun us s1 ⟨vs, H1, I1, r1, q1⟩ => call_gcd_D pins s1 σ H1 vs us Q I1 r1 q1) (star_cons hn') (star_plain _ _ _ hn2)
  obtain ⟨G, μ, ρ, st, hr, er, q⟩ := h
  exact tR.imp (tR.bind (Rel := RpLs T) hr er q) fun x H1 ⟨G1, m1, s1, dx, e1, hr1, r1, p1⟩ => ⟨W σ, G1, m1, s1, dx, hr1, r1, p1⟩
theorem ex_bi_ok {f : Bi} {x : Str} {e : Expr} {es : List Expr} {fs : Env → Sto → R (List D)} {p pos : Pos} (c : Cxo X T L C S) (hcm : (f.cold || S.calm) = true) (h0 : f.has = true) (hx : x = f.id) (hg : (if f.isG then L.gcd && S.gl x else gB L S x) = true) (hn : (e :: es).all nst = true) (ha : PA X (e :: es) (tLi T W fs)) :
    PE X (.Call (.Name x p) (e :: es) [] pos) (tEx T W fun ρ st => (fs ρ st).bind fun vs st => biD f vs st) := by
  subst hx
  by_cases hG : f = .gcd
  · subst hG
    have hg : (L.gcd && S.gl (Bi.id .gcd)) = true := hg
    simp only [Bool.and_eq_true] at hg
    exact ex_gcd (c.gl hg.2) (c.fh.gcd hg.1) hn ha
  · have hg : gB L S f.id = true := by cases f <;> first | exact hg | exact absurd rfl hG
    unfold gB at hg
    simp only [Bool.and_eq_true] at hg
    have g := c.gl hg.1
    have m := c.fh.blt f.id (by simpa using hg.2)
    cases f with
    | len => exact ex_biB (call_len_D c.hK) g m (by decide +kernel) hn ha (by decide +kernel) (by decide +kernel)
    | abs => exact ex_biB call_abs_D g m (by decide +kernel) hn ha (by decide +kernel) (by decide +kernel)
    | int => exact ex_biT call_int_D g m (by decide +kernel) hn ha (by decide +kernel) (by decide +kernel)
    | str => exact ex_biT call_str_D g m (by decide +kernel) hn ha (by decide +kernel) (by decide +kernel)
    | max2 => exact ex_biB (call_max2_D (c.calm hcm)) g m (by decide +kernel) hn ha (by decide +kernel) (by decide +kernel)
    | min2 => exact ex_biB (call_min2_D (c.calm hcm)) g m (by decide +kernel) hn ha (by decide +kernel) (by decide +kernel)
    | maxL => exact ex_biB (call_maxL_D (c.calm hcm)) g m (by decide +kernel) hn ha (by decide +kernel) (by decide +kernel)
    | minL => exact ex_biB (call_minL_D (c.calm hcm)) g m (by decide +kernel) hn ha (by decide +kernel) (by decide +kernel)
    | sum => exact ex_biB (call_sum_D c.hK (c.calm hcm)) g m (by decide +kernel) hn ha (by decide +kernel) (by decide +kernel)
    | gcd => exact absurd rfl hG
    | tuple => exact ex_biT (call_tuple_D c.hK) g m (by decide +kernel) hn ha (by decide +kernel) (by decide +kernel)
    | list => exact ex_biT (call_list_D c.hK) g m (by decide +kernel) hn ha (by decide +kernel) (by decide +kernel)
    | listM => exact ex_biT (call_listM_D c.hK) g m (by decide +kernel) hn ha (by decide +kernel) (by decide +kernel)
    | sorted => exact ex_biB call_sorted_D g m (by decide +kernel) hn ha (by decide +kernel) (by decide +kernel)
    | bool => cases h0
end
end DI
set_option Elab.async false
set_option linter.all false
set_option maxRecDepth 100000
set_option maxHeartbeats 4000000
set_option autoImplicit false
namespace DI
open PySem PySem.Spec PyProof.Rows L2
section
variable {X : Cx} {T : Tb} {L : Lw} {C : Cal} {S : Sc} {W : L2.St → XK}
theorem rel_names {scope sc : Scope} {nms : List (Str × NameKind)} (h : sc.names = nms) (k : sc.kind = .function) : (relS scope sc).names = relN nms scope.names := by
  unfold relS relN
  subst h
  simp only [k]
  congr 1
  funext x
  simp
theorem Cxo.sub {scope : Scope} (c : Cxo X T L C S) {own : List Nat} (hb : kBlk S own scope = true) (s : Shared) (H : Hp) (A : Addr) (cl : List (Str × Addr)) (fp : List Addr) : Cxo (X.blk s H scope (compEnvC scope cl A X.env) fp) T L C (S.sub scope) := by
  simp only [kBlk, Bool.and_eq_true] at hb
  refine ⟨⟨c.fh.blt, c.fh.fns, c.fh.cst, c.fh.gcd⟩, c.N, c.nd, ?_, ?_, fun x hx => hx, c.hK, c.calm, c.units⟩
  · exact rel_names c.nms c.kind
  · exact beq_iff_eq.mp hb.1.1.1.1
theorem blk_ok {scope : Scope} {own : List Nat} (c : Cxo X T L C S) (hb : kBlk S own scope = true) : ∃ ow : List (Str × Nat), ow.map (·.2) = own ∧ BlkOk X.N X.env.scope scope ow := by
  simp only [kBlk, Bool.and_eq_true] at hb
  obtain ⟨⟨⟨⟨h1, h2⟩, h3⟩, h4⟩, h5⟩ := hb
  refine ⟨own.map fun i => ((S.N[i]?).getD default, i), by rw [List.map_map]; exact List.map_id own, beq_iff_eq.mp h1, ?_, ?_, ?_, ?_⟩
  · intro y hy
    exact beq_iff_eq.mp (List.all_eq_true.mp h2 y hy)
  · intro p hp
    obtain ⟨i, hi, rfl⟩ := List.mem_map.mp hp
    have := List.all_eq_true.mp h3 i hi
    rw [c.N]
    obtain ⟨z, hz⟩ := Option.isSome_iff_exists.mp this
    simp [hz]
  · intro y hy e
    have := List.all_eq_true.mp h4 y hy
    rw [c.nms]
    simp only [e, beq_self_eq_true, Bool.not_true, Bool.false_or, Bool.or_eq_true, beq_iff_eq] at this
    exact this
  · intro y hy e
    have := List.all_eq_true.mp h5 y hy
    rw [c.N]
    have e' : (y.2 == .local || y.2 == .cell) = true := by
      rcases e with e | e <;> rw [e] <;> rfl
    rw [e', Bool.not_true, Bool.false_or, Bool.or_eq_true] at this
    rcases this with h | h
    · left
      obtain ⟨i, hi, hz⟩ := List.any_eq_true.mp h
      have hz : S.N[i]? = some y.1 := beq_iff_eq.mp hz
      exact List.mem_map.mpr ⟨_, List.mem_map.mpr ⟨i, hi, rfl⟩, by simp [hz]⟩
    · right
      simpa using h
mutual
theorem kTg_ok : ∀ (t : Tg) {e : Expr} {X : Cx} {S : Sc}, Cxo X T L C S → kTg S t e = true → PG X e (tTg T t)
  | .nm i, e, X, S, c, h => by
    simp only [kTg] at h
    split at h
    · simp only [Bool.and_eq_true, Bool.or_eq_true] at h
      obtain ⟨⟨h1, h2⟩, h3⟩ := h
      exact eg_name (c.N ▸ c.nd) (by rw [c.N]; exact beq_iff_eq.mp h1) (c.loc h2) (h3.imp (fun q => c.fn _ q) fun q => by rw [c.nms]; exact beq_iff_eq.mp q)
    · cases h
  | .tp ts, e, X, S, c, h => by
    simp only [kTg] at h
    split at h
    · simp only [Bool.and_eq_true] at h
      obtain ⟨⟨⟨h0, h1⟩, h2⟩, h3⟩ := h
      exact eg_tup c.hK (c.calm h0) h1 (beq_iff_eq.mp h2) (kTgs_ok ts c h1 h3)
    · cases h
theorem kTgs_ok : ∀ (ts : List Tg) {es : List Expr} {X : Cx} {S : Sc}, Cxo X T L C S → es.all asg1 = true → kTgs S ts es = true → PGs X es (tTgs T ts)
  | [], es, X, S, c, _, h => by
    cases es with
    | nil => exact egs_nil
    | cons _ _ => cases h
  | t :: ts, es, X, S, c, ha, h => by
    cases es with
    | nil => cases h
    | cons e es =>
      simp only [kTgs, Bool.and_eq_true] at h
      rw [List.all_cons, Bool.and_eq_true] at ha
      exact egs_cons ha.1 (kTg_ok t c h.1) (kTgs_ok ts c ha.2 h.2)
end
theorem not_dbg {x : Str} (h : notDbg x = true) : (x == ("__debug__" : Str)) = false := by
  unfold notDbg at h
  simpa using h
theorem ex_cst {d : D} {e : Expr} (c : Cxo X T L C S) (h : kCst L S d e = true) : PE X e (tEx T W fun _ st => .ok d st) := by
  have fin : ∀ {v : V} {σ : L2.St} {H : Hp} {Q : VK}, (∀ G μ, Rp T G μ v d) → tEx T W (fun _ st => .ok d st) σ H Q → tC v σ H Q := fun {v σ H Q} r q => by
    obtain ⟨G, μ, ρ, st, hr, er, p⟩ := q
    exact p.here hr (r G μ)
  have glob : ∀ {x : Str} {pos : Pos}, (S.gl x && notDbg x && (match L.cst.lookup x with | some d' => D.beq d d' | none => false)) = true → PE X (.Name x pos) (tEx T W fun _ st => .ok d st) := fun {x pos} h => by
    simp only [Bool.and_eq_true] at h
    obtain ⟨⟨h1, h2⟩, h3⟩ := h
    split at h3
    · rename_i d' hd
      obtain ⟨v, u, q1, q2, q3⟩ := c.fh.cst x d' hd
      cases D.eq_of _ _ h3
      exact pe_of (pe_glob (c.gl h1) q1 q2 (not_dbg h2)) fun σ H Q q => fin q3 q
    · cases h3
  unfold kCst at h
  split at h
  · have := beq_iff_eq.mp h
    subst this
    exact pe_of pe_int fun σ H Q q => fin (fun G μ => .int _) q
  · simp only [Bool.and_eq_true, decide_eq_true_eq] at h
    obtain ⟨⟨h1, h2⟩, h3⟩ := h
    have := beq_iff_eq.mp h1
    subst this
    exact pe_of pe_str fun σ H Q q => fin (fun G μ => .str _ ⟨h2, h3⟩) q
  · exact pe_of pe_non fun σ H Q q => fin (fun G μ => .non) q
  · have := beq_iff_eq.mp h
    subst this
    exact pe_of pe_bl fun σ H Q q => fin (fun G μ => .bl _) q
  · exact glob h
  · cases h
theorem ex_var {i : Nat} {x : Str} {pos : Pos} (c : Cxo X T L C S) (h : kVar S i x = true) : PE X (.Name x pos) (tEx T W (evE C (.var i))) := by
  simp only [kVar, Bool.and_eq_true, Bool.not_eq_true'] at h
  obtain ⟨⟨⟨h1, h2⟩, h3⟩, h4⟩ := h
  refine pe_of (pe_var (by rw [c.N]; exact beq_iff_eq.mp h1) (c.vis h2) (not_dbg h3) h4) fun σ H Q q => ?_
  obtain ⟨G, μ, ρ, st, hr, er, p⟩ := q
  simp only [evE] at p
  split at p
  · rename_i d hd
    obtain ⟨v, hv, rv⟩ := er.at_ i d hd
    exact ⟨v, hv, p.here hr rv⟩
  · exact p.elim
theorem pt_pw {op : BoolOp} {es : List Expr} {pos : Pos} {t : TT} (h : PT X (.BoolOp op es pos) t) : PW X (.BoolOp op es pos) t := ⟨fun _ pins s σ H Q I q => h.run pins s σ H Q I q⟩
theorem PA.nstE {es : List Expr} (h : es.all nst = true) : es.all nst = true := h
theorem ex_mth_ok {m : Mt} {x : Str} {as : List Expr} {o : Expr} {apos pos : Pos} {fa : Env → Sto → R D} {xs : List Ex} (h : kMt L m x as o apos pos = true) (hx : xs.length = as.length) (ha : PE X o (tEx T W fa)) (hs : PA X as (tLi T W (evEs C xs))) :
    PE X (.Call (.Attribute o x apos) as [] pos) (tEx T W (mthO m fa (evEs C xs))) := by
  simp only [kMt, Bool.and_eq_true] at h
  obtain ⟨⟨⟨h1, h2⟩, h3⟩, h4⟩ := h
  have nil0 : xs = [] → evEs C xs = fun _ st => .ok [] st := fun e => by subst e; rfl
  split at h4
  · have := beq_iff_eq.mp h4
    subst this
    exact ex_append h1 h2 (by simpa using h3) ha hs
  · have := beq_iff_eq.mp h4
    subst this
    exact ex_extend h1 h2 (by simpa using h3) ha hs
  · have := beq_iff_eq.mp h4
    subst this
    simp only [List.all_cons, List.all_nil, Bool.and_true, Bool.and_eq_true] at h3
    exact ex_insert h1 h2 h3.1 h3.2 ha hs
  · have := beq_iff_eq.mp h4
    subst this
    exact ex_popAt h1 h2 (by simpa using h3) ha hs
  · have := beq_iff_eq.mp h4
    subst this
    rw [nil0 (List.eq_nil_of_length_eq_zero hx)]
    exact ex_pop h1 h2 ha
  · have := beq_iff_eq.mp h4
    subst this
    rw [nil0 (List.eq_nil_of_length_eq_zero hx)]
    exact ex_reverse h1 h2 ha
  · have := beq_iff_eq.mp h4
    subst this
    rw [nil0 (List.eq_nil_of_length_eq_zero hx)]
    exact ex_bits h1 h2 ha
  · cases h4
theorem kEs_len : ∀ (xs : List Ex) {es : List Expr} {S : Sc}, kEs L S xs es = true → xs.length = es.length ∧ es.all nst = true := by
  intro xs
  induction xs with
  | nil =>
    intro es S h
    cases es with
    | nil => exact ⟨rfl, rfl⟩
    | cons _ _ => simp [kEs] at h
  | cons x xs ih =>
    intro es S h
    cases es with
    | nil => simp [kEs] at h
    | cons e es =>
      simp only [kEs, Bool.and_eq_true] at h
      obtain ⟨h1, h2⟩ := ih h.2
      exact ⟨congrArg Nat.succ h1, by rw [List.all_cons, h.1.1, h2]; rfl⟩
/-- a call of a def -/
theorem ex_call_ok {k : Nat} {i : FnI} {x : Str} {es : List Expr} {xs : List Ex} {p pos : Pos} (c : Cxo X T L C S) (hx : Hx X W) (hk : L.fns[k]? = some i) (e1 : i.nm = x) (g : S.gl x = true) (nd : notDbg x = true) (hl : xs.length = i.np) (hle : xs.length = es.length) (hn : es.all nst = true) (ha : PA X es (tLi T W (evEs C xs))) :
    PE X (.Call (.Name x p) es [] pos) (tEx T W fun ρ st => (evEs C xs ρ st).bind fun vs st => C.call k (permD vs (List.range i.np)) st) := by
  obtain ⟨f, fd, ps, n, m1, m2, m3, m4, F⟩ := c.fh.fns k i hk
  subst e1
  have key : (fun ρ st => (evEs C xs ρ st).bind fun vs st => C.call k (permD vs (List.range i.np)) st) = fun ρ st => (evEs C xs ρ st).bind fun vs st => C.call k vs st := by
    funext ρ st
    cases h : evEs C xs ρ st with
    | ok vs st' =>
      have := evEs_len xs ρ st vs st' h
      simp only [R.bind]
      rw [← hl, ← this, range_perm]
    | err _ _ _ => rfl
    | bad => rfl
  rw [key]
  cases es with
  | nil =>
    have hxs : xs = [] := List.eq_nil_of_length_eq_zero hle
    subst hxs
    have h0 : i.np = 0 := hl.symm
    rw [h0] at F
    exact ex_call0 F m4 (c.gl g) m1 m2 m3 hx (not_dbg nd)
  | cons e es => exact ex_call F m4 (c.gl g) m1 m2 m3 hx (not_dbg nd) hn (fun ρ st vs st' h => (evEs_len xs ρ st vs st' h).trans hl) ha
theorem isi_ok {ts : List Ty} {x : Str} {l q : Expr} {fa : Env → Sto → R D} {p pos : Pos} (c : Cxo X T L C S) (hx : (x == ("isinstance" : Str)) = true) (hg : gB L S x = true) (hn : nst l = true) (ha : PE X l (tEx T W fa))
    (h : (match q with
      | .Tuple cs _ _ => cs.length == ts.length && decide (ts.length ≤ 1000) && !ts.isEmpty && (cs.zip ts).all (fun p => tyLit p.2 p.1)
      | c => (match ts with | [t] => tyLit t c | _ => false)) = true) (hb : ts.all Ty.blt = true) (ht : ts.all (fun t => gB L S t.id) = true) : PE X (.Call (.Name x p) [l, q] [] pos) (tEx T W (isiO C.anc ts fa)) := by
  have hx := beq_iff_eq.mp hx
  subst hx
  unfold gB at hg
  simp only [Bool.and_eq_true] at hg
  have g1 := c.gl hg.1
  have g2 := c.fh.blt _ (by simpa using hg.2 : ("isinstance" : Str) ∈ L.blt)
  have gt : ∀ t ∈ ts, Gl X t.id ∧ X.mg t.id = none := fun t hmem => by
    have := List.all_eq_true.mp ht t hmem
    unfold gB at this
    simp only [Bool.and_eq_true] at this
    exact ⟨c.gl this.1, c.fh.blt _ (by simpa using this.2)⟩
  split at h
  · simp only [Bool.and_eq_true, decide_eq_true_eq] at h
    obtain ⟨⟨⟨h1, h2⟩, h3⟩, h4⟩ := h
    exact ex_isiT c.hK hb (by simpa using h3) h2 (beq_iff_eq.mp h1) h4 gt g1 g2 hn ha
  · split at h
    · obtain ⟨k1, k2⟩ := gt _ (List.mem_cons_self ..)
      exact ex_isi1 c.hK (by simpa using hb) h k1 k2 g1 g2 hn ha
    · cases h
mutual
theorem kE_ok : ∀ (x : Ex) {t : Bool} {e : Expr} {X : Cx} {S : Sc} {W : L2.St → XK}, Cxo X T L C S → Hx X W → kE L t S x e = true → Gd t X T W e (evE C x)
  | .var i, t, e, X, S, W, c, hx, h => by
    simp only [kE] at h
    split at h
    · exact Gd.plain c.hK rfl (ex_var c h) t
    · cases h
  | .cst d, t, e, X, S, W, c, hx, h => by
    simp only [kE, Bool.and_eq_true] at h
    exact Gd.plain c.hK h.1 (ex_cst c h.2) t
  | .tup xs, t, e, X, S, W, c, hx, h => by
    simp only [kE] at h
    split at h
    · exact Gd.plain c.hK rfl (ex_tup (kEs_ok xs c hx h)) t
    · cases h
  | .lst mu xs, t, e, X, S, W, c, hx, h => by
    simp only [kE] at h
    split at h
    · exact Gd.plain c.hK rfl (ex_lst mu (kEs_ok xs c hx h)) t
    · cases h
  | .bin op a b, t, e, X, S, W, c, hx, h => by
    simp only [kE] at h
    split at h
    · simp only [Bool.and_eq_true, decide_eq_true_eq] at h
      obtain ⟨⟨rfl, h1⟩, h2⟩ := h
      exact Gd.plain c.hK rfl (ex_bin c.hK op (kE_ok a (t := false) c hx h1) (kE_ok b (t := false) c hx h2)) t
    · cases h
  | .neg a, t, e, X, S, W, c, hx, h => by
    simp only [kE] at h
    split at h
    · simp only [Bool.and_eq_true, Bool.not_eq_true'] at h
      obtain ⟨rfl, h1⟩ := h
      exact ex_neg (kE_ok a (t := false) c hx h1)
    · cases h
  | .cmp op a b, t, e, X, S, W, c, hx, h => by
    simp only [kE] at h
    split at h
    · simp only [Bool.and_eq_true, decide_eq_true_eq, Bool.not_eq_true'] at h
      obtain ⟨⟨⟨rfl, h0⟩, h1⟩, h2⟩ := h
      cases t with
      | true => exact et_cmp c.hK c.units op h0 (kE_ok a (t := false) c hx h1) (kE_ok b (t := false) c hx h2)
      | false => exact ex_cmp c.hK c.units op h0 (kE_ok a (t := false) c hx h1) (kE_ok b (t := false) c hx h2)
    · cases h
  | .is_ op a, t, e, X, S, W, c, hx, h => by
    simp only [kE] at h
    split at h
    · simp only [Bool.and_eq_true, decide_eq_true_eq] at h
      obtain ⟨⟨rfl, h0⟩, h1⟩ := h
      cases t with
      | true => exact et_is h0 (kE_ok a (t := false) c hx h1)
      | false => exact ex_is h0 (kE_ok a (t := false) c hx h1)
    · cases h
  | .chain op op' a b q, t, e, X, S, W, c, hx, h => by
    simp only [kE] at h
    split at h
    · simp only [Bool.and_eq_true, decide_eq_true_eq, Bool.not_eq_true'] at h
      obtain ⟨⟨⟨⟨⟨rfl, rfl⟩, h0⟩, h1⟩, h2⟩, h3⟩ := h
      cases t with
      | true => exact et_chain c.hK c.units op op' h0 (kE_ok a (t := false) c hx h1) (kE_ok b (t := false) c hx h2) (kE_ok q (t := false) c hx h3)
      | false => exact ex_chain c.hK c.units op op' h0 (kE_ok a (t := false) c hx h1) (kE_ok b (t := false) c hx h2) (kE_ok q (t := false) c hx h3)
    · cases h
  | .and a b, t, e, X, S, W, c, hx, h => by
    simp only [kE] at h
    split at h
    · simp only [Bool.and_eq_true] at h
      cases t with
      | true => exact (et_and (kE_ok a (t := true) c hx h.1) (pw_and1 (kE_ok b (t := true) c hx h.2))).pt
      | false => exact ex_and c.hK (kE_ok a (t := false) c hx h.1) (pe_one (kE_ok b (t := false) c hx h.2))
    · simp only [Bool.and_eq_true] at h
      cases t with
      | true => exact (et_and (kE_ok a (t := true) c hx h.1) (pt_pw (kE_ok b (t := true) c hx h.2))).pt
      | false => exact ex_and c.hK (kE_ok a (t := false) c hx h.1) (kE_ok b (t := false) c hx h.2)
    · cases h
  | .or a b, t, e, X, S, W, c, hx, h => by
    simp only [kE] at h
    split at h
    · simp only [Bool.and_eq_true] at h
      cases t with
      | true => exact (et_or (kE_ok a (t := true) c hx h.1) (pw_or1 (kE_ok b (t := true) c hx h.2))).pt
      | false => exact ex_or c.hK (kE_ok a (t := false) c hx h.1) (pe_one (kE_ok b (t := false) c hx h.2))
    · simp only [Bool.and_eq_true] at h
      cases t with
      | true => exact (et_or (kE_ok a (t := true) c hx h.1) (pt_pw (kE_ok b (t := true) c hx h.2))).pt
      | false => exact ex_or c.hK (kE_ok a (t := false) c hx h.1) (kE_ok b (t := false) c hx h.2)
    · cases h
  | .not a, t, e, X, S, W, c, hx, h => by
    simp only [kE] at h
    split at h
    · cases t with
      | true => exact et_not (kE_ok a (t := true) c hx h)
      | false => exact ex_not c.hK (kE_ok a (t := false) c hx h)
    · cases h
  | .ife q a b, t, e, X, S, W, c, hx, h => by
    simp only [kE] at h
    split at h
    · simp only [Bool.and_eq_true, Bool.not_eq_true'] at h
      obtain ⟨⟨⟨rfl, h1⟩, h2⟩, h3⟩ := h
      exact ex_ife (ga := fun _ _ => .bad) c.hK (kE_ok q (t := true) c hx h1) (kE_ok a (t := false) c hx h2) (kE_ok b (t := false) c hx h3)
    · cases h
  | .idx a b, t, e, X, S, W, c, hx, h => by
    simp only [kE] at h
    split at h
    · simp only [Bool.and_eq_true] at h
      exact Gd.plain c.hK rfl (ex_idx c.hK h.1.1 (kE_ok a (t := false) c hx h.1.2) (kE_ok b (t := false) c hx h.2)) t
    · cases h
  | .slc mu a lo hi, t, e, X, S, W, c, hx, h => by
    simp only [kE] at h
    split at h
    · simp only [Bool.and_eq_true] at h
      exact Gd.plain c.hK rfl (ex_slc c.hK mu (kE_ok a (t := false) c hx h.1.1) (kO_ok lo c hx h.1.2) (kO_ok hi c hx h.2)) t
    · cases h
  | .call k xs pm, t, e, X, S, W, c, hx, h => by
    simp only [kE] at h
    split at h
    · split at h
      · rename_i i hk
        simp only [Bool.and_eq_true] at h
        obtain ⟨⟨⟨⟨⟨h1, h2⟩, h3⟩, h4⟩, h5⟩, h6⟩ := h
        have h5 := beq_iff_eq.mp h5
        subst h5
        obtain ⟨k1, k2⟩ := kEs_len xs h6
        exact Gd.plain c.hK rfl (ex_call_ok c hx hk (beq_iff_eq.mp h1) h2 h3 (beq_iff_eq.mp h4) k1 k2 (kEs_ok xs c hx h6)) t
      · cases h
    · cases h
  | .bi f xs, t, e, X, S, W, c, hx, h => by
    simp only [kE] at h
    split at h
    · simp only [Bool.and_eq_true] at h
      obtain ⟨⟨⟨⟨h0, h1⟩, h2⟩, h3⟩, h4⟩ := h
      exact Gd.plain c.hK rfl (ex_bi_ok c h0 h1 (beq_iff_eq.mp h2) h3 (kEs_len xs h4).2 (kEs_ok xs c hx h4)) t
    · cases h
  | .isi a ts, t, e, X, S, W, c, hx, h => by
    simp only [kE] at h
    split at h
    · simp only [Bool.and_eq_true] at h
      obtain ⟨⟨⟨⟨⟨⟨h1, h2⟩, h3⟩, h4⟩, h5⟩, h6⟩, h7⟩ := h
      exact Gd.plain c.hK rfl (isi_ok c h1 h2 h3 (kE_ok a (t := false) c hx h4) h7 h5 h6) t
    · cases h
  | .mth m o xs, t, e, X, S, W, c, hx, h => by
    simp only [kE] at h
    split at h
    · simp only [Bool.and_eq_true] at h
      obtain ⟨⟨h1, h2⟩, h3⟩ := h
      exact Gd.plain c.hK rfl (ex_mth_ok h1 (kEs_len xs h3).1 (kE_ok o (t := false) c hx h2) (kEs_ok xs c hx h3)) t
    · cases h
  | .lc mu tg it cs x own, t, e, X, S, W, c, hx, h => by
    simp only [kE] at h
    split at h
    · simp only [Bool.and_eq_true] at h
      obtain ⟨⟨⟨⟨⟨⟨⟨h0, h1⟩, h2⟩, h3⟩, h4⟩, h5⟩, h6⟩, h7⟩ := h
      obtain ⟨ow, rfl, ok⟩ := blk_ok c h3
      exact Gd.plain c.hK rfl (ex_lc h1 (c.calm h0) (c.N ▸ c.nd) h2 (kI_ok it c hx h4) ok (fun s H A cl fp => kTg_ok tg (c.sub h3 s H A cl fp) h5)
        (fun s H A cl fp => kC_ok cs (c.sub h3 s H A cl fp) h6) (fun s H A cl fp => kE_ok x (t := false) (c.sub h3 s H A cl fp) hx_no h7)) t
    · cases h
  | .fld a f, t, e, X, S, W, c, hx, h => by simp [kE] at h
theorem kEs_ok : ∀ (xs : List Ex) {es : List Expr} {X : Cx} {S : Sc} {W : L2.St → XK}, Cxo X T L C S → Hx X W → kEs L S xs es = true → PA X es (tLi T W (evEs C xs))
  | [], es, X, S, W, c, hx, h => by
    cases es with
    | nil => exact ea_nil
    | cons _ _ => simp [kEs] at h
  | x :: xs, es, X, S, W, c, hx, h => by
    cases es with
    | nil => simp [kEs] at h
    | cons e es =>
      simp only [kEs, Bool.and_eq_true] at h
      exact ea_cons h.1.1 (kE_ok x (t := false) c hx h.1.2) (kEs_ok xs c hx h.2)
theorem kO_ok : ∀ (x : Option Ex) {e : Option Expr} {X : Cx} {S : Sc} {W : L2.St → XK}, Cxo X T L C S → Hx X W → kO L S x e = true → PO X e (tOo T W (evO C x))
  | none, e, X, S, W, c, hx, h => by
    cases e with
    | none => exact eo_none
    | some _ => simp [kO] at h
  | some x, e, X, S, W, c, hx, h => by
    cases e with
    | none => simp [kO] at h
    | some e => exact eo_some (kE_ok x (t := false) c hx (by simpa [kO] using h))
theorem kC_ok : ∀ (cs : List Ex) {es : List Expr} {X : Cx} {S : Sc}, Cxo X T L C S → kC L S cs es = true → PTs X es (tBo T WN (evCs C cs))
  | [], es, X, S, c, h => by
    cases es with
    | nil => exact ets_nil
    | cons _ _ => simp [kC] at h
  | x :: xs, es, X, S, c, h => by
    simp only [kC] at h
    split at h
    · simp only [Bool.and_eq_true, List.isEmpty_iff] at h
      obtain ⟨h1, rfl⟩ := h
      exact ets_one (kE_ok x (t := true) c hx_no h1)
    · cases h
theorem kI_ok : ∀ (it : Ir) {tg e : Expr} {X : Cx} {S : Sc} {W : L2.St → XK}, Cxo X T L C S → Hx X W → kI L S it tg e = true → PI X tg e (tIt T W (evIt C it))
  | .seq x, tg, e, X, S, W, c, hx, h => ei_seq c.hK (kE_ok x (t := false) c hx (by simpa [kI] using h))
  | .rng1 a, tg, e, X, S, W, c, hx, h => by
    simp only [kI] at h
    split at h
    · simp only [Bool.and_eq_true, gB] at h
      obtain ⟨⟨⟨h1, h2⟩, h3⟩, h4⟩ := h
      have h1 := beq_iff_eq.mp h1
      subst h1
      exact ei_rng1 (c.gl h2.1) (c.fh.blt _ (by simpa using h2.2)) h3 (kE_ok a (t := false) c hx h4)
    · cases h
  | .rng2 a b, tg, e, X, S, W, c, hx, h => by
    simp only [kI] at h
    split at h
    · simp only [Bool.and_eq_true, gB] at h
      obtain ⟨⟨⟨⟨⟨h1, h2⟩, h3⟩, h4⟩, h5⟩, h6⟩ := h
      have h1 := beq_iff_eq.mp h1
      subst h1
      exact ei_rng2 (c.gl h2.1) (c.fh.blt _ (by simpa using h2.2)) h3 h4 (kE_ok a (t := false) c hx h5) (kE_ok b (t := false) c hx h6)
    · cases h
  | .rng3 _ _ _, tg, e, X, S, W, c, hx, h => by simp [kI] at h
  | .enum a, tg, e, X, S, W, c, hx, h => by
    simp only [kI] at h
    split at h
    · simp only [Bool.and_eq_true, gB] at h
      obtain ⟨⟨⟨h1, h2⟩, h3⟩, h4⟩ := h
      have h1 := beq_iff_eq.mp h1
      subst h1
      exact ei_enum c.hK (c.gl h2.1) (c.fh.blt _ (by simpa using h2.2)) h3 (kE_ok a (t := false) c hx h4)
    · cases h
  | .zip a b, tg, e, X, S, W, c, hx, h => by
    simp only [kI] at h
    split at h
    · simp only [Bool.and_eq_true, gB] at h
      obtain ⟨⟨⟨⟨⟨h1, h2⟩, h3⟩, h4⟩, h5⟩, h6⟩ := h
      have h1 := beq_iff_eq.mp h1
      subst h1
      exact ei_zip c.hK (c.gl h2.1) (c.fh.blt _ (by simpa using h2.2)) h3 h4 (kE_ok a (t := false) c hx h5) (kE_ok b (t := false) c hx h6)
    · cases h
end
end
end DI
set_option Elab.async false
set_option linter.all false
set_option maxRecDepth 100000
set_option maxHeartbeats 4000000
set_option autoImplicit false
namespace DI
open PySem PySem.Spec PyProof.Rows L2
/-! ### how a store of a pair goes -/
def isStar : Expr → Bool
  | .Starred _ _ => true
  | _ => false
def swName (nms : List (Str × NameKind)) (l : Nat) : Expr → Option Str
  | .Name id pos => if nms.lookup id == some .local && pos.line == l then some id else none
  | _ => none
def swNames (nms : List (Str × NameKind)) (ts : List Expr) : List Str := ts.filterMap (swName nms ((ts.head?.map (·.pos.line)).getD 0))
/-- none: not known -/
def swP (nms : List (Str × NameKind)) : Expr → Expr → Option (Option (List Str))
  | .Tuple ts _ _, .Tuple vs _ _ =>
    if !(ts.length == 2 || ts.length == 3) || vs.length != ts.length then some none
    else if vs.any isStar then none
    else if (swNames nms ts).length != ts.length || (swNames nms ts).eraseDups.length != (swNames nms ts).length then some none
    else if vs.all (foldedForSure 8) then some none
    else if vs.all (constantsAlone 8) then none
    else some (some (swNames nms ts))
  | .List _ _, _ => none
  | _, _ => some none
theorem star_any (vs : List Expr) (p : Expr → Bool) (h : ∀ x, p x = isStar x) : vs.any p = vs.any isStar := by
  congr 1
  funext x
  exact h x
theorem swP_ok {nms : List (Str × NameKind)} {env : PySem.Env} (hk : env.scope.kind = .function) (hn : env.scope.names = nms) {t v : Expr} {r : Option (List Str)} (h : swP nms t v = some r) : swappedStores [t] v env = pure r := by
  have hb : env.blockKind = .function := by unfold Env.blockKind; rw [hk]; rfl
  unfold swP at h
  split at h
  · rename_i ts k1 p1 vs k2 p2
    unfold swappedStores
    simp only [hb]
    have e1 : ∀ g : Expr → Option Str, (∀ x, g x = swName nms ((ts.head?.map (·.pos.line)).getD 0) x) → ts.filterMap g = swNames nms ts := fun g hg => by
      unfold swNames
      congr 1
      funext x
      exact hg x
    split at h
    · cases h
      rename_i h1
      rw [if_pos (by rw [h1]; rfl)]
    · split at h
      · cases h
      · rename_i h1 h2
        have h1' : (!(ts.length == 2 || ts.length == 3) || vs.length != ts.length) = false := by simpa using h1
        rw [if_neg (by rw [h1']; decide)]
        have h2' : (vs.any isStar) = false := by simpa using h2
        rw [if_neg (by rw [star_any vs _ (fun x => by cases x <;> rfl), h2']; decide)]
        rw [e1]
        rotate_left
        · intro x
          cases x <;> first | rfl | (simp only [swName, Env.kindOf, hn])
        split at h
        · cases h
          rename_i h3
          rw [if_pos h3]
        · rename_i h3
          rw [if_neg h3]
          split at h
          · cases h
            rename_i h4
            rw [if_pos h4]
          · rename_i h4
            rw [if_neg h4]
            split at h
            · cases h
            · rename_i h5
              cases h
              rw [if_neg h5]
  · cases h
  · rename_i h1 h2
    cases h
    cases t <;> first | rfl | skip
    · exact (h1 _ _ rfl).elim
    · cases v <;> first | rfl | skip
      exact (h2 _ _ _ _ _ _ rfl rfl).elim
/-- the value's store is the ordinary one -/
def swF (nms : List (Str × NameKind)) (t : Expr) : Expr → Bool
  | .ListComp _ _ scope pos => (match t with
    | .Name y py => !(nms.lookup y == some .local && py.line == pos.line && !(scope.names.any fun (n, k) => n == y && (k == .local || k == .cell)))
    | _ => true)
  | .SetComp _ _ _ _ => false
  | .DictComp _ _ _ _ _ => false
  | _ => true
theorem swF_ok {nms : List (Str × NameKind)} {env : PySem.Env} (hk : env.scope.kind = .function) (hn : env.scope.names = nms) {t v : Expr} {l : Nat} (h : swF nms t v = true) : swapsWith v (some t) l env = pure false := by
  have hb : env.blockKind = .function := by unfold Env.blockKind; rw [hk]; rfl
  cases v <;> first | rfl | (cases h; done) | skip
  rename_i elt gs scope pos
  unfold swapsWith
  simp only
  cases t <;> first | rfl | skip
  rename_i y py
  simp only [hb, Env.kindOf, hn, Expr.pos]
  simp only [swF, Bool.not_eq_true'] at h
  congr 1
section
variable {X : Cx} {T : Tb} {W : WX} {a b c e : Expr} {fa fb fc : Env → Sto → R D} {pos p : Pos}
theorem es_asg2 {tg : Expr} {t : Tg} (hsw : swapsWith a (some tg) pos.line X.env = pure false) (h1 : asg1 tg = true) (hw : swappedStores [tg] a X.env = pure none) (ha : PE X a (tEx T (WE' W) fa)) (hg : PG X tg (tTg T t)) :
    PS X (.Assign [tg] a pos) (tSt T W fun ρ st => RS.of (fa ρ st) ρ fun d st => match setT t d ρ with
      | some ρ' => .ok .nx ρ' st
      | none => .bad) := by
  have k : (assignEach [tg] X.env).map (·.2) = [assign tg X.env] := by
    cases tg <;> first | rfl | (cases h1; done)
  refine ps_of (ps_asg ha hg hsw hw k) fun De σ H ⟨G, μ, ρ, st, hr, er, p⟩ => ?_
  refine tR.imp (tR.toS (Rel := RpD T) hr er p) fun x H1 ⟨G1, m1, s1, dx, e1, hr1, r1, p1⟩ => ?_
  cases hs : setT t dx ρ with
  | none => rw [hs] at p1; exact p1.elim
  | some ρ' =>
    rw [hs] at p1
    exact ⟨G1, m1, ρ, dx, ρ', hr1.sub, er.mono e1.1, r1, hs, fun σ' er' _ => p1.nx hr1 er'⟩
theorem es_par3 {i j l : Nat} {x y z : Str} {px py pz pt : Pos} {kt k2 : Nat} {pt2 : Pos} (hc : X.calm = true) (hN : X.N.Nodup) (hi : X.N[i]? = some x) (hj : X.N[j]? = some y) (hl : X.N[l]? = some z) (hij : i ≠ j) (hil : i ≠ l) (hjl : j ≠ l)
    (hx : X.env.scope.names.lookup x = some .local) (hy : X.env.scope.names.lookup y = some .local) (hz : X.env.scope.names.lookup z = some .local) (hn : nst a = true) (hn2 : nst b = true) (hn3 : nst c = true)
    (hw : swappedStores [.Tuple [.Name x px, .Name y py, .Name z pz] kt pt] (.Tuple [a, b, c] k2 pt2) X.env = pure (some [x, y, z])) (ha : PE X a (tEx T (WE' W) fa)) (hb : PE X b (tEx T (WE' W) fb)) (hcc : PE X c (tEx T (WE' W) fc)) :
    PS X (.Assign [.Tuple [.Name x px, .Name y py, .Name z pz] kt pt] (.Tuple [a, b, c] k2 pt2) pos) (tSt T W fun ρ st => RS.of (fa ρ st) ρ fun u st => RS.of (fb ρ st) ρ fun v st => RS.of (fc ρ st) ρ fun w st => .ok .nx (((ρ.set i (some u)).set j (some v)).set l (some w)) st) := by
  refine ps_of (ps_par3 hc hN hi hj hl hij hil hjl hx hy hz (pa_cons ha (pa_cons hb (pa_cons hcc pa_nil (star_cons hn3)) (star_cons hn2)) (star_cons hn)) hw) fun De σ H ⟨G, μ, ρ, st, hr, er, p⟩ => ?_
  refine tR.imp (tR.toS (Rel := RpD T) hr er p) fun x H1 ⟨G1, m1, s1, dx, e1, hr1, r1, p1⟩ => ?_
  refine tR.imp (tR.toS (Rel := RpD T) hr1 (er.mono e1.1) p1) fun y H2 ⟨G2, m2, s2, dy, e2, hr2, r2, p2⟩ => ?_
  refine tR.imp (tR.toS (Rel := RpD T) hr2 ((er.mono e1.1).mono e2.1) p2) fun z H3 ⟨G3, m3, s3, dz, e3, hr3, r3, p3⟩ => ?_
  exact ⟨x, y, z, rfl, p3.nx hr3 (((((er.mono e1.1).mono e2.1).mono e3.1).set ((r1.mono e2.1).mono e3.1) i |>.set (r2.mono e3.1) j).set r3 l)⟩
theorem es_setIx2 {o i : Expr} {fo fi : Env → Sto → R D} {p2 : Pos} (hsw : swapsWith a (some (.Subscript o i p2)) pos.line X.env = pure false) (hnl : nsl i = true) (ha : PE X a (tEx T (WE' W) fa)) (ho : PE X o (tEx T (WE' W) fo)) (hi : PE X i (tEx T (WE' W) fi)) :
    PS X (.Assign [.Subscript o i p2] a pos) (tSt T W fun ρ st => RS.of (fa ρ st) ρ fun v st => RS.of (fo ρ st) ρ fun x st => RS.of (fi ρ st) ρ fun k st => match setD x k v st with
    | some st' => .ok .nx ρ st'
    | none => .bad) := by
  have k1 : ∀ v, assign (.Subscript o i p2) X.env v = (do
      let ov ← holding [v] (eval o X.env)
      let iv ← holding [v, ov] (eval i X.env)
      standAt p2
      holding [v, ov, iv] (setItem ov iv v)
      release [v, ov, iv] []) := by
    intro v
    cases i <;> first | rfl | (cases hnl; done)
  refine ps_of (ps_asg ha (pg_sub ho hi set_list k1) hsw) fun De σ H ⟨G, μ, ρ, st, hr, er, p⟩ => ?_
  refine tR.imp (tR.toS (Rel := RpD T) hr er p) fun x H1 ⟨G1, m1, s1, dx, e1, hr1, r1, p1⟩ => ?_
  refine tR.imp (tR.toS (Rel := RpD T) hr1 (er.mono e1.1) p1) fun y H2 ⟨G2, m2, s2, dy, e2, hr2, r2, p2⟩ => ?_
  refine tR.imp (tR.toS (Rel := RpD T) hr2 ((er.mono e1.1).mono e2.1) p2) fun z H3 ⟨G3, m3, s3, dz, e3, hr3, r3, p3⟩ => ?_
  have r2 := r2.mono e3.1
  have r1 := (r1.mono e2.1).mono e3.1
  cases hs : setD dy dz dx s3 with
  | none => rw [hs] at p3; exact p3.elim
  | some st' =>
    rw [hs] at p3
    cases r2 with
    | @loc ad l hm =>
      cases r3 with
      | int k =>
        simp only [setD] at hs
        split at hs
        · rename_i xs hx
          simp only [Option.map_eq_some_iff] at hs
          obtain ⟨j, hj, rfl⟩ := hs
          obtain ⟨vs, hv, rv⟩ := hr3.at_ hm hx
          refine ⟨ad, vs, k, j, rfl, rfl, hv, by rw [rv.len]; exact hj, ?_⟩
          exact p3 _ _ _ _ (Gx.put hm) (hr3.put hm (rv.set r1 j)) (((er.mono e1.1).mono e2.1).mono e3.1)
        · cases hs
      | _ => cases hs
    | _ => cases hs
theorem es_bad {s : Stmt} : PS X s (tSt T W fun _ _ => .bad) := ⟨fun pins s σ H De I ⟨G, μ, ρ, st, hr, er, p⟩ => p.elim⟩
end
/-! ### the check of a statement's text -/
mutual
def kS (L : Lw) (S : Sc) : Cm → Stmt → Bool
  | .bad, _ => true
  | .pass, s => (match s with | .Pass _ => true | _ => false)
  | .brk, s => (match s with | .Break _ => true | _ => false)
  | .cont, s => (match s with | .Continue _ => true | _ => false)
  | .retN, s => (match s with | .Return none _ => true | _ => false)
  | .ret x, s => (match s with | .Return (some e) _ => kE L false S x e | _ => false)
  | .expr x, s => (match s with | .Expr e _ => noSw e && kE L false S x e | _ => false)
  | .ife c a b, s => (match s with | .If q p r _ => kE L true S c q && kSs L S a p && kSs L S b r | _ => false)
  | .whl c b, s => (match s with | .While q p [] _ => S.calm && kE L true S c q && kSs L S b p | _ => false)
  | .for_ t it b, s => (match s with | .For tg iter p [] _ => S.calm && noSet iter && kI L S it tg iter && kTg S t tg && kSs L S b p | _ => false)
  | .asg t x, s => (match s with
    | .Assign [tg] v pos => (swF S.nms tg v && asg1 tg && (match swP S.nms tg v with | some none => true | _ => false) && kE L false S x v && kTg S t tg) ||
      (match t, x, tg, v with
        | .nm i, .lc _ _ _ _ _ _, .Name y py, .ListComp _ [⟨_, _, _, _⟩] scope lpos => S.calm && S.N[i]? == some y && S.nms.lookup y == some .local && (py.line == lpos.line) && !(scope.names.any fun (n, k) => n == y && (k == .local || k == .cell)) && kE L false S x v
        | _, _, _, _ => false)
    | _ => false)
  | .setIx o i x, s => (match s with
    | .Assign [.Subscript l r p2] v pos => swF S.nms (.Subscript l r p2) v && nsl r && kE L false S x v && kE L false S o l && kE L false S i r
    | _ => false)
  | .aug i op x, s => (match s with
    | .AugAssign (.Name y _) o v _ => decide (o = op.op) && S.N[i]? == some y && S.loc y && (S.fnB y || S.nms.lookup y == some .local) && kE L false S x v
    | _ => false)
  | .par i j a b, s => (match s with
    | .Assign [.Tuple [.Name x px, .Name y py] kt pt] (.Tuple [e1, e2] k2 pt2) _ => S.calm && S.N[i]? == some x && S.N[j]? == some y && i != j && S.nms.lookup x == some .local && S.nms.lookup y == some .local && nst e1 && nst e2 &&
      (match swP S.nms (.Tuple [.Name x px, .Name y py] kt pt) (.Tuple [e1, e2] k2 pt2) with | some (some zs) => zs == [x, y] | _ => false) && kE L false S a e1 && kE L false S b e2
    | _ => false)
  | .par3 i j l a b c, s => (match s with
    | .Assign [.Tuple [.Name x px, .Name y py, .Name z pz] kt pt] (.Tuple [e1, e2, e3] k2 pt2) _ => S.calm && S.N[i]? == some x && S.N[j]? == some y && S.N[l]? == some z && i != j && i != l && j != l && S.nms.lookup x == some .local && S.nms.lookup y == some .local && S.nms.lookup z == some .local && nst e1 && nst e2 && nst e3 &&
      (match swP S.nms (.Tuple [.Name x px, .Name y py, .Name z pz] kt pt) (.Tuple [e1, e2, e3] k2 pt2) with | some (some zs) => zs == [x, y, z] | _ => false) && kE L false S a e1 && kE L false S b e2 && kE L false S c e3
    | _ => false)
  | .rais _ _ _, _ => false
  | .try_ _ _, _ => false
def kSs (L : Lw) (S : Sc) : List Cm → List Stmt → Bool
  | [], ss => ss.isEmpty
  | c :: cs, ss => (match ss with
    | [] => false
    | s :: ss => kS L S c s && kSs L S cs ss)
end
section
variable {T : Tb} {L : Lw} {C : Cal}
/-- what a body's frame asks beyond -/
structure Cxs (X : Cx) (W : WX) (S : Sc) : Prop where
  hx : Hx X (WE' W)
  own : S.calm = true → PassesOwn (model X.prog X.w) X.A X.env X.xe
mutual
theorem kS_ok : ∀ (x : Cm) {s : Stmt} {X : Cx} {S : Sc} {W : WX}, Cxo X T L C S → Cxs X W S → kS L S x s = true → PS X s (tSt T W (evS C x))
  | .bad, s, X, S, W, c, w, h => es_bad
  | .pass, s, X, S, W, c, w, h => by
    simp only [kS] at h
    split at h
    · exact es_pass
    · cases h
  | .brk, s, X, S, W, c, w, h => by
    simp only [kS] at h
    split at h
    · exact es_brk
    · cases h
  | .cont, s, X, S, W, c, w, h => by
    simp only [kS] at h
    split at h
    · exact es_cont
    · cases h
  | .retN, s, X, S, W, c, w, h => by
    simp only [kS] at h
    split at h
    · exact es_retN
    · cases h
  | .ret x, s, X, S, W, c, w, h => by
    simp only [kS] at h
    split at h
    · exact es_ret (kE_ok x (t := false) c w.hx h)
    · cases h
  | .expr x, s, X, S, W, c, w, h => by
    simp only [kS] at h
    split at h
    · simp only [Bool.and_eq_true] at h
      exact es_expr h.1 (kE_ok x (t := false) c w.hx h.2)
    · cases h
  | .ife q a b, s, X, S, W, c, w, h => by
    simp only [kS] at h
    split at h
    · simp only [Bool.and_eq_true] at h
      exact es_if (kE_ok q (t := true) c w.hx h.1.1) (kSs_ok a c w h.1.2) (kSs_ok b c w h.2)
    · cases h
  | .whl q b, s, X, S, W, c, w, h => by
    simp only [kS] at h
    split at h
    · simp only [Bool.and_eq_true] at h
      exact es_while (w.own h.1.1) (kE_ok q (t := true) c w.hx h.1.2) (kSs_ok b c w h.2)
    · cases h
  | .for_ t it b, s, X, S, W, c, w, h => by
    simp only [kS] at h
    split at h
    · simp only [Bool.and_eq_true] at h
      obtain ⟨⟨⟨⟨h0, h1⟩, h2⟩, h3⟩, h4⟩ := h
      exact es_for (w.own h0) (c.calm h0) h1 (kI_ok it c w.hx h2) (kTg_ok t c h3) (kSs_ok b c w h4)
    · cases h
  | .asg t x, s, X, S, W, c, w, h => by
    simp only [kS] at h
    split at h
    · rename_i tg v pos
      rw [Bool.or_eq_true] at h
      rcases h with h | h
      · simp only [Bool.and_eq_true] at h
        obtain ⟨⟨⟨⟨h1, h2⟩, h3⟩, h4⟩, h5⟩ := h
        have h3' : swP S.nms tg v = some none := by
          revert h3
          split
          · exact fun _ => ‹_›
          · intro z; cases z
        exact es_asg2 (swF_ok c.kind c.nms h1) h2 (swP_ok c.kind c.nms h3') (kE_ok x (t := false) c w.hx h4) (kTg_ok t c h5)
      · split at h
        · rename_i i mu tg it cs el own y py elt t0 i0 f0 a0 scope lpos
          simp only [kE, Bool.and_eq_true] at h
          obtain ⟨⟨⟨⟨⟨k0, k1⟩, k2⟩, k3⟩, k4⟩, h⟩ := h
          split at h
          · rename_i h9
            cases h9
            simp only [Bool.and_eq_true] at h
            obtain ⟨⟨⟨⟨⟨⟨⟨h0, h1⟩, h2⟩, h3⟩, h4⟩, h5⟩, h6⟩, h7⟩ := h
            obtain ⟨ow, rfl, ok⟩ := blk_ok c h3
            exact es_setLc (by rw [c.N]; exact beq_iff_eq.mp k1) (by rw [c.nms]; exact beq_iff_eq.mp k2) k3 (by simpa using k4) c.kind h1 (c.calm h0) (c.N ▸ c.nd) h2 (kI_ok it c w.hx h4) ok (fun s H A cl fp => kTg_ok tg (c.sub h3 s H A cl fp) h5)
              (fun s H A cl fp => kC_ok cs (c.sub h3 s H A cl fp) h6) (fun s H A cl fp => kE_ok el (t := false) (c.sub h3 s H A cl fp) hx_no h7)
          · cases h
        · cases h
    · cases h
  | .setIx o i x, s, X, S, W, c, w, h => by
    simp only [kS] at h
    split at h
    · simp only [Bool.and_eq_true] at h
      obtain ⟨⟨⟨⟨h1, h2⟩, h3⟩, h4⟩, h5⟩ := h
      exact es_setIx2 (swF_ok c.kind c.nms h1) h2 (kE_ok x (t := false) c w.hx h3) (kE_ok o (t := false) c w.hx h4) (kE_ok i (t := false) c w.hx h5)
    · cases h
  | .aug i op x, s, X, S, W, c, w, h => by
    simp only [kS] at h
    split at h
    · simp only [Bool.and_eq_true, decide_eq_true_eq, Bool.or_eq_true] at h
      obtain ⟨⟨⟨⟨rfl, h1⟩, h2⟩, h3⟩, h4⟩ := h
      exact es_aug op (c.N ▸ c.nd) (by rw [c.N]; exact beq_iff_eq.mp h1) (c.loc h2) (h3.imp (fun q => c.fn _ q) fun q => by rw [c.nms]; exact beq_iff_eq.mp q) (kE_ok x (t := false) c w.hx h4)
    · cases h
  | .par i j a b, s, X, S, W, c, w, h => by
    simp only [kS] at h
    split at h
    · simp only [Bool.and_eq_true] at h
      obtain ⟨⟨⟨⟨⟨⟨⟨⟨⟨⟨h0, h1⟩, h2⟩, h3⟩, h4⟩, h5⟩, h6⟩, h7⟩, h8⟩, h9⟩, h10⟩ := h
      split at h8
      · rename_i zs hz
        cases beq_iff_eq.mp h8
        exact es_par (c.calm h0) (c.N ▸ c.nd) (by rw [c.N]; exact beq_iff_eq.mp h1) (by rw [c.N]; exact beq_iff_eq.mp h2) (by simpa using h3) (by rw [c.nms]; exact beq_iff_eq.mp h4) (by rw [c.nms]; exact beq_iff_eq.mp h5) h6 h7 (swP_ok c.kind c.nms hz) (kE_ok a (t := false) c w.hx h9) (kE_ok b (t := false) c w.hx h10)
      · cases h8
    · cases h
  | .par3 i j l a b q, s, X, S, W, c, w, h => by
    simp only [kS] at h
    split at h
    · simp only [Bool.and_eq_true] at h
      obtain ⟨⟨⟨⟨⟨⟨⟨⟨⟨⟨⟨⟨⟨⟨⟨⟨h0, h1⟩, h2⟩, h2'⟩, h3⟩, h3'⟩, h3''⟩, h4⟩, h5⟩, h5'⟩, h6⟩, h7⟩, h7'⟩, h8⟩, h9⟩, h10⟩, h11⟩ := h
      split at h8
      · rename_i zs hz
        cases beq_iff_eq.mp h8
        exact es_par3 (c.calm h0) (c.N ▸ c.nd) (by rw [c.N]; exact beq_iff_eq.mp h1) (by rw [c.N]; exact beq_iff_eq.mp h2) (by rw [c.N]; exact beq_iff_eq.mp h2') (by simpa using h3) (by simpa using h3') (by simpa using h3'') (by rw [c.nms]; exact beq_iff_eq.mp h4) (by rw [c.nms]; exact beq_iff_eq.mp h5) (by rw [c.nms]; exact beq_iff_eq.mp h5') h6 h7 h7' (swP_ok c.kind c.nms hz) (kE_ok a (t := false) c w.hx h9) (kE_ok b (t := false) c w.hx h10) (kE_ok q (t := false) c w.hx h11)
      · cases h8
    · cases h
  | .rais _ _ _, s, X, S, W, c, w, h => by simp [kS] at h
  | .try_ _ _, s, X, S, W, c, w, h => by simp [kS] at h
theorem kSs_ok : ∀ (xs : List Cm) {ss : List Stmt} {X : Cx} {S : Sc} {W : WX}, Cxo X T L C S → Cxs X W S → kSs L S xs ss = true → PSs X ss (tSt T W (evSs C xs))
  | [], ss, X, S, W, c, w, h => by
    cases ss with
    | nil => exact es_nil
    | cons _ _ => simp [kSs] at h
  | x :: xs, ss, X, S, W, c, w, h => by
    cases ss with
    | nil => simp [kSs] at h
    | cons s ss =>
      simp only [kSs, Bool.and_eq_true] at h
      exact es_cons (kS_ok x c w h.1) (kSs_ok xs c w h.2)
end
end
end DI
set_option Elab.async false
set_option linter.all false
set_option maxRecDepth 100000
set_option maxHeartbeats 4000000
set_option autoImplicit false
namespace DI
open PySem PySem.Spec PyProof.Rows L2
section
variable {T : Tb} {G G' H H' G0 H0 : Hp} {μ μ' μ0 : List Addr} {st st0 : Sto}
mutual
theorem subX_ok {g : Nat → Option D} (gm : ∀ a o, G a = some o → G' a = some o) (hg : ∀ (i : Nat) (a : Addr) (d : D), μ[i]? = some a → g i = some d → Rp T G' μ' (.ref a) d) :
    ∀ (d : D) {v : V} {d' : D}, Rp T G μ v d → D.subX g d = some d' → Rp T G' μ' v d'
  | .non, _, _, r, e => by cases r; cases e; exact .non
  | .bl b, _, _, r, e => by cases r; cases e; exact .bl b
  | .int i, _, _, r, e => by cases r; cases e; exact .int i
  | .str s, _, _, r, e => by
    cases r with
    | str _ h => cases e; exact .str _ h
  | .tup xs, _, _, r, e => by
    cases r with
    | tup h1 h2 =>
      simp only [D.subX, Option.map_eq_some_iff] at e
      obtain ⟨ys, e1, rfl⟩ := e
      exact .tup (sqt_mono gm h1) (subXL_ok gm hg xs h2 e1)
  | .lst xs, _, _, r, e => by
    cases r with
    | lst h1 h2 =>
      simp only [D.subX, Option.map_eq_some_iff] at e
      obtain ⟨ys, e1, rfl⟩ := e
      exact .lst (gm _ _ h1) (subXL_ok gm hg xs h2 e1)
  | .ro xs, _, _, r, e => by
    cases r with
    | ro h1 h2 =>
      simp only [D.subX, Option.map_eq_some_iff] at e
      obtain ⟨ys, e1, rfl⟩ := e
      exact .ro (sql_mono gm h1) (subXL_ok gm hg xs h2 e1)
  | .loc i, _, d', r, e => by
    cases r with
    | loc h => exact hg i _ d' h e
  | .exc c fs, _, _, r, e => by cases e
theorem subXL_ok {g : Nat → Option D} (gm : ∀ a o, G a = some o → G' a = some o) (hg : ∀ (i : Nat) (a : Addr) (d : D), μ[i]? = some a → g i = some d → Rp T G' μ' (.ref a) d) :
    ∀ (ds : List D) {vs : List V} {ds' : List D}, RpL T G μ vs ds → D.subXL g ds = some ds' → RpL T G' μ' vs ds'
  | [], _, _, r, e => by cases r; cases e; exact .nil
  | x :: xs, _, _, r, e => by
    cases r with
    | cons r1 r2 =>
      simp only [D.subXL] at e
      split at e
      · cases e
      · rename_i y h1
        split at e
        · cases e
        · rename_i ys h2
          cases e
          exact .cons (subX_ok gm hg x r1 h1) (subXL_ok gm hg xs r2 h2)
end
mutual
theorem lo_ok {n : Nat} (gm : ∀ a o, G a = some o → G' a = some o) : ∀ (d : D) {v : V}, Rp T G μ v d → D.lo n d = true → Rp T G' (μ.take n) v d
  | .non, _, r, e => by cases r; exact .non
  | .bl b, _, r, e => by cases r; exact .bl b
  | .int i, _, r, e => by cases r; exact .int i
  | .str s, _, r, e => by
    cases r with
    | str _ h => exact .str _ h
  | .tup xs, _, r, e => by
    cases r with
    | tup h1 h2 => exact .tup (sqt_mono gm h1) (loL_ok gm xs h2 e)
  | .lst xs, _, r, e => by
    cases r with
    | lst h1 h2 => exact .lst (gm _ _ h1) (loL_ok gm xs h2 e)
  | .ro xs, _, r, e => by
    cases r with
    | ro h1 h2 => exact .ro (sql_mono gm h1) (loL_ok gm xs h2 e)
  | .loc i, _, r, e => by
    cases r with
    | loc h =>
      have e : i < n := by simpa [D.lo] using e
      exact .loc (by rw [List.getElem?_take_of_lt e]; exact h)
  | .exc c fs, _, r, e => by
    cases r with
    | exc h1 h2 h3 => exact .exc h1 (gm _ _ h2) (loF_ok gm fs h3 e)
theorem loL_ok {n : Nat} (gm : ∀ a o, G a = some o → G' a = some o) : ∀ (ds : List D) {vs : List V}, RpL T G μ vs ds → D.loL n ds = true → RpL T G' (μ.take n) vs ds
  | [], _, r, e => by cases r; exact .nil
  | x :: xs, _, r, e => by
    cases r with
    | cons r1 r2 =>
      simp only [D.loL, Bool.and_eq_true] at e
      exact .cons (lo_ok gm x r1 e.1) (loL_ok gm xs r2 e.2)
theorem loF_ok {n : Nat} (gm : ∀ a o, G a = some o → G' a = some o) : ∀ (ds : List (Nat × D)) {vs : List (Str × V)}, RpF T G μ vs ds → D.loF n ds = true → RpF T G' (μ.take n) vs ds
  | [], _, r, e => by cases r; exact .nil
  | (i, x) :: xs, _, r, e => by
    cases r with
    | cons h r1 r2 =>
      simp only [D.loF, Bool.and_eq_true] at e
      exact .cons h (lo_ok gm x r1 e.1) (loF_ok gm xs r2 e.2)
end
mutual
theorem rp_lo : ∀ (d : D) {v : V}, Rp T G μ v d → D.lo μ.length d = true
  | .non, _, r => rfl
  | .bl b, _, r => rfl
  | .int i, _, r => rfl
  | .str s, _, r => rfl
  | .tup xs, _, r => by
    cases r with
    | tup h1 h2 => exact rpL_lo xs h2
  | .lst xs, _, r => by
    cases r with
    | lst h1 h2 => exact rpL_lo xs h2
  | .ro xs, _, r => by
    cases r with
    | ro h1 h2 => exact rpL_lo xs h2
  | .loc i, _, r => by
    cases r with
    | loc h => simpa [D.lo] using (List.getElem?_eq_some_iff.mp h).1
  | .exc c fs, _, r => by
    cases r with
    | exc h1 h2 h3 => exact rpF_lo fs h3
theorem rpL_lo : ∀ (ds : List D) {vs : List V}, RpL T G μ vs ds → D.loL μ.length ds = true
  | [], _, r => rfl
  | x :: xs, _, r => by
    cases r with
    | cons r1 r2 => simp only [D.loL, rp_lo x r1, rpL_lo xs r2]; rfl
theorem rpF_lo : ∀ (ds : List (Nat × D)) {vs : List (Str × V)}, RpF T G μ vs ds → D.loF μ.length ds = true
  | [], _, r => rfl
  | (i, x) :: xs, _, r => by
    cases r with
    | cons h r1 r2 => simp only [D.loF, rp_lo x r1, rpF_lo xs r2]; rfl
end
theorem keeps_at {n : Nat} : ∀ {st0 st : Sto}, keeps n st0 st = true → st0.length ≤ st.length ∧ ∀ (i : Nat) (o u : Ob), st0[i]? = some o → st[i]? = some u → (Ob.beq o u || u.lo n) = true
  | [], st, h => ⟨Nat.zero_le _, fun i o u e => by simp at e⟩
  | o :: st0, [], h => by cases h
  | o :: st0, u :: st, h => by
    simp only [keeps, Bool.and_eq_true] at h
    obtain ⟨h1, h2⟩ := keeps_at h.2
    refine ⟨by simpa using h1, fun i a b e1 e2 => ?_⟩
    cases i with
    | zero => simp at e1 e2; subst e1 e2; exact h.1
    | succ i => exact h2 i a b (by simpa using e1) (by simpa using e2)
theorem obeq_lst {o : Ob} {ds : List D} (h : Ob.beq o (.lst ds) = true) : o = .lst ds := by
  cases o with
  | lst xs => simp only [Ob.beq] at h; rw [D.eqL_of _ _ h]
  | dct _ => cases h
/-- a call's end: what it laid and is told whole, is known from now on -/
theorem fin_ok (h0 : Hr T G0 μ0 st0 H0) (e : Gx G0 μ0 H0 G μ H) (hr : Hr T G μ st H) (hk : keeps st0.length st0 st = true) :
    ∃ G1 : Hp, Gx G0 μ0 H0 G1 (μ.take st0.length) H ∧ Hr T G1 (μ.take st0.length) (st.take st0.length) H ∧ (∀ a o, G a = some o → G1 a = some o) ∧ (∀ (f : Nat) (d : D) (v : V) (d' : D), Rp T G μ v d → frzX st st0.length f d = some d' → Rp T G1 (μ.take st0.length) v d') := by
  classical
  obtain ⟨hle, hkeep⟩ := keeps_at hk
  have hml : μ0.length = st0.length := h0.len
  generalize hn : st0.length = n at hle hkeep hml ⊢
  -- the new known
  let G1 : Hp := fun a => if a ∈ μ.drop n then H a else G a
  have inD : ∀ {a : Addr}, a ∈ μ.drop n → ∃ i, n ≤ i ∧ μ[i]? = some a := fun {a} h => by
    obtain ⟨j, hj⟩ := List.mem_iff_getElem?.mp h
    rw [List.getElem?_drop] at hj
    exact ⟨n + j, by omega, hj⟩
  have g1 : ∀ a o, G a = some o → G1 a = some o := fun a o h => by
    show (if a ∈ μ.drop n then H a else G a) = some o
    split
    · exact hr.sub a o h
    · exact h
  have g2 : ∀ (i : Nat) (a : Addr), n ≤ i → μ[i]? = some a → G1 a = H a := fun i a hi h => by
    have : a ∈ μ.drop n := List.mem_iff_getElem?.mpr ⟨i - n, by rw [List.getElem?_drop]; rw [show n + (i - n) = i by omega]; exact h⟩
    show (if a ∈ μ.drop n then H a else G a) = H a
    rw [if_pos this]
  have g3 : ∀ (i : Nat) (a : Addr), i < n → μ[i]? = some a → G1 a = none := fun i a hi h => by
    have : a ∉ μ.drop n := fun hm => by
      obtain ⟨j, hj, hj2⟩ := inD hm
      have := hr.nd i j a h hj2
      omega
    show (if a ∈ μ.drop n then H a else G a) = none
    rw [if_neg this]
    exact (hr.obj i a h).1
  have tk : ∀ {i : Nat} {a : Addr}, (μ.take n)[i]? = some a → i < n ∧ μ[i]? = some a := fun {i a} h => by
    have hi : i < n := by
      have := (List.getElem?_eq_some_iff.mp h).1
      simp at this; omega
    rw [List.getElem?_take_of_lt hi] at h
    exact ⟨hi, h⟩
  refine ⟨G1, ⟨⟨fun a o h => g1 a o (e.g a o h), fun i a h => ?_⟩, e.fr, e.kp, fun a o h => ?_, fun i a h => e.nm i a (tk h).2⟩, ⟨fun a o h => ?_, ?_, fun i a h => ?_, fun i j a h1 h2 => hr.nd i j a (tk h1).2 (tk h2).2⟩, g1, ?_⟩
  · have hi : i < n := by
      have := (List.getElem?_eq_some_iff.mp h).1
      omega
    rw [List.getElem?_take_of_lt hi]
    exact e.m i a h
  · have h : (if a ∈ μ.drop n then H a else G a) = some o := h
    split at h
    · rename_i hm
      obtain ⟨i, hi, hi2⟩ := inD hm
      rcases e.nm i a hi2 with z | z
      · have := (List.getElem?_eq_some_iff.mp z).1
        omega
      · exact .inr z
    · exact e.ng a o h
  · have h : (if a ∈ μ.drop n then H a else G a) = some o := h
    split at h
    · exact h
    · exact hr.sub a o h
  · rw [List.length_take, List.length_take, hr.len]
  · obtain ⟨hi, h⟩ := tk h
    obtain ⟨_, ob, h2, h3⟩ := hr.obj i a h
    refine ⟨g3 i a hi h, ob, by rw [List.getElem?_take_of_lt hi]; exact h2, ?_⟩
    cases h3 with
    | @lst vs ds h4 r =>
      refine .lst h4 (loL_ok g1 ds r ?_)
      have h5 : i < st0.length := by omega
      have h6 := hkeep i _ _ (List.getElem?_eq_getElem h5) h2
      rw [Bool.or_eq_true] at h6
      rcases h6 with h6 | h6
      · have h7 := obeq_lst h6
        have hi0 : i < μ0.length := by omega
        obtain ⟨_, o2, k2, k3⟩ := h0.obj i _ (List.getElem?_eq_getElem hi0)
        rw [List.getElem?_eq_getElem h5, h7] at k2
        cases k2
        cases k3 with
        | lst _ r0 => rw [← hml]; exact rpL_lo ds r0
      · exact h6
  · have key : ∀ (f : Nat) (d : D) (v : V) (d' : D), Rp T G1 μ v d → frzX st n f d = some d' → Rp T G1 (μ.take n) v d' := by
      intro f
      induction f with
      | zero =>
        intro d v d' r q
        refine subX_ok (fun _ _ h => h) (fun i a x hi q => ?_) d r q
        split at q
        · rename_i hlt
          cases q
          exact .loc (by rw [List.getElem?_take_of_lt hlt]; exact hi)
        · cases q
      | succ f ih =>
        intro d v d' r q
        refine subX_ok (fun _ _ h => h) (fun i a x hi q => ?_) d r q
        split at q
        · rename_i hlt
          cases q
          exact .loc (by rw [List.getElem?_take_of_lt hlt]; exact hi)
        · rename_i hge
          obtain ⟨_, ob, h2, h3⟩ := hr.obj i a hi
          rw [h2] at q
          cases h3 with
          | @lst vs ds h4 r4 =>
            exact ih (.lst ds) (.ref a) x (.lst (by rw [g2 i a (by omega) hi]; exact h4) (r4.mono ⟨g1, fun _ _ q => q⟩)) q
    exact fun f d v d' r q => key f d v d' (r.mono ⟨g1, fun _ _ q => q⟩) q
theorem frzF_ok {n : Nat} {G1 : Hp} {μ1 : List Addr} (k : ∀ (f : Nat) (d : D) (v : V) (d' : D), Rp T G μ v d → frzX st n f d = some d' → Rp T G1 μ1 v d') : ∀ {fs : List (Nat × D)} {fv : List (Str × V)} {fs' : List (Nat × D)}, RpF T G μ fv fs → frzF st n fs = some fs' → RpF T G1 μ1 fv fs'
  | [], _, _, r, e => by cases r; cases e; exact .nil
  | (i, x) :: fs, _, _, r, e => by
    cases r with
    | cons h r1 r2 =>
      simp only [frzF] at e
      split at e
      · cases e
      · rename_i y h1
        simp only [Option.map_eq_some_iff] at e
        obtain ⟨ys, e1, rfl⟩ := e
        exact .cons h (k _ _ _ _ r1 h1) (frzF_ok k r2 e1)
end
/-! ### a def's body -/
theorem ps_end {T : Tb} {E : XK} {Q : VK} {G H : Hp} {μ : List Addr} {st : Sto} {keep : Bool} {r : RS} (hr : Hr T G μ st H) (p : Pr T (RpD T) E G μ H Q (endD keep st r)) :
    Ps T (fun cls d _ H' => E cls d H') { nx := fun _ H' => Q .non H', rt := Q } G μ H r := by
  have fin : ∀ {G2 : Hp} {m2 : List Addr} {H2 : Hp} {s2 : Sto} {d : D} {v : V}, Gx G μ H G2 m2 H2 → Hr T G2 m2 s2 H2 → Rp T G2 m2 v d → Pr T (RpD T) E G μ H Q (finD keep st d s2) → Q v H2 := fun {G2 m2 H2 s2 d v} e2 hr2 rv p => by
    unfold finD at p
    split at p
    · exact p G2 m2 H2 v e2 hr2 rv
    · split at p
      · rename_i d' hd
        split at p
        · rename_i hk
          obtain ⟨G3, e3, hr3, g3, k3⟩ := fin_ok hr e2 hr2 hk
          exact p G3 _ H2 v e3 hr3 (k3 _ _ _ _ rv hd)
        · exact p.elim
      · exact p.elim
  cases r with
  | bad => exact p
  | ok fl ρ s2 =>
    cases fl with
    | nx => exact fun G2 m2 H2 σ2 e2 hr2 er2 => fin e2 hr2 .non p
    | rt d => exact fun G2 m2 H2 σ2 e2 hr2 er2 v rv => fin e2 hr2 rv p
    | bk => exact p.elim
    | ct => exact p.elim
  | err c fs ρ s2 =>
    intro G2 m2 H2 σ2 d fv e2 hr2 er2 hd rf
    have p : Pr T (RpD T) E G μ H Q (finX keep st c fs s2) := p
    unfold finX at p
    split at p
    · exact p G2 m2 H2 d fv e2 hr2 hd rf
    · split at p
      · rename_i fs' hf
        split at p
        · rename_i hk
          obtain ⟨G3, e3, hr3, g3, k3⟩ := fin_ok hr e2 hr2 hk
          exact p G3 _ H2 d fv e3 hr3 (g3 _ _ hd) (frzF_ok k3 rf hf)
        · exact p.elim
      · exact p.elim
theorem er_start {T : Tb} {G : Hp} {μ : List Addr} {vs : List V} {ds : List D} {N : List Str} {nn : Nat} (r : RpL T G μ vs ds) (h : N.length = nn) : Er T G μ (ds.map some ++ List.replicate (nn - ds.length) none) (L2.start N vs) := by
  unfold L2.start
  refine ⟨by simp [r.len, h], fun i d q => ?_⟩
  by_cases hi : i < ds.length
  · rw [List.getElem?_append_left (by simpa using hi)] at q
    rw [List.getElem?_append_left (by simpa [r.len] using hi)]
    rw [List.getElem?_map] at q ⊢
    cases h2 : ds[i]? with
    | none => rw [h2] at q; cases q
    | some d2 =>
      rw [h2] at q
      cases q
      obtain ⟨v, hv, rv⟩ := r.get h2
      exact ⟨v, by rw [hv]; rfl, rv⟩
  · rw [List.getElem?_append_right (by simpa using hi)] at q
    rw [List.getElem?_replicate] at q
    split at q
    · cases q
    · cases q
end DI
set_option Elab.async false
set_option linter.all false
set_option maxRecDepth 100000
set_option maxHeartbeats 4000000
set_option autoImplicit false
namespace DI
open PySem PySem.Spec PyProof.Rows L2
theorem zip_look : ∀ (ps : List Str) (us : List Value), ps.Nodup → us.length = ps.length → ∀ (i : Nat) (p : Str), ps[i]? = some p → ∃ u, us[i]? = some u ∧ (ps.zip us).lookup p = some u
  | [], us, _, _, i, p, h => by simp at h
  | q :: ps, [], _, h, _, _, _ => by cases h
  | q :: ps, u :: us, nd, hl, i, p, h => by
    obtain ⟨n1, n2⟩ := List.nodup_cons.mp nd
    cases i with
    | zero =>
      simp at h
      subst h
      exact ⟨u, rfl, by simp [List.zip_cons_cons, List.lookup_cons]⟩
    | succ i =>
      have h : ps[i]? = some p := by simpa using h
      obtain ⟨w, h1, h2⟩ := zip_look ps us n2 (by simpa using hl) i p h
      refine ⟨w, by simpa using h1, ?_⟩
      have ne : (p == q) = false := by
        have : p ≠ q := fun e => n1 (e ▸ List.mem_of_getElem? h)
        simpa using this
      rw [List.zip_cons_cons, List.lookup_cons, ne]
      exact h2
theorem zip_fm {f : Str → Option Value} : ∀ (ps : List Str) (us : List Value), us.length = ps.length → (∀ (i : Nat) (p : Str), ps[i]? = some p → ∃ u, us[i]? = some u ∧ f p = some u) → (ps.filterMap fun n => (f n).map (n, ·)) = ps.zip us
  | [], us, _, _ => by simp
  | q :: ps, [], h, _ => by cases h
  | q :: ps, u :: us, hl, k => by
    obtain ⟨w, h1, h2⟩ := k 0 q rfl
    simp at h1
    subst h1
    rw [List.filterMap_cons, h2]
    simp only [Option.map_some, List.zip_cons_cons]
    rw [zip_fm ps us (by simpa using hl) fun i p hp => by
      obtain ⟨w, a, b⟩ := k (i + 1) p (by simpa using hp)
      exact ⟨w, by simpa using a, b⟩]
theorem bind_plain {x qual : Str} {params : Arguments} {body : List Stmt} {scope : Scope} {kV doc pm cdv ct : Value} {an : Option Addr} {ps : List Str} (h1 : params.posonlyargs = []) (h2 : params.args.map (·.arg) = ps) (h3 : params.vararg = none) (h4 : params.kwonlyargs = []) (h5 : params.kwarg = none) (nd : ps.Nodup)
    (us : List Value) (hl : us.length = ps.length) : bindArgs (PySem.W.fnOf x qual params body scope .none kV doc pm an cdv ct) ⟨us, []⟩ = pure (ps.zip us) := by
  have some_all : ∀ p ∈ ps, ((ps.zip us).lookup p).isNone = false := fun p hp => by
    obtain ⟨i, hi⟩ := List.mem_iff_getElem?.mp hp
    obtain ⟨u, _, e⟩ := zip_look ps us nd hl i p hi
    rw [e]
    rfl
  have miss : (ps.filter fun n => ((ps.zip us).lookup n).isNone) = [] := List.filter_eq_nil_iff.mpr fun p hp => by rw [some_all p hp]; decide
  have e0 : seqItems? (PySem.W.fnOf x qual params body scope .none kV doc pm an cdv ct).defaults = pure none := rfl
  have e1 : (PySem.W.fnOf x qual params body scope .none kV doc pm an cdv ct).params = params := rfl
  unfold bindArgs
  rw [e0, e1]
  simp only [h1, h2, h3, h4, h5, List.map_nil, List.nil_append, List.append_nil, List.forIn_nil, pure_bind]
  simp only [hl, gt_iff_lt, Nat.lt_irrefl, decide_false, Bool.false_and, Bool.false_eq_true, if_false, pure_bind, Option.getD_none, List.length_nil, Nat.zero_sub, List.drop_nil, Nat.sub_zero, List.take_length, List.drop_length, List.zip_nil_left, List.forIn_nil]
  rw [miss, zip_fm ps us hl fun i p hp => zip_look ps us nd hl i p hp]
  rfl
/-! ### the table of a law's defs -/
structure Ent where
  st : Stmt
  nm : Str
  N : List Str
  F : Fd
def Ent.ps (e : Ent) : List Str := (defArgs e.st).args.map (·.arg)
def Ent.fnI (e : Ent) : FnI := ⟨e.nm, e.F.np⟩
def nodupB : List Str → Bool
  | [] => true
  | x :: xs => !(xs.contains x) && nodupB xs
theorem nodupB_ok : ∀ {xs : List Str}, nodupB xs = true → xs.Nodup
  | [], _ => .nil
  | x :: xs, h => by
    simp only [nodupB, Bool.and_eq_true, Bool.not_eq_true'] at h
    exact List.nodup_cons.mpr ⟨by simpa using h.1, nodupB_ok h.2⟩
def Ent.sc (e : Ent) : Sc := ⟨e.N, (defScope e.st).names, none, true⟩
def Ent.okA (e : Ent) : Bool := (defArgs e.st).posonlyargs.isEmpty && (defArgs e.st).vararg.isNone && (defArgs e.st).kwonlyargs.isEmpty && (defArgs e.st).kwarg.isNone &&
  e.ps.length == e.F.np && e.N.length == e.F.nn && nodupB e.N && e.N.take e.ps.length == e.ps && e.ps.all e.sc.loc && (defScope e.st).names.all (fun y => !(y.2 == .free)) && (defScope e.st).kind == .function && !(defScope e.st).isCoroutine && !(defScope e.st).isGenerator
def Ent.ok (L : Lw) (e : Ent) : Bool := e.okA && kSs L e.sc e.F.body (defBody e.st)
abbrev Fns (K : PySem.W.Frag) (mg : Str → Option Value) (tab : List Ent) : Prop := ∀ e ∈ tab, ∃ (f : Addr) (fd : FuncData), mg e.nm = some (.ref f) ∧ FunD K e.nm e.nm (defArgs e.st) (defBody e.st) (defScope e.st) [] [] f fd
section
variable {P : Program} {w : World} {K : PySem.W.Frag} {mg : Str → Option Value} {base : Heap} {T : Tb} {L : Lw} {tab : List Ent} {anc : Nat → Nat → Bool}
theorem ent_scope {e : Ent} (h : e.okA = true) : FnScope e.N e.ps (defScope e.st) ∧ e.ps.Nodup ∧ e.ps.length = e.F.np ∧ e.N.length = e.F.nn := by
  simp only [Ent.okA, Bool.and_eq_true] at h
  obtain ⟨⟨⟨⟨⟨⟨⟨⟨⟨⟨⟨⟨h1, h2⟩, h3⟩, h4⟩, h5⟩, h6⟩, h7⟩, h8⟩, h9⟩, h10⟩, h11⟩, h12⟩, h13⟩ := h
  have nd := nodupB_ok h7
  have tk : e.N.take e.ps.length = e.ps := beq_iff_eq.mp h8
  refine ⟨⟨beq_iff_eq.mp h11, by simpa using h12, by simpa using h13, nd, tk, fun x hx => ?_, fun y hy e1 => ?_⟩, ?_, beq_iff_eq.mp h5, beq_iff_eq.mp h6⟩
  · have := List.all_eq_true.mp h9 x hx
    unfold Sc.loc at this
    split at this
    · exact .inl ‹_›
    · exact .inr ‹_›
    · cases this
  · have := List.all_eq_true.mp h10 y hy
    rw [e1] at this
    cases this
  · rw [← tk]
    exact nd.sublist (List.take_sublist _ _)
theorem ent_binds {e : Ent} {f : Addr} {fd : FuncData} (h : e.okA = true) (F : FunD K e.nm e.nm (defArgs e.st) (defBody e.st) (defScope e.st) [] [] f fd) : Binds K fd e.ps [] ∧ ∀ (s : Shared) (us : List Value), us.length = e.ps.length → BindsTo s fd ⟨us, []⟩ (e.ps.zip us) := by
  obtain ⟨_, nd, _, _⟩ := ent_scope h
  simp only [Ent.okA, Bool.and_eq_true] at h
  obtain ⟨⟨⟨⟨⟨⟨⟨⟨⟨⟨⟨⟨h1, h2⟩, h3⟩, h4⟩, h5⟩, h6⟩, h7⟩, h8⟩, h9⟩, h10⟩, h11⟩, h12⟩, h13⟩ := h
  have k : ∀ (kV doc pm : Value) (an : Option Addr) (cdv ct : Value) (us : List Value), us.length = e.ps.length → bindArgs (PySem.W.fnOf e.nm e.nm (defArgs e.st) (defBody e.st) (defScope e.st) .none kV doc pm an cdv ct) ⟨us, []⟩ = pure (e.ps.zip us) :=
    fun kV doc pm an cdv ct us hl => bind_plain (by simpa using h1) rfl (by simpa using h2) (by simpa using h3) (by simpa using h4) nd us hl
  exact ⟨F.bindsN k, F.bindsA k⟩
theorem fns_ok (hK : T.K = K) (hL : L.fns = tab.map Ent.fnI) (hfn : Fns K mg tab) (ha : tab.all Ent.okA = true) (hb : tab.all (fun e => kSs L e.sc e.F.body (defBody e.st)) = true) (blt : ∀ x ∈ L.blt, mg x = none) (cst : ∀ x d, L.cst.lookup x = some d → ∃ (v : V) (u : Value), mg x = some u ∧ RelV v u ∧ ∀ G μ, Rp T G μ v d) (gcd : L.gcd = true → mg "gcd" = some (.builtin "math.gcd")) :
    ∀ (n k : Nat) (e : Ent), tab[k]? = some e → ∀ (f : Addr) (fd : FuncData), mg e.nm = some (.ref f) → FunD K e.nm e.nm (defArgs e.st) (defBody e.st) (defScope e.st) [] [] f fd → FnOk P w K mg base (L2.CX P w) n f fd e.ps (spD T e.F.np (callD (tab.map Ent.F) anc n k)) := by
  intro n
  induction n with
  | zero =>
    intro k e he f fd hm F
    exact ⟨fun vs H Q E ⟨G, μ, st, ds, _, _, _, p⟩ => p.elim, fun A outer s H args us vs Q E _ _ _ _ ⟨G, μ, st, ds, _, _, _, p⟩ => p.elim⟩
  | succ n ih =>
    intro k e he f fd hm F
    have hmem := List.mem_of_getElem? he
    have h1 := List.all_eq_true.mp ha e hmem
    have h2 := List.all_eq_true.mp hb e hmem
    obtain ⟨S, nd, l1, l2⟩ := ent_scope h1
    have hF : (tab.map Ent.F)[k]? = some e.F := by rw [List.getElem?_map, he]; rfl
    refine F.ok S (fun vs H Q E ⟨G, μ, st, ds, _, r, l, _⟩ => by rw [r.len, l, l1]) fun cdv A outer s H vs Q E hr hsp => ?_
    obtain ⟨G, μ, st, ds, hrr, rl, ld, p⟩ := hsp
    rw [callD, hF] at p
    simp only [ld, if_true] at p
    refine ⟨tSt T (fun cls d _ H' => E cls d H') (evSs ⟨callD (tab.map Ent.F) anc n, anc⟩ e.F.body), ?_, ?_⟩
    · refine kSs_ok (L := L) (S := e.sc) e.F.body ⟨⟨blt, ?_, cst, gcd⟩, rfl, S.nd, rfl, S.kind, fun x _ => rfl, hK, fun _ => rfl, ?_⟩ ⟨fun σ => ?_, fun _ => ?_⟩ h2
      · intro k' i hi
        rw [hL, List.getElem?_map] at hi
        cases he' : tab[k']? with
        | none => rw [he'] at hi; cases hi
        | some e' =>
          rw [he'] at hi
          cases hi
          obtain ⟨f', fd', hm', F'⟩ := hfn e' (List.mem_of_getElem? he')
          exact ⟨f', fd', e'.ps, n, hm', F'.kp, (ent_binds (List.all_eq_true.mp ha e' (List.mem_of_getElem? he')) F').1, hr, ih k' e' he' f' fd' hm' F'⟩
      · have := hr.un
        show (A.deeper (envOfC e.nm (defScope e.st) s.heap.objs.size f cdv)).units + 100 < cLine
        omega
      · exact passAt (W := fun cls d _ H' => E cls d H') (takes_of rfl rfl rfl rfl) σ
      · exact passes_of rfl
    · refine ⟨G, μ, _, st, hrr, er_start rl l2, ?_⟩
      rw [ld]
      exact ps_end hrr p
/-- what the law's def promises -/
def spLaw (K : PySem.W.Frag) (m : Nat) : Sp := fun vs H Q _ => ∃ (a : Addr) (ns : List Int), vs = [.ref a] ∧ ns.length ≤ m ∧ SqL K H a (ns.map V.int) ∧ ∀ H', Q (.bl true) H'
theorem law_sp {m n k : Nat} {fds : List Fd} (hK : T.K = K) (h : ∀ ns : List Int, ns.length ≤ m → ∃ st', callD fds anc n k [.ro (ns.map .int)] [] = .ok (.bl true) st') (vs : List V) (H : Hp) (Q : VK) (E : XK) (q : spLaw K m vs H Q E) :
    spD T 1 (callD fds anc n k) vs H Q (fun _ _ _ => False) := by
  obtain ⟨a, ns, rfl, hm, hS, hQ⟩ := q
  obtain ⟨st', e⟩ := h ns hm
  refine ⟨H, [], [], [.ro (ns.map .int)], ⟨fun _ _ z => z, rfl, fun i b z => by simp at z, fun i j b z => by simp at z⟩, .cons (.ro (hK ▸ hS) (RpL.ofInts ns)) .nil, rfl, ?_⟩
  rw [e]
  intro G' μ' H' v e' hr' rv
  cases rv
  exact hQ H'
theorem cx0_of {m n : Nat} {f : Addr} {fd : FuncData} {ps : List Str} {sp sp' : Sp} (F : FnOk P w K mg base (L2.CX P w) n f fd ps sp') (h : ∀ vs H Q E, sp vs H Q E → sp' vs H Q (fun _ _ _ => False)) : FnOk P w K mg base CX0 n f fd ps sp := by
  refine ⟨fun vs H Q E q => F.len vs H Q _ (h _ _ _ _ q), fun A outer s H args us vs Q E hr e0 hb r q => codeAny_mono (F.run A outer s H args us vs Q _ hr e0 hb r (h _ _ _ _ q)) fun res s' c => ?_⟩
  cases res with
  | ok fl =>
    cases fl with
    | ret u => exact c
    | _ => exact c.elim
  | error e =>
    obtain ⟨_, _, _, _, _, _, _, _, _, _, _, _, z⟩ := c
    exact z.elim
end
end DI
set_option Elab.async false
set_option linter.all false
set_option maxRecDepth 100000
set_option maxHeartbeats 4000000
set_option autoImplicit false
namespace DI
open PySem PySem.Spec PyProof.Rows L2
/-! ### the head's Hook: facts as one test of the written part -/
def obsB (fb : PySem.W.Frag → Bool) (fn : List He.DefD) (K : PySem.W.Frag) : He.AlD := (fb K && fn.all fun d => d.ok K, fn.map fun d => He.fnW K d.at_)
def obsBG (n : Nat) (fb : PySem.W.Frag → Bool) (fn : List He.DefD) (g : Addr → Option Obj) : He.AlD := obsB fb fn (He.frG g (He.asD g n))
def hookB (n : Nat) (fb : PySem.W.Frag → Bool) (fn : List He.DefD) : PySem.W.Hook where
  α := He.AlD
  obs := fun s => obsBG n fb fn s.heap.get?
  val := fun _ => He.valD fn
  says := fun _ h => ∃ K : PySem.W.Frag, K.In h ∧ obsB fb fn K = He.valD fn
  of := fun _ _ e => ⟨_, He.frG_in, e⟩
  keeps := fun _ _ _ ⟨K, hK, c⟩ k => ⟨K, PySem.W.Frag.In.keeps hK k, c⟩
theorem obsBG_eq {n : Nat} {fb : PySem.W.Frag → Bool} {fn : List He.DefD} {g : Addr → Option Obj} {s : Shared} (h : ∀ a, g a = s.heap.get? a) : obsBG n fb fn g = (hookB n fb fn).obs s := by
  have e : g = s.heap.get? := funext h
  rw [e] <;> rfl
def Ent.defD (e : Ent) : He.DefD := ⟨(e.nm, none), e.nm, e.nm, defArgs e.st, defBody e.st, defScope e.st, [], []⟩
/-- names that stand, names that don't -/
def factB (tab : List Ent) (L : Lw) (K : PySem.W.Frag) : Bool := (tab.all fun e => (He.Fa.glo e.nm).ok K) && (L.blt.all fun x => (He.Fa.free x).ok K) && (!L.gcd || He.eqO (PySem.W.nsIn K mainGlobals "gcd") (some (some (.builtin "math.gcd"))))
section
variable {K : PySem.W.Frag} {h : Heap} {mg : Str → Option Value} {tab : List Ent} {L : Lw} {fb : PySem.W.Frag → Bool}
theorem says_B (c : obsB fb (tab.map Ent.defD) K = He.valD (tab.map Ent.defD)) : fb K = true ∧ ∀ e ∈ tab, ∃ fd, FunD K e.nm e.nm (defArgs e.st) (defBody e.st) (defScope e.st) [] [] (He.fAd K (e.nm, none)) fd := by
  have c1 : (fb K && (tab.map Ent.defD).all fun d => d.ok K) = true := congrArg (fun z : He.AlD => z.1) c
  have c2 : (tab.map Ent.defD).map (fun d => He.fnW K d.at_) = (tab.map Ent.defD).map He.DefD.val := congrArg (fun z : He.AlD => z.2) c
  rw [Bool.and_eq_true] at c1
  refine ⟨c1.1, fun e he => ?_⟩
  have hd : e.defD ∈ tab.map Ent.defD := List.mem_map.mpr ⟨e, he, rfl⟩
  have k1 := List.all_eq_true.mp c1.2 _ hd
  obtain ⟨i, hi⟩ := List.mem_iff_getElem?.mp hd
  have k2 := congrArg (fun l => l[i]?) c2
  simp only [List.getElem?_map] at k2
  have hi2 : (Option.map Ent.defD tab[i]?) = some e.defD := by rw [← List.getElem?_map]; exact hi
  rw [hi2] at k2
  exact He.DefD.funD (Option.some.inj k2) k1
theorem facts_B (X : K.In h) (G : h.Ns mainGlobals mg) (c : obsB fb (tab.map Ent.defD) K = He.valD (tab.map Ent.defD)) (hf : fb K = true → factB tab L K = true) :
    Fns K mg tab ∧ (∀ x ∈ L.blt, mg x = none) ∧ (L.gcd = true → mg "gcd" = some (.builtin "math.gcd")) := by
  obtain ⟨c1, c2⟩ := says_B c
  have f := hf c1
  simp only [factB, Bool.and_eq_true] at f
  obtain ⟨⟨f1, f2⟩, f3⟩ := f
  refine ⟨fun e he => ?_, fun x hx => He.free_ok X G (List.all_eq_true.mp f2 x hx), fun hg => ?_⟩
  · obtain ⟨fd, F⟩ := c2 e he
    exact ⟨_, fd, He.glo_ok X G (List.all_eq_true.mp f1 e he), F⟩
  · rw [hg] at f3
    exact PySem.W.mg_of X G (He.eqO_ok (by simpa using f3))
end
end DI
set_option Elab.async false
set_option linter.all false
set_option maxRecDepth 100000
set_option maxHeartbeats 4000000
set_option autoImplicit false
namespace DI
/-! ### running the reading -/
theorem obeq_refl (o : Ob) : Ob.beq o o = true := by
  cases o with
  | lst xs => simp [Ob.beq, D.beqL_refl]
  | dct kvs => simp [Ob.beq, kvEq_refl]
theorem keeps_refl (n : Nat) : ∀ st : Sto, keeps n st st = true
  | [] => rfl
  | o :: st => by simp [keeps, obeq_refl, keeps_refl n st]
theorem keeps_app (n : Nat) : ∀ st ex : Sto, keeps n st (st ++ ex) = true
  | [], _ => rfl
  | o :: st, ex => by simp [keeps, obeq_refl, keeps_app n st ex]
theorem fin_same {d d' : D} {st : Sto} (h : frzX st st.length 5 d = some d') : finD false st d st = .ok d' st := by
  unfold finD
  simp only [Bool.false_eq_true, if_false, h, keeps_refl, if_true, List.take_length]
theorem fin_app {d d' : D} {st ex : Sto} (h : frzX (st ++ ex) st.length 5 d = some d') : finD false st d (st ++ ex) = .ok d' st := by
  unfold finD
  simp only [Bool.false_eq_true, if_false, h, keeps_app, if_true, List.take_left]
/-- a store of which the first entries changed, by things that hold no new ones -/
theorem fin_to {d d' : D} {st st' : Sto} (h : frzX st' st.length 5 d = some d') (hk : keeps st.length st st' = true) : finD false st d st' = .ok d' (st'.take st.length) := by
  unfold finD
  simp only [Bool.false_eq_true, if_false, h, hk, if_true]
theorem call_at {fds : List Fd} {anc : Nat → Nat → Bool} {n k : Nat} {vs : List D} {st : Sto} {F : Fd} (h : fds[k]? = some F) (hl : vs.length = F.np) :
    callD fds anc (n + 1) k vs st = endD F.keep st (evSs ⟨callD fds anc n, anc⟩ F.body (vs.map some ++ List.replicate (F.nn - vs.length) none) st) := by
  rw [callD, h]
  simp only [hl, if_true]
theorem run_ret {fds : List Fd} {anc : Nat → Nat → Bool} {n k : Nat} {vs : List D} {st : Sto} {F : Fd} {ρ0 ρ1 : Env} {d : D} (h : fds[k]? = some F) (hl : vs.length = F.np) (hk : F.keep = false) (h0 : vs.map some ++ List.replicate (F.nn - vs.length) none = ρ0)
    (hb : evSs ⟨callD fds anc n, anc⟩ F.body ρ0 st = .ok (.rt d) ρ1 st) (hf : frzX st st.length 5 d = some d) : callD fds anc (n + 1) k vs st = .ok d st := by
  rw [call_at h hl, h0, hb, hk]
  exact fin_same hf
theorem run_retA {fds : List Fd} {anc : Nat → Nat → Bool} {n k : Nat} {vs : List D} {st ex : Sto} {F : Fd} {ρ0 ρ1 : Env} {d d' : D} (h : fds[k]? = some F) (hl : vs.length = F.np) (hk : F.keep = false) (h0 : vs.map some ++ List.replicate (F.nn - vs.length) none = ρ0)
    (hb : evSs ⟨callD fds anc n, anc⟩ F.body ρ0 st = .ok (.rt d) ρ1 (st ++ ex)) (hf : frzX (st ++ ex) st.length 5 d = some d') : callD fds anc (n + 1) k vs st = .ok d' st := by
  rw [call_at h hl, h0, hb, hk]
  exact fin_app hf
theorem run_retS {fds : List Fd} {anc : Nat → Nat → Bool} {n k : Nat} {vs : List D} {st st' : Sto} {F : Fd} {ρ0 ρ1 : Env} {d d' : D} (h : fds[k]? = some F) (hl : vs.length = F.np) (hk : F.keep = false) (h0 : vs.map some ++ List.replicate (F.nn - vs.length) none = ρ0)
    (hb : evSs ⟨callD fds anc n, anc⟩ F.body ρ0 st = .ok (.rt d) ρ1 st') (hf : frzX st' st.length 5 d = some d') (hkp : keeps st.length st st' = true) (hlen : st'.length = st.length) : callD fds anc (n + 1) k vs st = .ok d' st' := by
  rw [call_at h hl, h0, hb, hk]
  show finD false st d st' = _
  rw [fin_to hf hkp, ← hlen, List.take_length]
theorem ev_cons {C : Cal} {c : Cm} {cs : List Cm} {ρ ρ1 : Env} {st st1 : Sto} (h : evS C c ρ st = .ok .nx ρ1 st1) : evSs C (c :: cs) ρ st = evSs C cs ρ1 st1 := by
  rw [evSs, h]
  rfl
theorem ev_whl {C : Cal} {c : Ex} {b cs : List Cm} {ρ ρ1 : Env} {st st1 : Sto} (h : whileF (fun ρ st => evT C c ρ st) (fun ρ st => evSs C b ρ st) FUEL ρ st = .ok .nx ρ1 st1) : evSs C (.whl c b :: cs) ρ st = evSs C cs ρ1 st1 := ev_cons h
theorem ev_rt {C : Cal} {c : Cm} {cs : List Cm} {ρ ρ1 : Env} {st st1 : Sto} {d : D} (h : evS C c ρ st = .ok (.rt d) ρ1 st1) : evSs C (c :: cs) ρ st = .ok (.rt d) ρ1 st1 := by
  rw [evSs, h]
  rfl
/-- a while, by a measure -/
theorem while_rule {t : Env → Sto → R Bool} {b : Env → Sto → RS} (I : Nat → Env → Sto → Prop) (Q : Env → Sto → Prop)
    (step : ∀ m ρ st, I m ρ st → (∃ st', t ρ st = .ok false st' ∧ Q ρ st') ∨ ∃ st1 ρ' st' m', t ρ st = .ok true st1 ∧ (b ρ st1 = .ok .nx ρ' st' ∨ b ρ st1 = .ok .ct ρ' st') ∧ m' < m ∧ I m' ρ' st') :
    ∀ (f m : Nat) (ρ : Env) (st : Sto), m < f → I m ρ st → ∃ ρ' st', whileF t b f ρ st = .ok .nx ρ' st' ∧ Q ρ' st' := by
  intro f
  induction f with
  | zero => intro m ρ st h; omega
  | succ f ih =>
    intro m ρ st h i
    rcases step m ρ st i with ⟨st', h1, h2⟩ | ⟨st1, ρ', st', m', h1, h2, h3, h4⟩
    · exact ⟨ρ, st', by rw [whileF, h1], h2⟩
    · obtain ⟨r2, s2, h5, h6⟩ := ih m' ρ' st' (by omega) h4
      refine ⟨r2, s2, ?_, h6⟩
      rw [whileF, h1]
      rcases h2 with h2 | h2 <;> simp only [h2] <;> exact h5
/-- a for over things told ahead, that runs to its end -/
theorem for_rule {b : D → Env → Sto → RS} (I : Nat → Env → Sto → Prop) : ∀ (xs : List D) (i : Nat) (ρ : Env) (st : Sto), I i ρ st →
    (∀ j x ρ st, xs[j]? = some x → I (i + j) ρ st → ∃ ρ' st', (b x ρ st = .ok .nx ρ' st' ∨ b x ρ st = .ok .ct ρ' st') ∧ I (i + j + 1) ρ' st') → ∃ ρ' st', forS b xs ρ st = .ok .nx ρ' st' ∧ I (i + xs.length) ρ' st' := by
  intro xs
  induction xs with
  | nil => intro i ρ st h _; exact ⟨ρ, st, rfl, h⟩
  | cons x xs ih =>
    intro i ρ st h k
    obtain ⟨ρ', st', h1, h2⟩ := k 0 x ρ st rfl h
    obtain ⟨r2, s2, h3, h4⟩ := ih (i + 1) ρ' st' h2 fun j y ρ st hy hi => by
      have := k (j + 1) y ρ st (by simpa using hy) (by rw [show i + (j + 1) = i + 1 + j by omega]; exact hi)
      rw [show i + (j + 1) + 1 = i + 1 + j + 1 by omega] at this
      exact this
    refine ⟨r2, s2, ?_, by rw [List.length_cons, show i + (xs.length + 1) = i + 1 + xs.length by omega]; exact h4⟩
    rw [forS]
    rcases h1 with h1 | h1 <;> simp only [h1] <;> exact h3
/-! ### sizes of numbers -/
def Sz (k : Nat) (x : Int) : Prop := x.natAbs < 2 ^ k
theorem Sz.mono {j k : Nat} {x : Int} (h : Sz j x) (l : j ≤ k) : Sz k x := Nat.lt_of_lt_of_le h (Nat.pow_le_pow_right (by decide) l)
theorem Sz.mul {j k : Nat} {x y : Int} (h : Sz j x) (l : Sz k y) : Sz (j + k) (x * y) := by
  unfold Sz at *
  rw [Int.natAbs_mul, Nat.pow_add]
  exact Nat.mul_lt_mul'' h l
theorem Sz.add {k : Nat} {x y : Int} (h : Sz k x) (l : Sz k y) : Sz (k + 1) (x + y) := by
  unfold Sz at *
  rw [Nat.pow_succ]
  omega
theorem Sz.sub {k : Nat} {x y : Int} (h : Sz k x) (l : Sz k y) : Sz (k + 1) (x - y) := by
  unfold Sz at *
  rw [Nat.pow_succ]
  omega
theorem Sz.neg {k : Nat} {x : Int} (h : Sz k x) : Sz k (-x) := by
  unfold Sz at *
  omega
theorem Sz.ok {j k : Nat} {x y : Int} (h : Sz j x) (l : Sz k y) (hj : j ≤ 400000) (hk : k ≤ 400000) : mulOk x y = true := by
  have key : ∀ {i : Nat} {z : Int}, Sz i z → i ≤ 400000 → z.natAbs.log2 < 400001 := fun {i z} h hi => by
    by_cases h0 : z.natAbs = 0
    · rw [h0]; decide
    · have := (Nat.log2_lt h0).mpr (show z.natAbs < 2 ^ i from h)
      omega
  unfold mulOk
  have a := key h hj
  have b := key l hk
  simp only [decide_eq_true_eq]
  omega
theorem Sz.of {k : Nat} {x : Int} (h1 : -(2 ^ k : Nat) < x) (h2 : x < (2 ^ k : Nat)) : Sz k x := by
  unfold Sz
  omega
theorem Sz.div {k : Nat} {x y : Int} (h : Sz k x) (hy : 0 < y) : Sz (k + 1) (x / y) := by
  unfold Sz at *
  rw [Nat.pow_succ]
  have h1 : (x / y).natAbs ≤ x.natAbs + 1 := by
    have a1 := Int.mul_ediv_add_emod x y
    have a2 := Int.emod_nonneg x (by omega : y ≠ 0)
    have a3 := Int.emod_lt_of_pos x hy
    by_cases hx : 0 ≤ x
    · have b1 := Int.ediv_nonneg hx (by omega : 0 ≤ y)
      have b2 : x / y ≤ x := Int.ediv_le_self y hx
      omega
    · have b1 : x / y < 0 := Int.ediv_neg_of_neg_of_pos (by omega) hy
      have b2 : x ≤ x / y := by
        have : y * (x / y) ≤ 1 * (x / y) := Int.mul_le_mul_of_nonpos_right (by omega) (by omega)
        have h3 : y * (x / y) = x - x % y := by omega
        have h4 : x / y ≥ x / y * 1 := by omega
        -- y * q ≤ q, and x = y * q + r
        have h5 : x / y * y ≤ x := by rw [Int.mul_comm]; omega
        have h6 : -(x / y) * 1 ≤ -(x / y) * y := Int.mul_le_mul_of_nonneg_left (by omega) (by omega)
        have h7 : x % y < y := a3
        -- - q ≤ - q * y = r - x
        have h8 : -(x / y) * y = x % y - x := by
          have : -(x / y) * y = -(y * (x / y)) := by rw [Int.neg_mul, Int.mul_comm]
          omega
        have h9 : (-(x / y) - 1) * 1 ≤ (-(x / y) - 1) * y := Int.mul_le_mul_of_nonneg_left (by omega) (by omega)
        have h10 : (-(x / y) - 1) * y = x % y - x - y := by rw [Int.sub_mul, h8]; omega
        omega
      omega
  have h2 : 0 < 2 ^ k := Nat.pos_of_ne_zero (by simp)
  omega
end DI
namespace DI
theorem compS_map {f : D → Sto → R (Option D)} {h : D → D} {st : Sto} : ∀ (xs acc : List D), (∀ x ∈ xs, f x st = .ok (some (h x)) st) → compS f xs acc st = .ok (acc ++ xs.map h) st := by
  intro xs
  induction xs with
  | nil => intro acc _; simp [compS]
  | cons x xs ih =>
    intro acc k
    rw [compS, k x (List.mem_cons_self ..)]
    simp only [R.bind]
    rw [ih _ fun y hy => k y (List.mem_cons_of_mem _ hy)]
    simp
end DI
namespace DI
abbrev turn (C : Cal) (t : Tg) (b : List Cm) : D → Env → Sto → RS := fun x ρ st => match setT t x ρ with
    | some ρ' => evSs C b ρ' st
    | none => .bad
theorem ev_for {C : Cal} {t : Tg} {it : Ir} {b cs : List Cm} {ρ ρ2 : Env} {st st1 st2 : Sto} {xs : List D} (h1 : evIt C it ρ st = .ok (.st xs) st1) (h2 : forS (turn C t b) xs ρ st1 = .ok .nx ρ2 st2) : evSs C (.for_ t it b :: cs) ρ st = evSs C cs ρ2 st2 := by
  refine ev_cons ?_
  rw [evS, h1]
  exact h2
theorem ev_for_rt {C : Cal} {t : Tg} {it : Ir} {b cs : List Cm} {ρ ρ2 : Env} {st st1 st2 : Sto} {xs : List D} {d : D} (h1 : evIt C it ρ st = .ok (.st xs) st1) (h2 : forS (turn C t b) xs ρ st1 = .ok (.rt d) ρ2 st2) : evSs C (.for_ t it b :: cs) ρ st = .ok (.rt d) ρ2 st2 := by
  refine ev_rt ?_
  rw [evS, h1]
  exact h2
end DI
namespace DI
theorem ev_lc {C : Cal} {mu : Bool} {t : Tg} {it : Ir} {cs : List Ex} {x : Ex} {own : List Nat} {ρ : Env} {st st1 st2 : Sto} {xs ds : List D} (h1 : evIt C it ρ st = .ok (.st xs) st1) (h2 : compS (cTurn t own (evCs C cs) (evE C x) ρ) xs [] st1 = .ok ds st2) : evE C (.lc mu t it cs x own) ρ st = newL mu ds st2 := by
  rw [evE.eq_20, h1]
  show ((compS (cTurn t own (evCs C cs) (evE C x) ρ) xs [] st1).noE.bind fun ds st => newL mu ds st) = _
  rw [h2]
  rfl
theorem newL_ok {ds : List D} {st : Sto} (h : ds.length ≤ 10000000) : newL false ds st = .ok (.lst ds) st := by
  unfold newL
  rw [if_pos (show ds.length ≤ SZ from h)]
  rfl
end DI
namespace DI
theorem for_rule0 {b : D → Env → Sto → RS} (I : Nat → Env → Sto → Prop) {xs : List D} {n : Nat} (hn : xs.length = n) {ρ : Env} {st : Sto} (h0 : I 0 ρ st)
    (k : ∀ j x ρ st, xs[j]? = some x → I j ρ st → ∃ ρ' st', (b x ρ st = .ok .nx ρ' st' ∨ b x ρ st = .ok .ct ρ' st') ∧ I (j + 1) ρ' st') : ∃ ρ' st', forS b xs ρ st = .ok .nx ρ' st' ∧ I n ρ' st' := by
  obtain ⟨ρ', st', h1, h2⟩ := for_rule I xs 0 ρ st h0 fun j x ρ st hx hi => by
    obtain ⟨ρ', st', a, b⟩ := k j x ρ st hx (by rw [Nat.zero_add] at hi; exact hi)
    exact ⟨ρ', st', a, by rw [Nat.zero_add]; exact b⟩
  rw [Nat.zero_add, hn] at h2
  exact ⟨ρ', st', h1, h2⟩
end DI
namespace DI
theorem ev_ret {C : Cal} {x : Ex} {cs : List Cm} {ρ : Env} {st st1 : Sto} {d : D} (h : evE C x ρ st = .ok d st1) : evSs C (.ret x :: cs) ρ st = .ok (.rt d) ρ st1 := by
  refine ev_rt ?_
  rw [evS, h]
  rfl
theorem ev_if_rt {C : Cal} {c : Ex} {a b cs : List Cm} {ρ ρ1 : Env} {st st1 st2 : Sto} {d : D} (hc : evT C c ρ st = .ok true st1) (h : evSs C a ρ st1 = .ok (.rt d) ρ1 st2) : evSs C (.ife c a b :: cs) ρ st = .ok (.rt d) ρ1 st2 := by
  refine ev_rt ?_
  rw [evS, hc]
  exact h
theorem ev_if_f {C : Cal} {c : Ex} {a cs : List Cm} {ρ : Env} {st st1 : Sto} (hc : evT C c ρ st = .ok false st1) : evSs C (.ife c a [] :: cs) ρ st = evSs C cs ρ st1 := by
  refine ev_cons ?_
  rw [evS, hc]
  rfl
end DI
set_option Elab.async false
set_option linter.all false
set_option maxRecDepth 100000
set_option maxHeartbeats 0
set_option autoImplicit false
namespace K34
open PySem PySem.Spec PyProof.Rows L2 DI
def top (i : Nat) : Stmt := PySem.Challenge.pw_turnpens_k34_rests.main.body.getD i (.Pass ⟨0, 0, 0, 0⟩)
/-- vector_difference -/
def b0 : List Cm := [
    .ret (.tup [.bin .sub (.idx (.var 0) (.cst (.int 0))) (.idx (.var 1) (.cst (.int 0))), .bin .sub (.idx (.var 0) (.cst (.int 1))) (.idx (.var 1) (.cst (.int 1)))])]

def F0 : Fd := ⟨2, 2, false, b0⟩

def e0 : Ent := ⟨top 5, "vector_difference", ["one", "other"], F0⟩

/-- product -/
def b1 : List Cm := [
    .ret (.tup [.bin .sub (.bin .mul (.idx (.var 0) (.cst (.int 0))) (.idx (.var 1) (.cst (.int 0)))) (.bin .mul (.idx (.var 0) (.cst (.int 1))) (.idx (.var 1) (.cst (.int 1)))), .bin .add (.bin .mul (.idx (.var 0) (.cst (.int 0))) (.idx (.var 1) (.cst (.int 1)))) (.bin .mul (.idx (.var 0) (.cst (.int 1))) (.idx (.var 1) (.cst (.int 0))))])]

def F1 : Fd := ⟨2, 2, false, b1⟩

def e1 : Ent := ⟨top 6, "product", ["one", "other"], F1⟩

/-- partner -/
def b2 : List Cm := [
    .ret (.tup [.idx (.var 0) (.cst (.int 0)), .neg (.idx (.var 0) (.cst (.int 1)))])]

def F2 : Fd := ⟨1, 1, false, b2⟩

def e2 : Ent := ⟨top 7, "partner", ["v"], F2⟩

/-- norm -/
def b3 : List Cm := [
    .ret (.bin .add (.bin .mul (.idx (.var 0) (.cst (.int 0))) (.idx (.var 0) (.cst (.int 0)))) (.bin .mul (.idx (.var 0) (.cst (.int 1))) (.idx (.var 0) (.cst (.int 1)))))]

def F3 : Fd := ⟨1, 1, false, b3⟩

def e3 : Ent := ⟨top 8, "norm", ["v"], F3⟩

/-- nearest_quotient -/
def b4 : List Cm := [
    .ret (.bin .fdiv (.bin .add (.bin .mul (.cst (.int 2)) (.var 0)) (.var 1)) (.bin .mul (.cst (.int 2)) (.var 1)))]

def F4 : Fd := ⟨2, 2, false, b4⟩

def e4 : Ent := ⟨top 10, "nearest_quotient", ["number", "by"], F4⟩

/-- divided -/
def b5 : List Cm := [
    .asg (.nm 2) (.call 3 [.var 1] [0]),
    .ife (.cmp .eq (.var 2) (.cst (.int 0))) [.bad] [],
    .asg (.tp [.nm 3, .nm 4]) (.call 1 [.var 0, .call 2 [.var 1] [0]] [0, 1]),
    .asg (.nm 5) (.tup [.call 4 [.var 3, .var 2] [0, 1], .call 4 [.var 4, .var 2] [0, 1]]),
    .ret (.tup [.var 5, .call 0 [.var 0, .call 1 [.var 5, .var 1] [0, 1]] [0, 1]])]

def F5 : Fd := ⟨2, 6, false, b5⟩

def e5 : Ent := ⟨top 11, "divided", ["one", "other", "size", "x", "y", "quotient"], F5⟩

/-- divides -/
def b6 : List Cm := [
    .ife (.cmp .eq (.call 3 [.var 0] [0]) (.cst (.int 0))) [.ret (.cmp .eq (.call 3 [.var 1] [0]) (.cst (.int 0)))] [],
    .ret (.cmp .eq (.idx (.call 5 [.var 1, .var 0] [0, 1]) (.cst (.int 1))) (.tup [.cst (.int 0), .cst (.int 0)]))]

def F6 : Fd := ⟨2, 2, false, b6⟩

def e6 : Ent := ⟨top 12, "divides", ["one", "other"], F6⟩

/-- common_divisor -/
def b7 : List Cm := [
    .ret (.bi .gcd [.var 0, .var 1])]

def F7 : Fd := ⟨2, 2, false, b7⟩

def e7 : Ent := ⟨top 14, "common_divisor", ["one", "other"], F7⟩

/-- led_divisor -/
def b8 : List Cm := [
    .asg (.tp [.nm 2, .nm 3]) (.tup [.tup [.cst (.int 1), .cst (.int 0)], .tup [.cst (.int 0), .cst (.int 1)]]),
    .whl (.var 1) [.asg (.nm 4) (.bin .fdiv (.var 0) (.var 1)), .par 0 1 (.var 1) (.bin .sub (.var 0) (.bin .mul (.var 4) (.var 1))), .par 2 3 (.var 3) (.tup [.bin .sub (.idx (.var 2) (.cst (.int 0))) (.bin .mul (.var 4) (.idx (.var 3) (.cst (.int 0)))), .bin .sub (.idx (.var 2) (.cst (.int 1))) (.bin .mul (.var 4) (.idx (.var 3) (.cst (.int 1))))])],
    .ret (.ife (.cmp .ge (.var 0) (.cst (.int 0))) (.var 2) (.tup [.neg (.idx (.var 2) (.cst (.int 0))), .neg (.idx (.var 2) (.cst (.int 1)))]))]

def F8 : Fd := ⟨2, 5, false, b8⟩

def e8 : Ent := ⟨top 16, "led_divisor", ["one", "other", "ahead", "here", "times"], F8⟩

/-- rest_sizes -/
def b9 : List Cm := [
    .asg (.tp [.nm 1, .nm 2]) (.var 0),
    .asg (.nm 3) (.call 7 [.var 1, .var 2] [0, 1]),
    .asg (.tp [.nm 4, .nm 5]) (.call 8 [.var 2, .var 1] [0, 1]),
    .ret (.tup [.bin .fdiv (.call 3 [.var 0] [0]) (.var 3), .var 3, .bin .sub (.bin .mul (.var 4) (.var 1)) (.bin .mul (.var 5) (.var 2))])]

def F9 : Fd := ⟨1, 6, false, b9⟩

def e9 : Ent := ⟨top 17, "rest_sizes", ["by", "a", "b", "high", "p", "q"], F9⟩

/-- rest_of -/
def b10 : List Cm := [
    .asg (.tp [.nm 2, .nm 3, .nm 4]) (.call 9 [.var 1] [0]),
    .asg (.nm 5) (.bin .fdiv (.idx (.var 0) (.cst (.int 1))) (.var 3)),
    .ret (.tup [.bin .mod (.bin .sub (.idx (.var 0) (.cst (.int 0))) (.bin .mul (.var 5) (.var 4))) (.var 2), .bin .sub (.idx (.var 0) (.cst (.int 1))) (.bin .mul (.var 5) (.var 3))])]

def F10 : Fd := ⟨2, 6, false, b10⟩

def e10 : Ent := ⟨top 18, "rest_of", ["v", "by", "wide", "high", "along", "times"], F10⟩

/-- all_rests -/
def b11 : List Cm := [
    .asg (.tp [.nm 1, .nm 2, .nm 3]) (.call 9 [.var 0] [0]),
    .asg (.nm 4) (.lst true []),
    .for_ (.nm 5) (.rng1 (.var 1)) [.expr (.mth .extend (.var 4) [.lc false (.nm 6) (.rng1 (.var 2)) [] (.tup [.var 5, .var 6]) [6]])],
    .ret (.bi .tuple [.var 4])]

def F11 : Fd := ⟨1, 7, false, b11⟩

def e11 : Ent := ⟨top 19, "all_rests", ["by", "wide", "high", "_", "told", "x", "y"], F11⟩

/-- have_same_rest -/
def b12 : List Cm := [
    .ret (.call 6 [.var 2, .call 0 [.var 0, .var 1] [0, 1]] [0, 1])]

def F12 : Fd := ⟨3, 3, false, b12⟩

def e12 : Ent := ⟨top 20, "have_same_rest", ["one", "other", "by"], F12⟩

/-- _law_reel -/
def b13 : List Cm := [
    .asg (.nm 1) (.bin .add (.cst (.int 7219)) (.bi .len [.var 0])),
    .for_ (.nm 2) (.seq (.var 0)) [.asg (.nm 1) (.bin .mod (.bi .int [.bin .add (.bin .add (.bin .mul (.var 1) (.cst (.int 541))) (.bin .mod (.bi .int [.var 2]) (.cst (.int 999983)))) (.cst (.int 17))]) (.cst (.int 2305843009213693951)))],
    .ret (.lst true [.var 1, .cst (.int 0)])]

def F13 : Fd := ⟨1, 3, true, b13⟩

def e13 : Ent := ⟨top 22, "_law_reel", ["script", "mark", "cell"], F13⟩

/-- _law_pick -/
def b14 : List Cm := [
    .setIx (.var 0) (.cst (.int 1)) (.bin .add (.idx (.var 0) (.cst (.int 1))) (.cst (.int 1))),
    .asg (.nm 2) (.bin .mod (.bi .int [.bin .add (.bin .add (.bin .mul (.bi .int [.idx (.var 0) (.cst (.int 0))]) (.cst (.int 22801763))) (.bin .mul (.bi .int [.idx (.var 0) (.cst (.int 1))]) (.cst (.int 49979687)))) (.cst (.int 97))]) (.cst (.int 2305843009213693951))),
    .setIx (.var 0) (.cst (.int 0)) (.var 2),
    .asg (.nm 3) (.bin .fdiv (.var 2) (.cst (.int 1048576))),
    .ife (.cmp .eq (.bin .mod (.var 3) (.cst (.int 19))) (.cst (.int 4))) [.ret (.cst (.int 0))] [],
    .ife (.cmp .eq (.bin .mod (.var 3) (.cst (.int 19))) (.cst (.int 11))) [.ret (.bin .sub (.var 1) (.cst (.int 1)))] [],
    .ret (.bin .mod (.bin .fdiv (.var 3) (.cst (.int 19))) (.var 1))]

def F14 : Fd := ⟨2, 4, false, b14⟩

def e14 : Ent := ⟨top 23, "_law_pick", ["reel", "many", "mark", "high"], F14⟩

/-- _law_whole -/
def b15 : List Cm := [
    .ret (.and (.isi (.var 0) [.int]) (.not (.isi (.var 0) [.bool])))]

def F15 : Fd := ⟨1, 1, false, b15⟩

def e15 : Ent := ⟨top 24, "_law_whole", ["told"], F15⟩

/-- _law_alike -/
def b16 : List Cm := [
    .ife (.or (.is_ .isN (.var 0)) (.is_ .isN (.var 1))) [.ret (.and (.is_ .isN (.var 0)) (.is_ .isN (.var 1)))] [],
    .ife (.or (.isi (.var 0) [.bool]) (.isi (.var 1) [.bool])) [.ret (.and (.isi (.var 0) [.bool]) (.and (.isi (.var 1) [.bool]) (.cmp .eq (.var 0) (.var 1))))] [],
    .ife (.or (.isi (.var 0) [.int]) (.isi (.var 1) [.int])) [.ret (.and (.isi (.var 0) [.int]) (.and (.isi (.var 1) [.int]) (.cmp .eq (.var 0) (.var 1))))] [],
    .ife (.or (.isi (.var 0) [.str]) (.isi (.var 1) [.str])) [.ret (.and (.isi (.var 0) [.str]) (.and (.isi (.var 1) [.str]) (.cmp .eq (.var 0) (.var 1))))] [],
    .for_ (.nm 2) (.seq (.lst false [.cst (.int 0), .cst (.int 1)])) [.asg (.nm 3) (.lst false [.isi (.var 0) [.tuple], .isi (.var 1) [.tuple]]), .ife (.cmp .eq (.var 2) (.cst (.int 1))) [.asg (.nm 3) (.lst false [.isi (.var 0) [.list], .isi (.var 1) [.list]])] [], .ife (.and (.idx (.var 3) (.cst (.int 0))) (.idx (.var 3) (.cst (.int 1)))) [.ife (.cmp .ne (.bi .len [.var 0]) (.bi .len [.var 1])) [.ret (.cst (.bl false))] [], .for_ (.nm 4) (.rng1 (.bi .len [.var 0])) [.ife (.not (.call 16 [.idx (.var 0) (.var 4), .idx (.var 1) (.var 4)] [0, 1])) [.ret (.cst (.bl false))] []], .ret (.cst (.bl true))] []],
    .ret (.cst (.bl false))]

def F16 : Fd := ⟨2, 5, false, b16⟩

def e16 : Ent := ⟨top 25, "_law_alike", ["due", "told", "kind", "both", "at"], F16⟩

/-- _law_divisor -/
def b17 : List Cm := [
    .asg (.nm 2) (.bi .abs [.var 0]),
    .asg (.nm 3) (.bi .abs [.var 1]),
    .whl (.cmp .gt (.var 3) (.cst (.int 0))) [.asg (.nm 4) (.bin .mod (.bi .int [.var 2]) (.var 3)), .asg (.nm 2) (.var 3), .asg (.nm 3) (.var 4)],
    .ret (.var 2)]

def F17 : Fd := ⟨2, 5, false, b17⟩

def e17 : Ent := ⟨top 26, "_law_divisor", ["one", "other", "great", "small", "rest"], F17⟩

/-- _law_divides -/
def b18 : List Cm := [
    .asg (.nm 2) (.bin .add (.bin .mul (.idx (.var 0) (.cst (.int 0))) (.idx (.var 0) (.cst (.int 0)))) (.bin .mul (.idx (.var 0) (.cst (.int 1))) (.idx (.var 0) (.cst (.int 1))))),
    .ife (.cmp .ne (.bin .mod (.bi .int [.bin .add (.bin .mul (.idx (.var 1) (.cst (.int 0))) (.idx (.var 0) (.cst (.int 0)))) (.bin .mul (.idx (.var 1) (.cst (.int 1))) (.idx (.var 0) (.cst (.int 1))))]) (.var 2)) (.cst (.int 0))) [.ret (.cst (.bl false))] [],
    .ret (.cmp .eq (.bin .mod (.bi .int [.bin .sub (.bin .mul (.idx (.var 1) (.cst (.int 1))) (.idx (.var 0) (.cst (.int 0)))) (.bin .mul (.idx (.var 1) (.cst (.int 0))) (.idx (.var 0) (.cst (.int 1))))]) (.var 2)) (.cst (.int 0)))]

def F18 : Fd := ⟨2, 3, false, b18⟩

def e18 : Ent := ⟨top 27, "_law_divides", ["by", "v", "norm_v"], F18⟩

/-- _law_box -/
def b19 : List Cm := [
    .asg (.nm 1) (.bin .add (.bin .mul (.idx (.var 0) (.cst (.int 0))) (.idx (.var 0) (.cst (.int 0)))) (.bin .mul (.idx (.var 0) (.cst (.int 1))) (.idx (.var 0) (.cst (.int 1))))),
    .asg (.nm 2) (.call 17 [.idx (.var 0) (.cst (.int 0)), .idx (.var 0) (.cst (.int 1))] [0, 1]),
    .asg (.nm 3) (.lst true []),
    .for_ (.nm 4) (.rng1 (.bin .fdiv (.var 1) (.var 2))) [.for_ (.nm 5) (.rng1 (.var 2)) [.expr (.mth .append (.var 3) [.tup [.var 4, .var 5]])]],
    .ret (.var 3)]

def F19 : Fd := ⟨1, 6, false, b19⟩

def e19 : Ent := ⟨top 28, "_law_box", ["by", "norm_v", "high", "rests", "x", "y"], F19⟩

/-- _law_rest -/
def b20 : List Cm := [
    .for_ (.nm 3) (.seq (.var 1)) [.ife (.call 18 [.var 0, .tup [.bin .sub (.idx (.var 2) (.cst (.int 0))) (.idx (.var 3) (.cst (.int 0))), .bin .sub (.idx (.var 2) (.cst (.int 1))) (.idx (.var 3) (.cst (.int 1)))]] [0, 1]) [.ret (.var 3)] []],
    .ret (.cst (.non))]

def F20 : Fd := ⟨3, 4, false, b20⟩

def e20 : Ent := ⟨top 29, "_law_rest", ["by", "box", "v", "place"], F20⟩

/-- _law_number -/
def b21 : List Cm := [
    .ret (.bin .sub (.call 14 [.var 0, .bin .add (.bin .mul (.cst (.int 2)) (.var 1)) (.cst (.int 1))] [0, 1]) (.var 1))]

def F21 : Fd := ⟨2, 2, false, b21⟩

def e21 : Ent := ⟨top 30, "_law_number", ["reel", "size"], F21⟩

/-- _law_by -/
def b22 : List Cm := [
    .asg (.nm 1) (.call 14 [.var 0, .cst (.int 7)] [0, 1]),
    .ife (.cmp .eq (.var 1) (.cst (.int 0))) [.ret (.idx (.lst false [.tup [.cst (.int 1), .cst (.int 0)], .tup [.cst (.int 0), .cst (.int 1)], .tup [.bin .sub (.cst (.int 0)) (.cst (.int 1)), .cst (.int 0)], .tup [.cst (.int 0), .bin .sub (.cst (.int 0)) (.cst (.int 1))], .tup [.cst (.int 1), .cst (.int 1)], .tup [.cst (.int 1), .bin .sub (.cst (.int 0)) (.cst (.int 1))]]) (.call 14 [.var 0, .cst (.int 6)] [0, 1]))] [],
    .ife (.cmp .eq (.var 1) (.cst (.int 1))) [.ret (.idx (.lst false [.tup [.cst (.int 20), .cst (.int 0)], .tup [.cst (.int 12), .cst (.int 16)], .tup [.bin .sub (.cst (.int 0)) (.cst (.int 16)), .cst (.int 12)], .tup [.cst (.int 14), .cst (.int 14)], .tup [.cst (.int 0), .bin .sub (.cst (.int 0)) (.cst (.int 20))], .tup [.cst (.int 19), .cst (.int 6)]]) (.call 14 [.var 0, .cst (.int 6)] [0, 1]))] [],
    .asg (.nm 2) (.lst false [.call 21 [.var 0, .cst (.int 4)] [0, 1], .call 21 [.var 0, .cst (.int 4)] [0, 1]]),
    .ife (.cmp .lt (.var 1) (.cst (.int 4))) [.asg (.nm 3) (.bin .add (.cst (.int 1)) (.call 14 [.var 0, .cst (.int 3)] [0, 1])), .asg (.nm 2) (.lst false [.bin .mul (.var 3) (.idx (.var 2) (.cst (.int 0))), .bin .mul (.var 3) (.idx (.var 2) (.cst (.int 1)))])] [.ife (.cmp .gt (.var 1) (.cst (.int 5))) [.asg (.nm 2) (.lst false [.call 21 [.var 0, .cst (.int 14)] [0, 1], .call 21 [.var 0, .cst (.int 14)] [0, 1]])] []],
    .ife (.cmp .eq (.var 2) (.lst false [.cst (.int 0), .cst (.int 0)])) [.ret (.tup [.cst (.int 3), .cst (.int 0)])] [],
    .ret (.tup [.idx (.var 2) (.cst (.int 0)), .idx (.var 2) (.cst (.int 1))])]

def F22 : Fd := ⟨1, 4, false, b22⟩

def e22 : Ent := ⟨top 31, "_law_by", ["reel", "habit", "small", "times"], F22⟩

/-- _law_vector -/
def b23 : List Cm := [
    .asg (.nm 1) (.idx (.lst false [.cst (.int 3), .cst (.int 50), .cst (.int 1000), .cst (.int 400000000), .cst (.int 1000000000)]) (.call 14 [.var 0, .cst (.int 5)] [0, 1])),
    .ret (.tup [.call 21 [.var 0, .var 1] [0, 1], .call 21 [.var 0, .var 1] [0, 1]])]

def F23 : Fd := ⟨1, 2, false, b23⟩

def e23 : Ent := ⟨top 32, "_law_vector", ["reel", "size"], F23⟩

/-- _law_pairs -/
def b24 : List Cm := [
    .asg (.nm 2) (.tup [.call 21 [.var 0, .cst (.int 900000000)] [0, 1], .call 21 [.var 0, .cst (.int 900000000)] [0, 1]]),
    .asg (.nm 3) (.tup [.call 21 [.var 0, .cst (.int 1000000)] [0, 1], .call 21 [.var 0, .cst (.int 1000000)] [0, 1]]),
    .asg (.nm 4) (.tup [.bin .sub (.bin .mul (.idx (.var 1) (.cst (.int 0))) (.idx (.var 3) (.cst (.int 0)))) (.bin .mul (.idx (.var 1) (.cst (.int 1))) (.idx (.var 3) (.cst (.int 1)))), .bin .add (.bin .mul (.idx (.var 1) (.cst (.int 0))) (.idx (.var 3) (.cst (.int 1)))) (.bin .mul (.idx (.var 1) (.cst (.int 1))) (.idx (.var 3) (.cst (.int 0))))]),
    .asg (.nm 5) (.tup [.bin .add (.idx (.var 2) (.cst (.int 0))) (.idx (.var 4) (.cst (.int 0))), .bin .add (.idx (.var 2) (.cst (.int 1))) (.idx (.var 4) (.cst (.int 1)))]),
    .asg (.nm 6) (.lst false [.tup [.var 2, .var 5], .tup [.var 5, .var 2], .tup [.var 2, .var 2], .tup [.var 2, .tup [.bin .add (.idx (.var 5) (.cst (.int 0))) (.cst (.int 1)), .idx (.var 5) (.cst (.int 1))]], .tup [.var 2, .tup [.idx (.var 5) (.cst (.int 0)), .bin .sub (.idx (.var 5) (.cst (.int 1))) (.cst (.int 1))]]]),
    .asg (.nm 6) (.bin .add (.var 6) (.lst false [.tup [.var 2, .tup [.bin .add (.idx (.var 5) (.cst (.int 0))) (.cst (.int 1)), .bin .add (.idx (.var 5) (.cst (.int 1))) (.cst (.int 1))]], .tup [.var 1, .tup [.cst (.int 0), .cst (.int 0)]], .tup [.tup [.bin .sub (.cst (.int 0)) (.idx (.var 1) (.cst (.int 1))), .idx (.var 1) (.cst (.int 0))], .tup [.cst (.int 0), .cst (.int 0)]], .tup [.tup [.idx (.var 1) (.cst (.int 0)), .bin .sub (.cst (.int 0)) (.idx (.var 1) (.cst (.int 1)))], .tup [.cst (.int 0), .cst (.int 0)]]])),
    .ret (.bin .add (.var 6) (.lst false [.tup [.call 23 [.var 0] [0], .call 23 [.var 0] [0]], .tup [.tup [.idx (.var 1) (.cst (.int 1)), .idx (.var 1) (.cst (.int 0))], .var 1]]))]

def F24 : Fd := ⟨2, 7, false, b24⟩

def e24 : Ent := ⟨top 33, "_law_pairs", ["reel", "by", "one", "times", "way", "same", "pairs"], F24⟩

/-- _law_asked -/
def b25 : List Cm := [
    .asg (.nm 2) (.call 19 [.var 1] [0]),
    .ife (.not (.call 16 [.bi .tuple [.var 2], .call 11 [.var 1] [0]] [0, 1])) [.ret (.cst (.bl false))] [],
    .for_ (.nm 3) (.rng1 (.cst (.int 4))) [.asg (.nm 4) (.call 23 [.var 0] [0]), .asg (.nm 5) (.call 20 [.var 1, .var 2, .var 4] [0, 1, 2]), .ife (.or (.not (.call 16 [.var 5, .call 10 [.var 4, .var 1] [0, 1]] [0, 1])) (.not (.call 16 [.var 5, .call 10 [.var 5, .var 1] [0, 1]] [0, 1]))) [.ret (.cst (.bl false))] [], .ife (.is_ (.isnB true) (.call 12 [.var 4, .var 5, .var 1] [0, 1, 2])) [.ret (.cst (.bl false))] []],
    .asg (.nm 6) (.idx (.var 2) (.call 14 [.var 0, .bi .len [.var 2]] [0, 1])),
    .ife (.or (.not (.call 16 [.var 6, .call 10 [.var 6, .var 1] [0, 1]] [0, 1])) (.not (.call 16 [.tup [.cst (.int 0), .cst (.int 0)], .call 10 [.var 1, .var 1] [0, 1]] [0, 1]))) [.ret (.cst (.bl false))] [],
    .for_ (.nm 7) (.seq (.call 24 [.var 0, .var 1] [0, 1])) [.asg (.nm 8) (.call 18 [.var 1, .tup [.bin .sub (.idx (.idx (.var 7) (.cst (.int 0))) (.cst (.int 0))) (.idx (.idx (.var 7) (.cst (.int 1))) (.cst (.int 0))), .bin .sub (.idx (.idx (.var 7) (.cst (.int 0))) (.cst (.int 1))) (.idx (.idx (.var 7) (.cst (.int 1))) (.cst (.int 1)))]] [0, 1]), .ife (.not (.call 16 [.var 8, .call 12 [.idx (.var 7) (.cst (.int 0)), .idx (.var 7) (.cst (.int 1)), .var 1] [0, 1, 2]] [0, 1])) [.ret (.cst (.bl false))] []],
    .ret (.cst (.bl true))]

def F25 : Fd := ⟨2, 9, false, b25⟩

def e25 : Ent := ⟨top 34, "_law_asked", ["reel", "by", "box", "k", "v", "rest", "drawn", "pair", "due"], F25⟩

/-- law -/
def b26 : List Cm := [
    .asg (.nm 1) (.call 13 [.var 0] [0]),
    .for_ (.nm 2) (.rng1 (.cst (.int 2))) [.ife (.not (.call 25 [.var 1, .call 22 [.var 1] [0]] [0, 1])) [.ret (.cst (.bl false))] []],
    .asg (.nm 3) (.tup [.bin .add (.cst (.int 2)) (.call 14 [.var 1, .cst (.int 9)] [0, 1]), .call 21 [.var 1, .cst (.int 9)] [0, 1]]),
    .asg (.nm 4) (.call 23 [.var 1] [0]),
    .asg (.nm 5) (.tup [.bin .sub (.idx (.var 4) (.cst (.int 0))) (.bin .fdiv (.idx (.var 4) (.cst (.int 0))) (.bi .max2 [.cst (.int 1), .bi .abs [.idx (.var 4) (.cst (.int 0))]])), .idx (.var 4) (.cst (.int 1))]),
    .ife (.cmp .eq (.idx (.var 4) (.cst (.int 0))) (.cst (.int 0))) [.asg (.nm 5) (.tup [.cst (.int 1), .idx (.var 4) (.cst (.int 1))])] [],
    .ife (.or (.is_ (.isnB false) (.call 12 [.var 4, .var 5, .var 3] [0, 1, 2])) (.is_ (.isnB true) (.call 12 [.var 4, .var 4, .var 3] [0, 1, 2]))) [.ret (.cst (.bl false))] [],
    .ret (.call 25 [.var 1, .var 3] [0, 1])]

def F26 : Fd := ⟨1, 6, false, b26⟩

def e26 : Ent := ⟨top 35, "law", ["script", "reel", "k", "by", "v", "beside"], F26⟩

def tab : List Ent := [e0, e1, e2, e3, e4, e5, e6, e7, e8, e9, e10, e11, e12, e13, e14, e15, e16, e17, e18, e19, e20, e21, e22, e23, e24, e25, e26]

def Lw0 : Lw := ⟨tab.map Ent.fnI, ["abs", "bool", "int", "isinstance", "len", "list", "max", "range", "str", "tuple"], [], true⟩
def fb (K : PySem.W.Frag) : Bool := factB tab Lw0 K
theorem okA : tab.all Ent.okA = true := by decide +kernel
theorem okS : tab.all (fun e => kSs Lw0 e.sc e.F.body (defBody e.st)) = true := by decide +kernel

end K34
set_option Elab.async false
set_option linter.all false
set_option maxRecDepth 100000
set_option maxHeartbeats 1000000
namespace K34
open DI
abbrev V2 (a b : Int) : D := .tup [.int a, .int b]
def fds : List Fd := tab.map Ent.F
def anc : Nat → Nat → Bool := fun _ _ => false
theorem s_diff (n : Nat) (st : Sto) (a b c d : Int) : callD fds anc (n + 1) 0 [V2 a b, V2 c d] st = .ok (V2 (a - c) (b - d)) st := by
  rw [call_at (F := F0) rfl rfl]
  have : evSs ⟨callD fds anc n, anc⟩ F0.body [some (V2 a b), some (V2 c d)] st = .ok (.rt (V2 (a - c) (b - d))) [some (V2 a b), some (V2 c d)] st := by
    simp [F0, b0, evSs, evS, evE, evEs, evO, evT, evIt, RS.of, R.bind, R.of, RS.seq, idxD, seqD, ixD, opB, opC, truD, setT, setTs, eqD, full, frz, D.sub, D.subL, D.eqv, D.eqvL, D.depth, D.depthL, biD, permD, opI, newL, SZ, isiD, tyOk, lstD, setD, mtD, okM]
  rw [show ([V2 a b, V2 c d].map some ++ List.replicate (F0.nn - [V2 a b, V2 c d].length) none) = [some (V2 a b), some (V2 c d)] from rfl, this]
  exact fin_same rfl
theorem s_prod (n : Nat) (st : Sto) (a b c d : Int) (h1 : mulOk a c = true) (h2 : mulOk b d = true) (h3 : mulOk a d = true) (h4 : mulOk b c = true) : callD fds anc (n + 1) 1 [V2 a b, V2 c d] st = .ok (V2 (a * c - b * d) (a * d + b * c)) st := by
  rw [call_at (F := F1) rfl rfl]
  have : evSs ⟨callD fds anc n, anc⟩ F1.body [some (V2 a b), some (V2 c d)] st = .ok (.rt (V2 (a * c - b * d) (a * d + b * c))) [some (V2 a b), some (V2 c d)] st := by
    simp [F1, b1, evSs, evS, evE, evEs, evO, evT, evIt, RS.of, R.bind, R.of, RS.seq, idxD, seqD, ixD, opB, opC, truD, setT, setTs, eqD, full, frz, D.sub, D.subL, D.eqv, D.eqvL, D.depth, D.depthL, biD, permD, opI, newL, SZ, isiD, tyOk, lstD, setD, mtD, okM, h1, h2, h3, h4]
  rw [show ([V2 a b, V2 c d].map some ++ List.replicate (F1.nn - [V2 a b, V2 c d].length) none) = [some (V2 a b), some (V2 c d)] from rfl, this]
  exact fin_same rfl
theorem s_part (n : Nat) (st : Sto) (a b : Int) : callD fds anc (n + 1) 2 [V2 a b] st = .ok (V2 a (-b)) st := by
  rw [call_at (F := F2) rfl rfl]
  have : evSs ⟨callD fds anc n, anc⟩ F2.body [some (V2 a b)] st = .ok (.rt (V2 a (-b))) [some (V2 a b)] st := by
    simp [F2, b2, evSs, evS, evE, evEs, evO, evT, evIt, RS.of, R.bind, R.of, RS.seq, idxD, seqD, ixD, opB, opC, truD, setT, setTs, eqD, full, frz, D.sub, D.subL, D.eqv, D.eqvL, D.depth, D.depthL, biD, permD, opI, newL, SZ, isiD, tyOk, lstD, setD, mtD, okM]
  rw [show ([V2 a b].map some ++ List.replicate (F2.nn - [V2 a b].length) none) = [some (V2 a b)] from rfl, this]
  exact fin_same rfl
theorem s_norm (n : Nat) (st : Sto) (a b : Int) (ha : mulOk a a = true) (hb : mulOk b b = true) : callD fds anc (n + 1) 3 [V2 a b] st = .ok (.int (a * a + b * b)) st := by
  rw [call_at (F := F3) rfl rfl]
  have : evSs ⟨callD fds anc n, anc⟩ F3.body [some (V2 a b)] st = .ok (.rt (.int (a * a + b * b))) [some (V2 a b)] st := by
    simp [F3, b3, evSs, evS, evE, evEs, evO, evT, evIt, RS.of, R.bind, R.of, RS.seq, idxD, seqD, ixD, opB, opC, truD, setT, setTs, eqD, full, frz, D.sub, D.subL, D.eqv, D.eqvL, D.depth, D.depthL, biD, permD, opI, newL, SZ, isiD, tyOk, lstD, setD, mtD, okM, ha, hb]
  rw [show ([V2 a b].map some ++ List.replicate (F3.nn - [V2 a b].length) none) = [some (V2 a b)] from rfl, this]
  exact fin_same rfl
theorem s_nq (n : Nat) (st : Sto) (x N : Int) (hN : 0 < N) (h1 : mulOk 2 x = true) (h2 : mulOk 2 N = true) (h3 : (2 * N).natAbs.log2 < 9000) : callD fds anc (n + 1) 4 [.int x, .int N] st = .ok (.int ((2 * x + N) / (2 * N))) st := by
  rw [call_at (F := F4) rfl rfl]
  have h4 : 0 < 2 * N := by omega
  have : evSs ⟨callD fds anc n, anc⟩ F4.body [some (.int x), some (.int N)] st = .ok (.rt (.int ((2 * x + N) / (2 * N)))) [some (.int x), some (.int N)] st := by
    simp only [F4, b4, evSs, evS, evE, evEs, evO, evT, evIt, RS.of, R.bind, R.of, RS.seq, idxD, seqD, ixD, opB, opC, truD, setT, setTs, eqD, full, frz, D.sub, D.subL, D.eqv, D.eqvL, D.depth, D.depthL, biD, permD, opI, newL, SZ, isiD, tyOk, lstD, setD, mtD, okM, h1, h2, h3, h4]
    simp [h1, h2, h3, h4, hN, RS.of, R.bind, R.of, RS.seq]
  rw [show ([D.int x, .int N].map some ++ List.replicate (F4.nn - [D.int x, .int N].length) none) = [some (.int x), some (.int N)] from rfl, this]
  exact fin_same rfl
theorem sz_two : Sz 2 2 := by unfold Sz; decide
theorem log_ok {k : Nat} {x : Int} (h : Sz k x) (hk : k < 9000) : x.natAbs.log2 < 9000 := by
  by_cases h0 : x.natAbs = 0
  · rw [h0]; decide
  · have := (Nat.log2_lt h0).mpr (show x.natAbs < 2 ^ k from h)
    omega
theorem sq_nonneg (c : Int) : 0 ≤ c * c := by
  rcases Int.le_total 0 c with h | h
  · exact Int.mul_nonneg h h
  · have := Int.mul_nonneg (show 0 ≤ -c by omega) (show 0 ≤ -c by omega)
    rw [Int.neg_mul_neg] at this
    exact this
theorem s_divided (n : Nat) (st : Sto) (a b c d x y N q0 q1 : Int) (ha : Sz 60 a) (hb : Sz 60 b) (hc : Sz 60 c) (hd : Sz 60 d) (hN : N = c * c + d * d) (h0 : N ≠ 0) (hx : x = a * c - b * -d) (hy : y = a * -d + b * c) (hq0 : q0 = (2 * x + N) / (2 * N)) (hq1 : q1 = (2 * y + N) / (2 * N)) :
    callD fds anc (n + 2) 5 [V2 a b, V2 c d] st = .ok (.tup [V2 q0 q1, V2 (a - (q0 * c - q1 * d)) (b - (q0 * d + q1 * c))]) st := by
  have zc := hc.mul hc
  have zd := hd.mul hd
  have zN : Sz 121 N := by rw [hN]; exact zc.add zd
  have zx : Sz 121 x := by rw [hx]; exact (ha.mul hc).sub (hb.mul hd.neg)
  have zy : Sz 121 y := by rw [hy]; exact (ha.mul hd.neg).add (hb.mul hc)
  have pN : 0 < N := by
    have := sq_nonneg c
    have := sq_nonneg d
    omega
  have z2x := sz_two.mul zx
  have z2y := sz_two.mul zy
  have z2N := sz_two.mul zN
  have zq0 : Sz 125 q0 := by rw [hq0]; exact (z2x.add (zN.mono (by decide))).div (by omega)
  have zq1 : Sz 125 q1 := by rw [hq1]; exact (z2y.add (zN.mono (by decide))).div (by omega)
  have m {j k : Nat} {u v : Int} (h1 : Sz j u) (h2 : Sz k v) (hj : j ≤ 400000 := by decide) (hk : k ≤ 400000 := by decide) : mulOk u v = true := h1.ok h2 hj hk
  have e3 : ∀ st, callD fds anc (n + 1) 3 [V2 c d] st = .ok (.int N) st := fun st => by rw [hN]; exact s_norm n st c d (m hc hc) (m hd hd)
  have e2 : ∀ st, callD fds anc (n + 1) 2 [V2 c d] st = .ok (V2 c (-d)) st := fun st => s_part n st c d
  have e1 : ∀ st, callD fds anc (n + 1) 1 [V2 a b, V2 c (-d)] st = .ok (V2 x y) st := fun st => by rw [hx, hy]; exact s_prod n st a b c (-d) (m ha hc) (m hb hd.neg) (m ha hd.neg) (m hb hc)
  have e4 : ∀ st, callD fds anc (n + 1) 4 [.int x, .int N] st = .ok (.int q0) st := fun st => by rw [hq0]; exact s_nq n st x N pN (m sz_two zx) (m sz_two zN) (log_ok z2N (by decide))
  have e5 : ∀ st, callD fds anc (n + 1) 4 [.int y, .int N] st = .ok (.int q1) st := fun st => by rw [hq1]; exact s_nq n st y N pN (m sz_two zy) (m sz_two zN) (log_ok z2N (by decide))
  have e6 : ∀ st, callD fds anc (n + 1) 1 [V2 q0 q1, V2 c d] st = .ok (V2 (q0 * c - q1 * d) (q0 * d + q1 * c)) st := fun st => s_prod n st q0 q1 c d (m zq0 hc) (m zq1 hd) (m zq0 hd) (m zq1 hc)
  have e7 : ∀ st, callD fds anc (n + 1) 0 [V2 a b, V2 (q0 * c - q1 * d) (q0 * d + q1 * c)] st = .ok (V2 (a - (q0 * c - q1 * d)) (b - (q0 * d + q1 * c))) st := fun st => s_diff n st a b _ _
  refine run_ret (F := F5) (ρ0 := [some (V2 a b), some (V2 c d), none, none, none, none]) (ρ1 := [some (V2 a b), some (V2 c d), some (.int N), some (.int x), some (.int y), some (V2 q0 q1)]) rfl rfl rfl rfl ?_ rfl
  simp [F5, b5, evSs, evS, evE, evEs, evO, evT, evIt, RS.of, R.bind, R.of, RS.seq, idxD, seqD, ixD, opB, opC, truD, setT, setTs, eqD, full, frz, D.sub, D.subL, D.eqv, D.eqvL, D.depth, D.depthL, biD, permD, opI, newL, SZ, isiD, tyOk, lstD, setD, mtD, okM, e1, e2, e3, e4, e5, e6, e7, h0]
theorem ma_1 {v w a b q0 q1 N : Int} (hN : N = a * a + b * b) (h0 : v - (q0 * a - q1 * b) = 0) (h1 : w - (q0 * b + q1 * a) = 0) : v * a + w * b = N * q0 ∧ w * a - v * b = N * q1 := by
  constructor <;> grind
theorem ma_2 {v w a b k l N : Int} (hN : N = a * a + b * b) (h : N ≠ 0) (h0 : v * a + w * b = N * k) (h1 : w * a - v * b = N * l) : v = k * a - l * b ∧ w = k * b + l * a := by
  constructor
  · have : N * v = N * (k * a - l * b) := by grind
    exact Int.eq_of_mul_eq_mul_left h this
  · have : N * w = N * (k * b + l * a) := by grind
    exact Int.eq_of_mul_eq_mul_left h this
theorem ma_3 {N k : Int} (h : 0 < N) : (2 * (N * k) + N) / (2 * N) = k := by
  rw [show 2 * (N * k) + N = N + 2 * N * k by grind, Int.add_mul_ediv_left _ _ (by omega)]
  have : N / (2 * N) = 0 := Int.ediv_eq_zero_of_lt (by omega) (by omega)
  omega
/-- by a + bi divides v + wi -/
def Dv (a b v w : Int) : Prop := (a * a + b * b) ∣ v * a + w * b ∧ (a * a + b * b) ∣ w * a - v * b
instance (a b v w : Int) : Decidable (Dv a b v w) := by unfold Dv; infer_instance
theorem s_divides (n : Nat) (st : Sto) (a b v w : Int) (ha : Sz 60 a) (hb : Sz 60 b) (hv : Sz 60 v) (hw : Sz 60 w) (h0 : a * a + b * b ≠ 0) :
    callD fds anc (n + 3) 6 [V2 a b, V2 v w] st = .ok (.bl (decide (Dv a b v w))) st := by
  have m {j k : Nat} {u v : Int} (h1 : Sz j u) (h2 : Sz k v) (hj : j ≤ 400000 := by decide) (hk : k ≤ 400000 := by decide) : mulOk u v = true := h1.ok h2 hj hk
  generalize hN : a * a + b * b = N at h0
  generalize hx : v * a - w * -b = x
  generalize hy : v * -b + w * a = y
  generalize hq0 : (2 * x + N) / (2 * N) = q0
  generalize hq1 : (2 * y + N) / (2 * N) = q1
  have pN : 0 < N := by
    have := sq_nonneg a
    have := sq_nonneg b
    omega
  have e3 : ∀ st, callD fds anc (n + 2) 3 [V2 a b] st = .ok (.int N) st := fun st => by rw [← hN]; exact s_norm (n + 1) st a b (m ha ha) (m hb hb)
  have e5 : ∀ st, callD fds anc (n + 2) 5 [V2 v w, V2 a b] st = .ok (.tup [V2 q0 q1, V2 (v - (q0 * a - q1 * b)) (w - (q0 * b + q1 * a))]) st := fun st => s_divided n st v w a b x y N q0 q1 hv hw ha hb hN.symm h0 hx.symm hy.symm hq0.symm hq1.symm
  have key : decide (Dv a b v w) = (v - (q0 * a - q1 * b) == 0 && (w - (q0 * b + q1 * a) == 0)) := by
    rw [Bool.eq_iff_iff]
    simp only [decide_eq_true_eq, Bool.and_eq_true, beq_iff_eq]
    unfold Dv
    rw [hN]
    constructor
    · rintro ⟨⟨k, hk⟩, ⟨l, hl⟩⟩
      have ex : x = N * k := by rw [← hk, ← hx]; grind
      have ey : y = N * l := by rw [← hl, ← hy]; grind
      have k0 : q0 = k := by rw [← hq0, ex]; exact ma_3 pN
      have k1 : q1 = l := by rw [← hq1, ey]; exact ma_3 pN
      obtain ⟨r0, r1⟩ := ma_2 hN.symm h0 hk hl
      subst k0 k1
      exact ⟨by omega, by omega⟩
    · rintro ⟨r0, r1⟩
      obtain ⟨k0, k1⟩ := ma_1 hN.symm r0 r1
      exact ⟨⟨q0, k0⟩, ⟨q1, k1⟩⟩
  refine run_ret (F := F6) (ρ0 := [some (V2 a b), some (V2 v w)]) (ρ1 := [some (V2 a b), some (V2 v w)]) rfl rfl rfl rfl ?_ rfl
  rw [key]
  simp [F6, b6, evSs, evS, evE, evEs, evO, evT, evIt, RS.of, R.bind, R.of, RS.seq, idxD, seqD, ixD, opB, opC, truD, setT, setTs, eqD, full, frz, D.sub, D.subL, D.eqv, D.eqvL, D.depth, D.depthL, biD, permD, opI, newL, SZ, isiD, tyOk, lstD, setD, mtD, okM, e3, e5, h0]
theorem s_gcd (n : Nat) (st : Sto) (a b : Int) : callD fds anc (n + 1) 7 [.int a, .int b] st = .ok (.int (Nat.gcd a.natAbs b.natAbs)) st := by
  refine run_ret (F := F7) (ρ0 := [some (.int a), some (.int b)]) (ρ1 := [some (.int a), some (.int b)]) rfl rfl rfl rfl ?_ rfl
  simp [F7, b7, evSs, evS, evE, evEs, evO, evT, evIt, RS.of, R.bind, R.of, RS.seq, idxD, seqD, ixD, opB, opC, truD, setT, setTs, eqD, full, frz, D.sub, D.subL, D.eqv, D.eqvL, D.depth, D.depthL, biD, permD, opI, newL, SZ, isiD, tyOk, lstD, setD, mtD, okM]
theorem s_ldiv (n : Nat) (st : Sto) (a b v w : Int) (ha : Sz 60 a) (hb : Sz 60 b) (hv : Sz 60 v) (hw : Sz 60 w) (h0 : 0 < a * a + b * b) :
    callD fds anc (n + 1) 18 [V2 a b, V2 v w] st = .ok (.bl (decide (Dv a b v w))) st := by
  have m {j k : Nat} {u v : Int} (h1 : Sz j u) (h2 : Sz k v) (hj : j ≤ 400000 := by decide) (hk : k ≤ 400000 := by decide) : mulOk u v = true := h1.ok h2 hj hk
  generalize hN : a * a + b * b = N at h0
  have key : decide (Dv a b v w) = (decide ((v * a + w * b) % N = 0) && decide ((w * a - v * b) % N = 0)) := by
    rw [Bool.eq_iff_iff]
    simp only [decide_eq_true_eq, Bool.and_eq_true]
    unfold Dv
    rw [hN]
    simp only [Int.dvd_iff_emod_eq_zero]
  refine run_ret (F := F18) (ρ0 := [some (V2 a b), some (V2 v w), none]) (ρ1 := [some (V2 a b), some (V2 v w), some (.int N)]) rfl rfl rfl rfl ?_ rfl
  rw [key]
  by_cases hc : (v * a + w * b) % N = 0
  · simp [F18, b18, evSs, evS, evE, evEs, evO, evT, evIt, RS.of, R.bind, R.of, RS.seq, idxD, seqD, ixD, opB, opC, truD, setT, setTs, eqD, full, frz, D.sub, D.subL, D.eqv, D.eqvL, D.depth, D.depthL, biD, permD, opI, newL, SZ, isiD, tyOk, lstD, setD, mtD, okM, m ha ha, m hb hb, m hv ha, m hw hb, m hw ha, m hv hb, hN, h0, hc]
    rfl
  · simp [F18, b18, evSs, evS, evE, evEs, evO, evT, evIt, RS.of, R.bind, R.of, RS.seq, idxD, seqD, ixD, opB, opC, truD, setT, setTs, eqD, full, frz, D.sub, D.subL, D.eqv, D.eqvL, D.depth, D.depthL, biD, permD, opI, newL, SZ, isiD, tyOk, lstD, setD, mtD, okM, m ha ha, m hb hb, m hv ha, m hw hb, m hw ha, m hv hb, hN, h0, hc]
end K34
set_option Elab.async false
set_option linter.all false
set_option maxRecDepth 100000
set_option maxHeartbeats 1000000
namespace DI
theorem fdiv_pos {i j : Int} (h : 0 < j) : i.fdiv j = i / j := Int.fdiv_eq_ediv_of_nonneg i (by omega)
theorem fdiv_neg' {i j : Int} (h : j < 0) : i.fdiv j = (-i) / (-j) := by
  rw [← Int.neg_fdiv_neg, Int.fdiv_eq_ediv_of_nonneg _ (by omega)]
theorem opB_fdiv {i j : Int} (st : Sto) (h : j ≠ 0) (h2 : j.natAbs < 1073741824) : opB .fdiv (.int i) (.int j) st = some (.int (i.fdiv j)) := by
  by_cases hp : 0 < j
  · have hl : j.natAbs.log2 < 9000 := by
      have := (Nat.log2_lt (k := 30) (n := j.natAbs) (by omega)).mpr (by omega)
      omega
    simp only [opB, hp, hl, and_self, if_true, fdiv_pos hp]
  · have hn : j < 0 := by omega
    have h3 : ¬ (0 < j ∧ j.natAbs.log2 < 9000) := fun z => hp z.1
    simp only [opB, if_neg h3, hn, h2, and_self, if_true]
theorem fdiv_step {i j : Int} (h : j ≠ 0) : (i - i.fdiv j * j).natAbs < j.natAbs := by
  by_cases hp : 0 < j
  · rw [fdiv_pos hp]
    have a1 := Int.mul_ediv_add_emod i j
    have a2 := Int.emod_nonneg i h
    have a3 := Int.emod_lt_of_pos i hp
    have : i - i / j * j = i % j := by rw [Int.mul_comm]; omega
    rw [this]
    omega
  · have hn : j < 0 := by omega
    rw [fdiv_neg' hn]
    have a1 := Int.mul_ediv_add_emod (-i) (-j)
    have a2 := Int.emod_nonneg (-i) (show -j ≠ 0 by omega)
    have a3 := Int.emod_lt_of_pos (-i) (show 0 < -j by omega)
    have : i - -i / -j * j = -((-i) % (-j)) := by
      have : -j * (-i / -j) = -(-i / -j * j) := by rw [Int.neg_mul, Int.mul_comm]
      omega
    rw [this]
    omega
theorem Sz.fdiv {k : Nat} {i j : Int} (h : Sz k i) (hj : j ≠ 0) : Sz (k + 1) (i.fdiv j) := by
  by_cases hp : 0 < j
  · rw [fdiv_pos hp]; exact h.div hp
  · rw [fdiv_neg' (by omega)]; exact h.neg.div (by omega)
theorem gcd_step {i j k : Int} : Int.gcd j (i - k * j) = Int.gcd i j := by
  rw [Int.gcd_comm i j]
  have : i - k * j = i + (-k) * j := by rw [Int.neg_mul]; omega
  rw [this]
  simp
end DI
namespace K34
open DI
theorem s_led (n : Nat) (st : Sto) (x y : Int) (hx : Sz 60 x) (hy : y.natAbs ≤ 1000) : ∃ p q : Int, callD fds anc (n + 1) 8 [.int x, .int y] st = .ok (V2 p q) st ∧ p * x + q * y = Int.gcd x y ∧ Sz 64000 p ∧ Sz 64000 q := by
  have m {j k : Nat} {u v : Int} (h1 : Sz j u) (h2 : Sz k v) (hj : j ≤ 400000 := by decide) (hk : k ≤ 400000 := by decide) : mulOk u v = true := h1.ok h2 hj hk
  let I : Nat → Env → Sto → Prop := fun w ρ s => s = st ∧ ∃ (o1 o2 p q r t : Int) (z : Option D), ρ = [some (.int o1), some (.int o2), some (V2 p q), some (V2 r t), z] ∧ p * x + q * y = o1 ∧ r * x + t * y = o2 ∧ Int.gcd o1 o2 = Int.gcd x y ∧ w = o2.natAbs ∧ w ≤ 1000 ∧ Sz 60 o1 ∧
    Sz (63 * (1000 - w) + 2) p ∧ Sz (63 * (1000 - w) + 2) q ∧ Sz (63 * (1000 - w) + 2) r ∧ Sz (63 * (1000 - w) + 2) t
  let Q : Env → Sto → Prop := fun ρ s => s = st ∧ ∃ (o1 p q r t : Int) (z : Option D), ρ = [some (.int o1), some (.int 0), some (V2 p q), some (V2 r t), z] ∧ p * x + q * y = o1 ∧ Int.gcd o1 0 = Int.gcd x y ∧ Sz 64000 p ∧ Sz 64000 q
  obtain ⟨ρ', s', hw, rfl, o1, p, q, r, t, z, rfl, k1, k2, k3, k4⟩ := while_rule (t := fun ρ st => evT ⟨callD fds anc n, anc⟩ (.var 1) ρ st) (b := fun ρ st => evSs ⟨callD fds anc n, anc⟩ [.asg (.nm 4) (.bin .fdiv (.var 0) (.var 1)), .par 0 1 (.var 1) (.bin .sub (.var 0) (.bin .mul (.var 4) (.var 1))), .par 2 3 (.var 3) (.tup [.bin .sub (.idx (.var 2) (.cst (.int 0))) (.bin .mul (.var 4) (.idx (.var 3) (.cst (.int 0)))), .bin .sub (.idx (.var 2) (.cst (.int 1))) (.bin .mul (.var 4) (.idx (.var 3) (.cst (.int 1))))])] ρ st) I Q (by
    rintro w ρ s ⟨rfl, o1, o2, p, q, r, t, z, rfl, h1, h2, h3, rfl, h4, h5, h6, h7, h8, h9⟩
    by_cases h0 : o2 = 0
    · subst h0
      left
      exact ⟨s, by simp [evSs, evS, evE, evEs, evO, evT, evIt, RS.of, R.bind, R.of, RS.seq, idxD, seqD, ixD, opB, opC, truD, setT, setTs, eqD, full, frz, D.sub, D.subL, D.eqv, D.eqvL, D.depth, D.depthL, biD, permD, opI, newL, SZ, isiD, tyOk, lstD, setD, mtD, okM], rfl, o1, p, q, r, t, z, rfl, h1, h3, h6.mono (by omega), h7.mono (by omega)⟩
    · right
      have e := opB_fdiv (i := o1) s h0 (by omega)
      have hl := fdiv_step (i := o1) h0
      have hq : Sz 61 (o1.fdiv o2) := h5.fdiv h0
      generalize hd : o1.fdiv o2 = d at e hl hq
      have so2 : Sz 60 o2 := Nat.lt_of_le_of_lt h4 (by decide)
      have g1 := m hq so2
      have g2 := Sz.ok hq h8 (by decide) (by omega)
      have g3 := Sz.ok hq h9 (by decide) (by omega)
      have hk : 63 * (1000 - o2.natAbs) + 2 + 62 ≤ 63 * (1000 - (o1 - d * o2).natAbs) + 2 := by omega
      refine ⟨s, [some (.int o2), some (.int (o1 - d * o2)), some (V2 r t), some (V2 (p - d * r) (q - d * t)), some (.int d)], s, (o1 - d * o2).natAbs, by simp [evSs, evS, evE, evEs, evO, evT, evIt, RS.of, R.bind, R.of, RS.seq, idxD, seqD, ixD, opB, opC, truD, setT, setTs, eqD, full, frz, D.sub, D.subL, D.eqv, D.eqvL, D.depth, D.depthL, biD, permD, opI, newL, SZ, isiD, tyOk, lstD, setD, mtD, okM, h0], .inl ?_, hl, rfl, o2, o1 - d * o2, r, t, p - d * r, q - d * t, some (.int d), rfl, h2, ?_, ?_, rfl, by omega, so2, h8.mono (by omega), h9.mono (by omega), ?_, ?_⟩
      · simp only [evSs, evS, evE, RS.of, R.bind, R.of, RS.seq, List.getElem?_cons_zero, List.getElem?_cons_succ, e]
        simp [evSs, evS, evE, evEs, evO, evT, evIt, RS.of, R.bind, R.of, RS.seq, idxD, seqD, ixD, opB, opC, truD, setT, setTs, eqD, full, frz, D.sub, D.subL, D.eqv, D.eqvL, D.depth, D.depthL, biD, permD, opI, newL, SZ, isiD, tyOk, lstD, setD, mtD, okM, g1, g2, g3]
      · rw [← h1, ← h2]; grind
      · rw [← h3]; exact gcd_step
      · exact ((h6.mono (by omega)).sub ((hq.mul h8).mono (show _ ≤ 63 * (1000 - o2.natAbs) + 2 + 61 by omega))).mono (by omega)
      · exact ((h7.mono (by omega)).sub ((hq.mul h9).mono (show _ ≤ 63 * (1000 - o2.natAbs) + 2 + 61 by omega))).mono (by omega))
    FUEL y.natAbs [some (.int x), some (.int y), some (V2 1 0), some (V2 0 1), none] st (Nat.lt_of_le_of_lt hy (by unfold FUEL; decide)) ⟨rfl, x, y, 1, 0, 0, 1, none, rfl, by simp, by simp, rfl, rfl, hy, hx, by unfold Sz; exact Nat.lt_of_lt_of_le (by decide : 1 < 2 ^ 2) (Nat.pow_le_pow_right (by decide) (by omega)), by unfold Sz; exact Nat.lt_of_lt_of_le (by decide : 0 < 2 ^ 2) (Nat.pow_le_pow_right (by decide) (by omega)), by unfold Sz; exact Nat.lt_of_lt_of_le (by decide : 0 < 2 ^ 2) (Nat.pow_le_pow_right (by decide) (by omega)), by unfold Sz; exact Nat.lt_of_lt_of_le (by decide : 1 < 2 ^ 2) (Nat.pow_le_pow_right (by decide) (by omega))⟩
  have hg : (Int.gcd x y : Int) = o1.natAbs := by rw [← k2]; simp
  by_cases h0 : 0 ≤ o1
  · refine ⟨p, q, run_ret (F := F8) (ρ0 := [some (.int x), some (.int y), none, none, none]) (ρ1 := [some (.int o1), some (.int 0), some (V2 p q), some (V2 r t), z]) rfl rfl rfl rfl ?_ rfl, by omega, k3, k4⟩
    rw [show F8.body = b8 from rfl, b8, ev_cons (ρ1 := [some (.int x), some (.int y), some (V2 1 0), some (V2 0 1), none]) (st1 := s') (by simp [evSs, evS, evE, evEs, evO, evT, evIt, RS.of, R.bind, R.of, RS.seq, idxD, seqD, ixD, opB, opC, truD, setT, setTs, eqD, full, frz, D.sub, D.subL, D.eqv, D.eqvL, D.depth, D.depthL, biD, permD, opI, newL, SZ, isiD, tyOk, lstD, setD, mtD, okM]), ev_whl hw]
    simp [evSs, evS, evE, evEs, evO, evT, evIt, RS.of, R.bind, R.of, RS.seq, idxD, seqD, ixD, opB, opC, truD, setT, setTs, eqD, full, frz, D.sub, D.subL, D.eqv, D.eqvL, D.depth, D.depthL, biD, permD, opI, newL, SZ, isiD, tyOk, lstD, setD, mtD, okM, h0]
  · refine ⟨-p, -q, run_ret (F := F8) (ρ0 := [some (.int x), some (.int y), none, none, none]) (ρ1 := [some (.int o1), some (.int 0), some (V2 p q), some (V2 r t), z]) rfl rfl rfl rfl ?_ rfl, by grind, k3.neg, k4.neg⟩
    rw [show F8.body = b8 from rfl, b8, ev_cons (ρ1 := [some (.int x), some (.int y), some (V2 1 0), some (V2 0 1), none]) (st1 := s') (by simp [evSs, evS, evE, evEs, evO, evT, evIt, RS.of, R.bind, R.of, RS.seq, idxD, seqD, ixD, opB, opC, truD, setT, setTs, eqD, full, frz, D.sub, D.subL, D.eqv, D.eqvL, D.depth, D.depthL, biD, permD, opI, newL, SZ, isiD, tyOk, lstD, setD, mtD, okM]), ev_whl hw]
    simp [evSs, evS, evE, evEs, evO, evT, evIt, RS.of, R.bind, R.of, RS.seq, idxD, seqD, ixD, opB, opC, truD, setT, setTs, eqD, full, frz, D.sub, D.subL, D.eqv, D.eqvL, D.depth, D.depthL, biD, permD, opI, newL, SZ, isiD, tyOk, lstD, setD, mtD, okM, h0]
end K34
set_option Elab.async false
set_option linter.all false
set_option maxRecDepth 100000
set_option maxHeartbeats 1000000
namespace K34
open DI
/-- what is known of a divisor's vector -/
structure By (a b g W p q a' b' : Int) : Prop where
  ga : a = g * a'
  gb : b = g * b'
  bz : p * b + q * a = g
  gp : 0 < g
  W : W = g * (a' * a' + b' * b')
section
variable {a b g W p q a' b' : Int}
theorem By.N (h : By a b g W p q a' b') : a * a + b * b = g * W := by
  obtain ⟨h1, h2, h3, h4, h5⟩ := h
  subst h5 h1 h2
  grind
theorem By.one (h : By a b g W p q a' b') : p * b' + q * a' = 1 := by
  obtain ⟨h1, h2, h3, h4, h5⟩ := h
  have : g * (p * b' + q * a') = g * 1 := by rw [h1, h2] at h3; grind
  exact Int.eq_of_mul_eq_mul_left (by omega) this
theorem By.Wp (h : By a b g W p q a' b') : 0 < W := by
  have h1 := h.one
  have := sq_nonneg a'
  have := sq_nonneg b'
  rw [h.W]
  refine Int.mul_pos h.gp ?_
  by_cases z : a' = 0
  · by_cases y : b' = 0
    · subst z y; simp at h1
    · have : 0 < b' * b' := by
        rcases Int.lt_or_gt_of_ne y with k | k
        · exact Int.mul_pos_of_neg_of_neg k k
        · exact Int.mul_pos k k
      omega
  · have : 0 < a' * a' := by
      rcases Int.lt_or_gt_of_ne z with k | k
      · exact Int.mul_pos_of_neg_of_neg k k
      · exact Int.mul_pos k k
    omega
theorem By.rest (h : By a b g W p q a' b') (v w : Int) : Dv a b (v - (v - w / g * (p * a - q * b)) % W) (w - (w - w / g * g)) := by
  have hN := h.N
  generalize ht : w / g = t
  generalize hs : (v - t * (p * a - q * b)) / W = s
  have e : v - (v - t * (p * a - q * b)) % W = t * (p * a - q * b) + W * s := by
    have := Int.mul_ediv_add_emod (v - t * (p * a - q * b)) W
    rw [hs] at this
    omega
  rw [e]
  unfold Dv
  rw [hN]
  obtain ⟨h1, h2, h3, h4, h5⟩ := h
  refine ⟨⟨t * p + s * a', ?_⟩, ⟨t * q - s * b', ?_⟩⟩
  · have : (t * (p * a - q * b) + W * s) * a + (w - (w - t * g)) * b = t * (p * (a * a + b * b)) + t * b * (g - (p * b + q * a)) + s * W * a := by grind
    rw [this, hN, h3, h1]
    grind
  · have : (w - (w - t * g)) * a - (t * (p * a - q * b) + W * s) * b = t * (q * (a * a + b * b)) + t * a * (g - (p * b + q * a)) - s * W * b := by grind
    rw [this, hN, h3, h2]
    grind
theorem By.uniq (h : By a b g W p q a' b') {X Y : Int} (hX : -W < X) (hX2 : X < W) (hY : -g < Y) (hY2 : Y < g) (d : Dv a b X Y) : X = 0 ∧ Y = 0 := by
  have hN := h.N
  have h1 := h.one
  obtain ⟨k1, k2, k3, k4, k5⟩ := h
  have hN0 : a * a + b * b ≠ 0 := by
    intro z
    have : 0 < g * W := Int.mul_pos k4 (by omega)
    omega
  obtain ⟨⟨k, hk⟩, ⟨l, hl⟩⟩ := d
  obtain ⟨eX, eY⟩ := ma_2 rfl hN0 hk hl
  have gY : Y = g * (k * b' + l * a') := by rw [eY, k1, k2]; grind
  have Y0 : Y = 0 := by
    generalize k * b' + l * a' = z at gY
    have : z = 0 := by
      by_cases hz : 0 < z
      · have : g * 1 ≤ g * z := Int.mul_le_mul_of_nonneg_left (by omega) (by omega)
        omega
      · by_cases hz2 : z < 0
        · have : g * z ≤ g * (-1) := Int.mul_le_mul_of_nonneg_left (by omega) (by omega)
          omega
        · omega
    rw [gY, this]; simp
  refine ⟨?_, Y0⟩
  subst Y0
  -- W divides X * a' and X * b'
  have d1 : X * a' = W * k := by
    have : g * (X * a') = g * (W * k) := by
      have : X * a + 0 * b = g * W * k := by rw [← hN]; exact hk
      rw [k1] at this
      grind
    exact Int.eq_of_mul_eq_mul_left (by omega) this
  have d2 : X * b' = W * (-l) := by
    have : g * (X * b') = g * (W * (-l)) := by
      have : 0 * a - X * b = g * W * l := by rw [← hN]; exact hl
      rw [k2] at this
      grind
    exact Int.eq_of_mul_eq_mul_left (by omega) this
  have eX : X = W * (q * k - p * l) := by
    have : X = X * (p * b' + q * a') := by rw [h1]; omega
    rw [this]
    have : X * (p * b' + q * a') = p * (X * b') + q * (X * a') := by grind
    rw [this, d1, d2]
    grind
  generalize q * k - p * l = z at eX
  have : z = 0 := by
    by_cases hz : 0 < z
    · have : W * 1 ≤ W * z := Int.mul_le_mul_of_nonneg_left (by omega) (by omega)
      omega
    · by_cases hz2 : z < 0
      · have : W * z ≤ W * (-1) := Int.mul_le_mul_of_nonneg_left (by omega) (by omega)
        omega
      · omega
  rw [eX, this]; simp
end
theorem by_of {a b : Int} (h : a * a + b * b ≠ 0) {p q : Int} (hb : p * b + q * a = Int.gcd b a) : ∃ a' b' W, By a b (Int.gcd a b) W p q a' b' ∧ (a * a + b * b) / (Int.gcd a b : Int) = W := by
  have g0 : (Int.gcd a b : Int) ≠ 0 := by
    intro z
    have : Int.gcd a b = 0 := by omega
    rw [Int.gcd_eq_zero_iff] at this
    obtain ⟨rfl, rfl⟩ := this
    simp at h
  obtain ⟨a', ha⟩ := Int.gcd_dvd_left a b
  obtain ⟨b', hb'⟩ := Int.gcd_dvd_right a b
  refine ⟨a', b', (Int.gcd a b : Int) * (a' * a' + b' * b'), ⟨ha, hb', by rw [hb, Int.gcd_comm], by omega, rfl⟩, ?_⟩
  generalize (Int.gcd a b : Int) = g at *
  have : a * a + b * b = g * (g * (a' * a' + b' * b')) := by rw [ha, hb']; grind
  rw [this, Int.mul_ediv_cancel_left _ g0]
theorem s_sizes (n : Nat) (st : Sto) (a b : Int) (ha : a.natAbs ≤ 1000) (hb : b.natAbs ≤ 1000) (h0 : a * a + b * b ≠ 0) :
    ∃ p q a' b' : Int, By a b (Int.gcd a b) ((a * a + b * b) / (Int.gcd a b)) p q a' b' ∧ Sz 64100 (p * a - q * b) ∧ callD fds anc (n + 2) 9 [V2 a b] st = .ok (.tup [.int ((a * a + b * b) / (Int.gcd a b)), .int (Int.gcd a b), .int (p * a - q * b)]) st := by
  have m {j k : Nat} {u v : Int} (h1 : Sz j u) (h2 : Sz k v) (hj : j ≤ 400000 := by decide) (hk : k ≤ 400000 := by decide) : mulOk u v = true := h1.ok h2 hj hk
  have za : Sz 60 a := Nat.lt_of_le_of_lt ha (by decide)
  have zb : Sz 60 b := Nat.lt_of_le_of_lt hb (by decide)
  obtain ⟨p, q, e8, bz, zp, zq⟩ := s_led n st b a zb ha
  obtain ⟨a', b', W, B, hW⟩ := by_of h0 bz
  have e7 : ∀ st, callD fds anc (n + 1) 7 [.int a, .int b] st = .ok (.int (Int.gcd a b)) st := fun st => s_gcd n st a b
  have e3 : ∀ st, callD fds anc (n + 1) 3 [V2 a b] st = .ok (.int (a * a + b * b)) st := fun st => s_norm n st a b (m za za) (m zb zb)
  have gl : (Int.gcd a b : Int).natAbs.log2 < 9000 := by
    have hle : Int.gcd a b ≤ 1000 := by
      by_cases h : a = 0
      · subst h
        have : b ≠ 0 := fun z => h0 (by rw [z]; rfl)
        rw [Int.gcd_zero_left]; exact hb
      · exact Nat.le_trans (Int.gcd_le_natAbs_left b (by omega)) ha
    exact log_ok (k := 60) (show (Int.gcd a b : Int).natAbs < 2 ^ 60 from Nat.lt_of_le_of_lt (by simpa using hle) (by decide)) (by decide)
  rw [hW]
  refine ⟨p, q, a', b', B, ((zp.mul za).mono (show _ ≤ 64099 by decide)).sub ((zq.mul zb).mono (by decide)), ?_⟩
  have gp := B.gp
  have g1 := m zp za
  have g2 := m zq zb
  refine run_ret (F := F9) (ρ0 := [some (V2 a b), none, none, none, none, none]) (ρ1 := [some (V2 a b), some (.int a), some (.int b), some (.int (Int.gcd a b)), some (.int p), some (.int q)]) rfl rfl rfl rfl ?_ rfl
  generalize hg : (Int.gcd a b : Int) = g at *
  simp [F9, b9, evSs, evS, evE, evEs, evO, evT, evIt, RS.of, R.bind, R.of, RS.seq, idxD, seqD, ixD, opB, opC, truD, setT, setTs, eqD, full, frz, D.sub, D.subL, D.eqv, D.eqvL, D.depth, D.depthL, biD, permD, opI, newL, SZ, isiD, tyOk, lstD, setD, mtD, okM, e7, e8, e3, gl, gp, g1, g2, hW]
end K34
set_option Elab.async false
set_option linter.all false
set_option maxRecDepth 100000
set_option maxHeartbeats 1000000
namespace K34
open DI
theorem s_rest (n : Nat) (st : Sto) (v w a b : Int) (hv : Sz 50 v) (hw : Sz 50 w) (ha : a.natAbs ≤ 1000) (hb : b.natAbs ≤ 1000) (h0 : a * a + b * b ≠ 0) :
    ∃ x y : Int, callD fds anc (n + 3) 10 [V2 v w, V2 a b] st = .ok (V2 x y) st ∧ (0 ≤ x ∧ x < (a * a + b * b) / (Int.gcd a b)) ∧ (0 ≤ y ∧ y < Int.gcd a b) ∧ Dv a b (v - x) (w - y) := by
  have m {j k : Nat} {u v : Int} (h1 : Sz j u) (h2 : Sz k v) (hj : j ≤ 400000 := by decide) (hk : k ≤ 400000 := by decide) : mulOk u v = true := h1.ok h2 hj hk
  obtain ⟨p, q, a', b', B, ze, e9⟩ := s_sizes n st a b ha hb h0
  have gp := B.gp
  have Wp := B.Wp
  have hR := B.rest v w
  have hg1 : (Int.gcd a b : Int).natAbs ≤ 1000 := by
    by_cases h : a = 0
    · subst h
      rw [Int.gcd_zero_left]; simpa using hb
    · exact Nat.le_trans (by simpa using Int.gcd_le_natAbs_left b (by omega)) ha
  have zg : Sz 60 (Int.gcd a b : Int) := Nat.lt_of_le_of_lt hg1 (by decide)
  have gl := log_ok zg (by decide)
  have zt : Sz 51 (w / (Int.gcd a b : Int)) := hw.div gp
  have m1 := m zt ze
  have m2 := m zt zg
  generalize hW : (a * a + b * b) / (Int.gcd a b : Int) = W at *
  generalize (Int.gcd a b : Int) = g at *
  refine ⟨(v - w / g * (p * a - q * b)) % W, w - w / g * g, ?_, ⟨Int.emod_nonneg _ (by omega), Int.emod_lt_of_pos _ Wp⟩, ?_, hR⟩
  · refine run_ret (F := F10) (ρ0 := [some (V2 v w), some (V2 a b), none, none, none, none]) (ρ1 := [some (V2 v w), some (V2 a b), some (.int W), some (.int g), some (.int (p * a - q * b)), some (.int (w / g))]) rfl rfl rfl rfl ?_ rfl
    simp [F10, b10, evSs, evS, evE, evEs, evO, evT, evIt, RS.of, R.bind, R.of, RS.seq, idxD, seqD, ixD, opB, opC, truD, setT, setTs, eqD, full, frz, D.sub, D.subL, D.eqv, D.eqvL, D.depth, D.depthL, biD, permD, opI, newL, SZ, isiD, tyOk, lstD, setD, mtD, okM, e9, gl, gp, Wp, m1, m2]
  · have := Int.mul_ediv_add_emod w g
    have h1 := Int.emod_nonneg w (show g ≠ 0 by omega)
    have h2 := Int.emod_lt_of_pos w gp
    have h3 : w / g * g = g * (w / g) := Int.mul_comm ..
    omega
theorem s_same (n : Nat) (st : Sto) (v w x y a b : Int) (ha : Sz 60 a) (hb : Sz 60 b) (h1 : Sz 60 (v - x)) (h2 : Sz 60 (w - y)) (h0 : a * a + b * b ≠ 0) :
    callD fds anc (n + 4) 12 [V2 v w, V2 x y, V2 a b] st = .ok (.bl (decide (Dv a b (v - x) (w - y)))) st := by
  have e0 := s_diff (n + 2) st v w x y
  have e6 := s_divides n st a b (v - x) (w - y) ha hb h1 h2 h0
  refine run_ret (F := F12) (ρ0 := [some (V2 v w), some (V2 x y), some (V2 a b)]) (ρ1 := [some (V2 v w), some (V2 x y), some (V2 a b)]) rfl rfl rfl rfl ?_ rfl
  simp [F12, b12, evSs, evS, evE, evEs, evO, evT, evIt, RS.of, R.bind, R.of, RS.seq, idxD, seqD, ixD, opB, opC, truD, setT, setTs, eqD, full, frz, D.sub, D.subL, D.eqv, D.eqvL, D.depth, D.depthL, biD, permD, opI, newL, SZ, isiD, tyOk, lstD, setD, mtD, okM, e0, e6]
/-- a row of the box -/
def row (g : Nat) (x : Int) : List D := (List.range g).map fun (y : Nat) => V2 x (y : Int)
def rows (g W : Nat) : List D := (List.range W).flatMap fun (x : Nat) => row g (x : Int)
theorem rng_nat (g : Nat) : rngD 0 (g : Int) = (List.range g).map fun k => .int (k : Nat) := by
  unfold rngD
  simp
theorem rng_len (g : Nat) : (rngD 0 (g : Int)).length = g := by rw [rng_nat]; simp
theorem rows_len (g W : Nat) : (rows g W).length = W * g := by
  unfold rows row
  induction W with
  | zero => simp
  | succ W ih =>
    rw [List.range_succ, List.flatMap_append, List.length_append, ih]
    simp [Nat.succ_mul]
theorem rows_succ (g W : Nat) : rows g (W + 1) = rows g W ++ row g W := by
  unfold rows
  rw [List.range_succ, List.flatMap_append]
  simp
theorem small_of {i : Int} (h1 : 0 ≤ i) (h2 : i < 1000000) : small62 i = true := by
  unfold small62
  by_cases h : i = 0
  · subst h; rfl
  · have : i.natAbs.log2 < 62 := (Nat.log2_lt (by omega)).mpr (by omega)
    simp [this]
theorem frz_row : ∀ (l : List D), (∀ d ∈ l, ∃ x y : Int, d = V2 x y) → ∀ f, D.subXL f l = some l := by
  intro l
  induction l with
  | nil => intro _ f; rfl
  | cons d l ih =>
    intro h f
    obtain ⟨x, y, rfl⟩ := h d (List.mem_cons_self ..)
    have := ih (fun d hd => h d (List.mem_cons_of_mem _ hd)) f
    simp [D.subXL, D.subX, this]
theorem rows_mem {g W : Nat} {d : D} (h : d ∈ rows g W) : ∃ x y : Nat, d = V2 x y ∧ x < W ∧ y < g := by
  unfold rows row at h
  obtain ⟨x, hx, hd⟩ := List.mem_flatMap.mp h
  obtain ⟨y, hy, rfl⟩ := List.mem_map.mp hd
  exact ⟨x, y, rfl, List.mem_range.mp hx, List.mem_range.mp hy⟩
theorem s_all (n : Nat) (st : Sto) (a b : Int) (W g : Nat) (ha : a.natAbs ≤ 1000) (hb : b.natAbs ≤ 1000) (h0 : a * a + b * b ≠ 0) (hg : (Int.gcd a b : Int) = g) (hW : (a * a + b * b) / (Int.gcd a b : Int) = W) (hs : W * g ≤ 1000) (hW1 : W ≤ 1000) (hg1 : g ≤ 1000) :
    callD fds anc (n + 3) 11 [V2 a b] st = .ok (.tup (rows g W)) st := by
  obtain ⟨p, q, a', b', B, ze, e9⟩ := s_sizes n st a b ha hb h0
  rw [hW, hg] at e9
  generalize p * a - q * b = e at e9
  have loop := for_rule0 (n := W) (b := turn ⟨callD fds anc (n + 2), anc⟩ (.nm 5) [.expr (.mth .extend (.var 4) [.lc false (.nm 6) (.rng1 (.var 2)) [] (.tup [.var 5, .var 6]) [6]])])
    (fun i ρ s => ∃ z : Option D, ρ = [some (V2 a b), some (.int W), some (.int g), some (.int e), some (.loc st.length), z, none] ∧ s = st ++ [.lst (rows g i)])
    (xs := rngD 0 (W : Int)) (ρ := [some (V2 a b), some (.int W), some (.int g), some (.int e), some (.loc st.length), none, none]) (st := st ++ [.lst []]) (rng_len W) ⟨none, rfl, rfl⟩ (by
      rintro j x ρ s hx ⟨z, rfl, rfl⟩
      rw [rng_nat, List.getElem?_map] at hx
      cases hj : (List.range W)[j]? with
      | none => rw [hj] at hx; cases hx
      | some j' =>
        rw [hj] at hx
        have hlt : j < W := by have := (List.getElem?_eq_some_iff.mp hj).1; simpa using this
        rw [List.getElem?_range hlt] at hj
        cases hj
        cases hx
        have lc : compS (cTurn (.nm 6) [6] (evCs ⟨callD fds anc (n + 2), anc⟩ []) (evE ⟨callD fds anc (n + 2), anc⟩ (.tup [.var 5, .var 6])) [some (V2 a b), some (.int W), some (.int g), some (.int e), some (.loc st.length), some (.int j), none]) (rngD 0 (g : Int)) [] (st ++ [.lst (rows g j)]) = .ok ([] ++ (rngD 0 (g : Int)).map fun y => .tup [.int j, y]) (st ++ [.lst (rows g j)]) := by
          refine compS_map _ _ fun y hy => ?_
          simp [cTurn, wipeD, evCs, evSs, evS, evE, evEs, evO, evT, evIt, RS.of, R.bind, R.of, RS.seq, idxD, seqD, ixD, opB, opC, truD, setT, setTs, eqD, full, frz, D.sub, D.subL, D.eqv, D.eqvL, D.depth, D.depthL, biD, permD, opI, newL, SZ, isiD, tyOk, lstD, setD, mtD, okM]
        have hrow : ((rngD 0 (g : Int)).map fun y => D.tup [.int j, y]) = row g j := by
          rw [rng_nat, List.map_map]
          rfl
        rw [hrow, List.nil_append] at lc
        have ln := rows_len g j
        have lm : (row g j).length = g := by simp [row]
        have hjg : j * g ≤ 1000 := Nat.le_trans (Nat.mul_le_mul_right _ (by omega)) hs
        have sg : small62 (g : Int) = true := small_of (by omega) (by omega)
        have s1 : g ≤ 10000000 := by omega
        have s2 : j * g + g ≤ 10000000 := by omega
        refine ⟨_, st ++ [.lst (rows g (j + 1))], .inl ?_, some (.int j), rfl, rfl⟩
        rw [rows_succ]
        have lc' : evE ⟨callD fds anc (n + 2), anc⟩ (.lc false (.nm 6) (.rng1 (.var 2)) [] (.tup [.var 5, .var 6]) [6]) [some (V2 a b), some (.int W), some (.int g), some (.int e), some (.loc st.length), some (.int j), none] (st ++ [.lst (rows g j)]) = .ok (.lst (row g j)) (st ++ [.lst (rows g j)]) := by
          have h1 : evIt ⟨callD fds anc (n + 2), anc⟩ (.rng1 (.var 2)) [some (V2 a b), some (.int W), some (.int g), some (.int e), some (.loc st.length), some (.int j), none] (st ++ [.lst (rows g j)]) = .ok (.st (rngD 0 (g : Int))) (st ++ [.lst (rows g j)]) := by
            simp [evSs, evS, evE, evEs, evO, evT, evIt, RS.of, R.bind, R.of, RS.seq, idxD, seqD, ixD, opB, opC, truD, setT, setTs, eqD, full, frz, D.sub, D.subL, D.eqv, D.eqvL, D.depth, D.depthL, biD, permD, opI, newL, SZ, isiD, tyOk, lstD, setD, mtD, okM, sg]
          rw [ev_lc h1 lc, newL_ok (by omega)]
        show evSs ⟨callD fds anc (n + 2), anc⟩ [.expr (.mth .extend (.var 4) [.lc false (.nm 6) (.rng1 (.var 2)) [] (.tup [.var 5, .var 6]) [6]])] [some (V2 a b), some (.int W), some (.int g), some (.int e), some (.loc st.length), some (.int j), none] (st ++ [.lst (rows g j)]) = _
        have h2 : evE ⟨callD fds anc (n + 2), anc⟩ (.mth .extend (.var 4) [.lc false (.nm 6) (.rng1 (.var 2)) [] (.tup [.var 5, .var 6]) [6]]) [some (V2 a b), some (.int W), some (.int g), some (.int e), some (.loc st.length), some (.int j), none] (st ++ [.lst (rows g j)]) = .ok .non (st ++ [.lst (rows g j ++ row g j)]) := by
          have h3 : evEs ⟨callD fds anc (n + 2), anc⟩ [.lc false (.nm 6) (.rng1 (.var 2)) [] (.tup [.var 5, .var 6]) [6]] [some (V2 a b), some (.int W), some (.int g), some (.int e), some (.loc st.length), some (.int j), none] (st ++ [.lst (rows g j)]) = .ok [.lst (row g j)] (st ++ [.lst (rows g j)]) := by
            rw [evEs, lc']
            rfl
          rw [evE.eq_19, evE.eq_1]
          simp [R.bind, okM, h3]
          simp [mtD, lstD, ln, lm, s2, SZ]
        rw [evSs, evS, h2]
        rfl)
  obtain ⟨ρ', s', hl, z, rfl, rfl⟩ := loop
  refine run_retA (F := F11) (ρ0 := [some (V2 a b), none, none, none, none, none, none]) (ex := [.lst (rows g W)]) (ρ1 := [some (V2 a b), some (.int W), some (.int g), some (.int e), some (.loc st.length), z, none]) (d := .tup (rows g W)) rfl rfl rfl rfl ?_ ?_
  · rw [show F11.body = b11 from rfl, b11, ev_cons (ρ1 := [some (V2 a b), some (.int W), some (.int g), some (.int e), none, none, none]) (st1 := st) (by simp [evSs, evS, evE, evEs, evO, evT, evIt, RS.of, R.bind, R.of, RS.seq, idxD, seqD, ixD, opB, opC, truD, setT, setTs, eqD, full, frz, D.sub, D.subL, D.eqv, D.eqvL, D.depth, D.depthL, biD, permD, opI, newL, SZ, isiD, tyOk, lstD, setD, mtD, okM, e9]), ev_cons (ρ1 := [some (V2 a b), some (.int W), some (.int g), some (.int e), some (.loc st.length), none, none]) (st1 := st ++ [.lst []]) (by simp [evSs, evS, evE, evEs, evO, evT, evIt, RS.of, R.bind, R.of, RS.seq, idxD, seqD, ixD, opB, opC, truD, setT, setTs, eqD, full, frz, D.sub, D.subL, D.eqv, D.eqvL, D.depth, D.depthL, biD, permD, opI, newL, SZ, isiD, tyOk, lstD, setD, mtD, okM]), ev_for (xs := rngD 0 (W : Int)) (st1 := st ++ [.lst []]) (by simp [evSs, evS, evE, evEs, evO, evT, evIt, RS.of, R.bind, R.of, RS.seq, idxD, seqD, ixD, opB, opC, truD, setT, setTs, eqD, full, frz, D.sub, D.subL, D.eqv, D.eqvL, D.depth, D.depthL, biD, permD, opI, newL, SZ, isiD, tyOk, lstD, setD, mtD, okM, small_of (i := (W : Int)) (by omega) (by omega)]) hl]
    simp [evSs, evS, evE, evEs, RS.of, R.bind, RS.seq, biD, seqD]
  · have := frz_row (rows g W) (fun d hd => by
      obtain ⟨x, y, h, _⟩ := rows_mem hd
      exact ⟨x, y, h⟩) 
    simp [frzX, D.subX, this]
end K34
set_option Elab.async false
set_option linter.all false
set_option maxRecDepth 100000
set_option maxHeartbeats 1000000
namespace K34
open DI
theorem s_lgcd (n : Nat) (st : Sto) (a b : Int) (hb : b.natAbs ≤ 1000) : callD fds anc (n + 1) 17 [.int a, .int b] st = .ok (.int (Int.gcd a b)) st := by
  let I : Nat → Env → Sto → Prop := fun w ρ s => s = st ∧ ∃ (x y : Int) (z : Option D), ρ = [some (.int a), some (.int b), some (.int x), some (.int y), z] ∧ 0 ≤ x ∧ 0 ≤ y ∧ Int.gcd x y = Int.gcd a b ∧ w = y.natAbs
  let Q : Env → Sto → Prop := fun ρ s => s = st ∧ ∃ (x : Int) (z : Option D), ρ = [some (.int a), some (.int b), some (.int x), some (.int 0), z] ∧ 0 ≤ x ∧ Int.gcd x 0 = Int.gcd a b
  have aa : (if a < 0 then -a else a) = (a.natAbs : Int) := by split <;> omega
  have bb : (if b < 0 then -b else b) = (b.natAbs : Int) := by split <;> omega
  obtain ⟨ρ', s', hw, rfl, x, z, rfl, k1, k2⟩ := while_rule (t := fun ρ st => evT ⟨callD fds anc n, anc⟩ (.cmp .gt (.var 3) (.cst (.int 0))) ρ st) (b := fun ρ st => evSs ⟨callD fds anc n, anc⟩ [.asg (.nm 4) (.bin .mod (.bi .int [.var 2]) (.var 3)), .asg (.nm 2) (.var 3), .asg (.nm 3) (.var 4)] ρ st) I Q (by
    rintro w ρ s ⟨rfl, x, y, z, rfl, h1, h2, h3, rfl⟩
    by_cases h0 : y = 0
    · subst h0
      left
      exact ⟨s, by simp [evSs, evS, evE, evEs, evO, evT, evIt, RS.of, R.bind, R.of, RS.seq, idxD, seqD, ixD, opB, opC, truD, setT, setTs, eqD, full, frz, D.sub, D.subL, D.eqv, D.eqvL, D.depth, D.depthL, biD, permD, opI, newL, SZ, isiD, tyOk, lstD, setD, mtD, okM], rfl, x, z, rfl, h1, h3⟩
    · right
      have hp : 0 < y := by omega
      have m1 := Int.emod_nonneg x h0
      have m2 := Int.emod_lt_of_pos x hp
      refine ⟨s, [some (.int a), some (.int b), some (.int y), some (.int (x % y)), some (.int (x % y))], s, (x % y).natAbs, by simp [evSs, evS, evE, evEs, evO, evT, evIt, RS.of, R.bind, R.of, RS.seq, idxD, seqD, ixD, opB, opC, truD, setT, setTs, eqD, full, frz, D.sub, D.subL, D.eqv, D.eqvL, D.depth, D.depthL, biD, permD, opI, newL, SZ, isiD, tyOk, lstD, setD, mtD, okM, hp], .inl ?_, by omega, rfl, y, x % y, some (.int (x % y)), rfl, h2, m1, ?_, rfl⟩
      · simp [evSs, evS, evE, evEs, evO, evT, evIt, RS.of, R.bind, R.of, RS.seq, idxD, seqD, ixD, opB, opC, truD, setT, setTs, eqD, full, frz, D.sub, D.subL, D.eqv, D.eqvL, D.depth, D.depthL, biD, permD, opI, newL, SZ, isiD, tyOk, lstD, setD, mtD, okM, hp]
      · rw [← h3, show x % y = x - x / y * y by have := Int.mul_ediv_add_emod x y; rw [Int.mul_comm] at this; omega]
        exact gcd_step)
    FUEL b.natAbs [some (.int a), some (.int b), some (.int a.natAbs), some (.int b.natAbs), none] st (Nat.lt_of_le_of_lt hb (by unfold FUEL; decide)) ⟨rfl, a.natAbs, b.natAbs, none, rfl, by omega, by omega, by simp [Int.gcd], by simp⟩
  have hx : x = (Int.gcd a b : Int) := by rw [← k2]; simp; omega
  refine run_ret (F := F17) (ρ0 := [some (.int a), some (.int b), none, none, none]) (ρ1 := [some (.int a), some (.int b), some (.int x), some (.int 0), z]) rfl rfl rfl rfl ?_ rfl
  rw [show F17.body = b17 from rfl, b17, ev_cons (ρ1 := [some (.int a), some (.int b), some (.int a.natAbs), none, none]) (st1 := s') (by simp [evSs, evS, evE, evEs, evO, evT, evIt, RS.of, R.bind, R.of, RS.seq, idxD, seqD, ixD, opB, opC, truD, setT, setTs, eqD, full, frz, D.sub, D.subL, D.eqv, D.eqvL, D.depth, D.depthL, biD, permD, opI, newL, SZ, isiD, tyOk, lstD, setD, mtD, okM, aa]), ev_cons (ρ1 := [some (.int a), some (.int b), some (.int a.natAbs), some (.int b.natAbs), none]) (st1 := s') (by simp [evSs, evS, evE, evEs, evO, evT, evIt, RS.of, R.bind, R.of, RS.seq, idxD, seqD, ixD, opB, opC, truD, setT, setTs, eqD, full, frz, D.sub, D.subL, D.eqv, D.eqvL, D.depth, D.depthL, biD, permD, opI, newL, SZ, isiD, tyOk, lstD, setD, mtD, okM, bb]), ev_whl hw]
  simp [evSs, evS, evE, evEs, evO, evT, evIt, RS.of, R.bind, R.of, RS.seq, idxD, seqD, ixD, opB, opC, truD, setT, setTs, eqD, full, frz, D.sub, D.subL, D.eqv, D.eqvL, D.depth, D.depthL, biD, permD, opI, newL, SZ, isiD, tyOk, lstD, setD, mtD, okM, hx]
def rowT (i : Nat) (x : Int) : List D := row i x
theorem row_succ (i : Nat) (x : Int) : row (i + 1) x = row i x ++ [V2 x i] := by
  unfold row
  rw [List.range_succ, List.map_append]
  rfl
theorem rng_at {W j : Nat} {x : D} (hx : (rngD 0 (W : Int))[j]? = some x) : j < W ∧ x = .int j := by
  rw [rng_nat, List.getElem?_map] at hx
  cases hj : (List.range W)[j]? with
  | none => rw [hj] at hx; cases hx
  | some j' =>
    rw [hj] at hx
    have hlt : j < W := by have := (List.getElem?_eq_some_iff.mp hj).1; simpa using this
    rw [List.getElem?_range hlt] at hj
    cases hj
    cases hx
    exact ⟨hlt, rfl⟩
theorem ev_rng1 {C : Cal} {a : Ex} {ρ : Env} {st st1 : Sto} {i : Int} (h : evE C a ρ st = .ok (.int i) st1) (hs : small62 i = true) : evIt C (.rng1 a) ρ st = .ok (.st (rngD 0 i)) st1 := by
  rw [evIt, h]
  simp only [R.bind, hs, if_true]
theorem s_box (n : Nat) (st : Sto) (a b : Int) (W g : Nat) (ha : a.natAbs ≤ 1000) (hb : b.natAbs ≤ 1000) (h0 : 0 < a * a + b * b) (hg : (Int.gcd a b : Int) = g) (hW : (a * a + b * b) / (Int.gcd a b : Int) = W) (hs : W * g ≤ 1000) (hW1 : W ≤ 1000) (hg1 : g ≤ 1000) (hg0 : 0 < g) :
    callD fds anc (n + 2) 19 [V2 a b] st = .ok (.lst (rows g W)) st := by
  have m {j k : Nat} {u v : Int} (h1 : Sz j u) (h2 : Sz k v) (hj : j ≤ 400000 := by decide) (hk : k ≤ 400000 := by decide) : mulOk u v = true := h1.ok h2 hj hk
  have za : Sz 60 a := Nat.lt_of_le_of_lt ha (by decide)
  have zb : Sz 60 b := Nat.lt_of_le_of_lt hb (by decide)
  have e17 := fun st => s_lgcd n st a b hb
  rw [hg] at e17 hW
  generalize hN : a * a + b * b = N at *
  have inner : ∀ (j : Nat), j < W → ∀ z : Option D, ∃ z' : Option D, forS (turn ⟨callD fds anc (n + 1), anc⟩ (.nm 5) [.expr (.mth .append (.var 3) [.tup [.var 4, .var 5]])]) (rngD 0 (g : Int)) [some (V2 a b), some (.int N), some (.int g), some (.loc st.length), some (.int j), z] (st ++ [.lst (rows g j)]) = .ok .nx [some (V2 a b), some (.int N), some (.int g), some (.loc st.length), some (.int j), z'] (st ++ [.lst (rows g j ++ row g j)]) := by
    intro j hj z
    obtain ⟨ρ', s', hl, z', rfl, rfl⟩ := for_rule0 (n := g) (b := turn ⟨callD fds anc (n + 1), anc⟩ (.nm 5) [.expr (.mth .append (.var 3) [.tup [.var 4, .var 5]])])
      (fun i ρ s => ∃ z : Option D, ρ = [some (V2 a b), some (.int N), some (.int g), some (.loc st.length), some (.int j), z] ∧ s = st ++ [.lst (rows g j ++ row i j)]) (xs := rngD 0 (g : Int)) (ρ := [some (V2 a b), some (.int N), some (.int g), some (.loc st.length), some (.int j), z]) (st := st ++ [.lst (rows g j)]) (rng_len g) ⟨z, rfl, by simp [row]⟩ (by
        rintro i x ρ s hx ⟨z, rfl, rfl⟩
        obtain ⟨hi, rfl⟩ := rng_at hx
        have ln := rows_len g j
        have lm : (row i j).length = i := by simp [row]
        have hjg : j * g ≤ 1000 := Nat.le_trans (Nat.mul_le_mul_right _ (by omega)) hs
        have s2 : j * g + i < 10000000 := by omega
        refine ⟨[some (V2 a b), some (.int N), some (.int g), some (.loc st.length), some (.int j), some (.int i)], st ++ [.lst (rows g j ++ row (i + 1) j)], .inl ?_, some (.int i), rfl, rfl⟩
        rw [row_succ, ← List.append_assoc]
        generalize hr : rows g j ++ row i j = r
        have lr : r.length < 10000000 := by rw [← hr, List.length_append, ln, lm]; exact s2
        simp [turn, evSs, evS, evE, evEs, evO, evT, evIt, RS.of, R.bind, R.of, RS.seq, idxD, seqD, ixD, opB, opC, truD, setT, setTs, eqD, full, frz, D.sub, D.subL, D.eqv, D.eqvL, D.depth, D.depthL, biD, permD, opI, newL, SZ, isiD, tyOk, lstD, setD, mtD, okM, lr])
    exact ⟨z', hl⟩
  obtain ⟨ρ', s', hl, y1, y2, rfl, rfl⟩ := for_rule0 (n := W) (b := turn ⟨callD fds anc (n + 1), anc⟩ (.nm 4) [.for_ (.nm 5) (.rng1 (.var 2)) [.expr (.mth .append (.var 3) [.tup [.var 4, .var 5]])]])
    (fun i ρ s => ∃ y z : Option D, ρ = [some (V2 a b), some (.int N), some (.int g), some (.loc st.length), y, z] ∧ s = st ++ [.lst (rows g i)]) (xs := rngD 0 (W : Int)) (ρ := [some (V2 a b), some (.int N), some (.int g), some (.loc st.length), none, none]) (st := st ++ [.lst []]) (rng_len W) ⟨none, none, rfl, rfl⟩ (by
      rintro j x ρ s hx ⟨y, z, rfl, rfl⟩
      obtain ⟨hj, rfl⟩ := rng_at hx
      obtain ⟨z', hin⟩ := inner j hj z
      refine ⟨[some (V2 a b), some (.int N), some (.int g), some (.loc st.length), some (.int j), z'], st ++ [.lst (rows g (j + 1))], .inl ?_, some (.int j), z', rfl, rfl⟩
      rw [rows_succ]
      show evSs _ _ ([some (V2 a b), some (.int N), some (.int g), some (.loc st.length), some (.int j), z]) _ = _
      rw [ev_for (ev_rng1 (i := (g : Int)) (st1 := st ++ [.lst (rows g j)]) (by simp [evSs, evS, evE, evEs, evO, evT, evIt, RS.of, R.bind, R.of, RS.seq, idxD, seqD, ixD, opB, opC, truD, setT, setTs, eqD, full, frz, D.sub, D.subL, D.eqv, D.eqvL, D.depth, D.depthL, biD, permD, opI, newL, SZ, isiD, tyOk, lstD, setD, mtD, okM]) (small_of (by omega) (by omega))) hin]
      rfl)
  refine run_retA (F := F19) (ρ0 := [some (V2 a b), none, none, none, none, none]) (ex := [.lst (rows g W)]) (ρ1 := [some (V2 a b), some (.int N), some (.int g), some (.loc st.length), y1, y2]) (d := .loc st.length) rfl rfl rfl rfl ?_ ?_
  · have gl : (g : Int).natAbs.log2 < 9000 := log_ok (k := 60) (show (g : Int).natAbs < 2 ^ 60 from Nat.lt_of_le_of_lt (by simpa using hg1) (by decide)) (by decide)
    have gp : 0 < (g : Int) := by omega
    have hW' : N / (g : Int) = W := hW
    rw [show F19.body = b19 from rfl, b19, ev_cons (ρ1 := [some (V2 a b), some (.int N), none, none, none, none]) (st1 := st) (by simp [evSs, evS, evE, evEs, evO, evT, evIt, RS.of, R.bind, R.of, RS.seq, idxD, seqD, ixD, opB, opC, truD, setT, setTs, eqD, full, frz, D.sub, D.subL, D.eqv, D.eqvL, D.depth, D.depthL, biD, permD, opI, newL, SZ, isiD, tyOk, lstD, setD, mtD, okM, m za za, m zb zb, hN]), ev_cons (ρ1 := [some (V2 a b), some (.int N), some (.int g), none, none, none]) (st1 := st) (by simp [evSs, evS, evE, evEs, evO, evT, evIt, RS.of, R.bind, R.of, RS.seq, idxD, seqD, ixD, opB, opC, truD, setT, setTs, eqD, full, frz, D.sub, D.subL, D.eqv, D.eqvL, D.depth, D.depthL, biD, permD, opI, newL, SZ, isiD, tyOk, lstD, setD, mtD, okM, e17]), ev_cons (ρ1 := [some (V2 a b), some (.int N), some (.int g), some (.loc st.length), none, none]) (st1 := st ++ [.lst []]) (by simp [evSs, evS, evE, evEs, evO, evT, evIt, RS.of, R.bind, R.of, RS.seq, idxD, seqD, ixD, opB, opC, truD, setT, setTs, eqD, full, frz, D.sub, D.subL, D.eqv, D.eqvL, D.depth, D.depthL, biD, permD, opI, newL, SZ, isiD, tyOk, lstD, setD, mtD, okM]),
      ev_for (ev_rng1 (i := (W : Int)) (st1 := st ++ [.lst []]) (by simp only [evE, List.getElem?_cons_zero, List.getElem?_cons_succ, R.bind, opB, gp, gl, and_self, if_true, R.of, hW']) (small_of (by omega) (by omega))) hl]
    simp [evSs, evS, evE, RS.of, R.bind, RS.seq]
  · have := frz_row (rows g W) (fun d hd => by
      obtain ⟨x, y, h, _⟩ := rows_mem hd
      exact ⟨x, y, h⟩)
    simp [frzX, D.subX, this]
end K34
set_option Elab.async false
set_option linter.all false
set_option maxRecDepth 100000
set_option maxHeartbeats 1000000
namespace K34
open DI
theorem s_lrest (n : Nat) (st : Sto) (a b v w x y : Int) (l : List D) (ha : Sz 60 a) (hb : Sz 60 b) (h0 : 0 < a * a + b * b) (hl : ∀ d ∈ l, ∃ u t : Int, d = V2 u t ∧ Sz 60 (v - u) ∧ Sz 60 (w - t)) (hm : V2 x y ∈ l) (hd : Dv a b (v - x) (w - y))
    (hu : ∀ u t, V2 u t ∈ l → Dv a b (v - u) (w - t) → u = x ∧ t = y) : callD fds anc (n + 2) 20 [V2 a b, .lst l, V2 v w] st = .ok (V2 x y) st := by
  have loop : ∀ (r : List D), (∀ d ∈ r, d ∈ l) → V2 x y ∈ r → ∀ z : Option D, ∃ z', forS (turn ⟨callD fds anc (n + 1), anc⟩ (.nm 3) [.ife (.call 18 [.var 0, .tup [.bin .sub (.idx (.var 2) (.cst (.int 0))) (.idx (.var 3) (.cst (.int 0))), .bin .sub (.idx (.var 2) (.cst (.int 1))) (.idx (.var 3) (.cst (.int 1)))]] [0, 1]) [.ret (.var 3)] []]) r [some (V2 a b), some (.lst l), some (V2 v w), z] st = .ok (.rt (V2 x y)) [some (V2 a b), some (.lst l), some (V2 v w), z'] st := by
    intro r
    induction r with
    | nil => intro _ h; cases h
    | cons d r ih =>
      intro hr hx z
      obtain ⟨u, t, rfl, s1, s2⟩ := hl d (hr d (List.mem_cons_self ..))
      have e18 := s_ldiv n st a b (v - u) (w - t) ha hb s1 s2 h0
      by_cases hD : Dv a b (v - u) (w - t)
      · obtain ⟨rfl, rfl⟩ := hu u t (hr _ (List.mem_cons_self ..)) hD
        refine ⟨some (V2 u t), ?_⟩
        rw [forS]
        simp [turn, evSs, evS, evE, evEs, evO, evT, evIt, RS.of, R.bind, R.of, RS.seq, idxD, seqD, ixD, opB, opC, truD, setT, setTs, eqD, full, frz, D.sub, D.subL, D.eqv, D.eqvL, D.depth, D.depthL, biD, permD, opI, newL, SZ, isiD, tyOk, lstD, setD, mtD, okM, e18, hD]
      · rcases List.mem_cons.mp hx with e | hx
        · injection e with e
          injection e with e1 e2
          injection e2 with e2 _
          injection e1 with e1
          injection e2 with e2
          subst e1 e2
          exact absurd hd hD
        · obtain ⟨z', k⟩ := ih (fun d hd => hr d (List.mem_cons_of_mem _ hd)) hx (some (V2 u t))
          refine ⟨z', ?_⟩
          rw [forS]
          simp only [turn, setT, List.set_cons_zero, List.set_cons_succ]
          have : evSs ⟨callD fds anc (n + 1), anc⟩ [.ife (.call 18 [.var 0, .tup [.bin .sub (.idx (.var 2) (.cst (.int 0))) (.idx (.var 3) (.cst (.int 0))), .bin .sub (.idx (.var 2) (.cst (.int 1))) (.idx (.var 3) (.cst (.int 1)))]] [0, 1]) [.ret (.var 3)] []] [some (V2 a b), some (.lst l), some (V2 v w), some (V2 u t)] st = .ok .nx [some (V2 a b), some (.lst l), some (V2 v w), some (V2 u t)] st := by
            simp [evSs, evS, evE, evEs, evO, evT, evIt, RS.of, R.bind, R.of, RS.seq, idxD, seqD, ixD, opB, opC, truD, setT, setTs, eqD, full, frz, D.sub, D.subL, D.eqv, D.eqvL, D.depth, D.depthL, biD, permD, opI, newL, SZ, isiD, tyOk, lstD, setD, mtD, okM, e18, hD]
          rw [this]
          exact k
  obtain ⟨z', k⟩ := loop l (fun _ h => h) hm none
  refine run_ret (F := F20) (ρ0 := [some (V2 a b), some (.lst l), some (V2 v w), none]) (ρ1 := [some (V2 a b), some (.lst l), some (V2 v w), z']) rfl rfl rfl rfl ?_ rfl
  rw [show F20.body = b20 from rfl, b20]
  exact ev_for_rt (xs := l) (st1 := st) (by simp [evSs, evS, evE, evEs, evO, evT, evIt, RS.of, R.bind, R.of, RS.seq, idxD, seqD, ixD, opB, opC, truD, setT, setTs, eqD, full, frz, D.sub, D.subL, D.eqv, D.eqvL, D.depth, D.depthL, biD, permD, opI, newL, SZ, isiD, tyOk, lstD, setD, mtD, okM, srcD]) k
/-- the reel -/
def Rl (k : Int) (st : Sto) : Prop := ∃ m c : Int, st = [.lst [.int m, .int c]] ∧ 0 ≤ m ∧ m < 2305843009213693951 ∧ 0 ≤ c ∧ c ≤ k
theorem s_pick (n : Nat) (st : Sto) (k many : Int) (h : Rl k st) (hk : k ≤ 1000000) (hm : 0 < many) : ∃ (r : Int) (st' : Sto), callD fds anc (n + 1) 14 [.loc 0, .int many] st = .ok (.int r) st' ∧ Rl (k + 1) st' ∧ 0 ≤ r ∧ r < many := by
  obtain ⟨m, c, rfl, h1, h2, h3, h4⟩ := h
  have mk {j k : Nat} {u v : Int} (h1 : Sz j u) (h2 : Sz k v) (hj : j ≤ 400000 := by decide) (hk : k ≤ 400000 := by decide) : mulOk u v = true := h1.ok h2 hj hk
  have zm : Sz 61 m := by unfold Sz; omega
  have zc : Sz 61 (c + 1) := by unfold Sz; omega
  have z1 : Sz 61 22801763 := by unfold Sz; decide
  have z2 : Sz 61 49979687 := by unfold Sz; decide
  have g1 := mk zm z1
  have g2 := mk zc z2
  generalize hM : (m * 22801763 + (c + 1) * 49979687 + 97) % 2305843009213693951 = M
  have M0 : 0 ≤ M := by rw [← hM]; exact Int.emod_nonneg _ (by decide)
  have M1 : M < 2305843009213693951 := by rw [← hM]; exact Int.emod_lt_of_pos _ (by decide)
  have hR : Rl (k + 1) [.lst [.int M, .int (c + 1)]] := ⟨M, c + 1, rfl, M0, M1, by omega, by omega⟩
  have kp : keeps 1 [Ob.lst [.int m, .int c]] [Ob.lst [.int M, .int (c + 1)]] = true := by simp [keeps, Ob.lo, D.loL, D.lo]
  have pre : ∀ (rest : List Cm), evSs ⟨callD fds anc n, anc⟩ (.setIx (.var 0) (.cst (.int 1)) (.bin .add (.idx (.var 0) (.cst (.int 1))) (.cst (.int 1))) :: .asg (.nm 2) (.bin .mod (.bi .int [.bin .add (.bin .add (.bin .mul (.bi .int [.idx (.var 0) (.cst (.int 0))]) (.cst (.int 22801763))) (.bin .mul (.bi .int [.idx (.var 0) (.cst (.int 1))]) (.cst (.int 49979687)))) (.cst (.int 97))]) (.cst (.int 2305843009213693951))) :: .setIx (.var 0) (.cst (.int 0)) (.var 2) :: .asg (.nm 3) (.bin .fdiv (.var 2) (.cst (.int 1048576))) :: rest) [some (.loc 0), some (.int many), none, none] [.lst [.int m, .int c]] = evSs ⟨callD fds anc n, anc⟩ rest [some (.loc 0), some (.int many), some (.int M), some (.int (M / 1048576))] [.lst [.int M, .int (c + 1)]] := by
    intro rest
    rw [ev_cons (ρ1 := [some (.loc 0), some (.int many), none, none]) (st1 := [.lst [.int m, .int (c + 1)]]) (by simp [evSs, evS, evE, evEs, evO, evT, evIt, RS.of, R.bind, R.of, RS.seq, idxD, seqD, ixD, opB, opC, truD, setT, setTs, eqD, full, frz, D.sub, D.subL, D.eqv, D.eqvL, D.depth, D.depthL, biD, permD, opI, newL, SZ, isiD, tyOk, lstD, setD, mtD, okM]),
      ev_cons (ρ1 := [some (.loc 0), some (.int many), some (.int M), none]) (st1 := [.lst [.int m, .int (c + 1)]]) (by simp [evSs, evS, evE, evEs, evO, evT, evIt, RS.of, R.bind, R.of, RS.seq, idxD, seqD, ixD, opB, opC, truD, setT, setTs, eqD, full, frz, D.sub, D.subL, D.eqv, D.eqvL, D.depth, D.depthL, biD, permD, opI, newL, SZ, isiD, tyOk, lstD, setD, mtD, okM, g1, g2, hM]),
      ev_cons (ρ1 := [some (.loc 0), some (.int many), some (.int M), none]) (st1 := [.lst [.int M, .int (c + 1)]]) (by simp [evSs, evS, evE, evEs, evO, evT, evIt, RS.of, R.bind, R.of, RS.seq, idxD, seqD, ixD, opB, opC, truD, setT, setTs, eqD, full, frz, D.sub, D.subL, D.eqv, D.eqvL, D.depth, D.depthL, biD, permD, opI, newL, SZ, isiD, tyOk, lstD, setD, mtD, okM]),
      ev_cons (ρ1 := [some (.loc 0), some (.int many), some (.int M), some (.int (M / 1048576))]) (st1 := [.lst [.int M, .int (c + 1)]]) (by simp [evSs, evS, evE, evEs, evO, evT, evIt, RS.of, R.bind, R.of, RS.seq, idxD, seqD, ixD, opB, opC, truD, setT, setTs, eqD, full, frz, D.sub, D.subL, D.eqv, D.eqvL, D.depth, D.depthL, biD, permD, opI, newL, SZ, isiD, tyOk, lstD, setD, mtD, okM, show Nat.log2 1048576 < 9000 by decide])]
  have fin : ∀ r : Int, evSs ⟨callD fds anc n, anc⟩ F14.body [some (.loc 0), some (.int many), none, none] [.lst [.int m, .int c]] = .ok (.rt (.int r)) [some (.loc 0), some (.int many), some (.int M), some (.int (M / 1048576))] [.lst [.int M, .int (c + 1)]] → callD fds anc (n + 1) 14 [.loc 0, .int many] [.lst [.int m, .int c]] = .ok (.int r) [.lst [.int M, .int (c + 1)]] := fun r hb =>
    run_retS (F := F14) rfl rfl rfl rfl hb rfl kp rfl
  by_cases c1 : M / 1048576 % 19 = 4
  · refine ⟨0, _, fin 0 ?_, hR, by omega, hm⟩
    rw [show F14.body = b14 from rfl, b14, pre]
    simp [evSs, evS, evE, evEs, evO, evT, evIt, RS.of, R.bind, R.of, RS.seq, idxD, seqD, ixD, opB, opC, truD, setT, setTs, eqD, full, frz, D.sub, D.subL, D.eqv, D.eqvL, D.depth, D.depthL, biD, permD, opI, newL, SZ, isiD, tyOk, lstD, setD, mtD, okM, c1]
  · by_cases c2 : M / 1048576 % 19 = 11
    · refine ⟨many - 1, _, fin (many - 1) ?_, hR, by omega, by omega⟩
      rw [show F14.body = b14 from rfl, b14, pre]
      simp [evSs, evS, evE, evEs, evO, evT, evIt, RS.of, R.bind, R.of, RS.seq, idxD, seqD, ixD, opB, opC, truD, setT, setTs, eqD, full, frz, D.sub, D.subL, D.eqv, D.eqvL, D.depth, D.depthL, biD, permD, opI, newL, SZ, isiD, tyOk, lstD, setD, mtD, okM, c2]
    · refine ⟨M / 1048576 / 19 % many, _, fin _ ?_, hR, Int.emod_nonneg _ (by omega), Int.emod_lt_of_pos _ hm⟩
      rw [show F14.body = b14 from rfl, b14, pre]
      have e1 : (M / 1048576 % 19 == 4) = false := by simpa using c1
      have e2 : (M / 1048576 % 19 == 11) = false := by simpa using c2
      simp [evSs, evS, evE, evEs, evO, evT, evIt, RS.of, R.bind, R.of, RS.seq, idxD, seqD, ixD, opB, opC, truD, setT, setTs, eqD, full, frz, D.sub, D.subL, D.eqv, D.eqvL, D.depth, D.depthL, biD, permD, opI, newL, SZ, isiD, tyOk, lstD, setD, mtD, okM, e1, e2, hm, show Nat.log2 19 < 9000 by decide]
theorem rl_keeps {k k' : Int} {st st' : Sto} (h : Rl k st) (h' : Rl k' st') : keeps st.length st st' = true ∧ st'.length = st.length ∧ st.length = 1 := by
  obtain ⟨m, c, rfl, _⟩ := h
  obtain ⟨m', c', rfl, _⟩ := h'
  exact ⟨by simp [keeps, Ob.lo, D.loL, D.lo], rfl, rfl⟩
theorem run_rl {n k : Nat} {vs : List D} {st st' : Sto} {F : Fd} {ρ0 ρ1 : Env} {d d' : D} {j j' : Int} (r : Rl j st) (r' : Rl j' st') (h : fds[k]? = some F) (hl : vs.length = F.np) (hk : F.keep = false) (h0 : vs.map some ++ List.replicate (F.nn - vs.length) none = ρ0)
    (hb : evSs ⟨callD fds anc n, anc⟩ F.body ρ0 st = .ok (.rt d) ρ1 st') (hf : frzX st' 1 5 d = some d') : callD fds anc (n + 1) k vs st = .ok d' st' := by
  obtain ⟨k1, k2, k3⟩ := rl_keeps r r'
  exact run_retS h hl hk h0 hb (by rw [k3]; exact hf) k1 k2
theorem s_num (n : Nat) (st : Sto) (k size : Int) (h : Rl k st) (hk : k ≤ 1000000) (hs : 0 ≤ size) (hs2 : size ≤ 1000000000) : ∃ (r : Int) (st' : Sto), callD fds anc (n + 2) 21 [.loc 0, .int size] st = .ok (.int r) st' ∧ Rl (k + 1) st' ∧ -size ≤ r ∧ r ≤ size := by
  obtain ⟨r, st', e, hR, h1, h2⟩ := s_pick n st k (2 * size + 1) h hk (by omega)
  have g : mulOk 2 size = true := sz_two.ok (show Sz 60 size by unfold Sz; omega) (by decide) (by decide)
  refine ⟨r - size, st', run_rl (F := F21) (ρ0 := [some (.loc 0), some (.int size)]) (ρ1 := [some (.loc 0), some (.int size)]) (d := .int (r - size)) h hR rfl rfl rfl rfl ?_ rfl, hR, by omega, by omega⟩
  simp [F21, b21, evSs, evS, evE, evEs, evO, evT, evIt, RS.of, R.bind, R.of, RS.seq, idxD, seqD, ixD, opB, opC, truD, setT, setTs, eqD, full, frz, D.sub, D.subL, D.eqv, D.eqvL, D.depth, D.depthL, biD, permD, opI, newL, SZ, isiD, tyOk, lstD, setD, mtD, okM, g, e]
theorem s_vec (n : Nat) (st : Sto) (k : Int) (h : Rl k st) (hk : k ≤ 100000) : ∃ (x y : Int) (st' : Sto), callD fds anc (n + 3) 23 [.loc 0] st = .ok (V2 x y) st' ∧ Rl (k + 3) st' ∧ Sz 40 x ∧ Sz 40 y := by
  obtain ⟨r, s1, e1, hR1, h1, h2⟩ := s_pick (n + 1) st k 5 h (by omega) (by decide)
  have : ∃ size : Int, 0 ≤ size ∧ size ≤ 1000000000 ∧ ([D.int 3, .int 50, .int 1000, .int 400000000, .int 1000000000] : List D)[r.toNat]? = some (.int size) := by
    have : r = 0 ∨ r = 1 ∨ r = 2 ∨ r = 3 ∨ r = 4 := by omega
    rcases this with rfl | rfl | rfl | rfl | rfl
    · exact ⟨3, by decide, by decide, rfl⟩
    · exact ⟨50, by decide, by decide, rfl⟩
    · exact ⟨1000, by decide, by decide, rfl⟩
    · exact ⟨400000000, by decide, by decide, rfl⟩
    · exact ⟨1000000000, by decide, by decide, rfl⟩
  obtain ⟨size, z1, z2, z3⟩ := this
  obtain ⟨x, s2, e2, hR2, x1, x2⟩ := s_num n s1 (k + 1) size hR1 (by omega) z1 z2
  obtain ⟨y, s3, e3, hR3, y1, y2⟩ := s_num n s2 (k + 1 + 1) size hR2 (by omega) z1 z2
  refine ⟨x, y, s3, run_rl (F := F23) (ρ0 := [some (.loc 0), none]) (ρ1 := [some (.loc 0), some (.int size)]) (d := V2 x y) h hR3 rfl rfl rfl rfl ?_ rfl, by rw [show k + 3 = k + 1 + 1 + 1 by omega]; exact hR3, by unfold Sz; omega, by unfold Sz; omega⟩
  have ix : ixD 5 r = some r.toNat := by unfold ixD; rw [if_pos h1, if_pos (by omega)]
  have e0 : evS ⟨callD fds anc (n + 2), anc⟩ (.asg (.nm 1) (.idx (.lst false [.cst (.int 3), .cst (.int 50), .cst (.int 1000), .cst (.int 400000000), .cst (.int 1000000000)]) (.call 14 [.var 0, .cst (.int 5)] [0, 1]))) [some (.loc 0), none] st = .ok .nx [some (.loc 0), some (.int size)] s1 := by
    simp only [evS, evE, evEs, RS.of, R.bind, newL, SZ, List.length_cons, List.length_nil, permD, List.filterMap_cons, List.filterMap_nil, List.getElem?_cons_zero, List.getElem?_cons_succ, e1, idxD, seqD, Option.bind_some]
    simp [ix, z3, R.of, setT, R.bind, e1, idxD, seqD]
  rw [show F23.body = b23 from rfl, b23, ev_cons e0]
  simp [evSs, evS, evE, evEs, evO, evT, evIt, RS.of, R.bind, R.of, RS.seq, idxD, seqD, ixD, opB, opC, truD, setT, setTs, eqD, full, frz, D.sub, D.subL, D.eqv, D.eqvL, D.depth, D.depthL, biD, permD, opI, newL, SZ, isiD, tyOk, lstD, setD, mtD, okM, e2, e3]
end K34
set_option Elab.async false
set_option linter.all false
set_option maxRecDepth 100000
set_option maxHeartbeats 1000000
namespace K34
open DI
theorem pick_of (r : Int) (h1 : 0 ≤ r) (h2 : r < 6) (l : List D) (h : ∀ d ∈ l, ∃ a b : Int, d = V2 a b ∧ (a ≠ 0 ∨ b ≠ 0) ∧ a.natAbs ≤ 20 ∧ b.natAbs ≤ 20) (hl : l.length = 6) : ixD l.length r = some r.toNat ∧ ∃ a b : Int, l[r.toNat]? = some (V2 a b) ∧ (a ≠ 0 ∨ b ≠ 0) ∧ a.natAbs ≤ 20 ∧ b.natAbs ≤ 20 := by
  have hlt : r.toNat < l.length := by omega
  obtain ⟨a, b, e, k⟩ := h _ (List.getElem_mem hlt)
  refine ⟨by unfold ixD; rw [if_pos h1, if_pos (by omega)], a, b, ?_, k⟩
  rw [List.getElem?_eq_getElem hlt, e]
def L0 : List D := [V2 1 0, V2 0 1, V2 (-1) 0, V2 0 (-1), V2 1 1, V2 1 (-1)]
def L1 : List D := [V2 20 0, V2 12 16, V2 (-16) 12, V2 14 14, V2 0 (-20), V2 19 6]
theorem L0_ok : ∀ d ∈ L0, ∃ a b : Int, d = V2 a b ∧ (a ≠ 0 ∨ b ≠ 0) ∧ a.natAbs ≤ 20 ∧ b.natAbs ≤ 20 := by
  intro d hd
  simp only [L0, List.mem_cons, List.not_mem_nil, or_false] at hd
  rcases hd with rfl | rfl | rfl | rfl | rfl | rfl <;> exact ⟨_, _, rfl, by decide, by decide, by decide⟩
theorem L1_ok : ∀ d ∈ L1, ∃ a b : Int, d = V2 a b ∧ (a ≠ 0 ∨ b ≠ 0) ∧ a.natAbs ≤ 20 ∧ b.natAbs ≤ 20 := by
  intro d hd
  simp only [L1, List.mem_cons, List.not_mem_nil, or_false] at hd
  rcases hd with rfl | rfl | rfl | rfl | rfl | rfl <;> exact ⟨_, _, rfl, by decide, by decide, by decide⟩
theorem s_by (n : Nat) (st : Sto) (k : Int) (h : Rl k st) (hk : k ≤ 100000) : ∃ (a b : Int) (st' : Sto), callD fds anc (n + 3) 22 [.loc 0] st = .ok (V2 a b) st' ∧ Rl (k + 8) st' ∧ (a ≠ 0 ∨ b ≠ 0) ∧ a.natAbs ≤ 20 ∧ b.natAbs ≤ 20 := by
  obtain ⟨hb, s1, e1, hR1, b1', b2'⟩ := s_pick (n + 1) st k 7 h (by omega) (by decide)
  have mono : ∀ {i j : Int} {s : Sto}, Rl i s → i ≤ j → Rl j s := fun {i j s} ⟨m, c, e, a1, a2, a3, a4⟩ l => ⟨m, c, e, a1, a2, a3, by omega⟩
  have start : ∀ rest : List Cm, evSs ⟨callD fds anc (n + 2), anc⟩ (.asg (.nm 1) (.call 14 [.var 0, .cst (.int 7)] [0, 1]) :: rest) [some (.loc 0), none, none, none] st = evSs ⟨callD fds anc (n + 2), anc⟩ rest [some (.loc 0), some (.int hb), none, none] s1 := fun rest => ev_cons (by simp [evSs, evS, evE, evEs, evO, evT, evIt, RS.of, R.bind, R.of, RS.seq, idxD, seqD, ixD, opB, opC, truD, setT, setTs, eqD, full, frz, D.sub, D.subL, D.eqv, D.eqvL, D.depth, D.depthL, biD, permD, opI, newL, SZ, isiD, tyOk, lstD, setD, mtD, okM, e1])
  by_cases c0 : hb = 0
  · obtain ⟨r, s2, e2, hR2, r1, r2⟩ := s_pick (n + 1) s1 (k + 1) 6 hR1 (by omega) (by decide)
    obtain ⟨hi, a, b, ha, q⟩ := pick_of r r1 r2 L0 L0_ok rfl
    refine ⟨a, b, s2, run_rl (F := F22) (ρ0 := [some (.loc 0), none, none, none]) (ρ1 := [some (.loc 0), some (.int hb), none, none]) (d := V2 a b) h hR2 rfl rfl rfl rfl ?_ rfl, mono hR2 (by omega), q⟩
    rw [show F22.body = b22 from rfl, b22, start]
    subst c0
    have eL : ∀ (C : Cal) (ρ : Env) (st : Sto), evE C (.lst false [.tup [.cst (.int 1), .cst (.int 0)], .tup [.cst (.int 0), .cst (.int 1)], .tup [.bin .sub (.cst (.int 0)) (.cst (.int 1)), .cst (.int 0)], .tup [.cst (.int 0), .bin .sub (.cst (.int 0)) (.cst (.int 1))], .tup [.cst (.int 1), .cst (.int 1)], .tup [.cst (.int 1), .bin .sub (.cst (.int 0)) (.cst (.int 1))]]) ρ st = .ok (.lst L0) st := fun C ρ st => rfl
    have eX : evE ⟨callD fds anc (n + 2), anc⟩ (.idx (.lst false [.tup [.cst (.int 1), .cst (.int 0)], .tup [.cst (.int 0), .cst (.int 1)], .tup [.bin .sub (.cst (.int 0)) (.cst (.int 1)), .cst (.int 0)], .tup [.cst (.int 0), .bin .sub (.cst (.int 0)) (.cst (.int 1))], .tup [.cst (.int 1), .cst (.int 1)], .tup [.cst (.int 1), .bin .sub (.cst (.int 0)) (.cst (.int 1))]]) (.call 14 [.var 0, .cst (.int 6)] [0, 1])) [some (.loc 0), some (.int 0), none, none] s1 = .ok (V2 a b) s2 := by
      have ec : evE ⟨callD fds anc (n + 2), anc⟩ (.call 14 [.var 0, .cst (.int 6)] [0, 1]) [some (.loc 0), some (.int 0), none, none] s1 = .ok (.int r) s2 := by simp [evSs, evS, evE, evEs, evO, evT, evIt, RS.of, R.bind, R.of, RS.seq, idxD, seqD, ixD, opB, opC, truD, setT, setTs, eqD, full, frz, D.sub, D.subL, D.eqv, D.eqvL, D.depth, D.depthL, biD, permD, opI, newL, SZ, isiD, tyOk, lstD, setD, mtD, okM, e2]
      have u : ∀ (x y : Ex) (ρ : Env) (st : Sto), evE ⟨callD fds anc (n + 2), anc⟩ (.idx x y) ρ st = (evE ⟨callD fds anc (n + 2), anc⟩ x ρ st).bind fun x st => (evE ⟨callD fds anc (n + 2), anc⟩ y ρ st).bind fun y st => R.of (idxD x y st) st := fun _ _ _ _ => rfl
      rw [u, eL]
      simp only [R.bind, ec, idxD, seqD, Option.bind_some, hi, ha, R.of]
    exact ev_if_rt (st1 := s1) (by simp [evSs, evS, evE, evEs, evO, evT, evIt, RS.of, R.bind, R.of, RS.seq, idxD, seqD, ixD, opB, opC, truD, setT, setTs, eqD, full, frz, D.sub, D.subL, D.eqv, D.eqvL, D.depth, D.depthL, biD, permD, opI, newL, SZ, isiD, tyOk, lstD, setD, mtD, okM]) (ev_ret eX)
  · by_cases c1 : hb = 1
    · obtain ⟨r, s2, e2, hR2, r1, r2⟩ := s_pick (n + 1) s1 (k + 1) 6 hR1 (by omega) (by decide)
      obtain ⟨hi, a, b, ha, q⟩ := pick_of r r1 r2 L1 L1_ok rfl
      refine ⟨a, b, s2, run_rl (F := F22) (ρ0 := [some (.loc 0), none, none, none]) (ρ1 := [some (.loc 0), some (.int hb), none, none]) (d := V2 a b) h hR2 rfl rfl rfl rfl ?_ rfl, mono hR2 (by omega), q⟩
      rw [show F22.body = b22 from rfl, b22, start]
      subst c1
      rw [ev_cons (ρ1 := [some (.loc 0), some (.int 1), none, none]) (st1 := s1) (by simp [evSs, evS, evE, evEs, evO, evT, evIt, RS.of, R.bind, R.of, RS.seq, idxD, seqD, ixD, opB, opC, truD, setT, setTs, eqD, full, frz, D.sub, D.subL, D.eqv, D.eqvL, D.depth, D.depthL, biD, permD, opI, newL, SZ, isiD, tyOk, lstD, setD, mtD, okM])]
      have eL : ∀ (C : Cal) (ρ : Env) (st : Sto), evE C (.lst false [.tup [.cst (.int 20), .cst (.int 0)], .tup [.cst (.int 12), .cst (.int 16)], .tup [.bin .sub (.cst (.int 0)) (.cst (.int 16)), .cst (.int 12)], .tup [.cst (.int 14), .cst (.int 14)], .tup [.cst (.int 0), .bin .sub (.cst (.int 0)) (.cst (.int 20))], .tup [.cst (.int 19), .cst (.int 6)]]) ρ st = .ok (.lst L1) st := fun C ρ st => rfl
      have eX : evE ⟨callD fds anc (n + 2), anc⟩ (.idx (.lst false [.tup [.cst (.int 20), .cst (.int 0)], .tup [.cst (.int 12), .cst (.int 16)], .tup [.bin .sub (.cst (.int 0)) (.cst (.int 16)), .cst (.int 12)], .tup [.cst (.int 14), .cst (.int 14)], .tup [.cst (.int 0), .bin .sub (.cst (.int 0)) (.cst (.int 20))], .tup [.cst (.int 19), .cst (.int 6)]]) (.call 14 [.var 0, .cst (.int 6)] [0, 1])) [some (.loc 0), some (.int 1), none, none] s1 = .ok (V2 a b) s2 := by
        have ec : evE ⟨callD fds anc (n + 2), anc⟩ (.call 14 [.var 0, .cst (.int 6)] [0, 1]) [some (.loc 0), some (.int 1), none, none] s1 = .ok (.int r) s2 := by simp [evSs, evS, evE, evEs, evO, evT, evIt, RS.of, R.bind, R.of, RS.seq, idxD, seqD, ixD, opB, opC, truD, setT, setTs, eqD, full, frz, D.sub, D.subL, D.eqv, D.eqvL, D.depth, D.depthL, biD, permD, opI, newL, SZ, isiD, tyOk, lstD, setD, mtD, okM, e2]
        have u : ∀ (x y : Ex) (ρ : Env) (st : Sto), evE ⟨callD fds anc (n + 2), anc⟩ (.idx x y) ρ st = (evE ⟨callD fds anc (n + 2), anc⟩ x ρ st).bind fun x st => (evE ⟨callD fds anc (n + 2), anc⟩ y ρ st).bind fun y st => R.of (idxD x y st) st := fun _ _ _ _ => rfl
        rw [u, eL]
        simp only [R.bind, ec, idxD, seqD, Option.bind_some, hi, ha, R.of]
      exact ev_if_rt (st1 := s1) (by simp [evSs, evS, evE, evEs, evO, evT, evIt, RS.of, R.bind, R.of, RS.seq, idxD, seqD, ixD, opB, opC, truD, setT, setTs, eqD, full, frz, D.sub, D.subL, D.eqv, D.eqvL, D.depth, D.depthL, biD, permD, opI, newL, SZ, isiD, tyOk, lstD, setD, mtD, okM]) (ev_ret eX)
    · obtain ⟨x, s2, e2, hR2, x1, x2⟩ := s_num n s1 (k + 1) 4 hR1 (by omega) (by decide) (by decide)
      obtain ⟨y, s3, e3, hR3, y1, y2⟩ := s_num n s2 (k + 1 + 1) 4 hR2 (by omega) (by decide) (by decide)
      -- the end
      have fin : ∀ (u v : Int) (z : Option D) (s : Sto), u.natAbs ≤ 20 → v.natAbs ≤ 20 → ∃ a b : Int, evSs ⟨callD fds anc (n + 2), anc⟩ [.ife (.cmp .eq (.var 2) (.lst false [.cst (.int 0), .cst (.int 0)])) [.ret (.tup [.cst (.int 3), .cst (.int 0)])] [], .ret (.tup [.idx (.var 2) (.cst (.int 0)), .idx (.var 2) (.cst (.int 1))])] [some (.loc 0), some (.int hb), some (.lst [.int u, .int v]), z] s = .ok (.rt (V2 a b)) [some (.loc 0), some (.int hb), some (.lst [.int u, .int v]), z] s ∧ (a ≠ 0 ∨ b ≠ 0) ∧ a.natAbs ≤ 20 ∧ b.natAbs ≤ 20 := by
        intro u v z s hu hv
        by_cases z0 : u = 0 ∧ v = 0
        · obtain ⟨rfl, rfl⟩ := z0
          exact ⟨3, 0, by simp [evSs, evS, evE, evEs, evO, evT, evIt, RS.of, R.bind, R.of, RS.seq, idxD, seqD, ixD, opB, opC, truD, setT, setTs, eqD, full, frz, D.sub, D.subL, D.eqv, D.eqvL, D.depth, D.depthL, biD, permD, opI, newL, SZ, isiD, tyOk, lstD, setD, mtD, okM], by decide, by decide, by decide⟩
        · refine ⟨u, v, ?_, by omega, hu, hv⟩
          have : (u == 0 && v == 0) = false := by
            rw [Bool.and_eq_false_iff]
            by_cases q : u = 0
            · right; simp; exact fun w => z0 ⟨q, w⟩
            · left; simpa using q
          simp [evSs, evS, evE, evEs, evO, evT, evIt, RS.of, R.bind, R.of, RS.seq, idxD, seqD, ixD, opB, opC, truD, setT, setTs, eqD, full, frz, D.sub, D.subL, D.eqv, D.eqvL, D.depth, D.depthL, biD, permD, opI, newL, SZ, isiD, tyOk, lstD, setD, mtD, okM, this]
      have mid : ∀ rest : List Cm, evSs ⟨callD fds anc (n + 2), anc⟩ (.ife (.cmp .eq (.var 1) (.cst (.int 0))) [.ret (.idx (.lst false [.tup [.cst (.int 1), .cst (.int 0)], .tup [.cst (.int 0), .cst (.int 1)], .tup [.bin .sub (.cst (.int 0)) (.cst (.int 1)), .cst (.int 0)], .tup [.cst (.int 0), .bin .sub (.cst (.int 0)) (.cst (.int 1))], .tup [.cst (.int 1), .cst (.int 1)], .tup [.cst (.int 1), .bin .sub (.cst (.int 0)) (.cst (.int 1))]]) (.call 14 [.var 0, .cst (.int 6)] [0, 1]))] [] :: .ife (.cmp .eq (.var 1) (.cst (.int 1))) [.ret (.idx (.lst false [.tup [.cst (.int 20), .cst (.int 0)], .tup [.cst (.int 12), .cst (.int 16)], .tup [.bin .sub (.cst (.int 0)) (.cst (.int 16)), .cst (.int 12)], .tup [.cst (.int 14), .cst (.int 14)], .tup [.cst (.int 0), .bin .sub (.cst (.int 0)) (.cst (.int 20))], .tup [.cst (.int 19), .cst (.int 6)]]) (.call 14 [.var 0, .cst (.int 6)] [0, 1]))] [] :: .asg (.nm 2) (.lst false [.call 21 [.var 0, .cst (.int 4)] [0, 1], .call 21 [.var 0, .cst (.int 4)] [0, 1]]) :: rest) [some (.loc 0), some (.int hb), none, none] s1 = evSs ⟨callD fds anc (n + 2), anc⟩ rest [some (.loc 0), some (.int hb), some (.lst [.int x, .int y]), none] s3 := by
        intro rest
        have f0 : (hb == 0) = false := by simpa using c0
        have f1 : (hb == 1) = false := by simpa using c1
        rw [ev_cons (ρ1 := [some (.loc 0), some (.int hb), none, none]) (st1 := s1) (by simp [evSs, evS, evE, evEs, evO, evT, evIt, RS.of, R.bind, R.of, RS.seq, idxD, seqD, ixD, opB, opC, truD, setT, setTs, eqD, full, frz, D.sub, D.subL, D.eqv, D.eqvL, D.depth, D.depthL, biD, permD, opI, newL, SZ, isiD, tyOk, lstD, setD, mtD, okM, f0]), ev_cons (ρ1 := [some (.loc 0), some (.int hb), none, none]) (st1 := s1) (by simp [evSs, evS, evE, evEs, evO, evT, evIt, RS.of, R.bind, R.of, RS.seq, idxD, seqD, ixD, opB, opC, truD, setT, setTs, eqD, full, frz, D.sub, D.subL, D.eqv, D.eqvL, D.depth, D.depthL, biD, permD, opI, newL, SZ, isiD, tyOk, lstD, setD, mtD, okM, f1]), ev_cons (ρ1 := [some (.loc 0), some (.int hb), some (.lst [.int x, .int y]), none]) (st1 := s3) (by simp [evSs, evS, evE, evEs, evO, evT, evIt, RS.of, R.bind, R.of, RS.seq, idxD, seqD, ixD, opB, opC, truD, setT, setTs, eqD, full, frz, D.sub, D.subL, D.eqv, D.eqvL, D.depth, D.depthL, biD, permD, opI, newL, SZ, isiD, tyOk, lstD, setD, mtD, okM, e2, e3])]
      by_cases c2 : hb < 4
      · obtain ⟨t, s4, e4, hR4, t1, t2⟩ := s_pick (n + 1) s3 (k + 1 + 1 + 1) 3 hR3 (by omega) (by decide)
        have zt : Sz 10 (1 + t) := by unfold Sz; omega
        have zx : Sz 10 x := by unfold Sz; omega
        have zy : Sz 10 y := by unfold Sz; omega
        have g1 := zt.ok zx (by decide) (by decide)
        have g2 := zt.ok zy (by decide) (by decide)
        have bx : ((1 + t) * x).natAbs ≤ 20 := by
          have : t = 0 ∨ t = 1 ∨ t = 2 := by omega
          rcases this with rfl | rfl | rfl <;> omega
        have by' : ((1 + t) * y).natAbs ≤ 20 := by
          have : t = 0 ∨ t = 1 ∨ t = 2 := by omega
          rcases this with rfl | rfl | rfl <;> omega
        obtain ⟨a, b, ef, q⟩ := fin ((1 + t) * x) ((1 + t) * y) (some (.int (1 + t))) s4 bx by'
        refine ⟨a, b, s4, run_rl (F := F22) (ρ0 := [some (.loc 0), none, none, none]) (ρ1 := [some (.loc 0), some (.int hb), some (.lst [.int ((1 + t) * x), .int ((1 + t) * y)]), some (.int (1 + t))]) (d := V2 a b) h hR4 rfl rfl rfl rfl ?_ rfl, mono hR4 (by omega), q⟩
        · rw [show F22.body = b22 from rfl, b22, start, mid, ev_cons (ρ1 := [some (.loc 0), some (.int hb), some (.lst [.int ((1 + t) * x), .int ((1 + t) * y)]), some (.int (1 + t))]) (st1 := s4) (by simp [evSs, evS, evE, evEs, evO, evT, evIt, RS.of, R.bind, R.of, RS.seq, idxD, seqD, ixD, opB, opC, truD, setT, setTs, eqD, full, frz, D.sub, D.subL, D.eqv, D.eqvL, D.depth, D.depthL, biD, permD, opI, newL, SZ, isiD, tyOk, lstD, setD, mtD, okM, c2, e4, g1, g2])]
          exact ef
      · by_cases c3 : 5 < hb
        · obtain ⟨u, s4, e4, hR4, u1, u2⟩ := s_num n s3 (k + 1 + 1 + 1) 14 hR3 (by omega) (by decide) (by decide)
          obtain ⟨v, s5, e5, hR5, v1, v2⟩ := s_num n s4 (k + 1 + 1 + 1 + 1) 14 hR4 (by omega) (by decide) (by decide)
          obtain ⟨a, b, ef, q⟩ := fin u v none s5 (by omega) (by omega)
          refine ⟨a, b, s5, run_rl (F := F22) (ρ0 := [some (.loc 0), none, none, none]) (ρ1 := [some (.loc 0), some (.int hb), some (.lst [.int u, .int v]), none]) (d := V2 a b) h hR5 rfl rfl rfl rfl ?_ rfl, mono hR5 (by omega), q⟩
          rw [show F22.body = b22 from rfl, b22, start, mid, ev_cons (ρ1 := [some (.loc 0), some (.int hb), some (.lst [.int u, .int v]), none]) (st1 := s5) (by simp [evSs, evS, evE, evEs, evO, evT, evIt, RS.of, R.bind, R.of, RS.seq, idxD, seqD, ixD, opB, opC, truD, setT, setTs, eqD, full, frz, D.sub, D.subL, D.eqv, D.eqvL, D.depth, D.depthL, biD, permD, opI, newL, SZ, isiD, tyOk, lstD, setD, mtD, okM, c2, c3, e4, e5])]
          exact ef
        · obtain ⟨a, b, ef, q⟩ := fin x y none s3 (by omega) (by omega)
          refine ⟨a, b, s3, run_rl (F := F22) (ρ0 := [some (.loc 0), none, none, none]) (ρ1 := [some (.loc 0), some (.int hb), some (.lst [.int x, .int y]), none]) (d := V2 a b) h hR3 rfl rfl rfl rfl ?_ rfl, mono hR3 (by omega), q⟩
          rw [show F22.body = b22 from rfl, b22, start, mid, ev_cons (ρ1 := [some (.loc 0), some (.int hb), some (.lst [.int x, .int y]), none]) (st1 := s3) (by simp [evSs, evS, evE, evEs, evO, evT, evIt, RS.of, R.bind, R.of, RS.seq, idxD, seqD, ixD, opB, opC, truD, setT, setTs, eqD, full, frz, D.sub, D.subL, D.eqv, D.eqvL, D.depth, D.depthL, biD, permD, opI, newL, SZ, isiD, tyOk, lstD, setD, mtD, okM, c2, c3])]
          exact ef
end K34
set_option Elab.async false
set_option linter.all false
set_option maxRecDepth 100000
set_option maxHeartbeats 1000000
namespace K34
open DI
theorem alike_bool (n : Nat) (st : Sto) (b : Bool) : callD fds anc (n + 1) 16 [.bl b, .bl b] st = .ok (.bl true) st := by
  refine run_ret (F := F16) (ρ0 := [some (.bl b), some (.bl b), none, none, none]) (ρ1 := [some (.bl b), some (.bl b), none, none, none]) rfl rfl rfl rfl ?_ rfl
  simp [F16, b16, evSs, evS, evE, evEs, evO, evT, evIt, RS.of, R.bind, R.of, RS.seq, idxD, seqD, ixD, opB, opC, truD, setT, setTs, eqD, full, frz, D.sub, D.subL, D.eqv, D.eqvL, D.depth, D.depthL, biD, permD, opI, newL, SZ, isiD, tyOk, lstD, setD, mtD, okM]
theorem alike_int (n : Nat) (st : Sto) (b : Int) : callD fds anc (n + 1) 16 [.int b, .int b] st = .ok (.bl true) st := by
  refine run_ret (F := F16) (ρ0 := [some (.int b), some (.int b), none, none, none]) (ρ1 := [some (.int b), some (.int b), none, none, none]) rfl rfl rfl rfl ?_ rfl
  simp [F16, b16, evSs, evS, evE, evEs, evO, evT, evIt, RS.of, R.bind, R.of, RS.seq, idxD, seqD, ixD, opB, opC, truD, setT, setTs, eqD, full, frz, D.sub, D.subL, D.eqv, D.eqvL, D.depth, D.depthL, biD, permD, opI, newL, SZ, isiD, tyOk, lstD, setD, mtD, okM]
theorem ix_nat {n j : Nat} (h : j < n) : ixD n (j : Int) = some j := by
  unfold ixD
  rw [if_pos (by omega), if_pos (by omega)]
  simp
theorem alike_tup (n : Nat) (st : Sto) (l : List D) (hl : ∀ d ∈ l, callD fds anc (n + 1) 16 [d, d] st = .ok (.bl true) st) (hn : l.length ≤ 1000) (hf : frzX st st.length 5 (.bl true) = some (.bl true) := by rfl) : callD fds anc (n + 2) 16 [.tup l, .tup l] st = .ok (.bl true) st := by
  obtain ⟨ρ', s', lp, z, rfl, rfl⟩ := for_rule0 (n := l.length) (b := turn ⟨callD fds anc (n + 1), anc⟩ (.nm 4) [.ife (.not (.call 16 [.idx (.var 0) (.var 4), .idx (.var 1) (.var 4)] [0, 1])) [.ret (.cst (.bl false))] []])
    (fun i ρ s => ∃ z : Option D, ρ = [some (.tup l), some (.tup l), some (.int 0), some (.lst [.bl true, .bl true]), z] ∧ s = st) (xs := rngD 0 (l.length : Int)) (ρ := [some (.tup l), some (.tup l), some (.int 0), some (.lst [.bl true, .bl true]), none]) (st := st) (rng_len l.length) ⟨none, rfl, rfl⟩ (by
      rintro j x ρ s hx ⟨z, rfl, rfl⟩
      obtain ⟨hj, rfl⟩ := rng_at hx
      have e := hl l[j] (List.getElem_mem hj)
      refine ⟨[some (.tup l), some (.tup l), some (.int 0), some (.lst [.bl true, .bl true]), some (.int j)], s, .inl ?_, some (.int j), rfl, rfl⟩
      show evSs _ _ [some (.tup l), some (.tup l), some (.int 0), some (.lst [.bl true, .bl true]), some (.int j)] s = _
      have i1 : ∀ i : Nat, i < 2 → evE ⟨callD fds anc (n + 1), anc⟩ (.idx (.var i) (.var 4)) [some (.tup l), some (.tup l), some (.int 0), some (.lst [.bl true, .bl true]), some (.int j)] s = .ok l[j] s := fun i hi => by
        have : i = 0 ∨ i = 1 := by omega
        rcases this with rfl | rfl <;> simp [evE, R.bind, idxD, seqD, ix_nat hj, R.of, List.getElem?_eq_getElem hj]
      have c1 : evE ⟨callD fds anc (n + 1), anc⟩ (.call 16 [.idx (.var 0) (.var 4), .idx (.var 1) (.var 4)] [0, 1]) [some (.tup l), some (.tup l), some (.int 0), some (.lst [.bl true, .bl true]), some (.int j)] s = .ok (.bl true) s := by
        have u : ∀ (es : List Ex) (pm : List Nat) (ρ : Env) (st : Sto), evE ⟨callD fds anc (n + 1), anc⟩ (.call 16 es pm) ρ st = (evEs ⟨callD fds anc (n + 1), anc⟩ es ρ st).bind fun vs st => callD fds anc (n + 1) 16 (permD vs pm) st := fun _ _ _ _ => rfl
        have u2 : evEs ⟨callD fds anc (n + 1), anc⟩ [.idx (.var 0) (.var 4), .idx (.var 1) (.var 4)] [some (.tup l), some (.tup l), some (.int 0), some (.lst [.bl true, .bl true]), some (.int j)] s = .ok [l[j], l[j]] s := by
          rw [evEs, i1 0 (by omega)]
          simp only [R.bind]
          rw [evEs, i1 1 (by omega)]
          simp only [R.bind, evEs]
        rw [u, u2]
        exact e
      have c2 : evT ⟨callD fds anc (n + 1), anc⟩ (.not (.call 16 [.idx (.var 0) (.var 4), .idx (.var 1) (.var 4)] [0, 1])) [some (.tup l), some (.tup l), some (.int 0), some (.lst [.bl true, .bl true]), some (.int j)] s = .ok false s := by
        have u : ∀ (x : Ex) (ρ : Env) (st : Sto), evE ⟨callD fds anc (n + 1), anc⟩ (.not x) ρ st = (evE ⟨callD fds anc (n + 1), anc⟩ x ρ st).bind fun x st => match truD st x with
          | some b => .ok (.bl (!b)) st
          | none => .bad := fun _ _ _ => rfl
        rw [evT, u, c1]
        rfl
      rw [ev_if_f c2]
      rfl)
  refine run_ret (F := F16) (ρ0 := [some (.tup l), some (.tup l), none, none, none]) (ρ1 := [some (.tup l), some (.tup l), some (.int 0), some (.lst [.bl true, .bl true]), z]) rfl rfl rfl rfl ?_ rfl
  rw [show F16.body = b16 from rfl, b16, ev_if_f (st1 := s') (by simp [evSs, evS, evE, evEs, evO, evT, evIt, RS.of, R.bind, R.of, RS.seq, idxD, seqD, ixD, opB, opC, truD, setT, setTs, eqD, full, frz, D.sub, D.subL, D.eqv, D.eqvL, D.depth, D.depthL, biD, permD, opI, newL, SZ, isiD, tyOk, lstD, setD, mtD, okM]), ev_if_f (st1 := s') (by simp [evSs, evS, evE, evEs, evO, evT, evIt, RS.of, R.bind, R.of, RS.seq, idxD, seqD, ixD, opB, opC, truD, setT, setTs, eqD, full, frz, D.sub, D.subL, D.eqv, D.eqvL, D.depth, D.depthL, biD, permD, opI, newL, SZ, isiD, tyOk, lstD, setD, mtD, okM]), ev_if_f (st1 := s') (by simp [evSs, evS, evE, evEs, evO, evT, evIt, RS.of, R.bind, R.of, RS.seq, idxD, seqD, ixD, opB, opC, truD, setT, setTs, eqD, full, frz, D.sub, D.subL, D.eqv, D.eqvL, D.depth, D.depthL, biD, permD, opI, newL, SZ, isiD, tyOk, lstD, setD, mtD, okM]), ev_if_f (st1 := s') (by simp [evSs, evS, evE, evEs, evO, evT, evIt, RS.of, R.bind, R.of, RS.seq, idxD, seqD, ixD, opB, opC, truD, setT, setTs, eqD, full, frz, D.sub, D.subL, D.eqv, D.eqvL, D.depth, D.depthL, biD, permD, opI, newL, SZ, isiD, tyOk, lstD, setD, mtD, okM])]
  refine ev_for_rt (xs := [.int 0, .int 1]) (st1 := s') (by simp [evSs, evS, evE, evEs, evO, evT, evIt, RS.of, R.bind, R.of, RS.seq, idxD, seqD, ixD, opB, opC, truD, setT, setTs, eqD, full, frz, D.sub, D.subL, D.eqv, D.eqvL, D.depth, D.depthL, biD, permD, opI, newL, SZ, isiD, tyOk, lstD, setD, mtD, okM, srcD]) ?_
  rw [forS]
  have one : turn ⟨callD fds anc (n + 1), anc⟩ (.nm 2) [.asg (.nm 3) (.lst false [.isi (.var 0) [.tuple], .isi (.var 1) [.tuple]]), .ife (.cmp .eq (.var 2) (.cst (.int 1))) [.asg (.nm 3) (.lst false [.isi (.var 0) [.list], .isi (.var 1) [.list]])] [], .ife (.and (.idx (.var 3) (.cst (.int 0))) (.idx (.var 3) (.cst (.int 1)))) [.ife (.cmp .ne (.bi .len [.var 0]) (.bi .len [.var 1])) [.ret (.cst (.bl false))] [], .for_ (.nm 4) (.rng1 (.bi .len [.var 0])) [.ife (.not (.call 16 [.idx (.var 0) (.var 4), .idx (.var 1) (.var 4)] [0, 1])) [.ret (.cst (.bl false))] []], .ret (.cst (.bl true))] []] (.int 0) [some (.tup l), some (.tup l), none, none, none] s' = .ok (.rt (.bl true)) [some (.tup l), some (.tup l), some (.int 0), some (.lst [.bl true, .bl true]), z] s' := by
    show evSs _ _ [some (.tup l), some (.tup l), some (.int 0), none, none] s' = _
    rw [ev_cons (ρ1 := [some (.tup l), some (.tup l), some (.int 0), some (.lst [.bl true, .bl true]), none]) (st1 := s') (by simp [evSs, evS, evE, evEs, evO, evT, evIt, RS.of, R.bind, R.of, RS.seq, idxD, seqD, ixD, opB, opC, truD, setT, setTs, eqD, full, frz, D.sub, D.subL, D.eqv, D.eqvL, D.depth, D.depthL, biD, permD, opI, newL, SZ, isiD, tyOk, lstD, setD, mtD, okM]), ev_if_f (st1 := s') (by simp [evSs, evS, evE, evEs, evO, evT, evIt, RS.of, R.bind, R.of, RS.seq, idxD, seqD, ixD, opB, opC, truD, setT, setTs, eqD, full, frz, D.sub, D.subL, D.eqv, D.eqvL, D.depth, D.depthL, biD, permD, opI, newL, SZ, isiD, tyOk, lstD, setD, mtD, okM])]
    refine ev_if_rt (st1 := s') (by simp [evSs, evS, evE, evEs, evO, evT, evIt, RS.of, R.bind, R.of, RS.seq, idxD, seqD, ixD, opB, opC, truD, setT, setTs, eqD, full, frz, D.sub, D.subL, D.eqv, D.eqvL, D.depth, D.depthL, biD, permD, opI, newL, SZ, isiD, tyOk, lstD, setD, mtD, okM]) ?_
    rw [ev_if_f (st1 := s') (by simp [evSs, evS, evE, evEs, evO, evT, evIt, RS.of, R.bind, R.of, RS.seq, idxD, seqD, ixD, opB, opC, truD, setT, setTs, eqD, full, frz, D.sub, D.subL, D.eqv, D.eqvL, D.depth, D.depthL, biD, permD, opI, newL, SZ, isiD, tyOk, lstD, setD, mtD, okM]), ev_for (ev_rng1 (i := (l.length : Int)) (st1 := s') (by simp [evSs, evS, evE, evEs, evO, evT, evIt, RS.of, R.bind, R.of, RS.seq, idxD, seqD, ixD, opB, opC, truD, setT, setTs, eqD, full, frz, D.sub, D.subL, D.eqv, D.eqvL, D.depth, D.depthL, biD, permD, opI, newL, SZ, isiD, tyOk, lstD, setD, mtD, okM]) (small_of (by omega) (by omega))) lp]
    exact ev_ret rfl
  rw [one]
theorem alike_V2 (n : Nat) (st : Sto) (a b : Int) : callD fds anc (n + 2) 16 [V2 a b, V2 a b] st = .ok (.bl true) st := by
  refine alike_tup n st _ (fun d hd => ?_) (by simp)
  simp only [List.mem_cons, List.not_mem_nil, or_false] at hd
  rcases hd with rfl | rfl <;> exact alike_int n st _
theorem alike_rows (n : Nat) (st : Sto) (g W : Nat) (h : W * g ≤ 1000) : callD fds anc (n + 3) 16 [.tup (rows g W), .tup (rows g W)] st = .ok (.bl true) st := by
  refine alike_tup (n + 1) st _ (fun d hd => ?_) (by rw [rows_len]; exact h)
  obtain ⟨x, y, rfl, _⟩ := rows_mem hd
  exact alike_V2 n st x y
theorem s_reel (n : Nat) (ns : List Int) (h : ns.length ≤ 63) : ∃ st', callD fds anc (n + 1) 13 [.ro (ns.map .int)] [] = .ok (.loc 0) st' ∧ Rl 0 st' := by
  have m {j k : Nat} {u v : Int} (h1 : Sz j u) (h2 : Sz k v) (hj : j ≤ 400000 := by decide) (hk : k ≤ 400000 := by decide) : mulOk u v = true := h1.ok h2 hj hk
  obtain ⟨ρ', s', lp, M, z, rfl, rfl, h1, h2⟩ := for_rule0 (n := ns.length) (b := turn ⟨callD fds anc n, anc⟩ (.nm 2) [.asg (.nm 1) (.bin .mod (.bi .int [.bin .add (.bin .add (.bin .mul (.var 1) (.cst (.int 541))) (.bin .mod (.bi .int [.var 2]) (.cst (.int 999983)))) (.cst (.int 17))]) (.cst (.int 2305843009213693951)))])
    (fun i ρ s => ∃ (M : Int) (z : Option D), ρ = [some (.ro (ns.map .int)), some (.int M), z] ∧ s = [] ∧ 0 ≤ M ∧ M < 2305843009213693951) (xs := ns.map .int) (ρ := [some (.ro (ns.map .int)), some (.int (7219 + (ns.length : Int))), none]) (st := []) (by simp) ⟨7219 + (ns.length : Int), none, rfl, rfl, by omega, by omega⟩ (by
      rintro j x ρ s hx ⟨M, z, rfl, rfl, h1, h2⟩
      rw [List.getElem?_map] at hx
      cases hj : ns[j]? with
      | none => rw [hj] at hx; cases hx
      | some c =>
        rw [hj] at hx
        cases hx
        have g := m (show Sz 61 M by unfold Sz; omega) (show Sz 61 541 by unfold Sz; decide)
        refine ⟨[some (.ro (ns.map .int)), some (.int ((M * 541 + c % 999983 + 17) % 2305843009213693951)), some (.int c)], [], .inl ?_, _, some (.int c), rfl, rfl, Int.emod_nonneg _ (by decide), Int.emod_lt_of_pos _ (by decide)⟩
        simp [turn, evSs, evS, evE, evEs, evO, evT, evIt, RS.of, R.bind, R.of, RS.seq, idxD, seqD, ixD, opB, opC, truD, setT, setTs, eqD, full, frz, D.sub, D.subL, D.eqv, D.eqvL, D.depth, D.depthL, biD, permD, opI, newL, SZ, isiD, tyOk, lstD, setD, mtD, okM, g])
  refine ⟨[.lst [.int M, .int 0]], ?_, M, 0, rfl, h1, h2, by omega, by omega⟩
  rw [call_at (F := F13) rfl rfl]
  have : evSs ⟨callD fds anc n, anc⟩ F13.body [some (.ro (ns.map .int)), none, none] [] = .ok (.rt (.loc 0)) [some (.ro (ns.map .int)), some (.int M), z] [.lst [.int M, .int 0]] := by
    rw [show F13.body = b13 from rfl, b13, ev_cons (ρ1 := [some (.ro (ns.map .int)), some (.int (7219 + (ns.length : Int))), none]) (st1 := []) (by simp [evSs, evS, evE, evEs, evO, evT, evIt, RS.of, R.bind, R.of, RS.seq, idxD, seqD, ixD, opB, opC, truD, setT, setTs, eqD, full, frz, D.sub, D.subL, D.eqv, D.eqvL, D.depth, D.depthL, biD, permD, opI, newL, SZ, isiD, tyOk, lstD, setD, mtD, okM]), ev_for (xs := ns.map .int) (st1 := []) (by simp [evSs, evS, evE, evEs, evO, evT, evIt, RS.of, R.bind, R.of, RS.seq, idxD, seqD, ixD, opB, opC, truD, setT, setTs, eqD, full, frz, D.sub, D.subL, D.eqv, D.eqvL, D.depth, D.depthL, biD, permD, opI, newL, SZ, isiD, tyOk, lstD, setD, mtD, okM, srcD]) lp]
    simp [evSs, evS, evE, evEs, evO, evT, evIt, RS.of, R.bind, R.of, RS.seq, idxD, seqD, ixD, opB, opC, truD, setT, setTs, eqD, full, frz, D.sub, D.subL, D.eqv, D.eqvL, D.depth, D.depthL, biD, permD, opI, newL, SZ, isiD, tyOk, lstD, setD, mtD, okM]
  rw [show ([D.ro (ns.map .int)].map some ++ List.replicate (F13.nn - [D.ro (ns.map .int)].length) none) = [some (.ro (ns.map .int)), none, none] from rfl, this]
  rfl
end K34
set_option Elab.async false
set_option linter.all false
set_option maxRecDepth 100000
set_option maxHeartbeats 1000000
namespace K34
open DI
/-- a divisor's vector as the law draws it, its sizes -/
structure Bx (a b : Int) (g W : Nat) : Prop where
  n0 : a ≠ 0 ∨ b ≠ 0
  a20 : a.natAbs ≤ 20
  b20 : b.natAbs ≤ 20
  gg : (Int.gcd a b : Int) = g
  WW : (a * a + b * b) / (Int.gcd a b : Int) = W
  s : W * g ≤ 1000
  w1 : W ≤ 1000
  g1 : g ≤ 1000
  gp : 0 < g
  wp : 0 < W
  by_ : ∃ p q a' b' : Int, By a b g W p q a' b'
theorem sq_pos {c : Int} (h : c ≠ 0) : 0 < c * c := by
  rcases Int.lt_or_gt_of_ne h with k | k
  · exact Int.mul_pos_of_neg_of_neg k k
  · exact Int.mul_pos k k
theorem Bx.N {a b : Int} {g W : Nat} (h : Bx a b g W) : 0 < a * a + b * b := by
  have h1 := sq_nonneg a
  have h2 := sq_nonneg b
  rcases h.n0 with k | k
  · have := sq_pos k; omega
  · have := sq_pos k; omega
theorem sq_le {c : Int} (h : c.natAbs ≤ 20) : c * c ≤ 400 := by
  have : (c * c).natAbs ≤ 20 * 20 := by rw [Int.natAbs_mul]; exact Nat.mul_le_mul h h
  omega
theorem bx_of {a b : Int} (h : a ≠ 0 ∨ b ≠ 0) (ha : a.natAbs ≤ 20) (hb : b.natAbs ≤ 20) : ∃ g W : Nat, Bx a b g W := by
  have N0 : a * a + b * b ≠ 0 := by
    have h1 := sq_nonneg a
    have h2 := sq_nonneg b
    rcases h with k | k
    · have := sq_pos k; omega
    · have := sq_pos k; omega
  obtain ⟨p, q, a', b', B, _, _⟩ := s_sizes 0 [] a b (by omega) (by omega) N0
  have hN := B.N
  have gp := B.gp
  have wp := B.Wp
  have l1 := sq_le ha
  have l2 := sq_le hb
  generalize hW : (a * a + b * b) / (Int.gcd a b : Int) = W at *
  obtain ⟨W', rfl⟩ : ∃ W' : Nat, W = W' := ⟨W.toNat, by omega⟩
  have s : W' * Int.gcd a b ≤ 800 := by
    have : ((W' * Int.gcd a b : Nat) : Int) ≤ 800 := by
      rw [Int.natCast_mul, Int.mul_comm, ← hN]
      omega
    omega
  have gp' : 0 < Int.gcd a b := by omega
  have wp' : 0 < W' := by omega
  refine ⟨Int.gcd a b, W', h, ha, hb, rfl, hW, by omega, ?_, ?_, gp', wp', p, q, a', b', B⟩
  · have : W' * 1 ≤ W' * Int.gcd a b := Nat.mul_le_mul_left _ gp'
    omega
  · have : 1 * Int.gcd a b ≤ W' * Int.gcd a b := Nat.mul_le_mul_right _ wp'
    omega
section
variable {a b : Int} {g W : Nat}
theorem Dv.sub {X Y X' Y' : Int} (h : Dv a b X Y) (h' : Dv a b X' Y') : Dv a b (X - X') (Y - Y') := by
  obtain ⟨⟨k, hk⟩, ⟨l, hl⟩⟩ := h
  obtain ⟨⟨k', hk'⟩, ⟨l', hl'⟩⟩ := h'
  exact ⟨⟨k - k', by grind⟩, ⟨l - l', by grind⟩⟩
theorem Bx.same {x y u t v w : Int} (h : Bx a b g W) (hx : 0 ≤ x ∧ x < W) (hy : 0 ≤ y ∧ y < g) (hu : 0 ≤ u ∧ u < W) (ht : 0 ≤ t ∧ t < g) (d1 : Dv a b (v - x) (w - y)) (d2 : Dv a b (v - u) (w - t)) : u = x ∧ t = y := by
  obtain ⟨p, q, a', b', B⟩ := h.by_
  have d := d1.sub d2
  rw [show v - x - (v - u) = u - x by omega, show w - y - (w - t) = t - y by omega] at d
  obtain ⟨z1, z2⟩ := B.uniq (by omega) (by omega) (by omega) (by omega) d
  omega
theorem Bx.rest (h : Bx a b g W) (n : Nat) (st : Sto) {v w : Int} (hv : Sz 50 v) (hw : Sz 50 w) : ∃ x y : Int, callD fds anc (n + 3) 10 [V2 v w, V2 a b] st = .ok (V2 x y) st ∧ (0 ≤ x ∧ x < W) ∧ (0 ≤ y ∧ y < g) ∧ Dv a b (v - x) (w - y) := by
  obtain ⟨x, y, e, h1, h2, h3⟩ := s_rest n st v w a b hv hw (by have := h.a20; omega) (by have := h.b20; omega) (by have := h.N; omega)
  rw [h.WW] at h1
  rw [h.gg] at h2
  exact ⟨x, y, e, h1, h2, h3⟩
theorem Bx.rest_is (h : Bx a b g W) (n : Nat) (st : Sto) {v w x y : Int} (hv : Sz 50 v) (hw : Sz 50 w) (hx : 0 ≤ x ∧ x < W) (hy : 0 ≤ y ∧ y < g) (d : Dv a b (v - x) (w - y)) : callD fds anc (n + 3) 10 [V2 v w, V2 a b] st = .ok (V2 x y) st := by
  obtain ⟨u, t, e, h1, h2, h3⟩ := h.rest n st hv hw
  obtain ⟨rfl, rfl⟩ := h.same hx hy h1 h2 d h3
  exact e
theorem rows_in {x y : Int} (hx : 0 ≤ x ∧ x < W) (hy : 0 ≤ y ∧ y < g) : V2 x y ∈ rows g W := by
  unfold rows row
  refine List.mem_flatMap.mpr ⟨x.toNat, List.mem_range.mpr (by omega), List.mem_map.mpr ⟨y.toNat, List.mem_range.mpr (by omega), ?_⟩⟩
  rw [show ((x.toNat : Nat) : Int) = x by omega, show ((y.toNat : Nat) : Int) = y by omega]
theorem Bx.lrest_is (h : Bx a b g W) (n : Nat) (st : Sto) {v w x y : Int} (hv : Sz 50 v) (hw : Sz 50 w) (hx : 0 ≤ x ∧ x < W) (hy : 0 ≤ y ∧ y < g) (d : Dv a b (v - x) (w - y)) : callD fds anc (n + 2) 20 [V2 a b, .lst (rows g W), V2 v w] st = .ok (V2 x y) st := by
  have a20 := h.a20
  have b20 := h.b20
  have w1 := h.w1
  have g1 := h.g1
  refine s_lrest n st a b v w x y (rows g W) (by unfold Sz; omega) (by unfold Sz; omega) h.N (fun e he => ?_) (rows_in hx hy) d fun u t hm dd => ?_
  · obtain ⟨u, t, rfl, k1, k2⟩ := rows_mem he
    refine ⟨u, t, rfl, ?_, ?_⟩
    · unfold Sz at *; omega
    · unfold Sz at *; omega
  · obtain ⟨u', t', e, k1, k2⟩ := rows_mem hm
    injection e with e
    injection e with e1 e2
    injection e2 with e2 _
    injection e1 with e1
    injection e2 with e2
    subst e1 e2
    exact h.same hx hy (by omega) (by omega) d dd
theorem Bx.same_ok (h : Bx a b g W) (n : Nat) (st : Sto) {v w x y : Int} (hv : Sz 55 v) (hw : Sz 55 w) (hx : Sz 55 x) (hy : Sz 55 y) : callD fds anc (n + 4) 12 [V2 v w, V2 x y, V2 a b] st = .ok (.bl (decide (Dv a b (v - x) (w - y)))) st := by
  have a20 := h.a20
  have b20 := h.b20
  exact s_same n st v w x y a b (by unfold Sz; omega) (by unfold Sz; omega) ((hv.sub hx).mono (by decide)) ((hw.sub hy).mono (by decide)) (by have := h.N; omega)
end
theorem s_pairs (n : Nat) (st : Sto) (k a b : Int) (ha : a.natAbs ≤ 20) (hb : b.natAbs ≤ 20) (h : Rl k st) (hk : k ≤ 90000) : ∃ (l : List D) (st' : Sto), callD fds anc (n + 4) 24 [.loc 0, V2 a b] st = .ok (.lst l) st' ∧ Rl (k + 10) st' ∧ ∀ d ∈ l, ∃ p q r s : Int, d = .tup [V2 p q, V2 r s] ∧ Sz 50 p ∧ Sz 50 q ∧ Sz 50 r ∧ Sz 50 s := by
  have m {j k : Nat} {u v : Int} (h1 : Sz j u) (h2 : Sz k v) (hj : j ≤ 400000 := by decide) (hk : k ≤ 400000 := by decide) : mulOk u v = true := h1.ok h2 hj hk
  obtain ⟨o1, s1, e1, R1, b1, c1⟩ := s_num (n + 1) st k 900000000 h (by omega) (by decide) (by decide)
  obtain ⟨o2, s2, e2, R2, b2, c2⟩ := s_num (n + 1) s1 (k + 1) 900000000 R1 (by omega) (by decide) (by decide)
  obtain ⟨t1, s3, e3, R3, b3, c3⟩ := s_num (n + 1) s2 (k + 1 + 1) 1000000 R2 (by omega) (by decide) (by decide)
  obtain ⟨t2, s4, e4, R4, b4, c4⟩ := s_num (n + 1) s3 (k + 1 + 1 + 1) 1000000 R3 (by omega) (by decide) (by decide)
  obtain ⟨v1, v2, s5, e5, R5, z1, z2⟩ := s_vec n s4 (k + 1 + 1 + 1 + 1) R4 (by omega)
  obtain ⟨v3, v4, s6, e6, R6, z3, z4⟩ := s_vec n s5 (k + 1 + 1 + 1 + 1 + 3) R5 (by omega)
  have za : Sz 5 a := by unfold Sz; omega
  have zb : Sz 5 b := by unfold Sz; omega
  have zo1 : Sz 40 o1 := by unfold Sz; omega
  have zo2 : Sz 40 o2 := by unfold Sz; omega
  have zt1 : Sz 30 t1 := by unfold Sz; omega
  have zt2 : Sz 30 t2 := by unfold Sz; omega
  have g1 := m za zt1
  have g2 := m zb zt2
  have g3 := m za zt2
  have g4 := m zb zt1
  have zx : Sz 36 (a * t1 - b * t2) := (za.mul zt1).sub (zb.mul zt2)
  have zy : Sz 36 (a * t2 + b * t1) := (za.mul zt2).add (zb.mul zt1)
  generalize hx : a * t1 - b * t2 = x at zx
  generalize hy : a * t2 + b * t1 = y at zy
  generalize hu : o1 + x = u
  generalize hv : o2 + y = v
  have zu : Sz 41 u := by rw [← hu]; exact zo1.add (zx.mono (by decide))
  have zv : Sz 41 v := by rw [← hv]; exact zo2.add (zy.mono (by decide))
  have i0 : ∀ (p q : Int), ixD 2 0 = some 0 ∧ ixD 2 1 = some 1 := fun _ _ => ⟨rfl, rfl⟩
  let P1 : List D := [.tup [V2 o1 o2, V2 u v], .tup [V2 u v, V2 o1 o2], .tup [V2 o1 o2, V2 o1 o2], .tup [V2 o1 o2, V2 (u + 1) v], .tup [V2 o1 o2, V2 u (v - 1)]]
  let P2 : List D := [.tup [V2 o1 o2, V2 (u + 1) (v + 1)], .tup [V2 a b, V2 0 0], .tup [V2 (0 - b) a, V2 0 0], .tup [V2 a (0 - b), V2 0 0]]
  let P3 : List D := [.tup [V2 v1 v2, V2 v3 v4], .tup [V2 b a, V2 a b]]
  refine ⟨P1 ++ P2 ++ P3, s6, run_rl (F := F24) (ρ0 := [some (.loc 0), some (V2 a b), none, none, none, none, none]) (ρ1 := [some (.loc 0), some (V2 a b), some (V2 o1 o2), some (V2 t1 t2), some (V2 x y), some (V2 u v), some (.lst (P1 ++ P2))]) (d := .lst (P1 ++ P2 ++ P3)) h R6 rfl rfl rfl rfl ?_ rfl, by rw [show k + 10 = k + 1 + 1 + 1 + 1 + 3 + 3 by omega]; exact R6, ?_⟩
  · rw [show F24.body = b24 from rfl, b24, ev_cons (ρ1 := [some (.loc 0), some (V2 a b), some (V2 o1 o2), none, none, none, none]) (st1 := s2) (by simp [evSs, evS, evE, evEs, evO, evT, evIt, RS.of, R.bind, R.of, RS.seq, idxD, seqD, ixD, opB, opC, truD, setT, setTs, eqD, full, frz, D.sub, D.subL, D.eqv, D.eqvL, D.depth, D.depthL, biD, permD, opI, newL, SZ, isiD, tyOk, lstD, setD, mtD, okM, e1, e2]), ev_cons (ρ1 := [some (.loc 0), some (V2 a b), some (V2 o1 o2), some (V2 t1 t2), none, none, none]) (st1 := s4) (by simp [evSs, evS, evE, evEs, evO, evT, evIt, RS.of, R.bind, R.of, RS.seq, idxD, seqD, ixD, opB, opC, truD, setT, setTs, eqD, full, frz, D.sub, D.subL, D.eqv, D.eqvL, D.depth, D.depthL, biD, permD, opI, newL, SZ, isiD, tyOk, lstD, setD, mtD, okM, e3, e4]),
      ev_cons (ρ1 := [some (.loc 0), some (V2 a b), some (V2 o1 o2), some (V2 t1 t2), some (V2 x y), none, none]) (st1 := s4) (by simp [evSs, evS, evE, evEs, evO, evT, evIt, RS.of, R.bind, R.of, RS.seq, idxD, seqD, ixD, opB, opC, truD, setT, setTs, eqD, full, frz, D.sub, D.subL, D.eqv, D.eqvL, D.depth, D.depthL, biD, permD, opI, newL, SZ, isiD, tyOk, lstD, setD, mtD, okM, g1, g2, g3, g4, hx, hy]),
      ev_cons (ρ1 := [some (.loc 0), some (V2 a b), some (V2 o1 o2), some (V2 t1 t2), some (V2 x y), some (V2 u v), none]) (st1 := s4) (by simp [evSs, evS, evE, evEs, evO, evT, evIt, RS.of, R.bind, R.of, RS.seq, idxD, seqD, ixD, opB, opC, truD, setT, setTs, eqD, full, frz, D.sub, D.subL, D.eqv, D.eqvL, D.depth, D.depthL, biD, permD, opI, newL, SZ, isiD, tyOk, lstD, setD, mtD, okM, hu, hv]),
      ev_cons (ρ1 := [some (.loc 0), some (V2 a b), some (V2 o1 o2), some (V2 t1 t2), some (V2 x y), some (V2 u v), some (.lst P1)]) (st1 := s4) (by simp [evSs, evS, evE, evEs, evO, evT, evIt, RS.of, R.bind, R.of, RS.seq, idxD, seqD, ixD, opB, opC, truD, setT, setTs, eqD, full, frz, D.sub, D.subL, D.eqv, D.eqvL, D.depth, D.depthL, biD, permD, opI, newL, SZ, isiD, tyOk, lstD, setD, mtD, okM, P1]),
      ev_cons (ρ1 := [some (.loc 0), some (V2 a b), some (V2 o1 o2), some (V2 t1 t2), some (V2 x y), some (V2 u v), some (.lst (P1 ++ P2))]) (st1 := s4) (by simp [evSs, evS, evE, evEs, evO, evT, evIt, RS.of, R.bind, R.of, RS.seq, idxD, seqD, ixD, opB, opC, truD, setT, setTs, eqD, full, frz, D.sub, D.subL, D.eqv, D.eqvL, D.depth, D.depthL, biD, permD, opI, newL, SZ, isiD, tyOk, lstD, setD, mtD, okM, P1, P2])]
    refine ev_ret ?_
    simp [evSs, evS, evE, evEs, evO, evT, evIt, RS.of, R.bind, R.of, RS.seq, idxD, seqD, ixD, opB, opC, truD, setT, setTs, eqD, full, frz, D.sub, D.subL, D.eqv, D.eqvL, D.depth, D.depthL, biD, permD, opI, newL, SZ, isiD, tyOk, lstD, setD, mtD, okM, P1, P2, P3, e5, e6]
  · have k1 : ∀ {c : Int}, Sz 41 c → Sz 50 c ∧ Sz 50 (c + 1) ∧ Sz 50 (c - 1) := fun {c} z => by unfold Sz at *; omega
    have k2 : ∀ {c : Int}, Sz 5 c → Sz 50 c ∧ Sz 50 (0 - c) := fun {c} z => by unfold Sz at *; omega
    have zo1' := zo1.mono (show 40 ≤ 50 by decide)
    have zo2' := zo2.mono (show 40 ≤ 50 by decide)
    have z0 : Sz 50 0 := by unfold Sz; decide
    obtain ⟨u1, u2, u3⟩ := k1 zu
    obtain ⟨w1, w2, w3⟩ := k1 zv
    obtain ⟨a1, a2⟩ := k2 za
    obtain ⟨b1', b2'⟩ := k2 zb
    intro d hd
    simp only [P1, P2, P3, List.mem_append, List.mem_cons, List.not_mem_nil, or_false] at hd
    rcases hd with (((rfl | rfl | rfl | rfl | rfl) | (rfl | rfl | rfl | rfl)) | (rfl | rfl))
    · exact ⟨_, _, _, _, rfl, zo1', zo2', u1, w1⟩
    · exact ⟨_, _, _, _, rfl, u1, w1, zo1', zo2'⟩
    · exact ⟨_, _, _, _, rfl, zo1', zo2', zo1', zo2'⟩
    · exact ⟨_, _, _, _, rfl, zo1', zo2', u2, w1⟩
    · exact ⟨_, _, _, _, rfl, zo1', zo2', u1, w3⟩
    · exact ⟨_, _, _, _, rfl, zo1', zo2', u2, w2⟩
    · exact ⟨_, _, _, _, rfl, a1, b1', z0, z0⟩
    · exact ⟨_, _, _, _, rfl, b2', a1, z0, z0⟩
    · exact ⟨_, _, _, _, rfl, a1, b2', z0, z0⟩
    · exact ⟨_, _, _, _, rfl, z1.mono (by decide), z2.mono (by decide), z3.mono (by decide), z4.mono (by decide)⟩
    · exact ⟨_, _, _, _, rfl, b1', a1, a1, b1'⟩
end K34
set_option Elab.async false
set_option linter.all false
set_option maxRecDepth 100000
set_option maxHeartbeats 2000000
namespace K34
open DI
theorem Rl.mono {i j : Int} {s : Sto} (h : Rl i s) (l : i ≤ j) : Rl j s := by
  obtain ⟨m, c, e, a1, a2, a3, a4⟩ := h
  exact ⟨m, c, e, a1, a2, a3, by omega⟩
theorem s_asked (n : Nat) (st : Sto) (k a b : Int) (g W : Nat) (B : Bx a b g W) (h : Rl k st) (hk : k ≤ 1000) : ∃ st', callD fds anc (n + 5) 25 [.loc 0, V2 a b] st = .ok (.bl true) st' ∧ Rl (k + 30) st' := by
  have a20 := B.a20
  have b20 := B.b20
  have ha : a.natAbs ≤ 1000 := by omega
  have hb : b.natAbs ≤ 1000 := by omega
  have N0 := B.N
  have e19 := s_box (n + 2) st a b W g ha hb N0 B.gg B.WW B.s B.w1 B.g1 B.gp
  have e11 := s_all (n + 1) st a b W g ha hb (by omega) B.gg B.WW B.s B.w1 B.g1
  have e16 := alike_rows (n + 1) st g W B.s
  -- the four places
  obtain ⟨ρ1, s1, lp1, z3, z4, z5, rfl, R1⟩ := for_rule0 (n := 4) (b := turn ⟨callD fds anc (n + 4), anc⟩ (.nm 3) [.asg (.nm 4) (.call 23 [.var 0] [0]), .asg (.nm 5) (.call 20 [.var 1, .var 2, .var 4] [0, 1, 2]), .ife (.or (.not (.call 16 [.var 5, .call 10 [.var 4, .var 1] [0, 1]] [0, 1])) (.not (.call 16 [.var 5, .call 10 [.var 5, .var 1] [0, 1]] [0, 1]))) [.ret (.cst (.bl false))] [], .ife (.is_ (.isnB true) (.call 12 [.var 4, .var 5, .var 1] [0, 1, 2])) [.ret (.cst (.bl false))] []])
    (fun i ρ s => ∃ z3 z4 z5 : Option D, ρ = [some (.loc 0), some (V2 a b), some (.lst (rows g W)), z3, z4, z5, none, none, none] ∧ Rl (k + 3 * i) s) (xs := rngD 0 ((4 : Nat) : Int)) (ρ := [some (.loc 0), some (V2 a b), some (.lst (rows g W)), none, none, none, none, none, none]) (st := st) (rng_len 4) ⟨none, none, none, rfl, by simpa using h⟩ (by
      rintro j x ρ s hx ⟨z3, z4, z5, rfl, hR⟩
      obtain ⟨hj, rfl⟩ := rng_at hx
      obtain ⟨v, w, s', e23, R', zv, zw⟩ := s_vec (n + 1) s (k + 3 * j) hR (by omega)
      have zv := zv.mono (show 40 ≤ 50 by decide)
      have zw := zw.mono (show 40 ≤ 50 by decide)
      obtain ⟨x, y, e10, hx1, hy1, d⟩ := B.rest (n + 1) s' zv zw
      have wx : Sz 50 x := by have := B.w1; unfold Sz; omega
      have wy : Sz 50 y := by have := B.g1; unfold Sz; omega
      have e20 := B.lrest_is (n + 2) s' zv zw hx1 hy1 d
      have d0 : Dv a b (x - x) (y - y) := by
        unfold Dv
        simp
      have e10b := B.rest_is (n + 1) s' wx wy hx1 hy1 d0
      have eal := alike_V2 (n + 2) s' x y
      have e12 := B.same_ok n s' (zv.mono (show 50 ≤ 55 by decide)) (zw.mono (by decide)) (wx.mono (by decide)) (wy.mono (by decide))
      rw [decide_eq_true d] at e12
      refine ⟨[some (.loc 0), some (V2 a b), some (.lst (rows g W)), some (.int j), some (V2 v w), some (V2 x y), none, none, none], s', .inl ?_, some (.int j), some (V2 v w), some (V2 x y), rfl, R'.mono (by omega)⟩
      show evSs _ _ [some (.loc 0), some (V2 a b), some (.lst (rows g W)), some (.int j), z4, z5, none, none, none] s = _
      rw [ev_cons (ρ1 := [some (.loc 0), some (V2 a b), some (.lst (rows g W)), some (.int j), some (V2 v w), z5, none, none, none]) (st1 := s') (by simp [evSs, evS, evE, evEs, evO, evT, evIt, RS.of, R.bind, R.of, RS.seq, idxD, seqD, ixD, opB, opC, truD, setT, setTs, eqD, full, frz, D.sub, D.subL, D.eqv, D.eqvL, D.depth, D.depthL, biD, permD, opI, newL, SZ, isiD, tyOk, lstD, setD, mtD, okM, e23]), ev_cons (ρ1 := [some (.loc 0), some (V2 a b), some (.lst (rows g W)), some (.int j), some (V2 v w), some (V2 x y), none, none, none]) (st1 := s') (by simp [evSs, evS, evE, evEs, evO, evT, evIt, RS.of, R.bind, R.of, RS.seq, idxD, seqD, ixD, opB, opC, truD, setT, setTs, eqD, full, frz, D.sub, D.subL, D.eqv, D.eqvL, D.depth, D.depthL, biD, permD, opI, newL, SZ, isiD, tyOk, lstD, setD, mtD, okM, e20]),
        ev_if_f (st1 := s') (by simp [evSs, evS, evE, evEs, evO, evT, evIt, RS.of, R.bind, R.of, RS.seq, idxD, seqD, ixD, opB, opC, truD, setT, setTs, eqD, full, frz, D.sub, D.subL, D.eqv, D.eqvL, D.depth, D.depthL, biD, permD, opI, newL, SZ, isiD, tyOk, lstD, setD, mtD, okM, e10, e10b, eal]), ev_if_f (st1 := s') (by simp [evSs, evS, evE, evEs, evO, evT, evIt, RS.of, R.bind, R.of, RS.seq, idxD, seqD, ixD, opB, opC, truD, setT, setTs, eqD, full, frz, D.sub, D.subL, D.eqv, D.eqvL, D.depth, D.depthL, biD, permD, opI, newL, SZ, isiD, tyOk, lstD, setD, mtD, okM, e12])]
      rfl)
  -- the drawn one
  have lr := rows_len g W
  have Wg : 0 < W * g := Nat.mul_pos B.wp B.gp
  obtain ⟨r, s2, e14, R2, r1, r2⟩ := s_pick (n + 3) s1 (k + 3 * (4 : Nat)) ((W * g : Nat) : Int) R1 (by omega) (by omega)
  have hlt : r.toNat < (rows g W).length := by rw [lr]; omega
  obtain ⟨x, y, hxy, x2, y2⟩ := rows_mem (List.getElem_mem hlt)
  have ix : ixD (rows g W).length r = some r.toNat := by unfold ixD; rw [if_pos r1, if_pos (by rw [lr]; exact r2)]
  have ixe : (rows g W)[r.toNat]? = some (V2 x y) := by rw [List.getElem?_eq_getElem hlt, hxy]
  have wx : Sz 50 (x : Int) := by have := B.w1; unfold Sz; omega
  have wy : Sz 50 (y : Int) := by have := B.g1; unfold Sz; omega
  have d0 : Dv a b ((x : Int) - x) ((y : Int) - y) := by unfold Dv; simp
  have e10 := B.rest_is (n + 1) s2 wx wy ⟨by omega, by omega⟩ ⟨by omega, by omega⟩ d0
  have dby : Dv a b (a - 0) (b - 0) := by
    unfold Dv
    rw [Int.sub_zero, Int.sub_zero]
    exact ⟨⟨1, by omega⟩, ⟨0, by rw [Int.mul_comm]; omega⟩⟩
  have e10by := B.rest_is (n + 1) s2 (v := a) (w := b) (x := 0) (y := 0) (by unfold Sz; omega) (by unfold Sz; omega) ⟨by omega, by have := B.wp; omega⟩ ⟨by omega, by have := B.gp; omega⟩ dby
  have eal1 := alike_V2 (n + 2) s2 (x : Int) (y : Int)
  have eal0 := alike_V2 (n + 2) s2 0 0
  -- the pairs
  obtain ⟨l, s3, e24, R3, hl⟩ := s_pairs n s2 (k + 3 * (4 : Nat) + 1) a b a20 b20 R2 (by omega)
  obtain ⟨ρ4, s4, lp2, rfl, z7, z8, rfl⟩ := for_rule0 (n := l.length) (b := turn ⟨callD fds anc (n + 4), anc⟩ (.nm 7) [.asg (.nm 8) (.call 18 [.var 1, .tup [.bin .sub (.idx (.idx (.var 7) (.cst (.int 0))) (.cst (.int 0))) (.idx (.idx (.var 7) (.cst (.int 1))) (.cst (.int 0))), .bin .sub (.idx (.idx (.var 7) (.cst (.int 0))) (.cst (.int 1))) (.idx (.idx (.var 7) (.cst (.int 1))) (.cst (.int 1)))]] [0, 1]), .ife (.not (.call 16 [.var 8, .call 12 [.idx (.var 7) (.cst (.int 0)), .idx (.var 7) (.cst (.int 1)), .var 1] [0, 1, 2]] [0, 1])) [.ret (.cst (.bl false))] []])
    (fun i ρ s => s = s3 ∧ ∃ z7 z8 : Option D, ρ = [some (.loc 0), some (V2 a b), some (.lst (rows g W)), z3, z4, z5, some (V2 x y), z7, z8]) (xs := l) (ρ := [some (.loc 0), some (V2 a b), some (.lst (rows g W)), z3, z4, z5, some (V2 x y), none, none]) (st := s3) rfl ⟨rfl, none, none, rfl⟩ (by
      rintro j d ρ s hx ⟨rfl, z7, z8, rfl⟩
      obtain ⟨p, q, u, t, rfl, hp, hq, hu, ht⟩ := hl d (List.mem_of_getElem? hx)
      have e18 := s_ldiv (n + 3) s a b (p - u) (q - t) (by unfold Sz; omega) (by unfold Sz; omega) ((hp.sub hu).mono (by decide)) ((hq.sub ht).mono (by decide)) N0
      have e12 := B.same_ok n s (hp.mono (show 50 ≤ 55 by decide)) (hq.mono (by decide)) (hu.mono (by decide)) (ht.mono (by decide))
      have eal := alike_bool (n + 3) s (decide (Dv a b (p - u) (q - t)))
      generalize decide (Dv a b (p - u) (q - t)) = bb at e18 e12 eal
      refine ⟨[some (.loc 0), some (V2 a b), some (.lst (rows g W)), z3, z4, z5, some (V2 x y), some (.tup [V2 p q, V2 u t]), some (.bl bb)], s, .inl ?_, rfl, some (.tup [V2 p q, V2 u t]), some (.bl bb), rfl⟩
      show evSs _ _ [some (.loc 0), some (V2 a b), some (.lst (rows g W)), z3, z4, z5, some (V2 x y), some (.tup [V2 p q, V2 u t]), z8] s = _
      rw [ev_cons (ρ1 := [some (.loc 0), some (V2 a b), some (.lst (rows g W)), z3, z4, z5, some (V2 x y), some (.tup [V2 p q, V2 u t]), some (.bl bb)]) (st1 := s) (by simp [evSs, evS, evE, evEs, evO, evT, evIt, RS.of, R.bind, R.of, RS.seq, idxD, seqD, ixD, opB, opC, truD, setT, setTs, eqD, full, frz, D.sub, D.subL, D.eqv, D.eqvL, D.depth, D.depthL, biD, permD, opI, newL, SZ, isiD, tyOk, lstD, setD, mtD, okM, e18]), ev_if_f (st1 := s) (by simp [evSs, evS, evE, evEs, evO, evT, evIt, RS.of, R.bind, R.of, RS.seq, idxD, seqD, ixD, opB, opC, truD, setT, setTs, eqD, full, frz, D.sub, D.subL, D.eqv, D.eqvL, D.depth, D.depthL, biD, permD, opI, newL, SZ, isiD, tyOk, lstD, setD, mtD, okM, e12, eal])]
      rfl)
  refine ⟨s4, run_rl (F := F25) (ρ0 := [some (.loc 0), some (V2 a b), none, none, none, none, none, none, none]) (ρ1 := [some (.loc 0), some (V2 a b), some (.lst (rows g W)), z3, z4, z5, some (V2 x y), z7, z8]) (d := .bl true) h R3 rfl rfl rfl rfl ?_ rfl, R3.mono (by omega)⟩
  have eidx : evS ⟨callD fds anc (n + 4), anc⟩ (.asg (.nm 6) (.idx (.var 2) (.call 14 [.var 0, .bi .len [.var 2]] [0, 1]))) [some (.loc 0), some (V2 a b), some (.lst (rows g W)), z3, z4, z5, none, none, none] s1 = .ok .nx [some (.loc 0), some (V2 a b), some (.lst (rows g W)), z3, z4, z5, some (V2 x y), none, none] s2 := by
    have c : evE ⟨callD fds anc (n + 4), anc⟩ (.call 14 [.var 0, .bi .len [.var 2]] [0, 1]) [some (.loc 0), some (V2 a b), some (.lst (rows g W)), z3, z4, z5, none, none, none] s1 = .ok (.int r) s2 := by
      have u : ∀ (es : List Ex) (pm : List Nat) (ρ : Env) (st : Sto), evE ⟨callD fds anc (n + 4), anc⟩ (.call 14 es pm) ρ st = (evEs ⟨callD fds anc (n + 4), anc⟩ es ρ st).bind fun vs st => callD fds anc (n + 4) 14 (permD vs pm) st := fun _ _ _ _ => rfl
      have u2 : evEs ⟨callD fds anc (n + 4), anc⟩ [.var 0, .bi .len [.var 2]] [some (.loc 0), some (V2 a b), some (.lst (rows g W)), z3, z4, z5, none, none, none] s1 = .ok [.loc 0, .int ((W * g : Nat) : Int)] s1 := by
        simp [evEs, evE, R.bind, biD, seqD, lr]
      rw [u, u2]
      exact e14
    have u : ∀ (x y : Ex) (ρ : Env) (st : Sto), evE ⟨callD fds anc (n + 4), anc⟩ (.idx x y) ρ st = (evE ⟨callD fds anc (n + 4), anc⟩ x ρ st).bind fun x st => (evE ⟨callD fds anc (n + 4), anc⟩ y ρ st).bind fun y st => R.of (idxD x y st) st := fun _ _ _ _ => rfl
    rw [evS, u, show evE ⟨callD fds anc (n + 4), anc⟩ (.var 2) [some (.loc 0), some (V2 a b), some (.lst (rows g W)), z3, z4, z5, none, none, none] s1 = .ok (.lst (rows g W)) s1 from rfl]
    simp only [R.bind, c, idxD, seqD, Option.bind_some, ix, ixe, R.of, RS.of, setT]
    rfl
  rw [show F25.body = b25 from rfl, b25, ev_cons (ρ1 := [some (.loc 0), some (V2 a b), some (.lst (rows g W)), none, none, none, none, none, none]) (st1 := st) (by simp [evSs, evS, evE, evEs, evO, evT, evIt, RS.of, R.bind, R.of, RS.seq, idxD, seqD, ixD, opB, opC, truD, setT, setTs, eqD, full, frz, D.sub, D.subL, D.eqv, D.eqvL, D.depth, D.depthL, biD, permD, opI, newL, SZ, isiD, tyOk, lstD, setD, mtD, okM, e19]), ev_if_f (st1 := st) (by simp [evSs, evS, evE, evEs, evO, evT, evIt, RS.of, R.bind, R.of, RS.seq, idxD, seqD, ixD, opB, opC, truD, setT, setTs, eqD, full, frz, D.sub, D.subL, D.eqv, D.eqvL, D.depth, D.depthL, biD, permD, opI, newL, SZ, isiD, tyOk, lstD, setD, mtD, okM, e11, e16]),
    ev_for (ev_rng1 (i := ((4 : Nat) : Int)) (st1 := st) (by simp [evSs, evS, evE, evEs, evO, evT, evIt, RS.of, R.bind, R.of, RS.seq, idxD, seqD, ixD, opB, opC, truD, setT, setTs, eqD, full, frz, D.sub, D.subL, D.eqv, D.eqvL, D.depth, D.depthL, biD, permD, opI, newL, SZ, isiD, tyOk, lstD, setD, mtD, okM]) (small_of (by decide) (by decide))) lp1, ev_cons eidx, ev_if_f (st1 := s2) (by simp [evSs, evS, evE, evEs, evO, evT, evIt, RS.of, R.bind, R.of, RS.seq, idxD, seqD, ixD, opB, opC, truD, setT, setTs, eqD, full, frz, D.sub, D.subL, D.eqv, D.eqvL, D.depth, D.depthL, biD, permD, opI, newL, SZ, isiD, tyOk, lstD, setD, mtD, okM, e10, e10by, eal1, eal0]),
    ev_for (xs := l) (st1 := s4) (by simp [evSs, evS, evE, evEs, evO, evT, evIt, RS.of, R.bind, R.of, RS.seq, idxD, seqD, ixD, opB, opC, truD, setT, setTs, eqD, full, frz, D.sub, D.subL, D.eqv, D.eqvL, D.depth, D.depthL, biD, permD, opI, newL, SZ, isiD, tyOk, lstD, setD, mtD, okM, e24, srcD]) lp2]
  exact ev_ret rfl
end K34
set_option Elab.async false
set_option linter.all false
set_option maxRecDepth 100000
set_option maxHeartbeats 2000000
namespace K34
open DI
theorem not_dv {a b X : Int} (ha : 2 ≤ a) (hX : X = 1 ∨ X = -1) : ¬ Dv a b X 0 := by
  rintro ⟨⟨k, hk⟩, _⟩
  have h1 := sq_nonneg b
  have h2 : a * 2 ≤ a * a := Int.mul_le_mul_of_nonneg_left ha (by omega)
  generalize hN : a * a + b * b = N at hk
  have hN1 : a < N := by omega
  have hx : X * a = N * k := by omega
  have hk0 : k = 0 ∨ 1 ≤ k ∨ k ≤ -1 := by omega
  rcases hk0 with rfl | hk0 | hk0
  · rcases hX with rfl | rfl <;> omega
  · have : N * 1 ≤ N * k := Int.mul_le_mul_of_nonneg_left hk0 (by omega)
    rcases hX with rfl | rfl <;> omega
  · have : N * k ≤ N * (-1) := Int.mul_le_mul_of_nonneg_left hk0 (by omega)
    rcases hX with rfl | rfl <;> omega
theorem s_law (n : Nat) (ns : List Int) (h : ns.length ≤ 63) : ∃ st', callD fds anc (n + 6) 26 [.ro (ns.map .int)] [] = .ok (.bl true) st' := by
  obtain ⟨s0, e13, R0⟩ := s_reel (n + 4) ns h
  obtain ⟨ρ1, s1, lp1, z2, rfl, R1⟩ := for_rule0 (n := 2) (b := turn ⟨callD fds anc (n + 5), anc⟩ (.nm 2) [.ife (.not (.call 25 [.var 1, .call 22 [.var 1] [0]] [0, 1])) [.ret (.cst (.bl false))] []])
    (fun i ρ s => ∃ z2 : Option D, ρ = [some (.ro (ns.map .int)), some (.loc 0), z2, none, none, none] ∧ Rl (0 + 50 * i) s) (xs := rngD 0 ((2 : Nat) : Int)) (ρ := [some (.ro (ns.map .int)), some (.loc 0), none, none, none, none]) (st := s0) (rng_len 2) ⟨none, rfl, by simpa using R0⟩ (by
      rintro j x ρ s hx ⟨z2, rfl, hR⟩
      obtain ⟨hj, rfl⟩ := rng_at hx
      obtain ⟨a, b, s', e22, R', n0, a20, b20⟩ := s_by (n + 2) s _ hR (by omega)
      obtain ⟨g, W, B⟩ := bx_of n0 a20 b20
      obtain ⟨s2, e25, R2⟩ := s_asked n s' _ a b g W B R' (by omega)
      refine ⟨[some (.ro (ns.map .int)), some (.loc 0), some (.int j), none, none, none], s2, .inl ?_, some (.int j), rfl, R2.mono (by omega)⟩
      show evSs _ _ [some (.ro (ns.map .int)), some (.loc 0), some (.int j), none, none, none] s = _
      rw [ev_if_f (st1 := s2) (by simp [evSs, evS, evE, evEs, evO, evT, evIt, RS.of, R.bind, R.of, RS.seq, idxD, seqD, ixD, opB, opC, truD, setT, setTs, eqD, full, frz, D.sub, D.subL, D.eqv, D.eqvL, D.depth, D.depthL, biD, permD, opI, newL, SZ, isiD, tyOk, lstD, setD, mtD, okM, e22, e25])]
      rfl)
  obtain ⟨a, s2, e14, R2, a1, a2⟩ := s_pick (n + 4) s1 _ 9 R1 (by omega) (by decide)
  obtain ⟨b, s3, e21, R3, b1', b2'⟩ := s_num (n + 3) s2 _ 9 R2 (by omega) (by decide) (by decide)
  obtain ⟨v, w, s4, e23, R4, zv, zw⟩ := s_vec (n + 2) s3 _ R3 (by omega)
  obtain ⟨g, W, B⟩ := bx_of (a := 2 + a) (b := b) (by omega) (by omega) (by omega)
  obtain ⟨s5, e25, R5⟩ := s_asked n s4 _ (2 + a) b g W B R4 (by omega)
  have zv' := zv.mono (show 40 ≤ 55 by decide)
  have zw' := zw.mono (show 40 ≤ 55 by decide)
  have e12b := B.same_ok (n + 1) s4 zv' zw' zv' zw'
  have d0 : Dv (2 + a) b (v - v) (w - w) := by unfold Dv; simp
  rw [decide_eq_true d0] at e12b
  -- the place beside
  have beside : ∃ q : Int, (if v = 0 then q = -1 else v / (if 1 < (if v < 0 then -v else v) then (if v < 0 then -v else v) else 1) = q ∧ (q = 1 ∨ q = -1)) := by
    by_cases h0 : v = 0
    · exact ⟨-1, by rw [if_pos h0]⟩
    · refine ⟨if v < 0 then -1 else 1, ?_⟩
      rw [if_neg h0]
      by_cases hv : v < 0
      · rw [if_pos hv, if_pos hv]
        refine ⟨?_, .inr rfl⟩
        by_cases h1 : 1 < -v
        · rw [if_pos h1]
          have : v = -1 * (-v) := by omega
          have e : v / (-v) = -1 := by
            conv => lhs; lhs; rw [this]
            exact Int.mul_ediv_cancel _ (by omega)
          exact e
        · rw [if_neg h1]; omega
      · rw [if_neg hv, if_neg hv]
        refine ⟨?_, .inl rfl⟩
        by_cases h1 : 1 < v
        · rw [if_pos h1]; exact Int.ediv_self (by omega)
        · rw [if_neg h1]; omega
  obtain ⟨q, hq⟩ := beside
  have pre : ∀ (rest : List Cm), evSs ⟨callD fds anc (n + 5), anc⟩ (.asg (.nm 1) (.call 13 [.var 0] [0]) :: .for_ (.nm 2) (.rng1 (.cst (.int 2))) [.ife (.not (.call 25 [.var 1, .call 22 [.var 1] [0]] [0, 1])) [.ret (.cst (.bl false))] []] :: .asg (.nm 3) (.tup [.bin .add (.cst (.int 2)) (.call 14 [.var 1, .cst (.int 9)] [0, 1]), .call 21 [.var 1, .cst (.int 9)] [0, 1]]) :: .asg (.nm 4) (.call 23 [.var 1] [0]) :: rest) [some (.ro (ns.map .int)), none, none, none, none, none] [] = evSs ⟨callD fds anc (n + 5), anc⟩ rest [some (.ro (ns.map .int)), some (.loc 0), z2, some (V2 (2 + a) b), some (V2 v w), none] s4 := by
    intro rest
    rw [ev_cons (ρ1 := [some (.ro (ns.map .int)), some (.loc 0), none, none, none, none]) (st1 := s0) (by simp [evSs, evS, evE, evEs, evO, evT, evIt, RS.of, R.bind, R.of, RS.seq, idxD, seqD, ixD, opB, opC, truD, setT, setTs, eqD, full, frz, D.sub, D.subL, D.eqv, D.eqvL, D.depth, D.depthL, biD, permD, opI, newL, SZ, isiD, tyOk, lstD, setD, mtD, okM, e13]), ev_for (ev_rng1 (i := ((2 : Nat) : Int)) (st1 := s0) (by simp [evSs, evS, evE, evEs, evO, evT, evIt, RS.of, R.bind, R.of, RS.seq, idxD, seqD, ixD, opB, opC, truD, setT, setTs, eqD, full, frz, D.sub, D.subL, D.eqv, D.eqvL, D.depth, D.depthL, biD, permD, opI, newL, SZ, isiD, tyOk, lstD, setD, mtD, okM]) (small_of (by decide) (by decide))) lp1,
      ev_cons (ρ1 := [some (.ro (ns.map .int)), some (.loc 0), z2, some (V2 (2 + a) b), none, none]) (st1 := s3) (by simp [evSs, evS, evE, evEs, evO, evT, evIt, RS.of, R.bind, R.of, RS.seq, idxD, seqD, ixD, opB, opC, truD, setT, setTs, eqD, full, frz, D.sub, D.subL, D.eqv, D.eqvL, D.depth, D.depthL, biD, permD, opI, newL, SZ, isiD, tyOk, lstD, setD, mtD, okM, e14, e21]), ev_cons (ρ1 := [some (.ro (ns.map .int)), some (.loc 0), z2, some (V2 (2 + a) b), some (V2 v w), none]) (st1 := s4) (by simp [evSs, evS, evE, evEs, evO, evT, evIt, RS.of, R.bind, R.of, RS.seq, idxD, seqD, ixD, opB, opC, truD, setT, setTs, eqD, full, frz, D.sub, D.subL, D.eqv, D.eqvL, D.depth, D.depthL, biD, permD, opI, newL, SZ, isiD, tyOk, lstD, setD, mtD, okM, e23])]
  have fin : ∀ (x : Int), Sz 55 x → (v - x = 1 ∨ v - x = -1) → evSs ⟨callD fds anc (n + 5), anc⟩ [.ife (.or (.is_ (.isnB false) (.call 12 [.var 4, .var 5, .var 3] [0, 1, 2])) (.is_ (.isnB true) (.call 12 [.var 4, .var 4, .var 3] [0, 1, 2]))) [.ret (.cst (.bl false))] [], .ret (.call 25 [.var 1, .var 3] [0, 1])] [some (.ro (ns.map .int)), some (.loc 0), z2, some (V2 (2 + a) b), some (V2 v w), some (V2 x w)] s4 = .ok (.rt (.bl true)) [some (.ro (ns.map .int)), some (.loc 0), z2, some (V2 (2 + a) b), some (V2 v w), some (V2 x w)] s5 := by
    intro x zx hx
    have e12 := B.same_ok (n + 1) s4 zv' zw' zx zw'
    rw [Int.sub_self, decide_eq_false (not_dv (by omega) hx)] at e12
    rw [ev_if_f (st1 := s4) (by simp [evSs, evS, evE, evEs, evO, evT, evIt, RS.of, R.bind, R.of, RS.seq, idxD, seqD, ixD, opB, opC, truD, setT, setTs, eqD, full, frz, D.sub, D.subL, D.eqv, D.eqvL, D.depth, D.depthL, biD, permD, opI, newL, SZ, isiD, tyOk, lstD, setD, mtD, okM, e12, e12b])]
    exact ev_ret (by simp [evSs, evS, evE, evEs, evO, evT, evIt, RS.of, R.bind, R.of, RS.seq, idxD, seqD, ixD, opB, opC, truD, setT, setTs, eqD, full, frz, D.sub, D.subL, D.eqv, D.eqvL, D.depth, D.depthL, biD, permD, opI, newL, SZ, isiD, tyOk, lstD, setD, mtD, okM, e25])
  have done : ∀ ρ', evSs ⟨callD fds anc (n + 5), anc⟩ F26.body [some (.ro (ns.map .int)), none, none, none, none, none] [] = .ok (.rt (.bl true)) ρ' s5 → ∃ st', callD fds anc (n + 6) 26 [.ro (ns.map .int)] [] = .ok (.bl true) st' := fun ρ' hb =>
    ⟨[], run_retA (F := F26) (ex := s5) (d := .bl true) rfl rfl rfl rfl hb rfl⟩
  by_cases h0 : v = 0
  · refine done [some (.ro (ns.map .int)), some (.loc 0), z2, some (V2 (2 + a) b), some (V2 v w), some (V2 1 w)] ?_
    rw [show F26.body = b26 from rfl, b26, pre]
    subst h0
    rw [ev_cons (ρ1 := [some (.ro (ns.map .int)), some (.loc 0), z2, some (V2 (2 + a) b), some (V2 0 w), some (V2 0 w)]) (st1 := s4) (by simp [evSs, evS, evE, evEs, evO, evT, evIt, RS.of, R.bind, R.of, RS.seq, idxD, seqD, ixD, opB, opC, truD, setT, setTs, eqD, full, frz, D.sub, D.subL, D.eqv, D.eqvL, D.depth, D.depthL, biD, permD, opI, newL, SZ, isiD, tyOk, lstD, setD, mtD, okM, show Nat.log2 1 < 9000 by decide]), ev_cons (ρ1 := [some (.ro (ns.map .int)), some (.loc 0), z2, some (V2 (2 + a) b), some (V2 0 w), some (V2 1 w)]) (st1 := s4) (by simp [evSs, evS, evE, evEs, evO, evT, evIt, RS.of, R.bind, R.of, RS.seq, idxD, seqD, ixD, opB, opC, truD, setT, setTs, eqD, full, frz, D.sub, D.subL, D.eqv, D.eqvL, D.depth, D.depthL, biD, permD, opI, newL, SZ, isiD, tyOk, lstD, setD, mtD, okM])]
    exact fin 1 (by unfold Sz; decide) (by omega)
  · rw [if_neg h0] at hq
    obtain ⟨hq1, hq2⟩ := hq
    refine done [some (.ro (ns.map .int)), some (.loc 0), z2, some (V2 (2 + a) b), some (V2 v w), some (V2 (v - q) w)] ?_
    rw [show F26.body = b26 from rfl, b26, pre]
    generalize hm : (if 1 < (if v < 0 then -v else v) then (if v < 0 then -v else v) else 1) = mx at hq1
    have m0 : 0 < mx := by rw [← hm]; split <;> omega
    have m1 : mx.natAbs.log2 < 9000 := by
      refine log_ok (k := 41) ?_ (by decide)
      rw [← hm]
      unfold Sz at *
      have e40 : (2 : Nat) ^ 40 = 1099511627776 := by decide
      have e41 : (2 : Nat) ^ 41 = 2199023255552 := by decide
      rw [e40] at zv
      rw [e41]
      split
      · split <;> omega
      · split <;> first | omega | (split <;> omega)
    have f0 : (v == 0) = false := by simpa using h0
    rw [ev_cons (ρ1 := [some (.ro (ns.map .int)), some (.loc 0), z2, some (V2 (2 + a) b), some (V2 v w), some (V2 (v - q) w)]) (st1 := s4) (by
        have c : evE ⟨callD fds anc (n + 5), anc⟩ (.bi .max2 [.cst (.int 1), .bi .abs [.idx (.var 4) (.cst (.int 0))]]) [some (.ro (ns.map .int)), some (.loc 0), z2, some (V2 (2 + a) b), some (V2 v w), none] s4 = .ok (.int mx) s4 := by
          rw [← hm]
          simp only [evE, evEs, R.bind, biD, idxD, seqD, List.getElem?_cons_zero, List.getElem?_cons_succ, Option.bind_some, List.length_cons, List.length_nil, R.of]
          rfl
        have c0 : evE ⟨callD fds anc (n + 5), anc⟩ (.idx (.var 4) (.cst (.int 0))) [some (.ro (ns.map .int)), some (.loc 0), z2, some (V2 (2 + a) b), some (V2 v w), none] s4 = .ok (.int v) s4 := rfl
        have c1 : evE ⟨callD fds anc (n + 5), anc⟩ (.bin .fdiv (.idx (.var 4) (.cst (.int 0))) (.bi .max2 [.cst (.int 1), .bi .abs [.idx (.var 4) (.cst (.int 0))]])) [some (.ro (ns.map .int)), some (.loc 0), z2, some (V2 (2 + a) b), some (V2 v w), none] s4 = .ok (.int q) s4 := by
          have u : ∀ (o : BO) (x y : Ex) (ρ : Env) (st : Sto), evE ⟨callD fds anc (n + 5), anc⟩ (.bin o x y) ρ st = (evE ⟨callD fds anc (n + 5), anc⟩ x ρ st).bind fun x st => (evE ⟨callD fds anc (n + 5), anc⟩ y ρ st).bind fun y st => R.of (opB o x y st) st := fun _ _ _ _ _ => rfl
          rw [u, c0]
          simp only [R.bind, c, opB, m0, m1, and_self, if_true, hq1, R.of]
        have c2 : evE ⟨callD fds anc (n + 5), anc⟩ (.bin .sub (.idx (.var 4) (.cst (.int 0))) (.bin .fdiv (.idx (.var 4) (.cst (.int 0))) (.bi .max2 [.cst (.int 1), .bi .abs [.idx (.var 4) (.cst (.int 0))]]))) [some (.ro (ns.map .int)), some (.loc 0), z2, some (V2 (2 + a) b), some (V2 v w), none] s4 = .ok (.int (v - q)) s4 := by
          have u : ∀ (o : BO) (x y : Ex) (ρ : Env) (st : Sto), evE ⟨callD fds anc (n + 5), anc⟩ (.bin o x y) ρ st = (evE ⟨callD fds anc (n + 5), anc⟩ x ρ st).bind fun x st => (evE ⟨callD fds anc (n + 5), anc⟩ y ρ st).bind fun y st => R.of (opB o x y st) st := fun _ _ _ _ _ => rfl
          rw [u, c0]
          simp only [R.bind, c1, opB, R.of]
        have c3 : evEs ⟨callD fds anc (n + 5), anc⟩ [.bin .sub (.idx (.var 4) (.cst (.int 0))) (.bin .fdiv (.idx (.var 4) (.cst (.int 0))) (.bi .max2 [.cst (.int 1), .bi .abs [.idx (.var 4) (.cst (.int 0))]])), .idx (.var 4) (.cst (.int 1))] [some (.ro (ns.map .int)), some (.loc 0), z2, some (V2 (2 + a) b), some (V2 v w), none] s4 = .ok [.int (v - q), .int w] s4 := by
          rw [evEs, c2]
          rfl
        have u : ∀ (es : List Ex) (ρ : Env) (st : Sto), evE ⟨callD fds anc (n + 5), anc⟩ (.tup es) ρ st = (evEs ⟨callD fds anc (n + 5), anc⟩ es ρ st).bind fun ds st => if ds.length ≤ SZ then .ok (.tup ds) st else .bad := fun _ _ _ => rfl
        rw [evS, u, c3]
        simp [R.bind, RS.of, setT, SZ]), ev_if_f (st1 := s4) (by simp [evSs, evS, evE, evEs, evO, evT, evIt, RS.of, R.bind, R.of, RS.seq, idxD, seqD, ixD, opB, opC, truD, setT, setTs, eqD, full, frz, D.sub, D.subL, D.eqv, D.eqvL, D.depth, D.depthL, biD, permD, opI, newL, SZ, isiD, tyOk, lstD, setD, mtD, okM, f0])]
    refine fin (v - q) ?_ (by omega)
    have : Sz 50 q := by rcases hq2 with rfl | rfl <;> (unfold Sz; decide)
    exact ((zv.mono (show 40 ≤ 50 by decide)).sub this).mono (by decide)
end K34
set_option Elab.async false
set_option linter.all false
set_option maxRecDepth 100000
set_option maxHeartbeats 0
namespace K34
open PySem PySem.Spec PyProof.Rows L2 DI
abbrev R : PySem.W.OpenRow := PySem.W.OpenLaw.row PySem.Challenge.rw_turnpens_k34_rests
abbrev hk : PySem.W.Hook := hookB 4 fb (tab.map Ent.defD)
def ob (s : PySem.W.SharedT) : He.AlD := obsBG 4 fb (tab.map Ent.defD) (HandSHeadRun.getT s)
theorem ob_eq (s : PySem.W.SharedT) : ob s = hk.obs s.abs := obsBG_eq (HandSHeadRun.getT_eq s)
def loose : List Str := ["PenError", "BadStep", "vector_difference", "product", "partner", "norm", "nearest_quotient", "divided", "divides", "common_divisor", "led_divisor", "rest_sizes", "rest_of", "all_rests", "have_same_rest", "_law_reel", "_law_pick", "_law_whole", "_law_alike", "_law_divisor", "_law_divides", "_law_box", "_law_rest", "_law_number", "_law_by", "_law_vector", "_law_pairs", "_law_asked"]
theorem run (w : World) : HandSHeadRun.RunEqI R (PySem.W.view R.prog [0, 35]) hk ob 2000 loose w := by
  unfold HandSHeadRun.RunEqI
  kernel_rfl
end K34
set_option Elab.async false
set_option linter.all false
set_option maxRecDepth 100000
set_option maxHeartbeats 0
namespace K34
open PySem PySem.Spec PyProof.Rows L2 DI
theorem facts {P : Program} {w : World} {K : PySem.W.Frag} {h : Heap} {mg : Str → Option Value} {f : Addr} {lix : Nat} {le : Ent} (hlix : tab[lix]? = some le) (hnm : le.nm = "law") (hnp : le.ps = [("script" : Str)]) (hnp1 : le.F.np = 1) (X : K.In h) (G : h.Ns mainGlobals mg) (hfa : mg ("law" : Str) = some (.ref f)) (c : obsB fb (tab.map Ent.defD) K = He.valD (tab.map Ent.defD))
    (plain : ∀ ns : List Int, ns.length ≤ 63 → ∃ st', callD (tab.map Ent.F) (fun _ _ => false) 40 lix [.ro (ns.map .int)] [] = .ok (.bl true) st') :
    ∃ fd : FuncData, (∀ (s : Shared) (v : Value), BindsTo s fd ⟨[v], []⟩ [("script", v)]) ∧ ∀ base : Heap, K.In base → base.Ns mainGlobals mg → FnOk P w K mg base CX0 40 f fd ["script"] (spLaw K 63) := by
  obtain ⟨hF, hB, hG⟩ := facts_B (L := Lw0) X G c fun z => z
  obtain ⟨f', fd, hm, F⟩ := hF le (List.mem_of_getElem? hlix)
  rw [hnm] at hm
  have ef : f = f' := by
    have := hfa.symm.trans hm
    cases this
    rfl
  subst ef
  have hA := List.all_eq_true.mp okA le (List.mem_of_getElem? hlix)
  refine ⟨fd, fun s v => ?_, fun base _ _ => ?_⟩
  · have := (ent_binds hA F).2 s [v] (by rw [hnp]; rfl)
    rw [hnp] at this
    exact this
  · have T : Tb := ⟨K, fun _ => 0, fun _ => "", none⟩
    have k := fns_ok (P := P) (w := w) (base := base) (T := ⟨K, fun _ => 0, fun _ => "", none⟩) (L := Lw0) (anc := fun _ _ => false) rfl rfl hF okA okS hB (fun x d z => by cases z) hG 40 lix le hlix f fd (by rw [hnm]; exact hfa) F
    rw [hnp, hnp1] at k
    exact cx0_of (m := 63) k fun vs H Q E q => law_sp rfl plain vs H Q E q
theorem plain (ns : List Int) (h : ns.length ≤ 63) : ∃ st', callD (tab.map Ent.F) (fun _ _ => false) 40 26 [.ro (ns.map .int)] [] = .ok (.bl true) st' := s_law 34 ns h
end K34
open PySem PySem.W PySem.Calls PyProof.Rows
theorem PySem.Challenge.cw_turnpens_k34_rests_holds : PySem.Challenge.rw_turnpens_k34_rests.Holds := by
  w_on; o_law
  refine HandSHeadRun.head_imp (r := OpenLaw.row PySem.Challenge.rw_turnpens_k34_rests) (q := view (OpenLaw.row PySem.Challenge.rw_turnpens_k34_rests).prog [0, 35]) (H := K34.hk) (ob := K34.ob) (M := 2000) (loose := K34.loose) (d := HandSHeadRun.topDef (OpenLaw.row PySem.Challenge.rw_turnpens_k34_rests).prog 35) (kwd := []) K34.ob_eq
    K34.run (by kernel_rfl) (by kernel_rfl) (by kernel_rfl) (by rfl) (by first | assumption | decide +kernel) (by decide +kernel) ⟨rfl, rfl, rfl, rfl, rfl, by decide +kernel⟩ ?hw ?hc
  case hw => w_witness2
  case hc =>
    refine L2.walk_ofE (l := PySem.Challenge.rw_turnpens_k34_rests) (n := 63) (k := 40) (x := "script") (CX := L2.CX0) rfl (by decide) (by kernel_rfl) ⟨rfl, by decide, by decide⟩ ?F (fun _ _ _ _ z => z)
    intro w mg fa h Y G hmg0
    obtain ⟨K, KX, c⟩ := Y
    have hmg : mg ("law" : PySem.Str) = some (.ref fa) := by
      have e : (HandSHeadRun.topDef (OpenLaw.row PySem.Challenge.rw_turnpens_k34_rests).prog 35).name = ("law" : PySem.Str) := by kernel_rfl
      rw [← e]
      exact hmg0
    obtain ⟨fd, hb, hF⟩ := K34.facts (P := (PySem.Challenge.rw_turnpens_k34_rests).prog) (w := w) (lix := 26) (le := K34.e26) rfl rfl (by decide +kernel) rfl KX G hmg c K34.plain
    exact ⟨K, fd, DI.spLaw K 63, KX, hb, fun H a ns hl _ hS => ⟨a, ns, rfl, hl, hS, fun _ => rfl⟩, hF⟩
