import PyProof.Rows.All
import Wide.All
import OpenK.AllK
import Wide.FinOn
import HandS.ForMost
import HandS.TupAny
import HandS.Style
import HandS.TupMul
import HandS.Wide
import HandS.SortOrd
import HandS.SortRule
import HandS.SortInts
import HandS.IsInst
import HandS.Defaults
import HandS.HeadEnd
import HandS.HeadHook1
import HandS.HeadHook2
import HandS.More
import HandS.Head0
import HandS.Head1
import HandS.Head2
import KE.KSortTupAny
import KE.SortData
import HandS.SetFor
import HandS.Conv
import HandS.Strs
import HandS.Zip
import KE.KDictZip
import PyProof.ListNew
import HandS.CallLocal
import PySem.Challenge.RW_eachtongue_k02_rounds_and_walks_are_told
section
set_option Elab.async false
set_option linter.all false
set_option maxRecDepth 100000
/-! PmA: the pure interpreter. -/
namespace PM
open PySem

/-- data; nl: a list owned by the place it stands at; loc: what the local slot owns; ref: a cell of the pure heap -/
inductive D where
  | non | bl (b : Bool) | int (i : Int) | str (s : PySem.Str)
  | tup (xs : List D) | lst (xs : List D) | nl (xs : List D)
  | dic (ks vs : List D) | nd (ks vs : List D)
  | obj (c : Nat) (vs : List D) | ins (c : Nat) (ks : List Nat) (vs : List D)
  | fn (f : Nat) | ty (t : String) | cls (c : Nat)
  | ref (n : Nat) | loc (i : Nat)
  deriving Inhabited

/-- results -/
inductive R (α : Type) where
  | ok (a : α)
  | exc (c : Nat) (ds : List D) (C : List D)
  | bad
@[inline] def R.bind {α β : Type} (x : R α) (f : α → R β) : R β := match x with
  | .ok a => f a
  | .exc c ds C => .exc c ds C
  | .bad => .bad
@[simp] theorem R.bind_ok {α β : Type} (a : α) (f : α → R β) : (R.ok a).bind f = f a := rfl
@[simp] theorem R.bind_bad {α β : Type} (f : α → R β) : (R.bad : R α).bind f = .bad := rfl
@[simp] theorem R.bind_exc {α β : Type} (c : Nat) (ds C : List D) (f : α → R β) : (R.exc c ds C : R α).bind f = .exc c ds C := rfl
def ofO {α : Type} : Option α → R α
  | some a => .ok a
  | none => .bad
@[simp] theorem ofO_some {α : Type} (a : α) : ofO (some a) = .ok a := rfl
@[simp] theorem ofO_none {α : Type} : ofO (none : Option α) = .bad := rfl

/-! ### order and equality of data -/
def rank : D → Nat
  | .non => 0 | .bl _ => 1 | .int _ => 2 | .str _ => 3 | .tup _ => 4 | .lst _ => 5 | .nl _ => 6 | .dic _ _ => 7 | .nd _ _ => 8 | .obj _ _ => 9 | .ins _ _ _ => 10 | .fn _ => 11 | .ty _ => 12 | .cls _ => 13 | .ref _ => 14 | .loc _ => 15
def cmpI (a b : Int) : Ordering := if a < b then .lt else if a = b then .eq else .gt
def cmpNs : List Nat → List Nat → Ordering
  | [], [] => .eq
  | [], _ :: _ => .lt
  | _ :: _, [] => .gt
  | a :: as, b :: bs => if a < b then .lt else if a = b then cmpNs as bs else .gt
mutual
/-- Python's order where it has one, made total -/
def cmp : D → D → Ordering
  | .int a, .int b => cmpI a b
  | .str a, .str b => cmpNs a.cps.toList b.cps.toList
  | .tup a, .tup b => cmps a b
  | .lst a, .lst b => cmps a b
  | a, b => cmpI (rank a) (rank b)
def cmps : List D → List D → Ordering
  | [], [] => .eq
  | [], _ :: _ => .lt
  | _ :: _, [] => .gt
  | a :: as, b :: bs => match cmp a b with
    | .lt => .lt
    | .eq => cmps as bs
    | .gt => .gt
end
mutual
/-- both may be compared by < -/
def sameTy : D → D → Bool
  | .int _, .int _ => true
  | .str _, .str _ => true
  | .tup a, .tup b => sameTys a b
  | _, _ => false
def sameTys : List D → List D → Bool
  | a :: as, b :: bs => sameTy a b && sameTys as bs
  | _, _ => true
end
def leD (a b : D) : Bool := (cmp a b).isLE
def ltD (a b : D) : Bool := cmp a b == .lt
mutual
def toPD : D → PyData
  | .bl b => .bool b | .int i => .int i | .str s => .str s
  | .tup xs => .tuple (toPDs xs) | .lst xs => .list (toPDs xs)
  | _ => .none
def toPDs : List D → List PyData
  | [] => []
  | x :: xs => toPD x :: toPDs xs
end
mutual
/-- == asks nothing of it but data -/
def plain : D → Bool
  | .non => true | .bl _ => true | .int _ => true | .str _ => true
  | .tup xs => plains xs | .lst xs => plains xs
  | _ => false
def plains : List D → Bool
  | [] => true
  | x :: xs => plain x && plains xs
end
mutual
def dep : D → Nat
  | .tup xs => deps xs + 1
  | .lst xs => deps xs + 1
  | _ => 0
def deps : List D → Nat
  | [] => 0
  | x :: xs => max (dep x) (deps xs)
end
/-- it may be asked by == -/
def okD (d : D) : Bool := plain d && decide (dep d ≤ 50)
mutual
/-- Python's == of plain data -/
def eqD : D → D → Bool
  | .non, .non => true
  | .bl a, .bl b => a == b
  | .int a, .int b => decide (a = b)
  | .str a, .str b => decide (a = b)
  | .tup a, .tup b => eqDs a b
  | .lst a, .lst b => eqDs a b
  | .bl a, .int b => decide ((if a then 1 else 0) = b)
  | .int a, .bl b => decide (a = (if b then 1 else 0))
  | _, _ => false
def eqDs : List D → List D → Bool
  | [], [] => true
  | a :: as, b :: bs => eqD a b && eqDs as bs
  | _, _ => false
end
def allPairs (p : D → D → Bool) : List D → Bool
  | [] => true
  | x :: xs => xs.all (p x) && allPairs p xs
def isTupC : D → Bool
  | .tup (_ :: _) => true
  | _ => false
def notTup : D → Bool
  | .tup _ => false | .non => false
  | _ => true
/-- they may be sorted -/
def sortOk (xs : List D) : Bool := plains xs && decide (deps xs ≤ 40) && (xs.all fun a => xs.all fun b => PySem.W.alike (toPD a) (toPD b)) && (xs.all isTupC || xs.all notTup)
/-- Python's order of data -/
def sortD (xs : List D) : List D := xs.mergeSort (PySem.W.dataLe false toPD)

/-! ### small operations on values -/
theorem LIM_ex : ∃ n : Nat, n = 16000000 := ⟨_, rfl⟩
/-- a bound, kept shut -/
noncomputable def LIM : Nat := LIM_ex.choose
theorem LIM_eq : LIM = 16000000 := LIM_ex.choose_spec
noncomputable section
theorem B62_ex : ∃ n : Int, n = 2 ^ 62 := ⟨_, rfl⟩
theorem B64_ex : ∃ n : Int, n = 2 ^ 64 := ⟨_, rfl⟩
theorem B4k_ex : ∃ n : Nat, n = 2 ^ 4000 := ⟨_, rfl⟩
/-- bounds, kept shut -/
def B62 : Int := B62_ex.choose
def B64 : Int := B64_ex.choose
def B4k : Nat := B4k_ex.choose
def big (i : Int) : Bool := decide (i.natAbs < B4k)
theorem big_iff (i : Int) : big i = true ↔ i.natAbs < 2 ^ 4000 := by
  unfold big
  rw [decide_eq_true_eq, show B4k = 2 ^ 4000 from B4k_ex.choose_spec]
inductive Op where
  | add | sub | mul | fdiv | mod | pow | band | bor | shl | shr
  deriving DecidableEq
inductive Cmp where
  | eq | ne | lt | le | gt | ge | isIn | notIn | is | isNot
  deriving DecidableEq
def fitI (i : Int) : Bool := decide (-B62 < i ∧ i < B62)
def fits (i : Int) : Bool := decide (-B64 < i ∧ i < B64)
theorem fitI_is (i : Int) : fitI i = true ↔ -(2 ^ 62) < i ∧ i < 2 ^ 62 := by
  unfold fitI
  rw [decide_eq_true_eq, show B62 = 2 ^ 62 from B62_ex.choose_spec]
theorem fits_is (i : Int) : fits i = true ↔ -(2 ^ 64) < i ∧ i < 2 ^ 64 := by
  unfold fits
  rw [decide_eq_true_eq, show B64 = 2 ^ 64 from B64_ex.choose_spec]
def addD : D → D → Option D
  | .int a, .int b => some (.int (a + b))
  | .str a, .str b => if a.length + b.length < LIM then some (.str (a ++ b)) else none
  | .tup a, .tup b => if a.length + b.length < LIM then some (.tup (a ++ b)) else none
  | .lst a, .lst b => if a.length + b.length < LIM then some (.nl (a ++ b)) else none
  | _, _ => none
def subD : D → D → Option D
  | .int a, .int b => some (.int (a - b))
  | .bl a, .bl b => some (.int ((if a then 1 else 0) - (if b then 1 else 0)))
  | _, _ => none
def mulD : D → D → Option D
  | .int a, .int b => if fits a || fits b || (big a && big b) then some (.int (a * b)) else none
  | .lst a, .int k => if fitI k && decide (a.length * k.toNat < LIM) then some (.nl (List.replicate k.toNat a).flatten) else none
  | .tup a, .int k => if fitI k && decide (a.length * k.toNat < LIM) then some (.tup (List.replicate k.toNat a).flatten) else none
  | _, _ => none
def fdivD : D → D → Option D
  | .int a, .int b => if decide (b ≠ 0 ∧ b.natAbs < 1073741824) then some (.int (a.fdiv b)) else none
  | _, _ => none
def modD : D → D → Option D
  | .int a, .int b => if decide (b ≠ 0) then some (.int (a.fmod b)) else none
  | _, _ => none
def powD : D → D → Option D
  | .int a, .int b => if decide (0 ≤ b ∧ b ≤ 1000000 ∧ a.natAbs < 2 ^ 64) then some (.int (a ^ b.toNat)) else none
  | _, _ => none
def binD : Op → D → D → Option D
  | .add => addD | .sub => subD | .mul => mulD | .fdiv => fdivD | .mod => modD | .pow => powD
  | _ => fun _ _ => none
def isAtom : D → Bool
  | .non => true | .bl _ => true | .int _ => true | .str _ => true
  | _ => false
/-- both are atoms, or both tuples, or both lists -/
def sameSort : D → D → Bool
  | .tup _, .tup _ => true
  | .lst _, .lst _ => true
  | .non, b => isAtom b
  | a, .non => isAtom a
  | .int _, .int _ => true | .bl _, .bl _ => true | .str _, .str _ => true
  | .int _, .str _ => true | .str _, .int _ => true | .bl _, .str _ => true | .str _, .bl _ => true
  | _, _ => false
def isNonD : D → Bool
  | .non => true
  | _ => false
def cmpD : Cmp → D → D → Option Bool
  | .eq, a, b => if okD a && okD b && sameSort a b then some (eqD a b) else none
  | .ne, a, b => if okD a && okD b && sameSort a b then some (!eqD a b) else none
  | .lt, .int a, .int b => some (decide (a < b))
  | .lt, .str a, .str b => some (decide (a.cps.toList < b.cps.toList))
  | .gt, .int a, .int b => some (decide (b < a))
  | .le, .int a, .int b => some (decide (a ≤ b))
  | .ge, .int a, .int b => some (decide (b ≤ a))
  | .isIn, a, .tup bs => if okD a && okD (.tup bs) then some (bs.any fun b => eqD b a) else none
  | .isIn, a, .lst bs => if okD a && okD (.lst bs) then some (bs.any fun b => eqD b a) else none
  | .notIn, a, .tup bs => if okD a && okD (.tup bs) then some (!bs.any fun b => eqD b a) else none
  | .notIn, a, .lst bs => if okD a && okD (.lst bs) then some (!bs.any fun b => eqD b a) else none
  | .is, a, .non => some (isNonD a)
  | .isNot, a, .non => some (!isNonD a)
  | .is, .bl a, .bl b => some (decide (a = b))
  | .is, .int _, .bl _ => some false
  | .is, .str _, .bl _ => some false
  | .is, .tup _, .bl _ => some false
  | .is, .lst _, .bl _ => some false
  | .is, .non, .bl _ => some false
  | _, _, _ => none
/-- the place of an index -/
abbrev ixD (n : Nat) (i : Int) : Option Nat := L2.ixN n i
def strAt (s : PySem.Str) (i : Int) : Option D := (ixD s.length i).bind fun k => (s.cps.toList[k]?).map fun c => .str ⟨#[c]⟩
/-- a slice with step 1 -/
def sliceL {α : Type} (xs : List α) (lo hi : Option Int) : List α :=
  (xs.drop (HT.sIx xs.length 0 lo)).take (HT.sIx xs.length xs.length hi - HT.sIx xs.length 0 lo)
end
end PM
end

section
set_option Elab.async false
set_option linter.all false
set_option maxRecDepth 100000
/-! PmB: expressions, statements, their meaning. -/
namespace PM
open PySem
noncomputable section

inductive Prim where
  | len | abs | int1 | list1 | tuple1 | sorted1 | sortedSet | lenSet | max2 | min2 | maxL | minL | sumL | listR1 | listR2 | tupR1
  | isi (ts : List D) | listZip | join | index
  deriving Inhabited
inductive Tg where
  | v (i : Nat) | t (gs : List Tg)
  deriving Inhabited
inductive ME where
  | var (i : Nat) | k (d : D) | glob (d : D)
  | bin (op : Op) (a b : ME) | neg (a : ME) | not (a : ME) | and (a b : ME) | or (a b : ME)
  | cmp (op : Cmp) (a b : ME) | chain (op op' : Cmp) (a b c : ME) | ite (t a b : ME)
  | tup (es : List ME) | list (es : List ME) | dict (ks vs : List ME)
  | idx (a i : ME) | slice (a : ME) (lo hi : Option ME) | rev (a : ME)
  | attr (a : ME) (f : Nat)
  | call (f : Nat) (es : List ME) | callk (f : Nat) (es : List ME) (perm : List Nat) | callv (i : Nat) (es : List ME)
  | meth (a : ME) (c f : Nat) (es : List ME) | mko (c : Nat) (es : List ME) | mk (c f : Nat) (es : List ME)
  | prim (p : Prim) (es : List ME) | m1 (p : Prim) (o e : ME)
  | append (o e : ME) | extend (o e : ME) | pop (o : ME) | popAt (o i : ME) | insert (o i e : ME)
  | get (o k : ME) | get2 (o k d : ME)
  | lc (own : List Nat) (tg : Tg) (itk : Nat) (its : List ME) (cond : List ME) (elt : ME)
  | lc2 (own own1 : List Nat) (tg : Tg) (itk : Nat) (its : List ME) (cond : List ME) (tg1 : Tg) (itk1 : Nat) (its1 : List ME) (cond1 : List ME) (elt : ME)
  | dc (own : List Nat) (tg : Tg) (itk : Nat) (its : List ME) (cond : List ME) (kx vx : ME)
  | cell (e : ME)
  deriving Inhabited
/-- statements; itk: how the things its are walked (0 as it is, 1 2 3 range, 4 zip, 5 enumerate, 6 items, 7 values) -/
inductive MS where
  | asg (tg : Tg) (e : ME) | par (is : List Nat) (es : List ME) | aug (i : Nat) (op : Op) (e : ME)
  | setI (o i e : ME) | setA (o : ME) (f : Nat) (e : ME)
  | expr (e : ME) | ret (e : ME) | retN
  | ite (t : ME) (a b : List MS)
  | for_ (tg : Tg) (itk : Nat) (its : List ME) (body : List MS)
  | while_ (fuel : Nat) (t : ME) (body : List MS)
  | brk | cnt | pass | kill (is : List Nat)
  | raise (c : Nat) (es : List ME)
  deriving Inhabited

structure PS where
  L : List (Option D)
  C : List D
inductive Fl where
  | nx (S : PS) | ret (d : D) (S : PS) | brk (S : PS) | cnt (S : PS)

/-- what is new and unnamed is frozen -/
def tmp : D → D
  | .nl xs => .lst xs
  | .nd ks vs => .dic ks vs
  | d => d
@[simp] theorem tmp_int (i : Int) : tmp (.int i) = .int i := rfl
/-- what a place owns, told as data -/
def seen : D → D := tmp
def slot (L : List (Option D)) (i : Nat) : Option D := match L[i]? with
  | some (some d) => some d
  | _ => none
def isOwn : D → Bool
  | .nl _ => true
  | .nd _ _ => true
  | _ => false
def rd (S : PS) (i : Nat) : Option D := (slot S.L i).map fun d => if isOwn d then .loc i else d
def view (S : PS) : D → Option D
  | .loc i => (slot S.L i).map tmp
  | .ref n => match S.C[n]? with
    | some (.nl xs) => some (.lst xs)
    | some (.nd ks vs) => some (.dic ks vs)
    | some (.ins _ _ _) => some (.ref n)
    | _ => none
  | d => some (tmp d)
def setS (S : PS) (i : Nat) (d : D) : PS := { S with L := S.L.set i (some d) }
def frz (d : D) (S : PS) : Option (D × PS) := match d with
  | .loc i => (slot S.L i).map fun d => (tmp d, if isOwn d then setS S i (tmp d) else S)
  | d => some (tmp d, S)
def wipeL (L : List (Option D)) : List Nat → List (Option D)
  | [] => L
  | v :: vs => (wipeL L vs).set v none
mutual
def setTg : Tg → D → List (Option D) → Option (List (Option D))
  | .v i, d, L => if i < L.length then some (L.set i (some d)) else none
  | .t gs, d, L => match d with
    | .tup ds => setTgs gs ds L
    | _ => none
def setTgs : List Tg → List D → List (Option D) → Option (List (Option D))
  | [], [], L => some L
  | g :: gs, d :: ds, L => (setTg g d L).bind fun L1 => setTgs gs ds L1
  | _, _, _ => none
end
def intsOf : List D → Option (List Int)
  | [] => some []
  | .int i :: r => (intsOf r).map (i :: ·)
  | _ => none
def strsOf : List D → Option (List PySem.Str)
  | [] => some []
  | .str i :: r => (strsOf r).map (i :: ·)
  | _ => none
def rangeD (a b : Int) : List D := (List.range (b - a).toNat).map fun (i : Nat) => .int (a + i)
/-- a, a - 1, .. above b -/
def rangeN (a b : Int) : List D := (List.range (a - b).toNat).map fun (i : Nat) => .int (a + i * (-1))
def zipD : List D → List D → List D
  | a :: as, b :: bs => .tup [a, b] :: zipD as bs
  | _, _ => []
def enumD (ds : List D) : List D := (List.range ds.length).zip ds |>.map fun p => .tup [.int (p.1 : Nat), p.2]
def maxI : List Int → Int
  | [] => 0
  | a :: r => r.foldl (fun a b => if b > a then b else a) a
def minI : List Int → Int
  | [] => 0
  | a :: r => r.foldl (fun a b => if b < a then b else a) a
def lookD : List D → List D → D → Option D
  | k :: ks, v :: vs, x => if eqD k x then some v else lookD ks vs x
  | _, _, _ => none
/-- what isinstance asks of a value -/
def tyOf : D → Option Nat
  | .non => some 0 | .bl _ => some 1 | .int _ => some 2 | .str _ => some 3 | .tup _ => some 4 | .lst _ => some 5 | .obj _ _ => some 6
  | _ => none
def isiOne (d : D) (t : D) : Option Bool := (tyOf d).bind fun k => match t with
  | .ty "int" => some (k == 1 || k == 2)
  | .ty "bool" => some (k == 1)
  | .ty "str" => some (k == 3)
  | .ty "tuple" => some (k == 4)
  | .ty "list" => some (k == 5)
  | .ty "dict" => some false
  | .cls c => match d with
    | .obj c' _ => some (decide (c = c'))
    | _ => some false
  | _ => none
def isiAny (d : D) : List D → Option Bool
  | [] => some false
  | t :: ts => (isiOne d t).bind fun b => if b then some true else isiAny d ts
def joinS (s : PySem.Str) (xs : List PySem.Str) : PySem.Str := Txt.join s xs
def lensum : List PySem.Str → Nat
  | [] => 0
  | x :: xs => x.length + lensum xs
def idxI : List Int → Int → Option Nat
  | [], _ => none
  | y :: ys, x => if y = x then some 0 else (idxI ys x).map (· + 1)
def isort (ns : List Int) : List Int := ns.mergeSort (fun a b => decide (a ≤ b))
def idedup : List Int → List Int
  | [] => []
  | n :: r => if n ∈ r then idedup r else n :: idedup r
/-- built-ins upon what is seen -/
def primD : Prim → List D → Option D
  | .len, [.lst xs] => some (.int xs.length)
  | .len, [.tup xs] => some (.int xs.length)
  | .len, [.str s] => if s.length < LIM then some (.int s.length) else none
  | .abs, [.int i] => some (.int (if i < 0 then -i else i))
  | .int1, [.int i] => some (.int i)
  | .list1, [.lst xs] => some (.nl xs)
  | .list1, [.tup xs] => some (.nl xs)
  | .list1, [.str s] => if s.length < LIM then some (.nl (s.cps.toList.map fun c => .str ⟨#[c]⟩)) else none
  | .tuple1, [.lst xs] => some (.tup xs)
  | .tuple1, [.tup xs] => some (.tup xs)
  | .sorted1, [.lst xs] => match intsOf xs with
    | some ns => some (.nl ((isort ns).map .int))
    | none => if sortOk xs then some (.nl (sortD xs)) else none
  | .sortedSet, [.lst xs] => (intsOf xs).bind fun ns => if ns.length < 4000 then some (.nl ((isort (idedup ns)).map .int)) else none
  | .max2, [.int a, .int b] => some (.int (if b > a then b else a))
  | .min2, [.int a, .int b] => some (.int (if b < a then b else a))
  | .maxL, [.lst xs] => (intsOf xs).bind fun ns => if ns = [] then none else some (.int (maxI ns))
  | .minL, [.lst xs] => (intsOf xs).bind fun ns => if ns = [] then none else some (.int (minI ns))
  | .sumL, [.lst xs] => (intsOf xs).map fun ns => .int ns.sum
  | .listR1, [.int b] => if decide (b < LIM) && fitI b then some (.nl (rangeD 0 b)) else none
  | .listR2, [.int a, .int b] => if decide (b - a < LIM) && fitI a && fitI b then some (.nl (rangeD a b)) else none
  | .tupR1, [.int b] => if decide (b < LIM) && fitI b then some (.tup (rangeD 0 b)) else none
  | .isi ts, [d] => (isiAny d ts).map .bl
  | .listZip, [.tup a, .tup b] => if a.length < LIM then some (.nl (zipD a b)) else none
  | .listZip, [.lst a, .lst b] => if a.length < LIM then some (.nl (zipD a b)) else none
  | .join, [.str s, .lst xs] => (strsOf xs).bind fun ss => if lensum ss + ss.length * s.length < LIM then some (.str (joinS s ss)) else none
  | .index, [.lst xs, .int i] => (intsOf xs).bind fun ns => (idxI ns i).map fun n => .int (n : Nat)
  | _, _ => none
def recvOk : Prim → D → Bool
  | .index, .lst _ => true
  | .join, .str _ => true
  | _, _ => false
def idxD : D → D → Option D
  | .lst xs, .int i => (ixD xs.length i).bind fun k => xs[k]?
  | .tup xs, .int i => (ixD xs.length i).bind fun k => xs[k]?
  | .str s, .int i => if s.length < LIM then strAt s i else none
  | .dic ks vs, x => if okD x && okD (.tup ks) then lookD ks vs x else none
  | _, _ => none
def sliceD : D → Option Int → Option Int → Option D
  | .lst xs, lo, hi => some (.nl (sliceL xs lo hi))
  | .tup xs, lo, hi => some (.tup (sliceL xs lo hi))
  | _, _, _ => none
def revD : D → Option D
  | .lst xs => some (.nl xs.reverse)
  | .tup xs => some (.tup xs.reverse)
  | _ => none
def fieldAt : List Nat → List D → Nat → Option D
  | k :: ks, v :: vs, f => if k = f then some v else fieldAt ks vs f
  | _, _, _ => none
def fieldSet : List Nat → List D → Nat → D → List Nat × List D
  | k :: ks, v :: vs, f, d => if k = f then (k :: ks, d :: vs) else let r := fieldSet ks vs f d; (k :: r.1, v :: r.2)
  | _, _, f, d => ([f], [d])

/-- classes' fields by class, in order (of frozen ones) -/
abbrev Fields := Nat → List Nat
def attrD (F : Fields) (S : PS) (d : D) (f : Nat) : Option D := match d with
  | .obj c vs => fieldAt (F c) vs f
  | .ref n => match S.C[n]? with
    | some (.ins _ ks vs) => fieldAt ks vs f
    | _ => none
  | _ => none
/-- an owned list is changed: at a slot or a cell -/
def chg (S : PS) (o : D) (h : List D → Option (List D)) : Option PS := match o with
  | .loc i => match slot S.L i with
    | some (.nl xs) => (h xs).map fun ys => setS S i (.nl ys)
    | _ => none
  | .ref n => match S.C[n]? with
    | some (.nl xs) => (h xs).map fun ys => { S with C := S.C.set n (.nl ys) }
    | _ => none
  | _ => none
def ownL (S : PS) (o : D) : Option (List D) := match o with
  | .loc i => match slot S.L i with
    | some (.nl xs) => some xs
    | _ => none
  | .ref n => match S.C[n]? with
    | some (.nl xs) => some xs
    | _ => none
  | _ => none
/-- what is walked, of frozen things -/
def itemsD (k : Nat) (ds : List D) : Option (List D) := match k, ds with
  | 0, [.lst xs] => some xs
  | 0, [.tup xs] => some xs
  | 1, [.int b] => if fitI b then some (rangeD 0 b) else none
  | 2, [.int a, .int b] => if fitI a && fitI b then some (rangeD a b) else none
  | 3, [.int a, .int b, .int c] => if fitI a && fitI b && decide (c = -1) then some (rangeN a b) else none
  | 4, [.lst a, .lst b] => some (zipD a b)
  | 4, [.tup a, .tup b] => some (zipD a b)
  | 5, [.lst a] => some (enumD a)
  | _, _ => none
abbrev CallF := Nat → List D → List D → R (D × List D)
def forL (body : PS → R Fl) (tg : Tg) : List D → PS → R Fl
  | [], S => .ok (.nx S)
  | d :: ds, S => (ofO (setTg tg d S.L)).bind fun L => (body ⟨L, S.C⟩).bind fun f => match f with
    | .nx S1 => forL body tg ds S1
    | .cnt S1 => forL body tg ds S1
    | .brk S1 => .ok (.nx S1)
    | .ret d S1 => .ok (.ret d S1)
def whileL (test : PS → R (Bool × PS)) (body : PS → R Fl) : Nat → PS → R Fl
  | 0, _ => .bad
  | n + 1, S => (test S).bind fun p => if p.1 then (body p.2).bind fun f => match f with
      | .nx S1 => whileL test body n S1
      | .cnt S1 => whileL test body n S1
      | .brk S1 => .ok (.nx S1)
      | .ret d S1 => .ok (.ret d S1)
    else .ok (.nx p.2)
/-- a comprehension's turns: cond, elt upon the block's state; own names forgotten ahead of each turn -/
def lcL (own : List Nat) (tg : Tg) (cond : PS → R (Bool × PS)) (elt : PS → R (D × PS)) : List D → List D → PS → R (List D × PS)
  | [], acc, S => .ok (acc, S)
  | d :: ds, acc, S => (ofO (setTg tg d (wipeL S.L own))).bind fun L => (cond ⟨L, S.C⟩).bind fun p =>
      if p.1 then (elt p.2).bind fun q => if acc.length < LIM then lcL own tg cond elt ds (acc ++ [q.1]) q.2 else .bad
      else lcL own tg cond elt ds acc p.2
/-- behind a block: its own names as they were -/
def restL (L0 : List (Option D)) (own : List Nat) (L : List (Option D)) : List (Option D) := match own with
  | [] => L
  | v :: vs => (restL L0 vs L).set v (L0.getD v none)
def noOwn (L : List (Option D)) (own : List Nat) : Bool := own.all fun i => match slot L i with
  | some d => !isOwn d
  | none => true
def asB : D × PS → R (Bool × PS)
  | (.bl b, S) => .ok (b, S)
  | _ => .bad
def asI : D → R Int
  | .int i => .ok i
  | _ => .bad

/-- borrowed -/
def bw (r : R (D × PS)) : R (D × PS) := r.bind fun p => .ok (tmp p.1, p.2)
/-- as a value that may be kept anywhere -/
def vw (r : R (D × PS)) : R (D × PS) := r.bind fun p => ofO (frz p.1 p.2)
section
variable (F : Fields) (call : CallF)
mutual
def ev : ME → PS → R (D × PS)
  | .var i, S => ofO ((rd S i).map fun d => (d, S))
  | .k d, S => .ok (d, S)
  | .glob d, S => .ok (d, S)
  | .bin op a b, S => (bw (ev a S)).bind fun p => (bw (ev b p.2)).bind fun q => ofO ((view q.2 p.1).bind fun x => (view q.2 q.1).bind fun y => (binD op x y).map fun d => (d, q.2))
  | .neg a, S => (bw (ev a S)).bind fun p => (asI p.1).bind fun i => .ok (.int (-i), p.2)
  | .not a, S => (ev a S).bind fun p => (asB p).bind fun p => .ok (.bl (!p.1), p.2)
  | .and a b, S => (ev a S).bind fun p => (asB p).bind fun p => if p.1 then (ev b p.2).bind fun q => (asB q).bind fun q => .ok (.bl q.1, q.2) else .ok (.bl false, p.2)
  | .or a b, S => (ev a S).bind fun p => (asB p).bind fun p => if p.1 then .ok (.bl true, p.2) else (ev b p.2).bind fun q => (asB q).bind fun q => .ok (.bl q.1, q.2)
  | .cmp op a b, S => (bw (ev a S)).bind fun p => (bw (ev b p.2)).bind fun q => ofO ((view q.2 p.1).bind fun x => (view q.2 q.1).bind fun y => (cmpD op x y).map fun d => (.bl d, q.2))
  | .chain op op' a b c, S => (bw (ev a S)).bind fun p => (bw (ev b p.2)).bind fun q => ofO ((view q.2 p.1).bind fun x => (view q.2 q.1).bind fun y => (cmpD op x y).map fun d => (d, y)) |>.bind fun r =>
      if r.1 then (bw (ev c q.2)).bind fun u => ofO ((view u.2 q.1).bind fun y => (view u.2 u.1).bind fun z => (cmpD op' y z).map fun d => (.bl d, u.2)) else .ok (.bl false, q.2)
  | .ite t a b, S => (ev t S).bind fun p => (asB p).bind fun p => if p.1 then ev a p.2 else ev b p.2
  | .tup es, S => (evvs es S).bind fun p => .ok (.tup p.1, p.2)
  | .list es, S => (evvs es S).bind fun p => .ok (.nl p.1, p.2)
  | .dict ks vs, S => .bad
  | .idx a i, S => (bw (ev a S)).bind fun p => (bw (ev i p.2)).bind fun q => ofO ((view q.2 p.1).bind fun x => (view q.2 q.1).bind fun y => (idxD x y).map fun d => (d, q.2))
  | .slice a lo hi, S => (bw (ev a S)).bind fun p => (evo lo p.2).bind fun q => (evo hi q.2).bind fun r => ofO ((view r.2 p.1).bind fun x => (sliceD x q.1 r.1).map fun d => (d, r.2))
  | .rev a, S => (bw (ev a S)).bind fun p => ofO ((view p.2 p.1).bind fun x => (revD x).map fun d => (d, p.2))
  | .attr a f, S => (bw (ev a S)).bind fun p => ofO ((attrD F p.2 p.1 f).map fun d => (d, p.2))
  | .call f es, S => (evvs es S).bind fun p => (call f p.1 p.2.C).bind fun r => .ok (r.1, ⟨p.2.L, r.2⟩)
  | .callk f es pm, S => (evvs es S).bind fun p => (call f (pm.map fun i => p.1.getD i .non) p.2.C).bind fun r => .ok (r.1, ⟨p.2.L, r.2⟩)
  | .callv i es, S => match slot S.L i with
    | some (.fn f) => (evvs es S).bind fun p => (call f p.1 p.2.C).bind fun r => .ok (r.1, ⟨p.2.L, r.2⟩)
    | _ => .bad
  | .meth a c f es, S => (bw (ev a S)).bind fun o => (evvs es o.2).bind fun p => match o.1 with
    | .ref n => match p.2.C[n]? with
      | some (.ins c' _ _) => if c = c' then (call f (.ref n :: p.1) p.2.C).bind fun r => .ok (r.1, ⟨p.2.L, r.2⟩) else .bad
      | _ => .bad
    | _ => .bad
  | .mko c es, S => (evvs es S).bind fun p => if p.1.length = (F c).length then .ok (.obj c p.1, p.2) else .bad
  | .mk c f es, S => (evvs es S).bind fun p => (call f (.ref p.2.C.length :: p.1) (p.2.C ++ [.ins c [] []])).bind fun r => .ok (.ref p.2.C.length, ⟨p.2.L, r.2⟩)
  | .prim p es, S => (evbs es S).bind fun q => ofO ((q.1.mapM (view q.2)).bind fun ds => (primD p ds).map fun d => (d, q.2))
  | .m1 p o e, S => (bw (ev o S)).bind fun r => (ofO (view r.2 r.1)).bind fun x0 => if recvOk p x0 then (bw (ev e r.2)).bind fun q => ofO ((view q.2 r.1).bind fun x => (view q.2 q.1).bind fun y => (primD p [x, y]).map fun d => (d, q.2)) else .bad
  | .append o e, S => (ev o S).bind fun p => (ofO (ownL p.2 p.1)).bind fun _ => (vw (ev e p.2)).bind fun q => ofO ((chg q.2 p.1 fun xs => if xs.length < LIM then some (xs ++ [q.1]) else none).map fun S1 => (.non, S1))
  | .extend o e, S => (ev o S).bind fun p => (ofO (ownL p.2 p.1)).bind fun _ => (bw (ev e p.2)).bind fun q => ofO ((view q.2 q.1).bind fun y => (match y with
      | .lst ys => chg q.2 p.1 fun xs => if xs.length + ys.length < LIM then some (xs ++ ys) else none
      | .tup ys => chg q.2 p.1 fun xs => if xs.length + ys.length < LIM then some (xs ++ ys) else none
      | _ => none).map fun S1 => (.non, S1))
  | .pop o, S => (ev o S).bind fun p => ofO ((ownL p.2 p.1).bind fun xs => xs.getLast?.bind fun y => (chg p.2 p.1 fun xs => some xs.dropLast).map fun S1 => (y, S1))
  | .popAt o i, S => (ev o S).bind fun p => (ofO (ownL p.2 p.1)).bind fun _ => (bw (ev i p.2)).bind fun q => (asI q.1).bind fun i => ofO ((ownL q.2 p.1).bind fun xs => (if fitI i then ixD xs.length i else none).bind fun k => xs[k]?.bind fun y => (chg q.2 p.1 fun xs => some (xs.eraseIdx k)).map fun S1 => (y, S1))
  | .insert o i e, S => (ev o S).bind fun p => (ofO (ownL p.2 p.1)).bind fun _ => (bw (ev i p.2)).bind fun q => (vw (ev e q.2)).bind fun r => (asI q.1).bind fun i => ofO ((chg r.2 p.1 fun xs => if xs.length < LIM && fitI i && decide (0 ≤ i) then some (xs.take (min i.toNat xs.length) ++ r.1 :: xs.drop (min i.toNat xs.length)) else none).map fun S1 => (.non, S1))
  | .get o k, S => .bad
  | .get2 o k d, S => .bad
  | .lc own tg ik its cond elt, S => (evvs its S).bind fun p => (ofO (itemsD ik p.1)).bind fun ds =>
      if noOwn p.2.L own then (lcL own tg (fun S => evc cond S) (fun S => vw (ev elt S)) ds [] ⟨wipeL p.2.L own, p.2.C⟩).bind fun q => .ok (.nl q.1, ⟨restL p.2.L own q.2.L, q.2.C⟩) else .bad
  | .lc2 own own1 tg ik its cond tg1 ik1 its1 cond1 elt, S => .bad
  | .dc own tg ik its cond kx vx, S => .bad
  | .cell e, S => (ev e S).bind fun p => if isOwn p.1 then .ok (.ref p.2.C.length, ⟨p.2.L, p.2.C ++ [p.1]⟩) else .bad
def evvs : List ME → PS → R (List D × PS)
  | [], S => .ok ([], S)
  | e :: es, S => (vw (ev e S)).bind fun p => (evvs es p.2).bind fun q => .ok (p.1 :: q.1, q.2)
def evbs : List ME → PS → R (List D × PS)
  | [], S => .ok ([], S)
  | e :: es, S => (bw (ev e S)).bind fun p => (evbs es p.2).bind fun q => .ok (p.1 :: q.1, q.2)
def evo : Option ME → PS → R (Option Int × PS)
  | none, S => .ok (none, S)
  | some e, S => (bw (ev e S)).bind fun p => (asI p.1).bind fun i => .ok (some i, p.2)
/-- a comprehension's tests -/
def evc : List ME → PS → R (Bool × PS)
  | [], S => .ok (true, S)
  | e :: es, S => (ev e S).bind fun p => asB p
end
end
end
end PM
end

section
set_option Elab.async false
set_option linter.all false
set_option maxRecDepth 100000
/-! PmC: statements, functions. -/
namespace PM
open PySem
noncomputable section
section
variable (F : Fields) (call : CallF)
def evT (t : ME) (S : PS) : R (Bool × PS) := (ev F call t S).bind asB
/-- an assigned value: what is new stays owned, what another slot owns is frozen -/
def aw (r : R (D × PS)) : R (D × PS) := r.bind fun p => match p.1 with
  | .loc i => ofO (frz p.1 p.2)
  | d => .ok (d, p.2)
def evas : List ME → PS → R (List D × PS)
  | [], S => .ok ([], S)
  | e :: es, S => (aw (ev F call e S)).bind fun p => (evas es p.2).bind fun q => .ok (p.1 :: q.1, q.2)
def killL (L : List (Option D)) : List Nat → List (Option D)
  | [] => L
  | v :: vs => (killL L vs).set v none
def asgTg (tg : Tg) (d : D) (S : PS) : R Fl := match tg with
  | .v i => if i < S.L.length then .ok (.nx ⟨S.L.set i (some d), S.C⟩) else .bad
  | .t gs => (ofO (setTg (.t gs) (tmp d) S.L)).bind fun L => .ok (.nx ⟨L, S.C⟩)
def setMany : List Nat → List D → List (Option D) → List (Option D)
  | i :: is, d :: ds, L => setMany is ds (L.set i (some d))
  | _, _, L => L
def setAt (S : PS) (o i d : D) : Option PS := match i with
  | .int k => chg S o fun xs => (ixD xs.length k).map fun j => xs.set j d
  | _ => none
def setFld (S : PS) (o : D) (f : Nat) (d : D) : Option PS := match o with
  | .ref n => match S.C[n]? with
    | some (.ins c ks vs) => if ks.length < 900 ∧ f ∈ F c then (let r := fieldSet ks vs f d; some { S with C := S.C.set n (.ins c r.1 r.2) }) else none
    | _ => none
  | _ => none
mutual
def ex : MS → PS → R Fl
  | .asg tg e, S => (aw (ev F call e S)).bind fun p => asgTg tg p.1 p.2
  | .par is es, S => (evas F call es S).bind fun p => if is.length = p.1.length ∧ is.all (fun i => decide (i < p.2.L.length)) then .ok (.nx ⟨setMany is p.1 p.2.L, p.2.C⟩) else .bad
  | .aug i op e, S => (ofO (slot S.L i)).bind fun x => (bw (ev F call e S)).bind fun p => ofO ((view p.2 p.1).bind fun y => match x, y with
      | .int a, .int b => if i < p.2.L.length && (op = .add || op = .sub) then (binD op (.int a) (.int b)).map fun d => .nx (setS p.2 i d) else none
      | _, _ => none)
  | .setI o i e, S => (vw (ev F call e S)).bind fun p => (ev F call o p.2).bind fun q => (bw (ev F call i q.2)).bind fun r => ofO ((setAt r.2 q.1 r.1 p.1).map .nx)
  | .setA o f e, S => (vw (ev F call e S)).bind fun p => (bw (ev F call o p.2)).bind fun q => ofO ((setFld F q.2 q.1 f p.1).map .nx)
  | .expr e, S => (ev F call e S).bind fun p => .ok (.nx p.2)
  | .ret e, S => (vw (ev F call e S)).bind fun p => .ok (.ret p.1 p.2)
  | .retN, S => .ok (.ret .non S)
  | .ite t a b, S => (evT F call t S).bind fun p => if p.1 then exs a p.2 else exs b p.2
  | .for_ tg k its body, S => (evvs F call its S).bind fun p => (ofO (itemsD k p.1)).bind fun ds => forL (fun S => exs body S) tg ds p.2
  | .while_ n t body, S => whileL (fun S => evT F call t S) (fun S => exs body S) n S
  | .brk, S => .ok (.brk S)
  | .cnt, S => .ok (.cnt S)
  | .pass, S => .ok (.nx S)
  | .kill is, S => .ok (.nx ⟨killL S.L is, S.C⟩)
  | .raise c es, S => (evvs F call es S).bind fun p => .exc c p.1 p.2.C
def exs : List MS → PS → R Fl
  | [], S => .ok (.nx S)
  | m :: ms, S => (ex m S).bind fun f => match f with
    | .nx S1 => exs ms S1
    | f => .ok f
end
end
/-- a def: its slots, parameters, body -/
def FUEL : Nat := 10 ^ 2000
structure Fn where
  n : Nat
  ar : Nat
  gc : Bool
  body : List MS
mutual
def below (n : Nat) : D → Bool
  | .ref k => decide (k < n)
  | .tup xs => belows n xs | .lst xs => belows n xs | .nl xs => belows n xs
  | .dic ks vs => belows n ks && belows n vs | .nd ks vs => belows n ks && belows n vs
  | .obj _ vs => belows n vs | .ins _ _ vs => belows n vs
  | _ => true
def belows (n : Nat) : List D → Bool
  | [] => true
  | d :: ds => below n d && belows n ds
end
def endC (gc : Bool) (n : Nat) (d : D) (C : List D) : R (D × List D) := if gc then (if below n d && belows n (C.take n) then .ok (d, C.take n) else .bad) else .ok (d, C)
def run (F : Fields) (P : List Fn) : Nat → CallF
  | 0, _, _, _ => .bad
  | n + 1, f, ds, C => match P[f]? with
    | none => .bad
    | some fn => if ds.length = fn.ar then (exs F (run F P n) fn.body ⟨ds.map some ++ List.replicate (fn.n - ds.length) none, C⟩).bind fun r => match r with
        | .ret d S => endC fn.gc C.length d S.C
        | .nx S => endC fn.gc C.length .non S.C
        | _ => .bad
      else .bad
end
end PM

end

section
set_option Elab.async false
set_option linter.all false
set_option maxRecDepth 100000
/-! PmS: worlds, what data stands for, states. -/
namespace PM
open PySem L2

/-- a world: what is frozen, where the cells stand -/
structure Wd where
  F : Hp
  ad : List Addr
/-- tables: where functions and classes stand, the fields' names, the frozen classes' fields -/
structure Tb where
  K : PySem.W.Frag
  fa : Nat → Addr
  ca : Nat → Addr
  fn : Nat → PySem.Str
  fl : Fields
def Le (W W' : Wd) : Prop := Same W.F W'.F ∧ W.ad <+: W'.ad
theorem Le.refl (W : Wd) : Le W W := ⟨Same.refl _, List.prefix_refl _⟩
theorem Le.trans {A B C : Wd} (a : Le A B) (b : Le B C) : Le A C := ⟨a.1.trans b.1, a.2.trans b.2⟩
def FsOk (T : Tb) (ks : List Nat) (vs : List V) (fs : List (PySem.Str × V)) : Prop :=
  (∀ (i f : Nat) (v : V), ks[i]? = some f → vs[i]? = some v → fs.lookup (T.fn f) = some v) ∧ (∀ m, m ∉ ks.map T.fn → fs.lookup m = none) ∧ (ks.map T.fn).Nodup
mutual
def Rep (T : Tb) (W : Wd) : D → V → Prop
  | .non, v => v = .non
  | .bl b, v => v = .bl b
  | .int i, v => v = .int i
  | .str s, v => v = .str s
  | .tup xs, v => ∃ a vs, v = .ref a ∧ SqT T.K W.F a vs ∧ Reps T W xs vs
  | .lst xs, v => ∃ a vs, v = .ref a ∧ Rd W.F a (.lst vs) ∧ Reps T W xs vs
  | .obj c ds, v => ∃ a dx fs vs, v = .ref a ∧ (W.F a = some (.ins (T.ca c) dx fs) ∧ T.fl c ≠ []) ∧ FsOk T (T.fl c) vs fs ∧ Reps T W ds vs
  | .fn f, v => v = .ref (T.fa f)
  | .cls c, v => v = .ref (T.ca c)
  | .ty t, v => v = .ty t
  | .ref n, v => ∃ a, W.ad[n]? = some a ∧ v = .ref a
  | _, _ => False
def Reps (T : Tb) (W : Wd) : List D → List V → Prop
  | [], vs => vs = []
  | d :: ds, vs => ∃ v r, vs = v :: r ∧ Rep T W d v ∧ Reps T W ds r
end
theorem sqT_mono {K : PySem.W.Frag} {H H' : Hp} {a : Addr} {xs : List V} (e : Same H H') (h : SqT K H a xs) : SqT K H' a xs := by
  rcases h with (h | ⟨o, h⟩) | h
  · exact .inl (.inl (e _ _ h))
  · exact .inl (.inr ⟨o, e _ _ h⟩)
  · exact .inr h
theorem rd_mono {H H' : Hp} {a : Addr} {u : HO} (e : Same H H') (h : Rd H a u) : Rd H' a u := by
  rcases h with h | ⟨o, h⟩
  · exact .inl (e _ _ h)
  · exact .inr ⟨o, e _ _ h⟩
theorem pre_get {α : Type} {l m : List α} (h : l <+: m) {i : Nat} {a : α} (e : l[i]? = some a) : m[i]? = some a := by
  obtain ⟨t, rfl⟩ := h
  rw [List.getElem?_append_left]
  · exact e
  · exact (List.getElem?_eq_some_iff.mp e).1
mutual
theorem Rep.mono {T : Tb} {W W' : Wd} (l : Le W W') : ∀ (d : D) {v : V}, Rep T W d v → Rep T W' d v
  | .non, _, h => by simpa only [Rep] using h
  | .bl _, _, h => by simpa only [Rep] using h
  | .int _, _, h => by simpa only [Rep] using h
  | .str _, _, h => by simpa only [Rep] using h
  | .tup xs, _, h => by
    simp only [Rep] at h ⊢
    obtain ⟨a, vs, e, h1, h2⟩ := h
    exact ⟨a, vs, e, sqT_mono l.1 h1, Reps.mono l xs h2⟩
  | .lst xs, _, h => by
    simp only [Rep] at h ⊢
    obtain ⟨a, vs, e, h1, h2⟩ := h
    exact ⟨a, vs, e, rd_mono l.1 h1, Reps.mono l xs h2⟩
  | .obj c ds, _, h => by
    simp only [Rep] at h ⊢
    obtain ⟨a, dx, fs, vs, e, h1, h2, h3⟩ := h
    exact ⟨a, dx, fs, vs, e, ⟨l.1 _ _ h1.1, h1.2⟩, h2, Reps.mono l ds h3⟩
  | .fn _, _, h => by simpa only [Rep] using h
  | .cls _, _, h => by simpa only [Rep] using h
  | .ty _, _, h => by simpa only [Rep] using h
  | .ref n, _, h => by
    simp only [Rep] at h ⊢
    obtain ⟨a, h1, h2⟩ := h
    exact ⟨a, pre_get l.2 h1, h2⟩
  | .nl _, _, h => by simp only [Rep] at h
  | .dic _ _, _, h => by simp only [Rep] at h
  | .nd _ _, _, h => by simp only [Rep] at h
  | .ins _ _ _, _, h => by simp only [Rep] at h
  | .loc _, _, h => by simp only [Rep] at h
theorem Reps.mono {T : Tb} {W W' : Wd} (l : Le W W') : ∀ (ds : List D) {vs : List V}, Reps T W ds vs → Reps T W' ds vs
  | [], _, h => by simpa only [Reps] using h
  | d :: ds, _, h => by
    simp only [Reps] at h ⊢
    obtain ⟨v, r, e, h1, h2⟩ := h
    exact ⟨v, r, e, Rep.mono l d h1, Reps.mono l ds h2⟩
end
section
variable {T : Tb} {W W' : Wd}
theorem Reps.nil : Reps T W [] [] := by simp only [Reps]
theorem Reps.cons {d : D} {v : V} {ds : List D} {vs : List V} (h : Rep T W d v) (t : Reps T W ds vs) : Reps T W (d :: ds) (v :: vs) := by
  simp only [Reps]
  exact ⟨v, vs, rfl, h, t⟩
theorem Reps.length : ∀ {ds : List D} {vs : List V}, Reps T W ds vs → ds.length = vs.length
  | [], _, h => by
    simp only [Reps] at h
    subst h
    rfl
  | d :: ds, _, h => by
    simp only [Reps] at h
    obtain ⟨v, r, rfl, _, h2⟩ := h
    simp [Reps.length h2]
theorem Reps.get : ∀ {ds : List D} {vs : List V} {i : Nat} {d : D}, Reps T W ds vs → ds[i]? = some d → ∃ v, vs[i]? = some v ∧ Rep T W d v
  | [], _, _, _, _, e => by simp at e
  | x :: ds, _, 0, d, h, e => by
    simp only [Reps] at h
    obtain ⟨v, r, rfl, h1, _⟩ := h
    simp at e
    subst e
    exact ⟨v, rfl, h1⟩
  | x :: ds, _, i + 1, d, h, e => by
    simp only [Reps] at h
    obtain ⟨v, r, rfl, _, h2⟩ := h
    exact Reps.get (i := i) h2 (by simpa using e)
theorem Reps.getV {ds : List D} {vs : List V} {i : Nat} {v : V} (h : Reps T W ds vs) (e : vs[i]? = some v) : ∃ d, ds[i]? = some d ∧ Rep T W d v := by
  have hl := h.length
  have hi : i < ds.length := by rw [hl]; exact (List.getElem?_eq_some_iff.mp e).1
  obtain ⟨v', e', r⟩ := h.get (List.getElem?_eq_getElem hi)
  rw [e] at e'
  cases e'
  exact ⟨_, List.getElem?_eq_getElem hi, r⟩
theorem Reps.append : ∀ {ds es : List D} {vs us : List V}, Reps T W ds vs → Reps T W es us → Reps T W (ds ++ es) (vs ++ us)
  | [], _, _, _, h, t => by
    simp only [Reps] at h
    rw [h]
    exact t
  | d :: ds, _, _, _, h, t => by
    simp only [Reps] at h
    obtain ⟨v, r, rfl, h1, h2⟩ := h
    exact Reps.cons h1 (Reps.append h2 t)
theorem Reps.take : ∀ {ds : List D} {vs : List V} (n : Nat), Reps T W ds vs → Reps T W (ds.take n) (vs.take n)
  | _, _, 0, _ => Reps.nil
  | [], _, n + 1, h => by
    simp only [Reps] at h
    rw [h]
    exact Reps.nil
  | d :: ds, _, n + 1, h => by
    simp only [Reps] at h
    obtain ⟨v, r, rfl, h1, h2⟩ := h
    exact Reps.cons h1 (Reps.take n h2)
theorem Reps.drop : ∀ {ds : List D} {vs : List V} (n : Nat), Reps T W ds vs → Reps T W (ds.drop n) (vs.drop n)
  | _, _, 0, h => h
  | [], _, n + 1, h => by
    simp only [Reps] at h
    rw [h]
    exact Reps.nil
  | d :: ds, _, n + 1, h => by
    simp only [Reps] at h
    obtain ⟨v, r, rfl, h1, h2⟩ := h
    exact Reps.drop n h2
theorem Reps.set {d : D} {v : V} (r : Rep T W d v) : ∀ {ds : List D} {vs : List V} (i : Nat), Reps T W ds vs → Reps T W (ds.set i d) (vs.set i v)
  | [], _, _, h => by
    simp only [Reps] at h
    rw [h]
    exact Reps.nil
  | x :: ds, _, 0, h => by
    simp only [Reps] at h
    obtain ⟨u, t, rfl, h1, h2⟩ := h
    exact Reps.cons r h2
  | x :: ds, _, i + 1, h => by
    simp only [Reps] at h
    obtain ⟨u, t, rfl, h1, h2⟩ := h
    exact Reps.cons h1 (Reps.set r i h2)
/-- by places -/
theorem Reps.of : ∀ {ds : List D} {vs : List V}, ds.length = vs.length → (∀ (i : Nat) (d : D) (v : V), ds[i]? = some d → vs[i]? = some v → Rep T W d v) → Reps T W ds vs
  | [], [], _, _ => Reps.nil
  | [], _ :: _, h, _ => by simp at h
  | _ :: _, [], h, _ => by simp at h
  | d :: ds, v :: vs, h, k => Reps.cons (k 0 d v rfl rfl) (Reps.of (by simpa using h) fun i d v e1 e2 => k (i + 1) d v (by simpa using e1) (by simpa using e2))
theorem Reps.reverse {ds : List D} {vs : List V} (h : Reps T W ds vs) : Reps T W ds.reverse vs.reverse := by
  refine Reps.of (by simp [h.length]) fun i d v e1 e2 => ?_
  have hl := h.length
  have hi : i < ds.length := by simpa using (List.getElem?_eq_some_iff.mp e1).1
  rw [List.getElem?_reverse hi] at e1
  rw [List.getElem?_reverse (by omega)] at e2
  rw [← hl] at e2
  obtain ⟨v', e', r⟩ := h.get e1
  rw [e2] at e'
  cases e'
  exact r
theorem Reps.of_map {α : Type} {f : α → D} {g : α → V} (h : ∀ a, Rep T W (f a) (g a)) : ∀ l : List α, Reps T W (l.map f) (l.map g)
  | [] => Reps.nil
  | a :: l => Reps.cons (h a) (Reps.of_map h l)
end

/-- the base of a call -/
structure Bs where
  H : Hp
  W : Wd
def Own (L : List (Option D)) (σ : L2.St) (i : Nat) (a : Addr) : Prop := (∃ xs, slot L i = some (.nl xs)) ∧ σ[i]? = some (some (.ref a))
def SlotOk (T : Tb) (W : Wd) (H : Hp) (d : D) (v : V) : Prop := match d with
  | .nl xs => ∃ a vs, v = .ref a ∧ H a = some (.lst vs) ∧ W.F a = none ∧ Reps T W xs vs
  | d => Rep T W d v
def CellOk (T : Tb) (W : Wd) (H : Hp) (a : Addr) (d : D) : Prop := match d with
  | .nl xs => ∃ vs, H a = some (.lst vs) ∧ Reps T W xs vs
  | .ins c ks ds => ∃ dx fs vs, H a = some (.ins (T.ca c) dx fs) ∧ FsOk T ks vs fs ∧ Reps T W ds vs ∧ ks.length = ds.length ∧ fs.length ≤ ks.length ∧ ∀ k ∈ ks, k ∈ T.fl c
  | _ => False
structure Rel (T : Tb) (B : Bs) (W : Wd) (S : PS) (σ : L2.St) (H : Hp) : Prop where
  len : S.L.length = σ.length
  sub : Same W.F H
  slots : ∀ (i : Nat) (d : D), slot S.L i = some d → ∃ v, σ[i]? = some (some v) ∧ SlotOk T W H d v
  excl : ∀ (i j : Nat) (a : Addr), i ≠ j → Own S.L σ i a → Own S.L σ j a → False
  ownc : ∀ (i : Nat) (a : Addr), Own S.L σ i a → a ∉ W.ad ∧ B.H a = none
  adl : W.ad.length = S.C.length
  adn : W.ad.Nodup
  cells : ∀ (n : Nat) (a : Addr) (c : D), W.ad[n]? = some a → S.C[n]? = some c → W.F a = none ∧ CellOk T W H a c
  fr1 : ∀ a o, B.H a = some o → a ∉ B.W.ad → H a = some o
  fr2 : ∀ a, W.F a ≠ none → B.W.F a ≠ none ∨ B.H a = none ∨ a ∈ B.W.ad
  le : Le B.W W
  newc : ∀ (n : Nat) (a : Addr), B.W.ad.length ≤ n → W.ad[n]? = some a → B.H a = none
/-- a borrowed value -/
def Bo (T : Tb) (W : Wd) (σ : L2.St) (d : D) (v : V) : Prop := match d with
  | .loc i => σ[i]? = some (some v)
  | d => Rep T W d v
theorem Bo.mono {T : Tb} {W W' : Wd} {σ : L2.St} (l : Le W W') {d : D} {v : V} (h : Bo T W σ d v) : Bo T W' σ d v := by
  cases d <;> first | exact h | exact Rep.mono l _ h
/-- a new list: nobody else has it -/
def Fresh (T : Tb) (B : Bs) (W : Wd) (S : PS) (σ : L2.St) (H : Hp) (xs : List D) (v : V) : Prop :=
  ∃ a vs, v = .ref a ∧ H a = some (.lst vs) ∧ W.F a = none ∧ Reps T W xs vs ∧ a ∉ W.ad ∧ B.H a = none ∧ ∀ i, ¬ Own S.L σ i a
def Res (T : Tb) (B : Bs) (W : Wd) (S : PS) (σ : L2.St) (H : Hp) (d : D) (v : V) : Prop := match d with
  | .nl xs => Fresh T B W S σ H xs v
  | .loc i => σ[i]? = some (some v)
  | d => Rep T W d v
theorem Res.bo {T : Tb} {B : Bs} {W : Wd} {S : PS} {σ : L2.St} {H : Hp} {d : D} {v : V} (h : Res T B W S σ H d v) (hd : ∀ xs, d ≠ .nl xs) : Bo T W σ d v := by
  cases d <;> first | exact h | exact absurd rfl (hd _)
/-- what is seen of a value: data, or a cell's instance -/
def Vw (T : Tb) (W : Wd) (H : Hp) (d : D) (v : V) : Prop := match d with
  | .lst xs => ∃ a vs, v = .ref a ∧ Rd H a (.lst vs) ∧ Reps T W xs vs
  | d => Rep T W d v
def Vws (T : Tb) (W : Wd) (H : Hp) : List D → List V → Prop
  | [], vs => vs = []
  | d :: ds, vs => ∃ v r, vs = v :: r ∧ Vw T W H d v ∧ Vws T W H ds r
section
variable {T : Tb} {B : Bs} {W W' : Wd} {S : PS} {σ : L2.St} {H H' : Hp}
theorem SlotOk.rep {d : D} {v : V} (h : SlotOk T W H d v) (hd : ∀ xs, d ≠ .nl xs) : Rep T W d v := by
  cases d <;> first | exact h | exact absurd rfl (hd _)
theorem Vw.of_rep (e : Same W.F H) {d : D} {v : V} (h : Rep T W d v) : Vw T W H d v := by
  cases d with
  | lst xs =>
    simp only [Rep] at h
    obtain ⟨a, vs, e1, h1, h2⟩ := h
    exact ⟨a, vs, e1, rd_mono e h1, h2⟩
  | _ => exact h
theorem rep_nl {xs : List D} {v : V} (h : Rep T W (.nl xs) v) : False := by simp only [Rep] at h
theorem tmp_of {d : D} (h : isOwn d = false) : tmp d = d := by cases d <;> first | rfl | cases h
/-- what is seen -/
theorem Rel.view (I : Rel T B W S σ H) {d x : D} {v : V} (b : Bo T W σ d v) (e : view S d = some x) : Vw T W H x v := by
  have plainCase : ∀ {d : D}, Rep T W d v → PM.view S d = some x → (∀ i, d ≠ .loc i) → (∀ n, d ≠ .ref n) → Vw T W H x v := fun {d} r e h1 h2 => by
    cases d with
    | loc i => exact absurd rfl (h1 i)
    | ref n => exact absurd rfl (h2 n)
    | nl xs => exact (rep_nl r).elim
    | nd ks vs => simp only [Rep] at r
    | _ =>
      simp only [PM.view, tmp, Option.some.injEq] at e
      subst e
      exact Vw.of_rep I.sub r
  cases d with
  | loc i =>
    simp only [PM.view] at e
    cases hs : slot S.L i with
    | none => rw [hs] at e; cases e
    | some c =>
      rw [hs] at e
      simp only [Option.map_some, Option.some.injEq] at e
      obtain ⟨v', e1, ok⟩ := I.slots i c hs
      have b' : σ[i]? = some (some v) := b
      rw [b'] at e1
      cases e1
      cases c with
      | nl xs =>
        subst e
        obtain ⟨a, vs, e2, h1, h2, h3⟩ := ok
        exact ⟨a, vs, e2, Rd.of h1, h3⟩
      | nd ks vs => have r : Rep T W (.nd ks vs) v := ok; simp only [Rep] at r
      | _ =>
        have r := SlotOk.rep ok (by intro _ z; cases z)
        subst e
        exact Vw.of_rep I.sub r
  | ref n =>
    have b' : ∃ a, W.ad[n]? = some a ∧ v = .ref a := by simpa only [Bo, Rep] using b
    obtain ⟨a, ha, rfl⟩ := b'
    simp only [PM.view] at e
    cases hc : S.C[n]? with
    | none => rw [hc] at e; cases e
    | some c =>
      rw [hc] at e
      obtain ⟨_, ok⟩ := I.cells n a c ha hc
      cases c with
      | nl xs =>
        simp only [Option.some.injEq] at e
        subst e
        obtain ⟨vs, h1, h2⟩ := ok
        exact ⟨a, vs, rfl, Rd.of h1, h2⟩
      | ins c ks ds =>
        simp only [Option.some.injEq] at e
        subst e
        show Rep T W (.ref n) (.ref a)
        simp only [Rep]
        exact ⟨a, ha, rfl⟩
      | nd ks vs => exact (show False from ok).elim
      | _ => cases e
  | _ => exact plainCase b e (by intro _ z; cases z) (by intro _ z; cases z)
theorem Rel.views (I : Rel T B W S σ H) : ∀ {ds xs : List D} {vs : List V}, ds.length = vs.length → (∀ (i : Nat) d v, ds[i]? = some d → vs[i]? = some v → Bo T W σ d v) → ds.mapM (PM.view S) = some xs → Vws T W H xs vs
  | [], _, [], _, _, e => by
    simp at e
    subst e
    simp only [Vws]
  | [], _, _ :: _, h, _, _ => by simp at h
  | _ :: _, _, [], h, _, _ => by simp at h
  | d :: ds, xs, v :: vs, h, k, e => by
    simp only [List.mapM_cons, Option.bind_eq_bind, Option.bind_eq_some_iff] at e
    obtain ⟨x, e1, ys, e2, e3⟩ := e
    cases e3
    simp only [Vws]
    exact ⟨v, vs, rfl, I.view (k 0 d v rfl rfl) e1, Rel.views I (by simpa using h) (fun i d v a b => k (i + 1) d v (by simpa using a) (by simpa using b)) e2⟩
end
end PM
end

section
set_option Elab.async false
set_option linter.all false
set_option maxRecDepth 100000
/-! PmT: how states change. -/
namespace PM
open PySem L2
section
variable {T : Tb} {B : Bs} {W W' : Wd} {S : PS} {σ σ' : L2.St} {H H' : Hp} {L : List (Option D)}
theorem slot_set {i j : Nat} {o : Option D} (hi : i < L.length) : slot (L.set i o) j = if i = j then o else slot L j := by
  unfold slot
  by_cases h : i = j
  · subst h
    rw [List.getElem?_set_self hi, if_pos rfl]
    cases o <;> rfl
  · rw [List.getElem?_set_ne h, if_neg h]
theorem slot_lt {i : Nat} {d : D} (h : slot L i = some d) : i < L.length := by
  unfold slot at h
  cases e : L[i]? with
  | none => rw [e] at h; cases h
  | some o => exact (List.getElem?_eq_some_iff.mp e).1
theorem slot_set_none {i j : Nat} {d : D} (h : slot (L.set i none) j = some d) : slot L j = some d ∧ i ≠ j := by
  by_cases hi : i < L.length
  · rw [slot_set hi] at h
    split at h
    · cases h
    · exact ⟨h, by assumption⟩
  · rw [List.set_eq_of_length_le (by omega)] at h
    exact ⟨h, fun e => hi (e ▸ slot_lt h)⟩
theorem Le.of_same {F' : Hp} (e : Same W.F F') : Le W ⟨F', W.ad⟩ := ⟨e, List.prefix_refl _⟩
/-- the heap grows -/
theorem Rel.grow (I : Rel T B W S σ H) (e : Same H H') : Rel T B W S σ H' where
  len := I.len
  sub := I.sub.trans e
  slots := fun i d h => by
    obtain ⟨v, e1, ok⟩ := I.slots i d h
    refine ⟨v, e1, ?_⟩
    cases d with
    | nl xs =>
      obtain ⟨a, vs, h1, h2, h3⟩ := ok
      exact ⟨a, vs, h1, e _ _ h2, h3⟩
    | _ => exact ok
  excl := I.excl
  ownc := I.ownc
  adl := I.adl
  adn := I.adn
  cells := fun n a c h1 h2 => by
    obtain ⟨h3, ok⟩ := I.cells n a c h1 h2
    refine ⟨h3, ?_⟩
    cases c with
    | nl xs =>
      obtain ⟨vs, h4, h5⟩ := ok
      exact ⟨vs, e _ _ h4, h5⟩
    | ins c ks ds =>
      obtain ⟨dx, fs, vs, h4, h5⟩ := ok
      exact ⟨dx, fs, vs, e _ _ h4, h5⟩
    | _ => exact ok
  fr1 := fun a o h1 h2 => e _ _ (I.fr1 a o h1 h2)
  fr2 := I.fr2
  le := I.le
  newc := I.newc
theorem CellOk.mono (l : Le W W') {a : Addr} {c : D} (h : CellOk T W H a c) : CellOk T W' H a c := by
  cases c with
  | nl xs =>
    obtain ⟨vs, h4, h5⟩ := h
    exact ⟨vs, h4, Reps.mono l _ h5⟩
  | ins c ks ds =>
    obtain ⟨dx, fs, vs, h4, h5, h6, h7⟩ := h
    exact ⟨dx, fs, vs, h4, h5, Reps.mono l _ h6, h7⟩
  | _ => exact h
/-- more is frozen: things that nobody owns and that are new -/
theorem Rel.freeze {F' : Hp} (I : Rel T B W S σ H) (e : Same W.F F') (e2 : Same F' H) (h : ∀ a, F' a ≠ none → W.F a ≠ none ∨ (a ∉ W.ad ∧ B.H a = none ∧ ∀ i, ¬ Own S.L σ i a)) : Rel T B ⟨F', W.ad⟩ S σ H where
  len := I.len
  sub := e2
  slots := fun i d hd => by
    obtain ⟨v, e1, ok⟩ := I.slots i d hd
    refine ⟨v, e1, ?_⟩
    cases d with
    | nl xs =>
      obtain ⟨a, vs, rfl, h2, h3, h4⟩ := ok
      refine ⟨a, vs, rfl, h2, ?_, Reps.mono (Le.of_same e) _ h4⟩
      cases q : F' a with
      | none => exact q
      | some o =>
        rcases h a (by rw [q]; simp) with z | ⟨_, _, z⟩
        · exact absurd h3 z
        · exact absurd ⟨⟨xs, hd⟩, e1⟩ (z i)
    | _ => exact Rep.mono (Le.of_same e) _ ok
  excl := I.excl
  ownc := I.ownc
  adl := I.adl
  adn := I.adn
  cells := fun n a c h1 h2 => by
    obtain ⟨h3, ok⟩ := I.cells n a c h1 h2
    refine ⟨?_, ok.mono (Le.of_same e)⟩
    show F' a = none
    cases q : F' a with
    | none => rfl
    | some o =>
      rcases h a (by rw [q]; simp) with z | ⟨z, _⟩
      · exact absurd h3 z
      · exact absurd (List.mem_of_getElem? h1) z
  fr1 := I.fr1
  fr2 := fun a ha => by
    rcases h a ha with z | ⟨_, z, _⟩
    · exact I.fr2 a z
    · exact .inr (.inl z)
  le := I.le.trans (Le.of_same e)
  newc := I.newc
theorem same_upd {F : Hp} {a : Addr} {o : HO} (h : F a = none) : Same F (upd F a o) := fun b u e => by
  rw [upd_ne (ne_of_none e h)]
  exact e
theorem upd_sub {F : Hp} {a : Addr} {o : HO} (e : Same F H) (h : H a = some o) : Same (upd F a o) H := fun b u q => by
  by_cases hb : b = a
  · subst hb
    rw [upd_same] at q
    cases q
    exact h
  · rw [upd_ne hb] at q
    exact e _ _ q
theorem Rel.freeze1 {a : Addr} {o : HO} (I : Rel T B W S σ H) (ha : H a = some o) (hF : W.F a = none) (h1 : a ∉ W.ad) (h2 : B.H a = none) (h3 : ∀ i, ¬ Own S.L σ i a) : Rel T B ⟨upd W.F a o, W.ad⟩ S σ H :=
  I.freeze (same_upd hF) (upd_sub I.sub ha) fun b hb => by
    by_cases e : b = a
    · subst e
      exact .inr ⟨h1, h2, h3⟩
    · rw [upd_ne e] at hb
      exact .inl hb
/-- a result is frozen where it is a new list -/
theorem Rel.tmp {d : D} {v : V} (I : Rel T B W S σ H) (r : Res T B W S σ H d v) : ∃ W', Le W W' ∧ Rel T B W' S σ H ∧ Bo T W' σ (PM.tmp d) v ∧ ((∀ i, d ≠ .loc i) → Rep T W' (PM.tmp d) v) := by
  cases d with
  | nl xs =>
    obtain ⟨a, vs, rfl, h1, h2, h3, h4, h5, h6⟩ := r
    have l : Le W ⟨upd W.F a (.lst vs), W.ad⟩ := Le.of_same (same_upd h2)
    have rp : Rep T ⟨upd W.F a (.lst vs), W.ad⟩ (.lst xs) (.ref a) := by
      simp only [Rep]
      exact ⟨a, vs, rfl, Rd.of upd_same, Reps.mono l _ h3⟩
    exact ⟨_, l, I.freeze1 h1 h2 h4 h5 h6, rp, fun _ => rp⟩
  | loc i => exact ⟨W, Le.refl W, I, r, fun h => absurd rfl (h i)⟩
  | nd ks vs => have r' : Rep T W (.nd ks vs) v := r; simp only [Rep] at r'
  | _ => exact ⟨W, Le.refl W, I, r, fun _ => r⟩
theorem own_of_set {i j : Nat} {d : D} {a : Addr} (hi : i < L.length) (hd : ∀ xs, d ≠ .nl xs) (h : Own (L.set i (some d)) σ j a) : Own L σ j a ∧ j ≠ i := by
  obtain ⟨⟨xs, h1⟩, h2⟩ := h
  rw [slot_set hi] at h1
  split at h1
  · cases h1
    exact absurd rfl (hd xs)
  · exact ⟨⟨⟨xs, h1⟩, h2⟩, Ne.symm (by assumption)⟩
/-- what a slot owns is frozen -/
theorem Rel.freezeSlot {i : Nat} {d : D} {v : V} (I : Rel T B W S σ H) (hs : slot S.L i = some d) (hv : σ[i]? = some (some v)) :
    ∃ W', Le W W' ∧ Rel T B W' (if isOwn d then setS S i (PM.tmp d) else S) σ H ∧ Rep T W' (PM.tmp d) v := by
  obtain ⟨v', e1, ok⟩ := I.slots i d hs
  rw [hv] at e1
  cases e1
  have hi := slot_lt hs
  cases d with
  | nl xs =>
    obtain ⟨a, vs, rfl, h1, h2, h3⟩ := ok
    have own : Own S.L σ i a := ⟨⟨xs, hs⟩, hv⟩
    obtain ⟨c1, c2⟩ := I.ownc i a own
    have l : Le W ⟨upd W.F a (.lst vs), W.ad⟩ := Le.of_same (same_upd h2)
    have rp : Rep T ⟨upd W.F a (.lst vs), W.ad⟩ (.lst xs) (.ref a) := by
      simp only [Rep]
      exact ⟨a, vs, rfl, Rd.of upd_same, Reps.mono l _ h3⟩
    refine ⟨_, l, ?_, rp⟩
    show Rel T B _ (setS S i (.lst xs)) σ H
    -- first the slot's word, then the freezing
    have J : Rel T B W ⟨S.L.set i none, S.C⟩ σ H := by
      refine ⟨by simpa using I.len, I.sub, fun j d h => ?_, fun j k a hjk h1 h2 => ?_, fun j a h => ?_, I.adl, I.adn, I.cells, I.fr1, I.fr2, I.le, I.newc⟩
      · exact I.slots j d (slot_set_none h).1
      · obtain ⟨⟨xs1, o1⟩, p1⟩ := h1
        obtain ⟨⟨xs2, o2⟩, p2⟩ := h2
        exact I.excl j k a hjk ⟨⟨xs1, (slot_set_none o1).1⟩, p1⟩ ⟨⟨xs2, (slot_set_none o2).1⟩, p2⟩
      · obtain ⟨⟨xs1, o1⟩, p1⟩ := h
        exact I.ownc j a ⟨⟨xs1, (slot_set_none o1).1⟩, p1⟩
    have J2 := J.freeze1 (a := a) (o := .lst vs) h1 h2 c1 c2 fun j h => by
      obtain ⟨⟨xs1, o1⟩, p1⟩ := h
      obtain ⟨q1, q2⟩ := slot_set_none o1
      exact I.excl i j a q2 own ⟨⟨xs1, q1⟩, p1⟩
    refine ⟨by simpa [setS] using I.len, J2.sub, fun j d h => ?_, fun j k b hjk o1 o2 => ?_, fun j b h => ?_, I.adl, I.adn, J2.cells, I.fr1, J2.fr2, J2.le, I.newc⟩
    · have h' : slot (S.L.set i (some (.lst xs))) j = some d := h
      rw [slot_set hi] at h'
      split at h'
      · rename_i e
        subst e
        cases h'
        exact ⟨_, hv, rp⟩
      · refine J2.slots j d ?_
        show slot (S.L.set i none) j = some d
        rw [slot_set hi, if_neg (by assumption)]
        exact h'
    · obtain ⟨p1, _⟩ := own_of_set (d := .lst xs) hi (by intro _ z; cases z) o1
      obtain ⟨p2, _⟩ := own_of_set (d := .lst xs) hi (by intro _ z; cases z) o2
      exact I.excl j k b hjk p1 p2
    · exact I.ownc j b (own_of_set (d := .lst xs) hi (by intro _ z; cases z) h).1
  | nd ks vs => have r' : Rep T W (.nd ks vs) v := ok; simp only [Rep] at r'
  | _ => exact ⟨W, Le.refl W, I, SlotOk.rep ok (by intro _ z; cases z)⟩
/-- a result is made a value that may stand anywhere -/
theorem Rel.frz {d d' : D} {v : V} {S' : PS} (I : Rel T B W S σ H) (r : Res T B W S σ H d v) (e : PM.frz d S = some (d', S')) : ∃ W', Le W W' ∧ Rel T B W' S' σ H ∧ Rep T W' d' v := by
  by_cases hl : ∃ i, d = .loc i
  · obtain ⟨i, rfl⟩ := hl
    simp only [PM.frz] at e
    cases hs : slot S.L i with
    | none => rw [hs] at e; cases e
    | some c =>
      rw [hs] at e
      simp only [Option.map_some, Option.some.injEq, Prod.mk.injEq] at e
      obtain ⟨e1, e2⟩ := e
      subst e1 e2
      exact I.freezeSlot hs r
  · have e' : PM.frz d S = some (PM.tmp d, S) := by
      cases d with
      | loc i => exact absurd ⟨i, rfl⟩ hl
      | _ => rfl
    rw [e'] at e
    cases e
    obtain ⟨W', l, J, _, rp⟩ := I.tmp r
    exact ⟨W', l, J, rp fun i z => hl ⟨i, z⟩⟩
/-- a slot is written -/
theorem Rel.put {i : Nat} {d : D} {v : V} (I : Rel T B W S σ H) (hi : i < S.L.length) (r : Res T B W S σ H d v) (hd : ∀ j, d ≠ .loc j) : Rel T B W ⟨S.L.set i (some d), S.C⟩ (σ.set i (some v)) H := by
  have hi' : i < σ.length := by rw [← I.len]; exact hi
  have ok : SlotOk T W H d v := by
    cases d with
    | nl xs =>
      obtain ⟨a, vs, h0, h1, h2, h3, _⟩ := r
      exact ⟨a, vs, h0, h1, h2, h3⟩
    | loc j => exact absurd rfl (hd j)
    | _ => exact r
  have ownOld : ∀ {j a}, j ≠ i → Own (S.L.set i (some d)) (σ.set i (some v)) j a → Own S.L σ j a := fun {j a} hj h => by
    obtain ⟨⟨xs, h1⟩, h2⟩ := h
    rw [slot_set hi, if_neg (Ne.symm hj)] at h1
    rw [List.getElem?_set_ne (Ne.symm hj)] at h2
    exact ⟨⟨xs, h1⟩, h2⟩
  have ownNew : ∀ {a}, Own (S.L.set i (some d)) (σ.set i (some v)) i a → ∃ xs, Fresh T B W S σ H xs (.ref a) := fun {a} h => by
    obtain ⟨⟨xs, h1⟩, h2⟩ := h
    rw [slot_set hi, if_pos rfl] at h1
    rw [List.getElem?_set_self hi'] at h2
    cases h1
    cases h2
    exact ⟨xs, r⟩
  refine ⟨by simpa using I.len, I.sub, fun j c h => ?_, fun j k a hjk o1 o2 => ?_, fun j a h => ?_, I.adl, I.adn, I.cells, I.fr1, I.fr2, I.le, I.newc⟩
  · have h' : slot (S.L.set i (some d)) j = some c := h
    rw [slot_set hi] at h'
    split at h'
    · rename_i e
      subst e
      cases h'
      exact ⟨v, List.getElem?_set_self hi', ok⟩
    · rw [List.getElem?_set_ne (by assumption)]
      exact I.slots j c h'
  · by_cases h1 : j = i
    · subst h1
      obtain ⟨xs, a', vs, e, _, _, _, _, _, no⟩ := ownNew o1
      cases e
      exact no k (ownOld (Ne.symm hjk) o2)
    · by_cases h2 : k = i
      · subst h2
        obtain ⟨xs, a', vs, e, _, _, _, _, _, no⟩ := ownNew o2
        cases e
        exact no j (ownOld h1 o1)
      · exact I.excl j k a hjk (ownOld h1 o1) (ownOld h2 o2)
  · by_cases h1 : j = i
    · subst h1
      obtain ⟨xs, a', vs, e, _, _, _, c1, c2, _⟩ := ownNew h
      cases e
      exact ⟨c1, c2⟩
    · exact I.ownc j a (ownOld h1 h)
/-- names are forgotten -/
theorem Rel.weak {L' : List (Option D)} (I : Rel T B W S σ H) (hl : L'.length = σ'.length) (h : ∀ i d, slot L' i = some d → slot S.L i = some d ∧ σ'[i]? = σ[i]?) : Rel T B W ⟨L', S.C⟩ σ' H := by
  have own : ∀ {j a}, Own L' σ' j a → Own S.L σ j a := fun {j a} ⟨⟨xs, h1⟩, h2⟩ => by
    obtain ⟨q1, q2⟩ := h _ _ h1
    exact ⟨⟨xs, q1⟩, q2 ▸ h2⟩
  refine ⟨hl, I.sub, fun j c hc => ?_, fun j k a hjk o1 o2 => I.excl j k a hjk (own o1) (own o2), fun j a h => I.ownc j a (own h), I.adl, I.adn, I.cells, I.fr1, I.fr2, I.le, I.newc⟩
  obtain ⟨q1, q2⟩ := h _ _ hc
  rw [q2]
  exact I.slots j c q1
theorem killL_length (L : List (Option D)) : ∀ is, (killL L is).length = L.length
  | [] => rfl
  | v :: vs => by unfold killL; rw [List.length_set, killL_length L vs]
theorem killL_slot {i : Nat} {d : D} : ∀ {is : List Nat}, slot (killL L is) i = some d → slot L i = some d
  | [], h => h
  | v :: vs, h => by
    unfold killL at h
    exact killL_slot (slot_set_none h).1
theorem Rel.kill (I : Rel T B W S σ H) (is : List Nat) : Rel T B W ⟨killL S.L is, S.C⟩ σ H :=
  I.weak (by rw [killL_length]; exact I.len) fun i d h => ⟨killL_slot h, rfl⟩
theorem wipeL_length (L : List (Option D)) : ∀ is, (wipeL L is).length = L.length
  | [] => rfl
  | v :: vs => by unfold wipeL; rw [List.length_set, wipeL_length L vs]
theorem wipe_out2 {σ : L2.St} {i : Nat} : ∀ {vs : List Nat}, i ∉ vs → (wipe σ vs)[i]? = σ[i]?
  | [], _ => rfl
  | v :: vs, h => by
    unfold wipe
    rw [List.getElem?_set_ne (fun e => h (by rw [e]; exact List.mem_cons_self ..)), wipe_out2 fun z => h (List.mem_cons_of_mem _ z)]
theorem wipeL_slot {i : Nat} {d : D} : ∀ {is : List Nat}, slot (wipeL L is) i = some d → slot L i = some d ∧ i ∉ is
  | [], h => ⟨h, by simp⟩
  | v :: vs, h => by
    unfold wipeL at h
    obtain ⟨h1, h2⟩ := slot_set_none h
    obtain ⟨h3, h4⟩ := wipeL_slot h1
    exact ⟨h3, by simp only [List.mem_cons, not_or]; exact ⟨Ne.symm h2, h4⟩⟩
theorem Rel.wipe (I : Rel T B W S σ H) (is : List Nat) : Rel T B W ⟨wipeL S.L is, S.C⟩ (L2.wipe σ is) H :=
  I.weak (by rw [wipeL_length, wipe_length]; exact I.len) fun i d h => ⟨(wipeL_slot h).1, wipe_out2 (wipeL_slot h).2⟩
end
end PM
end

section
set_option Elab.async false
set_option linter.all false
set_option maxRecDepth 100000
/-! PmU: == upon data. -/
namespace PM
open PySem L2 PyProof.Rows
section
variable {T : Tb} {X : Cx} {pins : List (Addr × Obj)} {σ : L2.St} {H : Hp} {s : Shared} {ad : List Addr}
theorem all_range_eqDs : ∀ (xs ys : List D) (f : Nat → Bool), (∀ (j : Nat) a b, xs[j]? = some a → ys[j]? = some b → f j = eqD a b) → ((List.range (min xs.length ys.length)).all f && xs.length == ys.length) = eqDs xs ys
  | [], [], f, _ => by simp [eqDs]
  | [], y :: ys, f, _ => by simp [eqDs]
  | x :: xs, [], f, _ => by simp [eqDs]
  | x :: xs, y :: ys, f, h => by
    have ih := all_range_eqDs xs ys (fun j => f (j + 1)) fun j a b h1 h2 => h (j + 1) a b (by simpa using h1) (by simpa using h2)
    have h0 := h 0 x y rfl rfl
    simp only [eqDs, ← ih, ← h0]
    have e1 : min (x :: xs).length (y :: ys).length = min xs.length ys.length + 1 := by simp only [List.length_cons]; omega
    rw [e1, List.range_succ_eq_map, List.all_cons, List.all_map]
    have e2 : ((x :: xs).length == (y :: ys).length) = (xs.length == ys.length) := by
      by_cases h : xs.length = ys.length <;> simp [h]
    rw [e2, Bool.and_assoc]
    rfl
theorem all_range_eqDs' (xs ys : List D) (f : Nat → Bool) (hl : xs.length = ys.length) (h : ∀ (j : Nat) a b, xs[j]? = some a → ys[j]? = some b → f j = eqD a b) : (List.range xs.length).all f = eqDs xs ys := by
  have e := all_range_eqDs xs ys f h
  rw [← hl, Nat.min_self, beq_self_eq_true, Bool.and_true] at e
  exact e
theorem eqDs_len : ∀ {xs ys : List D}, xs.length ≠ ys.length → eqDs xs ys = false
  | [], [], h => absurd rfl h
  | [], _ :: _, _ => rfl
  | _ :: _, [], _ => rfl
  | x :: xs, y :: ys, h => by
    simp only [eqDs]
    rw [eqDs_len (xs := xs) (ys := ys) (fun e => h (by simp [e])), Bool.and_false]
/-- a tuple, a list as they stand -/
theorem Inv.tupleR (hK : X.K = T.K) (I : Inv X pins σ H s) {a : Addr} {vs : List V} (h : SqT T.K H a vs) : ∃ its : List Value, Vals vs its ∧ IsTup s.heap a its.toArray ∧ vs.length ≤ sizeLine := by
  rw [← hK] at h
  exact I.tuple h
theorem listR (I : Inv X pins σ H s) {a : Addr} {vs : List V} (h : Rd H a (.lst vs)) : ∃ (its : List Value) (n : Nat), Vals vs its ∧ vs.length = its.length ∧ vs.length ≤ sizeLine ∧ s.heap.get? a = some { cls := .type "list", data := .seq its.toArray n } := by
  obtain ⟨z, its, n, r, e⟩ := h.ok I.hok
  exact ⟨its, n, r, r.length, z, e⟩
theorem isList_of {h : Heap} {a : Addr} {its : Array Value} {n : Nat} (e : h.get? a = some { cls := .type "list", data := .seq its n }) : h.IsList a its := ⟨_, e, rfl, n, rfl⟩
mutual
/-- what stands for both is equal -/
theorem eq_self (hK : X.K = T.K) (I : Inv X pins σ H s) : ∀ (d e : D) {v : V}, plain d = true → plain e = true → Rep T ⟨H, ad⟩ d v → Rep T ⟨H, ad⟩ e v → eqD d e = true
  | .non, e, v, _, he, h1, h2 => by
    simp only [Rep] at h1
    subst h1
    cases e <;> simp_all [Rep, plain, eqD]
  | .bl b, e, v, _, he, h1, h2 => by
    simp only [Rep] at h1
    subst h1
    cases e <;> simp_all [Rep, plain, eqD]
  | .int i, e, v, _, he, h1, h2 => by
    simp only [Rep] at h1
    subst h1
    cases e <;> simp_all [Rep, plain, eqD]
  | .str i, e, v, _, he, h1, h2 => by
    simp only [Rep] at h1
    subst h1
    cases e <;> simp_all [Rep, plain, eqD]
  | .tup xs, e, v, hp, he, h1, h2 => by
    simp only [Rep] at h1
    obtain ⟨a, vs, rfl, hq, hr⟩ := h1
    cases e with
    | tup ys =>
      simp only [Rep] at h2
      obtain ⟨a', vs', ea, hq', hr'⟩ := h2
      cases ea
      have q : vs = vs' := by
        rw [← hK] at hq hq'
        exact I.tuple_inj hq hq'
      subst q
      simp only [eqD]
      exact eq_selfs hK I xs ys (by simpa [plain] using hp) (by simpa [plain] using he) hr hr'
    | lst ys =>
      simp only [Rep] at h2
      obtain ⟨a', vs', ea, hq', hr'⟩ := h2
      cases ea
      obtain ⟨its, _, ⟨o, ho, hc, _⟩, _⟩ := Inv.tupleR hK I hq
      obtain ⟨its', n, _, _, _, ho'⟩ := listR I hq'
      rw [ho] at ho'
      cases ho'
      exact absurd (Value.type.inj hc) (by decide)
    | _ => first | (simp [plain] at he; done) | (simp [Rep] at h2; done)
  | .lst xs, e, v, hp, he, h1, h2 => by
    simp only [Rep] at h1
    obtain ⟨a, vs, rfl, hq, hr⟩ := h1
    cases e with
    | lst ys =>
      simp only [Rep] at h2
      obtain ⟨a', vs', ea, hq', hr'⟩ := h2
      cases ea
      have q : vs = vs' := I.list_inj (.inl hq) (.inl hq')
      subst q
      simp only [eqD]
      exact eq_selfs hK I xs ys (by simpa [plain] using hp) (by simpa [plain] using he) hr hr'
    | tup ys =>
      simp only [Rep] at h2
      obtain ⟨a', vs', ea, hq', hr'⟩ := h2
      cases ea
      obtain ⟨its, _, ⟨o, ho, hc, _⟩, _⟩ := Inv.tupleR hK I hq'
      obtain ⟨its', n, _, _, _, ho'⟩ := listR I hq
      rw [ho] at ho'
      cases ho'
      exact absurd (Value.type.inj hc) (by decide)
    | _ => first | (simp [plain] at he; done) | (simp [Rep] at h2; done)
  | .nl _, _, _, hp, _, _, _ => by simp [plain] at hp
  | .dic _ _, _, _, hp, _, _, _ => by simp [plain] at hp
  | .nd _ _, _, _, hp, _, _, _ => by simp [plain] at hp
  | .obj _ _, _, _, hp, _, _, _ => by simp [plain] at hp
  | .ins _ _ _, _, _, hp, _, _, _ => by simp [plain] at hp
  | .fn _, _, _, hp, _, _, _ => by simp [plain] at hp
  | .ty _, _, _, hp, _, _, _ => by simp [plain] at hp
  | .cls _, _, _, hp, _, _, _ => by simp [plain] at hp
  | .ref _, _, _, hp, _, _, _ => by simp [plain] at hp
  | .loc _, _, _, hp, _, _, _ => by simp [plain] at hp
theorem eq_selfs (hK : X.K = T.K) (I : Inv X pins σ H s) : ∀ (ds es : List D) {vs : List V}, plains ds = true → plains es = true → Reps T ⟨H, ad⟩ ds vs → Reps T ⟨H, ad⟩ es vs → eqDs ds es = true
  | [], es, vs, _, _, h1, h2 => by
    simp only [Reps] at h1
    subst h1
    cases es with
    | nil => rfl
    | cons e es =>
      simp only [Reps] at h2
      obtain ⟨_, _, z, _⟩ := h2
      cases z
  | d :: ds, es, vs, hp, he, h1, h2 => by
    simp only [Reps] at h1
    obtain ⟨v, r, rfl, h3, h4⟩ := h1
    cases es with
    | nil =>
      simp only [Reps] at h2
      cases h2
    | cons e es =>
      simp only [Reps] at h2
      obtain ⟨v', r', z, h5, h6⟩ := h2
      cases z
      simp only [plains, Bool.and_eq_true] at hp he
      simp only [eqDs, Bool.and_eq_true]
      exact ⟨eq_self hK I d e hp.1 he.1 h3 h5, eq_selfs hK I ds es hp.2 he.2 h4 h6⟩
end
mutual
theorem eq_at (hK : X.K = T.K) (I : Inv X pins σ H s) : ∀ (d e : D) (n : Nat) (A : Around) {v v' : V} {u u' : Value}, A.units + n < cLine → dep d ≤ n → plain d = true → plain e = true → Rep T ⟨H, ad⟩ d v → Rep T ⟨H, ad⟩ e v' → RelV v u → RelV v' u' → SeqAt.EqAt A s u u' (eqD d e)
  | .tup xs, e, n, A, v, v', u, u', hu, hn, hp, he, h1, h2, r1, r2 => by
    have h1' := h1
    simp only [Rep] at h1
    obtain ⟨a, vs, rfl, hq, hr⟩ := h1
    cases r1
    obtain ⟨its, rv, ht, _⟩ := Inv.tupleR hK I hq
    have ht' : s.heap.IsTuple a its.toArray := ht
    have hu' : A.units < cLine := by omega
    cases e with
    | non => simp only [Rep] at h2; subst h2; cases r2; exact SeqAt.EqAt.tuple_none ht' hu'
    | bl b => simp only [Rep] at h2; subst h2; cases r2; exact SeqAt.EqAt.tuple_bool _ ht' hu'
    | int i => simp only [Rep] at h2; subst h2; obtain ⟨t, rfl⟩ := r2; exact SeqAt.EqAt.tuple_int _ _ ht' hu'
    | str i => simp only [Rep] at h2; subst h2; obtain ⟨t, rfl⟩ := r2; exact SeqAt.EqAt.tuple_str _ _ ht' hu'
    | lst ys =>
      simp only [Rep] at h2
      obtain ⟨b, ws, rfl, hq', hr'⟩ := h2
      cases r2
      obtain ⟨its', m, _, _, _, ho'⟩ := listR I hq'
      exact SeqAt.EqAt.tuple_list ht' (isList_of ho') hu'
    | tup ys =>
      have h2' := h2
      simp only [Rep] at h2
      obtain ⟨b, ws, rfl, hq', hr'⟩ := h2
      cases r2
      by_cases hab : a = b
      · subst hab
        rw [eq_self hK I (.tup xs) (.tup ys) hp he h1' h2']
        exact SeqAt.EqAt.same _
      · obtain ⟨its', rv', ht2, _⟩ := Inv.tupleR hK I hq'
        have e0 := all_range_eqDs xs ys (fun j => eqD (xs.getD j .non) (ys.getD j .non)) fun j a b e1 e2 => by simp [List.getD, e1, e2]
        have l1 : its.toArray.size = xs.length := by rw [List.size_toArray, ← rv.length, hr.length]
        have l2 : its'.toArray.size = ys.length := by rw [List.size_toArray, ← rv'.length, hr'.length]
        have hn' : deps xs + 1 ≤ n := by simpa [dep] using hn
        have key := SeqAt.RcAt.tuples (A := A) (s := s) (e := fun j => eqD (xs.getD j .non) (ys.getD j .non)) ht' (show s.heap.IsTuple b its'.toArray from ht2) hu' fun j z1 z2 => by
          have z1' : j < its.length := by simpa using z1
          have z2' : j < its'.length := by simpa using z2
          exact eq_ats hK I xs ys (n - 1) A.in1 (by show A.units + 1 + (n - 1) < cLine; omega) (by omega) (by simpa [plain] using hp) (by simpa [plain] using he) hr hr' rv rv' j (by simp [z1']) (by simp [z2'])
        rw [l1, l2, e0] at key
        exact SeqAt.EqAt.of_refs hab key
    | _ => simp [plain] at he
  | .lst xs, e, n, A, v, v', u, u', hu, hn, hp, he, h1, h2, r1, r2 => by
    have h1' := h1
    simp only [Rep] at h1
    obtain ⟨a, vs, rfl, hq, hr⟩ := h1
    cases r1
    obtain ⟨its, m, rv, _, _, ho⟩ := listR I hq
    have ht' : s.heap.IsList a its.toArray := isList_of ho
    have hu' : A.units < cLine := by omega
    cases e with
    | non => simp only [Rep] at h2; subst h2; cases r2; exact SeqAt.EqAt.list_none ht' hu'
    | bl b => simp only [Rep] at h2; subst h2; cases r2; exact SeqAt.EqAt.list_bool _ ht' hu'
    | int i => simp only [Rep] at h2; subst h2; obtain ⟨t, rfl⟩ := r2; exact SeqAt.EqAt.list_int _ _ ht' hu'
    | str i => simp only [Rep] at h2; subst h2; obtain ⟨t, rfl⟩ := r2; exact SeqAt.EqAt.list_str _ _ ht' hu'
    | tup ys =>
      simp only [Rep] at h2
      obtain ⟨b, ws, rfl, hq', hr'⟩ := h2
      cases r2
      obtain ⟨its', _, ht2, _⟩ := Inv.tupleR hK I hq'
      exact SeqAt.EqAt.list_tuple ht' (show s.heap.IsTuple b its'.toArray from ht2) hu'
    | lst ys =>
      have h2' := h2
      simp only [Rep] at h2
      obtain ⟨b, ws, rfl, hq', hr'⟩ := h2
      cases r2
      by_cases hab : a = b
      · subst hab
        rw [eq_self hK I (.lst xs) (.lst ys) hp he h1' h2']
        exact SeqAt.EqAt.same _
      · obtain ⟨its', m', rv', _, _, ho'⟩ := listR I hq'
        have ht2 : s.heap.IsList b its'.toArray := isList_of ho'
        have l1 : its.toArray.size = xs.length := by rw [List.size_toArray, ← rv.length, hr.length]
        have l2 : its'.toArray.size = ys.length := by rw [List.size_toArray, ← rv'.length, hr'.length]
        have hn' : deps xs + 1 ≤ n := by simpa [dep] using hn
        by_cases hl : xs.length = ys.length
        · have e0 := all_range_eqDs' xs ys (fun j => eqD (xs.getD j .non) (ys.getD j .non)) hl fun j a b e1 e2 => by simp [List.getD, e1, e2]
          have key := SeqAt.RcAt.lists (A := A) (s := s) (e := fun j => eqD (xs.getD j .non) (ys.getD j .non)) ht' ht2 (by omega) hu' fun j z1 z2 => by
            have z1' : j < its.length := by simpa using z1
            have z2' : j < its'.length := by simpa using z2
            exact eq_ats hK I xs ys (n - 1) A.in1 (by show A.units + 1 + (n - 1) < cLine; omega) (by omega) (by simpa [plain] using hp) (by simpa [plain] using he) hr hr' rv rv' j (by simp [z1']) (by simp [z2'])
          rw [l1, e0] at key
          exact SeqAt.EqAt.of_refs hab key
        · have e1 : eqD (.lst xs) (.lst ys) = false := by simp only [eqD]; exact eqDs_len hl
          rw [e1]
          exact SeqAt.EqAt.of_refs hab (SeqAt.RcAt.lists_lengths ht' ht2 (by rw [l1, l2]; simpa using hl) hu')
    | _ => simp [plain] at he
  | .non, e, n, A, v, v', u, u', hu, hn, hp, he, h1, h2, r1, r2 => by
    simp only [Rep] at h1
    subst h1
    cases r1
    have hu' : A.units < cLine := by omega
    cases e with
    | non => simp only [Rep] at h2; subst h2; cases r2; exact SeqAt.EqAt.same _
    | bl b => simp only [Rep] at h2; subst h2; cases r2; exact SeqAt.EqAt.none_bool _
    | int i => simp only [Rep] at h2; subst h2; obtain ⟨t, rfl⟩ := r2; exact SeqAt.EqAt.none_int _ _
    | str i => simp only [Rep] at h2; subst h2; obtain ⟨t, rfl⟩ := r2; exact SeqAt.EqAt.none_str _ _
    | tup ys => simp only [Rep] at h2; obtain ⟨b, ws, rfl, hq', _⟩ := h2; cases r2; obtain ⟨_, _, ht2, _⟩ := Inv.tupleR hK I hq'; exact SeqAt.EqAt.none_tuple ht2 hu'
    | lst ys => simp only [Rep] at h2; obtain ⟨b, ws, rfl, hq', _⟩ := h2; cases r2; obtain ⟨_, _, _, _, _, ho'⟩ := listR I hq'; exact SeqAt.EqAt.none_list (isList_of ho') hu'
    | _ => simp [plain] at he
  | .bl c, e, n, A, v, v', u, u', hu, hn, hp, he, h1, h2, r1, r2 => by
    simp only [Rep] at h1
    subst h1
    cases r1
    have hu' : A.units < cLine := by omega
    cases e with
    | non => simp only [Rep] at h2; subst h2; cases r2; exact SeqAt.EqAt.bool_none _
    | bl b => simp only [Rep] at h2; subst h2; cases r2; exact SeqAt.EqAt.bool_bool _ _
    | int i =>
      simp only [Rep] at h2; subst h2; obtain ⟨t, rfl⟩ := r2
      have q := SeqAt.EqAt.bool_int (A := A) (s := s) c i t
      rw [Bool.beq_eq_decide_eq] at q
      exact q
    | str i => simp only [Rep] at h2; subst h2; obtain ⟨t, rfl⟩ := r2; exact SeqAt.EqAt.bool_str _ _ _
    | tup ys => simp only [Rep] at h2; obtain ⟨b, ws, rfl, hq', _⟩ := h2; cases r2; obtain ⟨_, _, ht2, _⟩ := Inv.tupleR hK I hq'; exact SeqAt.EqAt.bool_tuple _ ht2 hu'
    | lst ys => simp only [Rep] at h2; obtain ⟨b, ws, rfl, hq', _⟩ := h2; cases r2; obtain ⟨_, _, _, _, _, ho'⟩ := listR I hq'; exact SeqAt.EqAt.bool_list _ (isList_of ho') hu'
    | _ => simp [plain] at he
  | .int c, e, n, A, v, v', u, u', hu, hn, hp, he, h1, h2, r1, r2 => by
    simp only [Rep] at h1
    subst h1
    obtain ⟨tc, rfl⟩ := r1
    have hu' : A.units < cLine := by omega
    cases e with
    | non => simp only [Rep] at h2; subst h2; cases r2; exact SeqAt.EqAt.int_none _ _
    | bl b =>
      simp only [Rep] at h2; subst h2; cases r2
      have q := SeqAt.EqAt.int_bool (A := A) (s := s) c tc b
      rw [Bool.beq_eq_decide_eq] at q
      exact q
    | int i =>
      simp only [Rep] at h2; subst h2; obtain ⟨t, rfl⟩ := r2
      have q := SeqAt.EqAt.int_int (A := A) (s := s) c tc i t
      rw [Bool.beq_eq_decide_eq] at q
      exact q
    | str i => simp only [Rep] at h2; subst h2; obtain ⟨t, rfl⟩ := r2; exact SeqAt.EqAt.int_str _ _ _ _
    | tup ys => simp only [Rep] at h2; obtain ⟨b, ws, rfl, hq', _⟩ := h2; cases r2; obtain ⟨_, _, ht2, _⟩ := Inv.tupleR hK I hq'; exact SeqAt.EqAt.int_tuple _ _ ht2 hu'
    | lst ys => simp only [Rep] at h2; obtain ⟨b, ws, rfl, hq', _⟩ := h2; cases r2; obtain ⟨_, _, _, _, _, ho'⟩ := listR I hq'; exact SeqAt.EqAt.int_list _ _ (isList_of ho') hu'
    | _ => simp [plain] at he
  | .str c, e, n, A, v, v', u, u', hu, hn, hp, he, h1, h2, r1, r2 => by
    simp only [Rep] at h1
    subst h1
    obtain ⟨tc, rfl⟩ := r1
    have hu' : A.units < cLine := by omega
    cases e with
    | non => simp only [Rep] at h2; subst h2; cases r2; exact SeqAt.EqAt.str_none _ _
    | bl b => simp only [Rep] at h2; subst h2; cases r2; exact SeqAt.EqAt.str_bool _ _ _
    | int i => simp only [Rep] at h2; subst h2; obtain ⟨t, rfl⟩ := r2; exact SeqAt.EqAt.str_int _ _ _ _
    | str i =>
      simp only [Rep] at h2; subst h2; obtain ⟨t, rfl⟩ := r2
      have q := SeqAt.EqAt.str_str (A := A) (s := s) c tc i t
      rw [Bool.beq_eq_decide_eq] at q
      exact q
    | tup ys => simp only [Rep] at h2; obtain ⟨b, ws, rfl, hq', _⟩ := h2; cases r2; obtain ⟨_, _, ht2, _⟩ := Inv.tupleR hK I hq'; exact SeqAt.EqAt.str_tuple _ _ ht2 hu'
    | lst ys => simp only [Rep] at h2; obtain ⟨b, ws, rfl, hq', _⟩ := h2; cases r2; obtain ⟨_, _, _, _, _, ho'⟩ := listR I hq'; exact SeqAt.EqAt.str_list _ _ (isList_of ho') hu'
    | _ => simp [plain] at he
  | .nl _, _, _, _, _, _, _, _, _, _, hp, _, _, _, _, _ => by simp [plain] at hp
  | .dic _ _, _, _, _, _, _, _, _, _, _, hp, _, _, _, _, _ => by simp [plain] at hp
  | .nd _ _, _, _, _, _, _, _, _, _, _, hp, _, _, _, _, _ => by simp [plain] at hp
  | .obj _ _, _, _, _, _, _, _, _, _, _, hp, _, _, _, _, _ => by simp [plain] at hp
  | .ins _ _ _, _, _, _, _, _, _, _, _, _, hp, _, _, _, _, _ => by simp [plain] at hp
  | .fn _, _, _, _, _, _, _, _, _, _, hp, _, _, _, _, _ => by simp [plain] at hp
  | .ty _, _, _, _, _, _, _, _, _, _, hp, _, _, _, _, _ => by simp [plain] at hp
  | .cls _, _, _, _, _, _, _, _, _, _, hp, _, _, _, _, _ => by simp [plain] at hp
  | .ref _, _, _, _, _, _, _, _, _, _, hp, _, _, _, _, _ => by simp [plain] at hp
  | .loc _, _, _, _, _, _, _, _, _, _, hp, _, _, _, _, _ => by simp [plain] at hp
theorem eq_ats (hK : X.K = T.K) (I : Inv X pins σ H s) : ∀ (ds es : List D) (n : Nat) (A : Around) {vs vs' : List V} {us us' : List Value}, A.units + n < cLine → deps ds ≤ n → plains ds = true → plains es = true → Reps T ⟨H, ad⟩ ds vs → Reps T ⟨H, ad⟩ es vs' → Vals vs us → Vals vs' us' →
    ∀ (j : Nat) {u u' : Value}, us[j]? = some u → us'[j]? = some u' → SeqAt.EqAt A s u u' (eqD (ds.getD j .non) (es.getD j .non))
  | [], es, n, A, vs, vs', us, us', _, _, _, _, h1, h2, r1, r2, j, u, u', e1, e2 => by
    simp only [Reps] at h1
    subst h1
    cases r1
    simp at e1
  | d :: ds, [], n, A, vs, vs', us, us', _, _, _, _, h1, h2, r1, r2, j, u, u', e1, e2 => by
    simp only [Reps] at h2
    subst h2
    cases r2
    simp at e2
  | d :: ds, e :: es, n, A, vs, vs', us, us', hu, hn, hp, he, h1, h2, r1, r2, j, u, u', e1, e2 => by
    simp only [Reps] at h1 h2
    obtain ⟨v, t, rfl, h3, h4⟩ := h1
    obtain ⟨v', t', rfl, h5, h6⟩ := h2
    simp only [plains, Bool.and_eq_true] at hp he
    simp only [deps] at hn
    cases r1 with
    | cons q1 q2 =>
      cases r2 with
      | cons q3 q4 =>
        cases j with
        | zero =>
          simp at e1 e2
          subst e1 e2
          exact eq_at hK I d e n A hu (by omega) hp.1 he.1 h3 h5 q1 q3
        | succ j =>
          simp at e1 e2
          exact eq_ats hK I ds es n A hu (by omega) hp.2 he.2 h4 h6 q2 q4 j e1 e2
end
end
end PM
end

section
set_option Elab.async false
set_option linter.all false
set_option maxRecDepth 100000
/-! PmV: operators upon what is seen. -/
namespace PM
open PySem L2 PyProof.Rows
structure Step (W : Wd) (H : Hp) (W' : Wd) (H' : Hp) : Prop where
  le : Same W.F W'.F
  ad : W'.ad = W.ad
  sub : Same W'.F H'
  same : Same H H'
  new : ∀ a, W'.F a ≠ none → W.F a ≠ none ∨ H a = none
theorem Step.refl {W : Wd} {H : Hp} (h : Same W.F H) : Step W H W H := ⟨Same.refl _, rfl, h, Same.refl _, fun _ z => .inl z⟩
theorem Step.toLe {W W' : Wd} {H H' : Hp} (s : Step W H W' H') : Le W W' := ⟨s.le, s.ad ▸ List.prefix_refl _⟩
def ResN (T : Tb) (W : Wd) (H : Hp) (W' : Wd) (H' : Hp) (d : D) (v : V) : Prop := match d with
  | .nl xs => ∃ a vs, v = .ref a ∧ H a = none ∧ H' a = some (.lst vs) ∧ W'.F a = none ∧ Reps T W' xs vs
  | .loc _ => False
  | d => Rep T W' d v
def Out (T : Tb) (W : Wd) (H : Hp) (d : D) (Q : VK) : Prop := ∀ W' v H', Step W H W' H' → ResN T W H W' H' d v → Q v H'
section
variable {T : Tb} {W W' : Wd} {H H' : Hp} {Q : VK} {B : Bs} {S : PS} {σ : L2.St}
theorem Out.val {d : D} {v : V} (q : Out T W H d Q) (hs : Same W.F H) (r : Rep T W d v) : Q v H := by
  refine q W v H (Step.refl hs) ?_
  cases d <;> first | exact r | (simp only [Rep] at r)
theorem Out.int {i : Int} (q : Out T W H (.int i) Q) (hs : Same W.F H) : Q (.int i) H := q.val hs (by simp only [Rep])
theorem Out.bl {i : Bool} (q : Out T W H (.bl i) Q) (hs : Same W.F H) : Q (.bl i) H := q.val hs (by simp only [Rep])
theorem Out.str {i : PySem.Str} (q : Out T W H (.str i) Q) (hs : Same W.F H) : Q (.str i) H := q.val hs (by simp only [Rep])
theorem Out.newL {xs : List D} {vs : List V} {p : Addr} (q : Out T W H (.nl xs) Q) (hs : Same W.F H) (r : Reps T W xs vs) (hp : H p = none) : Q (.ref p) (upd H p (.lst vs)) := by
  have hF : W.F p = none := by
    cases e : W.F p with
    | none => rfl
    | some o => rw [hs _ _ e] at hp; cases hp
  exact q W _ _ ⟨Same.refl _, rfl, fun b o e => by rw [upd_ne (ne_of_none e hF)]; exact hs b o e, same_upd hp, fun _ z => .inl z⟩ ⟨p, vs, rfl, hp, upd_same, hF, r⟩
theorem Out.newT {xs : List D} {vs : List V} {p : Addr} (q : Out T W H (.tup xs) Q) (hs : Same W.F H) (r : Reps T W xs vs) (hp : H p = none) : Q (.ref p) (upd H p (.tup vs)) := by
  have hF : W.F p = none := by
    cases e : W.F p with
    | none => rfl
    | some o => rw [hs _ _ e] at hp; cases hp
  have l : Le W ⟨upd W.F p (.tup vs), W.ad⟩ := Le.of_same (same_upd hF)
  refine q ⟨upd W.F p (.tup vs), W.ad⟩ _ _ ⟨same_upd hF, rfl, ?_, same_upd hp, fun b hb => ?_⟩ ?_
  · exact upd_sub (fun b o e => by rw [upd_ne (ne_of_none e hF)]; exact hs b o e) upd_same
  · by_cases e : b = p
    · subst e
      exact .inr hp
    · rw [show (⟨upd W.F p (.tup vs), W.ad⟩ : Wd).F b = W.F b from upd_ne e] at hb
      exact .inl hb
  · show Rep T _ (.tup xs) _
    simp only [Rep]
    exact ⟨p, vs, rfl, SqT.of upd_same, Reps.mono l _ r⟩
/-- a state behind such a step -/
theorem Rel.step (I : Rel T B W S σ H) (s : Step W H W' H') : Rel T B W' S σ H' := by
  have J := I.grow s.same
  have ha : ∀ a, H a = none → a ∉ W.ad ∧ B.H a = none ∧ ∀ i, ¬ Own S.L σ i a := fun a h => by
    have h1 : a ∉ W.ad := fun hm => by
      obtain ⟨n, hn⟩ := List.getElem?_of_mem hm
      have hl : n < S.C.length := by rw [← I.adl]; exact (List.getElem?_eq_some_iff.mp hn).1
      obtain ⟨_, ok⟩ := I.cells n a _ hn (List.getElem?_eq_getElem hl)
      cases hc : S.C[n] <;> rw [hc] at ok <;> first
        | (obtain ⟨vs, e, _⟩ := ok; rw [e] at h; cases h; done)
        | (obtain ⟨_, _, _, e, _⟩ := ok; rw [e] at h; cases h; done)
        | exact ok.elim
    refine ⟨h1, ?_, fun i hi => ?_⟩
    · cases e : B.H a with
      | none => rfl
      | some o =>
        have := I.fr1 a o e fun hm => h1 (List.IsPrefix.subset I.le.2 hm)
        rw [h] at this
        cases this
    · obtain ⟨⟨xs, h2⟩, h3⟩ := hi
      obtain ⟨v, e1, a', vs, e2, e3, _⟩ := I.slots i _ h2
      rw [h3] at e1
      cases e1
      cases e2
      rw [h] at e3
      cases e3
  have e : (⟨W'.F, W.ad⟩ : Wd) = W' := by
    cases W'
    have := s.ad
    simp only at this
    subst this
    rfl
  rw [← e]
  exact J.freeze s.le s.sub fun a hn => by
    rcases s.new a hn with z | z
    · exact .inl z
    · exact .inr (ha a z)
theorem Rel.resN {d : D} {v : V} (I : Rel T B W S σ H) (s : Step W H W' H') (r : ResN T W H W' H' d v) : Res T B W' S σ H' d v := by
  cases d with
  | nl xs =>
    obtain ⟨a, vs, e, h0, h1, h2, h3⟩ := r
    have J := I.step s
    have h1' : a ∉ W.ad := fun hm => by
      obtain ⟨n, hn⟩ := List.getElem?_of_mem hm
      have hl : n < S.C.length := by rw [← I.adl]; exact (List.getElem?_eq_some_iff.mp hn).1
      obtain ⟨_, ok⟩ := I.cells n a _ hn (List.getElem?_eq_getElem hl)
      cases hc : S.C[n] <;> rw [hc] at ok <;> first
        | (obtain ⟨vs, e, _⟩ := ok; rw [e] at h0; cases h0; done)
        | (obtain ⟨_, _, _, e, _⟩ := ok; rw [e] at h0; cases h0; done)
        | exact ok.elim
    refine ⟨a, vs, e, h1, h2, h3, s.ad ▸ h1', ?_, fun i hi => ?_⟩
    · cases e : B.H a with
      | none => rfl
      | some o =>
        have := I.fr1 a o e fun hm => h1' (List.IsPrefix.subset I.le.2 hm)
        rw [h0] at this
        cases this
    · obtain ⟨⟨xs, h2⟩, h3⟩ := hi
      obtain ⟨v, e1, a', vs, e2, e3, _⟩ := I.slots i _ h2
      rw [h3] at e1
      cases e1
      cases e2
      rw [h0] at e3
      cases e3
  | loc i => exact r.elim
  | _ => exact r
end

/-! ### two-place operators -/
def RB (T : Tb) (op : Op) : R2 := fun x y H Q => ∃ W dx dy d, Same W.F H ∧ Vw T W H dx x ∧ Vw T W H dy y ∧ binD op dx dy = some d ∧ Out T W H d Q
section
variable {T : Tb} {X : Cx} {W : Wd} {H : Hp} {v : V}
theorem vw_int {i : Int} (h : Vw T W H (.int i) v) : v = .int i := by simpa only [Vw, Rep] using h
theorem vw_bl {i : Bool} (h : Vw T W H (.bl i) v) : v = .bl i := by simpa only [Vw, Rep] using h
theorem vw_str {i : PySem.Str} (h : Vw T W H (.str i) v) : v = .str i := by simpa only [Vw, Rep] using h
theorem vw_tup {xs : List D} (h : Vw T W H (.tup xs) v) : ∃ a vs, v = .ref a ∧ SqT T.K W.F a vs ∧ Reps T W xs vs := by simpa only [Vw, Rep] using h
theorem lim_line : LIM < sizeLine := by rw [LIM_eq]; decide
theorem cat_lists {l b : Addr} {xs zs : List V} {pins : List (Addr × Obj)} {s : Shared} {σ : L2.St} {Q : VK} (I : Inv X pins σ H s) (h1 : Rd H l (.lst xs)) (h2 : Rd H b (.lst zs)) (hz : xs.length + zs.length ≤ sizeLine) (q : ∀ p, H p = none → Q (.ref p) (upd H p (.lst (xs ++ zs)))) :
    wpAny (model X.prog X.w) X.A (binaryOp .Add (.ref l) (.ref b)) (EP X pins σ Q) X.xe s := by
  obtain ⟨its, n, r, hl, _, e⟩ := listR I h1
  obtain ⟨its2, n2, r2, hl2, _, e2⟩ := listR I h2
  refine PySem.P.add_list e e2 ?_ (by rw [List.size_toArray, List.size_toArray]; omega)
  have ea : its.toArray ++ its2.toArray = (its ++ its2).toArray := List.append_toArray ..
  rw [ea]
  have J := I.lnew (t' := s.toks) (r.append r2) (by rw [List.length_append]; exact hz)
  exact ⟨.ref s.heap.objs.size, _, J, rfl, q _ I.fresh⟩
theorem ob_add (hK : X.K = T.K) : OpR X (binaryOp .Add) (RB T .add) := by
  intro pins s σ H x y v u Q I rx ry h
  obtain ⟨W, dx, dy, d, hs, hx, hy, e, q⟩ := h
  replace e : addD dx dy = some d := e
  unfold addD at e
  split at e
  · cases e
    cases vw_int hx
    cases vw_int hy
    exact op_add pins s σ H _ _ v u Q I rx ry ⟨_, _, rfl, rfl, q.int hs⟩
  · cases vw_str hx
    cases vw_str hy
    split at e
    · cases e
      rename_i hl
      exact op_add_str pins s σ H _ _ v u Q I rx ry ⟨_, _, rfl, rfl, Nat.le_of_lt (Nat.lt_trans hl lim_line), q.str hs⟩
    · cases e
  · obtain ⟨a, vs, rfl, h1, h2⟩ := vw_tup hx
    obtain ⟨b, ws, rfl, h3, h4⟩ := vw_tup hy
    split at e
    · cases e
      rename_i hl
      have l1 := h2.length
      have l2 := h4.length
      refine op_catA pins s σ H _ _ v u Q I rx ry ⟨a, b, vs, ws, rfl, rfl, hK ▸ sqT_mono hs h1, hK ▸ sqT_mono hs h3, ?_, fun z => ?_, fun z1 z2 => ?_, fun z1 z2 p hp => ?_⟩
      · have := lim_line
        omega
      · subst z
        have : ∀ ds, Reps T W ds [] → ds = [] := fun ds h => List.eq_nil_of_length_eq_zero h.length
        rw [this _ h2, List.nil_append] at q
        exact q.val hs (by simp only [Rep]; exact ⟨b, ws, rfl, h3, h4⟩)
      · subst z2
        have : ∀ ds, Reps T W ds [] → ds = [] := fun ds h => List.eq_nil_of_length_eq_zero h.length
        rw [this _ h4, List.append_nil] at q
        exact q.val hs (by simp only [Rep]; exact ⟨a, vs, rfl, h1, h2⟩)
      · exact q.newT hs (h2.append h4) hp
    · cases e
  · obtain ⟨a, vs, rfl, h1, h2⟩ := hx
    obtain ⟨b, ws, rfl, h3, h4⟩ := hy
    split at e
    · cases e
      rename_i hl
      have l1 := h2.length
      have l2 := h4.length
      cases rx
      cases ry
      exact cat_lists I h1 h3 (by have := lim_line; omega) fun p hp => q.newL hs (h2.append h4) hp
    · cases e
  · cases e
theorem ob_sub : OpR X (binaryOp .Sub) (RB T .sub) := by
  intro pins s σ H x y v u Q I rx ry h
  obtain ⟨W, dx, dy, d, hs, hx, hy, e, q⟩ := h
  replace e : subD dx dy = some d := e
  unfold subD at e
  split at e
  · cases e
    cases vw_int hx
    cases vw_int hy
    exact op_sub pins s σ H _ _ v u Q I rx ry ⟨_, _, rfl, rfl, q.int hs⟩
  · cases e
    cases vw_bl hx
    cases vw_bl hy
    cases rx
    cases ry
    exact PyProof.Rows.sub_bool ⟨.int _, H, I.tok _, ⟨_, rfl⟩, q.int hs⟩
  · cases e
theorem ob_fdiv : OpR X (binaryOp .FloorDiv) (RB T .fdiv) := by
  intro pins s σ H x y v u Q I rx ry h
  obtain ⟨W, dx, dy, d, hs, hx, hy, e, q⟩ := h
  replace e : fdivD dx dy = some d := e
  unfold fdivD at e
  split at e
  · split at e
    · cases e
      rename_i hc
      have hc' := of_decide_eq_true hc
      cases vw_int hx
      cases vw_int hy
      exact op_fdivN pins s σ H _ _ v u Q I rx ry ⟨_, _, rfl, rfl, hc', q.int hs⟩
    · cases e
  · cases e
theorem ob_mod : OpR X (binaryOp .Mod) (RB T .mod) := by
  intro pins s σ H x y v u Q I rx ry h
  obtain ⟨W, dx, dy, d, hs, hx, hy, e, q⟩ := h
  replace e : modD dx dy = some d := e
  unfold modD at e
  split at e
  · split at e
    · cases e
      rename_i hc
      have hc' := of_decide_eq_true hc
      cases vw_int hx
      cases vw_int hy
      exact op_modN pins s σ H _ _ v u Q I rx ry ⟨_, _, rfl, rfl, hc', q.int hs⟩
    · cases e
  · cases e
theorem ob_pow : OpR X (binaryOp .Pow) (RB T .pow) := by
  intro pins s σ H x y v u Q I rx ry h
  obtain ⟨W, dx, dy, d, hs, hx, hy, e, q⟩ := h
  replace e : powD dx dy = some d := e
  unfold powD at e
  split at e
  · split at e
    · cases e
      rename_i hc
      have hc' := of_decide_eq_true hc
      cases vw_int hx
      cases vw_int hy
      exact op_pow pins s σ H _ _ v u Q I rx ry ⟨_, _, rfl, rfl, hc', q.int hs⟩
    · cases e
  · cases e
theorem log2_lt_of {n k : Nat} (h : n < 2 ^ k) (hk : 0 < k) : n.log2 < k := by
  by_cases hn : n = 0
  · subst hn
    simpa using hk
  · exact (Nat.log2_lt hn).mpr h
theorem Reps.rep {ds : List D} {vs : List V} (h : Reps T W ds vs) : ∀ n : Nat, Reps T W (List.replicate n ds).flatten (List.replicate n vs).flatten
  | 0 => by simpa using Reps.nil
  | n + 1 => by
    rw [List.replicate_succ, List.replicate_succ, List.flatten_cons, List.flatten_cons]
    exact h.append (Reps.rep h n)
theorem vals_rep {vs : List V} {us : List Value} (h : Vals vs us) : ∀ n : Nat, Vals (List.replicate n vs).flatten (List.replicate n us).flatten
  | 0 => .nil
  | n + 1 => by
    rw [List.replicate_succ, List.replicate_succ, List.flatten_cons, List.flatten_cons]
    exact h.append (vals_rep h n)
theorem len_rep {α : Type} (l : List α) : ∀ n : Nat, (List.replicate n l).flatten.length = n * l.length
  | 0 => by simp
  | n + 1 => by rw [List.replicate_succ, List.flatten_cons, List.length_append, len_rep l n, Nat.succ_mul]; omega
theorem rep_eq (its : List Value) (m : Nat) : List.foldl (fun x1 x2 => x1 ++ x2) #[] (List.replicate m its.toArray) = (List.replicate m its).flatten.toArray := by
  have := foldl_rep its m []
  rw [List.nil_append] at this
  exact this
theorem same_mulT (l : Addr) (items : Array Value) (n : Nat) (dd : Option Addr) (sl : Array (Option Value)) (x : Int) (u : Tok)
    (c0 : (decide (x < -(2 ^ 63)) || decide (x ≥ 2 ^ 63)) = false) (c1 : (items.isEmpty || x == 1) = true) :
    Meets (Builtin.«tuple.__mul__» ⟨[.ref l, .int x u], []⟩)
      (fun _ R s => s.heap.get? l = some { cls := .type "tuple", dict := dd, data := .seq items n, slots := sl } ∧ R (.ok (.ret (.ref l))) s) :=
  .of_wp fun prog w A R s h => by
    obtain ⟨hp, g, d, tk, os⟩ := s
    obtain ⟨hl, h⟩ := h
    have f1 := AutoSeq1.idx_int
    wp_walk using AutoSeq1.wpAny_loadPart' hl
    repeat (first
      | (refine wpAny_ite_false (decide_eq_false (by rw [c0]; exact Bool.false_ne_true)) ?_; wp_walk using AutoSeq1.wpAny_loadPart' hl)
      | (refine wpAny_ite_true (decide_eq_true c1) ?_; wp_walk using AutoSeq1.wpAny_loadPart' hl))
    exact ⟨_, rfl, h⟩
theorem none_mulT (l : Addr) (items : Array Value) (n : Nat) (dd : Option Addr) (sl : Array (Option Value)) (x : Int) (u : Tok)
    (c0 : (decide (x < -(2 ^ 63)) || decide (x ≥ 2 ^ 63)) = false) (c1 : (items.isEmpty || x == 1) = false) (c2 : (decide (x ≤ 0) || items.isEmpty) = true) :
    Meets (Builtin.«tuple.__mul__» ⟨[.ref l, .int x u], []⟩)
      (fun _ R s => s.heap.get? l = some { cls := .type "tuple", dict := dd, data := .seq items n, slots := sl } ∧
        R (.ok (.ret (.ref s.heap.objs.size))) { s with heap := s.heap.push { cls := .type "tuple", data := .seq #[] } }) :=
  .of_wp fun prog w A R s h => by
    obtain ⟨hp, g, d, tk, os⟩ := s
    obtain ⟨hl, h⟩ := h
    have f1 := AutoSeq1.idx_int
    wp_walk using AutoSeq1.wpAny_loadPart' hl
    repeat (first
      | (refine wpAny_ite_false (decide_eq_false (by rw [c0]; exact Bool.false_ne_true)) ?_; wp_walk using AutoSeq1.wpAny_loadPart' hl)
      | (refine wpAny_ite_false (decide_eq_false (by rw [c1]; exact Bool.false_ne_true)) ?_; wp_walk using AutoSeq1.wpAny_loadPart' hl)
      | (refine wpAny_ite_true (decide_eq_true c2) ?_; wp_walk using AutoSeq1.wpAny_loadPart' hl))
    exact ⟨_, rfl, h⟩
theorem fitI_of {k : Int} (h : fitI k = true) : -(2 ^ 62) < k ∧ k < 2 ^ 62 := (fitI_is _).mp h
theorem ob_mul (hK : X.K = T.K) : OpR X (binaryOp .Mult) (RB T .mul) := by
  intro pins s σ H x y v u Q I rx ry h
  obtain ⟨W, dx, dy, d, hs, hx, hy, e, q⟩ := h
  replace e : mulD dx dy = some d := e
  have lm : (LIM : Nat) = 16000000 := LIM_eq
  unfold mulD at e
  split at e
  · rename_i a b
    split at e
    · cases e
      rename_i hc
      cases vw_int hx
      cases vw_int hy
      simp only [Bool.or_eq_true, Bool.and_eq_true] at hc
      rcases hc with (hc | hc) | ⟨h1, h2⟩
      · exact op_mul pins s σ H _ _ v u Q I rx ry ⟨_, _, rfl, rfl, .inl ((fits_is _).mp hc), q.int hs⟩
      · exact op_mul pins s σ H _ _ v u Q I rx ry ⟨_, _, rfl, rfl, .inr ((fits_is _).mp hc), q.int hs⟩
      · have l1 := log2_lt_of ((big_iff _).mp h1) (by decide)
        have l2 := log2_lt_of ((big_iff _).mp h2) (by decide)
        exact op_mulW pins s σ H _ _ v u Q I rx ry ⟨_, _, rfl, rfl, (by show a.natAbs.log2 + b.natAbs.log2 < 1000000; omega), q.int hs⟩
    · cases e
  · rename_i ds k
    split at e
    · cases e
      rename_i hc
      simp only [Bool.and_eq_true, decide_eq_true_eq] at hc
      obtain ⟨hf, hz⟩ := hc
      have hf := fitI_of hf
      obtain ⟨l, xs, rfl, h1, h2⟩ := hx
      cases vw_int hy
      cases rx
      obtain ⟨t, rfl⟩ := ry
      obtain ⟨its, n, r, hl, _, ho⟩ := listR I h1
      have hl2 := h2.length
      have hlen : its.toArray.size * k.toNat ≤ 16000000 := by rw [List.size_toArray, ← hl, ← hl2]; omega
      have hsl := sizeLine_eq
      have hcap : ¬ its.toArray.size * k.toNat > (2 ^ 63 - 1) / 8 := by omega
      have hfit : ¬ (!Builtin.List.listFitsIndex k) = true := by
        rw [fitsIndex_both (by omega) (by omega)]
        exact Bool.false_ne_true
      have hlong : ¬ Builtin.List.listTooLong (its.toArray.size * k.toNat) = true := by
        rw [notLongL (by omega)]
        exact Bool.false_ne_true
      have hnew : List.foldl (fun x1 x2 => x1 ++ x2) #[] (List.replicate (if its.toArray.isEmpty = true then 0 else k.toNat) its.toArray) = (List.replicate k.toNat its).flatten.toArray := by
        rw [rep_eq]
        cases its with
        | nil => simp
        | cons a r' => rw [if_neg (by simp)]
      refine wpAny_binaryOp_repeat_ref (T := "list") (U := "int") (by decide) ⟨_, ho, rfl⟩ (fun s' => typeIs_int s' k t) noFill_list_mul F.fills_int_mul F.slot_int_rmul repeat_list F.slot_int_index.lookup
        (call_meets F.slot_int_rmul (typeIs_int s k t) F.entry_int_rmul (F.args_int_rmul_2 _ _) (int___rmul___int_list k t l its.toArray n)
          ⟨ho, rfl, ⟨_, ho, rfl⟩, call_meets F.slot_list_mul ⟨_, ho, rfl⟩ F.entry_list_mul (F.args_list_mul_2 _ _) (AutoListH.list___mul___list_int_3 l its.toArray n k t hfit hcap hlong) ⟨ho, ?_⟩⟩)
      rw [hnew]
      exact ⟨.ref s.heap.objs.size, _, I.lnew (t' := s.toks) (vals_rep r k.toNat) (by rw [len_rep, Nat.mul_comm, hl]; simpa using Nat.le_trans hlen (by omega)), rfl, q.newL hs (h2.rep k.toNat) I.fresh⟩
    · cases e
  · rename_i ds k
    split at e
    · cases e
      rename_i hc
      simp only [Bool.and_eq_true, decide_eq_true_eq] at hc
      obtain ⟨hf, hz⟩ := hc
      have hf := fitI_of hf
      obtain ⟨l, xs, rfl, h1, h2⟩ := vw_tup hx
      cases vw_int hy
      have rx' := rx
      cases rx
      obtain ⟨t, rfl⟩ := ry
      obtain ⟨its, r, ⟨⟨cls, dd, data, sl⟩, ho, hcl, n, hd⟩, _⟩ := Inv.tupleR hK I (sqT_mono hs h1)
      simp only at hcl hd
      subst hcl hd
      have hl := r.length
      have hl2 := h2.length
      have hsl := sizeLine_eq
      have hlen : its.toArray.size * k.toNat ≤ 16000000 := by rw [List.size_toArray, ← hl, ← hl2]; omega
      have c0 : (decide (k < -(2 ^ 63)) || decide (k ≥ 2 ^ 63)) = false := by
        rw [decide_eq_false (by omega), decide_eq_false (by omega)]
        rfl
      have go : ∀ {Q' : Value → Shared → Prop}, wpAny (model X.prog X.w) X.A (call (.builtin "tuple.__mul__") [.ref l, .int k t]) Q' X.xe s → wpAny (model X.prog X.w) X.A (binaryOp .Mult (.ref l) (.int k t)) Q' X.xe s := fun hcall =>
        wpAny_binaryOp_repeat_ref (T := "tuple") (U := "int") (by decide) ⟨_, ho, rfl⟩ (fun s' => typeIs_int s' k t) noFill_tuple_mul F.fills_int_mul F.slot_int_rmul repeat_tuple F.slot_int_index.lookup
          (call_meets F.slot_int_rmul (typeIs_int s k t) F.entry_int_rmul (F.args_int_rmul_2 _ _) (int_rmul_tuple k t l its.toArray n dd sl) ⟨ho, rfl, ⟨_, ho, rfl⟩, hcall⟩)
      by_cases c1 : (its.toArray.isEmpty || k == 1) = true
      · refine go (call_meets F.slot_tuple_mul ⟨_, ho, rfl⟩ F.entry_tuple_mul (F.args_tuple_mul_2 _ _) (same_mulT l its.toArray n dd sl k t c0 c1) ⟨ho, ?_⟩)
        have e2 : (List.replicate k.toNat ds).flatten = ds := by
          simp only [Bool.or_eq_true, beq_iff_eq] at c1
          rcases c1 with c | c
          · have : ds = [] := List.eq_nil_of_length_eq_zero (by
              rw [hl2, hl]
              simpa using c)
            subst this
            simp
          · subst c
            simp
        rw [e2] at q
        exact ⟨.ref l, H, I, rfl, q.val hs (by simp only [Rep]; exact ⟨l, xs, rfl, h1, h2⟩)⟩
      · have c1 : (its.toArray.isEmpty || k == 1) = false := by simpa using c1
        by_cases c2 : (decide (k ≤ 0) || its.toArray.isEmpty) = true
        · refine go (call_meets F.slot_tuple_mul ⟨_, ho, rfl⟩ F.entry_tuple_mul (F.args_tuple_mul_2 _ _) (none_mulT l its.toArray n dd sl k t c0 c1 c2) ⟨ho, ?_⟩)
          have e2 : (List.replicate k.toNat ds).flatten = [] := by
            simp only [Bool.or_eq_true, decide_eq_true_eq] at c2
            rcases c2 with c | c
            · have : k.toNat = 0 := by omega
              rw [this]
              rfl
            · rw [Bool.or_eq_false_iff] at c1
              rw [c] at c1
              cases c1.1
          rw [e2] at q
          exact ⟨.ref s.heap.objs.size, _, I.laid (t' := s.toks) (o := .tup []) (fun _ _ z => Heap.get?_push_of_some _ z) (Nat.le_refl _) ⟨Nat.zero_le _, [], .nil, IsTup.new _ _⟩, rfl, q.newT hs Reps.nil I.fresh⟩
        · have c2 : (decide (k ≤ 0) || its.toArray.isEmpty) = false := by simpa using c2
          have hk : 0 < k := by
            rw [Bool.or_eq_false_iff] at c2
            have := of_decide_eq_false c2.1
            omega
          have em : ((its.toArray.size : Nat) : Int) * k = ((its.toArray.size * k.toNat : Nat) : Int) := by
            rw [Int.natCast_mul, Int.toNat_of_nonneg (Int.le_of_lt hk)]
          have c4 : Builtin.Tuple.tupleTooMany (((its.toArray.size : Nat) : Int) * k) = false := by
            unfold Builtin.Tuple.tupleTooMany
            rw [sizeLine_eq]
            exact decide_eq_false (by omega)
          have flen : (List.replicate k.toNat its).flatten.length ≤ sizeLine := by
            rw [len_rep, Nat.mul_comm]
            simp only [List.size_toArray] at hlen
            omega
          refine go (call_meets F.slot_tuple_mul ⟨_, ho, rfl⟩ F.entry_tuple_mul (F.args_tuple_mul_2 _ _) (tuple_mulW l its.toArray n dd sl k t c0 c1 c2 (by omega) c4 (by rw [rep_eq, List.size_toArray]; exact flen)) ⟨ho, ?_⟩)
          rw [rep_eq]
          exact ⟨.ref s.heap.objs.size, _, I.laid (t' := s.toks) (o := .tup (List.replicate k.toNat xs).flatten) (fun _ _ z => Heap.get?_push_of_some _ z) (Nat.le_refl _) ⟨by rw [(vals_rep r k.toNat).length]; exact flen, _, vals_rep r k.toNat, IsTup.new _ _⟩, rfl, q.newT hs (h2.rep k.toNat) I.fresh⟩
    · cases e
  · cases e
end
end PM
end

section
set_option Elab.async false
set_option linter.all false
set_option maxRecDepth 100000
/-! PmW: comparisons upon what is seen. -/
namespace PM
open PySem L2 PyProof.Rows
def RC (T : Tb) (op : Cmp) : R2 := fun x y H Q => ∃ W dx dy b, Same W.F H ∧ Vw T W H dx x ∧ Vw T W H dy y ∧ cmpD op dx dy = some b ∧ Q (.bl b) H
section
variable {T : Tb} {X : Cx} {W : Wd} {H : Hp} {v : V}
/-- all that is frozen is there -/
theorem Vw.repH (hs : Same W.F H) {d : D} (h : Vw T W H d v) : Rep T ⟨H, W.ad⟩ d v := by
  have l : Le W ⟨H, W.ad⟩ := ⟨hs, List.prefix_refl _⟩
  cases d with
  | lst xs =>
    obtain ⟨a, vs, e, h1, h2⟩ := h
    simp only [Rep]
    exact ⟨a, vs, e, h1, Reps.mono l _ h2⟩
  | _ => exact Rep.mono l _ h
theorem okD_of {d : D} (h : okD d = true) : plain d = true ∧ dep d ≤ 50 := by
  unfold okD at h
  rw [Bool.and_eq_true] at h
  exact ⟨h.1, of_decide_eq_true h.2⟩
theorem eqD_atoms {a b : D} {x y : V} (h : sameSort a b = true) (ha : isAtom a = true) (hb : isAtom b = true) (h1 : Rep T W a x) (h2 : Rep T W b y) : scal x y = true ∧ decide (x = y) = eqD a b := by
  cases a <;> simp [isAtom] at ha <;> cases b <;> simp [isAtom] at hb <;> simp only [Rep] at h1 h2 <;> subst h1 <;> subst h2 <;> first
    | (refine ⟨rfl, ?_⟩; simp [eqD]; done)
    | (refine ⟨rfl, ?_⟩; simp [eqD, Bool.beq_eq_decide_eq]; done)
    | (simp [sameSort] at h; done)
theorem sort_cases {a b : D} (h : sameSort a b = true) : (isAtom a = true ∧ isAtom b = true) ∨ (∃ xs ys, a = .tup xs ∧ b = .tup ys) ∨ ∃ xs ys, a = .lst xs ∧ b = .lst ys := by
  cases a <;> cases b <;> simp [sameSort, isAtom] at h ⊢
/-- == and its not: the compare of the machine itself -/
theorem rc_eq (hK : X.K = T.K) (hu : X.A.units + 64 < cLine) {pins : List (Addr × Obj)} {s : Shared} {σ : L2.St} {x y : V} {u u' : Value} {a b : D} (I : Inv X pins σ H s) (hs : Same W.F H) (ha : Vw T W H a x) (hb : Vw T W H b y) (oa : okD a = true) (ob : okD b = true)
    (h : sameSort a b = true) (hn : ¬ (isAtom a = true ∧ isAtom b = true)) (r1 : RelV x u) (r2 : RelV y u') : SeqAt.RcAt X.A s u u' (eqD a b) ∧ SeqAt.RcNeAt X.A s u u' (!eqD a b) := by
  obtain ⟨pa, da⟩ := okD_of oa
  obtain ⟨pb, db⟩ := okD_of ob
  have ra := Vw.repH hs ha
  have rb := Vw.repH hs hb
  have hu' : X.A.units < cLine := by omega
  rcases sort_cases h with h | ⟨xs, ys, rfl, rfl⟩ | ⟨xs, ys, rfl, rfl⟩
  · exact absurd h hn
  · simp only [Rep] at ra rb
    obtain ⟨l, vs, rfl, hq, hr⟩ := ra
    obtain ⟨m, ws, rfl, hq', hr'⟩ := rb
    cases r1
    cases r2
    obtain ⟨its, rv, ht, _⟩ := Inv.tupleR hK I hq
    obtain ⟨its', rv', ht', _⟩ := Inv.tupleR hK I hq'
    have e0 := all_range_eqDs xs ys (fun j => eqD (xs.getD j .non) (ys.getD j .non)) fun j a b e1 e2 => by simp [List.getD, e1, e2]
    have l1 : its.toArray.size = xs.length := by rw [List.size_toArray, ← rv.length, hr.length]
    have l2 : its'.toArray.size = ys.length := by rw [List.size_toArray, ← rv'.length, hr'.length]
    have hn' : deps xs + 1 ≤ 50 := by simpa [dep] using da
    have he : ∀ j (z1 : j < its.toArray.size) (z2 : j < its'.toArray.size), SeqAt.EqAt X.A.in1 s its.toArray[j] its'.toArray[j] (eqD (xs.getD j .non) (ys.getD j .non)) := fun j z1 z2 => by
      have z1' : j < its.length := by simpa using z1
      have z2' : j < its'.length := by simpa using z2
      exact eq_ats hK I xs ys 49 X.A.in1 (by show X.A.units + 1 + 49 < cLine; omega) (by omega) (by simpa [plain] using pa) (by simpa [plain] using pb) hr hr' rv rv' j (by simp [z1']) (by simp [z2'])
    have key := SeqAt.RcAt.tuples (A := X.A) (s := s) (e := fun j => eqD (xs.getD j .non) (ys.getD j .non)) (show s.heap.IsTuple l its.toArray from ht) (show s.heap.IsTuple m its'.toArray from ht') hu' he
    have key2 := SeqAt.RcNeAt.tuples (A := X.A) (s := s) (e := fun j => eqD (xs.getD j .non) (ys.getD j .non)) (show s.heap.IsTuple l its.toArray from ht) (show s.heap.IsTuple m its'.toArray from ht') hu' he
    rw [l1, l2, e0] at key key2
    exact ⟨key, key2⟩
  · simp only [Rep] at ra rb
    obtain ⟨l, vs, rfl, hq, hr⟩ := ra
    obtain ⟨m, ws, rfl, hq', hr'⟩ := rb
    cases r1
    cases r2
    obtain ⟨its, n, rv, _, _, ho⟩ := listR I hq
    obtain ⟨its', n', rv', _, _, ho'⟩ := listR I hq'
    have l1 : its.toArray.size = xs.length := by rw [List.size_toArray, ← rv.length, hr.length]
    have l2 : its'.toArray.size = ys.length := by rw [List.size_toArray, ← rv'.length, hr'.length]
    have hn' : deps xs + 1 ≤ 50 := by simpa [dep] using da
    by_cases hl : xs.length = ys.length
    · have e0 := all_range_eqDs' xs ys (fun j => eqD (xs.getD j .non) (ys.getD j .non)) hl fun j a b e1 e2 => by simp [List.getD, e1, e2]
      have he : ∀ j (z1 : j < its.toArray.size) (z2 : j < its'.toArray.size), SeqAt.EqAt X.A.in1 s its.toArray[j] its'.toArray[j] (eqD (xs.getD j .non) (ys.getD j .non)) := fun j z1 z2 => by
        have z1' : j < its.length := by simpa using z1
        have z2' : j < its'.length := by simpa using z2
        exact eq_ats hK I xs ys 49 X.A.in1 (by show X.A.units + 1 + 49 < cLine; omega) (by omega) (by simpa [plain] using pa) (by simpa [plain] using pb) hr hr' rv rv' j (by simp [z1']) (by simp [z2'])
      have key := SeqAt.RcAt.lists (A := X.A) (s := s) (e := fun j => eqD (xs.getD j .non) (ys.getD j .non)) (isList_of ho) (isList_of ho') (by omega) hu' he
      have key2 := SeqAt.RcNeAt.lists (A := X.A) (s := s) (e := fun j => eqD (xs.getD j .non) (ys.getD j .non)) (isList_of ho) (isList_of ho') (by omega) hu' he
      rw [l1, e0] at key key2
      exact ⟨key, key2⟩
    · have e1 : eqD (.lst xs) (.lst ys) = false := by simp only [eqD]; exact eqDs_len hl
      rw [e1]
      exact ⟨SeqAt.RcAt.lists_lengths (isList_of ho) (isList_of ho') (by rw [l1, l2]; simpa using hl) hu', SeqAt.RcNeAt.lists_lengths (isList_of ho) (isList_of ho') (by rw [l1, l2]; simpa using hl) hu'⟩
theorem oc_eq (hK : X.K = T.K) (hu : X.A.units + 64 < cLine) : OpR X (compareOp .Eq) (RC T .eq) := by
  intro pins s σ H x y v u Q I rx ry h
  obtain ⟨W, a, b, c, hs, ha, hb, e, q⟩ := h
  simp only [cmpD] at e
  split at e
  · rename_i hc
    cases e
    simp only [Bool.and_eq_true] at hc
    obtain ⟨⟨oa, ob⟩, hc⟩ := hc
    by_cases hn : isAtom a = true ∧ isAtom b = true
    · obtain ⟨h1, h2⟩ := eqD_atoms hc hn.1 hn.2 (Vw.repH hs ha) (Vw.repH hs hb)
      exact op_eq pins s σ H x y v u Q I rx ry ⟨h1, by rw [h2]; exact q⟩
    · exact (rc_eq hK hu I hs ha hb oa ob hc hn rx ry).1 _ _ _ _ ⟨.bl _, H, I, rfl, q⟩
  · cases e
theorem oc_ne (hK : X.K = T.K) (hu : X.A.units + 64 < cLine) : OpR X (compareOp .NotEq) (RC T .ne) := by
  intro pins s σ H x y v u Q I rx ry h
  obtain ⟨W, a, b, c, hs, ha, hb, e, q⟩ := h
  simp only [cmpD] at e
  split at e
  · rename_i hc
    cases e
    simp only [Bool.and_eq_true] at hc
    obtain ⟨⟨oa, ob⟩, hc⟩ := hc
    by_cases hn : isAtom a = true ∧ isAtom b = true
    · obtain ⟨h1, h2⟩ := eqD_atoms hc hn.1 hn.2 (Vw.repH hs ha) (Vw.repH hs hb)
      exact op_ne pins s σ H x y v u Q I rx ry ⟨h1, by rw [h2]; exact q⟩
    · exact (rc_eq hK hu I hs ha hb oa ob hc hn rx ry).2 _ _ _ _ ⟨.bl _, H, I, rfl, q⟩
  · cases e
theorem oc_lt : OpR X (compareOp .Lt) (RC T .lt) := by
  intro pins s σ H x y v u Q I rx ry h
  obtain ⟨W, a, b, c, hs, ha, hb, e, q⟩ := h
  cases a <;> cases b <;> simp only [cmpD, Option.some.injEq, reduceCtorEq] at e
  · subst e
    cases vw_int ha
    cases vw_int hb
    exact op_lt pins s σ H _ _ v u Q I rx ry ⟨_, _, rfl, rfl, q⟩
  · subst e
    cases vw_str ha
    cases vw_str hb
    exact op_lt_str pins s σ H _ _ v u Q I rx ry ⟨_, _, rfl, rfl, q⟩
theorem oc_gt : OpR X (compareOp .Gt) (RC T .gt) := by
  intro pins s σ H x y v u Q I rx ry h
  obtain ⟨W, a, b, c, hs, ha, hb, e, q⟩ := h
  cases a <;> cases b <;> simp only [cmpD, Option.some.injEq, reduceCtorEq] at e
  subst e
  cases vw_int ha
  cases vw_int hb
  exact op_gt pins s σ H _ _ v u Q I rx ry ⟨_, _, rfl, rfl, q⟩
theorem oc_le : OpR X (compareOp .LtE) (RC T .le) := by
  intro pins s σ H x y v u Q I rx ry h
  obtain ⟨W, a, b, c, hs, ha, hb, e, q⟩ := h
  cases a <;> cases b <;> simp only [cmpD, Option.some.injEq, reduceCtorEq] at e
  subst e
  cases vw_int ha
  cases vw_int hb
  exact op_le pins s σ H _ _ v u Q I rx ry ⟨_, _, rfl, rfl, q⟩
theorem oc_ge : OpR X (compareOp .GtE) (RC T .ge) := by
  intro pins s σ H x y v u Q I rx ry h
  obtain ⟨W, a, b, c, hs, ha, hb, e, q⟩ := h
  cases a <;> cases b <;> simp only [cmpD, Option.some.injEq, reduceCtorEq] at e
  subst e
  cases vw_int ha
  cases vw_int hb
  exact op_ge pins s σ H _ _ v u Q I rx ry ⟨_, _, rfl, rfl, q⟩
/-- the items of a tuple or list, each with whether it is equal to a thing -/
theorem in_items (hK : X.K = T.K) (hu : X.A.units + 64 < cLine) {pins : List (Addr × Obj)} {s : Shared} {σ : L2.St} {ad : List Addr} {a : D} {xs : List D} {y : V} {u : Value} {vs : List V} {its : List Value} (I : Inv X pins σ H s) (ha : Rep T ⟨H, ad⟩ a y) (pa : plain a = true) (hr : Reps T ⟨H, ad⟩ xs vs) (px : plains xs = true) (dx : deps xs ≤ 50)
    (r1 : RelV y u) (rv : Vals vs its) : ∃ e : Value → Bool, (∀ z, z ∈ its.toArray → SeqAt.EqAt X.A.in1 s z u (e z)) ∧ its.toArray.any e = xs.any fun b => eqD b a := by
  have at_ : ∀ (j : Nat) (z : Value) (d : D), its[j]? = some z → xs[j]? = some d → SeqAt.EqAt X.A.in1 s z u (eqD d a) := fun j z d h1 h2 => by
    obtain ⟨w', e1, rw'⟩ := hr.get h2
    obtain ⟨z', e2, rz⟩ := rv.get e1
    rw [h1] at e2
    cases e2
    have pd : ∀ (l : List D), plains l = true → d ∈ l → plain d = true ∧ dep d ≤ deps l := fun l => by
      induction l with
      | nil => intro _ h; cases h
      | cons c l ih =>
        intro hp hm
        simp only [plains, Bool.and_eq_true] at hp
        simp only [deps]
        rcases List.mem_cons.mp hm with q | q
        · subst q
          exact ⟨hp.1, by omega⟩
        · have := ih hp.2 q
          exact ⟨this.1, by omega⟩
    obtain ⟨p1, p2⟩ := pd xs px (List.mem_of_getElem? h2)
    exact eq_at hK I d a 50 X.A.in1 (by show X.A.units + 1 + 50 < cLine; omega) (by omega) p1 pa rw' ha rz r1
  have hlen : its.length = xs.length := by rw [← rv.length, hr.length]
  classical
  refine ⟨fun z => decide (∃ (j : Nat) (d : D), its[j]? = some z ∧ xs[j]? = some d ∧ eqD d a = true), fun z hz => ?_, ?_⟩
  · by_cases h : ∃ (j : Nat) (d : D), its[j]? = some z ∧ xs[j]? = some d ∧ eqD d a = true
    · obtain ⟨j, d, h1, h2, h3⟩ := id h
      have k := at_ j z d h1 h2
      rw [h3] at k
      show SeqAt.EqAt _ _ _ _ (decide _)
      rw [decide_eq_true h]
      exact k
    · obtain ⟨j, hj⟩ := List.getElem?_of_mem (show z ∈ its by simpa using hz)
      have hj' : j < xs.length := by rw [← hlen]; exact (List.getElem?_eq_some_iff.mp hj).1
      have k := at_ j z _ hj (List.getElem?_eq_getElem hj')
      have hf : eqD xs[j] a = false := by
        cases q : eqD xs[j] a with
        | false => rfl
        | true => exact absurd ⟨j, _, hj, List.getElem?_eq_getElem hj', q⟩ h
      rw [hf] at k
      show SeqAt.EqAt _ _ _ _ (decide _)
      rw [decide_eq_false h]
      exact k
  · rw [Bool.eq_iff_iff]
    simp only [List.any_toArray, List.any_eq_true, decide_eq_true_eq]
    constructor
    · rintro ⟨z, _, j, d, _, h2, h3⟩
      exact ⟨d, List.mem_of_getElem? h2, h3⟩
    · rintro ⟨d, hd, h3⟩
      obtain ⟨j, hj⟩ := List.getElem?_of_mem hd
      have hj' : j < its.length := by rw [hlen]; exact (List.getElem?_eq_some_iff.mp hj).1
      exact ⟨its[j], List.getElem_mem hj', j, d, List.getElem?_eq_getElem hj', hj, h3⟩
theorem oc_in (hK : X.K = T.K) (hu : X.A.units + 64 < cLine) : OpR X (compareOp .In) (RC T .isIn) := by
  intro pins s σ H x y v u Q I rx ry h
  obtain ⟨W, a, b, c, hs, ha, hb, e, q⟩ := h
  cases b <;> simp [cmpD] at e
  · obtain ⟨⟨oa, ob⟩, rfl⟩ := e
    obtain ⟨pa, da⟩ := okD_of oa
    obtain ⟨pb, db⟩ := okD_of ob
    have rb := Vw.repH hs hb
    simp only [Rep] at rb
    obtain ⟨m, ws, rfl, hq, hr⟩ := rb
    cases ry
    obtain ⟨its, rv, ht, _⟩ := Inv.tupleR hK I hq
    obtain ⟨f, h1, h2⟩ := in_items hK hu I (Vw.repH hs ha) pa hr (by simpa [plain] using pb) (by simp only [dep] at db; omega) rx rv
    exact SeqAt.in_tupleAt f (show s.heap.IsTuple m its.toArray from ht) h1 ⟨.bl _, H, I, rfl, by rw [h2]; exact q⟩
  · obtain ⟨⟨oa, ob⟩, rfl⟩ := e
    obtain ⟨pa, da⟩ := okD_of oa
    obtain ⟨pb, db⟩ := okD_of ob
    have rb := Vw.repH hs hb
    simp only [Rep] at rb
    obtain ⟨m, ws, rfl, hq, hr⟩ := rb
    cases ry
    obtain ⟨its, n, rv, _, _, ho⟩ := listR I hq
    obtain ⟨f, h1, h2⟩ := in_items hK hu I (Vw.repH hs ha) pa hr (by simpa [plain] using pb) (by simp only [dep] at db; omega) rx rv
    exact SeqAt.in_listAt f (isList_of ho) h1 ⟨.bl _, H, I, rfl, by rw [h2]; exact q⟩
theorem oc_notIn (hK : X.K = T.K) (hu : X.A.units + 64 < cLine) : OpR X (compareOp .NotIn) (RC T .notIn) := by
  intro pins s σ H x y v u Q I rx ry h
  obtain ⟨W, a, b, c, hs, ha, hb, e, q⟩ := h
  cases b <;> simp [cmpD] at e
  · obtain ⟨⟨oa, ob⟩, ec⟩ := e
    rw [← Bool.not_not c, ← ec] at q
    obtain ⟨pa, da⟩ := okD_of oa
    obtain ⟨pb, db⟩ := okD_of ob
    have rb := Vw.repH hs hb
    simp only [Rep] at rb
    obtain ⟨m, ws, rfl, hq, hr⟩ := rb
    cases ry
    obtain ⟨its, rv, ht, _⟩ := Inv.tupleR hK I hq
    obtain ⟨f, h1, h2⟩ := in_items hK hu I (Vw.repH hs ha) pa hr (by simpa [plain] using pb) (by simp only [dep] at db; omega) rx rv
    exact SeqAt.notIn_tupleAt f (show s.heap.IsTuple m its.toArray from ht) h1 ⟨.bl _, H, I, rfl, by rw [h2]; exact q⟩
  · obtain ⟨⟨oa, ob⟩, ec⟩ := e
    rw [← Bool.not_not c, ← ec] at q
    obtain ⟨pa, da⟩ := okD_of oa
    obtain ⟨pb, db⟩ := okD_of ob
    have rb := Vw.repH hs hb
    simp only [Rep] at rb
    obtain ⟨m, ws, rfl, hq, hr⟩ := rb
    cases ry
    obtain ⟨its, n, rv, _, _, ho⟩ := listR I hq
    obtain ⟨f, h1, h2⟩ := in_items hK hu I (Vw.repH hs ha) pa hr (by simpa [plain] using pb) (by simp only [dep] at db; omega) rx rv
    exact SeqAt.notIn_listAt f (isList_of ho) h1 ⟨.bl _, H, I, rfl, by rw [h2]; exact q⟩
theorem vw_non {d : D} {x : V} (h : Vw T W H d x) : decide (x = .non) = isNonD d := by
  cases d <;> simp only [Vw, Rep] at h
  · subst h; rfl
  · subst h; rfl
  · subst h; rfl
  · subst h; rfl
  · obtain ⟨_, _, rfl, _⟩ := h; rfl
  · obtain ⟨_, _, rfl, _⟩ := h; rfl
  · obtain ⟨_, _, _, _, rfl, _⟩ := h; rfl
  · subst h; rfl
  · subst h; rfl
  · subst h; rfl
  · obtain ⟨_, _, rfl⟩ := h; rfl
theorem oc_is : OpR X (compareOp .Is) (RC T .is) := by
  intro pins s σ H x y v u Q I rx ry h
  obtain ⟨W, a, b, c, hs, ha, hb, e, q⟩ := h
  cases b with
  | non =>
    have e' : some (isNonD a) = some c := e
    cases e'
    have ey : y = .non := by simpa only [Vw, Rep] using hb
    exact op_isN pins s σ H x y v u Q I rx ry ⟨ey, by rw [vw_non ha]; exact q⟩
  | bl b =>
    cases vw_bl hb
    have other : ∀ {v : Value}, plainIs v (.bool b) = true → v ≠ .bool b → c = false → wpAny (model X.prog X.w) X.A (compareOp .Is v (.bool b)) (EP X pins σ Q) X.xe s := fun h1 h2 h3 => by
      subst h3
      exact wpAny_is_other h1 h2 ⟨.bl false, H, I, rfl, q⟩
    cases (show u = Value.bool b from ry)
    cases a <;> simp only [cmpD, Option.some.injEq, reduceCtorEq] at e
    · cases (show x = .non by simpa only [Vw, Rep] using ha)
      cases rx
      exact other rfl (by simp) e.symm
    · cases vw_bl ha
      exact op_isBl pins s σ H _ (.bl b) v _ Q I rx rfl ⟨_, _, rfl, rfl, by rw [e]; exact q⟩
    · cases vw_int ha
      obtain ⟨t, rfl⟩ := rx
      exact other rfl (by simp) e.symm
    · cases vw_str ha
      obtain ⟨t, rfl⟩ := rx
      exact other rfl (by simp) e.symm
    · obtain ⟨l, vs, rfl, _⟩ := vw_tup ha
      cases rx
      exact other rfl (by simp) e.symm
    · obtain ⟨l, vs, rfl, _⟩ := ha
      cases rx
      exact other rfl (by simp) e.symm
  | _ => simp [cmpD] at e
theorem oc_isNot : OpR X (compareOp .IsNot) (RC T .isNot) := by
  intro pins s σ H x y v u Q I rx ry h
  obtain ⟨W, a, b, c, hs, ha, hb, e, q⟩ := h
  cases b with
  | non =>
    have e' : some (!isNonD a) = some c := e
    cases e'
    have ey : y = .non := by simpa only [Vw, Rep] using hb
    exact op_notN pins s σ H x y v u Q I rx ry ⟨ey, by rw [vw_non ha]; exact q⟩
  | _ => simp [cmpD] at e
end
end PM
end

section
set_option Elab.async false
set_option linter.all false
set_option maxRecDepth 100000
/-! PmX: expressions are sound. -/
namespace PM
open PySem L2 PyProof.Rows
theorem R.bind_eq_ok {α β : Type} {x : R α} {f : α → R β} {b : β} (h : x.bind f = .ok b) : ∃ a, x = .ok a ∧ f a = .ok b := by
  cases x with
  | ok a => exact ⟨a, rfl, h⟩
  | exc c ds C => cases h
  | bad => cases h
theorem bind_of {α β : Type} {x : R α} {f : α → R β} {a : α} {r : R β} (h : x = .ok a) (k : f a = r) : x.bind f = r := by
  rw [h]
  exact k
theorem ofO_eq_ok {α : Type} {o : Option α} {a : α} (h : ofO o = .ok a) : o = some a := by
  cases o with
  | none => cases h
  | some b => cases h; rfl
theorem PE.weak {X : Cx} {e : Expr} {t t' : TE} (h : PE X e t) (k : ∀ σ H Q, t' σ H Q → t σ H Q) : PE X e t' := ⟨fun pins s σ H Q I q => h.run pins s σ H Q I (k σ H Q q)⟩
theorem PT.weak {X : Cx} {e : Expr} {t t' : TT} (h : PT X e t) (k : ∀ σ H Q, t' σ H Q → t σ H Q) : PT X e t' := ⟨fun pins s σ H Q I q => h.run pins s σ H Q I (k σ H Q q)⟩
theorem PW.weak {X : Cx} {e : Expr} {t t' : TT} (h : PW X e t) (k : ∀ σ H Q, t' σ H Q → t σ H Q) : PW X e t' := ⟨fun wh pins s σ H Q I q => h.run wh pins s σ H Q I (k σ H Q q)⟩
theorem PA.weak {X : Cx} {es : List Expr} {t t' : TA} (h : PA X es t) (k : ∀ σ H Q, t' σ H Q → t σ H Q) : PA X es t' := ⟨fun pos pins s σ H Q I q => h.run pos pins s σ H Q I (k σ H Q q)⟩
/-- an expression's reading by its meaning -/
def TM (T : Tb) (B : Bs) (m : PS → R (D × PS)) : TE := fun σ H Q => ∃ W S d S', Rel T B W S σ H ∧ m S = .ok (d, S') ∧ ∀ W' v H', Le W W' → Rel T B W' S' σ H' → Res T B W' S' σ H' d v → Q v H'
def TB (T : Tb) (B : Bs) (m : PS → R (Bool × PS)) : TT := fun σ H Q => ∃ W S b S', Rel T B W S σ H ∧ m S = .ok (b, S') ∧ ∀ W' H', Le W W' → Rel T B W' S' σ H' → Q b H'
/-- arguments, as values | borrowed -/
def TV (T : Tb) (B : Bs) (m : PS → R (List D × PS)) : TA := fun σ H Q => ∃ W S ds S', Rel T B W S σ H ∧ m S = .ok (ds, S') ∧ ∀ W' vs H', Le W W' → Rel T B W' S' σ H' → Reps T W' ds vs → Q vs H'
def Bos (T : Tb) (W : Wd) (σ : L2.St) (ds : List D) (vs : List V) : Prop := ds.length = vs.length ∧ ∀ (i : Nat) d v, ds[i]? = some d → vs[i]? = some v → Bo T W σ d v
def TW (T : Tb) (B : Bs) (m : PS → R (List D × PS)) : TA := fun σ H Q => ∃ W S ds S', Rel T B W S σ H ∧ m S = .ok (ds, S') ∧ ∀ W' vs H', Le W W' → Rel T B W' S' σ H' → Bos T W' σ ds vs → Q vs H'
section
variable {T : Tb} {B : Bs} {W : Wd} {S S' : PS} {σ : L2.St} {H : Hp} {Q : VK} {m : PS → R (D × PS)} {d : D}
theorem use_r (I : Rel T B W S σ H) (e : m S = .ok (d, S')) (k : ∀ W' v H', Le W W' → Rel T B W' S' σ H' → Res T B W' S' σ H' d v → Q v H') : TM T B m σ H Q := ⟨W, S, d, S', I, e, k⟩
theorem use_b (I : Rel T B W S σ H) (e : bw (m S) = .ok (d, S')) (k : ∀ W' v H', Le W W' → Rel T B W' S' σ H' → Bo T W' σ d v → Q v H') : TM T B m σ H Q := by
  obtain ⟨⟨d0, S0⟩, e1, e2⟩ := R.bind_eq_ok e
  cases e2
  refine ⟨W, S, d0, _, I, e1, fun W' v H' l J r => ?_⟩
  obtain ⟨W2, l2, J2, b, _⟩ := J.tmp r
  exact k W2 v H' (l.trans l2) J2 b
theorem use_v (I : Rel T B W S σ H) (e : vw (m S) = .ok (d, S')) (k : ∀ W' v H', Le W W' → Rel T B W' S' σ H' → Rep T W' d v → Q v H') : TM T B m σ H Q := by
  obtain ⟨⟨d0, S0⟩, e1, e2⟩ := R.bind_eq_ok e
  have e2 := ofO_eq_ok e2
  refine ⟨W, S, d0, S0, I, e1, fun W' v H' l J r => ?_⟩
  obtain ⟨W2, l2, J2, b⟩ := J.frz r e2
  exact k W2 v H' (l.trans l2) J2 b
theorem Rep.res {S : PS} {v : V} (r : Rep T W d v) : Res T B W S σ H d v := by
  cases d <;> first | exact r | (simp only [Rep] at r)
theorem Rep.bo {v : V} (r : Rep T W d v) : Bo T W σ d v := by
  cases d <;> first | exact r | (simp only [Rep] at r)
/-- a bool -/
theorem use_t {b : Bool} {Q : Bool → Hp → Prop} (I : Rel T B W S σ H) (e : (m S).bind asB = .ok (b, S')) (k : ∀ W' H', Le W W' → Rel T B W' S' σ H' → Q b H') : TM T B m σ H fun v H' => ∃ c, v = .bl c ∧ Q c H' := by
  obtain ⟨⟨d0, S0⟩, e1, e2⟩ := R.bind_eq_ok e
  unfold asB at e2
  split at e2
  · rename_i b' S'' he
    cases he
    cases e2
    refine ⟨W, S, .bl b, S', I, e1, fun W' v H' l J r => ⟨b, ?_, k W' H' l J⟩⟩
    have r' : Rep T W' (.bl b) v := r
    simpa only [Rep] using r'
  · cases e2
theorem use_i {i : Int} {d : D} (e : asI d = .ok i) : d = .int i := by
  unfold asI at e
  split at e
  · cases e; rfl
  · cases e
end
section
variable {T : Tb} {B : Bs} {X : Cx} {F : Fields} {call : CallF}
abbrev Snd (T : Tb) (B : Bs) (X : Cx) (F : Fields) (call : CallF) (m : ME) (e : Expr) : Prop := PE X e (TM T B (fun S => ev F call m S))
abbrev SndT (T : Tb) (B : Bs) (X : Cx) (F : Fields) (call : CallF) (m : ME) (e : Expr) : Prop := PT X e (TB T B (fun S => (ev F call m S).bind asB))
variable {a b c e : Expr} {ma mb mc me : ME} {pos : Pos}
/-- an expression that is no operator of bools, as a test -/
theorem snd_test (h : Snd T B X F call me e) (he : ∀ whole, isTrue e X.env whole = (do let v ← whole; standAt e.pos; holding [v] (truthy v))) : SndT T B X F call me e :=
  PT.weak (pt_val h he) fun σ H Q ⟨W, S, b, S', I, e1, k⟩ => use_t I e1 k
theorem snd_var {i : Nat} {x : PySem.Str} (hN : X.N[i]? = some x) (hv : Vis X.env.scope x) (hd : (x == ("__debug__" : PySem.Str)) = false) (hcd : (x == ("__classdict__" : PySem.Str)) = false) : Snd T B X F call (.var i) (.Name x pos) :=
  PE.weak (pe_var hN hv hd hcd) fun σ H Q ⟨W, S, d, S', I, e1, k⟩ => by
    replace e1 := ofO_eq_ok e1
    unfold rd at e1
    cases hs : slot S.L i with
    | none => rw [hs] at e1; cases e1
    | some c =>
      rw [hs] at e1
      simp only [Option.map_some, Option.some.injEq, Prod.mk.injEq] at e1
      obtain ⟨e1, e2⟩ := e1
      subst e2
      obtain ⟨v, hv, ok⟩ := I.slots i c hs
      refine ⟨v, hv, k W v H (Le.refl W) I ?_⟩
      by_cases ho : isOwn c = true
      · rw [if_pos ho] at e1
        subst e1
        exact hv
      · rw [if_neg ho] at e1
        subst e1
        have r : Rep T W c v := by
          cases c <;> first | exact ok | exact absurd rfl ho
        exact Rep.res r
theorem snd_const {d : D} {v : V} (h : PE X e (tC v)) (r : ∀ W, Rep T W d v) : Snd T B X F call (.k d) e :=
  PE.weak h fun σ H Q ⟨W, S, d', S', I, e1, k⟩ => by
    cases e1
    exact k W v H (Le.refl W) I (Rep.res (r W))
theorem snd_glob {d : D} {v : V} (h : PE X e (tC v)) (r : ∀ W, Rep T W d v) : Snd T B X F call (.glob d) e :=
  PE.weak h fun σ H Q ⟨W, S, d', S', I, e1, k⟩ => by
    cases e1
    exact k W v H (Le.refl W) I (Rep.res (r W))
/-- two operands borrowed, then an operation upon what is seen -/
theorem two {f : D → D → Option D} {r : R2} {Q : VK} {σ : L2.St} {H : Hp} {W : Wd} {S S' : PS} {d : D} {m1 m2 : PS → R (D × PS)} (I : Rel T B W S σ H)
    (e : ((bw (m1 S)).bind fun p => (bw (m2 p.2)).bind fun q => ofO ((view q.2 p.1).bind fun x => (view q.2 q.1).bind fun y => (f x y).map fun d => (d, q.2))) = .ok (d, S'))
    (k : ∀ W' v H', Le W W' → Rel T B W' S' σ H' → Res T B W' S' σ H' d v → Q v H')
    (hr : ∀ W1 x y H1 dx dy, Same W1.F H1 → Vw T W1 H1 dx x → Vw T W1 H1 dy y → f dx dy = some d → Out T W1 H1 d Q → r x y H1 Q) :
    tOp r (TM T B m1) (TM T B m2) σ H Q := by
  obtain ⟨⟨d1, S1⟩, e1, e⟩ := R.bind_eq_ok e
  obtain ⟨⟨d2, S2⟩, e2, e⟩ := R.bind_eq_ok e
  have e := ofO_eq_ok e
  simp only [Option.bind_eq_some_iff, Option.map_eq_some_iff] at e
  obtain ⟨x, hx, y, hy, z, hz, e⟩ := e
  cases e
  refine use_b I e1 fun W1 v1 H1 l1 I1 b1 => ?_
  refine use_b (m := m2) I1 e2 fun W2 v2 H2 l2 I2 b2 => ?_
  refine hr W2 v1 v2 H2 x y I2.sub (I2.view (b1.mono l2) hx) (I2.view b2 hy) hz fun W3 v H3 st rn => ?_
  exact k W3 v H3 ((l1.trans l2).trans st.toLe) (I2.step st) (I2.resN st rn)
theorem snd_bin {op : Op} {pop : Operator} (ho : OpR X (binaryOp pop) (RB T op)) (ha : Snd T B X F call ma a) (hb : Snd T B X F call mb b) : Snd T B X F call (.bin op ma mb) (.BinOp a pop b pos) :=
  PE.weak (pe_op ho ha hb) fun σ H Q ⟨W, S, d, S', I, e1, k⟩ => two I e1 k fun W1 x y H1 dx dy h1 h2 h3 h4 h5 => ⟨W1, dx, dy, d, h1, h2, h3, h4, h5⟩
theorem snd_cmp {op : Cmp} {pop : CmpOp} (ho : OpR X (compareOp pop) (RC T op)) (ha : Snd T B X F call ma a) (hb : Snd T B X F call mb b) (hm : behindInMarks pop b = false) : Snd T B X F call (.cmp op ma mb) (.Compare a [pop] [b] pos) :=
  PE.weak (pe_cmpR ho ha hb hm) fun σ H Q ⟨W, S, d, S', I, e1, k⟩ => by
    have e1' : ((bw (ev F call ma S)).bind fun p => (bw (ev F call mb p.2)).bind fun q => ofO ((view q.2 p.1).bind fun x => (view q.2 q.1).bind fun y => ((cmpD op x y).map D.bl).map fun d => (d, q.2))) = .ok (d, S') := by
      rw [← e1]
      simp only [ev, Option.map_map, Function.comp_def]
    refine two (f := fun x y => (cmpD op x y).map D.bl) I e1' k fun W1 x y H1 dx dy h1 h2 h3 h4 h5 => ?_
    obtain ⟨c, hc, rfl⟩ := Option.map_eq_some_iff.mp h4
    exact ⟨W1, dx, dy, c, h1, h2, h3, hc, h5.bl h1⟩
theorem snd_cmpT {op : Cmp} {pop : CmpOp} (ho : OpR X (compareOp pop) (RC T op)) (ha : Snd T B X F call ma a) (hb : Snd T B X F call mb b) (hm : behindInMarks pop b = false) : SndT T B X F call (.cmp op ma mb) (.Compare a [pop] [b] pos) := by
  refine PT.weak (pt_cmpR ho ha hb hm) fun σ H Q ⟨W, S, d, S', I, e1, k⟩ => ?_
  obtain ⟨⟨d0, S0⟩, e1, e2⟩ := R.bind_eq_ok e1
  have e1' : ((bw (ev F call ma S)).bind fun p => (bw (ev F call mb p.2)).bind fun q => ofO ((view q.2 p.1).bind fun x => (view q.2 q.1).bind fun y => ((cmpD op x y).map D.bl).map fun d => (d, q.2))) = .ok (d0, S0) := by
    rw [← e1]
    simp only [ev, Option.map_map, Function.comp_def]
  refine two (f := fun x y => (cmpD op x y).map D.bl) (Q := fun x H' => ∃ k, x = .bl k ∧ Q k H') I e1' (fun W' v H' l J r => ?_) fun W1 x y H1 dx dy h1 h2 h3 h4 h5 => ?_
  · unfold asB at e2
    split at e2
    · rename_i b' S'' he
      cases he
      cases e2
      have r' : Rep T W' (.bl d) v := r
      simp only [Rep] at r'
      exact ⟨d, r', k W' H' l J⟩
    · cases e2
  · obtain ⟨c, hc, rfl⟩ := Option.map_eq_some_iff.mp h4
    exact ⟨W1, dx, dy, c, h1, h2, h3, hc, h5.bl h1⟩
theorem snd_neg (ha : Snd T B X F call ma a) : Snd T B X F call (.neg ma) (.UnaryOp .USub a pos) :=
  PE.weak (pe_un un_neg ha) fun σ H Q ⟨W, S, d, S', I, e1, k⟩ => by
    obtain ⟨⟨d1, S1⟩, h1, e2⟩ := R.bind_eq_ok e1
    obtain ⟨i, e2, e3⟩ := R.bind_eq_ok e2
    have := use_i e2
    subst this
    cases e3
    refine use_b I h1 fun W1 v H1 l J b => ?_
    have b' : v = .int i := by simpa only [Bo, Rep] using b
    exact ⟨i, b', k W1 _ H1 l J (Rep.res (by simp only [Rep]))⟩
theorem snd_not (ha : SndT T B X F call ma a) : SndT T B X F call (.not ma) (.UnaryOp .Not a pos) :=
  PT.weak (pt_not ha) fun σ H Q ⟨W, S, d, S', I, e1, k⟩ => by
    obtain ⟨⟨d1, S1⟩, e1, e2⟩ := R.bind_eq_ok e1
    simp only [ev] at e1
    obtain ⟨p, h1, h2⟩ := R.bind_eq_ok e1
    obtain ⟨⟨q, S2⟩, h3, h4⟩ := R.bind_eq_ok h2
    cases h4
    cases e2
    exact ⟨W, S, q, S2, I, bind_of h1 h3, k⟩
theorem snd_notV (ha : Snd T B X F call ma a) : Snd T B X F call (.not ma) (.UnaryOp .Not a pos) :=
  PE.weak (pe_not ha) fun σ H Q ⟨W, S, d, S', I, e1, k⟩ => by
    simp only [ev] at e1
    obtain ⟨p, h1, h2⟩ := R.bind_eq_ok e1
    obtain ⟨⟨q, S2⟩, h3, h4⟩ := R.bind_eq_ok h2
    cases h4
    exact use_t (Q := fun c H' => Q (.bl (!c)) H') I (bind_of h1 h3) fun W' H' l J => k W' _ H' l J (Rep.res (by simp only [Rep]))
theorem asB_ok {p : D × PS} {b : Bool} {S' : PS} (h : asB p = .ok (b, S')) : p = (.bl b, S') := by
  unfold asB at h
  split at h
  · cases h; rfl
  · cases h
/-- x and y | x or y, of bools, as values -/
theorem snd_andV {rest : List Expr} (ha : Snd T B X F call ma a) (hb : Snd T B X F call mb (.BoolOp .And (b :: rest) pos)) : Snd T B X F call (.and ma mb) (.BoolOp .And (a :: b :: rest) pos) :=
  PE.weak (pe_and ha hb) fun σ H Q ⟨W, S, d, S', I, e1, k⟩ => by
    simp only [ev] at e1
    obtain ⟨p, h1, h2⟩ := R.bind_eq_ok e1
    obtain ⟨⟨q, S2⟩, h3, h4⟩ := R.bind_eq_ok h2
    refine use_t (b := q) (S' := S2) (Q := fun c H1 => if c = true then TM T B (fun S => ev F call mb S) σ H1 Q else Q (.bl false) H1) I (bind_of h1 h3) fun W' H' l J => ?_
    cases q with
    | true =>
      simp only [if_true] at h4 ⊢
      obtain ⟨p2, h5, h6⟩ := R.bind_eq_ok h4
      obtain ⟨⟨q2, S3⟩, h7, h8⟩ := R.bind_eq_ok h6
      cases h8
      have := asB_ok h7
      subst this
      exact use_r J h5 fun W2 v H2 l2 J2 r => k W2 v H2 (l.trans l2) J2 r
    | false =>
      simp only [Bool.false_eq_true, if_false] at h4 ⊢
      cases h4
      exact k W' _ H' l J (Rep.res (by simp only [Rep]))
theorem snd_orV {rest : List Expr} (ha : Snd T B X F call ma a) (hb : Snd T B X F call mb (.BoolOp .Or (b :: rest) pos)) : Snd T B X F call (.or ma mb) (.BoolOp .Or (a :: b :: rest) pos) :=
  PE.weak (pe_or ha hb) fun σ H Q ⟨W, S, d, S', I, e1, k⟩ => by
    simp only [ev] at e1
    obtain ⟨p, h1, h2⟩ := R.bind_eq_ok e1
    obtain ⟨⟨q, S2⟩, h3, h4⟩ := R.bind_eq_ok h2
    refine use_t (b := q) (S' := S2) (Q := fun c H1 => if c = true then Q (.bl true) H1 else TM T B (fun S => ev F call mb S) σ H1 Q) I (bind_of h1 h3) fun W' H' l J => ?_
    cases q with
    | false =>
      simp only [Bool.false_eq_true, if_false] at h4 ⊢
      obtain ⟨p2, h5, h6⟩ := R.bind_eq_ok h4
      obtain ⟨⟨q2, S3⟩, h7, h8⟩ := R.bind_eq_ok h6
      cases h8
      have := asB_ok h7
      subst this
      exact use_r J h5 fun W2 v H2 l2 J2 r => k W2 v H2 (l.trans l2) J2 r
    | true =>
      simp only [if_true] at h4 ⊢
      cases h4
      exact k W' _ H' l J (Rep.res (by simp only [Rep]))
/-- .. as tests -/
abbrev SndW (T : Tb) (B : Bs) (X : Cx) (F : Fields) (call : CallF) (m : ME) (e : Expr) : Prop := PW X e (TB T B (fun S => (ev F call m S).bind asB))
theorem snd_andT {rest : List Expr} (ha : SndT T B X F call ma a) (hb : SndW T B X F call mb (.BoolOp .And (b :: rest) pos)) : SndW T B X F call (.and ma mb) (.BoolOp .And (a :: b :: rest) pos) :=
  PW.weak (pw_and ha hb) fun σ H Q ⟨W, S, d, S', I, e1, k⟩ => by
    obtain ⟨⟨d1, S1⟩, e1, e2⟩ := R.bind_eq_ok e1
    simp only [ev] at e1
    obtain ⟨p, h1, h2⟩ := R.bind_eq_ok e1
    obtain ⟨⟨q, S2⟩, h3, h4⟩ := R.bind_eq_ok h2
    refine ⟨W, S, q, S2, I, bind_of h1 h3, fun W' H' l J => ?_⟩
    cases q with
    | true =>
      simp only [if_true] at h4 ⊢
      obtain ⟨p2, h5, h6⟩ := R.bind_eq_ok h4
      obtain ⟨⟨q2, S3⟩, h7, h8⟩ := R.bind_eq_ok h6
      cases h8
      cases e2
      exact ⟨W', S2, _, _, J, bind_of h5 h7, fun W2 H2 l2 J2 => k W2 H2 (l.trans l2) J2⟩
    | false =>
      simp only [Bool.false_eq_true, if_false] at h4 ⊢
      cases h4
      cases e2
      exact k W' H' l J
theorem snd_orT {rest : List Expr} (ha : SndT T B X F call ma a) (hb : SndW T B X F call mb (.BoolOp .Or (b :: rest) pos)) : SndW T B X F call (.or ma mb) (.BoolOp .Or (a :: b :: rest) pos) :=
  PW.weak (pw_or ha hb) fun σ H Q ⟨W, S, d, S', I, e1, k⟩ => by
    obtain ⟨⟨d1, S1⟩, e1, e2⟩ := R.bind_eq_ok e1
    simp only [ev] at e1
    obtain ⟨p, h1, h2⟩ := R.bind_eq_ok e1
    obtain ⟨⟨q, S2⟩, h3, h4⟩ := R.bind_eq_ok h2
    refine ⟨W, S, q, S2, I, bind_of h1 h3, fun W' H' l J => ?_⟩
    cases q with
    | false =>
      simp only [Bool.false_eq_true, if_false] at h4 ⊢
      obtain ⟨p2, h5, h6⟩ := R.bind_eq_ok h4
      obtain ⟨⟨q2, S3⟩, h7, h8⟩ := R.bind_eq_ok h6
      cases h8
      cases e2
      exact ⟨W', S2, _, _, J, bind_of h5 h7, fun W2 H2 l2 J2 => k W2 H2 (l.trans l2) J2⟩
    | true =>
      simp only [if_true] at h4 ⊢
      cases h4
      cases e2
      exact k W' H' l J
theorem snd_ite (ht : SndT T B X F call mc c) (ha : Snd T B X F call ma a) (hb : Snd T B X F call mb b) : Snd T B X F call (.ite mc ma mb) (.IfExp c a b pos) :=
  PE.weak (pe_ifExp ht ha hb) fun σ H Q ⟨W, S, d, S', I, e1, k⟩ => by
    simp only [ev] at e1
    obtain ⟨p, h1, h2⟩ := R.bind_eq_ok e1
    obtain ⟨⟨q, S2⟩, h3, h4⟩ := R.bind_eq_ok h2
    refine ⟨W, S, q, S2, I, bind_of h1 h3, fun W' H' l J => ?_⟩
    cases q with
    | true =>
      simp only [if_true] at h4 ⊢
      exact use_r J h4 fun W2 v H2 l2 J2 r => k W2 v H2 (l.trans l2) J2 r
    | false =>
      simp only [Bool.false_eq_true, if_false] at h4 ⊢
      exact use_r J h4 fun W2 v H2 l2 J2 r => k W2 v H2 (l.trans l2) J2 r
theorem snd_iteT (ht : SndT T B X F call mc c) (ha : SndT T B X F call ma a) (hb : SndT T B X F call mb b) : SndT T B X F call (.ite mc ma mb) (.IfExp c a b pos) := by
  refine ⟨fun pins s σ H Q Iv ⟨W, S, d, S', I, e1, k⟩ => ?_⟩
  obtain ⟨⟨d1, S1⟩, e1, e2⟩ := R.bind_eq_ok e1
  simp only [ev] at e1
  obtain ⟨p, h1, h2⟩ := R.bind_eq_ok e1
  obtain ⟨⟨q, S2⟩, h3, h4⟩ := R.bind_eq_ok h2
  show wpAny _ _ (do if ← isTrue c X.env (eval c X.env) then isTrue a X.env (eval a X.env) else isTrue b X.env (eval b X.env)) _ _ s
  refine wpAny_bind (thn (ht.run pins s σ H (fun q' H' => q' = q ∧ ∃ W', Le W W' ∧ Rel T B W' S2 σ H') Iv ⟨W, S, q, S2, I, bind_of h1 h3, fun W' H' l J => ⟨rfl, W', l, J⟩⟩) fun q' s1 ⟨H1, Iv1, hq, W1, l, J⟩ => ?_)
  subst hq
  cases q' with
  | true =>
    simp only [if_true] at h4 ⊢
    exact ha.run pins s1 σ H1 Q Iv1 ⟨W1, S2, d, S', J, bind_of h4 e2, fun W2 H2 l2 J2 => k W2 H2 (l.trans l2) J2⟩
  | false =>
    simp only [Bool.false_eq_true, if_false] at h4 ⊢
    exact hb.run pins s1 σ H1 Q Iv1 ⟨W1, S2, d, S', J, bind_of h4 e2, fun W2 H2 l2 J2 => k W2 H2 (l.trans l2) J2⟩
/-- arguments -/
abbrev SndV (T : Tb) (B : Bs) (X : Cx) (F : Fields) (call : CallF) (ms : List ME) (es : List Expr) : Prop := PA X es (TV T B (fun S => evvs F call ms S))
abbrev SndB (T : Tb) (B : Bs) (X : Cx) (F : Fields) (call : CallF) (ms : List ME) (es : List Expr) : Prop := PA X es (TW T B (fun S => evbs F call ms S))
theorem sndv_nil : SndV T B X F call [] [] := PA.weak pa_nil fun σ H Q ⟨W, S, d, S', I, e1, k⟩ => by
  cases e1
  exact k W _ H (Le.refl W) I Reps.nil
theorem sndv_cons {ms : List ME} {es : List Expr} (ha : Snd T B X F call ma a) (hr : SndV T B X F call ms es) (hs : starEach (a :: es) X.env = (false, eval a X.env) :: starEach es X.env) : SndV T B X F call (ma :: ms) (a :: es) :=
  PA.weak (pa_cons ha hr hs) fun σ H Q ⟨W, S, d, S', I, e1, k⟩ => by
    simp only [evvs] at e1
    obtain ⟨⟨d1, S1⟩, h1, h2⟩ := R.bind_eq_ok e1
    obtain ⟨⟨ds, S2⟩, h3, h4⟩ := R.bind_eq_ok h2
    cases h4
    refine use_v I h1 fun W1 v H1 l J r => ?_
    exact ⟨W1, S1, ds, S2, J, h3, fun W2 vs H2 l2 J2 r2 => k W2 _ H2 (l.trans l2) J2 (Reps.cons (Rep.mono l2 _ r) r2)⟩
theorem sndb_nil : SndB T B X F call [] [] := PA.weak pa_nil fun σ H Q ⟨W, S, d, S', I, e1, k⟩ => by
  cases e1
  exact k W _ H (Le.refl W) I ⟨rfl, fun i d v h => by simp at h⟩
theorem sndb_cons {ms : List ME} {es : List Expr} (ha : Snd T B X F call ma a) (hr : SndB T B X F call ms es) (hs : starEach (a :: es) X.env = (false, eval a X.env) :: starEach es X.env) : SndB T B X F call (ma :: ms) (a :: es) :=
  PA.weak (pa_cons ha hr hs) fun σ H Q ⟨W, S, d, S', I, e1, k⟩ => by
    simp only [evbs] at e1
    obtain ⟨⟨d1, S1⟩, h1, h2⟩ := R.bind_eq_ok e1
    obtain ⟨⟨ds, S2⟩, h3, h4⟩ := R.bind_eq_ok h2
    cases h4
    refine use_b I h1 fun W1 v H1 l J r => ?_
    refine ⟨W1, S1, ds, S2, J, h3, fun W2 vs H2 l2 J2 r2 => k W2 _ H2 (l.trans l2) J2 ⟨by simp [r2.1], fun i d v' e1 e2 => ?_⟩⟩
    cases i with
    | zero =>
      simp at e1 e2
      subst e1 e2
      exact r.mono l2
    | succ i => exact r2.2 i d v' (by simpa using e1) (by simpa using e2)
/-- (a, b, ..) | [a, b, ..] -/
theorem snd_tup {ms : List ME} {es : List Expr} {x1 : Nat} (h : SndV T B X F call ms es) (hl : ms.length < LIM) : Snd T B X F call (.tup ms) (.Tuple es x1 pos) :=
  PE.weak (pe_tup h) fun σ H Q ⟨W, S, d, S', I, e1, k⟩ => by
    simp only [ev] at e1
    obtain ⟨⟨ds, S1⟩, h1, h2⟩ := R.bind_eq_ok e1
    cases h2
    refine ⟨W, S, ds, S1, I, h1, fun W1 vs H1 l J r => ?_⟩
    have hn : ∀ (ms : List ME) (S S1 : PS) (ds : List D), evvs F call ms S = .ok (ds, S1) → ds.length = ms.length := fun ms => by
      induction ms with
      | nil => intro S S1 ds h; cases h; rfl
      | cons m ms ih =>
        intro S S1 ds h
        simp only [evvs] at h
        obtain ⟨⟨d1, S2⟩, h1, h2⟩ := R.bind_eq_ok h
        obtain ⟨⟨ds', S3⟩, h3, h4⟩ := R.bind_eq_ok h2
        cases h4
        simp [ih _ _ _ h3]
    refine ⟨by rw [← r.length, hn _ _ _ _ h1]; exact Nat.le_of_lt (Nat.lt_trans hl lim_line), fun p hp => ?_⟩
    have o : Out T W1 H1 (.tup ds) Q := fun W2 v H2 st rn => k W2 v H2 (l.trans st.toLe) (J.step st) (J.resN st rn)
    exact o.newT J.sub r hp
theorem evvs_len : ∀ (ms : List ME) {S S1 : PS} {ds : List D}, evvs F call ms S = .ok (ds, S1) → ds.length = ms.length
  | [], _, _, _, h => by cases h; rfl
  | m :: ms, S, S1, ds, h => by
    simp only [evvs] at h
    obtain ⟨⟨d1, S2⟩, h1, h2⟩ := R.bind_eq_ok h
    obtain ⟨⟨ds', S3⟩, h3, h4⟩ := R.bind_eq_ok h2
    cases h4
    simp [evvs_len ms h3]
theorem snd_list {ms : List ME} {es : List Expr} (h : SndV T B X F call ms es) (hl : ms.length < LIM) : Snd T B X F call (.list ms) (.List es pos) :=
  PE.weak (pe_lst h) fun σ H Q ⟨W, S, d, S', I, e1, k⟩ => by
    simp only [ev] at e1
    obtain ⟨⟨ds, S1⟩, h1, h2⟩ := R.bind_eq_ok e1
    cases h2
    refine ⟨W, S, ds, S1, I, h1, fun W1 vs H1 l J r => ?_⟩
    refine ⟨by rw [← r.length, evvs_len _ h1]; exact Nat.le_of_lt (Nat.lt_trans hl lim_line), fun p hp => ?_⟩
    have o : Out T W1 H1 (.nl ds) Q := fun W2 v H2 st rn => k W2 v H2 (l.trans st.toLe) (J.step st) (J.resN st rn)
    exact o.newL J.sub r hp
end
end PM
end

section
set_option Elab.async false
set_option linter.all false
set_option maxRecDepth 100000
/-! PmY: subscripts, fields, calls, methods. -/
namespace PM
open PySem L2 PyProof.Rows
section
variable {T : Tb} {B : Bs} {X : Cx} {F : Fields} {call : CallF}
variable {a b c e : Expr} {ma mb mc me : ME} {pos : Pos}
def RI (T : Tb) : R2 := fun x y H Q => ∃ W dx dy d, Same W.F H ∧ Vw T W H dx x ∧ Vw T W H dy y ∧ idxD dx dy = some d ∧ Out T W H d Q
theorem oi_idx (hK : X.K = T.K) : IxR X (RI T) := by
  intro value slice pins s σ H x y v u Q I rx ry h hs
  obtain ⟨W, dx, dy, d, hw, hx, hy, e, q⟩ := h
  unfold idxD at e
  split at e
  · obtain ⟨k, hk, he⟩ := Option.bind_eq_some_iff.mp e
    obtain ⟨l, vs, rfl, h1, h2⟩ := hx
    cases vw_int hy
    obtain ⟨z, hz, rz⟩ := h2.get he
    refine ix_list value slice pins s σ H _ _ v u Q I rx ry ⟨l, vs, _, z, rfl, rfl, .inl h1, ?_, q.val hw rz⟩ hs
    exact Option.bind_eq_some_iff.mpr ⟨k, by rw [← h2.length]; exact hk, hz⟩
  · obtain ⟨k, hk, he⟩ := Option.bind_eq_some_iff.mp e
    obtain ⟨l, vs, rfl, h1, h2⟩ := vw_tup hx
    cases vw_int hy
    obtain ⟨z, hz, rz⟩ := h2.get he
    refine ix_tup value slice pins s σ H _ _ v u Q I rx ry ⟨l, vs, _, z, rfl, rfl, hK ▸ sqT_mono hw h1, ?_, q.val hw rz⟩ hs
    exact Option.bind_eq_some_iff.mpr ⟨k, by rw [← h2.length]; exact hk, hz⟩
  · split at e
    · rename_i hl
      unfold strAt at e
      obtain ⟨k, hk, he⟩ := Option.bind_eq_some_iff.mp e
      obtain ⟨c, hc, rfl⟩ := Option.map_eq_some_iff.mp he
      cases vw_str hx
      cases vw_int hy
      refine ix_str value slice pins s σ H _ _ v u Q I rx ry ⟨_, _, c, rfl, rfl, Nat.le_of_lt (Nat.lt_trans hl lim_line), ?_, q.str hw⟩ hs
      unfold atI
      rw [Array.length_toList]
      exact Option.bind_eq_some_iff.mpr ⟨k, hk, hc⟩
    · cases e
  · split at e
    · simp only [Vw, Rep] at hx
    · cases e
  · cases e
theorem snd_idx (hK : X.K = T.K) (ha : Snd T B X F call ma a) (hb : Snd T B X F call mb b) (hs : PlainIx b) : Snd T B X F call (.idx ma mb) (.Subscript a b pos) :=
  PE.weak (pe_ix (oi_idx hK) ha hb hs) fun σ H Q ⟨W, S, d, S', I, e1, k⟩ => two I e1 k fun W1 x y H1 dx dy h1 h2 h3 h4 h5 => ⟨W1, dx, dy, d, h1, h2, h3, h4, h5⟩
/-- a bound of a slice -/
def TO' (T : Tb) (B : Bs) (m : PS → R (Option Int × PS)) : TO := fun σ H Q => ∃ W S o S', Rel T B W S σ H ∧ m S = .ok (o, S') ∧ ∀ W' H', Le W W' → Rel T B W' S' σ H' → Q o H'
abbrev SndO (T : Tb) (B : Bs) (X : Cx) (F : Fields) (call : CallF) (m : Option ME) (e : Option Expr) : Prop := PO X e (TO' T B (fun S => evo F call m S))
theorem PO.weak {X : Cx} {e : Option Expr} {t t' : TO} (h : PO X e t) (k : ∀ σ H Q, t' σ H Q → t σ H Q) : PO X e t' := ⟨fun pins s σ H Q I q => h.run pins s σ H Q I (k σ H Q q)⟩
theorem sndo_none : SndO T B X F call none none := PO.weak po_none fun σ H Q ⟨W, S, o, S', I, e1, k⟩ => by
  cases e1
  exact k W H (Le.refl W) I
theorem sndo_some (ha : Snd T B X F call ma a) : SndO T B X F call (some ma) (some a) := PO.weak (po_some ha) fun σ H Q ⟨W, S, o, S', I, e1, k⟩ => by
  obtain ⟨⟨d1, S1⟩, h1, h2⟩ := R.bind_eq_ok e1
  obtain ⟨i, h2, h3⟩ := R.bind_eq_ok h2
  have := use_i h2
  subst this
  cases h3
  refine use_b I h1 fun W1 v H1 l J b => ?_
  have b' : v = .int i := by simpa only [Bo, Rep] using b
  exact ⟨i, b', k W1 H1 l J⟩
def RS (T : Tb) : V → Option Int → Option Int → Hp → VK → Prop := fun x lo hi H Q => ∃ W dx d, Same W.F H ∧ Vw T W H dx x ∧ sliceD dx lo hi = some d ∧ Out T W H d Q
theorem sliceL_eq (xs : List V) (lo hi : Option Int) : cutV xs lo hi = sliceL xs lo hi := rfl
theorem Reps.slice {W : Wd} {ds : List D} {vs : List V} (h : Reps T W ds vs) (lo hi : Option Int) : Reps T W (sliceL ds lo hi) (sliceL vs lo hi) := by
  unfold sliceL
  rw [h.length]
  exact (h.drop _).take _
theorem os_slice (hK : X.K = T.K) : SlR X (RS T) := by
  intro pins s σ H x v vl vu lo hi sl Q I rx hsl pl pu h
  obtain ⟨W, dx, d, hw, hx, e, q⟩ := h
  unfold sliceD at e
  split at e
  · cases e
    obtain ⟨l, vs, rfl, h1, h2⟩ := hx
    exact sl_list pins s σ H _ v vl vu lo hi sl Q I rx hsl pl pu ⟨l, vs, rfl, .inl h1, fun p hp => q.newL hw (h2.slice lo hi) hp⟩
  · cases e
    rename_i ds
    obtain ⟨l, vs, rfl, h1, h2⟩ := vw_tup hx
    refine sl_tupA pins s σ H _ v vl vu lo hi sl Q I rx hsl pl pu ⟨l, vs, rfl, hK ▸ sqT_mono hw h1, fun hh => ?_, fun _ p hp => q.newT hw (h2.slice lo hi) hp⟩
    have e2 : sliceL ds lo hi = ds := by
      unfold sliceL
      rw [h2.length, hh.1, hh.2, Nat.sub_zero, List.drop_zero, ← h2.length, List.take_length]
    rw [e2] at q
    exact q.val hw (by simp only [Rep]; exact ⟨l, vs, rfl, h1, h2⟩)
  · cases e
theorem snd_slice (hK : X.K = T.K) {lo hi : Option Expr} {ml mh : Option ME} {p2 : Pos} (ha : Snd T B X F call ma a) (hl : SndO T B X F call ml lo) (hh : SndO T B X F call mh hi) : Snd T B X F call (.slice ma ml mh) (.Subscript a (.Slice lo hi none p2) pos) :=
  PE.weak (pe_slice (os_slice hK) ha hl hh) fun σ H Q ⟨W, S, d, S', I, e1, k⟩ => by
    simp only [ev] at e1
    obtain ⟨⟨d1, S1⟩, h1, e1⟩ := R.bind_eq_ok e1
    obtain ⟨⟨o1, S2⟩, h2, e1⟩ := R.bind_eq_ok e1
    obtain ⟨⟨o2, S3⟩, h3, e1⟩ := R.bind_eq_ok e1
    replace e1 := ofO_eq_ok e1
    simp only [Option.bind_eq_some_iff, Option.map_eq_some_iff] at e1
    obtain ⟨x, hx, z, hz, e1⟩ := e1
    cases e1
    refine use_b I h1 fun W1 v1 H1 l1 I1 b1 => ?_
    refine ⟨W1, S1, o1, S2, I1, h2, fun W2 H2 l2 I2 => ⟨W2, S2, o2, S', I2, h3, fun W3 H3 l3 I3 => ?_⟩⟩
    exact ⟨W3, x, d, I3.sub, I3.view ((b1.mono l2).mono l3) hx, hz, fun W4 v H4 st rn => k W4 v H4 (((l1.trans l2).trans l3).trans st.toLe) (I3.step st) (I3.resN st rn)⟩
section
open HT
variable {prog : Program} {w : World} {A : Around} {E : Value → Shared → Prop} {s : Shared}
theorem rev_pickL (l : List Value) : ((List.range l.length).filterMap fun (k : Nat) => l[(((l.length : Nat) : Int) - 1 + (k : Int) * (-1)).toNat]?) = l.reverse := by
  have e2 : ∀ (ks : List Nat), (∀ k ∈ ks, k < l.length) → ks.filterMap (fun (k : Nat) => l[(((l.length : Nat) : Int) - 1 + (k : Int) * (-1)).toNat]?) = ks.map fun k => l.reverse.getD k .none := fun ks => by
    induction ks with
    | nil => intro _; rfl
    | cons k ks ih =>
      intro h
      have hk := h k (List.mem_cons_self ..)
      have e1 : (((l.length : Nat) : Int) - 1 + (k : Int) * (-1)).toNat = l.length - 1 - k := by omega
      have e3 : l[(((l.length : Nat) : Int) - 1 + (k : Int) * (-1)).toNat]? = some (l.reverse.getD k .none) := by
        rw [e1, List.getD_eq_getElem?_getD, List.getElem?_reverse hk, List.getElem?_eq_getElem (by omega)]
        rfl
      simp only [List.filterMap_cons, e3, List.map_cons]
      rw [ih fun j hj => h j (List.mem_cons_of_mem _ hj)]
  rw [e2 _ fun k h => List.mem_range.mp h]
  apply List.ext_getElem?
  intro i
  rw [List.getElem?_map]
  by_cases hi : i < l.length
  · rw [List.getElem?_range hi]
    show some (l.reverse.getD i .none) = _
    rw [List.getD_eq_getElem?_getD, List.getElem?_eq_getElem (by simpa using hi)]
    rfl
  · rw [List.getElem?_eq_none (by simpa using hi), List.getElem?_eq_none (by simpa using hi)]
    rfl
theorem rev_pick (items : Array Value) : ((List.range items.size).filterMap fun (k : Nat) => items[(((items.size : Nat) : Int) - 1 + (k : Int) * (-1)).toNat]?) = items.toList.reverse := by
  obtain ⟨l⟩ := items
  rw [show (⟨l⟩ : Array Value) = l.toArray from rfl]
  simp only [List.size_toArray, List.getElem?_toArray]
  exact rev_pickL l
theorem getItem_tuple_rev {t sl : Addr} {items : Array Value} {vl vu vs : Value} {Q : Value → Shared → Prop} (ht : IsTup s.heap t items) (hs : s.heap.IsSliceOf sl vl vu vs) (pl : IsPart vl none) (pu : IsPart vu none) (ps : IsPart vs (some (-1)))
    (h : Q (.ref s.heap.objs.size) { s with heap := s.heap.push { cls := .type "tuple", data := .seq items.toList.reverse.toArray } })
    (hsz : items.size ≤ sizeLine) : wpAny (model prog w) A (getItem (.ref t) (.ref sl)) Q E s := by
  have hok : sizeOk (.seq items.toList.reverse.toArray) := by
    show items.toList.reverse.toArray.size ≤ sizeLine
    simpa using hsz
  obtain ⟨os, hos, hcs, hds⟩ := id hs
  have hTs : s.TypeIs (.ref sl) "slice" := ⟨os, hos, hcs⟩
  unfold getItem
  try with_reducible refine wpAny_holding ?_
  first | refine wpAny_bind (wpAny_pure ?_) | skip
  refine wpAny_bind (wpAny_sequenceKey ht.typeIs (by decide) ?_)
  refine wpAny_bind (wpAny_callSpecial?_slot (name := Str.ofString "__getitem__") ht.typeIs PyProof.Rows.slot_tuple_getitem (wpAny_call_entry PyProof.Rows.slot_tuple_getitem ht.typeIs entry_tuple_getitem ?_ (args_tuple_getitem _ _)))
  show wpAny _ _ (Builtin.Tuple.tupleItemsOf (.ref t) >>= _) _ _ s
  refine wpAny_bind (tupleItemsOf_ ht ?_)
  refine wpAny_bind (wpAny_typeOf hTs ?_)
  rw [if_pos (by decide)]
  have app : ∀ {A : Around} {E : Value → Shared → Prop} {Q : Int × Int × Nat → Shared → Prop}, Q (((items.size : Nat) : Int) - 1, -1, items.size) s → wpAny (model prog w) A (Builtin.Slice.sliceApplied (.ref sl) (pure ((items.size : Nat) : Int))) Q E s := fun {A E Q} h => by
    unfold Builtin.Slice.sliceApplied Builtin.Slice.sliceFields
    refine wpAny_bind (wpAny_bind (wpAny_field hos hds (x := vl) rfl (wpAny_bind (wpAny_field hos hds (x := vu) rfl (wpAny_bind (wpAny_field hos hds (x := vs) rfl (wpAny_pure ?_)))))))
    refine wpAny_bind (slicePart_ ps ?_)
    show wpAny _ _ (if ((-1 : Int) == 0) = true then _ else _) _ _ s
    rw [if_neg (by decide)]
    refine wpAny_bind (slicePart_ pl (wpAny_bind (slicePart_ pu (wpAny_bind (wpAny_pure ?_)))))
    have e1 : Builtin.Slice.sliceAdjust none none (-1) ((items.size : Nat) : Int) = (((items.size : Nat) : Int) - 1, -1) := by
      unfold Builtin.Slice.sliceAdjust
      simp
    have e2 : Builtin.Slice.slicePlaces (((items.size : Nat) : Int) - 1) (-1) (-1) = items.size := by
      unfold Builtin.Slice.slicePlaces
      simp
      omega
    show wpAny _ _ (match Builtin.Slice.sliceAdjust none none (-1) ((items.size : Nat) : Int) with | (lo, hi) => pure (lo, (-1 : Int), Builtin.Slice.slicePlaces lo hi (-1))) _ _ s
    rw [e1]
    show wpAny _ _ (pure (((items.size : Nat) : Int) - 1, (-1 : Int), Builtin.Slice.slicePlaces (((items.size : Nat) : Int) - 1) (-1) (-1))) _ _ s
    rw [e2]
    exact wpAny_pure h
  refine wpAny_bind (app ?_)
  show wpAny _ _ (if ((((items.size : Nat) : Int) - 1 == 0) && ((-1 : Int) == 1) && (items.size == items.size)) = true then _ else _) _ _ s
  rw [if_neg (by simp), rev_pick]
  first
    | exact wpAny_bind (m := Builtin.Tuple.tupleExact _) (wpAny_newObj_type (wpAny_pure ⟨_, rfl, wpAny_pure h⟩) hok)
    | exact wpAny_bind (m := Builtin.Tuple.tupleExact _) (wpAny_newObj_type (wpAny_bind (wpAny_pure (wpAny_pure ⟨_, rfl, wpAny_pure h⟩))) hok)
    | exact wpAny_bind (wpAny_bind (m := Builtin.Tuple.tupleExact _) (wpAny_newObj_type (wpAny_pure (wpAny_pure ⟨_, rfl, wpAny_pure h⟩)) hok))
    | exact wpAny_bind (wpAny_bind (m := Builtin.Tuple.tupleExact _) (wpAny_newObj_type (wpAny_pure ⟨_, rfl, wpAny_pure h⟩) hok))
end
theorem snd_rev (hK : X.K = T.K) (ha : Snd T B X F call ma a) {k1 : Nat} {p1 p2 p3 : Pos} : Snd T B X F call (.rev ma) (.Subscript a (.Slice none none (some (.UnaryOp .USub (.Constant (.int 1) k1 p1) p2)) p3) pos) := by
  refine ⟨fun pins s σ H Q Iv ⟨W, S, d, S', I, e1, k⟩ => ?_⟩
  simp only [ev] at e1
  obtain ⟨⟨d1, S1⟩, h1, e1⟩ := R.bind_eq_ok e1
  replace e1 := ofO_eq_ok e1
  simp only [Option.bind_eq_some_iff, Option.map_eq_some_iff] at e1
  obtain ⟨x, hx, z, hz, e1⟩ := e1
  cases e1
  refine Subscript_ (thn (ha.run pins s σ H _ Iv (use_b I h1 fun W1 v1 H1 l1 I1 b1 => (show ∃ W1, Le W W1 ∧ Rel T B W1 S' σ H1 ∧ Bo T W1 σ d1 v1 from ⟨W1, l1, I1, b1⟩))) fun v s1 ⟨v1, H1, Iv1, r1, W1, l1, I1, b1⟩ => ?_)
  have vw := I1.view b1 hx
  have q : Out T W1 H1 d Q := fun W4 v H4 st rn => k W4 v H4 (l1.trans st.toLe) (I1.step st) (I1.resN st rn)
  have hst : PO X (some (.UnaryOp .USub (.Constant (.int 1) k1 p1) p2)) (tPart (tUn (rU fun i => .int (-i)) (tC (.int 1)))) := po_some (pe_un un_neg pe_int)
  refine wpAny_Slice (thn (po_none.run pins s1 σ H1 (fun o H2 => o = none ∧ H2 = H1) Iv1 ⟨rfl, rfl⟩) fun vl s2 ⟨l, H2, Iv2, pl, el, e2⟩ => ?_)
  subst el e2
  refine thn (po_none.run pins s2 σ H2 (fun o H3 => o = none ∧ H3 = H2) Iv2 ⟨rfl, rfl⟩) fun vu s3 ⟨u, H3, Iv3, pu, eu, e3⟩ => ?_
  subst eu e3
  refine thn (hst.run pins s3 σ H3 (fun o H4 => o = some (-1) ∧ H4 = H3) Iv3 ⟨1, rfl, -1, rfl, rfl, rfl⟩) fun vs s4 ⟨o, H4, Iv4, ps, eo, e4⟩ => ?_
  subst eo e4
  have I5 : Inv X pins σ H4 { s4 with heap := s4.heap.push { cls := .type "slice", data := .fields #[vl, vu, vs] } } := Iv4.kept (t' := s4.toks) fun b ob q => Heap.get?_push_of_some _ q
  unfold revD at hz
  split at hz
  · cases hz
    obtain ⟨l, ws, rfl, h1, h2⟩ := vw
    cases r1
    obtain ⟨its, r, ht, hz⟩ := I5.list (.inl h1)
    have hlen := r.length
    refine tail_any (ops := [.ref l, .ref s4.heap.objs.size]) ht.isList.typeIs (PySem.slot_list_getitem.lookup) ?_ (by with_unfolding_all rfl)
    refine wpAny_getItem_list_slice ht.isList (Heap.IsSliceOf.new _ vl vu vs) pl pu ps (by decide) ?_ (by rw [List.size_toArray]; omega)
    rw [PySem.W.krv_pick]
    refine ⟨.ref _, _, I5.laid (t' := s4.toks) (o := .lst ws.reverse) (fun b ob q => Heap.get?_push_of_some _ q) (Nat.le_refl _) ?_, rfl, q.newL I1.sub h2.reverse (I5.hok.fresh (Nat.le_refl _))⟩
    exact ⟨by rw [List.length_reverse]; exact hz, _, 0, r.reverse, Heap.get?_push_size _ rfl⟩
  · cases hz
    obtain ⟨l, ws, rfl, h1, h2⟩ := vw_tup vw
    cases r1
    obtain ⟨its, r, ht, hz⟩ := Inv.tupleR hK I5 (sqT_mono I1.sub h1)
    refine tail_any (ops := [.ref l, .ref s4.heap.objs.size]) ht.typeIs (PyProof.Rows.slot_tuple_getitem.lookup) ?_ (by with_unfolding_all rfl)
    refine getItem_tuple_rev ht (Heap.IsSliceOf.new _ vl vu vs) pl pu ps ?_ (by rw [List.size_toArray, ← r.length]; exact hz)
    exact ⟨.ref _, _, I5.laid (t' := s4.toks) (o := .tup ws.reverse) (fun b ob q => Heap.get?_push_of_some _ q) (Nat.le_refl _) ⟨by rw [List.length_reverse]; exact hz, its.reverse, r.reverse, IsTup.new _ _⟩, rfl, q.newT I1.sub h2.reverse (I5.hok.fresh (Nat.le_refl _))⟩
  · cases hz
end
end PM
end

section
set_option Elab.async false
set_option linter.all false
set_option maxRecDepth 100000
/-! PmZ: fields, calls of defs, lists' methods. -/
namespace PM
open PySem L2 PyProof.Rows
section
variable {T : Tb} {B : Bs} {X : Cx} {call : CallF}
variable {a b c e : Expr} {ma mb mc me : ME} {pos : Pos}
/-- the classes' facts -/
structure ClsOk (T : Tb) : Prop where
  cl : ∀ c, T.fl c ≠ [] → Cls T.K (T.ca c)
  na : ∀ c f, f ∈ T.fl c → NoAttr T.K (T.ca c) (T.fn f)
theorem fieldAt_ok : ∀ {ks : List Nat} {vs : List D} {f : Nat} {d : D}, fieldAt ks vs f = some d → ∃ i : Nat, ks[i]? = some f ∧ vs[i]? = some d
  | [], _, _, _, h => by cases h
  | _ :: _, [], _, _, h => by cases h
  | k :: ks, v :: vs, f, d, h => by
    unfold fieldAt at h
    split at h
    · cases h
      rename_i e
      subst e
      exact ⟨0, rfl, rfl⟩
    · obtain ⟨i, h1, h2⟩ := fieldAt_ok h
      exact ⟨i + 1, by simpa using h1, by simpa using h2⟩
theorem snd_attr (hK : X.K = T.K) (C : ClsOk T) {f : Nat} {x : PySem.Str} (hx : T.fn f = x) (ha : Snd T B X T.fl call ma a) (hb : attributeBase a x X.env (eval a X.env) = eval a X.env) : Snd T B X T.fl call (.attr ma f) (.Attribute a x pos) :=
  PE.weak (pe_fld ha hb) fun σ H Q ⟨W, S, d, S', I, e1, k⟩ => by
    subst hx
    simp only [ev] at e1
    obtain ⟨⟨d1, S1⟩, h1, e1⟩ := R.bind_eq_ok e1
    replace e1 := ofO_eq_ok e1
    obtain ⟨z, hz, e1⟩ := Option.map_eq_some_iff.mp e1
    obtain rfl : z = d := congrArg Prod.fst e1
    obtain rfl : S1 = S' := congrArg Prod.snd e1
    refine use_b I h1 fun W1 v1 H1 l1 I1 b1 => ?_
    unfold attrD at hz
    cases d1 with
    | obj c vs =>
      obtain ⟨i, h2, h3⟩ := fieldAt_ok hz
      have r : Rep T W1 (.obj c vs) v1 := b1
      simp only [Rep] at r
      obtain ⟨p, dx, fs, ws, rfl, ⟨hp, _⟩, ⟨q1, q2, _⟩, hr⟩ := r
      obtain ⟨w', hw, rw'⟩ := hr.get h3
      have hf : f ∈ T.fl c := List.mem_of_getElem? h2
      refine ⟨p, T.ca c, dx, fs, w', rfl, I1.sub _ _ hp, hK ▸ C.cl c (List.ne_nil_of_mem hf), hK ▸ C.na c f hf, q1 i f w' h2 hw, k W1 w' H1 l1 I1 (Rep.res rw')⟩
    | ref n =>
      simp only at hz
      cases hc : S1.C[n]? with
      | none => rw [hc] at hz; cases hz
      | some cell =>
        rw [hc] at hz
        cases cell <;> try (cases hz; done)
        rename_i c ks vs
        obtain ⟨i, h2, h3⟩ := fieldAt_ok hz
        have r : Rep T W1 (.ref n) v1 := b1
        simp only [Rep] at r
        obtain ⟨p, hp, rfl⟩ := r
        obtain ⟨_, dx, fs, ws, hq, ⟨q1, q2, _⟩, hr, _, _, hk⟩ := I1.cells n p _ hp hc
        obtain ⟨w', hw, rw'⟩ := hr.get h3
        have hf : f ∈ T.fl c := hk f (List.mem_of_getElem? h2)
        exact ⟨p, T.ca c, dx, fs, w', rfl, hq, hK ▸ C.cl c (List.ne_nil_of_mem hf), hK ▸ C.na c f hf, q1 i f w' h2 hw, k W1 w' H1 l1 I1 (Rep.res rw')⟩
    | _ => cases hz
/-! ### calls of defs -/
def spOf (T : Tb) (call : CallF) (f n : Nat) : Sp := fun vs H Q _ => vs.length = n ∧ ∃ W C ds d C', Rel T ⟨H, W⟩ W ⟨[], C⟩ [] H ∧ Reps T W ds vs ∧ call f ds C = .ok (d, C') ∧
  ∀ W' v H', Rel T ⟨H, W⟩ W' ⟨[], C'⟩ [] H' → Rep T W' d v → Q v H'
structure Fok (T : Tb) (X : Cx) (call : CallF) (f n : Nat) : Prop where
  ex : ∃ k fd ps, FnOk X.prog X.w X.K X.mg X.base CX0 k (T.fa f) fd ps (spOf T call f n) ∧ Room k X.A ∧ Binds X.K fd ps [] ∧ PySem.W.keepIn X.K (.ref (T.fa f)) = true
theorem own_nil {σ : L2.St} {i : Nat} {a : Addr} : ¬ Own [] σ i a := fun ⟨⟨xs, h⟩, _⟩ => by
  unfold slot at h
  simp at h
theorem slot_nil {i : Nat} {d : D} (h : slot [] i = some d) : False := by
  unfold slot at h
  simp at h
section
variable {W W' : Wd} {S : PS} {σ : L2.St} {H H' : Hp} {C' : List D}
/-- the state as a callee sees it -/
theorem Rel.asked (I : Rel T B W S σ H) : Rel T ⟨H, W⟩ W ⟨[], S.C⟩ [] H where
  len := rfl
  sub := I.sub
  slots := fun i d h => (slot_nil h).elim
  excl := fun i j a _ h _ => (own_nil h).elim
  ownc := fun i a h => (own_nil h).elim
  adl := I.adl
  adn := I.adn
  cells := I.cells
  fr1 := fun a o h _ => h
  fr2 := fun a h => .inl h
  le := Le.refl W
  newc := fun n a h e => absurd (List.getElem?_eq_some_iff.mp e).1 (Nat.not_lt.mpr h)
theorem Rel.cell_some (I : Rel T B W S σ H) {a : Addr} (h : a ∈ W.ad) : H a ≠ none := fun z => by
  obtain ⟨n, hn⟩ := List.getElem?_of_mem h
  have hl : n < S.C.length := by rw [← I.adl]; exact (List.getElem?_eq_some_iff.mp hn).1
  obtain ⟨_, ok⟩ := I.cells n a _ hn (List.getElem?_eq_getElem hl)
  cases hc : S.C[n] <;> rw [hc] at ok <;> first
    | (obtain ⟨vs, e, _⟩ := ok; rw [e] at z; cases z; done)
    | (obtain ⟨_, _, _, e, _⟩ := ok; rw [e] at z; cases z; done)
    | exact ok.elim
theorem Rel.own_some (I : Rel T B W S σ H) {i : Nat} {a : Addr} (h : Own S.L σ i a) : ∃ vs, H a = some (.lst vs) ∧ W.F a = none := by
  obtain ⟨⟨xs, h2⟩, h3⟩ := h
  obtain ⟨v, e1, a', vs, e2, e3, e4, _⟩ := I.slots i _ h2
  rw [h3] at e1
  cases e1
  cases e2
  exact ⟨vs, e3, e4⟩
/-- behind a call -/
theorem Rel.after (I : Rel T B W S σ H) (J : Rel T ⟨H, W⟩ W' ⟨[], C'⟩ [] H') : Rel T B W' ⟨S.L, C'⟩ σ H' := by
  have old : ∀ a, B.H a ≠ none → a ∉ B.W.ad → a ∉ W.ad := fun a h1 h2 hm => by
    obtain ⟨n, hn⟩ := List.getElem?_of_mem hm
    by_cases hl : n < B.W.ad.length
    · exact h2 (by
        have := pre_get I.le.2 (List.getElem?_eq_getElem hl)
        rw [hn] at this
        cases this
        exact List.getElem_mem hl)
    · exact h1 (I.newc n a (by omega) hn)
  have fresh : ∀ a, H a = none → B.H a = none := fun a h => by
    cases e : B.H a with
    | none => rfl
    | some o =>
      by_cases hm : a ∈ B.W.ad
      · exact absurd h (I.cell_some (List.IsPrefix.subset I.le.2 hm))
      · have := I.fr1 a o e hm
        rw [h] at this
        cases this
  refine ⟨I.len, J.sub, fun i d hs => ?_, I.excl, fun i a ho => ?_, J.adl, J.adn, J.cells, fun a o h1 h2 => ?_, fun a h => ?_, I.le.trans J.le, fun n a hn h => ?_⟩
  · obtain ⟨v, e1, ok⟩ := I.slots i d hs
    refine ⟨v, e1, ?_⟩
    cases d with
    | nl xs =>
      obtain ⟨a, vs, rfl, h1, h2, h3⟩ := ok
      have own : Own S.L σ i a := ⟨⟨xs, hs⟩, e1⟩
      have hn := (I.ownc i a own).1
      refine ⟨a, vs, rfl, J.fr1 a _ h1 hn, ?_, Reps.mono J.le _ h3⟩
      cases q : W'.F a with
      | none => rfl
      | some o =>
        rcases J.fr2 a (by rw [q]; simp) with z | z | z
        · exact absurd h2 z
        · have z' : H a = none := z
          rw [h1] at z'
          cases z'
        · exact absurd z hn
    | _ => exact Rep.mono J.le _ ok
  · obtain ⟨c1, c2⟩ := I.ownc i a ho
    obtain ⟨vs, h1, _⟩ := I.own_some ho
    refine ⟨fun hm => ?_, c2⟩
    obtain ⟨n, hn⟩ := List.getElem?_of_mem hm
    by_cases hl : n < W.ad.length
    · have := pre_get J.le.2 (List.getElem?_eq_getElem hl)
      rw [hn] at this
      cases this
      exact c1 (List.getElem_mem hl)
    · have := J.newc n a (by show W.ad.length ≤ n; omega) hn
      rw [show (⟨H, W⟩ : Bs).H a = H a from rfl, h1] at this
      cases this
  · have h3 := I.fr1 a o h1 h2
    exact J.fr1 a o h3 (old a (by rw [h1]; simp) h2)
  · rcases J.fr2 a h with z | z | z
    · exact I.fr2 a z
    · exact .inr (.inl (fresh a z))
    · by_cases hm : a ∈ B.W.ad
      · exact .inr (.inr hm)
      · refine .inr (.inl ?_)
        cases e : B.H a with
        | none => rfl
        | some o => exact absurd z (old a (by rw [e]; simp) hm)
  · by_cases hl : n < W.ad.length
    · have := pre_get J.le.2 (List.getElem?_eq_getElem hl)
      rw [h] at this
      cases this
      exact I.newc n _ hn (List.getElem?_eq_getElem hl)
    · exact fresh a (J.newc n a (by show W.ad.length ≤ n; omega) h)
end
/-- f(e, ..) -/
theorem snd_call {f : Nat} {x : PySem.Str} {p : Pos} {es : List Expr} {ms : List ME} (hf : Fok T X call f (ma :: ms).length) (hg : Gl X x) (hm : X.mg x = some (.ref (T.fa f))) (ha : SndV T B X T.fl call (ma :: ms) (a :: es)) (hdb : (x == ("__debug__" : PySem.Str)) = false)
    (he : starEach (a :: es) X.env = (false, eval a X.env) :: starEach es X.env) (hpl : (backTo pos (starEach es X.env)).any (·.1) = false) :
    Snd T B X T.fl call (.call f (ma :: ms)) (.Call (.Name x p) (a :: es) [] pos) := by
  obtain ⟨k, fd, ps, F, hr, hb, hk⟩ := hf.ex
  refine PE.weak (pe_call F hr hg hm hk hb .nil pass0 ha hdb he hpl) fun σ H Q ⟨W, S, d, S', I, e1, k'⟩ => ?_
  simp only [ev] at e1
  obtain ⟨⟨ds, S1⟩, h1, e1⟩ := R.bind_eq_ok e1
  obtain ⟨⟨d1, C1⟩, h2, e1⟩ := R.bind_eq_ok e1
  cases e1
  refine ⟨W, S, ds, S1, I, h1, fun W1 vs H1 l J r => ?_⟩
  refine ⟨?_, W1, S1.C, ds, _, C1, J.asked, by simpa using r, h2, fun W2 v H2 K2 rv => ?_⟩
  · rw [List.append_nil, ← r.length, evvs_len _ h1]
  · exact k' W2 v H2 (l.trans K2.le) (J.after K2) (Rep.res rv)
/-! ### a list changed in place -/
section
variable {W W' : Wd} {S S' : PS} {σ : L2.St} {H H' : Hp}
theorem Rel.chg {o : D} {v : V} {h : List D → Option (List D)} (I : Rel T B W S σ H) (b : Bo T W σ o v) (e : chg S o h = some S') :
    ∃ a xs ys vs, v = .ref a ∧ ownL S o = some xs ∧ h xs = some ys ∧ H a = some (.lst vs) ∧ Reps T W xs vs ∧ ∀ vs', Reps T W ys vs' → Rel T B W S' σ (upd H a (.lst vs')) := by
  cases o with
  | loc i =>
    simp only [PM.chg] at e
    cases hs : slot S.L i with
    | none => rw [hs] at e; cases e
    | some c =>
      rw [hs] at e
      cases c <;> try (cases e; done)
      rename_i xs
      obtain ⟨ys, hy, rfl⟩ := Option.map_eq_some_iff.mp e
      obtain ⟨v', e1, a, vs, rfl, h1, h2, h3⟩ := I.slots i _ hs
      have bv : σ[i]? = some (some v) := b
      rw [bv] at e1
      cases e1
      have own : Own S.L σ i a := ⟨⟨xs, hs⟩, bv⟩
      obtain ⟨c1, c2⟩ := I.ownc i a own
      refine ⟨a, xs, ys, vs, rfl, by simp only [ownL, hs], hy, h1, h3, fun vs' r => ?_⟩
      have hi := slot_lt hs
      have ownOld : ∀ {j b}, Own (S.L.set i (some (.nl ys))) σ j b → Own S.L σ j b := fun {j b} ⟨⟨zs, q1⟩, q2⟩ => by
        rw [slot_set hi] at q1
        split at q1
        · rename_i e
          subst e
          exact ⟨⟨xs, hs⟩, q2⟩
        · exact ⟨⟨zs, q1⟩, q2⟩
      refine ⟨by simpa [setS] using I.len, fun p q w => ?_, fun j d hj => ?_, fun j k p hjk o1 o2 => I.excl j k p hjk (ownOld o1) (ownOld o2), fun j p o1 => I.ownc j p (ownOld o1), I.adl, I.adn, fun n p cc q1 q2 => ?_, fun p q w1 w2 => ?_, I.fr2, I.le, I.newc⟩
      · have hne : p ≠ a := fun z => by
          subst z
          rw [h2] at w
          cases w
        rw [upd_ne hne]
        exact I.sub p q w
      · have hj' : slot (S.L.set i (some (.nl ys))) j = some d := hj
        rw [slot_set hi] at hj'
        split at hj'
        · rename_i ee
          subst ee
          cases hj'
          exact ⟨_, bv, a, vs', rfl, upd_same, h2, r⟩
        · rename_i hne
          obtain ⟨w', q1, ok⟩ := I.slots j d hj'
          refine ⟨w', q1, ?_⟩
          cases d with
          | nl zs =>
            obtain ⟨p, us, rfl, k1, k2, k3⟩ := ok
            have hpa : p ≠ a := fun z => by
              subst z
              exact I.excl i j p hne own ⟨⟨zs, hj'⟩, q1⟩
            exact ⟨p, us, rfl, by rw [upd_ne hpa]; exact k1, k2, k3⟩
          | _ => exact ok
      · obtain ⟨k1, ok⟩ := I.cells n p cc q1 q2
        refine ⟨k1, ?_⟩
        have hpa : p ≠ a := fun z => by
          subst z
          exact c1 (List.mem_of_getElem? q1)
        cases cc with
        | nl zs =>
          obtain ⟨us, k2, k3⟩ := ok
          exact ⟨us, by rw [upd_ne hpa]; exact k2, k3⟩
        | ins c ks ds =>
          obtain ⟨dx, fs, us, k2, k3⟩ := ok
          exact ⟨dx, fs, us, by rw [upd_ne hpa]; exact k2, k3⟩
        | _ => exact ok
      · have hpa : p ≠ a := fun z => by
          subst z
          rw [c2] at w1
          cases w1
        rw [upd_ne hpa]
        exact I.fr1 p q w1 w2
  | ref n =>
    have b' : ∃ a, W.ad[n]? = some a ∧ v = .ref a := by simpa only [Bo, Rep] using b
    obtain ⟨a, ha, rfl⟩ := b'
    simp only [PM.chg] at e
    cases hc : S.C[n]? with
    | none => rw [hc] at e; cases e
    | some cc =>
      rw [hc] at e
      cases cc <;> try (cases e; done)
      rename_i xs
      obtain ⟨ys, hy, rfl⟩ := Option.map_eq_some_iff.mp e
      obtain ⟨h2, vs, h1, h3⟩ := I.cells n a _ ha hc
      refine ⟨a, xs, ys, vs, rfl, by simp only [ownL, hc], hy, h1, h3, fun vs' r => ?_⟩
      have hn : n < S.C.length := (List.getElem?_eq_some_iff.mp hc).1
      refine ⟨I.len, fun p q w => ?_, fun j d hj => ?_, I.excl, I.ownc, by simpa using I.adl, I.adn, fun m p cc q1 q2 => ?_, fun p q w1 w2 => ?_, I.fr2, I.le, I.newc⟩
      · have hne : p ≠ a := fun z => by
          subst z
          rw [h2] at w
          cases w
        rw [upd_ne hne]
        exact I.sub p q w
      · obtain ⟨w', q1, ok⟩ := I.slots j d hj
        refine ⟨w', q1, ?_⟩
        cases d with
        | nl zs =>
          obtain ⟨p, us, rfl, k1, k2, k3⟩ := ok
          have hpa : p ≠ a := fun z => by
            subst z
            exact (I.ownc j p ⟨⟨zs, hj⟩, q1⟩).1 (List.mem_of_getElem? ha)
          exact ⟨p, us, rfl, by rw [upd_ne hpa]; exact k1, k2, k3⟩
        | _ => exact ok
      · have q2' : (S.C.set n (.nl ys))[m]? = some cc := q2
        by_cases hmn : n = m
        · subst hmn
          rw [List.getElem?_set_self hn] at q2'
          rw [ha] at q1
          cases q1
          cases q2'
          exact ⟨h2, vs', upd_same, r⟩
        · rw [List.getElem?_set_ne hmn] at q2'
          obtain ⟨k1, ok⟩ := I.cells m p cc q1 q2'
          refine ⟨k1, ?_⟩
          have hpa : p ≠ a := fun z => by
            subst z
            exact hmn ((List.getElem?_inj (List.getElem?_eq_some_iff.mp ha).1 I.adn).mp (ha.trans q1.symm))
          cases cc with
          | nl zs =>
            obtain ⟨us, k2, k3⟩ := ok
            exact ⟨us, by rw [upd_ne hpa]; exact k2, k3⟩
          | ins c ks ds =>
            obtain ⟨dx, fs, us, k2, k3⟩ := ok
            exact ⟨dx, fs, us, by rw [upd_ne hpa]; exact k2, k3⟩
          | _ => exact ok
      · have hpa : p ≠ a := fun z => by
          subst z
          have hm : p ∈ W.ad := List.mem_of_getElem? ha
          by_cases hl : n < B.W.ad.length
          · have := pre_get I.le.2 (List.getElem?_eq_getElem hl)
            rw [ha] at this
            cases this
            exact w2 (List.getElem_mem hl)
          · have := I.newc n p (by omega) ha
            rw [w1] at this
            cases this
        rw [upd_ne hpa]
        exact I.fr1 p q w1 w2
  | _ => cases e
theorem Rel.ownL_of {o : D} {v : V} {xs : List D} (I : Rel T B W S σ H) (b : Bo T W σ o v) (e : ownL S o = some xs) : ∃ a vs, v = .ref a ∧ H a = some (.lst vs) ∧ Reps T W xs vs := by
  have : PM.chg S o (fun ys => some ys) ≠ none ∧ True := by
    cases o with
    | loc i =>
      simp only [ownL] at e
      cases hs : slot S.L i with
      | none => rw [hs] at e; cases e
      | some c =>
        rw [hs] at e
        cases c <;> try (cases e; done)
        simp [PM.chg, hs]
    | ref n =>
      simp only [ownL] at e
      cases hc : S.C[n]? with
      | none => rw [hc] at e; cases e
      | some c =>
        rw [hc] at e
        cases c <;> try (cases e; done)
        simp [PM.chg, hc]
    | _ => cases e
  cases q : PM.chg S o (fun ys => some ys) with
  | none => exact absurd q this.1
  | some S' =>
    obtain ⟨a, zs, ys, vs, rfl, h1, h2, h3, h4, _⟩ := I.chg b q
    rw [e] at h1
    cases h1
    exact ⟨a, vs, rfl, h3, h4⟩
end
end
end PM
end

section
set_option Elab.async false
set_option linter.all false
set_option maxRecDepth 100000
/-! PmM: lists' methods. -/
namespace PM
open PySem L2 PyProof.Rows
/-- shapes that are no special ones at the places where they stand -/
def plE : Expr → Bool
  | .Starred _ _ => false
  | .Slice _ _ _ _ => false
  | .Call (.Name _ _) [] [] _ => false
  | _ => true
theorem plE_base {o : Expr} (h : plE o = true) (attr : PySem.Str) (env : Env) : attributeBase o attr env (eval o env) = eval o env := by
  unfold attributeBase
  split
  · rename_i h2
    cases h
  · rfl
theorem plE_star {e : Expr} (h : plE e = true) (es : List Expr) (env : Env) : starEach (e :: es) env = (false, eval e env) :: starEach es env := by
  cases e <;> first | rfl | cases h
theorem plEs_any {es : List Expr} (h : es.all plE = true) (pos : Pos) (env : Env) : (backTo pos (starEach es env)).any (·.1) = false := by
  induction es with
  | nil => rfl
  | cons e es ih =>
    simp only [List.all_cons, Bool.and_eq_true] at h
    rw [plE_star h.1]
    have := ih h.2
    unfold backTo at this ⊢
    rw [List.map_cons, List.any_cons, this]
    rfl
theorem plEs_all {es : List Expr} (h : es.all plE = true) (pos : Pos) (env : Env) : (backTo pos (starEach es env)).all (fun x => !x.1) = true := by
  induction es with
  | nil => rfl
  | cons e es ih =>
    simp only [List.all_cons, Bool.and_eq_true] at h
    rw [plE_star h.1]
    have := ih h.2
    unfold backTo at this ⊢
    rw [List.map_cons, List.all_cons, this]
    rfl
theorem plEs_few {es : List Expr} (h : es.all plE = true) (hl : es.length < 30) (pos : Pos) (env : Env) :
    ((backTo pos (starEach es env)).all (fun x => !x.1) && (backToKw pos (keywordEach [] env)).all (fun x => x.1.isSome)
      && decide (es.length + ([] : List Keyword).length + (if ([] : List Keyword).isEmpty then 0 else 1) < 30)) = true := by
  rw [plEs_all h]
  simp [backToKw, keywordEach, hl]
set_option maxRecDepth 8000 in
theorem extend_tup (l : Addr) (items : Array Value) (n : Nat) (b : Addr) (items2 : Array Value) (n2 : Nat) (dd : Option Addr) (sl : Array (Option Value)) (hs0 : ¬(!items.isEmpty && Builtin.List.listTooLong (items.size + items2.size)) = true) (hs1 : items.size ≤ sizeLine) (hs2 : items.size + items2.size ≤ sizeLine + 1) :
    Meets (Builtin.«list.extend» ⟨[.ref l, .ref b], []⟩) (fun _ R s => s.heap.get? l = some { cls := .type "list", dict := none, data := .seq items n, slots := #[] } ∧ s.heap.get? b = some { cls := .type "tuple", dict := dd, data := .seq items2 n2, slots := sl } ∧ R (.ok (.ret Value.none)) { s with heap := s.heap.update l (Obj.mapSeq fun x => x ++ items2), toks := s.toks }) :=
  .of_wp fun prog w A R s h => by
    obtain ⟨hp, g, d, tk, os⟩ := s; obtain ⟨hl, hb, h⟩ := h; have f1 := PySem.AutoSeq1.idx_int; have f2 := PySem.AutoSeq1.sub_tuple_tuple; have f3 := PySem.AutoSeq1.sub_list_list; have f4 := PySem.AutoSeq1.sub_tuple_list; have f5 := PySem.AutoSeq1.sub_list_tuple;
    have hz' : (items ++ items2).size ≤ sizeLine + 1 := by rw [Array.size_append]; exact hs2
    wp_walk using (wpAny_updateSeq hl rfl (hz := hs1) (_hz' := hz')), wpAny_loadPart' hl, wpAny_loadPart' hb; exact ⟨_, rfl, h⟩
/-- l.extend(a list that is kept, or a tuple) -/
def rExt (K : PySem.W.Frag) : V → List V → Hp → VK → Prop := fun x vs H Q => ∃ l b xs zs, x = .ref l ∧ vs = [.ref b] ∧ H l = some (.lst xs) ∧ (Rd H b (.lst zs) ∨ SqT K H b zs) ∧ xs.length + zs.length ≤ sizeLine ∧ Q .non (upd H l (.lst (xs ++ zs)))
theorem mt_ext {X : Cx} : MtR X "list.extend" (rExt X.K) := by
  intro pins s σ H x vs v us Q I rx rv h
  obtain ⟨l, b, xs, zs, rfl, rfl, hH, hB, hz, q⟩ := h
  cases rx
  obtain ⟨u, rfl, ru⟩ := rv.one
  cases ru
  obtain ⟨z, its, n, r, hl, e⟩ := I.lstM hH
  have door : ∀ its2 : List Value, zs.length = its2.length → ¬ (!its.toArray.isEmpty && Builtin.List.listTooLong (its.toArray.size + its2.toArray.size)) = true := fun its2 h2 => by
    rw [notLongL (by rw [List.size_toArray, List.size_toArray]; omega), Bool.and_false]
    exact Bool.false_ne_true
  rcases hB with hB | hB
  · obtain ⟨z2, its2, n2, r2, e2⟩ := hB.ok I.hok
    have hl2 := r2.length
    refine call_meets F.slot_list_extend ⟨_, e, rfl⟩ F.entry_list_extend (F.args_list_extend_2 _ _)
      (AutoSeq1.list_extend_list_list_0 l its.toArray n b its2.toArray n2 (door its2 hl2) (by rw [List.size_toArray]; omega) (by rw [List.size_toArray, List.size_toArray]; omega)) ⟨e, e2, ?_⟩
    refine ⟨.non, _, I.lset (its' := its ++ its2) hH e (by simp) (r.append r2) ?_, rfl, q⟩
    rw [List.length_append]
    omega
  · obtain ⟨its2, r2, ⟨⟨oc, dd, dt, sl⟩, ho, hc, n2, hd⟩, z2⟩ := I.tuple hB
    simp only at hc hd
    subst hc hd
    have hl2 := r2.length
    refine call_meets F.slot_list_extend ⟨_, e, rfl⟩ F.entry_list_extend (F.args_list_extend_2 _ _)
      (extend_tup l its.toArray n b its2.toArray n2 dd sl (door its2 hl2) (by rw [List.size_toArray]; omega) (by rw [List.size_toArray, List.size_toArray]; omega)) ⟨e, ho, ?_⟩
    refine ⟨.non, _, I.lset (its' := its ++ its2) hH e (by simp) (r.append r2) ?_, rfl, q⟩
    rw [List.length_append]
    omega
section
variable {T : Tb} {B : Bs} {X : Cx} {F : Fields} {call : CallF}
variable {a b c e o : Expr} {ma mb mc me mo : ME} {pos apos : Pos}
theorem ownL_nl {S : PS} {d : D} {xs : List D} (h : ownL S d = some xs) : ∀ ys, d ≠ .nl ys := fun ys z => by
  subst z
  cases h
section
variable {W W' : Wd} {S S' : PS} {σ : L2.St} {H H' : Hp}
/-- an owner stays one -/
theorem Rel.ownL_ty {K : PySem.W.Frag} {d : D} {v : V} {xs : List D} (I : Rel T B W S σ H) (b : Bo T W σ d v) (e : ownL S d = some xs) : tyV K "list" v H := by
  obtain ⟨a, vs, rfl, h, _⟩ := I.ownL_of b e
  exact .inl ⟨rfl, vs, .inl (Rd.of h)⟩
end
theorem R.ofO_bind {α β : Type} {o : Option α} {f : α → R β} {b : β} (h : (ofO o).bind f = .ok b) : ∃ a, o = some a ∧ f a = .ok b := by
  obtain ⟨a, h1, h2⟩ := R.bind_eq_ok h
  exact ⟨a, ofO_eq_ok h1, h2⟩
/-- o.append(e) -/
theorem snd_append (ho : Snd T B X F call mo o) (he : Snd T B X F call me e) (po : plE o = true) (pe : plE e = true) (hl : (apos.endLine == pos.line) = true) : Snd T B X F call (.append mo me) (.Call (.Attribute o "append" apos) [e] [] pos) :=
  have pes : [e].all plE = true := by simp [pe]
  PE.weak (pe_bm PySem.F.plainAttrs_list PySem.F.slot_list_append PySem.F.type_list_append mt_append ho (sndv_cons he sndv_nil (plE_star pe _ _)) (plE_base po _ _) (plEs_few pes (Nat.lt_of_lt_of_le (show 1 < 2 from Nat.lt_succ_self 1) (by omega)) _ _) hl (plE_star pe _ _) rfl) fun σ H Q ⟨W, S, d, S', I, e1, k⟩ => by
    simp only [ev] at e1
    obtain ⟨⟨d1, S1⟩, h1, e1⟩ := R.bind_eq_ok e1
    obtain ⟨xs0, h2, e1⟩ := R.ofO_bind e1
    obtain ⟨⟨d2, S2⟩, h3, e1⟩ := R.bind_eq_ok e1
    replace e1 := ofO_eq_ok e1
    obtain ⟨S3, h4, e1⟩ := Option.map_eq_some_iff.mp e1
    cases e1
    refine use_r I h1 fun W1 v1 H1 l1 I1 r1 => ?_
    have b1 : Bo T W1 σ d1 v1 := r1.bo (ownL_nl h2)
    refine ⟨I1.ownL_ty b1 h2, W1, S1, [d2], S2, I1, ?_, fun W2 vs H2 l2 I2 r2 => ?_⟩
    · simp only [evvs]
      rw [h3]
      rfl
    · obtain ⟨a, xs, ys, vs0, rfl, q1, q2, q3, q4, q5⟩ := I2.chg (b1.mono l2) h4
      simp only [Reps] at r2
      obtain ⟨y, _, rfl, ry, rfl⟩ := r2
      split at q2
      · rename_i hlt
        cases q2
        refine ⟨a, vs0, y, rfl, rfl, q3, ?_, ?_⟩
        · rw [← q4.length]
          exact Nat.lt_trans hlt lim_line
        · have J := q5 (vs0 ++ [y]) (q4.append (Reps.cons ry Reps.nil))
          exact k W2 .non _ (l1.trans l2) J (Rep.res (by simp only [Rep]))
      · cases q2
/-- o.pop() -/
theorem snd_pop (ho : Snd T B X F call mo o) (po : plE o = true) (hl : (apos.endLine == pos.line) = true) : Snd T B X F call (.pop mo) (.Call (.Attribute o "pop" apos) [] [] pos) :=
  PE.weak (pe_bm0 PySem.F.plainAttrs_list PySem.F.slot_list_pop PySem.F.type_list_pop mt_pop ho (plE_base po _ _) hl) fun σ H Q ⟨W, S, d, S', I, e1, k⟩ => by
    simp only [ev] at e1
    obtain ⟨⟨d1, S1⟩, h1, e1⟩ := R.bind_eq_ok e1
    replace e1 := ofO_eq_ok e1
    obtain ⟨xs0, h2, e1⟩ := Option.bind_eq_some_iff.mp e1
    obtain ⟨y, h3, e1⟩ := Option.bind_eq_some_iff.mp e1
    obtain ⟨S3, h4, e1⟩ := Option.map_eq_some_iff.mp e1
    cases e1
    refine use_r I h1 fun W1 v1 H1 l1 I1 r1 => ?_
    have b1 : Bo T W1 σ d1 v1 := r1.bo (ownL_nl h2)
    obtain ⟨a, xs, ys, vs0, rfl, q1, q2, q3, q4, q5⟩ := I1.chg b1 h4
    rw [h2] at q1
    cases q1
    cases q2
    refine ⟨I1.ownL_ty b1 h2, a, vs0, ?_⟩
    rw [List.getLast?_eq_getElem?] at h3
    obtain ⟨w, hw, rw'⟩ := q4.get h3
    rw [q4.length] at hw
    refine ⟨w, rfl, rfl, q3, hw, ?_⟩
    have J := q5 vs0.dropLast (by rw [List.dropLast_eq_take, List.dropLast_eq_take, ← q4.length]; exact q4.take _)
    exact k W1 w _ l1 J (Rep.res rw')
theorem Reps.eraseIdx {W : Wd} {ds : List D} {vs : List V} (h : Reps T W ds vs) (i : Nat) : Reps T W (ds.eraseIdx i) (vs.eraseIdx i) := by
  rw [List.eraseIdx_eq_take_drop_succ, List.eraseIdx_eq_take_drop_succ]
  exact (h.take i).append (h.drop _)
/-- o.pop(i) -/
theorem snd_popAt (ho : Snd T B X F call mo o) (he : Snd T B X F call me e) (po : plE o = true) (pe : plE e = true) (hl : (apos.endLine == pos.line) = true) : Snd T B X F call (.popAt mo me) (.Call (.Attribute o "pop" apos) [e] [] pos) :=
  have pes : [e].all plE = true := by simp [pe]
  PE.weak (pe_bm PySem.F.plainAttrs_list PySem.F.slot_list_pop PySem.F.type_list_pop mt_popAt ho (sndb_cons he sndb_nil (plE_star pe _ _)) (plE_base po _ _) (plEs_few pes (Nat.lt_of_lt_of_le (show 1 < 2 from Nat.lt_succ_self 1) (by omega)) _ _) hl (plE_star pe _ _) rfl) fun σ H Q ⟨W, S, d, S', I, e1, k⟩ => by
    simp only [ev] at e1
    obtain ⟨⟨d1, S1⟩, h1, e1⟩ := R.bind_eq_ok e1
    obtain ⟨xs0, h2, e1⟩ := R.ofO_bind e1
    obtain ⟨⟨d2, S2⟩, h3, e1⟩ := R.bind_eq_ok e1
    obtain ⟨i, h5, e1⟩ := R.bind_eq_ok e1
    replace e1 := ofO_eq_ok e1
    have := use_i h5
    subst this
    obtain ⟨xs1, h6, e1⟩ := Option.bind_eq_some_iff.mp e1
    obtain ⟨kk, h7, e1⟩ := Option.bind_eq_some_iff.mp e1
    obtain ⟨y, h8, e1⟩ := Option.bind_eq_some_iff.mp e1
    obtain ⟨S3, h4, e1⟩ := Option.map_eq_some_iff.mp e1
    cases e1
    refine use_r I h1 fun W1 v1 H1 l1 I1 r1 => ?_
    have b1 : Bo T W1 σ d1 v1 := r1.bo (ownL_nl h2)
    refine ⟨I1.ownL_ty b1 h2, W1, S1, [.int i], S2, I1, ?_, fun W2 vs H2 l2 I2 r2 => ?_⟩
    · simp only [evbs]
      rw [h3]
      rfl
    · obtain ⟨a, xs, ys, vs0, rfl, q1, q2, q3, q4, q5⟩ := I2.chg (b1.mono l2) h4
      rw [h6] at q1
      cases q1
      cases q2
      obtain ⟨r2l, r2g⟩ := r2
      match vs, r2l, r2g with
      | [w], _, r2g =>
        have bw' := r2g 0 _ w rfl rfl
        have : w = .int i := by simpa only [Bo, Rep] using bw'
        subst this
        obtain ⟨z, hz, rz⟩ := q4.get h8
        split at h7
        · rename_i hf
          have hf' : -(2 ^ 62 : Int) < i ∧ i < 2 ^ 62 := (fitI_is _).mp hf
          refine ⟨a, vs0, i, kk, z, rfl, rfl, q3, by omega, by omega, ?_, hz, ?_⟩
          · rw [← q4.length]
            exact (ixN_seq h7).1
          · exact k W2 z _ (l1.trans l2) (q5 _ (q4.eraseIdx kk)) (Rep.res rz)
        · cases h7
/-- o.extend(e) -/
theorem snd_extend (hK : X.K = T.K) (ho : Snd T B X F call mo o) (he : Snd T B X F call me e) (po : plE o = true) (pe : plE e = true) (hl : (apos.endLine == pos.line) = true) : Snd T B X F call (.extend mo me) (.Call (.Attribute o "extend" apos) [e] [] pos) :=
  have pes : [e].all plE = true := by simp [pe]
  PE.weak (pe_bm PySem.F.plainAttrs_list PySem.F.slot_list_extend PySem.F.type_list_extend mt_ext ho (sndb_cons he sndb_nil (plE_star pe _ _)) (plE_base po _ _) (plEs_few pes (Nat.lt_of_lt_of_le (show 1 < 2 from Nat.lt_succ_self 1) (by omega)) _ _) hl (plE_star pe _ _) rfl) fun σ H Q ⟨W, S, d, S', I, e1, k⟩ => by
    simp only [ev] at e1
    obtain ⟨⟨d1, S1⟩, h1, e1⟩ := R.bind_eq_ok e1
    obtain ⟨xs0, h2, e1⟩ := R.ofO_bind e1
    obtain ⟨⟨d2, S2⟩, h3, e1⟩ := R.bind_eq_ok e1
    replace e1 := ofO_eq_ok e1
    obtain ⟨y, h5, e1⟩ := Option.bind_eq_some_iff.mp e1
    obtain ⟨S3, h4, e1⟩ := Option.map_eq_some_iff.mp e1
    cases e1
    refine use_r I h1 fun W1 v1 H1 l1 I1 r1 => ?_
    have b1 : Bo T W1 σ d1 v1 := r1.bo (ownL_nl h2)
    refine ⟨I1.ownL_ty b1 h2, W1, S1, [d2], S2, I1, ?_, fun W2 vs H2 l2 I2 r2 => ?_⟩
    · simp only [evbs]
      rw [h3]
      rfl
    · obtain ⟨r2l, r2g⟩ := r2
      match vs, r2l, r2g with
      | [w], _, r2g =>
        have vw' := I2.view (r2g 0 _ w rfl rfl) h5
        split at h4
        · rename_i ys
          obtain ⟨a, xs, ys', vs0, rfl, q1, q2, q3, q4, q5⟩ := I2.chg (b1.mono l2) h4
          split at q2
          · rename_i hlt
            cases q2
            obtain ⟨p, us, rfl, g1, g2⟩ := vw'
            refine ⟨a, p, vs0, us, rfl, rfl, q3, .inl g1, ?_, ?_⟩
            · rw [← q4.length, ← g2.length]
              exact Nat.le_of_lt (Nat.lt_trans hlt lim_line)
            · exact k W2 .non _ (l1.trans l2) (q5 (vs0 ++ us) (q4.append g2)) (Rep.res (by simp only [Rep]))
          · cases q2
        · rename_i ys
          obtain ⟨a, xs, ys', vs0, rfl, q1, q2, q3, q4, q5⟩ := I2.chg (b1.mono l2) h4
          split at q2
          · rename_i hlt
            cases q2
            obtain ⟨p, us, rfl, g1, g2⟩ := vw_tup vw'
            refine ⟨a, p, vs0, us, rfl, rfl, q3, .inr (hK ▸ sqT_mono I2.sub g1), ?_, ?_⟩
            · rw [← q4.length, ← g2.length]
              exact Nat.le_of_lt (Nat.lt_trans hlt lim_line)
            · exact k W2 .non _ (l1.trans l2) (q5 (vs0 ++ us) (q4.append g2)) (Rep.res (by simp only [Rep]))
          · cases q2
        · cases h4
/-- o.insert(i, e) -/
theorem snd_insert (ho : Snd T B X F call mo o) (ha : Snd T B X F call ma a) (he : Snd T B X F call me e) (po : plE o = true) (pa : plE a = true) (pe : plE e = true) (hl : (apos.endLine == pos.line) = true) : Snd T B X F call (.insert mo ma me) (.Call (.Attribute o "insert" apos) [a, e] [] pos) :=
  have pes : [a, e].all plE = true := by simp [pe, pa]
  have hA : PA X [a, e] (tCons (TM T B fun S => ev F call ma S) (tCons (TM T B fun S => ev F call me S) tNil)) := pa_cons ha (pa_cons he pa_nil (plE_star pe _ _)) (plE_star pa _ _)
  PE.weak (pe_bm PySem.F.plainAttrs_list PySem.F.slot_list_insert PySem.F.type_list_insert mt_insert ho hA (plE_base po _ _) (plEs_few pes (Nat.lt_of_lt_of_le (show 2 < 3 from Nat.lt_succ_self 2) (by omega)) _ _) hl (plE_star pa _ _) (plEs_any (es := [e]) (by simp [pe]) _ _)) fun σ H Q ⟨W, S, d, S', I, e1, k⟩ => by
    simp only [ev] at e1
    obtain ⟨⟨d1, S1⟩, h1, e1⟩ := R.bind_eq_ok e1
    obtain ⟨xs0, h2, e1⟩ := R.ofO_bind e1
    obtain ⟨⟨d2, S2⟩, h3, e1⟩ := R.bind_eq_ok e1
    obtain ⟨⟨d3, S3⟩, h4, e1⟩ := R.bind_eq_ok e1
    obtain ⟨i, h5, e2⟩ := R.bind_eq_ok e1
    clear e1
    obtain ⟨S4, h6, e3⟩ := Option.map_eq_some_iff.mp (ofO_eq_ok e2)
    clear e2
    have := use_i h5
    simp only at this
    subst this
    cases e3
    refine use_r I h1 fun W1 v1 H1 l1 I1 r1 => ?_
    have b1 : Bo T W1 σ d1 v1 := r1.bo (ownL_nl h2)
    refine ⟨I1.ownL_ty b1 h2, ?_⟩
    refine use_b I1 h3 fun W2 v2 H2 l2 I2 b2 => ?_
    refine use_v I2 h4 fun W3 v3 H3 l3 I3 r3 => ?_
    have : v2 = .int i := by simpa only [Bo, Rep] using b2
    subst this
    obtain ⟨a, xs, ys, vs0, rfl, q1, q2, q3, q4, q5⟩ := I3.chg ((b1.mono l2).mono l3) h6
    split at q2
    · rename_i hc
      simp only [Bool.and_eq_true, decide_eq_true_eq] at hc
      obtain ⟨⟨c1, c2⟩, c3⟩ := hc
      have hf' : -(2 ^ 62 : Int) < i ∧ i < 2 ^ 62 := (fitI_is _).mp c2
      cases q2
      refine ⟨a, vs0, i, v3, rfl, rfl, q3, ?_, c3, by omega, ?_⟩
      · rw [← q4.length]
        exact Nat.lt_trans c1 lim_line
      · have hm : ∀ (m : Nat) (l : List V), l.take (min m l.length) = l.take m ∧ l.drop (min m l.length) = l.drop m := fun m l => by
          by_cases hh : m ≤ l.length
          · rw [Nat.min_eq_left hh]
            exact ⟨rfl, rfl⟩
          · rw [Nat.min_eq_right (by omega)]
            exact ⟨by rw [List.take_length, List.take_of_length_le (by omega)], by rw [List.drop_length, List.drop_eq_nil_of_le (by omega)]⟩
        have J := q5 (vs0.take i.toNat ++ [v3] ++ vs0.drop i.toNat) (by
          rw [List.append_assoc, q4.length]
          refine Reps.append ?_ (Reps.cons r3 ?_)
          · rw [← (hm i.toNat vs0).1]
            exact q4.take _
          · rw [← (hm i.toNat vs0).2]
            exact q4.drop _)
        exact k W3 .non _ ((l1.trans l2).trans l3) J (Rep.res (by simp only [Rep]))
    · cases q2
end
end PM
end

section
set_option Elab.async false
set_option linter.all false
set_option maxRecDepth 100000
/-! PmP: calls of built-in functions and types. -/
namespace PM
open PySem L2 PyProof.Rows
theorem vws1 {T : Tb} {W : Wd} {H : Hp} {d : D} {vs : List V} (h : Vws T W H [d] vs) : ∃ v, vs = [v] ∧ Vw T W H d v := by
  simp only [Vws] at h
  obtain ⟨v, r, rfl, h1, rfl⟩ := h
  exact ⟨v, rfl, h1⟩
theorem vws2 {T : Tb} {W : Wd} {H : Hp} {d e : D} {vs : List V} (h : Vws T W H [d, e] vs) : ∃ v u, vs = [v, u] ∧ Vw T W H d v ∧ Vw T W H e u := by
  simp only [Vws] at h
  obtain ⟨v, r, rfl, h1, u, r2, rfl, h2, rfl⟩ := h
  exact ⟨v, u, rfl, h1, h2⟩
theorem reps_int {T : Tb} {W : Wd} : ∀ (ns : List Int), Reps T W (ns.map .int) (ns.map V.int)
  | [] => Reps.nil
  | n :: ns => Reps.cons (by simp only [Rep]) (reps_int ns)
theorem intsOf_eq : ∀ {xs : List D} {ns : List Int}, intsOf xs = some ns → xs = ns.map .int
  | [], ns, h => by
    cases h
    rfl
  | d :: xs, ns, h => by
    cases d <;> try (cases h; done)
    simp only [intsOf, Option.map_eq_some_iff] at h
    obtain ⟨r, h1, rfl⟩ := h
    rw [intsOf_eq h1]
    rfl
theorem reps_ints {T : Tb} {W : Wd} : ∀ {ns : List Int} {vs : List V}, Reps T W (ns.map .int) vs → vs = ns.map V.int
  | [], vs, h => by simpa only [List.map_nil, Reps] using h
  | n :: ns, vs, h => by
    simp only [List.map_cons, Reps, Rep] at h
    obtain ⟨v, r, rfl, rfl, h2⟩ := h
    rw [reps_ints h2]
    rfl
theorem strsOf_eq : ∀ {xs : List D} {ns : List PySem.Str}, strsOf xs = some ns → xs = ns.map .str
  | [], ns, h => by
    cases h
    rfl
  | d :: xs, ns, h => by
    cases d <;> try (cases h; done)
    simp only [strsOf, Option.map_eq_some_iff] at h
    obtain ⟨r, h1, rfl⟩ := h
    rw [strsOf_eq h1]
    rfl
theorem reps_strs {T : Tb} {W : Wd} : ∀ {ns : List PySem.Str} {vs : List V}, Reps T W (ns.map .str) vs → vs = ns.map V.str
  | [], vs, h => by simpa only [List.map_nil, Reps] using h
  | n :: ns, vs, h => by
    simp only [List.map_cons, Reps, Rep] at h
    obtain ⟨v, r, rfl, rfl, h2⟩ := h
    rw [reps_strs h2]
    rfl
theorem sqL_rd {K : PySem.W.Frag} {H : Hp} {a : Addr} {xs : List V} (h : Rd H a (.lst xs)) : SqL K H a xs := .inl h
def RP (T : Tb) (p : Prim) : List V → Hp → VK → Prop := fun vs H Q => ∃ W xs d, Same W.F H ∧ Vws T W H xs vs ∧ primD p xs = some d ∧ Out T W H d Q
theorem CallR.weak {X : Cx} {f : Value} {r r' : List V → Hp → VK → Prop} (h : CallR X f r) (k : ∀ vs H Q, r' vs H Q → r vs H Q) : CallR X f r' := fun pins s σ H xs us Q I rs q => h pins s σ H xs us Q I rs (k _ _ _ q)
section
variable {T : Tb} {B : Bs} {X : Cx} {F : Fields} {call : CallF}
variable {a b c e o : Expr} {ma mb mc me mo : ME} {pos apos : Pos}
theorem ok_len (hK : X.K = T.K) : CallR X (.builtin "len") (RP T .len) :=
  CallR.weak (call_len_seq.or call_len_str) fun vs H Q ⟨W, xs, d, hw, hv, e, q⟩ => by
    unfold primD at e
    split at e <;> try contradiction
    · cases e
      obtain ⟨v, rfl, h1⟩ := vws1 hv
      obtain ⟨p, us, rfl, g1, g2⟩ := h1
      exact .inl ⟨p, us, rfl, .inl (.inl g1), by rw [← g2.length]; exact q.int hw⟩
    · cases e
      obtain ⟨v, rfl, h1⟩ := vws1 hv
      obtain ⟨p, us, rfl, g1, g2⟩ := vw_tup h1
      exact .inl ⟨p, us, rfl, .inr (hK ▸ sqT_mono hw g1), by rw [← g2.length]; exact q.int hw⟩
    · split at e
      · rename_i hl
        cases e
        obtain ⟨v, rfl, h1⟩ := vws1 hv
        cases vw_str h1
        exact .inr ⟨_, rfl, Nat.le_of_lt (Nat.lt_trans hl lim_line), q.int hw⟩
      · cases e
theorem ok_abs : CallR X (.builtin "abs") (RP T .abs) :=
  CallR.weak call_abs fun vs H Q ⟨W, xs, d, hw, hv, e, q⟩ => by
    unfold primD at e
    split at e <;> try contradiction
    cases e
    obtain ⟨v, rfl, h1⟩ := vws1 hv
    cases vw_int h1
    exact ⟨_, rfl, q.int hw⟩
theorem ok_int1 : CallR X (.type "int") (RP T .int1) :=
  CallR.weak call_int1 fun vs H Q ⟨W, xs, d, hw, hv, e, q⟩ => by
    unfold primD at e
    split at e <;> try contradiction
    cases e
    obtain ⟨v, rfl, h1⟩ := vws1 hv
    cases vw_int h1
    exact .inl ⟨_, rfl, q.int hw⟩
theorem Reps.of_map2 {T : Tb} {W : Wd} : ∀ l : List Nat, Reps T W (l.map fun c => D.str ⟨#[c]⟩) (l.map fun c => V.str ⟨#[c]⟩)
  | [] => rfl
  | c :: l => ⟨_, _, rfl, rfl, Reps.of_map2 l⟩
theorem vals_at : ∀ {vs : List V} {us : List Value}, vs.length = us.length → (∀ (j : Nat) (v : V) (u : Value), vs[j]? = some v → us[j]? = some u → RelV v u) → Vals vs us
  | [], [], _, _ => .nil
  | [], _ :: _, h, _ => by simp at h
  | _ :: _, [], h, _ => by simp at h
  | v :: vs, u :: us, h, k => .cons (k 0 v u rfl rfl) (vals_at (by simpa using h) fun j v' u' a b => k (j + 1) v' u' (by simpa using a) (by simpa using b))
/-- list(a text) -/
theorem cr_listStr (hc : X.calm = true) : CallR X (.type "list") (fun xs H Q => ∃ x : PySem.Str, xs = [V.str x] ∧ x.cps.size ≤ sizeLine ∧ ∀ l, H l = none → Q (.ref l) (upd H l (.lst (x.cps.toList.map fun c => V.str ⟨#[c]⟩)))) := by
  intro pins s σ H vs us Q I r h
  obtain ⟨x, rfl, hz, q⟩ := h
  obtain ⟨u, rfl, rx⟩ := vals1 r
  obtain ⟨tk, rfl⟩ := rx
  refine call_list_str (I.ok.hd hc) x tk (hn := hz) fun h' tk' acc c kp hS hacc => ?_
  have hl : (x.cps.toList.map fun c => V.str ⟨#[c]⟩).length = acc.toList.length := by
    rw [List.length_map, Array.length_toList, Array.length_toList]
    exact hacc.1.symm
  have hv : Vals (x.cps.toList.map fun c => V.str ⟨#[c]⟩) acc.toList := vals_at hl fun j v u a b => by
    obtain ⟨c, t, e1, rfl⟩ := hacc.2 j u (by simpa using b)
    rw [List.getElem?_map, Array.getElem?_toList, e1] at a
    cases a
    exact ⟨t, rfl⟩
  exact ⟨.ref _, upd H s.heap.objs.size (.lst (x.cps.toList.map fun c => V.str ⟨#[c]⟩)), I.laid (t' := tk') kp (Nat.le_refl _) ⟨by rw [List.length_map, Array.length_toList]; exact hz, acc.toList, c, hv, by simpa using hS⟩, rfl, q _ (I.hok.fresh (Nat.le_refl _))⟩
theorem ok_list1 (hK : X.K = T.K) (hc : X.calm = true) : CallR X (.type "list") (RP T .list1) :=
  CallR.weak (call_list_of.or (cr_listStr hc)) fun vs H Q ⟨W, xs, d, hw, hv, e, q⟩ => by
    unfold primD at e
    split at e <;> try contradiction
    · cases e
      obtain ⟨v, rfl, h1⟩ := vws1 hv
      obtain ⟨p, us, rfl, g1, g2⟩ := h1
      exact .inl ⟨p, us, rfl, .inl (.inl g1), fun l hl => q.newL hw g2 hl⟩
    · cases e
      obtain ⟨v, rfl, h1⟩ := vws1 hv
      obtain ⟨p, us, rfl, g1, g2⟩ := vw_tup h1
      exact .inl ⟨p, us, rfl, .inr (hK ▸ sqT_mono hw g1), fun l hl => q.newL hw g2 hl⟩
    · split at e
      · rename_i x _ hx
        cases e
        obtain ⟨v, rfl, h1⟩ := vws1 hv
        cases vw_str h1
        refine .inr ⟨_, rfl, Nat.le_of_lt (Nat.lt_trans hx lim_line), fun l hl => q.newL hw ?_ hl⟩
        exact Reps.of_map2 _
      · cases e
theorem ok_tuple1 (hK : X.K = T.K) : CallR X (.type "tuple") (RP T .tuple1) :=
  CallR.weak call_tuple_of fun vs H Q ⟨W, xs, d, hw, hv, e, q⟩ => by
    unfold primD at e
    split at e <;> try contradiction
    · cases e
      obtain ⟨v, rfl, h1⟩ := vws1 hv
      obtain ⟨p, us, rfl, g1, g2⟩ := h1
      exact ⟨p, us, rfl, .inl ⟨.inl g1, fun l hl => q.newT hw g2 hl⟩⟩
    · cases e
      obtain ⟨v, rfl, h1⟩ := vws1 hv
      obtain ⟨p, us, rfl, g1, g2⟩ := vw_tup h1
      exact ⟨p, us, rfl, .inr ⟨hK ▸ sqT_mono hw g1, q.val hw (by simp only [Rep]; exact ⟨p, us, rfl, g1, g2⟩)⟩⟩
theorem ok_max2 (hc : X.calm = true) : CallR X (.builtin "max") (RP T .max2) :=
  CallR.weak (call_max2 hc) fun vs H Q ⟨W, xs, d, hw, hv, e, q⟩ => by
    unfold primD at e
    split at e <;> try contradiction
    cases e
    obtain ⟨v, u, rfl, h1, h2⟩ := vws2 hv
    cases vw_int h1
    cases vw_int h2
    exact ⟨_, _, rfl, q.int hw⟩
theorem ok_min2 (hc : X.calm = true) : CallR X (.builtin "min") (RP T .min2) :=
  CallR.weak (call_min2 hc) fun vs H Q ⟨W, xs, d, hw, hv, e, q⟩ => by
    unfold primD at e
    split at e <;> try contradiction
    cases e
    obtain ⟨v, u, rfl, h1, h2⟩ := vws2 hv
    cases vw_int h1
    cases vw_int h2
    exact ⟨_, _, rfl, q.int hw⟩
theorem maxI_spec : ∀ (ns : List Int) (a : Int), (ns.foldl (fun a b => if b > a then b else a) a ∈ a :: ns) ∧ a ≤ ns.foldl (fun a b => if b > a then b else a) a ∧ ∀ y ∈ ns, y ≤ ns.foldl (fun a b => if b > a then b else a) a
  | [], a => ⟨by simp, Int.le_refl _, by simp⟩
  | n :: ns, a => by
    obtain ⟨h1, h2, h3⟩ := maxI_spec ns (if n > a then n else a)
    have ha : a ≤ (if n > a then n else a) := by split <;> omega
    have hn : n ≤ (if n > a then n else a) := by split <;> omega
    refine ⟨?_, Int.le_trans ha h2, fun y hy => ?_⟩
    · rw [List.foldl_cons]
      rcases List.mem_cons.mp h1 with z | z
      · rw [z]
        split <;> simp
      · exact List.mem_cons_of_mem _ (List.mem_cons_of_mem _ z)
    · rcases List.mem_cons.mp hy with z | z
      · subst z
        exact Int.le_trans hn h2
      · exact h3 y z
theorem minI_spec : ∀ (ns : List Int) (a : Int), (ns.foldl (fun a b => if b < a then b else a) a ∈ a :: ns) ∧ ns.foldl (fun a b => if b < a then b else a) a ≤ a ∧ ∀ y ∈ ns, ns.foldl (fun a b => if b < a then b else a) a ≤ y
  | [], a => ⟨by simp, Int.le_refl _, by simp⟩
  | n :: ns, a => by
    obtain ⟨h1, h2, h3⟩ := minI_spec ns (if n < a then n else a)
    have ha : (if n < a then n else a) ≤ a := by split <;> omega
    have hn : (if n < a then n else a) ≤ n := by split <;> omega
    refine ⟨?_, Int.le_trans h2 ha, fun y hy => ?_⟩
    · rw [List.foldl_cons]
      rcases List.mem_cons.mp h1 with z | z
      · rw [z]
        split <;> simp
      · exact List.mem_cons_of_mem _ (List.mem_cons_of_mem _ z)
    · rcases List.mem_cons.mp hy with z | z
      · subst z
        exact Int.le_trans h2 hn
      · exact h3 y z
theorem maxI_of {ns : List Int} (hne : ns ≠ []) : maxI ns ∈ ns ∧ ∀ y ∈ ns, y ≤ maxI ns := by
  cases ns with
  | nil => exact absurd rfl hne
  | cons n ns =>
    obtain ⟨h1, h2, h3⟩ := maxI_spec ns n
    exact ⟨h1, fun y hy => by
      rcases List.mem_cons.mp hy with z | z
      · subst z; exact h2
      · exact h3 y z⟩
theorem minI_of {ns : List Int} (hne : ns ≠ []) : minI ns ∈ ns ∧ ∀ y ∈ ns, minI ns ≤ y := by
  cases ns with
  | nil => exact absurd rfl hne
  | cons n ns =>
    obtain ⟨h1, h2, h3⟩ := minI_spec ns n
    exact ⟨h1, fun y hy => by
      rcases List.mem_cons.mp hy with z | z
      · subst z; exact h2
      · exact h3 y z⟩
theorem ok_maxL (hc : X.calm = true) : CallR X (.builtin "max") (RP T .maxL) :=
  CallR.weak (cr_max hc) fun vs H Q ⟨W, xs, d, hw, hv, e, q⟩ => by
    unfold primD at e
    split at e <;> try contradiction
    obtain ⟨ns, h2, e⟩ := Option.bind_eq_some_iff.mp e
    split at e
    · cases e
    · rename_i hne
      cases e
      have := intsOf_eq h2
      subst this
      obtain ⟨v, rfl, h1⟩ := vws1 hv
      obtain ⟨p, us, rfl, g1, g2⟩ := h1
      have := reps_ints g2
      subst this
      obtain ⟨m1, m2⟩ := maxI_of hne
      refine ⟨p, ns, rfl, .inl g1, List.length_pos_iff.mpr hne, fun m hm hy => ?_⟩
      have : m = maxI ns := Int.le_antisymm (m2 m hm) (hy _ m1)
      rw [this]
      exact q.int hw
theorem ok_minL (hc : X.calm = true) : CallR X (.builtin "min") (RP T .minL) :=
  CallR.weak (cr_min hc) fun vs H Q ⟨W, xs, d, hw, hv, e, q⟩ => by
    unfold primD at e
    split at e <;> try contradiction
    obtain ⟨ns, h2, e⟩ := Option.bind_eq_some_iff.mp e
    split at e
    · cases e
    · rename_i hne
      cases e
      have := intsOf_eq h2
      subst this
      obtain ⟨v, rfl, h1⟩ := vws1 hv
      obtain ⟨p, us, rfl, g1, g2⟩ := h1
      have := reps_ints g2
      subst this
      obtain ⟨m1, m2⟩ := minI_of hne
      refine ⟨p, ns, rfl, .inl g1, List.length_pos_iff.mpr hne, fun m hm hy => ?_⟩
      have : m = minI ns := Int.le_antisymm (hy _ m1) (m2 m hm)
      rw [this]
      exact q.int hw
theorem ok_sumL (hc : X.calm = true) : CallR X (.builtin "sum") (RP T .sumL) :=
  CallR.weak (cr_sum hc) fun vs H Q ⟨W, xs, d, hw, hv, e, q⟩ => by
    unfold primD at e
    split at e <;> try contradiction
    obtain ⟨ns, h2, rfl⟩ := Option.map_eq_some_iff.mp e
    have := intsOf_eq h2
    subst this
    obtain ⟨v, rfl, h1⟩ := vws1 hv
    obtain ⟨p, us, rfl, g1, g2⟩ := h1
    have := reps_ints g2
    subst this
    exact ⟨p, ns, rfl, .inl g1, q.int hw⟩
theorem isort_uniq {ns ns' : List Int} (hp : ns'.Perm ns) (hs : ns'.Pairwise (· ≤ ·)) : ns' = isort ns := by
  have s2 : (isort ns).Pairwise (· ≤ ·) := by
    have := List.pairwise_mergeSort (le := fun (a b : Int) => decide (a ≤ b)) (fun a b c h1 h2 => by
      have h1 := of_decide_eq_true h1
      have h2 := of_decide_eq_true h2
      exact decide_eq_true (Int.le_trans h1 h2)) (fun a b => by
      rcases Int.le_total a b with z | z
      · simp [z]
      · simp [z]) ns
    exact this.imp fun h => of_decide_eq_true h
  have p2 : (isort ns).Perm ns := List.mergeSort_perm ns _
  exact (hp.trans p2.symm).eq_of_pairwise (fun a b _ _ h1 h2 => Int.le_antisymm h1 h2) hs s2
theorem ok_sortedI : CallR X (.builtin "sorted") (fun vs H Q => ∃ (W : Wd) (ns : List Int), Same W.F H ∧ Vws T W H [.lst (ns.map .int)] vs ∧ Out T W H (.nl ((isort ns).map .int)) Q) :=
  CallR.weak cr_sortedI fun vs H Q ⟨W, ns, hw, hv, q⟩ => by
    obtain ⟨v, rfl, h1⟩ := vws1 hv
    obtain ⟨p, us, rfl, g1, g2⟩ := h1
    have := reps_ints g2
    subst this
    refine ⟨p, ns, rfl, .inl g1, fun ns' l hp hs hl => ?_⟩
    rw [isort_uniq hp hs]
    exact q.newL hw (reps_int _) hl
/-- f(e, ..), f a built-in function | type -/
theorem snd_primB {p : Prim} {id : String} {x : PySem.Str} {np : Pos} {ms : List ME} {es : List Expr} (hc : CallR X (.builtin id) (RP T p)) (hg : Gl X x) (hm : X.mg x = none) (hv : bootBuiltins x = some (.builtin id)) (ha : SndB T B X F call ms (a :: es))
    (hn : x ≠ "__name__") (hdb : (x == ("__debug__" : PySem.Str)) = false) (pl : (a :: es).all plE = true) : Snd T B X F call (.prim p ms) (.Call (.Name x np) (a :: es) [] pos) := by
  have pl' : plE a = true ∧ es.all plE = true := by simpa using pl
  refine PE.weak (pe_callB hc hg hm hv ha hn hdb (plE_star pl'.1 _ _) (plEs_any pl'.2 _ _)) fun σ H Q ⟨W, S, d, S', I, e1, k⟩ => ?_
  simp only [ev] at e1
  obtain ⟨⟨ds, S1⟩, h1, e1⟩ := R.bind_eq_ok e1
  replace e1 := ofO_eq_ok e1
  obtain ⟨xs, h2, e1⟩ := Option.bind_eq_some_iff.mp e1
  obtain ⟨z, h3, e1⟩ := Option.map_eq_some_iff.mp e1
  cases e1
  refine ⟨W, S, ds, _, I, h1, fun W1 vs H1 l I1 r1 => ?_⟩
  exact ⟨W1, xs, _, I1.sub, I1.views r1.1 r1.2 h2, h3, fun W2 v H2 st rn => k W2 v H2 (l.trans st.toLe) (I1.step st) (I1.resN st rn)⟩
theorem snd_primT {p : Prim} {id : String} {x : PySem.Str} {np : Pos} {ms : List ME} {es : List Expr} (hc : CallR X (.type id) (RP T p)) (hg : Gl X x) (hm : X.mg x = none) (hv : bootBuiltins x = some (.type id)) (ha : SndB T B X F call ms (a :: es))
    (hn : x ≠ "__name__") (hdb : (x == ("__debug__" : PySem.Str)) = false) (pl : (a :: es).all plE = true) : Snd T B X F call (.prim p ms) (.Call (.Name x np) (a :: es) [] pos) := by
  have pl' : plE a = true ∧ es.all plE = true := by simpa using pl
  refine PE.weak (pe_callTy hc hg hm hv ha hn hdb (plE_star pl'.1 _ _) (plEs_any pl'.2 _ _)) fun σ H Q ⟨W, S, d, S', I, e1, k⟩ => ?_
  simp only [ev] at e1
  obtain ⟨⟨ds, S1⟩, h1, e1⟩ := R.bind_eq_ok e1
  replace e1 := ofO_eq_ok e1
  obtain ⟨xs, h2, e1⟩ := Option.bind_eq_some_iff.mp e1
  obtain ⟨z, h3, e1⟩ := Option.map_eq_some_iff.mp e1
  cases e1
  refine ⟨W, S, ds, _, I, h1, fun W1 vs H1 l I1 r1 => ?_⟩
  exact ⟨W1, xs, _, I1.sub, I1.views r1.1 r1.2 h2, h3, fun W2 v H2 st rn => k W2 v H2 (l.trans st.toLe) (I1.step st) (I1.resN st rn)⟩
end
end PM
end

section
set_option Elab.async false
set_option linter.all false
set_option maxRecDepth 100000
/-! PmSo: sorted(a list of data). -/
namespace PM
open PySem L2 PyProof.Rows PySem.W
section
variable {T : Tb} {X : Cx} {pins : List (Addr × Obj)} {σ : L2.St} {H : Hp} {s : Shared} {ad : List Addr}
mutual
/-- what stands for a datum is read as it -/
theorem reads_of (hK : X.K = T.K) (I : Inv X pins σ H s) : ∀ (d : D) {v : V} {u : Value}, plain d = true → Rep T ⟨H, ad⟩ d v → RelV v u → ∃ as, Reads s.heap u (toPD d) as
  | .non, v, u, _, h, r => by simp only [Rep] at h; subst h; cases r; exact ⟨_, .none⟩
  | .bl b, v, u, _, h, r => by simp only [Rep] at h; subst h; cases r; exact ⟨_, .bool b⟩
  | .int i, v, u, _, h, r => by simp only [Rep] at h; subst h; obtain ⟨t, rfl⟩ := r; exact ⟨_, .int i t⟩
  | .str i, v, u, _, h, r => by simp only [Rep] at h; subst h; obtain ⟨t, rfl⟩ := r; exact ⟨_, .str i t⟩
  | .tup xs, v, u, hp, h, r => by
    simp only [Rep] at h
    obtain ⟨a, vs, rfl, hq, hr⟩ := h
    cases r
    obtain ⟨its, rv, ht, _⟩ := Inv.tupleR hK I hq
    obtain ⟨as, ra⟩ := readsAll_of hK I xs (by simpa [plain] using hp) hr rv
    obtain ⟨o, h1, h2, n, h3⟩ := ht
    exact ⟨as, .tuple h1 h2 h3 ra⟩
  | .lst xs, v, u, hp, h, r => by
    simp only [Rep] at h
    obtain ⟨a, vs, rfl, hq, hr⟩ := h
    cases r
    obtain ⟨its, n, rv, _, _, ho⟩ := listR I hq
    obtain ⟨as, ra⟩ := readsAll_of hK I xs (by simpa [plain] using hp) hr rv
    exact ⟨a :: as, .list ho rfl rfl ra⟩
  | .nl _, _, _, hp, _, _ => by simp [plain] at hp
  | .dic _ _, _, _, hp, _, _ => by simp [plain] at hp
  | .nd _ _, _, _, hp, _, _ => by simp [plain] at hp
  | .obj _ _, _, _, hp, _, _ => by simp [plain] at hp
  | .ins _ _ _, _, _, hp, _, _ => by simp [plain] at hp
  | .fn _, _, _, hp, _, _ => by simp [plain] at hp
  | .ty _, _, _, hp, _, _ => by simp [plain] at hp
  | .cls _, _, _, hp, _, _ => by simp [plain] at hp
  | .ref _, _, _, hp, _, _ => by simp [plain] at hp
  | .loc _, _, _, hp, _, _ => by simp [plain] at hp
theorem readsAll_of (hK : X.K = T.K) (I : Inv X pins σ H s) : ∀ (ds : List D) {vs : List V} {us : List Value}, plains ds = true → Reps T ⟨H, ad⟩ ds vs → Vals vs us → ∃ as, ReadsAll s.heap us (toPDs ds) as
  | [], vs, us, _, h, r => by
    simp only [Reps] at h
    subst h
    cases r
    exact ⟨_, .nil⟩
  | d :: ds, vs, us, hp, h, r => by
    simp only [Reps] at h
    obtain ⟨v, w, rfl, h1, h2⟩ := h
    cases r with
    | cons r1 r2 =>
      simp only [plains, Bool.and_eq_true] at hp
      obtain ⟨as, q1⟩ := reads_of hK I d hp.1 h1 r1
      obtain ⟨bs, q2⟩ := readsAll_of hK I ds hp.2 h2 r2
      exact ⟨as ++ bs, .cons q1 q2⟩
end
theorem plains_mem : ∀ {xs : List D}, plains xs = true → ∀ d ∈ xs, plain d = true
  | x :: xs, h, d, hd => by
    simp only [plains, Bool.and_eq_true] at h
    rcases List.mem_cons.mp hd with rfl | hd
    · exact h.1
    · exact plains_mem h.2 d hd
mutual
theorem depth_le : ∀ d : D, (toPD d).depth ≤ dep d
  | .tup xs => by
    have := depths_le xs
    simp only [toPD, PyData.depth, dep]
    omega
  | .lst xs => by
    have := depths_le xs
    simp only [toPD, PyData.depth, dep]
    omega
  | .non => by simp [toPD, PyData.depth]
  | .bl _ => by simp [toPD, PyData.depth]
  | .int _ => by simp [toPD, PyData.depth]
  | .str _ => by simp [toPD, PyData.depth]
  | .nl _ => by simp [toPD, PyData.depth]
  | .dic _ _ => by simp [toPD, PyData.depth]
  | .nd _ _ => by simp [toPD, PyData.depth]
  | .obj _ _ => by simp [toPD, PyData.depth]
  | .ins _ _ _ => by simp [toPD, PyData.depth]
  | .fn _ => by simp [toPD, PyData.depth]
  | .ty _ => by simp [toPD, PyData.depth]
  | .cls _ => by simp [toPD, PyData.depth]
  | .ref _ => by simp [toPD, PyData.depth]
  | .loc _ => by simp [toPD, PyData.depth]
theorem depths_le : ∀ ds : List D, PyData.depthAll (toPDs ds) ≤ deps ds
  | [] => by simp [toPDs, PyData.depthAll]
  | d :: ds => by
    have := depth_le d
    have := depths_le ds
    simp only [toPDs, PyData.depthAll, deps]
    omega
end
theorem deps_mem : ∀ {xs : List D} {d : D}, d ∈ xs → dep d ≤ deps xs
  | x :: xs, d, hd => by
    simp only [deps]
    rcases List.mem_cons.mp hd with rfl | hd
    · omega
    · have := deps_mem hd
      omega
theorem each_of {W : Wd} : ∀ {xs : List D} {vs : List V} {us : List Value}, Reps T W xs vs → Vals vs us → EachIs (fun u d => ∃ v, Rep T W d v ∧ RelV v u) us xs
  | [], vs, us, h, r => by
    simp only [Reps] at h
    subst h
    cases r
    exact .nil
  | x :: xs, vs, us, h, r => by
    simp only [Reps] at h
    obtain ⟨v, w, rfl, h1, h2⟩ := h
    cases r with
    | cons r1 r2 => exact .cons ⟨v, h1, r1⟩ (each_of h2 r2)
theorem of_each {W : Wd} : ∀ {us : List Value} {xs : List D}, EachIs (fun u d => ∃ v, Rep T W d v ∧ RelV v u) us xs → ∃ vs, Reps T W xs vs ∧ Vals vs us
  | [], [], _ => ⟨[], rfl, .nil⟩
  | u :: us, x :: xs, h => by
    cases h with
    | cons h1 h2 =>
      obtain ⟨v, a, b⟩ := h1
      obtain ⟨vs, c, d⟩ := of_each h2
      exact ⟨v :: vs, ⟨v, vs, rfl, a, c⟩, .cons b d⟩
theorem each_reads (hK : X.K = T.K) (I : Inv X pins σ H s) : ∀ {xs : List D} {us : List Value}, plains xs = true → EachIs (fun u d => ∃ v, Rep T ⟨H, ad⟩ d v ∧ RelV v u) us xs → EachIs (fun u d => ∃ as, Reads s.heap u (toPD d) as) us xs
  | [], [], _, _ => .nil
  | x :: xs, u :: us, hp, h => by
    simp only [plains, Bool.and_eq_true] at hp
    cases h with
    | cons h1 h2 =>
      obtain ⟨v, a, b⟩ := h1
      exact .cons (reads_of hK I x hp.1 a b) (each_reads hK I hp.2 h2)
/-- sorted(xs) -/
theorem ok_sorted1 (hK : X.K = T.K) (hu : X.A.units + 64 < cLine) : CallR X (.builtin "sorted") (RP T .sorted1) := by
  intro pins s σ H vs us Q I r h
  obtain ⟨W, xs, d, hw, hv, e, q⟩ := h
  unfold primD at e
  split at e <;> try contradiction
  rename_i ys _
  split at e
  · rename_i ns h2
    cases e
    have := intsOf_eq h2
    subst this
    exact ok_sortedI pins s σ H vs us Q I r ⟨W, ns, hw, hv, q⟩
  · split at e
    · rename_i ok
      cases e
      simp only [sortOk, Bool.and_eq_true, decide_eq_true_eq, Bool.or_eq_true] at ok
      obtain ⟨⟨⟨o1, o2⟩, o3⟩, o4⟩ := ok
      obtain ⟨v, rfl, h1⟩ := vws1 hv
      obtain ⟨p, ws, rfl, g1, g2⟩ := h1
      obtain ⟨its, n, rv, hlen, hz, ho⟩ := listR I g1
      rw [Vals.ref1 r]
      have g2H : Reps T ⟨H, W.ad⟩ ys ws := Reps.mono (W := W) (W' := ⟨H, W.ad⟩) ⟨hw, List.prefix_refl _⟩ _ g2
      have er := each_reads hK I o1 (each_of g2H rv)
      have e0 := each_of g2 rv
      have yl : ys.length = its.length := e0.length.symm
      refine sorted_data (R := fun u d => ∃ v, Rep T W d v ∧ RelV v u) (enc := toPD) (bs := ys) (vs := its) (isList_of ho) e0 er ?_ ?_ (by rw [yl, ← hlen]; exact hz) (fun b hb => ?_) fun out hl he => ?_
      · intro a ha b hb
        obtain ⟨x, hx, rfl⟩ := List.mem_map.mp ha
        obtain ⟨y, hy, rfl⟩ := List.mem_map.mp hb
        exact List.all_eq_true.mp (List.all_eq_true.mp o3 x hx) y hy
      · rcases o4 with o4 | o4
        · refine .inl fun a ha => ?_
          obtain ⟨x, hx, rfl⟩ := List.mem_map.mp ha
          have := List.all_eq_true.mp o4 x hx
          cases x <;> try simp [isTupC] at this
          rename_i zs
          cases zs with
          | nil => simp [isTupC] at this
          | cons z zs => exact ⟨toPD z, toPDs zs, rfl⟩
        · refine .inr fun a ha => ?_
          obtain ⟨x, hx, rfl⟩ := List.mem_map.mp ha
          have h1 := List.all_eq_true.mp o4 x hx
          have h2 := plains_mem o1 x hx
          cases x <;> simp_all [notTup, plain, toPD]
      · have h1 := deps_mem hb
        have h2 := depth_le b
        omega
      · obtain ⟨zs, r1, r2⟩ := of_each he
        obtain ⟨ep, he'⟩ := PyProof.Rows.sortedAll_at s.heap its out.toArray
        have hzl : zs.length ≤ sizeLine := by
          rw [r2.length, hl, yl, ← hlen]
          exact hz
        exact ⟨.ref _, upd H (s.heap.objs.size + 1) (.lst zs), I.laid (t' := s.toks) (fun _ _ => PyProof.Rows.sortedAll_old) (Nat.le_succ _) ⟨hzl, out, ep, r2, he'⟩, rfl, q.newL hw r1 (I.hok.fresh (Nat.le_succ _))⟩
    · cases e
end
end PM
end

section
set_option Elab.async false
set_option linter.all false
set_option maxRecDepth 100000
/-! PmG: set(a list of ints). -/
namespace PM
open PySem L2 PySem.Spec PyProof.Rows
section
variable {P : Program} {w : World} {A : Around} {E : Value → Shared → Prop} {s : Shared}
/-- an empty set, as it is laid -/
abbrev set0 (w : World) : Obj := { cls := .type "set", dict := none, data := .set #[] 0 (.fresh 0 0 (!w.params.followText "set-order")) }
/-- set(v): what the filling of a new set does -/
theorem set_call {v : Value} {Q : Value → Shared → Prop}
    (h : wpAny (model P w) A.in1.in1 (Builtin.«set.__init__» ⟨[.ref s.heap.objs.size, v], []⟩)
      (fun fin s' => match fin with
        | .done f => wants (fun r s₂ => r = .none ∧ Q (.ref s.heap.objs.size) s₂) E (.ok f) s'
        | .again c' => c'.quiet = true ∧ codeAny (model P w) A.in1 c' (wants (fun r s₂ => r = .none ∧ Q (.ref s.heap.objs.size) s₂) E) s')
      (fun e s' => wants (fun r s₂ => r = .none ∧ Q (.ref s.heap.objs.size) s₂) E (.error e) s') { s with heap := s.heap.push (set0 w) }) :
    wpAny (model P w) A (call (.type "set") [v]) Q E s := by
  have fc := F.called_set
  obtain ⟨m0, mt, mro⟩ := fc.mro
  have a1 := fc.made
  have a2 := fc.sub
  have a3 := fc.notType
  have a4 := fc.canCreate
  have a5 := F.typeCall_set_1 v
  have ty : Shared.TypeIs { s with heap := s.heap.push (set0 w) } (.ref s.heap.objs.size) "set" := ⟨_, Heap.get?_push_size _ rfl, rfl⟩
  have a6 := fc.init.lookup
  have a7 := fc.init.bind (.ref s.heap.objs.size)
  apply wpAny_call
  apply codeAny_of_tree
  show wpAny _ _ (callAny (.type "set") _) _ _ _
  refine wpAny_pure ⟨Code.quiet_builtin _ (by decide +kernel), codeAny_builtin F.entry_type_call ?_⟩
  rw [Around.under_plain (weight_type_call_type "set" [v] []) rfl]
  repeat (any_goals (first | assumption | wp_step))
  have new := code_set_led1 (P := P) (w := w) (A := A.in1) (s := s) (E := E) v (Q₁ := fun o t => o = .ref s.heap.objs.size ∧ t = { s with heap := s.heap.push (set0 w) }) ⟨rfl, rfl⟩
  refine codeAny_mono new fun r t hr => ?_
  rcases r with e | fl
  · exact hr
  · cases fl <;> first | exact hr.elim | skip
    obtain ⟨e1, e2⟩ := hr
    subst e1 e2
    repeat (any_goals (first | assumption | wp_step))
    refine codeAny_mono (codeAny_call_builtin fc.init.plain F.entry_set_init (check_set_init_1 ty h)) fun r2 t2 hr2 => ?_
    rcases r2 with e | fl2
    · exact hr2
    · cases fl2 <;> first | exact hr2.elim | skip
      obtain ⟨e3, q⟩ := hr2
      subst e3
      repeat (any_goals (first | assumption | wp_step))
/-- filling a new set from a list of ints -/
theorem set_fill {l : Addr} {items : Array Value} (ns : List Int) (hh : A.handled = none) (L : s.heap.IsList l items) (rv : IntsAre items.toList ns) (hb : ns.length + 1 < scanBound)
    {K : PySem.Fin → Shared → Prop} {G : Value → Shared → Prop}
    (h : ∀ (h' : Heap) (tk c : Nat), SetR w h' s.heap.objs.size (fun j => decide (j ∈ ns)) c → c ≤ ns.length → (∀ b o, s.heap.get? b = some o → h'.get? b = some o) → K (.done (.ret .none)) { s with heap := h', toks := tk }) :
    wpAny (model P w) A.in1.in1 (Builtin.«set.__init__» ⟨[.ref s.heap.objs.size, .ref l], []⟩) K G { s with heap := s.heap.push (set0 w) } := by
  have lt : l < s.heap.objs.size := by
    obtain ⟨o, e, _⟩ := L
    exact Heap.lt_size e
  have len : items.size = ns.length := by simpa using IntsAre.length rv
  have L1 := L.push (set0 w)
  have out : ∀ b, b ∉ [(s.heap.push (set0 w)).objs.size, l] ↔ b ≠ s.heap.objs.size + 1 ∧ b ≠ l := fun b => by simp [Heap.size_push]
  have n3 : A.in1.in1.in1.handled = none := by simpa using hh
  have itv : ∀ (i : Nat) (v : Value), items[i]? = some v → ∃ k t, ns[i]? = some k ∧ v = .int k t := fun i v e => by
    have e' : items.toList[i]? = some v := by rwa [Array.getElem?_toList]
    obtain ⟨t, q⟩ := IntsAre.int_at rv i v e'
    have b : i < ns.length := len ▸ (Array.getElem?_eq_some_iff.mp e).1
    exact ⟨ns[i], t, List.getElem?_eq_getElem b, by rw [q, List.getD_eq_getElem?_getD, List.getElem?_eq_getElem b]; rfl⟩
  have LO := L1
  obtain ⟨⟨cl, di, da, sl⟩, g, c0, nl, d0⟩ := LO
  simp only at c0 d0
  subst c0 d0
  have q1 := F.sub_list_set
  have q2 := F.sub_list_frozenset
  have q3 : (Value.type "list" == Value.type "dict") = false := by decide
  unfold Builtin.«set.__init__» noKeywords Builtin.Frozenset.updateFrom
  generalize it : pyIter = PI
  wp_walk
  subst it
  apply wpAny_pyIter_list L1
  apply wpAny_bind
  apply wpAny_runValue
  have far : l ≠ (s.heap.push (set0 w)).objs.size := by rw [Heap.size_push]; exact Nat.ne_of_lt (Nat.lt_succ_of_lt lt)
  refine set_update_ints (Walks.list n3 _ l far items).toS s.heap.objs.size ((out _).2 ⟨Nat.ne_of_lt (Nat.lt_succ_self _), Nat.ne_of_gt lt⟩) ns len hb itv (items.size - 0) 0 _ rfl (Nat.zero_le _) ⟨⟨_, Heap.get?_push_size _ rfl, rfl, rfl⟩, L1.push _⟩ ⟨0, Nat.le_refl 0, setR_new_at (Heap.get?_push_of_some _ (Heap.get?_push_size _ rfl))⟩ ?_
  rintro ⟨h2, gs, dr, t2, os2⟩ c mv cn R
  have z1 : gs = s.gens := mv.gens
  have z2 : dr = s.drawn := mv.drawn
  have z3 : os2 = s.os := mv.os
  subst z1 z2 z3
  show wpAny _ _ _ _ _ _
  apply wpAny_pure
  show wpAny _ _ (ret Value.none) _ _ _
  apply wpAny_pure
  refine h h2 t2 c R (by omega) fun b o e => ?_
  have bl := Heap.lt_size e
  refine mv.heap b o ?_ (Heap.get?_push_of_some _ (Heap.get?_push_of_some _ e))
  rw [Heap.size_push]
  simp only [List.mem_cons, List.not_mem_nil, or_false, not_or]
  exact ⟨Nat.ne_of_lt bl, Nat.ne_of_lt (Nat.lt_succ_of_lt bl)⟩
/-- set(a list of ints) -/
theorem set_list_ints {l : Addr} {items : Array Value} (ns : List Int) {Q : Value → Shared → Prop} (hh : A.handled = none) (L : s.heap.IsList l items) (rv : IntsAre items.toList ns) (hb : ns.length + 1 < scanBound)
    (h : ∀ (h' : Heap) (tk c : Nat), SetR w h' s.heap.objs.size (fun j => decide (j ∈ ns)) c → c ≤ ns.length → (∀ b o, s.heap.get? b = some o → h'.get? b = some o) → Q (.ref s.heap.objs.size) { s with heap := h', toks := tk }) :
    wpAny (model P w) A (call (.type "set") [.ref l]) Q E s :=
  set_call (set_fill ns hh L rv hb fun h' tk c R cn k => ⟨rfl, h h' tk c R cn k⟩)
end
section
variable {P : Program} {w : World} {A : Around} {E : Value → Shared → Prop} {s : Shared} {a : Addr} {S : Int → Bool} {c : Nat}
/-- what a sorting of a set leaves -/
structure SetSorted (s t : Shared) (S : Int → Bool) (c : Nat) (l : Addr) : Prop where
  kept : ∀ b o, s.heap.get? b = some o → t.heap.get? b = some o
  gens : t.gens = s.gens
  os : t.os = s.os
  new : s.heap.objs.size ≤ l
  out : ∃ (arr : List Value) (ep : Nat) (ns : List Int), t.heap.get? l = some (seqObj "list" arr.toArray ep) ∧ IntsAre arr ns ∧ ns.Pairwise (· < ·) ∧ (∀ k, k ∈ ns ↔ S k = true) ∧ ns.length = c
/-- sorted(a set of ints), however many -/
theorem set_sorted {Q : Value → Shared → Prop} (R : SetR w s.heap a S c) (calm : A.handled = none) (fin : ∀ t l, SetSorted s t S c l → Q (.ref l) t) :
    wpAny (model P w) A (call (.builtin "sorted") [.ref a]) Q E s := by
  have R' := R
  obtain ⟨o, es, ep, tb, g1, g2, g3, g4, g5, g6, g7, g8, g9, g10, g11⟩ := R'
  have body := Calls.call_function_entry (prog := P) (w := w) (A := A) (E := E) (Q := Q) (s := s) kind_sorted plain_sorted entry_sorted (args_sorted1 (.ref a))
  apply body
  unfold Builtin.«sorted»
  apply wpAny_bind (m := checkCount "sorted" 1 1 _)
  apply wpAny_pure
  apply wpAny_bind
  refine collect_set (A := A.in1) calm (show SetAt s.heap a es ep tb from ⟨o, g1, g2.1, g3⟩) g8 g7 g10 g11 fun u vs k1 uz ug uo pm => ?_
  have small : vs.length ≤ sizeLine := by
    have e : vs.length = c := by rw [pm.length_eq, List.length_map, Array.length_toList, g9]
    rw [e, sizeLine_eq, ← g9]
    exact Nat.le_trans (Nat.le_of_lt g7) (by decide)
  have good : IntsAre vs (vs.map Builtin.Re.reRawOf) := ints_of vs fun v hv => by
    obtain ⟨e, he, q⟩ := List.mem_map.mp (pm.mem_iff.mp hv)
    obtain ⟨k, tk, h1, _⟩ := g4 e he
    exact ⟨k, tk, q.symm.trans h1⟩
  have keys : (vs.map Builtin.Re.reRawOf).Perm (es.toList.map keyOf) := by
    have q := pm.map Builtin.Re.reRawOf
    rwa [List.map_map] at q
  apply wpAny_bind
  refine wpAny_newList ?_ small
  have at_ : (u.heap.push (seqObj "list" vs.toArray 0)).get? u.heap.objs.size = some (seqObj "list" vs.toArray 0) := Heap.get?_push_size _ rfl
  apply wpAny_bind
  apply wpAny_holding
  have srt := fun (K : PySem.Fin → Shared → Prop) (G : Value → Shared → Prop) (B : Around) => SrtO.list_sort_ord (prog := P) (w := w) (s := { u with heap := u.heap.push (seqObj "list" vs.toArray 0) }) (a := u.heap.objs.size) (vs := vs) (n := 0) (A := B) (E := G) (R := K) SrtO.swo_int at_ small (fun h2 => SrtO.ints_sortable good h2)
  refine wpAny_call_entry PyProof.Rows.slot_list_sort ⟨_, at_, rfl⟩ PyProof.Rows.entry_list_sort (srt _ _ _ fun out o1 o2 => ⟨.none, rfl, ?_⟩) (PyProof.Rows.args_list_sort _)
  obtain ⟨k1', k2', k3'⟩ := SrtO.ints_out good o1 o2
  obtain ⟨ep', he'⟩ := PyProof.Rows.sortedHeap_at (vs := vs) (out := out.toArray) at_
  have pn : (out.map SrtO.iv).Perm (es.toList.map keyOf) := k2'.trans keys
  apply wpAny_pure
  refine ⟨_, rfl, fin _ _ ⟨fun b ob hb => ?_, ug, uo, ?_, ?_⟩⟩
  · have hb2 := k1 b ob hb
    have lt := Heap.lt_size hb2
    show (PyProof.Rows.sortedHeap (u.heap.push (seqObj "list" vs.toArray 0)) u.heap.objs.size vs out.toArray).get? b = some ob
    rw [PyProof.Rows.sortedHeap_old (Nat.ne_of_lt lt) (by rw [Heap.size_push]; exact Nat.lt_succ_of_lt lt)]
    exact Heap.get?_push_of_some _ hb2
  · exact uz
  · exact ⟨out, ep', out.map SrtO.iv, he', k1', lt_of_le_nodup _ k3' (pn.nodup_iff.mpr g5), fun k => by rw [pn.mem_iff, ← g6 k], by rw [pn.length_eq, List.length_map, Array.length_toList, g9]⟩
end
end PM
end

section
set_option Elab.async false
set_option linter.all false
set_option maxRecDepth 100000
/-! PmQ: more built-ins: index, join, ranges, sorted(set(..)), isinstance. -/
namespace PM
open PySem L2 PyProof.Rows
theorem Step.trans {W W1 W2 : Wd} {H H1 H2 : Hp} (a : Step W H W1 H1) (b : Step W1 H1 W2 H2) : Step W H W2 H2 := by
  refine ⟨a.le.trans b.le, b.ad.trans a.ad, b.sub, a.same.trans b.same, fun x hx => ?_⟩
  rcases b.new x hx with z | z
  · exact a.new x z
  · refine .inr ?_
    cases e : H x with
    | none => rfl
    | some o =>
      rw [a.same _ _ e] at z
      cases z
theorem Out.step {T : Tb} {W W1 : Wd} {H H1 : Hp} {d : D} {Q : VK} (q : Out T W H d Q) (st : Step W H W1 H1) : Out T W1 H1 d Q := fun W' v H' s2 rn => by
  refine q W' v H' (st.trans s2) ?_
  cases d with
  | nl xs =>
    obtain ⟨a, vs, e, h0, r⟩ := rn
    refine ⟨a, vs, e, ?_, r⟩
    cases e2 : H a with
    | none => rfl
    | some o =>
      rw [st.same _ _ e2] at h0
      cases h0
  | _ => exact rn
theorem Step.alloc {W : Wd} {H : Hp} {p : Addr} {o : HO} (hs : Same W.F H) (hp : H p = none) : Step W H W (upd H p o) :=
  ⟨Same.refl _, rfl, fun b u e => by
    have : b ≠ p := fun z => by
      subst z
      have := hs _ _ e
      rw [hp] at this
      cases this
    rw [upd_ne this]
    exact hs b u e, same_upd hp, fun _ z => .inl z⟩
def RM (T : Tb) (p : Prim) : V → List V → Hp → VK → Prop := fun x vs H Q => ∃ W dx dy y d, Same W.F H ∧ vs = [y] ∧ Vw T W H dx x ∧ Vw T W H dy y ∧ primD p [dx, dy] = some d ∧ Out T W H d Q
theorem MtR.weak {X : Cx} {id : String} {r r' : V → List V → Hp → VK → Prop} (h : MtR X id r) (k : ∀ x vs H Q, r' x vs H Q → r x vs H Q) : MtR X id r' := fun pins s σ H x xs v us Q I rx rs q => h pins s σ H x xs v us Q I rx rs (k _ _ _ _ q)
theorem idxI_spec : ∀ {ns : List Int} {i : Int} {j : Nat}, idxI ns i = some j → ns[j]? = some i ∧ ∀ m z, m < j → ns[m]? = some z → z ≠ i
  | [], _, _, h => by cases h
  | n :: ns, i, j, h => by
    unfold idxI at h
    split at h
    · rename_i e
      cases h
      exact ⟨by simp [e], fun m z hm => absurd hm (Nat.not_lt_zero _)⟩
    · rename_i e
      obtain ⟨j', h1, rfl⟩ := Option.map_eq_some_iff.mp h
      obtain ⟨g1, g2⟩ := idxI_spec h1
      refine ⟨by simpa using g1, fun m z hm hz => ?_⟩
      cases m with
      | zero =>
        simp at hz
        subst hz
        exact e
      | succ m => exact g2 m z (by omega) (by simpa using hz)
section
variable {T : Tb} {B : Bs} {X : Cx} {F : Fields} {call : CallF}
variable {a b c e o : Expr} {ma mb mc me mo : ME} {pos apos : Pos}
theorem ok_index : MtR X "list.index" (RM T .index) :=
  MtR.weak mt_index fun x vs H Q ⟨W, dx, dy, y, d, hw, hvs, hx, hy, e, q⟩ => by
    subst hvs
    unfold primD at e
    split at e <;> try contradiction
    rename_i heq
    cases heq
    obtain ⟨ns, h2, e⟩ := Option.bind_eq_some_iff.mp e
    obtain ⟨j, h3, rfl⟩ := Option.map_eq_some_iff.mp e
    have := intsOf_eq h2
    subst this
    cases vw_int hy
    obtain ⟨p, us, rfl, g1, g2⟩ := hx
    have := reps_ints g2
    subst this
    obtain ⟨g3, g4⟩ := idxI_spec h3
    have g5 : ∀ i0, ns[j]? = some i0 → (ns.map V.int)[j]? = some (V.int i0) := fun i0 g => by
      rw [List.getElem?_map, g]
      rfl
    refine ⟨p, ns.map V.int, _, j, _, rfl, rfl, .inl g1, rfl, ?_, g5 _ g3, ?_, ?_, q.int hw⟩
    · simp [flatV]
    · simp [eqV]
    · intro m z' hm hz
      rw [List.getElem?_map] at hz
      obtain ⟨z, hz1, rfl⟩ := Option.map_eq_some_iff.mp hz
      have := g4 m z hm hz1
      simpa [eqV] using this
theorem lensum_eq : ∀ ss : List PySem.Str, lensum ss = (ss.map (·.length)).sum
  | [] => rfl
  | s :: ss => by
    simp only [lensum, List.map_cons, List.sum_cons]
    rw [lensum_eq ss]
theorem ok_join : MtR X "str.join" (RM T .join) :=
  MtR.weak mt_join fun x vs H Q ⟨W, dx, dy, y, d, hw, hvs, hx, hy, e, q⟩ => by
    subst hvs
    unfold primD at e
    split at e <;> try contradiction
    rename_i heq
    cases heq
    obtain ⟨ss, h2, e⟩ := Option.bind_eq_some_iff.mp e
    split at e
    · rename_i hl
      cases e
      have := strsOf_eq h2
      subst this
      cases vw_str hx
      obtain ⟨p, us, rfl, g1, g2⟩ := hy
      have := reps_strs g2
      subst this
      refine ⟨_, p, ss, rfl, rfl, .inl (.inl g1), ?_, q.str hw⟩
      rw [← lensum_eq]
      have : LIM ≤ 16777216 := by rw [LIM_eq]; decide
      omega
    · cases e
/-- o.m(e), m a method of lists | texts -/
theorem snd_m1 {p : Prim} {Ty id : String} {name : PySem.Str} (hk : ∀ x, recvOk p x = true → ∀ W H v, Vw T W H x v → tyV X.K Ty v H) (pa : PlainAttrs Ty) (slot : Slot Ty name id) (hty : typeOf (.builtin id) = pure (.type "method_descriptor")) (hm : MtR X id (RM T p))
    (ho : Snd T B X F call mo o) (he : Snd T B X F call me e) (po : plE o = true) (pe : plE e = true) (hl : (apos.endLine == pos.line) = true) : Snd T B X F call (.m1 p mo me) (.Call (.Attribute o name apos) [e] [] pos) :=
  have pes : [e].all plE = true := by simp [pe]
  PE.weak (pe_bm pa slot hty hm ho (sndb_cons he sndb_nil (plE_star pe _ _)) (plE_base po _ _) (plEs_few pes (Nat.lt_of_lt_of_le (show 1 < 2 from Nat.lt_succ_self 1) (by omega)) _ _) hl (plE_star pe _ _) rfl) fun σ H Q ⟨W, S, d, S', I, e1, k⟩ => by
    simp only [ev] at e1
    obtain ⟨⟨d1, S1⟩, h1, e1⟩ := R.bind_eq_ok e1
    obtain ⟨x0, h2, e1⟩ := R.ofO_bind e1
    split at e1
    · rename_i hr
      obtain ⟨⟨d2, S2⟩, h3, e1⟩ := R.bind_eq_ok e1
      replace e1 := ofO_eq_ok e1
      obtain ⟨x, h5, e1⟩ := Option.bind_eq_some_iff.mp e1
      obtain ⟨y, h6, e1⟩ := Option.bind_eq_some_iff.mp e1
      obtain ⟨z, h4, e1⟩ := Option.map_eq_some_iff.mp e1
      cases e1
      refine use_b I h1 fun W1 v1 H1 l1 I1 b1 => ?_
      refine ⟨hk x0 hr W1 H1 v1 (I1.view b1 h2), W1, S1, [d2], S2, I1, ?_, fun W2 vs H2 l2 I2 r2 => ?_⟩
      · simp only [evbs]
        rw [h3]
        rfl
      · obtain ⟨r2l, r2g⟩ := r2
        match vs, r2l, r2g with
        | [w], _, r2g =>
          exact ⟨W2, x, y, w, _, I2.sub, rfl, I2.view (b1.mono l2) h5, I2.view (r2g 0 _ w rfl rfl) h6, h4, fun W3 v H3 st rn => k W3 v H3 ((l1.trans l2).trans st.toLe) (I2.step st) (I2.resN st rn)⟩
    · cases e1
theorem snd_index (ho : Snd T B X F call mo o) (he : Snd T B X F call me e) (po : plE o = true) (pe : plE e = true) (hl : (apos.endLine == pos.line) = true) : Snd T B X F call (.m1 .index mo me) (.Call (.Attribute o "index" apos) [e] [] pos) :=
  snd_m1 (fun x hr W H v h => by
    cases x <;> try contradiction
    obtain ⟨p, us, rfl, g1, g2⟩ := h
    exact .inl ⟨rfl, us, .inl g1⟩) PySem.F.plainAttrs_list PySem.F.slot_list_index PySem.F.type_list_index ok_index ho he po pe hl
theorem snd_join (ho : Snd T B X F call mo o) (he : Snd T B X F call me e) (po : plE o = true) (pe : plE e = true) (hl : (apos.endLine == pos.line) = true) : Snd T B X F call (.m1 .join mo me) (.Call (.Attribute o "join" apos) [e] [] pos) :=
  snd_m1 (fun x hr W H v h => by
    cases x <;> try contradiction
    cases vw_str h
    exact rfl) PySem.F.plainAttrs_str PySem.F.slot_str_join PySem.F.type_str_join ok_join ho he po pe hl
/-! ### ranges -/
theorem reps_rangeD {W : Wd} (a b : Int) : Reps T W (rangeD a b) (rgV a b) := by
  unfold rangeD rgV
  exact Reps.of_map (fun i => by simp only [Rep]) _
theorem rgOk_of {a b : Int} (h : b - a < LIM) (h1 : fitI a = true) (h2 : fitI b = true) : RgOk a b := by
  rw [fitI_is] at h1 h2
  have : (LIM : Int) < 2 ^ 24 := by rw [LIM_eq]; decide
  exact ⟨by omega, by omega, by omega, by omega, by omega⟩
theorem snd_listR1 {np np2 q : Pos} (hc : X.calm = true) (hg : Gl X "list") (hm : X.mg "list" = none) (hg2 : Gl X "range") (hm2 : X.mg "range" = none) (ha : Snd T B X F call ma a) (pa : plE a = true) :
    Snd T B X F call (.prim .listR1 [ma]) (.Call (.Name "list" np) [.Call (.Name "range" np2) [a] [] q] [] pos) :=
  PE.weak (pe_listRg hc hg hm (prg_1 hg2 hm2 ha (plE_star pa _ _)) rfl) fun σ H Q ⟨W, S, d, S', I, e1, k⟩ => by
    simp only [ev, evbs] at e1
    obtain ⟨⟨ds, S1⟩, h1, e1⟩ := R.bind_eq_ok e1
    obtain ⟨⟨d1, S2⟩, h2, h3⟩ := R.bind_eq_ok h1
    cases h3
    replace e1 := ofO_eq_ok e1
    obtain ⟨xs, h4, e1⟩ := Option.bind_eq_some_iff.mp e1
    obtain ⟨z, h5, e1⟩ := Option.map_eq_some_iff.mp e1
    cases e1
    simp only [List.mapM_cons, List.mapM_nil, Option.bind_eq_bind, Option.bind_eq_some_iff] at h4
    obtain ⟨x, h6, ys, h7, h8⟩ := h4
    cases h7
    cases h8
    unfold primD at h5
    split at h5 <;> try contradiction
    rename_i heq
    cases heq
    split at h5
    · rename_i hb
      cases h5
      simp only [Bool.and_eq_true, decide_eq_true_eq] at hb
      refine use_b I h2 fun W1 v1 H1 l1 I1 b1 => ?_
      cases vw_int (I1.view b1 h6)
      refine ⟨_, rfl, rgOk_of (by omega) ((fitI_is 0).mpr (by decide)) hb.2, fun p hp => ?_⟩
      have o : Out T W1 H1 (.nl (rangeD 0 _)) Q := fun W3 v H3 st rn => k W3 v H3 (l1.trans st.toLe) (I1.step st) (I1.resN st rn)
      exact o.newL I1.sub (reps_rangeD _ _) hp
    · cases h5
theorem snd_tupR1 {np np2 q : Pos} (hc : X.calm = true) (hg : Gl X "tuple") (hm : X.mg "tuple" = none) (hg2 : Gl X "range") (hm2 : X.mg "range" = none) (ha : Snd T B X F call ma a) (pa : plE a = true) :
    Snd T B X F call (.prim .tupR1 [ma]) (.Call (.Name "tuple" np) [.Call (.Name "range" np2) [a] [] q] [] pos) :=
  PE.weak (pe_tupRg hc hg hm (prg_1 hg2 hm2 ha (plE_star pa _ _)) rfl) fun σ H Q ⟨W, S, d, S', I, e1, k⟩ => by
    simp only [ev, evbs] at e1
    obtain ⟨⟨ds, S1⟩, h1, e1⟩ := R.bind_eq_ok e1
    obtain ⟨⟨d1, S2⟩, h2, h3⟩ := R.bind_eq_ok h1
    cases h3
    replace e1 := ofO_eq_ok e1
    obtain ⟨xs, h4, e1⟩ := Option.bind_eq_some_iff.mp e1
    obtain ⟨z, h5, e1⟩ := Option.map_eq_some_iff.mp e1
    cases e1
    simp only [List.mapM_cons, List.mapM_nil, Option.bind_eq_bind, Option.bind_eq_some_iff] at h4
    obtain ⟨x, h6, ys, h7, h8⟩ := h4
    cases h7
    cases h8
    unfold primD at h5
    split at h5 <;> try contradiction
    rename_i heq
    cases heq
    split at h5
    · rename_i hb
      cases h5
      simp only [Bool.and_eq_true, decide_eq_true_eq] at hb
      refine use_b I h2 fun W1 v1 H1 l1 I1 b1 => ?_
      cases vw_int (I1.view b1 h6)
      refine ⟨_, rfl, rgOk_of (by omega) ((fitI_is 0).mpr (by decide)) hb.2, fun p hp => ?_⟩
      have o : Out T W1 H1 (.tup (rangeD 0 _)) Q := fun W3 v H3 st rn => k W3 v H3 (l1.trans st.toLe) (I1.step st) (I1.resN st rn)
      exact o.newT I1.sub (reps_rangeD _ _) hp
    · cases h5
/-! ### sorted(set(ints)) -/
theorem mem_idedup {n : Int} : ∀ {ns : List Int}, n ∈ idedup ns ↔ n ∈ ns
  | [] => by simp [idedup]
  | m :: ns => by
    unfold idedup
    split
    · rename_i h
      rw [mem_idedup, List.mem_cons]
      exact ⟨.inr, fun z => z.elim (fun e => e ▸ h) id⟩
    · rw [List.mem_cons, List.mem_cons, mem_idedup]
theorem idedup_nodup : ∀ ns : List Int, (idedup ns).Nodup
  | [] => List.Pairwise.nil
  | m :: ns => by
    unfold idedup
    split
    · exact idedup_nodup ns
    · rename_i h
      exact List.nodup_cons.mpr ⟨fun z => h (mem_idedup.mp z), idedup_nodup ns⟩
theorem strict_uniq : ∀ {l m : List Int}, l.Pairwise (· < ·) → m.Pairwise (· < ·) → (∀ k, k ∈ l ↔ k ∈ m) → l = m
  | [], [], _, _, _ => rfl
  | [], y :: m, _, _, h => absurd ((h y).mpr List.mem_cons_self) (by simp)
  | x :: l, [], _, _, h => absurd ((h x).mp List.mem_cons_self) (by simp)
  | x :: l, y :: m, hl, hm, h => by
    obtain ⟨l1, l2⟩ := List.pairwise_cons.mp hl
    obtain ⟨m1, m2⟩ := List.pairwise_cons.mp hm
    have e : x = y := by
      rcases List.mem_cons.mp ((h x).mp List.mem_cons_self) with z | z
      · exact z
      · rcases List.mem_cons.mp ((h y).mpr List.mem_cons_self) with w | w
        · exact w.symm
        · have := m1 x z
          have := l1 y w
          omega
    subst e
    rw [strict_uniq l2 m2 fun k => ⟨fun z => by
      rcases List.mem_cons.mp ((h k).mp (List.mem_cons_of_mem _ z)) with w | w
      · have := l1 k z
        omega
      · exact w, fun z => by
      rcases List.mem_cons.mp ((h k).mpr (List.mem_cons_of_mem _ z)) with w | w
      · have := m1 k z
        omega
      · exact w⟩]
theorem isort_spec (ns : List Int) : (isort ns).Perm ns ∧ (isort ns).Pairwise (· ≤ ·) := by
  refine ⟨List.mergeSort_perm ns _, ?_⟩
  have := List.pairwise_mergeSort (le := fun (a b : Int) => decide (a ≤ b)) (fun a b c h1 h2 => by
    have h1 := of_decide_eq_true h1
    have h2 := of_decide_eq_true h2
    exact decide_eq_true (Int.le_trans h1 h2)) (fun a b => by
    rcases Int.le_total a b with z | z
    · simp [z]
    · simp [z]) ns
  exact this.imp fun h => of_decide_eq_true h
theorem isort_idedup (ns : List Int) : (isort (idedup ns)).Pairwise (· < ·) ∧ ∀ k, k ∈ isort (idedup ns) ↔ k ∈ ns := by
  obtain ⟨h1, h2⟩ := isort_spec (idedup ns)
  exact ⟨lt_of_le_nodup _ h2 (h1.nodup_iff.mpr (idedup_nodup ns)), fun k => by rw [h1.mem_iff, mem_idedup]⟩
theorem setR_len {w : World} {h : Heap} {a : Addr} {ns : List Int} {c : Nat} (R : SetR w h a (fun j => decide (j ∈ ns)) c) : c = (idedup ns).length := by
  obtain ⟨o, es, ep, t, _, _, _, _, nd, hm, _, _, hn, _⟩ := R
  obtain ⟨h1, h2⟩ := isort_spec (es.toList.map keyOf)
  obtain ⟨t1, t2⟩ := isort_idedup ns
  obtain ⟨h3, _⟩ := isort_spec (idedup ns)
  have e : isort (es.toList.map keyOf) = isort (idedup ns) := strict_uniq (lt_of_le_nodup _ h2 (h1.nodup_iff.mpr nd)) t1 fun k => by
    rw [h1.mem_iff, ← hm k, t2 k]
    simp
  have e2 : (es.toList.map keyOf).length = (idedup ns).length := by rw [← h1.length_eq, e, h3.length_eq]
  rw [List.length_map, Array.length_toList] at e2
  exact hn.symm.trans e2
/-- set(a list of ints) -/
def rSetL (w : World) : List V → Hp → VK → Prop := fun vs H Q => ∃ (l : Addr) (ns : List Int), vs = [V.ref l] ∧ Rd H l (.lst (ns.map V.int)) ∧ ns.length < 4000 ∧
  ∀ p c, c = (idedup ns).length → H p = none → Q (.ref p) (upd H p (SetO w p (fun j => decide (j ∈ ns)) c))
theorem cr_setL (hc : X.calm = true) : CallR X (.type "set") (rSetL X.w) := by
  intro pins s σ H vs us Q I r h
  obtain ⟨l, ns, rfl, hs, hl, q⟩ := h
  obtain ⟨its, rv, pl, _⟩ := I.list (.inl hs)
  rw [Vals.ref1 r]
  refine set_list_ints (P := X.prog) (w := X.w) ns (I.ok.hd hc) pl.isList (by simpa using rv.ints) (by unfold scanBound; omega) fun h' tk c R hcn k => ?_
  have hn : H s.heap.objs.size = none := I.hok.fresh (Nat.le_refl _)
  exact ⟨.ref s.heap.objs.size, upd H s.heap.objs.size (SetO X.w s.heap.objs.size (fun j => decide (j ∈ ns)) c), I.laid (t' := tk) k (Nat.le_refl _) (setO_new R), rfl, q _ c (setR_len R) hn⟩
/-- sorted(a set of ints), however many -/
def rSortS (w : World) : List V → Hp → VK → Prop := fun vs H Q => ∃ (a : Addr) (S : Int → Bool) (n : Nat), vs = [V.ref a] ∧ H a = some (SetO w a S n) ∧
  ∀ (ns : List Int) (p : Addr), ns.Pairwise (· < ·) → (∀ k : Int, k ∈ ns ↔ S k = true) → H p = none → Q (.ref p) (upd H p (.lst (ns.map V.int)))
theorem cr_sortS (hc : X.calm = true) : CallR X (.builtin "sorted") (rSortS X.w) := by
  intro pins s σ H vs us Q I r h
  obtain ⟨a, S, n, rfl, ha, q⟩ := h
  have R := setO_get I ha
  have nb : n < scanBound := by
    obtain ⟨_, _, _, _, _, _, _, _, _, _, b1, _, b2, _⟩ := R
    omega
  rw [Vals.ref1 r]
  refine set_sorted R (I.ok.hd hc) fun t l so => ?_
  obtain ⟨arr, ep, ns, g, hi, h1, h2, h3⟩ := so.out
  have few : (ns.map V.int).length ≤ sizeLine := by
    rw [List.length_map, h3, sizeLine_eq]
    exact Nat.le_trans (Nat.le_of_lt nb) (by decide)
  have fresh : H l = none := I.hok.fresh so.new
  have J : Inv X pins σ (upd H l (.lst (ns.map V.int))) { s with heap := t.heap, gens := t.gens, drawn := t.drawn, toks := t.toks } :=
    I.call (ch := []) (Un.laid so.kept so.new fresh) (I.hok.laid so.kept so.new ⟨few, arr, ep, vals_of_ints hi, g⟩) (by rw [so.gens]; exact I.bare) (fun _ z => nomatch z)
  have same : t = { s with heap := t.heap, gens := t.gens, drawn := t.drawn, toks := t.toks } := by
    have o := so.os
    cases t
    cases s
    cases o
    rfl
  rw [same]
  exact ⟨.ref l, _, J, rfl, q ns l h1 h2 fresh⟩
theorem snd_sortedSet {np np2 q : Pos} (hc : X.calm = true) (hg : Gl X "sorted") (hm : X.mg "sorted" = none) (hg2 : Gl X "set") (hm2 : X.mg "set" = none) (ha : Snd T B X F call ma a) (pa : plE a = true) :
    Snd T B X F call (.prim .sortedSet [ma]) (.Call (.Name "sorted" np) [.Call (.Name "set" np2) [a] [] q] [] pos) :=
  PE.weak (pe_callB (cr_sortS hc) hg hm (by decide +kernel) (pa_cons (pe_callTy (cr_setL hc) hg2 hm2 (by decide +kernel) (sndb_cons ha sndb_nil (plE_star pa _ _)) (by decide) (by decide) (plE_star pa _ _) rfl) pa_nil rfl) (by decide) (by decide) rfl rfl) fun σ H Q ⟨W, S, d, S', I, e1, k⟩ => by
    simp only [ev] at e1
    obtain ⟨⟨ds, S1⟩, h1, e1⟩ := R.bind_eq_ok e1
    replace e1 := ofO_eq_ok e1
    obtain ⟨xs, h4, e1⟩ := Option.bind_eq_some_iff.mp e1
    obtain ⟨z, h5, e1⟩ := Option.map_eq_some_iff.mp e1
    cases e1
    refine ⟨W, S, ds, _, I, h1, fun W1 vs H1 l I1 r1 => ?_⟩
    have hv := I1.views r1.1 r1.2 h4
    unfold primD at h5
    split at h5 <;> try contradiction
    obtain ⟨ns, h2, e⟩ := Option.bind_eq_some_iff.mp h5
    split at e
    · rename_i hl
      cases e
      have := intsOf_eq h2
      subst this
      obtain ⟨v, rfl, hx⟩ := vws1 hv
      obtain ⟨p, us, rfl, g1, g2⟩ := hx
      have := reps_ints g2
      subst this
      refine ⟨p, ns, rfl, g1, hl, fun p2 c hcc hp => ?_⟩
      refine ⟨p2, _, c, rfl, upd_same, fun ns' p3 s1 s2 hp3 => ?_⟩
      obtain ⟨t1, t2⟩ := isort_idedup ns
      have e : ns' = isort (idedup ns) := strict_uniq s1 t1 fun k => by rw [s2 k, t2 k]; simp
      rw [e]
      have o : Out T W1 H1 (.nl ((isort (idedup ns)).map .int)) Q := fun W3 v H3 st rn => k W3 v H3 (l.trans st.toLe) (I1.step st) (I1.resN st rn)
      have st := Step.alloc (o := SetO X.w p2 (fun j => decide (j ∈ ns)) c) I1.sub hp
      exact (o.step st).newL st.sub (reps_int _) hp3
    · cases e
end
end PM
end

section
set_option Elab.async false
set_option linter.all false
set_option maxRecDepth 100000
/-! PmR: what is walked; several values at once; targets. -/
namespace PM
open PySem L2 PyProof.Rows
section
variable {T : Tb} {B : Bs} {X : Cx} {F : Fields} {call : CallF}
variable {a b c e o : Expr} {ma mb mc me mo : ME} {pos apos : Pos}
/-! ### values that are assigned: what is new stays owned -/
section
variable {W : Wd} {S S' : PS} {σ : L2.St} {H : Hp} {Q : VK} {m : PS → R (D × PS)} {d : D}
theorem use_a (I : Rel T B W S σ H) (e : aw (m S) = .ok (d, S')) (k : ∀ W' v H', Le W W' → Rel T B W' S' σ H' → Res T B W' S' σ H' d v → (∀ i, d ≠ .loc i) → Q v H') : TM T B m σ H Q := by
  obtain ⟨⟨d0, S0⟩, e1, e2⟩ := R.bind_eq_ok e
  split at e2
  · rename_i i heq
    subst heq
    have e2 := ofO_eq_ok e2
    refine ⟨W, S, _, S0, I, e1, fun W' v H' l J r => ?_⟩
    obtain ⟨W2, l2, J2, b⟩ := J.frz r e2
    refine k W2 v H' (l.trans l2) J2 (Rep.res b) fun i z => ?_
    subst z
    simp only [Rep] at b
  · rename_i hne
    cases e2
    exact ⟨W, S, _, _, I, e1, fun W' v H' l J r => k W' v H' l J r fun i z => hne i z⟩
end
/-- a base that knows one more object -/
def Bs.ext (B : Bs) (a : Addr) (o : HO) : Bs := ⟨upd B.H a o, B.W⟩
section
variable {W W' : Wd} {S S' : PS} {σ σ' : L2.St} {H H' : Hp} {a0 : Addr} {vs : List V}
theorem Rel.notB (I : Rel T B W S σ H) (h : a0 ∉ W.ad) : a0 ∉ B.W.ad := fun z => h (List.IsPrefix.subset I.le.2 z)
theorem Rel.notBF (I : Rel T B W S σ H) (h : W.F a0 = none) : B.W.F a0 = none := by
  cases e : B.W.F a0 with
  | none => rfl
  | some o =>
    rw [I.le.1 _ _ e] at h
    cases h
theorem Rel.ext (I : Rel T B W S σ H) (h1 : H a0 = some (.lst vs)) (h2 : W.F a0 = none) (h3 : a0 ∉ W.ad) (h5 : ∀ i, ¬ Own S.L σ i a0) : Rel T (B.ext a0 (.lst vs)) W S σ H where
  len := I.len
  sub := I.sub
  slots := I.slots
  excl := I.excl
  ownc := fun i a h => by
    refine ⟨(I.ownc i a h).1, ?_⟩
    have : a ≠ a0 := fun z => h5 i (z ▸ h)
    show upd B.H a0 _ a = none
    rw [upd_ne this]
    exact (I.ownc i a h).2
  adl := I.adl
  adn := I.adn
  cells := I.cells
  fr1 := fun a o h hn => by
    have h' : upd B.H a0 (.lst vs) a = some o := h
    by_cases e : a = a0
    · subst e
      rw [upd_same] at h'
      cases h'
      exact h1
    · rw [upd_ne e] at h'
      exact I.fr1 a o h' hn
  fr2 := fun a h => by
    have : a ≠ a0 := fun z => h (z ▸ h2)
    rcases I.fr2 a h with z | z | z
    · exact .inl z
    · refine .inr (.inl ?_)
      show upd B.H a0 _ a = none
      rw [upd_ne this]
      exact z
    · exact .inr (.inr z)
  le := I.le
  newc := fun n a hn h => by
    have : a ≠ a0 := fun z => h3 (z ▸ List.mem_of_getElem? h)
    show upd B.H a0 _ a = none
    rw [upd_ne this]
    exact I.newc n a hn h
theorem Rel.unext (J : Rel T (B.ext a0 (.lst vs)) W' S' σ' H') (hB : B.H a0 = none) (h2 : B.W.F a0 = none) (h3 : a0 ∉ B.W.ad) :
    Rel T B W' S' σ' H' ∧ H' a0 = some (.lst vs) ∧ W'.F a0 = none ∧ a0 ∉ W'.ad ∧ ∀ i, ¬ Own S'.L σ' i a0 := by
  have hx : (B.ext a0 (.lst vs)).H a0 = some (.lst vs) := upd_same
  have back : ∀ a, (B.ext a0 (.lst vs)).H a = none → B.H a = none := fun a h => by
    by_cases e : a = a0
    · subst e
      exact hB
    · have h' : upd B.H a0 (.lst vs) a = none := h
      rw [upd_ne e] at h'
      exact h'
  refine ⟨⟨J.len, J.sub, J.slots, J.excl, fun i a h => ⟨(J.ownc i a h).1, back a (J.ownc i a h).2⟩, J.adl, J.adn, J.cells, fun a o h hn => J.fr1 a o ?_ hn, fun a h => ?_, J.le, fun n a hn h => back a (J.newc n a hn h)⟩, J.fr1 a0 _ hx h3, ?_, fun hm => ?_, fun i hi => ?_⟩
  · have : a ≠ a0 := fun z => by
      subst z
      rw [hB] at h
      cases h
    show upd B.H a0 _ a = some o
    rw [upd_ne this]
    exact h
  · rcases J.fr2 a h with z | z | z
    · exact .inl z
    · exact .inr (.inl (back a z))
    · exact .inr (.inr z)
  · cases e : W'.F a0 with
    | none => rfl
    | some o =>
      rcases J.fr2 a0 (by rw [e]; simp) with z | z | z
      · exact absurd h2 z
      · rw [hx] at z
        cases z
      · exact absurd z h3
  · obtain ⟨n, hn⟩ := List.getElem?_of_mem hm
    by_cases hl : n < B.W.ad.length
    · have := pre_get J.le.2 (List.getElem?_eq_getElem (l := B.W.ad) hl)
      rw [hn] at this
      cases this
      exact h3 (List.getElem_mem hl)
    · have := J.newc n a0 (by show B.W.ad.length ≤ n; omega) hn
      rw [hx] at this
      cases this
  · have := (J.ownc i a0 hi).2
    rw [hx] at this
    cases this
end
/-- several results -/
def Ress (T : Tb) (B : Bs) (W : Wd) (S : PS) (σ : L2.St) (H : Hp) : List D → List V → Prop
  | [], vs => vs = []
  | d :: ds, vs => ∃ v r, vs = v :: r ∧ Res T B W S σ H d v ∧ (∀ i, d ≠ .loc i) ∧ Ress T B W S σ H ds r ∧ ∀ xs, d = .nl xs → ∀ (j : Nat) ys, ds[j]? = some (.nl ys) → r[j]? ≠ some v
def TXs (T : Tb) (m : PS → R (List D × PS)) : TA := fun σ H Q => ∃ B W S ds S', Rel T B W S σ H ∧ m S = .ok (ds, S') ∧ ∀ W' vs H', Le W W' → Rel T B W' S' σ H' → Ress T B W' S' σ H' ds vs → Q vs H'
section
variable {W : Wd} {S : PS} {σ : L2.St} {H : Hp} {a0 : Addr} {vs0 : List V}
theorem Res.unext {d : D} {v : V} (hB : B.H a0 = none) (r : Res T (B.ext a0 (.lst vs0)) W S σ H d v) : Res T B W S σ H d v := by
  cases d with
  | nl xs =>
    obtain ⟨a, vs, e, h1, h2, h3, h4, h5, h6⟩ := r
    refine ⟨a, vs, e, h1, h2, h3, h4, ?_, h6⟩
    have h5' : upd B.H a0 (.lst vs0) a = none := h5
    have : a ≠ a0 := fun z => by
      subst z
      rw [upd_same] at h5'
      cases h5'
    rw [upd_ne this] at h5'
    exact h5'
  | _ => exact r
theorem Ress.unext (hB : B.H a0 = none) : ∀ {ds : List D} {vs : List V}, Ress T (B.ext a0 (.lst vs0)) W S σ H ds vs → Ress T B W S σ H ds vs ∧ ∀ (j : Nat) ys, ds[j]? = some (.nl ys) → vs[j]? ≠ some (.ref a0)
  | [], vs, h => ⟨h, fun j ys e => by simp at e⟩
  | d :: ds, vs, h => by
    obtain ⟨v, r, rfl, h1, h0, h2, h3⟩ := h
    obtain ⟨g1, g2⟩ := Ress.unext hB h2
    refine ⟨⟨v, r, rfl, h1.unext hB, h0, g1, h3⟩, fun j ys e => ?_⟩
    cases j with
    | zero =>
      simp at e
      subst e
      obtain ⟨a, vs, e, _, _, _, _, h5, _⟩ := h1
      have h5' : upd B.H a0 (.lst vs0) a = none := h5
      simp only [List.getElem?_cons_zero]
      intro z
      cases z
      cases e
      rw [upd_same] at h5'
      cases h5'
    | succ j => simpa using g2 j ys (by simpa using e)
end
abbrev SndX (T : Tb) (X : Cx) (F : Fields) (call : CallF) (m : ME) (e : Expr) : Prop := ∀ B, Snd T B X F call m e
theorem sndas_nil : PA X [] (TXs T (fun S => evas F call [] S)) := PA.weak pa_nil fun σ H Q ⟨B, W, S, d, S', I, e1, k⟩ => by
  cases e1
  exact k W _ H (Le.refl W) I rfl
theorem sndas_cons {ms : List ME} {es : List Expr} (ha : SndX T X F call ma a) (hr : PA X es (TXs T (fun S => evas F call ms S))) (hs : starEach (a :: es) X.env = (false, eval a X.env) :: starEach es X.env) : PA X (a :: es) (TXs T (fun S => evas F call (ma :: ms) S)) := by
  refine ⟨fun pos pins s σ H Q Iv ⟨B, W, S, ds, S', I, e1, k⟩ => ?_⟩
  refine (pa_cons (ha B) hr hs).run pos pins s σ H Q Iv ?_
  simp only [evas] at e1
  obtain ⟨⟨d1, S1⟩, h1, e1⟩ := R.bind_eq_ok e1
  obtain ⟨⟨d2, S2⟩, h2, e1⟩ := R.bind_eq_ok e1
  cases e1
  refine use_a I h1 fun W1 v H1 l1 I1 r1 hne => ?_
  by_cases hd : ∃ xs, d1 = .nl xs
  · obtain ⟨xs, rfl⟩ := hd
    obtain ⟨a0, vs0, rfl, g1, g2, g3, g4, g5, g6⟩ := r1
    refine ⟨B.ext a0 (.lst vs0), W1, S1, d2, S2, I1.ext g1 g2 g4 g6, h2, fun W2 vs H2 l2 J r2 => ?_⟩
    obtain ⟨J2, q1, q2, q3, q4⟩ := J.unext g5 (I1.notBF g2) (I1.notB g4)
    obtain ⟨r3, r4⟩ := Ress.unext g5 r2
    exact k W2 _ H2 (l1.trans l2) J2 ⟨_, vs, rfl, ⟨a0, vs0, rfl, q1, q2, Reps.mono l2 _ g3, q3, g5, q4⟩, hne, r3, fun _ _ j ys e => r4 j ys e⟩
  · have rp : Rep T W1 d1 v := by
      cases d1 <;> first | exact r1 | exact absurd ⟨_, rfl⟩ hd | exact absurd rfl (hne _)
    refine ⟨B, W1, S1, d2, S2, I1, h2, fun W2 vs H2 l2 J r2 => ?_⟩
    exact k W2 _ H2 (l1.trans l2) J ⟨_, vs, rfl, Rep.res (Rep.mono l2 _ rp), hne, r2, fun xs z => absurd ⟨xs, z⟩ hd⟩
/-! ### into slots -/
section
variable {W : Wd} {S : PS} {σ : L2.St} {H : Hp}
theorem Res.put {i : Nat} {d d' : D} {v v' : V} (hi : i < S.L.length) (r : Res T B W S σ H d v) (hv : ∀ xs ys, d' = .nl xs → d = .nl ys → v ≠ v') : (∀ i, d ≠ .loc i) → Res T B W ⟨S.L.set i (some d'), S.C⟩ (σ.set i (some v')) H d v := fun hloc => by
  cases d with
  | nl xs =>
    obtain ⟨a, vs, rfl, h1, h2, h3, h4, h5, h6⟩ := r
    refine ⟨a, vs, rfl, h1, h2, h3, h4, h5, fun j ⟨⟨zs, q1⟩, q2⟩ => ?_⟩
    have q1' : slot (S.L.set i (some d')) j = some (.nl zs) := q1
    rw [slot_set hi] at q1'
    by_cases hij : i = j
    · subst hij
      rw [if_pos rfl] at q1'
      cases q1'
      rw [List.getElem?_set_self'] at q2
      cases hq : σ[i]? with
      | none => rw [hq] at q2; cases q2
      | some z =>
        rw [hq] at q2
        simp at q2
        exact hv _ _ rfl rfl q2.symm
    · rw [if_neg hij] at q1'
      rw [List.getElem?_set_ne hij] at q2
      exact h6 j ⟨⟨zs, q1'⟩, q2⟩
  | loc i => exact absurd rfl (hloc i)
  | _ => exact r
theorem Ress.put {i : Nat} {d' : D} {v' : V} (hi : i < S.L.length) : ∀ {ds : List D} {vs : List V}, Ress T B W S σ H ds vs → (∀ xs, d' = .nl xs → ∀ (j : Nat) ys, ds[j]? = some (.nl ys) → vs[j]? ≠ some v') → Ress T B W ⟨S.L.set i (some d'), S.C⟩ (σ.set i (some v')) H ds vs
  | [], _, h, _ => h
  | d :: ds, vs, h, hv => by
    obtain ⟨v, r, rfl, h1, h0, h2, h3⟩ := h
    refine ⟨v, r, rfl, h1.put hi (fun xs ys e1 e2 z => ?_) h0, h0, Ress.put hi h2 fun xs e j ys e2 => ?_, h3⟩
    · exact hv xs e1 0 ys (by simp [e2]) (by simp [z])
    · simpa using hv xs e (j + 1) ys (by simpa using e2)
/-- several slots -/
def setV : List Nat → List V → L2.St → L2.St
  | i :: is, v :: vs, σ => setV is vs (σ.set i (some v))
  | _, _, σ => σ
theorem Rel.putMany : ∀ {is : List Nat} {ds : List D} {vs : List V} {S : PS} {σ : L2.St}, Rel T B W S σ H → (∀ i ∈ is, i < S.L.length) → Ress T B W S σ H ds vs → is.length = ds.length → Rel T B W ⟨setMany is ds S.L, S.C⟩ (setV is vs σ) H
  | [], [], _, S, σ, I, _, h, _ => by
    have h' : _ = [] := h
    subst h'
    exact I
  | i :: is, d :: ds, vs, S, σ, I, hi, h, hl => by
    obtain ⟨v, r, rfl, h1, h0, h2, h3⟩ := h
    have hi0 := hi i List.mem_cons_self
    exact Rel.putMany (S := ⟨S.L.set i (some d), S.C⟩) (I.put hi0 h1 h0) (fun j hj => by simpa using hi j (List.mem_cons_of_mem _ hj)) (h2.put hi0 h3) (by simpa using hl)
  | [], _ :: _, _, _, _, _, _, _, h => by simp at h
  | _ :: _, [], _, _, _, _, _, _, h => by simp at h
end
/-! ### what is walked -/
structure WalksD (T : Tb) (W0 : Wd) (J : It) (ds : List D) : Prop where
  stop : ∀ i H, Same W0.F H → ds.length ≤ i → J.stop i H
  go : ∀ i H, Same W0.F H → i < ds.length → J.go i H
  yld : ∀ i W H x H', Le W0 W → Same W.F H → J.yld i H x H' → ∀ d, ds[i]? = some d → ∃ W', Step W H W' H' ∧ Rep T W' d x
def TIx (T : Tb) (B : Bs) (m : PS → R (List D × PS)) (k : Nat) : TI := fun σ H R => ∃ W S ds0 S' ds, Rel T B W S σ H ∧ m S = .ok (ds0, S') ∧ itemsD k ds0 = some ds ∧ ∀ W' J H', Le W W' → Rel T B W' S' σ H' → WalksD T W' J ds → R J H'
theorem PI.weak {X : Cx} {tg e : Expr} {t t' : TI} (h : PI X tg e t) (k : ∀ σ H Q, t' σ H Q → t σ H Q) : PI X tg e t' := ⟨fun pins s σ H Q I q => h.run pins s σ H Q I (k σ H Q q)⟩
theorem PI.or {X : Cx} {tg e : Expr} {t t' : TI} (h : PI X tg e t) (h' : PI X tg e t') : PI X tg e (fun σ H R => t σ H R ∨ t' σ H R) := ⟨fun pins s σ H Q I q => q.elim (h.run pins s σ H Q I) (h'.run pins s σ H Q I)⟩
theorem walks_list {W : Wd} {p : Addr} {us : List V} {ds : List D} {K : PySem.W.Frag} (h : Rd W.F p (.lst us)) (r : Reps T W ds us) : WalksD T W (Itl K p) ds where
  stop := fun i H s hi => ⟨us, .inl (rd_mono s h), by rw [← r.length]; exact hi⟩
  go := fun i H s hi => ⟨us, us[i]'(by rw [← r.length]; exact hi), .inl (rd_mono s h), List.getElem?_eq_getElem _⟩
  yld := fun i W1 H x H' l s y d hd => by
    obtain ⟨rfl, y⟩ := y
    obtain ⟨v, hv, rv⟩ := r.get hd
    have := y us (.inl (rd_mono (l.1.trans s) h))
    rw [hv] at this
    cases this
    exact ⟨W1, Step.refl s, Rep.mono l _ rv⟩
theorem walks_tup {W : Wd} {p : Addr} {us : List V} {ds : List D} (h : SqT T.K W.F p us) (r : Reps T W ds us) : WalksD T W (Itt T.K p) ds where
  stop := fun i H s hi => ⟨us, sqT_mono s h, by rw [← r.length]; exact hi⟩
  go := fun i H s hi => ⟨us, us[i]'(by rw [← r.length]; exact hi), sqT_mono s h, List.getElem?_eq_getElem _⟩
  yld := fun i W1 H x H' l s y d hd => by
    obtain ⟨rfl, y⟩ := y
    obtain ⟨v, hv, rv⟩ := r.get hd
    have := y us (sqT_mono (l.1.trans s) h)
    rw [hv] at this
    cases this
    exact ⟨W1, Step.refl s, Rep.mono l _ rv⟩
theorem zipD_get : ∀ {as bs : List D} {i : Nat} {d : D}, (zipD as bs)[i]? = some d → ∃ x y, as[i]? = some x ∧ bs[i]? = some y ∧ d = .tup [x, y]
  | a :: as, b :: bs, 0, d, h => by
    simp [zipD] at h
    exact ⟨a, b, rfl, rfl, h.symm⟩
  | a :: as, b :: bs, i + 1, d, h => by
    obtain ⟨x, y, h1, h2, h3⟩ := zipD_get (as := as) (bs := bs) (i := i) (by simpa [zipD] using h)
    exact ⟨x, y, by simpa using h1, by simpa using h2, h3⟩
  | [], _, i, d, h => by simp [zipD] at h
  | _ :: _, [], i, d, h => by simp [zipD] at h
theorem zipD_len : ∀ (as bs : List D), (zipD as bs).length = min as.length bs.length
  | a :: as, b :: bs => by
    simp only [zipD, List.length_cons, zipD_len as bs]
    omega
  | [], _ => by simp [zipD]
  | _ :: _, [] => by simp [zipD]
theorem step_tup {W1 : Wd} {H : Hp} {p : Addr} {vs : List V} {ds : List D} (s : Same W1.F H) (hp : H p = none) (r : Reps T W1 ds vs) : ∃ W', Step W1 H W' (upd H p (.tup vs)) ∧ Rep T W' (.tup ds) (.ref p) := by
  have hF : W1.F p = none := by
    cases e : W1.F p with
    | none => rfl
    | some o => rw [s _ _ e] at hp; cases hp
  have l : Le W1 ⟨upd W1.F p (.tup vs), W1.ad⟩ := Le.of_same (same_upd hF)
  refine ⟨⟨upd W1.F p (.tup vs), W1.ad⟩, ⟨same_upd hF, rfl, ?_, same_upd hp, fun b hb => ?_⟩, ?_⟩
  · exact upd_sub (fun b o e => by rw [upd_ne (ne_of_none e hF)]; exact s b o e) upd_same
  · by_cases e : b = p
    · subst e
      exact .inr hp
    · rw [show (⟨upd W1.F p (.tup vs), W1.ad⟩ : Wd).F b = W1.F b from upd_ne e] at hb
      exact .inl hb
  · simp only [Rep]
    exact ⟨p, vs, rfl, SqT.of upd_same, Reps.mono l _ r⟩
theorem walks_zipL {W : Wd} {p q : Addr} {us ws : List V} {ds es : List D} {K : PySem.W.Frag} (h : Rd W.F p (.lst us)) (r : Reps T W ds us) (h' : Rd W.F q (.lst ws)) (r' : Reps T W es ws) : WalksD T W (Itz K p q) (zipD ds es) where
  stop := fun i H s hi => ⟨us, ws, .inl (rd_mono s h), .inl (rd_mono s h'), by rw [← r.length, ← r'.length]; rw [zipD_len] at hi; omega⟩
  go := fun i H s hi => by
    rw [zipD_len] at hi
    exact ⟨us, ws, us[i]'(by rw [← r.length]; omega), ws[i]'(by rw [← r'.length]; omega), .inl (rd_mono s h), .inl (rd_mono s h'), List.getElem?_eq_getElem _, List.getElem?_eq_getElem _⟩
  yld := fun i W1 H v H' l s y d hd => by
    obtain ⟨p2, x, y', rfl, hT, rfl, f1, f2⟩ := y
    obtain ⟨dx, dy, g1, g2, rfl⟩ := zipD_get hd
    obtain ⟨v1, hv1, rv1⟩ := r.get g1
    obtain ⟨v2, hv2, rv2⟩ := r'.get g2
    have e1 := f1 us (.inl (rd_mono (l.1.trans s) h))
    have e2 := f2 ws (.inl (rd_mono (l.1.trans s) h'))
    rw [hv1] at e1
    rw [hv2] at e2
    cases e1
    cases e2
    exact step_tup s hT (Reps.cons (Rep.mono l _ rv1) (Reps.cons (Rep.mono l _ rv2) Reps.nil))
theorem walks_zipT {W : Wd} {p q : Addr} {us ws : List V} {ds es : List D} (h : SqT T.K W.F p us) (r : Reps T W ds us) (h' : SqT T.K W.F q ws) (r' : Reps T W es ws) : WalksD T W (RZ.ItzT T.K p q) (zipD ds es) where
  stop := fun i H s hi => ⟨us, ws, sqT_mono s h, sqT_mono s h', by rw [← r.length, ← r'.length]; rw [zipD_len] at hi; omega⟩
  go := fun i H s hi => by
    rw [zipD_len] at hi
    exact ⟨us, ws, us[i]'(by rw [← r.length]; omega), ws[i]'(by rw [← r'.length]; omega), sqT_mono s h, sqT_mono s h', List.getElem?_eq_getElem _, List.getElem?_eq_getElem _⟩
  yld := fun i W1 H v H' l s y d hd => by
    obtain ⟨p2, x, y', rfl, hT, rfl, f1, f2⟩ := y
    obtain ⟨dx, dy, g1, g2, rfl⟩ := zipD_get hd
    obtain ⟨v1, hv1, rv1⟩ := r.get g1
    obtain ⟨v2, hv2, rv2⟩ := r'.get g2
    have e1 := f1 us (sqT_mono (l.1.trans s) h)
    have e2 := f2 ws (sqT_mono (l.1.trans s) h')
    rw [hv1] at e1
    rw [hv2] at e2
    cases e1
    cases e2
    exact step_tup s hT (Reps.cons (Rep.mono l _ rv1) (Reps.cons (Rep.mono l _ rv2) Reps.nil))
theorem walks_enum {W : Wd} {p : Addr} {us : List V} {ds : List D} {K : PySem.W.Frag} (h : Rd W.F p (.lst us)) (r : Reps T W ds us) : WalksD T W (Ite K p) (enumD ds) where
  stop := fun i H s hi => ⟨us, .inl (rd_mono s h), by rw [← r.length]; simpa [enumD] using hi⟩
  go := fun i H s hi => ⟨us, us[i]'(by rw [← r.length]; simpa [enumD] using hi), .inl (rd_mono s h), List.getElem?_eq_getElem _⟩
  yld := fun i W1 H x H' l s y d hd => by
    obtain ⟨p2, x', rfl, hT, rfl, f1⟩ := y
    have hi : i < ds.length := by
      have := (List.getElem?_eq_some_iff.mp hd).1
      simpa [enumD] using this
    have hd' : d = .tup [.int (i : Nat), ds[i]] := by
      have : (enumD ds)[i]? = some (.tup [.int (i : Nat), ds[i]]) := by
        unfold enumD
        have z : ((List.range ds.length).zip ds)[i]? = some (i, ds[i]) := List.getElem?_zip_eq_some.mpr ⟨List.getElem?_range hi, List.getElem?_eq_getElem hi⟩
        rw [List.getElem?_map, z]
        rfl
      rw [this] at hd
      cases hd
      rfl
    subst hd'
    obtain ⟨v1, hv1, rv1⟩ := r.get (List.getElem?_eq_getElem hi)
    have e1 := f1 us (.inl (rd_mono (l.1.trans s) h))
    rw [hv1] at e1
    cases e1
    exact step_tup s hT (Reps.cons (by simp only [Rep]) (Reps.cons (Rep.mono l _ rv1) Reps.nil))
theorem walks_range {W : Wd} {lo : Int} {n : Nat} {ds : List D} (h : ds = (List.range n).map fun (i : Nat) => D.int (lo + i)) : WalksD T W (Itr lo n) ds where
  stop := fun i H s hi => by
    subst h
    have z : n ≤ i := by simpa using hi
    exact z
  go := fun i H s hi => by
    subst h
    have z : i < n := by simpa using hi
    exact z
  yld := fun i W1 H x H' l s y d hd => by
    subst h
    obtain ⟨rfl, rfl⟩ := y
    rw [List.getElem?_map] at hd
    obtain ⟨k, hk, rfl⟩ := Option.map_eq_some_iff.mp hd
    have := List.getElem?_eq_some_iff.mp hk
    obtain ⟨_, e⟩ := this
    simp at e
    subst e
    exact ⟨W1, Step.refl s, by simp only [Rep]⟩
theorem walks_rangeN {W : Wd} {lo c : Int} {n : Nat} {ds : List D} (h : ds = (List.range n).map fun (i : Nat) => D.int (lo + i * c)) : WalksD T W (Itc lo c n) ds where
  stop := fun i H s hi => by
    subst h
    have z : n ≤ i := by simpa using hi
    exact z
  go := fun i H s hi => by
    subst h
    have z : i < n := by simpa using hi
    exact z
  yld := fun i W1 H x H' l s y d hd => by
    subst h
    obtain ⟨rfl, rfl⟩ := y
    rw [List.getElem?_map] at hd
    obtain ⟨k, hk, rfl⟩ := Option.map_eq_some_iff.mp hd
    have := List.getElem?_eq_some_iff.mp hk
    obtain ⟨_, e⟩ := this
    simp at e
    subst e
    exact ⟨W1, Step.refl s, by simp only [Rep]⟩
theorem fitI_iff {i : Int} (h : fitI i = true) : -(2 ^ 62) < i ∧ i < 2 ^ 62 := (fitI_is _).mp h
variable {tg : Expr}
abbrev SndI (T : Tb) (B : Bs) (X : Cx) (F : Fields) (call : CallF) (tg : Expr) (k : Nat) (ms : List ME) (e : Expr) : Prop := PI X tg e (TIx T B (fun S => evvs F call ms S) k)
theorem evvs_one {S S' : PS} {ds : List D} (h : evvs F call [me] S = .ok (ds, S')) : ∃ d, ds = [d] ∧ vw (ev F call me S) = .ok (d, S') := by
  simp only [evvs] at h
  obtain ⟨⟨d, S1⟩, h1, h2⟩ := R.bind_eq_ok h
  cases h2
  exact ⟨d, rfl, h1⟩
theorem sndi_0 (hK : X.K = T.K) (he : Snd T B X F call me e) : SndI T B X F call tg 0 [me] e :=
  PI.weak (PI.or (pi_list he) (pi_tup he)) fun σ H R ⟨W, S, ds0, S', ds, I, h, hi, k⟩ => by
    obtain ⟨d, rfl, h1⟩ := evvs_one h
    unfold itemsD at hi
    split at hi <;> try contradiction
    · rename_i heq
      cases heq
      cases hi
      refine .inl (use_v I h1 fun W1 v1 H1 l1 I1 r1 => ?_)
      simp only [Rep] at r1
      obtain ⟨p, us, rfl, g1, g2⟩ := r1
      exact ⟨p, rfl, ⟨us, .inl (rd_mono I1.sub g1)⟩, k W1 _ H1 l1 I1 (walks_list g1 g2)⟩
    · rename_i heq
      cases heq
      cases hi
      refine .inr (use_v I h1 fun W1 v1 H1 l1 I1 r1 => ?_)
      simp only [Rep] at r1
      obtain ⟨p, us, rfl, g1, g2⟩ := r1
      exact ⟨p, rfl, ⟨us, hK ▸ sqT_mono I1.sub g1⟩, k W1 _ H1 l1 I1 (hK ▸ walks_tup g1 g2)⟩
theorem reps1 {W : Wd} {d : D} {vs : List V} (h : Reps T W [d] vs) : ∃ v, vs = [v] ∧ Rep T W d v := by
  simp only [Reps] at h
  obtain ⟨v, _, rfl, h1, rfl⟩ := h
  exact ⟨v, rfl, h1⟩
theorem reps2 {W : Wd} {d d' : D} {vs : List V} (h : Reps T W [d, d'] vs) : ∃ v v', vs = [v, v'] ∧ Rep T W d v ∧ Rep T W d' v' := by
  simp only [Reps] at h
  obtain ⟨v, _, rfl, h1, v', _, rfl, h2, rfl⟩ := h
  exact ⟨v, v', rfl, h1, h2⟩
theorem reps3 {W : Wd} {d d' d3 : D} {vs : List V} (h : Reps T W [d, d', d3] vs) : ∃ v v' v3, vs = [v, v', v3] ∧ Rep T W d v ∧ Rep T W d' v' ∧ Rep T W d3 v3 := by
  simp only [Reps] at h
  obtain ⟨v, _, rfl, h1, v', _, rfl, h2, v3, _, rfl, h3, rfl⟩ := h
  exact ⟨v, v', v3, rfl, h1, h2, h3⟩
theorem sndi_1 {p : Pos} (hg : Gl X "range") (hm : X.mg "range" = none) (ha : Snd T B X F call ma a) (pa : plE a = true) : SndI T B X F call tg 1 [ma] (.Call (.Name "range" p) [a] [] pos) :=
  PI.weak (pi_range1 hg hm (sndv_cons ha sndv_nil (plE_star pa _ _)) (plE_star pa _ _)) fun σ H R ⟨W, S, ds0, S', ds, I, h, hi, k⟩ => by
    refine ⟨W, S, ds0, S', I, h, fun W1 vs H1 l1 I1 r1 => ?_⟩
    unfold itemsD at hi
    split at hi <;> try contradiction
    split at hi
    · rename_i hf
      cases hi
      obtain ⟨v, rfl, rv⟩ := reps1 r1
      simp only [Rep] at rv
      obtain ⟨f1, f2⟩ := fitI_iff hf
      exact ⟨_, by rw [rv], by omega, by omega, k W1 _ H1 l1 I1 (walks_range (by simp [rangeD]))⟩
    · cases hi
theorem sndi_2 {p : Pos} (hg : Gl X "range") (hm : X.mg "range" = none) (ha : Snd T B X F call ma a) (hb : Snd T B X F call mb b) (pa : plE a = true) (pb : plE b = true) : SndI T B X F call tg 2 [ma, mb] (.Call (.Name "range" p) [a, b] [] pos) :=
  PI.weak (pi_range2 hg hm (sndv_cons ha (sndv_cons hb sndv_nil (plE_star pb _ _)) (plE_star pa _ _)) (by rw [plE_star pa, plE_star pb]; rfl) (plE_star pb _ _)) fun σ H R ⟨W, S, ds0, S', ds, I, h, hi, k⟩ => by
    refine ⟨W, S, ds0, S', I, h, fun W1 vs H1 l1 I1 r1 => ?_⟩
    unfold itemsD at hi
    split at hi <;> try contradiction
    split at hi
    · rename_i hf
      cases hi
      obtain ⟨v, v', rfl, rv, rv'⟩ := reps2 r1
      simp only [Rep] at rv rv'
      rw [Bool.and_eq_true] at hf
      obtain ⟨f1, f2⟩ := fitI_iff hf.1
      obtain ⟨f3, f4⟩ := fitI_iff hf.2
      exact ⟨_, _, by rw [rv, rv'], ⟨by omega, by omega, by omega, by omega⟩, k W1 _ H1 l1 I1 (walks_range (by simp [rangeD]))⟩
    · cases hi
theorem sndi_3 {p : Pos} (hg : Gl X "range") (hm : X.mg "range" = none) (ha : Snd T B X F call ma a) (hb : Snd T B X F call mb b) (hc : Snd T B X F call mc c) (pa : plE a = true) (pb : plE b = true) (pc : plE c = true) : SndI T B X F call tg 3 [ma, mb, mc] (.Call (.Name "range" p) [a, b, c] [] pos) :=
  PI.weak (pi_range3 hg hm (sndv_cons ha (sndv_cons hb (sndv_cons hc sndv_nil (plE_star pc _ _)) (plE_star pb _ _)) (plE_star pa _ _)) (plE_star pa _ _) (plEs_any (es := [b, c]) (by simp [pb, pc]) _ _)) fun σ H R ⟨W, S, ds0, S', ds, I, h, hi, k⟩ => by
    refine ⟨W, S, ds0, S', I, h, fun W1 vs H1 l1 I1 r1 => ?_⟩
    unfold itemsD at hi
    split at hi <;> try contradiction
    split at hi
    · rename_i hf
      cases hi
      obtain ⟨v, v', v3, rfl, rv, rv', rv3⟩ := reps3 r1
      simp only [Rep] at rv rv' rv3
      simp only [Bool.and_eq_true, decide_eq_true_eq] at hf
      obtain ⟨⟨g1, g2⟩, g3⟩ := hf
      obtain ⟨f1, f2⟩ := fitI_iff g1
      obtain ⟨f3, f4⟩ := fitI_iff g2
      subst g3
      exact ⟨_, _, _, _, by rw [rv, rv', rv3], RgC.neg (by omega) (by omega) (by omega) (by omega), k W1 _ H1 l1 I1 (walks_rangeN rfl)⟩
    · cases hi
theorem sndi_4 {p : Pos} {elts : List Expr} {kk : Nat} {tpos : Pos} (hK : X.K = T.K) (hg : Gl X "zip") (hm : X.mg "zip" = none) (ha : Snd T B X F call ma a) (hb : Snd T B X F call mb b) (pa : plE a = true) (pb : plE b = true) : SndI T B X F call (.Tuple elts kk tpos) 4 [ma, mb] (.Call (.Name "zip" p) [a, b] [] pos) :=
  PI.weak (RZ.pi_zipA hg hm (sndv_cons ha (sndv_cons hb sndv_nil (plE_star pb _ _)) (plE_star pa _ _)) (plE_star pa _ _) (plEs_any (es := [b]) (by simp [pb]) _ _)) fun σ H R ⟨W, S, ds0, S', ds, I, h, hi, k⟩ => by
    refine ⟨W, S, ds0, S', I, h, fun W1 vs H1 l1 I1 r1 => ?_⟩
    unfold itemsD at hi
    split at hi <;> try contradiction
    · cases hi
      obtain ⟨v, v', rfl, rv, rv'⟩ := reps2 r1
      simp only [Rep] at rv rv'
      obtain ⟨p1, us, rfl, g1, g2⟩ := rv
      obtain ⟨p2, ws, rfl, g3, g4⟩ := rv'
      exact ⟨p1, p2, us, ws, rfl, .inl ⟨.inl (rd_mono I1.sub g1), .inl (rd_mono I1.sub g3), k W1 _ H1 l1 I1 (walks_zipL g1 g2 g3 g4)⟩⟩
    · cases hi
      obtain ⟨v, v', rfl, rv, rv'⟩ := reps2 r1
      simp only [Rep] at rv rv'
      obtain ⟨p1, us, rfl, g1, g2⟩ := rv
      obtain ⟨p2, ws, rfl, g3, g4⟩ := rv'
      exact ⟨p1, p2, us, ws, rfl, .inr ⟨hK ▸ sqT_mono I1.sub g1, hK ▸ sqT_mono I1.sub g3, k W1 _ H1 l1 I1 (hK ▸ walks_zipT g1 g2 g3 g4)⟩⟩
theorem sndi_5 {p : Pos} {elts : List Expr} {kk : Nat} {tpos : Pos} (hg : Gl X "enumerate") (hm : X.mg "enumerate" = none) (ha : Snd T B X F call ma a) (pa : plE a = true) : SndI T B X F call (.Tuple elts kk tpos) 5 [ma] (.Call (.Name "enumerate" p) [a] [] pos) :=
  PI.weak (pi_enum hg hm (sndv_cons ha sndv_nil (plE_star pa _ _)) (plE_star pa _ _)) fun σ H R ⟨W, S, ds0, S', ds, I, h, hi, k⟩ => by
    refine ⟨W, S, ds0, S', I, h, fun W1 vs H1 l1 I1 r1 => ?_⟩
    unfold itemsD at hi
    split at hi <;> try contradiction
    cases hi
    obtain ⟨v, rfl, rv⟩ := reps1 r1
    simp only [Rep] at rv
    obtain ⟨p1, us, rfl, g1, g2⟩ := rv
    exact ⟨p1, us, rfl, .inl (rd_mono I1.sub g1), k W1 _ H1 l1 I1 (walks_enum g1 g2)⟩
end
end PM
end

section
set_option Elab.async false
set_option linter.all false
set_option maxRecDepth 100000
/-! PmY2: list(zip(two tuples)). -/
namespace PM
open PySem L2 PySem.Spec PyProof.Rows RZ
section
variable {prog : Program} {w : World} {A : Around} {E : Value → Shared → Prop} {s : Shared}
variable {z TI TO T i1 i2 l1 l2 : Addr} {f : Bool} {oT : Obj} {k1 k2 : Nat} {xs ys : Array Value} {x y : Value}
/-- one more pair while an elder pair is still out -/
theorem heldItem {Q : Option Value → Shared → Prop} (D : ZipApart z TI TO i1 i2 l1 l2) (hz : IsZipHeld s.heap z TI TO T f) (hT : s.heap.get? T = some oT) (hTI : IsPair s.heap TI (.ref i1) (.ref i2))
    (h1 : s.heap.IsTupleIter i1 l1 k1) (h2 : s.heap.IsTupleIter i2 l2 k2) (hl1 : s.heap.IsTuple l1 xs) (hl2 : s.heap.IsTuple l2 ys) (hx : xs[k1]? = some x) (hy : ys[k2]? = some y)
    (hQ : ∀ h', IsZipHeld h' z TI TO T true → h'.IsTupleIter i1 l1 (k1 + 1) → h'.IsTupleIter i2 l2 (k2 + 1) → IsPair h' s.heap.objs.size x y → h'.objs.size = s.heap.objs.size + 1 →
      (∀ c o, c ≠ z → c ≠ i1 → c ≠ i2 → s.heap.get? c = some o → h'.get? c = some o) → Q (some (.ref s.heap.objs.size)) { s with heap := h' }) : wpAny (model prog w) A (pyNext (.ref z)) Q E s := by
  have ty : s.TypeIs (.ref z) "zip" := ⟨_, hz, rfl⟩
  unfold pyNext
  refine wpAny_bind (wpAny_attempt (wpAny_callSpecial?_slot (name := Str.ofString "__next__") ty F.slot_zip_next (wpAny_call_entry F.slot_zip_next ty F.entry_zip_next ?_ (F.args_zip_next_1 _))))
  show wpAny _ _ (field (.ref z) 2 >>= _) _ _ _
  apply wpAny_bind
  apply wpAny_field hz rfl (x := .bool false) rfl
  show wpAny _ _ (field (.ref z) 3 >>= _) _ _ _
  apply wpAny_bind
  apply wpAny_field hz rfl (x := .ref TI) rfl
  apply wpAny_bind
  apply wpAny_seqItems hTI rfl
  show wpAny _ _ (Builtin.SmallTypes.ownedTupleIsFree (.ref z) >>= _) _ _ _
  apply wpAny_bind
  refine wpAny_tupleHeld_zip hz hT fun g1 hz1 s1 => ?_
  simp only [Bool.false_eq_true, if_false]
  apply wpAny_bind
  rw [← Array.forIn_toList]
  simp only [List.forIn_cons, List.forIn_nil]
  refine wpAny_bind (wpAny_bind (wpAny_holding ?_))
  show wpAny _ _ (Builtin.SmallTypes.nextOf (.ref i1) >>= _) _ _ _
  refine wpAny_bind (nextOf_tuple_item (s := { s with heap := g1 }) (h1.extBut s1.extBut D.i1z) (hl1.extBut s1.extBut D.l1z) hx fun g2 it1 s2 => wpAny_pure (wpAny_pure ?_))
  refine wpAny_bind (wpAny_bind (wpAny_holding ?_))
  show wpAny _ _ (Builtin.SmallTypes.nextOf (.ref i2) >>= _) _ _ _
  refine wpAny_bind (nextOf_tuple_item (s := { s with heap := g2 }) ((h2.extBut s1.extBut D.i2z).extBut s2.extBut D.i12.symm) ((hl2.extBut s1.extBut D.l2z).extBut s2.extBut D.l2i1) hy fun g3 it2 s3 => wpAny_pure (wpAny_pure (wpAny_pure ?_)))
  show wpAny _ _ (newTuple [x, y] >>= _) _ _ _
  refine wpAny_bind (wpAny_newTuple (wpAny_pure ⟨_, rfl, wpAny_pure ?_⟩))
  have sz : g3.objs.size = s.heap.objs.size := s3.1.trans (s2.1.trans s1.1)
  have kp : ∀ c o, c ≠ z → c ≠ i1 → c ≠ i2 → s.heap.get? c = some o → (g3.push { cls := .type "tuple", data := .seq #[x, y] }).get? c = some o := fun c o c1 c2 c3 e =>
    Heap.get?_push_of_some _ (s3.extBut _ _ c3 (s2.extBut _ _ c2 (s1.extBut _ _ c1 e)))
  have np : (g3.push { cls := .type "tuple", data := .seq #[x, y] }).objs.size = s.heap.objs.size + 1 := by rw [Heap.size_push, sz]
  have gp : IsPair (g3.push { cls := .type "tuple", data := .seq #[x, y] }) g3.objs.size x y := Heap.get?_push_size _ rfl
  have hz3 : IsZipHeld g3 z TI TO T true := s3.extBut _ _ D.i2z.symm (s2.extBut _ _ D.i1z.symm hz1)
  show Q (some (.ref g3.objs.size)) _
  rw [sz] at gp ⊢
  exact hQ _ (Heap.get?_push_of_some _ hz3) ((it1.extBut s3.extBut D.i12).at fun o e => Heap.get?_push_of_some _ e) (it2.at fun o e => Heap.get?_push_of_some _ e) gp np kp
theorem heldEnd {Q : Option Value → Shared → Prop} (hh : A.handled = none) (D : ZipApart z TI TO i1 i2 l1 l2) (hz : IsZipHeld s.heap z TI TO T f) (hT : s.heap.get? T = some oT) (hTI : IsPair s.heap TI (.ref i1) (.ref i2))
    (h1 : s.heap.IsTupleIter i1 l1 k1) (h2 : s.heap.IsTupleIter i2 l2 k2) (hl1 : s.heap.IsTuple l1 xs) (hl2 : s.heap.IsTuple l2 ys) (hend : xs[k1]? = none ∨ ys[k2]? = none)
    (hQ : ∀ h', (∀ c o, c ≠ z → c ≠ i1 → c ≠ i2 → s.heap.get? c = some o → h'.get? c = some o) → Q none { s with heap := h' }) : wpAny (model prog w) A (pyNext (.ref z)) Q E s := by
  have ty : s.TypeIs (.ref z) "zip" := ⟨_, hz, rfl⟩
  have fin : ∀ {g : Heap} {e : Addr}, (∀ c o, c ≠ z → c ≠ i1 → c ≠ i2 → s.heap.get? c = some o → g.get? c = some o) → (∃ o, g.get? e = some o ∧ o.cls = .type "StopIteration") →
      wpAny (model prog w) A (do if ← isInstance (.ref e) (.type "StopIteration") then pure none else throw (.ref e)) Q E { s with heap := g } := fun {g e} kp ⟨o, ho, hc⟩ =>
    wpAny_bind (wpAny_isInstance (T := "StopIteration") (b := true) ⟨o, ho, hc⟩ isSubtype_stop (wpAny_pure (hQ _ kp)))
  unfold pyNext
  refine wpAny_bind (wpAny_attempt (wpAny_callSpecial?_slot (name := Str.ofString "__next__") ty F.slot_zip_next (wpAny_call_entry F.slot_zip_next ty F.entry_zip_next ?_ (F.args_zip_next_1 _))))
  show wpAny _ _ (field (.ref z) 2 >>= _) _ _ _
  apply wpAny_bind
  apply wpAny_field hz rfl (x := .bool false) rfl
  show wpAny _ _ (field (.ref z) 3 >>= _) _ _ _
  apply wpAny_bind
  apply wpAny_field hz rfl (x := .ref TI) rfl
  apply wpAny_bind
  apply wpAny_seqItems hTI rfl
  show wpAny _ _ (Builtin.SmallTypes.ownedTupleIsFree (.ref z) >>= _) _ _ _
  apply wpAny_bind
  refine wpAny_tupleHeld_zip hz hT fun g1 hz1 s1 => ?_
  simp only [Bool.false_eq_true, if_false]
  apply wpAny_bind
  rw [← Array.forIn_toList]
  simp only [List.forIn_cons, List.forIn_nil]
  refine wpAny_bind (wpAny_bind (wpAny_holding ?_))
  show wpAny _ _ (Builtin.SmallTypes.nextOf (.ref i1) >>= _) _ _ _
  cases hx : xs[k1]? with
  | none => exact wpAny_bind (nextOf_tuple_end (s := { s with heap := g1 }) hh (h1.extBut s1.extBut D.i1z) (hl1.extBut s1.extBut D.l1z) hx fun g2 e s2 he => fin (fun c o c1 c2 _ q => s2 _ _ c2 (s1.extBut _ _ c1 q)) he)
  | some x =>
    have hy : ys[k2]? = none := hend.resolve_left (by rw [hx]; simp)
    refine wpAny_bind (nextOf_tuple_item (s := { s with heap := g1 }) (h1.extBut s1.extBut D.i1z) (hl1.extBut s1.extBut D.l1z) hx fun g2 it1 s2 => wpAny_pure (wpAny_pure ?_))
    refine wpAny_bind (wpAny_bind (wpAny_holding ?_))
    show wpAny _ _ (Builtin.SmallTypes.nextOf (.ref i2) >>= _) _ _ _
    exact wpAny_bind (nextOf_tuple_end (s := { s with heap := g2 }) hh ((h2.extBut s1.extBut D.i2z).extBut s2.extBut D.i12.symm) ((hl2.extBut s1.extBut D.l2z).extBut s2.extBut D.l2i1) hy fun g3 e s3 he => fin (fun c o c1 c2 c3 q => s3 _ _ c3 (s2.extBut _ _ c2 (s1.extBut _ _ c1 q))) he)
end
/-- the zip's state at turn i: none of its pairs is out, or an elder one is -/
def ZSt (z TI TO i1 i2 a b : Addr) (i : Nat) (h : Heap) : Prop :=
  (IsZip h z TI TO .none ∨ ∃ T f oT, IsZipHeld h z TI TO T f ∧ h.get? T = some oT) ∧ IsPair h TI (.ref i1) (.ref i2) ∧ (∃ x y, IsPair h TO x y) ∧ h.IsTupleIter i1 a i ∧ h.IsTupleIter i2 b i
section
variable {X : Cx} {pins : List (Addr × Obj)} {σ : L2.St} {z TI TO i1 i2 a b L : Addr} {xs ys : List V} {Pv : Nat → Hp → List V → Prop} {R : Result → Shared → Prop} {E : Value → Shared → Prop} {A : Around}
theorem zip_more (hh : A.handled = none) (D : ZipApart z TI TO i1 i2 a b) (hL : L ∉ [z, TI, TO, i1, i2]) (hP : ∀ i H acc, Pv i H acc → H L = some (.lst acc) ∧ acc.length = i ∧ SqT X.K H a xs ∧ SqT X.K H b ys)
    (hS : ∀ i H acc x y T, Pv i H acc → xs[i]? = some x → ys[i]? = some y → H T = none → Pv (i + 1) (upd (upd H T (.tup [x, y])) L (.lst (acc ++ [.ref T]))) (acc ++ [.ref T])) (hsz : min xs.length ys.length < sizeLine) {res : Value} :
    ∀ (k i : Nat) (s : Shared) (H : Hp) (acc : List V), min xs.length ys.length - i = k → i ≤ min xs.length ys.length → Inv X pins σ H s → ZSt z TI TO i1 i2 a b i s.heap → (∀ c ∈ [z, TI, TO, i1, i2], FpOk X pins H c) → Pv i H acc →
      (∀ s' H' acc', Inv X pins σ H' s' → Pv (min xs.length ys.length) H' acc' → R (.ok (.ret res)) s') → codeAny (model X.prog X.w) A (.builtin "list.extend.loop" ⟨[.ref L, .ref z, res], []⟩) R s := by
  intro k
  induction k with
  | zero =>
    intro i s H acc hk hi I st hf p hR
    have hin : i = min xs.length ys.length := by omega
    obtain ⟨q1, q2, q3, q4⟩ := hP i H acc p
    obtain ⟨its, rv, t1, _⟩ := I.tuple q3
    obtain ⟨its2, rv2, t2, _⟩ := I.tuple q4
    have n1 := rv.length
    have n2 := rv2.length
    obtain ⟨st1, hTI, ⟨x0, y0, hTO⟩, h1, h2⟩ := st
    have he : its.toArray[i]? = none ∨ its2.toArray[i]? = none := by
      by_cases hle : xs.length ≤ i
      · exact .inl (by simp; omega)
      · exact .inr (by simp; omega)
    have fin : ∀ h', (∀ c o, c ≠ z → c ≠ TO → c ≠ i1 → c ≠ i2 → s.heap.get? c = some o → h'.get? c = some o) → Inv X pins σ H { s with heap := h' } := fun h' hk => I.turnedL (t' := s.toks) (ch := [z, TI, TO, i1, i2]) (fun c o hb q =>
      hk c o (fun q' => hb (by simp [q'])) (fun q' => hb (by simp [q'])) (fun q' => hb (by simp [q'])) (fun q' => hb (by simp [q'])) q) hf
    refine codeAny_builtin F.entry_extend_loop ?_
    rw [Around.under_plainId F.plain_extend_loop _]
    show wpAny _ A.in1 (pyNext (.ref z) >>= _) _ _ s
    apply wpAny_bind
    subst hin
    rcases st1 with hz | ⟨T, f, oT, hz, hT⟩
    · exact pyNext_zipT_end (A := A.in1) hh D hz hTI hTO h1 h2 t1 t2 he fun h' hk => wpAny_pure (hR _ H acc (fin h' hk) p)
    · exact heldEnd (A := A.in1) hh D hz hT hTI h1 h2 t1 t2 he fun h' hk => wpAny_pure (hR _ H acc (fin h' fun c o c1 _ c3 c4 => hk c o c1 c3 c4) p)
  | succ k ih =>
    intro i s H acc hk hi I st hf p hR
    have hlt : i < min xs.length ys.length := by omega
    obtain ⟨q1, q2, q3, q4⟩ := hP i H acc p
    obtain ⟨its, rv, t1, _⟩ := I.tuple q3
    obtain ⟨its2, rv2, t2, _⟩ := I.tuple q4
    have hx : xs[i]? = some (xs[i]'(by omega)) := List.getElem?_eq_getElem _
    have hy : ys[i]? = some (ys[i]'(by omega)) := List.getElem?_eq_getElem _
    obtain ⟨u, hu, ru⟩ := rv.get hx
    obtain ⟨u2, hu2, ru2⟩ := rv2.get hy
    obtain ⟨st1, hTI, ⟨x0, y0, hTO⟩, h1, h2⟩ := st
    have zl : z < s.heap.objs.size := by
      rcases st1 with hz | ⟨T, f, oT, hz, hT⟩
      · exact Heap.lt_size hz
      · exact Heap.lt_size hz
    have lts : ∀ c ∈ [z, TI, TO, i1, i2], c < s.heap.objs.size := fun c hc => by
      simp only [List.mem_cons, List.not_mem_nil, or_false] at hc
      rcases hc with e | e | e | e | e
      · rw [e]; exact zl
      · rw [e]; exact Heap.lt_size hTI
      · rw [e]; exact Heap.lt_size hTO
      · rw [e]; obtain ⟨_, e1, _⟩ := h1; exact Heap.lt_size e1
      · rw [e]; obtain ⟨_, e1, _⟩ := h2; exact Heap.lt_size e1
    refine codeAny_builtin F.entry_extend_loop ?_
    rw [Around.under_plainId F.plain_extend_loop _]
    show wpAny _ A.in1 (pyNext (.ref z) >>= _) _ _ s
    apply wpAny_bind
    -- the pair has come
    have go : ∀ h', (∃ T f oT, IsZipHeld h' z TI TO T f ∧ h'.get? T = some oT) → (∃ x y, IsPair h' TO x y) → h'.IsTupleIter i1 a (i + 1) → h'.IsTupleIter i2 b (i + 1) → IsPair h' s.heap.objs.size u u2 → (∀ c o, c ≠ z → c ≠ TO → c ≠ i1 → c ≠ i2 → s.heap.get? c = some o → h'.get? c = some o) →
        wpAny (model X.prog X.w) A.in1 (updateSeq L (·.push (.ref s.heap.objs.size)) >>= fun _ => again (.builtin "list.extend.loop" ⟨[.ref L, .ref z, res], []⟩)) (fun fin s' => match fin with | .done f => R (.ok f) s' | .again c' => c'.quiet = true ∧ codeAny (model X.prog X.w) A c' R s') (fun e s' => R (.error e) s') { s with heap := h' } := fun h' hz' hTO' it1 it2 hp hk => by
      have new : ObjOk X.prog X.w (upd H s.heap.objs.size (.tup [xs[i]'(by omega), ys[i]'(by omega)])) h' s.heap.objs.size (.tup [xs[i]'(by omega), ys[i]'(by omega)]) :=
        ⟨by show 2 ≤ sizeLine; decide, [u, u2], .cons ru (.cons ru2 .nil), ⟨_, hp, rfl, _, rfl⟩⟩
      have hn : H s.heap.objs.size = none := I.hok.fresh (Nat.le_refl _)
      have I1 : Inv X pins σ (upd H s.heap.objs.size (.tup [xs[i]'(by omega), ys[i]'(by omega)])) { s with heap := h' } :=
        I.turnedNew (t' := s.toks) (ch := [z, TI, TO, i1, i2]) (fun c o hb q => hk c o (fun q' => hb (by simp [q'])) (fun q' => hb (by simp [q'])) (fun q' => hb (by simp [q'])) (fun q' => hb (by simp [q'])) q) hf (Nat.le_refl _) new
      have hLn : L ≠ s.heap.objs.size := fun q => by
        rw [← q, q1] at hn
        cases hn
      have hL1 : upd H s.heap.objs.size (.tup [xs[i]'(by omega), ys[i]'(by omega)]) L = some (.lst acc) := by rw [upd_ne hLn]; exact q1
      obtain ⟨zz, li, m, rl, hl, el⟩ := I1.lstM hL1
      have hTI' : IsPair h' TI (.ref i1) (.ref i2) := hk _ _ D.TIz D.TITO D.TIi1 D.TIi2 hTI
      refine wpAny_bind (wpAny_updateSeq el rfl ?_ (by rw [List.size_toArray]; omega) (by rw [Array.size_push, List.size_toArray]; omega))
      have I2 := I1.lset (t' := s.toks) (ys := acc ++ [.ref s.heap.objs.size]) (its' := li ++ [.ref s.heap.objs.size]) (f := fun x => x.push (.ref s.heap.objs.size)) hL1 el (by simp) (rl.append (.cons (show L2.RelV (V.ref s.heap.objs.size) (Value.ref s.heap.objs.size) from rfl) .nil)) (by simp; omega)
      have up : ∀ c o, c ≠ L → h'.get? c = some o → (h'.update L (Obj.mapSeq fun x => x.push (.ref s.heap.objs.size))).get? c = some o := fun c o hc e => (Heap.get?_update_other _ _ (Ne.symm hc)).trans e
      have ne : ∀ c ∈ [z, TI, TO, i1, i2], c ≠ L := fun c hc q => hL (q ▸ hc)
      refine wpAny_pure ⟨plainId_quiet F.plain_extend_loop _, ih (i + 1) _ _ (acc ++ [.ref s.heap.objs.size]) (by omega) hlt I2 ?_ ?_ (hS i H acc _ _ _ p hx hy hn) hR⟩
      · obtain ⟨T, f, oT, g1, g2⟩ := hz'
        obtain ⟨x, y, g3⟩ := hTO'
        refine ⟨.inr ⟨T, f, ?_⟩, up _ _ (ne TI (by simp)) hTI', ⟨x, y, up _ _ (ne TO (by simp)) g3⟩, it1.at fun o q => up _ o (ne i1 (by simp)) q, it2.at fun o q => up _ o (ne i2 (by simp)) q⟩
        by_cases hTL : T = L
        · subst hTL
          exact ⟨_, up _ _ (ne z (by simp)) g1, Heap.get?_update_self _ el rfl⟩
        · exact ⟨_, up _ _ (ne z (by simp)) g1, up _ _ hTL g2⟩
      · intro c hc
        obtain ⟨f0, fr⟩ := hf c hc
        refine ⟨?_, fr⟩
        rw [upd_ne (ne c hc), upd_ne (Nat.ne_of_lt (lts c hc))]
        exact f0
    rcases st1 with hz | ⟨T, f, oT, hz, hT⟩
    · refine pyNext_zipT_item (A := A.in1) D hz hTI hTO h1 h2 t1 t2 (x := u) (y := u2) (by simpa using hu) (by simpa using hu2) fun h' z' TO' h1' h2' hp hsz hk => ?_
      exact go h' ⟨_, _, _, z', hp⟩ ⟨_, _, TO'⟩ h1' h2' hp hk
    · refine heldItem (A := A.in1) D hz hT hTI h1 h2 t1 t2 (x := u) (y := u2) (by simpa using hu) (by simpa using hu2) fun h' z' h1' h2' hp hsz hk => ?_
      have hTO' : IsPair h' TO x0 y0 := hk _ _ D.TOz D.TOi1 D.TOi2 hTO
      refine go h' ⟨T, true, ?_⟩ ⟨_, _, hTO'⟩ h1' h2' hp fun c o c1 _ c3 c4 => hk c o c1 c3 c4
      by_cases e1 : T = z
      · exact ⟨_, z', by rw [e1]; exact z'⟩
      · by_cases e2 : T = i1
        · obtain ⟨o, ho, _⟩ := h1'
          exact ⟨o, z', by rw [e2]; exact ho⟩
        · by_cases e3 : T = i2
          · obtain ⟨o, ho, _⟩ := h2'
            exact ⟨o, z', by rw [e3]; exact ho⟩
          · exact ⟨oT, z', hk T oT e1 e2 e3 hT⟩
end
end PM
end

section
set_option Elab.async false
set_option linter.all false
set_option maxRecDepth 100000
/-! PmY3: list(zip(two tuples)), as a rule. -/
namespace PM
open PySem L2 PySem.Spec PyProof.Rows RZ
theorem zip_len0 : typeLookup (.type "zip") "__len__" = pure none := by rw [typeLookup_type, builtinLookup_eq_fast]; kernel_rfl
theorem zip_hint0 : typeLookup (.type "zip") "__length_hint__" = pure none := by rw [typeLookup_type, builtinLookup_eq_fast]; kernel_rfl
section
variable {X : Cx} {pins : List (Addr × Obj)} {σ : L2.St} {z TI TO i1 i2 a b : Addr} {xs ys : List V} {s : Shared} {H : Hp} {Q : VK}
/-- what follows the pairs' list -/
def ZEnd (K : PySem.W.Frag) (a b : Addr) (xs ys : List V) (H : Hp) (Q : VK) : Prop := ∀ L, H L = none → ∃ Pv : Nat → Hp → List V → Prop, Pv 0 (upd H L (.lst [])) [] ∧ (∀ i H acc, Pv i H acc → H L = some (.lst acc) ∧ acc.length = i ∧ SqT K H a xs ∧ SqT K H b ys) ∧
  (∀ i H acc x y T, Pv i H acc → xs[i]? = some x → ys[i]? = some y → H T = none → Pv (i + 1) (upd (upd H T (.tup [x, y])) L (.lst (acc ++ [.ref T]))) (acc ++ [.ref T])) ∧ ∀ H acc, Pv (min xs.length ys.length) H acc → Q (.ref L) H
theorem list_zip (hc : X.calm = true) (I : Inv X pins σ H s) (D : ZipApart z TI TO i1 i2 a b) (sz : IsZip s.heap z TI TO .none) (st : ZSt z TI TO i1 i2 a b 0 s.heap) (hf : ∀ c ∈ [z, TI, TO, i1, i2], FpOk X pins H c ∧ c < s.heap.objs.size) (hsz : min xs.length ys.length < sizeLine) (hE : ZEnd X.K a b xs ys H Q) :
    wpAny (model X.prog X.w) X.A (call (.type "list") [.ref z]) (EP X pins σ Q) X.xe s := by
  have hh : X.A.handled = none := I.ok.hd hc
  have hn : H s.heap.objs.size = none := I.hok.fresh (Nat.le_refl _)
  obtain ⟨Pv, p0, hP, hS, hQ⟩ := hE _ hn
  refine callType_codes (Q₁ := fun obj s₁ => obj = .ref s.heap.objs.size ∧ s₁ = { s with heap := s.heap.push { cls := .type "list", data := .seq #[] } }) F.called_list (F.typeCall_list_1 _) F.entry_list_init (code_list_new _ ⟨rfl, rfl⟩) fun obj s₁ h₁ => ?_
  obtain ⟨rfl, rfl⟩ := h₁
  generalize hL : s.heap.objs.size = L at *
  have ne : ∀ c ∈ [z, TI, TO, i1, i2], c ≠ L := fun c hm q => by
    have := (hf c hm).2
    rw [q] at this
    exact Nat.lt_irrefl _ this
  have hS0 : (s.heap.push { cls := .type "list", data := .seq #[] }).get? L = some { cls := .type "list", data := .seq #[] } := hL ▸ Heap.get?_push_size _ rfl
  have I0 : Inv X pins σ (upd H L (.lst [])) { s with heap := s.heap.push { cls := .type "list", data := .seq #[] } } := by
    have := I.lnew (t' := s.toks) (ys := []) (its := []) .nil (Nat.zero_le _)
    rw [hL] at this
    exact this
  -- the same state, whatever was done to the empty list
  have core : ∀ (h' : Heap) (c : Nat), Inv X pins σ (upd H L (.lst [])) { s with heap := h' } → (∀ e o, e ≠ L → (s.heap.push { cls := .type "list", data := .seq #[] }).get? e = some o → h'.get? e = some o) →
      codeAny (model X.prog X.w) X.A.in1 (.builtin "list.extend.loop" ⟨[.ref L, .ref z, .none], []⟩) (wants (fun r s₂ => r = .none ∧ EP X pins σ Q (.ref L) s₂) X.xe) { s with heap := h' } := fun h' c J kp => by
    have k2 : ∀ c ∈ [z, TI, TO, i1, i2], ∀ o, s.heap.get? c = some o → h'.get? c = some o := fun c hm o e => kp c o (ne c hm) (Heap.get?_push_of_some _ e)
    have ld : ∀ T oT, s.heap.get? T = some oT → h'.get? T = some oT := fun T oT e => kp T oT (fun q => by
      have := Heap.lt_size e
      rw [hL, q] at this
      exact Nat.lt_irrefl _ this) (Heap.get?_push_of_some _ e)
    refine zip_more (A := X.A.in1) hh D (fun q => (ne L q) rfl) hP hS hsz _ 0 _ _ [] rfl (Nat.zero_le _) J ?_ (fun c hm => ?_) p0 fun s' H' acc' I' p' => ⟨rfl, .ref L, H', I', rfl, hQ H' acc' p'⟩
    · obtain ⟨q1, q2, ⟨x, y, q3⟩, q4, q5⟩ := st
      refine ⟨?_, k2 TI (by simp) _ q2, ⟨x, y, k2 TO (by simp) _ q3⟩, q4.at fun o e => k2 i1 (by simp) o e, q5.at fun o e => k2 i2 (by simp) o e⟩
      rcases q1 with q1 | ⟨T, f, oT, q1, q6⟩
      · exact .inl (k2 z (by simp) _ q1)
      · exact .inr ⟨T, f, oT, k2 z (by simp) _ q1, ld T oT q6⟩
    · obtain ⟨f0, fr⟩ := (hf c hm).1
      refine ⟨?_, fr⟩
      rw [upd_ne (ne c hm)]
      exact f0
  refine ⟨⟨_, hS0, rfl⟩, F.args_list_init_2 _ _, ?_⟩
  have hLz : L ≠ z := (ne z (by simp)).symm
  show wpAny _ _ (do let old ← Builtin.List.listItems (.ref L); Builtin.List.listUpdate (.ref L) (fun _ => #[]); letGo old.toList.reverse; Builtin.List.listExtendWith (.ref L) (.ref z) .none) _ _ _
  refine wpAny_bind ?_
  unfold Builtin.List.listItems
  refine wpAny_bind (wpAny_seqItems hS0 rfl (wpAny_pure ?_))
  show wpAny _ _ (updateSeq L (fun _ => #[]) >>= fun _ => letGo (#[] : Array Value).toList.reverse >>= fun _ => Builtin.List.listExtendWith (.ref L) (.ref z) .none) _ _ _
  refine wpAny_bind (wpAny_updateSeq hS0 rfl ?_)
  have I1 := I0.lset (t' := s.toks) (ys := []) (its := []) (its' := []) (f := fun _ => #[]) upd_same hS0 rfl .nil (Nat.zero_le _)
  rw [upd_upd] at I1
  generalize hg1 : (s.heap.push { cls := .type "list", data := .seq #[] }).update L (Obj.mapSeq fun _ => (#[] : Array Value)) = g1 at I1 ⊢
  have kp1 : ∀ e o, e ≠ L → (s.heap.push { cls := .type "list", data := .seq #[] }).get? e = some o → g1.get? e = some o := fun e o he q => by
    rw [← hg1]
    exact (Heap.get?_update_other _ _ (Ne.symm he)).trans q
  obtain ⟨c1, hS1⟩ : ∃ c, g1.get? L = some { cls := .type "list", data := .seq #[] c } := by
    rw [← hg1]
    exact ⟨_, Heap.get?_update_self (Obj.mapSeq (fun _ => (#[] : Array Value))) hS0 rfl⟩
  have ty : Shared.TypeIs { s with heap := g1 } (.ref z) "zip" := by
    exact ⟨_, kp1 z _ (ne z (by simp)) (Heap.get?_push_of_some _ sz), rfl⟩
  refine wpAny_bind (wpAny_letGo ?_)
  unfold Builtin.List.listExtendWith
  refine wpAny_bind (wpAny_typeOf ty ?_)
  have e1 : Builtin.List.listSameRef (.ref L) (.ref z) = false := by simp [Builtin.List.listSameRef, hLz]
  have e2 : (Value.type "zip" == Value.type "list") = false := by decide
  have e3 : (Value.type "zip" == Value.type "tuple") = false := by decide
  simp only [e1, e2, e3, Bool.or_false, Bool.false_eq_true, if_false]
  have zi : ∀ {Q' : Value → Shared → Prop} {E' : Value → Shared → Prop}, Q' (.ref z) { s with heap := g1 } → wpAny (model X.prog X.w) X.A.in1.in1 (pyIter (.ref z)) Q' E' { s with heap := g1 } := fun {Q' E'} q => by
    exact wpAny_pyIter_zip (kp1 z _ (ne z (by simp)) (Heap.get?_push_of_some _ sz)) q
  refine wpAny_bind (zi ?_)
  refine wpAny_bind (wpAny_holding ?_)
  unfold Builtin.List.listLengthHint
  refine wpAny_bind (wpAny_specialOf ty zip_len0 ?_)
  show wpAny _ _ (specialOf (Value.ref z) (Str.ofString "__length_hint__") >>= _) _ _ _
  refine wpAny_bind (wpAny_specialOf ty zip_hint0 ?_)
  refine wpAny_pure ?_
  show wpAny _ _ (rule "list.extend.makes-room" >>= fun _ => Builtin.List.listTouch (.ref L) >>= fun _ => again (.builtin "list.extend.loop" ⟨[.ref L, .ref z, .none], []⟩)) _ _ _
  refine wpAny_bind (wpAny_rule ?_)
  refine wpAny_bind ?_
  show wpAny _ _ (updateSeq L (·.push .none) >>= fun _ => updateSeq L (·.pop)) _ _ _
  refine wpAny_bind (wpAny_updateSeq hS1 rfl ?_)
  have hS2 := Heap.get?_update_self (Obj.mapSeq (·.push Value.none)) hS1 rfl
  have I2 := I1.lset (t' := s.toks) (ys := [.non]) (its := []) (its' := [.none]) (f := (·.push Value.none)) upd_same hS1 rfl (.cons rfl .nil) (by show 1 ≤ sizeLine; decide)
  refine wpAny_updateSeq (hz := by seq_fits) hS2 rfl ?_
  have I3 := I2.lset (t' := s.toks) (ys := []) (its := [.none]) (its' := []) (f := (·.pop)) upd_same hS2 rfl .nil (Nat.zero_le _)
  rw [upd_upd, upd_upd] at I3
  exact wpAny_pure ⟨plainId_quiet F.plain_extend_loop _, core _ 0 I3 fun e o he q => (Heap.get?_update_other _ _ (Ne.symm he)).trans ((Heap.get?_update_other _ _ (Ne.symm he)).trans (kp1 e o he q))⟩
end
section
variable {X : Cx} {ta : TA} {e1 e2 : Expr}
def tLz (K : PySem.W.Frag) (ta : TA) : TE := fun σ H Q => ta σ H fun vs H1 => ∃ a b xs ys, vs = [.ref a, .ref b] ∧ SqT K H1 a xs ∧ SqT K H1 b ys ∧ min xs.length ys.length < sizeLine ∧ ZEnd K a b xs ys H1 Q
theorem pe_lz {np np2 pos pos2 : Pos} (hc : X.calm = true) (hg : Gl X "list") (hm : X.mg "list" = none) (hg2 : Gl X "zip") (hm2 : X.mg "zip" = none) (ha : PA X [e1, e2] ta)
    (hs : starEach [e1, e2] X.env = (false, eval e1 X.env) :: starEach [e2] X.env) (hpl : (backTo pos2 (starEach [e2] X.env)).any (·.1) = false) : PE X (.Call (.Name "list" np) [.Call (.Name "zip" np2) [e1, e2] [] pos2] [] pos) (tLz X.K ta) := by
  refine ⟨fun pins s σ H Q I h => ?_⟩
  refine Call_ (ld_blt I hg hm boot_list (PyProof.Rows.callWith_type1 (args_cons ?_ rfl) rfl))
  refine Call_ (ld_blt I hg2 hm2 PyProof.Rows.boot_zip (PyProof.Rows.callWith_type1 (thn (ha.run pos2 pins s σ H _ I h) fun us s1 ⟨vs, H1, I1, r1, q1⟩ => ?_) hs hpl))
  obtain ⟨a, b, xs, ys, rfl, qa, qb, hsz, hE⟩ := q1
  obtain ⟨u1, u2, rfl, ru1, ru2⟩ := vals2 r1
  cases ru1
  cases ru2
  obtain ⟨its, rv, p1, _⟩ := I1.tuple qa
  obtain ⟨its2, rv2, p2, _⟩ := I1.tuple qb
  obtain ⟨o1, ho1, _⟩ := id p1
  obtain ⟨o2, ho2, _⟩ := id p2
  refine call_zipT (show s1.heap.IsTuple a its.toArray from p1) (show s1.heap.IsTuple b its2.toArray from p2) fun h' hz hTI hTO h1 h2 hs5 hk => args_nil ?_
  have I2 : Inv X pins σ H1 { s1 with heap := h' } := I1.kept (t' := s1.toks) hk
  refine list_zip hc I2 (PySem.W.ktu_apart s1.heap.objs.size a b (Heap.lt_size ho1) (Heap.lt_size ho2)) hz ⟨.inl hz, hTI, ⟨_, _, hTO⟩, h1, h2⟩ (fun c hcm => ?_) hsz hE
  have e' : c = s1.heap.objs.size + 4 ∨ c = s1.heap.objs.size + 2 ∨ c = s1.heap.objs.size + 3 ∨ c = s1.heap.objs.size ∨ c = s1.heap.objs.size + 1 := by simpa using hcm
  have hle : s1.heap.objs.size ≤ c ∧ c < s1.heap.objs.size + 5 := by
    have f0 : (s1.heap.objs.size : Nat) ≤ s1.heap.objs.size := Nat.le_refl _
    rcases e' with q | q | q | q | q
    · rw [q]; exact ⟨Nat.le_add_right _ _, Nat.add_lt_add_left (by decide) _⟩
    · rw [q]; exact ⟨Nat.le_add_right _ _, Nat.add_lt_add_left (by decide) _⟩
    · rw [q]; exact ⟨Nat.le_add_right _ _, Nat.add_lt_add_left (by decide) _⟩
    · rw [q]; exact ⟨Nat.le_refl _, Nat.lt_add_of_pos_right (by decide)⟩
    · rw [q]; exact ⟨Nat.le_add_right _ _, Nat.add_lt_add_left (by decide) _⟩
  exact ⟨I1.fpOk hle.1 (I1.hok.fresh hle.1), by
    show c < h'.objs.size
    rw [hs5]
    exact hle.2⟩
end
end PM
end

section
set_option Elab.async false
set_option linter.all false
set_option maxRecDepth 100000
/-! PmY4: list(zip(a, b)) of the pure form. -/
namespace PM
open PySem L2 PyProof.Rows
theorem Step.free {W W' : Wd} {H H' : Hp} {L : Addr} {o : HO} (st : Step W H W' H') (hW : W'.F L = none) (hH : H L = none) : Step W H W' (upd H' L o) := by
  refine ⟨st.le, st.ad, fun b u e => ?_, fun b u e => ?_, st.new⟩
  · rw [upd_ne (ne_of_none e hW)]
    exact st.sub b u e
  · rw [upd_ne (ne_of_none e hH)]
    exact st.same b u e
theorem zipD_at : ∀ {as bs : List D} {i : Nat} {x y : D}, as[i]? = some x → bs[i]? = some y → (zipD as bs)[i]? = some (.tup [x, y])
  | a :: as, b :: bs, 0, x, y, h1, h2 => by
    simp at h1 h2
    simp [zipD, h1, h2]
  | a :: as, b :: bs, i + 1, x, y, h1, h2 => by
    simp only [zipD, List.getElem?_cons_succ]
    exact zipD_at (by simpa using h1) (by simpa using h2)
  | [], _, _, _, _, h, _ => by simp at h
  | _ :: _, [], _, _, _, _, h => by simp at h
end PM
end

section
set_option Elab.async false
set_option linter.all false
set_option maxRecDepth 100000
/-! PmYL2: list(zip(two lists)). -/
namespace PM
open PySem L2 PySem.Spec PyProof.Rows RZ
section
variable {prog : Program} {w : World} {A : Around} {E : Value → Shared → Prop} {s : Shared}
variable {z TI TO T i1 i2 l1 l2 : Addr} {f : Bool} {oT : Obj} {k1 k2 : Nat} {xs ys : Array Value} {x y : Value}
/-- one more pair while an elder pair is still out -/
theorem heldItemL {Q : Option Value → Shared → Prop} (D : ZipApart z TI TO i1 i2 l1 l2) (hz : IsZipHeld s.heap z TI TO T f) (hT : s.heap.get? T = some oT) (hTI : IsPair s.heap TI (.ref i1) (.ref i2))
    (h1 : s.heap.IsListIter i1 l1 k1) (h2 : s.heap.IsListIter i2 l2 k2) (hl1 : s.heap.IsList l1 xs) (hl2 : s.heap.IsList l2 ys) (hx : xs[k1]? = some x) (hy : ys[k2]? = some y)
    (hQ : ∀ h', IsZipHeld h' z TI TO T true → h'.IsListIter i1 l1 (k1 + 1) → h'.IsListIter i2 l2 (k2 + 1) → IsPair h' s.heap.objs.size x y → h'.objs.size = s.heap.objs.size + 1 →
      (∀ c o, c ≠ z → c ≠ i1 → c ≠ i2 → s.heap.get? c = some o → h'.get? c = some o) → Q (some (.ref s.heap.objs.size)) { s with heap := h' }) : wpAny (model prog w) A (pyNext (.ref z)) Q E s := by
  have ty : s.TypeIs (.ref z) "zip" := ⟨_, hz, rfl⟩
  unfold pyNext
  refine wpAny_bind (wpAny_attempt (wpAny_callSpecial?_slot (name := Str.ofString "__next__") ty F.slot_zip_next (wpAny_call_entry F.slot_zip_next ty F.entry_zip_next ?_ (F.args_zip_next_1 _))))
  show wpAny _ _ (field (.ref z) 2 >>= _) _ _ _
  apply wpAny_bind
  apply wpAny_field hz rfl (x := .bool false) rfl
  show wpAny _ _ (field (.ref z) 3 >>= _) _ _ _
  apply wpAny_bind
  apply wpAny_field hz rfl (x := .ref TI) rfl
  apply wpAny_bind
  apply wpAny_seqItems hTI rfl
  show wpAny _ _ (Builtin.SmallTypes.ownedTupleIsFree (.ref z) >>= _) _ _ _
  apply wpAny_bind
  refine wpAny_tupleHeld_zip hz hT fun g1 hz1 s1 => ?_
  simp only [Bool.false_eq_true, if_false]
  apply wpAny_bind
  rw [← Array.forIn_toList]
  simp only [List.forIn_cons, List.forIn_nil]
  refine wpAny_bind (wpAny_bind (wpAny_holding ?_))
  show wpAny _ _ (Builtin.SmallTypes.nextOf (.ref i1) >>= _) _ _ _
  refine wpAny_bind (wpAny_nextOf_list_item (s := { s with heap := g1 }) (h1.extBut s1.extBut D.i1z) (hl1.extBut s1.extBut D.l1z) hx fun g2 it1 s2 => wpAny_pure (wpAny_pure ?_))
  refine wpAny_bind (wpAny_bind (wpAny_holding ?_))
  show wpAny _ _ (Builtin.SmallTypes.nextOf (.ref i2) >>= _) _ _ _
  refine wpAny_bind (wpAny_nextOf_list_item (s := { s with heap := g2 }) ((h2.extBut s1.extBut D.i2z).extBut s2.extBut D.i12.symm) ((hl2.extBut s1.extBut D.l2z).extBut s2.extBut D.l2i1) hy fun g3 it2 s3 => wpAny_pure (wpAny_pure (wpAny_pure ?_)))
  show wpAny _ _ (newTuple [x, y] >>= _) _ _ _
  refine wpAny_bind (wpAny_newTuple (wpAny_pure ⟨_, rfl, wpAny_pure ?_⟩))
  have sz : g3.objs.size = s.heap.objs.size := s3.1.trans (s2.1.trans s1.1)
  have kp : ∀ c o, c ≠ z → c ≠ i1 → c ≠ i2 → s.heap.get? c = some o → (g3.push { cls := .type "tuple", data := .seq #[x, y] }).get? c = some o := fun c o c1 c2 c3 e =>
    Heap.get?_push_of_some _ (s3.extBut _ _ c3 (s2.extBut _ _ c2 (s1.extBut _ _ c1 e)))
  have np : (g3.push { cls := .type "tuple", data := .seq #[x, y] }).objs.size = s.heap.objs.size + 1 := by rw [Heap.size_push, sz]
  have gp : IsPair (g3.push { cls := .type "tuple", data := .seq #[x, y] }) g3.objs.size x y := Heap.get?_push_size _ rfl
  have hz3 : IsZipHeld g3 z TI TO T true := s3.extBut _ _ D.i2z.symm (s2.extBut _ _ D.i1z.symm hz1)
  show Q (some (.ref g3.objs.size)) _
  rw [sz] at gp ⊢
  exact hQ _ (Heap.get?_push_of_some _ hz3) ((it1.extBut s3.extBut D.i12).at fun o e => Heap.get?_push_of_some _ e) (it2.at fun o e => Heap.get?_push_of_some _ e) gp np kp
theorem heldEndL {Q : Option Value → Shared → Prop} (hh : A.handled = none) (D : ZipApart z TI TO i1 i2 l1 l2) (hz : IsZipHeld s.heap z TI TO T f) (hT : s.heap.get? T = some oT) (hTI : IsPair s.heap TI (.ref i1) (.ref i2))
    (h1 : s.heap.IsListIter i1 l1 k1) (h2 : s.heap.IsListIter i2 l2 k2) (hl1 : s.heap.IsList l1 xs) (hl2 : s.heap.IsList l2 ys) (hend : xs[k1]? = none ∨ ys[k2]? = none)
    (hQ : ∀ h', (∀ c o, c ≠ z → c ≠ i1 → c ≠ i2 → s.heap.get? c = some o → h'.get? c = some o) → Q none { s with heap := h' }) : wpAny (model prog w) A (pyNext (.ref z)) Q E s := by
  have ty : s.TypeIs (.ref z) "zip" := ⟨_, hz, rfl⟩
  have fin : ∀ {g : Heap} {e : Addr}, (∀ c o, c ≠ z → c ≠ i1 → c ≠ i2 → s.heap.get? c = some o → g.get? c = some o) → (∃ o, g.get? e = some o ∧ o.cls = .type "StopIteration") →
      wpAny (model prog w) A (do if ← isInstance (.ref e) (.type "StopIteration") then pure none else throw (.ref e)) Q E { s with heap := g } := fun {g e} kp ⟨o, ho, hc⟩ =>
    wpAny_bind (wpAny_isInstance (T := "StopIteration") (b := true) ⟨o, ho, hc⟩ isSubtype_stop (wpAny_pure (hQ _ kp)))
  unfold pyNext
  refine wpAny_bind (wpAny_attempt (wpAny_callSpecial?_slot (name := Str.ofString "__next__") ty F.slot_zip_next (wpAny_call_entry F.slot_zip_next ty F.entry_zip_next ?_ (F.args_zip_next_1 _))))
  show wpAny _ _ (field (.ref z) 2 >>= _) _ _ _
  apply wpAny_bind
  apply wpAny_field hz rfl (x := .bool false) rfl
  show wpAny _ _ (field (.ref z) 3 >>= _) _ _ _
  apply wpAny_bind
  apply wpAny_field hz rfl (x := .ref TI) rfl
  apply wpAny_bind
  apply wpAny_seqItems hTI rfl
  show wpAny _ _ (Builtin.SmallTypes.ownedTupleIsFree (.ref z) >>= _) _ _ _
  apply wpAny_bind
  refine wpAny_tupleHeld_zip hz hT fun g1 hz1 s1 => ?_
  simp only [Bool.false_eq_true, if_false]
  apply wpAny_bind
  rw [← Array.forIn_toList]
  simp only [List.forIn_cons, List.forIn_nil]
  refine wpAny_bind (wpAny_bind (wpAny_holding ?_))
  show wpAny _ _ (Builtin.SmallTypes.nextOf (.ref i1) >>= _) _ _ _
  cases hx : xs[k1]? with
  | none => exact wpAny_bind (wpAny_nextOf_list_end (s := { s with heap := g1 }) hh (h1.extBut s1.extBut D.i1z) (hl1.extBut s1.extBut D.l1z) hx fun g2 e s2 he => fin (fun c o c1 c2 _ q => s2 _ _ c2 (s1.extBut _ _ c1 q)) he)
  | some x =>
    have hy : ys[k2]? = none := hend.resolve_left (by rw [hx]; simp)
    refine wpAny_bind (wpAny_nextOf_list_item (s := { s with heap := g1 }) (h1.extBut s1.extBut D.i1z) (hl1.extBut s1.extBut D.l1z) hx fun g2 it1 s2 => wpAny_pure (wpAny_pure ?_))
    refine wpAny_bind (wpAny_bind (wpAny_holding ?_))
    show wpAny _ _ (Builtin.SmallTypes.nextOf (.ref i2) >>= _) _ _ _
    exact wpAny_bind (wpAny_nextOf_list_end (s := { s with heap := g2 }) hh ((h2.extBut s1.extBut D.i2z).extBut s2.extBut D.i12.symm) ((hl2.extBut s1.extBut D.l2z).extBut s2.extBut D.l2i1) hy fun g3 e s3 he => fin (fun c o c1 c2 c3 q => s3 _ _ c3 (s2.extBut _ _ c2 (s1.extBut _ _ c1 q))) he)
end
/-- the zip's state at turn i: none of its pairs is out, or an elder one is -/
def ZStL (z TI TO i1 i2 a b : Addr) (i : Nat) (h : Heap) : Prop :=
  (IsZip h z TI TO .none ∨ ∃ T f oT, IsZipHeld h z TI TO T f ∧ h.get? T = some oT) ∧ IsPair h TI (.ref i1) (.ref i2) ∧ (∃ x y, IsPair h TO x y) ∧ h.IsListIter i1 a i ∧ h.IsListIter i2 b i
section
variable {X : Cx} {pins : List (Addr × Obj)} {σ : L2.St} {z TI TO i1 i2 a b L : Addr} {xs ys : List V} {Pv : Nat → Hp → List V → Prop} {R : Result → Shared → Prop} {E : Value → Shared → Prop} {A : Around}
theorem zip_moreL (hh : A.handled = none) (D : ZipApart z TI TO i1 i2 a b) (hL : L ∉ [z, TI, TO, i1, i2]) (hP : ∀ i H acc, Pv i H acc → H L = some (.lst acc) ∧ acc.length = i ∧ SqL X.K H a xs ∧ SqL X.K H b ys)
    (hS : ∀ i H acc x y T, Pv i H acc → xs[i]? = some x → ys[i]? = some y → H T = none → Pv (i + 1) (upd (upd H T (.tup [x, y])) L (.lst (acc ++ [.ref T]))) (acc ++ [.ref T])) (hsz : min xs.length ys.length < sizeLine) {res : Value} :
    ∀ (k i : Nat) (s : Shared) (H : Hp) (acc : List V), min xs.length ys.length - i = k → i ≤ min xs.length ys.length → Inv X pins σ H s → ZStL z TI TO i1 i2 a b i s.heap → (∀ c ∈ [z, TI, TO, i1, i2], FpOk X pins H c) → Pv i H acc →
      (∀ s' H' acc', Inv X pins σ H' s' → Pv (min xs.length ys.length) H' acc' → R (.ok (.ret res)) s') → codeAny (model X.prog X.w) A (.builtin "list.extend.loop" ⟨[.ref L, .ref z, res], []⟩) R s := by
  intro k
  induction k with
  | zero =>
    intro i s H acc hk hi I st hf p hR
    have hin : i = min xs.length ys.length := by omega
    obtain ⟨q1, q2, q3, q4⟩ := hP i H acc p
    obtain ⟨its, rv, u1, _⟩ := I.list q3
    obtain ⟨its2, rv2, u2, _⟩ := I.list q4
    have t1 := u1.isList
    have t2 := u2.isList
    have n1 := rv.length
    have n2 := rv2.length
    obtain ⟨st1, hTI, ⟨x0, y0, hTO⟩, h1, h2⟩ := st
    have he : its.toArray[i]? = none ∨ its2.toArray[i]? = none := by
      by_cases hle : xs.length ≤ i
      · exact .inl (by simp; omega)
      · exact .inr (by simp; omega)
    have fin : ∀ h', (∀ c o, c ≠ z → c ≠ TO → c ≠ i1 → c ≠ i2 → s.heap.get? c = some o → h'.get? c = some o) → Inv X pins σ H { s with heap := h' } := fun h' hk => I.turnedL (t' := s.toks) (ch := [z, TI, TO, i1, i2]) (fun c o hb q =>
      hk c o (fun q' => hb (by simp [q'])) (fun q' => hb (by simp [q'])) (fun q' => hb (by simp [q'])) (fun q' => hb (by simp [q'])) q) hf
    refine codeAny_builtin F.entry_extend_loop ?_
    rw [Around.under_plainId F.plain_extend_loop _]
    show wpAny _ A.in1 (pyNext (.ref z) >>= _) _ _ s
    apply wpAny_bind
    subst hin
    rcases st1 with hz | ⟨T, f, oT, hz, hT⟩
    · exact wpAny_pyNext_zip_end (A := A.in1) hh D hz hTI hTO h1 h2 t1 t2 he fun h' hk => wpAny_pure (hR _ H acc (fin h' hk) p)
    · exact heldEndL (A := A.in1) hh D hz hT hTI h1 h2 t1 t2 he fun h' hk => wpAny_pure (hR _ H acc (fin h' fun c o c1 _ c3 c4 => hk c o c1 c3 c4) p)
  | succ k ih =>
    intro i s H acc hk hi I st hf p hR
    have hlt : i < min xs.length ys.length := by omega
    obtain ⟨q1, q2, q3, q4⟩ := hP i H acc p
    obtain ⟨its, rv, u1, _⟩ := I.list q3
    obtain ⟨its2, rv2, u2, _⟩ := I.list q4
    have t1 := u1.isList
    have t2 := u2.isList
    have hx : xs[i]? = some (xs[i]'(by omega)) := List.getElem?_eq_getElem _
    have hy : ys[i]? = some (ys[i]'(by omega)) := List.getElem?_eq_getElem _
    obtain ⟨u, hu, ru⟩ := rv.get hx
    obtain ⟨u2, hu2, ru2⟩ := rv2.get hy
    obtain ⟨st1, hTI, ⟨x0, y0, hTO⟩, h1, h2⟩ := st
    have zl : z < s.heap.objs.size := by
      rcases st1 with hz | ⟨T, f, oT, hz, hT⟩
      · exact Heap.lt_size hz
      · exact Heap.lt_size hz
    have lts : ∀ c ∈ [z, TI, TO, i1, i2], c < s.heap.objs.size := fun c hc => by
      simp only [List.mem_cons, List.not_mem_nil, or_false] at hc
      rcases hc with e | e | e | e | e
      · rw [e]; exact zl
      · rw [e]; exact Heap.lt_size hTI
      · rw [e]; exact Heap.lt_size hTO
      · rw [e]; obtain ⟨_, e1, _⟩ := h1; exact Heap.lt_size e1
      · rw [e]; obtain ⟨_, e1, _⟩ := h2; exact Heap.lt_size e1
    refine codeAny_builtin F.entry_extend_loop ?_
    rw [Around.under_plainId F.plain_extend_loop _]
    show wpAny _ A.in1 (pyNext (.ref z) >>= _) _ _ s
    apply wpAny_bind
    -- the pair has come
    have go : ∀ h', (∃ T f oT, IsZipHeld h' z TI TO T f ∧ h'.get? T = some oT) → (∃ x y, IsPair h' TO x y) → h'.IsListIter i1 a (i + 1) → h'.IsListIter i2 b (i + 1) → IsPair h' s.heap.objs.size u u2 → (∀ c o, c ≠ z → c ≠ TO → c ≠ i1 → c ≠ i2 → s.heap.get? c = some o → h'.get? c = some o) →
        wpAny (model X.prog X.w) A.in1 (updateSeq L (·.push (.ref s.heap.objs.size)) >>= fun _ => again (.builtin "list.extend.loop" ⟨[.ref L, .ref z, res], []⟩)) (fun fin s' => match fin with | .done f => R (.ok f) s' | .again c' => c'.quiet = true ∧ codeAny (model X.prog X.w) A c' R s') (fun e s' => R (.error e) s') { s with heap := h' } := fun h' hz' hTO' it1 it2 hp hk => by
      have new : ObjOk X.prog X.w (upd H s.heap.objs.size (.tup [xs[i]'(by omega), ys[i]'(by omega)])) h' s.heap.objs.size (.tup [xs[i]'(by omega), ys[i]'(by omega)]) :=
        ⟨by show 2 ≤ sizeLine; decide, [u, u2], .cons ru (.cons ru2 .nil), ⟨_, hp, rfl, _, rfl⟩⟩
      have hn : H s.heap.objs.size = none := I.hok.fresh (Nat.le_refl _)
      have I1 : Inv X pins σ (upd H s.heap.objs.size (.tup [xs[i]'(by omega), ys[i]'(by omega)])) { s with heap := h' } :=
        I.turnedNew (t' := s.toks) (ch := [z, TI, TO, i1, i2]) (fun c o hb q => hk c o (fun q' => hb (by simp [q'])) (fun q' => hb (by simp [q'])) (fun q' => hb (by simp [q'])) (fun q' => hb (by simp [q'])) q) hf (Nat.le_refl _) new
      have hLn : L ≠ s.heap.objs.size := fun q => by
        rw [← q, q1] at hn
        cases hn
      have hL1 : upd H s.heap.objs.size (.tup [xs[i]'(by omega), ys[i]'(by omega)]) L = some (.lst acc) := by rw [upd_ne hLn]; exact q1
      obtain ⟨zz, li, m, rl, hl, el⟩ := I1.lstM hL1
      have hTI' : IsPair h' TI (.ref i1) (.ref i2) := hk _ _ D.TIz D.TITO D.TIi1 D.TIi2 hTI
      refine wpAny_bind (wpAny_updateSeq el rfl ?_ (by rw [List.size_toArray]; omega) (by rw [Array.size_push, List.size_toArray]; omega))
      have I2 := I1.lset (t' := s.toks) (ys := acc ++ [.ref s.heap.objs.size]) (its' := li ++ [.ref s.heap.objs.size]) (f := fun x => x.push (.ref s.heap.objs.size)) hL1 el (by simp) (rl.append (.cons (show L2.RelV (V.ref s.heap.objs.size) (Value.ref s.heap.objs.size) from rfl) .nil)) (by simp; omega)
      have up : ∀ c o, c ≠ L → h'.get? c = some o → (h'.update L (Obj.mapSeq fun x => x.push (.ref s.heap.objs.size))).get? c = some o := fun c o hc e => (Heap.get?_update_other _ _ (Ne.symm hc)).trans e
      have ne : ∀ c ∈ [z, TI, TO, i1, i2], c ≠ L := fun c hc q => hL (q ▸ hc)
      refine wpAny_pure ⟨plainId_quiet F.plain_extend_loop _, ih (i + 1) _ _ (acc ++ [.ref s.heap.objs.size]) (by omega) hlt I2 ?_ ?_ (hS i H acc _ _ _ p hx hy hn) hR⟩
      · obtain ⟨T, f, oT, g1, g2⟩ := hz'
        obtain ⟨x, y, g3⟩ := hTO'
        refine ⟨.inr ⟨T, f, ?_⟩, up _ _ (ne TI (by simp)) hTI', ⟨x, y, up _ _ (ne TO (by simp)) g3⟩, it1.at fun o q => up _ o (ne i1 (by simp)) q, it2.at fun o q => up _ o (ne i2 (by simp)) q⟩
        by_cases hTL : T = L
        · subst hTL
          exact ⟨_, up _ _ (ne z (by simp)) g1, Heap.get?_update_self _ el rfl⟩
        · exact ⟨_, up _ _ (ne z (by simp)) g1, up _ _ hTL g2⟩
      · intro c hc
        obtain ⟨f0, fr⟩ := hf c hc
        refine ⟨?_, fr⟩
        rw [upd_ne (ne c hc), upd_ne (Nat.ne_of_lt (lts c hc))]
        exact f0
    rcases st1 with hz | ⟨T, f, oT, hz, hT⟩
    · refine wpAny_pyNext_zip_item (A := A.in1) D hz hTI hTO h1 h2 t1 t2 (x := u) (y := u2) (by simpa using hu) (by simpa using hu2) fun h' z' TO' h1' h2' hp hsz hk => ?_
      exact go h' ⟨_, _, _, z', hp⟩ ⟨_, _, TO'⟩ h1' h2' hp hk
    · refine heldItemL (A := A.in1) D hz hT hTI h1 h2 t1 t2 (x := u) (y := u2) (by simpa using hu) (by simpa using hu2) fun h' z' h1' h2' hp hsz hk => ?_
      have hTO' : IsPair h' TO x0 y0 := hk _ _ D.TOz D.TOi1 D.TOi2 hTO
      refine go h' ⟨T, true, ?_⟩ ⟨_, _, hTO'⟩ h1' h2' hp fun c o c1 _ c3 c4 => hk c o c1 c3 c4
      by_cases e1 : T = z
      · exact ⟨_, z', by rw [e1]; exact z'⟩
      · by_cases e2 : T = i1
        · obtain ⟨o, ho, _⟩ := h1'
          exact ⟨o, z', by rw [e2]; exact ho⟩
        · by_cases e3 : T = i2
          · obtain ⟨o, ho, _⟩ := h2'
            exact ⟨o, z', by rw [e3]; exact ho⟩
          · exact ⟨oT, z', hk T oT e1 e2 e3 hT⟩
end
end PM
end

section
set_option Elab.async false
set_option linter.all false
set_option maxRecDepth 100000
/-! PmYL3: list(zip(two lists)), as a rule. -/
namespace PM
open PySem L2 PySem.Spec PyProof.Rows RZ
section
variable {X : Cx} {pins : List (Addr × Obj)} {σ : L2.St} {z TI TO i1 i2 a b : Addr} {xs ys : List V} {s : Shared} {H : Hp} {Q : VK}
/-- what follows the pairs' list -/
def ZEndL (K : PySem.W.Frag) (a b : Addr) (xs ys : List V) (H : Hp) (Q : VK) : Prop := ∀ L, H L = none → ∃ Pv : Nat → Hp → List V → Prop, Pv 0 (upd H L (.lst [])) [] ∧ (∀ i H acc, Pv i H acc → H L = some (.lst acc) ∧ acc.length = i ∧ SqL K H a xs ∧ SqL K H b ys) ∧
  (∀ i H acc x y T, Pv i H acc → xs[i]? = some x → ys[i]? = some y → H T = none → Pv (i + 1) (upd (upd H T (.tup [x, y])) L (.lst (acc ++ [.ref T]))) (acc ++ [.ref T])) ∧ ∀ H acc, Pv (min xs.length ys.length) H acc → Q (.ref L) H
theorem list_zipL (hc : X.calm = true) (I : Inv X pins σ H s) (D : ZipApart z TI TO i1 i2 a b) (sz : IsZip s.heap z TI TO .none) (st : ZStL z TI TO i1 i2 a b 0 s.heap) (hf : ∀ c ∈ [z, TI, TO, i1, i2], FpOk X pins H c ∧ c < s.heap.objs.size) (hsz : min xs.length ys.length < sizeLine) (hE : ZEndL X.K a b xs ys H Q) :
    wpAny (model X.prog X.w) X.A (call (.type "list") [.ref z]) (EP X pins σ Q) X.xe s := by
  have hh : X.A.handled = none := I.ok.hd hc
  have hn : H s.heap.objs.size = none := I.hok.fresh (Nat.le_refl _)
  obtain ⟨Pv, p0, hP, hS, hQ⟩ := hE _ hn
  refine callType_codes (Q₁ := fun obj s₁ => obj = .ref s.heap.objs.size ∧ s₁ = { s with heap := s.heap.push { cls := .type "list", data := .seq #[] } }) F.called_list (F.typeCall_list_1 _) F.entry_list_init (code_list_new _ ⟨rfl, rfl⟩) fun obj s₁ h₁ => ?_
  obtain ⟨rfl, rfl⟩ := h₁
  generalize hL : s.heap.objs.size = L at *
  have ne : ∀ c ∈ [z, TI, TO, i1, i2], c ≠ L := fun c hm q => by
    have := (hf c hm).2
    rw [q] at this
    exact Nat.lt_irrefl _ this
  have hS0 : (s.heap.push { cls := .type "list", data := .seq #[] }).get? L = some { cls := .type "list", data := .seq #[] } := hL ▸ Heap.get?_push_size _ rfl
  have I0 : Inv X pins σ (upd H L (.lst [])) { s with heap := s.heap.push { cls := .type "list", data := .seq #[] } } := by
    have := I.lnew (t' := s.toks) (ys := []) (its := []) .nil (Nat.zero_le _)
    rw [hL] at this
    exact this
  -- the same state, whatever was done to the empty list
  have core : ∀ (h' : Heap) (c : Nat), Inv X pins σ (upd H L (.lst [])) { s with heap := h' } → (∀ e o, e ≠ L → (s.heap.push { cls := .type "list", data := .seq #[] }).get? e = some o → h'.get? e = some o) →
      codeAny (model X.prog X.w) X.A.in1 (.builtin "list.extend.loop" ⟨[.ref L, .ref z, .none], []⟩) (wants (fun r s₂ => r = .none ∧ EP X pins σ Q (.ref L) s₂) X.xe) { s with heap := h' } := fun h' c J kp => by
    have k2 : ∀ c ∈ [z, TI, TO, i1, i2], ∀ o, s.heap.get? c = some o → h'.get? c = some o := fun c hm o e => kp c o (ne c hm) (Heap.get?_push_of_some _ e)
    have ld : ∀ T oT, s.heap.get? T = some oT → h'.get? T = some oT := fun T oT e => kp T oT (fun q => by
      have := Heap.lt_size e
      rw [hL, q] at this
      exact Nat.lt_irrefl _ this) (Heap.get?_push_of_some _ e)
    refine zip_moreL (A := X.A.in1) hh D (fun q => (ne L q) rfl) hP hS hsz _ 0 _ _ [] rfl (Nat.zero_le _) J ?_ (fun c hm => ?_) p0 fun s' H' acc' I' p' => ⟨rfl, .ref L, H', I', rfl, hQ H' acc' p'⟩
    · obtain ⟨q1, q2, ⟨x, y, q3⟩, q4, q5⟩ := st
      refine ⟨?_, k2 TI (by simp) _ q2, ⟨x, y, k2 TO (by simp) _ q3⟩, q4.at fun o e => k2 i1 (by simp) o e, q5.at fun o e => k2 i2 (by simp) o e⟩
      rcases q1 with q1 | ⟨T, f, oT, q1, q6⟩
      · exact .inl (k2 z (by simp) _ q1)
      · exact .inr ⟨T, f, oT, k2 z (by simp) _ q1, ld T oT q6⟩
    · obtain ⟨f0, fr⟩ := (hf c hm).1
      refine ⟨?_, fr⟩
      rw [upd_ne (ne c hm)]
      exact f0
  refine ⟨⟨_, hS0, rfl⟩, F.args_list_init_2 _ _, ?_⟩
  have hLz : L ≠ z := (ne z (by simp)).symm
  show wpAny _ _ (do let old ← Builtin.List.listItems (.ref L); Builtin.List.listUpdate (.ref L) (fun _ => #[]); letGo old.toList.reverse; Builtin.List.listExtendWith (.ref L) (.ref z) .none) _ _ _
  refine wpAny_bind ?_
  unfold Builtin.List.listItems
  refine wpAny_bind (wpAny_seqItems hS0 rfl (wpAny_pure ?_))
  show wpAny _ _ (updateSeq L (fun _ => #[]) >>= fun _ => letGo (#[] : Array Value).toList.reverse >>= fun _ => Builtin.List.listExtendWith (.ref L) (.ref z) .none) _ _ _
  refine wpAny_bind (wpAny_updateSeq hS0 rfl ?_)
  have I1 := I0.lset (t' := s.toks) (ys := []) (its := []) (its' := []) (f := fun _ => #[]) upd_same hS0 rfl .nil (Nat.zero_le _)
  rw [upd_upd] at I1
  generalize hg1 : (s.heap.push { cls := .type "list", data := .seq #[] }).update L (Obj.mapSeq fun _ => (#[] : Array Value)) = g1 at I1 ⊢
  have kp1 : ∀ e o, e ≠ L → (s.heap.push { cls := .type "list", data := .seq #[] }).get? e = some o → g1.get? e = some o := fun e o he q => by
    rw [← hg1]
    exact (Heap.get?_update_other _ _ (Ne.symm he)).trans q
  obtain ⟨c1, hS1⟩ : ∃ c, g1.get? L = some { cls := .type "list", data := .seq #[] c } := by
    rw [← hg1]
    exact ⟨_, Heap.get?_update_self (Obj.mapSeq (fun _ => (#[] : Array Value))) hS0 rfl⟩
  have ty : Shared.TypeIs { s with heap := g1 } (.ref z) "zip" := by
    exact ⟨_, kp1 z _ (ne z (by simp)) (Heap.get?_push_of_some _ sz), rfl⟩
  refine wpAny_bind (wpAny_letGo ?_)
  unfold Builtin.List.listExtendWith
  refine wpAny_bind (wpAny_typeOf ty ?_)
  have e1 : Builtin.List.listSameRef (.ref L) (.ref z) = false := by simp [Builtin.List.listSameRef, hLz]
  have e2 : (Value.type "zip" == Value.type "list") = false := by decide
  have e3 : (Value.type "zip" == Value.type "tuple") = false := by decide
  simp only [e1, e2, e3, Bool.or_false, Bool.false_eq_true, if_false]
  have zi : ∀ {Q' : Value → Shared → Prop} {E' : Value → Shared → Prop}, Q' (.ref z) { s with heap := g1 } → wpAny (model X.prog X.w) X.A.in1.in1 (pyIter (.ref z)) Q' E' { s with heap := g1 } := fun {Q' E'} q => by
    exact wpAny_pyIter_zip (kp1 z _ (ne z (by simp)) (Heap.get?_push_of_some _ sz)) q
  refine wpAny_bind (zi ?_)
  refine wpAny_bind (wpAny_holding ?_)
  unfold Builtin.List.listLengthHint
  refine wpAny_bind (wpAny_specialOf ty zip_len0 ?_)
  show wpAny _ _ (specialOf (Value.ref z) (Str.ofString "__length_hint__") >>= _) _ _ _
  refine wpAny_bind (wpAny_specialOf ty zip_hint0 ?_)
  refine wpAny_pure ?_
  show wpAny _ _ (rule "list.extend.makes-room" >>= fun _ => Builtin.List.listTouch (.ref L) >>= fun _ => again (.builtin "list.extend.loop" ⟨[.ref L, .ref z, .none], []⟩)) _ _ _
  refine wpAny_bind (wpAny_rule ?_)
  refine wpAny_bind ?_
  show wpAny _ _ (updateSeq L (·.push .none) >>= fun _ => updateSeq L (·.pop)) _ _ _
  refine wpAny_bind (wpAny_updateSeq hS1 rfl ?_)
  have hS2 := Heap.get?_update_self (Obj.mapSeq (·.push Value.none)) hS1 rfl
  have I2 := I1.lset (t' := s.toks) (ys := [.non]) (its := []) (its' := [.none]) (f := (·.push Value.none)) upd_same hS1 rfl (.cons rfl .nil) (by show 1 ≤ sizeLine; decide)
  refine wpAny_updateSeq (hz := by seq_fits) hS2 rfl ?_
  have I3 := I2.lset (t' := s.toks) (ys := []) (its := [.none]) (its' := []) (f := (·.pop)) upd_same hS2 rfl .nil (Nat.zero_le _)
  rw [upd_upd, upd_upd] at I3
  exact wpAny_pure ⟨plainId_quiet F.plain_extend_loop _, core _ 0 I3 fun e o he q => (Heap.get?_update_other _ _ (Ne.symm he)).trans ((Heap.get?_update_other _ _ (Ne.symm he)).trans (kp1 e o he q))⟩
end
section
variable {X : Cx} {ta : TA} {e1 e2 : Expr}
def tLzL (K : PySem.W.Frag) (ta : TA) : TE := fun σ H Q => ta σ H fun vs H1 => ∃ a b xs ys, vs = [.ref a, .ref b] ∧ SqL K H1 a xs ∧ SqL K H1 b ys ∧ min xs.length ys.length < sizeLine ∧ ZEndL K a b xs ys H1 Q
theorem pe_lzL {np np2 pos pos2 : Pos} (hc : X.calm = true) (hg : Gl X "list") (hm : X.mg "list" = none) (hg2 : Gl X "zip") (hm2 : X.mg "zip" = none) (ha : PA X [e1, e2] ta)
    (hs : starEach [e1, e2] X.env = (false, eval e1 X.env) :: starEach [e2] X.env) (hpl : (backTo pos2 (starEach [e2] X.env)).any (·.1) = false) : PE X (.Call (.Name "list" np) [.Call (.Name "zip" np2) [e1, e2] [] pos2] [] pos) (tLzL X.K ta) := by
  refine ⟨fun pins s σ H Q I h => ?_⟩
  refine Call_ (ld_blt I hg hm boot_list (PyProof.Rows.callWith_type1 (args_cons ?_ rfl) rfl))
  refine Call_ (ld_blt I hg2 hm2 PyProof.Rows.boot_zip (PyProof.Rows.callWith_type1 (thn (ha.run pos2 pins s σ H _ I h) fun us s1 ⟨vs, H1, I1, r1, q1⟩ => ?_) hs hpl))
  obtain ⟨a, b, xs, ys, rfl, qa, qb, hsz, hE⟩ := q1
  obtain ⟨u1, u2, rfl, ru1, ru2⟩ := vals2 r1
  cases ru1
  cases ru2
  obtain ⟨its, rv, p1, _⟩ := I1.list qa
  obtain ⟨its2, rv2, p2, _⟩ := I1.list qb
  obtain ⟨o1, ho1, _⟩ := id p1.isList
  obtain ⟨o2, ho2, _⟩ := id p2.isList
  refine call_zip_2 (show s1.heap.IsList a its.toArray from p1.isList) (show s1.heap.IsList b its2.toArray from p2.isList) fun h' hz hTI hTO h1 h2 hs5 hk => args_nil ?_
  have I2 : Inv X pins σ H1 { s1 with heap := h' } := I1.kept (t' := s1.toks) hk
  refine list_zipL hc I2 (PySem.W.ktu_apart s1.heap.objs.size a b (Heap.lt_size ho1) (Heap.lt_size ho2)) hz ⟨.inl hz, hTI, ⟨_, _, hTO⟩, h1, h2⟩ (fun c hcm => ?_) hsz hE
  have e' : c = s1.heap.objs.size + 4 ∨ c = s1.heap.objs.size + 2 ∨ c = s1.heap.objs.size + 3 ∨ c = s1.heap.objs.size ∨ c = s1.heap.objs.size + 1 := by simpa using hcm
  have hle : s1.heap.objs.size ≤ c ∧ c < s1.heap.objs.size + 5 := by
    have f0 : (s1.heap.objs.size : Nat) ≤ s1.heap.objs.size := Nat.le_refl _
    rcases e' with q | q | q | q | q
    · rw [q]; exact ⟨Nat.le_add_right _ _, Nat.add_lt_add_left (by decide) _⟩
    · rw [q]; exact ⟨Nat.le_add_right _ _, Nat.add_lt_add_left (by decide) _⟩
    · rw [q]; exact ⟨Nat.le_add_right _ _, Nat.add_lt_add_left (by decide) _⟩
    · rw [q]; exact ⟨Nat.le_refl _, Nat.lt_add_of_pos_right (by decide)⟩
    · rw [q]; exact ⟨Nat.le_add_right _ _, Nat.add_lt_add_left (by decide) _⟩
  exact ⟨I1.fpOk hle.1 (I1.hok.fresh hle.1), by
    show c < h'.objs.size
    rw [hs5]
    exact hle.2⟩
end
end PM
end

section
set_option Elab.async false
set_option linter.all false
set_option maxRecDepth 100000
/-! PmYL4: list(zip(a, b)) of the pure form. -/
namespace PM
open PySem L2 PyProof.Rows
theorem sqL_mono {K : PySem.W.Frag} {H H' : Hp} {a : Addr} {xs : List V} (e : Same H H') (h : SqL K H a xs) : SqL K H' a xs := by
  rcases h with h | h
  · exact .inl (rd_mono e h)
  · exact .inr h
theorem pe_or {X : Cx} {e : Expr} {t1 t2 : TE} (h1 : PE X e t1) (h2 : PE X e t2) : PE X e (fun σ H Q => t1 σ H Q ∨ t2 σ H Q) :=
  ⟨fun pins s σ H Q I h => h.elim (h1.run pins s σ H Q I) (h2.run pins s σ H Q I)⟩
theorem vw_lst {T : Tb} {W : Wd} {H : Hp} {xs : List D} {v : V} (h : Vw T W H (.lst xs) v) : ∃ a vs, v = .ref a ∧ Rd H a (.lst vs) ∧ Reps T W xs vs := h
theorem snd_listZip {T : Tb} {B : Bs} {X : Cx} {F : Fields} {call : CallF} {a b : Expr} {ma mb : ME} {np np2 q pos : Pos} (hK : X.K = T.K) (hc : X.calm = true) (hg : Gl X "list") (hm : X.mg "list" = none) (hg2 : Gl X "zip") (hm2 : X.mg "zip" = none) (ha : Snd T B X F call ma a) (hb : Snd T B X F call mb b) (pa : plE a = true) (pb : plE b = true) :
    Snd T B X F call (.prim .listZip [ma, mb]) (.Call (.Name "list" np) [.Call (.Name "zip" np2) [a, b] [] q] [] pos) :=
  PE.weak (pe_or (pe_lz hc hg hm hg2 hm2 (sndb_cons ha (sndb_cons hb sndb_nil (plE_star pb _ _)) (plE_star pa _ _)) (plE_star pa _ _) (plEs_any (es := [b]) (by simp [pb]) _ _)) (pe_lzL hc hg hm hg2 hm2 (sndb_cons ha (sndb_cons hb sndb_nil (plE_star pb _ _)) (plE_star pa _ _)) (plE_star pa _ _) (plEs_any (es := [b]) (by simp [pb]) _ _))) fun σ H Q ⟨W, S, d, S', I, e1, k⟩ => by
    simp only [ev] at e1
    obtain ⟨⟨ds, S1⟩, h1, e1⟩ := R.bind_eq_ok e1
    replace e1 := ofO_eq_ok e1
    obtain ⟨zs, h4, e1⟩ := Option.bind_eq_some_iff.mp e1
    obtain ⟨z, h5, e1⟩ := Option.map_eq_some_iff.mp e1
    cases e1
    unfold primD at h5
    split at h5 <;> try contradiction
    · split at h5
      · rename_i dx dy heq hl
        refine .inl ⟨W, S, ds, _, I, h1, fun W1 vs H1 l I1 r1 => ?_⟩
        have hv := I1.views r1.1 r1.2 h4
        cases h5
        obtain ⟨v, u, rfl, v1, v2⟩ := vws2 hv
        obtain ⟨p1, us, rfl, g1, g2⟩ := vw_tup v1
        obtain ⟨p2, ws, rfl, g3, g4⟩ := vw_tup v2
        have q1 : SqT X.K H1 p1 us := hK ▸ sqT_mono I1.sub g1
        have q2 : SqT X.K H1 p2 ws := hK ▸ sqT_mono I1.sub g3
        refine ⟨p1, p2, us, ws, rfl, q1, q2, ?_, fun L hL => ?_⟩
        · have := g2.length
          have := lim_line
          omega
        · have hF : W1.F L = none := by
            cases e : W1.F L with
            | none => rfl
            | some o =>
              rw [I1.sub _ _ e] at hL
              cases hL
          refine ⟨fun i H acc => ∃ W', Step W1 H1 W' H ∧ W'.F L = none ∧ H L = some (.lst acc) ∧ acc.length = i ∧ Reps T W' ((zipD dx dy).take i) acc, ⟨W1, Step.alloc I1.sub hL, hF, upd_same, rfl, Reps.nil⟩, fun i H acc ⟨W', st, f1, f2, f3, f4⟩ => ⟨f2, f3, sqT_mono st.same q1, sqT_mono st.same q2⟩, fun i H acc x y T0 ⟨W', st, f1, f2, f3, f4⟩ hx hy hT => ?_, fun H acc ⟨W', st, f1, f2, f3, f4⟩ => ?_⟩
          · obtain ⟨d1, hd1, rx⟩ := g2.getV hx
            obtain ⟨d2, hd2, ry⟩ := g4.getV hy
            obtain ⟨W2, st2, r2⟩ := step_tup st.sub hT (Reps.cons (Rep.mono st.toLe _ rx) (Reps.cons (Rep.mono st.toLe _ ry) Reps.nil))
            have f5 : W2.F L = none := by
              cases e : W2.F L with
              | none => rfl
              | some o =>
                rcases st2.new L (by rw [e]; simp) with z | z
                · exact absurd f1 z
                · rw [f2] at z
                  cases z
            refine ⟨W2, (st.trans st2).free f5 hL, f5, upd_same, by simp [f3], ?_⟩
            have e : (zipD dx dy).take (i + 1) = (zipD dx dy).take i ++ [.tup [d1, d2]] := by
              rw [List.take_add_one, zipD_at hd1 hd2]
              rfl
            rw [e]
            exact (Reps.mono st2.toLe _ f4).append (Reps.cons r2 Reps.nil)
          · have e : (zipD dx dy).take (min us.length ws.length) = zipD dx dy := by
              rw [← g2.length, ← g4.length, ← zipD_len, List.take_length]
            rw [e] at f4
            exact k W' _ H (l.trans st.toLe) (I1.step st) (I1.resN st ⟨L, acc, rfl, hL, f2, f1, f4⟩)
      · cases h5
    · split at h5
      · rename_i dx dy heq hl
        refine .inr ⟨W, S, ds, _, I, h1, fun W1 vs H1 l I1 r1 => ?_⟩
        have hv := I1.views r1.1 r1.2 h4
        cases h5
        obtain ⟨v, u, rfl, v1, v2⟩ := vws2 hv
        obtain ⟨p1, us, rfl, g1, g2⟩ := vw_lst v1
        obtain ⟨p2, ws, rfl, g3, g4⟩ := vw_lst v2
        have q1 : SqL X.K H1 p1 us := .inl g1
        have q2 : SqL X.K H1 p2 ws := .inl g3
        refine ⟨p1, p2, us, ws, rfl, q1, q2, ?_, fun L hL => ?_⟩
        · have := g2.length
          have := lim_line
          omega
        · have hF : W1.F L = none := by
            cases e : W1.F L with
            | none => rfl
            | some o =>
              rw [I1.sub _ _ e] at hL
              cases hL
          refine ⟨fun i H acc => ∃ W', Step W1 H1 W' H ∧ W'.F L = none ∧ H L = some (.lst acc) ∧ acc.length = i ∧ Reps T W' ((zipD dx dy).take i) acc, ⟨W1, Step.alloc I1.sub hL, hF, upd_same, rfl, Reps.nil⟩, fun i H acc ⟨W', st, f1, f2, f3, f4⟩ => ⟨f2, f3, sqL_mono st.same q1, sqL_mono st.same q2⟩, fun i H acc x y T0 ⟨W', st, f1, f2, f3, f4⟩ hx hy hT => ?_, fun H acc ⟨W', st, f1, f2, f3, f4⟩ => ?_⟩
          · obtain ⟨d1, hd1, rx⟩ := g2.getV hx
            obtain ⟨d2, hd2, ry⟩ := g4.getV hy
            obtain ⟨W2, st2, r2⟩ := step_tup st.sub hT (Reps.cons (Rep.mono st.toLe _ rx) (Reps.cons (Rep.mono st.toLe _ ry) Reps.nil))
            have f5 : W2.F L = none := by
              cases e : W2.F L with
              | none => rfl
              | some o =>
                rcases st2.new L (by rw [e]; simp) with z | z
                · exact absurd f1 z
                · rw [f2] at z
                  cases z
            refine ⟨W2, (st.trans st2).free f5 hL, f5, upd_same, by simp [f3], ?_⟩
            have e : (zipD dx dy).take (i + 1) = (zipD dx dy).take i ++ [.tup [d1, d2]] := by
              rw [List.take_add_one, zipD_at hd1 hd2]
              rfl
            rw [e]
            exact (Reps.mono st2.toLe _ f4).append (Reps.cons r2 Reps.nil)
          · have e : (zipD dx dy).take (min us.length ws.length) = zipD dx dy := by
              rw [← g2.length, ← g4.length, ← zipD_len, List.take_length]
            rw [e] at f4
            exact k W' _ H (l.trans st.toLe) (I1.step st) (I1.resN st ⟨L, acc, rfl, hL, f2, f1, f4⟩)
      · cases h5
end PM
end

section
set_option Elab.async false
set_option linter.all false
set_option maxRecDepth 100000
/-! PmH: statements. -/
namespace PM
open PySem L2 PyProof.Rows
def Fin (T : Tb) (B : Bs) (W : Wd) (f : Fl) (D : Ends) : Prop := match f with
  | .nx S => ∀ W' σ' H', Le W W' → Rel T B W' S σ' H' → D.nx σ' H'
  | .brk S => ∀ W' σ' H', Le W W' → Rel T B W' S σ' H' → D.bk σ' H'
  | .cnt S => ∀ W' σ' H', Le W W' → Rel T B W' S σ' H' → D.ct σ' H'
  | .ret d S => ∀ W' v σ' H', Le W W' → Rel T B W' S σ' H' → Rep T W' d v → D.rt v H'
theorem Fin.mono {T : Tb} {B : Bs} {W W1 : Wd} {f : Fl} {D : Ends} (l : Le W W1) (h : Fin T B W f D) : Fin T B W1 f D := by
  cases f with
  | nx S => exact fun W' σ' H' l2 J => h W' σ' H' (l.trans l2) J
  | brk S => exact fun W' σ' H' l2 J => h W' σ' H' (l.trans l2) J
  | cnt S => exact fun W' σ' H' l2 J => h W' σ' H' (l.trans l2) J
  | ret d S => exact fun W' v σ' H' l2 J r => h W' v σ' H' (l.trans l2) J r
def TSx (T : Tb) (B : Bs) (m : PS → R Fl) : TS := fun D σ H => ∃ W S f, Rel T B W S σ H ∧ m S = .ok f ∧ Fin T B W f D
theorem PSw.weak {X : Cx} {st : Stmt} {t t' : TS} (h : L2.PS X st t) (k : ∀ D σ H, t' D σ H → t D σ H) : L2.PS X st t' := ⟨fun pins s σ H D I q => h.run pins s σ H D I (k D σ H q)⟩
theorem PSs.weak {X : Cx} {st : List Stmt} {t t' : TS} (h : PSs X st t) (k : ∀ D σ H, t' D σ H → t D σ H) : PSs X st t' := ⟨fun pins s σ H D I q => h.run pins s σ H D I (k D σ H q)⟩
section
variable {T : Tb} {B : Bs} {X : Cx} {F : Fields} {call : CallF}
variable {a b c e o : Expr} {ma mb mc me mo : ME} {pos apos : Pos} {st : Stmt} {sts : List Stmt} {m : MS} {ms : List MS}
abbrev SndS (T : Tb) (B : Bs) (X : Cx) (F : Fields) (call : CallF) (m : MS) (st : Stmt) : Prop := L2.PS X st (TSx T B (fun S => ex F call m S))
abbrev SndSs (T : Tb) (B : Bs) (X : Cx) (F : Fields) (call : CallF) (ms : List MS) (sts : List Stmt) : Prop := PSs X sts (TSx T B (fun S => exs F call ms S))
theorem snds_nil : SndSs T B X F call [] [] := PSs.weak pss_nil fun D σ H ⟨W, S, f, I, e, h⟩ => by
  cases e
  exact h W σ H (Le.refl W) I
theorem snds_cons (h1 : SndS T B X F call m st) (h2 : SndSs T B X F call ms sts) : SndSs T B X F call (m :: ms) (st :: sts) := PSs.weak (pss_cons h1 h2) fun D σ H ⟨W, S, f, I, e, h⟩ => by
  simp only [exs] at e
  obtain ⟨f1, e1, e2⟩ := R.bind_eq_ok e
  refine ⟨W, S, f1, I, e1, ?_⟩
  cases f1 with
  | nx S1 => exact fun W1 σ1 H1 l J => ⟨W1, S1, f, J, e2, h.mono l⟩
  | ret d S1 => cases e2; exact h
  | brk S1 => cases e2; exact h
  | cnt S1 => cases e2; exact h
theorem snds_kill {is : List Nat} (h2 : SndSs T B X F call ms sts) : SndSs T B X F call (.kill is :: ms) sts := PSs.weak h2 fun D σ H ⟨W, S, f, I, e, h⟩ => by
  simp only [exs, ex] at e
  obtain ⟨f1, e1, e2⟩ := R.bind_eq_ok e
  cases e1
  exact ⟨W, _, f, I.kill is, e2, h⟩
theorem snd_pass : SndS T B X F call .pass (.Pass pos) := PSw.weak ps_pass fun D σ H ⟨W, S, f, I, e, h⟩ => by
  simp only [ex] at e
  cases e
  exact h W σ H (Le.refl W) I
theorem snd_brk : SndS T B X F call .brk (.Break pos) := PSw.weak ps_break fun D σ H ⟨W, S, f, I, e, h⟩ => by
  simp only [ex] at e
  cases e
  exact h W σ H (Le.refl W) I
theorem snd_cnt : SndS T B X F call .cnt (.Continue pos) := PSw.weak ps_continue fun D σ H ⟨W, S, f, I, e, h⟩ => by
  simp only [ex] at e
  cases e
  exact h W σ H (Le.refl W) I
/-- no comprehension -/
def noLc : Expr → Bool
  | .ListComp _ _ _ _ => false
  | .SetComp _ _ _ _ => false
  | .DictComp _ _ _ _ _ => false
  | _ => true
theorem noLc_swaps {e : Expr} (h : noLc e = true) (t : Option Expr) (n : Nat) (env : Env) : swapsWith e t n env = pure false := by
  cases e <;> first | cases h; done | rfl
theorem snd_expr (he : Snd T B X F call me e) (hn : noLc e = true) : SndS T B X F call (.expr me) (.Expr e pos) := PSw.weak (ps_expr he (noLc_swaps hn _ _ _)) fun D σ H ⟨W, S, f, I, e1, h⟩ => by
  simp only [ex] at e1
  obtain ⟨⟨d, S1⟩, h1, e2⟩ := R.bind_eq_ok e1
  cases e2
  exact use_r I h1 fun W1 v H1 l J _ => h W1 σ H1 l J
theorem snd_ret (he : Snd T B X F call me e) : SndS T B X F call (.ret me) (.Return (some e) pos) := PSw.weak (ps_ret he) fun D σ H ⟨W, S, f, I, e1, h⟩ => by
  simp only [ex] at e1
  obtain ⟨⟨d, S1⟩, h1, e2⟩ := R.bind_eq_ok e1
  cases e2
  exact use_v I h1 fun W1 v H1 l J r => h W1 v σ H1 l J r
theorem snd_retN : SndS T B X F call .retN (.Return none pos) := PSw.weak ps_retN fun D σ H ⟨W, S, f, I, e1, h⟩ => by
  simp only [ex] at e1
  cases e1
  exact h W .non σ H (Le.refl W) I (by simp only [Rep])
theorem snd_if {xs ys : List Stmt} {ma' mb' : List MS} (hc : SndT T B X F call mc c) (ha : SndSs T B X F call ma' xs) (hb : SndSs T B X F call mb' ys) : SndS T B X F call (.ite mc ma' mb') (.If c xs ys pos) := PSw.weak (ps_if hc ha hb) fun D σ H ⟨W, S, f, I, e1, h⟩ => by
  simp only [ex] at e1
  obtain ⟨⟨q, S1⟩, h1, e2⟩ := R.bind_eq_ok e1
  refine ⟨W, S, q, S1, I, h1, fun W1 H1 l J => ?_⟩
  cases q with
  | true => exact ⟨W1, S1, f, J, e2, h.mono l⟩
  | false => exact ⟨W1, S1, f, J, e2, h.mono l⟩
/-- a while loop -/
theorem snd_while {n : Nat} {body : List MS} {bs : List Stmt} (hp : PassesOwn (model X.prog X.w) X.A X.env X.xe) (hc : SndT T B X F call mc c) (hb : SndSs T B X F call body bs) : SndS T B X F call (.while_ n mc body) (.While c bs [] pos) := PSw.weak (ps_while hp hc hb) fun D σ H ⟨W, S, f, I, e1, h⟩ => by
  simp only [ex] at e1
  refine ⟨fun k σ H => ∃ W' S', Le W W' ∧ Rel T B W' S' σ H ∧ whileL (fun S => evT F call mc S) (fun S => exs F call body S) k S' = .ok f, ⟨n, W, S, Le.refl W, I, e1⟩, ?_⟩
  rintro k σ1 H1 ⟨W1, S1, l1, I1, e2⟩
  cases k with
  | zero => cases e2
  | succ k =>
    simp only [whileL] at e2
    obtain ⟨⟨q, S2⟩, h2, e3⟩ := R.bind_eq_ok e2
    refine ⟨W1, S1, q, S2, I1, h2, fun W2 H2 l2 I2 => ?_⟩
    cases q with
    | false =>
      cases e3
      simp only [Bool.false_eq_true, if_false]
      exact h W2 σ1 H2 (l1.trans l2) I2
    | true =>
      obtain ⟨f1, h4, e4⟩ := R.bind_eq_ok e3
      simp only [if_true]
      refine ⟨fun σ' H' => ∃ W' S', Le W W' ∧ Rel T B W' S' σ' H' ∧ whileL (fun S => evT F call mc S) (fun S => exs F call body S) k S' = .ok f, fun σ' H' n' => ⟨k, Nat.lt_succ_self k, n'⟩, W2, S2, f1, I2, h4, ?_⟩
      have l3 := l1.trans l2
      cases f1 with
      | nx S3 => exact fun W3 σ3 H3 l J => ⟨W3, S3, l3.trans l, J, e4⟩
      | cnt S3 => exact fun W3 σ3 H3 l J => ⟨W3, S3, l3.trans l, J, e4⟩
      | brk S3 =>
        cases e4
        exact fun W3 σ3 H3 l J => h W3 σ3 H3 (l3.trans l) J
      | ret d S3 =>
        cases e4
        exact fun W3 v σ3 H3 l J r => h W3 v σ3 H3 (l3.trans l) J r
/-! ### targets -/
mutual
def tgVars : Tg → List Nat
  | .v i => [i]
  | .t gs => tgsVars gs
def tgsVars : List Tg → List Nat
  | [] => []
  | g :: gs => tgVars g ++ tgsVars gs
end
def TGx (T : Tb) (B : Bs) (g : Tg) : TG := fun v σ H Q => ∃ W S d L, Rel T B W S σ H ∧ Rep T W d v ∧ setTg g d S.L = some L ∧ ∀ σ', (∀ vs, (∀ i ∈ tgVars g, i ∈ vs) → wipe σ' vs = wipe σ vs) → Rel T B W ⟨L, S.C⟩ σ' H → Q σ' H
def TGsx (T : Tb) (B : Bs) (g : List Tg) : TGs := fun us σ H Q => ∃ W S ds L, Rel T B W S σ H ∧ Reps T W ds us ∧ setTgs g ds S.L = some L ∧ ∀ σ', (∀ vs, (∀ i ∈ tgsVars g, i ∈ vs) → wipe σ' vs = wipe σ vs) → Rel T B W ⟨L, S.C⟩ σ' H → Q σ' H
theorem PG.weak {X : Cx} {tg : Expr} {t t' : TG} (h : PG X tg t) (k : ∀ v σ H Q, t' v σ H Q → t v σ H Q) : PG X tg t' := ⟨fun pins s σ H v u Q I r q => h.run pins s σ H v u Q I r (k v σ H Q q)⟩
theorem PGs.weak {X : Cx} {tg : List Expr} {t t' : TGs} (h : PGs X tg t) (k : ∀ v σ H Q, t' v σ H Q → t v σ H Q) : PGs X tg t' := ⟨fun pins s σ H v u Q I r q => h.run pins s σ H v u Q I r (k v σ H Q q)⟩
theorem wipe_set {σ : L2.St} {i : Nat} {x : Option V} : ∀ {vs : List Nat}, i ∈ vs → wipe (σ.set i x) vs = wipe σ vs
  | [], h => by simp at h
  | v :: vs, h => by
    unfold wipe
    by_cases e : i ∈ vs
    · rw [wipe_set e]
    · have : i = v := by
        rcases List.mem_cons.mp h with z | z
        · exact z
        · exact absurd z e
      subst this
      have comm : ∀ (vs : List Nat), i ∉ vs → wipe (σ.set i x) vs = (wipe σ vs).set i x := fun vs => by
        induction vs with
        | nil => intro _; rfl
        | cons w ws ih =>
          intro hn
          unfold wipe
          rw [ih (fun z => hn (List.mem_cons_of_mem _ z)), List.set_comm _ _ (fun z => hn (by rw [z]; exact List.mem_cons_self ..))]
      rw [comm vs e, List.set_set]
theorem sndg_v {i : Nat} {x : PySem.Str} (hN : X.N.Nodup) (hi : X.N[i]? = some x) (hx : Loc X.env.scope x) (hf : X.fn x = true ∨ X.env.scope.names.lookup x = some .local) : PG X (.Name x pos) (TGx T B (.v i)) :=
  PG.weak (pg_name hN hi hx hf) fun v σ H Q ⟨W, S, d, L, I, r, e, k⟩ => by
    unfold setTg at e
    split at e
    · rename_i hl
      cases e
      exact k _ (fun vs hv => wipe_set (hv i (by simp [tgVars]))) (I.put hl (Rep.res r) fun j z => by
        subst z
        simp only [Rep] at r)
    · cases e
theorem sndgs_nil : PGs X [] (TGsx T B []) := PGs.weak pgs_nil fun v σ H Q ⟨W, S, ds, L, I, r, e, k⟩ => by
  cases ds with
  | nil =>
    cases e
    simp only [Reps] at r
    exact ⟨r, k σ (fun _ _ => rfl) I⟩
  | cons d ds => cases e
theorem sndgs_cons {tg : Expr} {tgs : List Expr} {g : Tg} {gs : List Tg} (h1 : PG X tg (TGx T B g)) (h2 : PGs X tgs (TGsx T B gs)) (hs : (assignEach (tg :: tgs) X.env).map (·.2) = assign tg X.env :: (assignEach tgs X.env).map (·.2)) : PGs X (tg :: tgs) (TGsx T B (g :: gs)) :=
  PGs.weak (pgs_cons h1 h2 hs) fun us σ H Q ⟨W, S, ds, L, I, r, e, k⟩ => by
    cases ds with
    | nil => cases e
    | cons d ds =>
      simp only [setTgs] at e
      obtain ⟨L1, e1, e2⟩ := Option.bind_eq_some_iff.mp e
      simp only [Reps] at r
      obtain ⟨v, rr, rfl, r1, r2⟩ := r
      refine ⟨v, rr, rfl, W, S, d, L1, I, r1, e1, fun σ1 w1 J => ?_⟩
      refine ⟨W, ⟨L1, S.C⟩, ds, L, J, r2, e2, fun σ2 w2 J2 => k σ2 (fun vs hv => ?_) J2⟩
      rw [w2 vs fun i hi => hv i (by simp [tgsVars, hi]), w1 vs fun i hi => hv i (by simp [tgsVars, hi])]
theorem setTgs_len : ∀ {gs : List Tg} {ds : List D} {L L' : List (Option D)}, setTgs gs ds L = some L' → ds.length = gs.length
  | [], [], _, _, _ => rfl
  | g :: gs, d :: ds, L, L', h => by
    simp only [setTgs] at h
    obtain ⟨L1, _, e2⟩ := Option.bind_eq_some_iff.mp h
    simp [setTgs_len e2]
  | [], _ :: _, _, _, h => by cases h
  | _ :: _, [], _, _, h => by cases h
theorem sndg_t {es : List Expr} {k : Nat} {gs : List Tg} (hK : X.K = T.K) (hc : X.calm = true) (h : PGs X es (TGsx T B gs)) (hn : (assignEach es X.env).length = gs.length) (hst : (assignEach es X.env).findIdx? (·.1) = none) : PG X (.Tuple es k pos) (TGx T B (.t gs)) :=
  PG.weak (pg_tup hc h hn hst) fun v σ H Q ⟨W, S, d, L, I, r, e, kk⟩ => by
    unfold setTg at e
    split at e
    · rename_i ds
      simp only [Rep] at r
      obtain ⟨p, us, rfl, g1, g2⟩ := r
      exact ⟨p, us, rfl, hK ▸ sqT_mono I.sub g1, by rw [← g2.length]; exact setTgs_len e, W, S, ds, L, I, g2, e, fun σ' w J => kk σ' (fun vs hv => w vs fun i hi => hv i (by simpa [tgVars] using hi)) J⟩
    · cases e
/-- for g in ..: -/
theorem snd_for {k : Nat} {its : List ME} {body : List MS} {bs : List Stmt} {tg iter : Expr} {g : Tg} (hp : PassesOwn (model X.prog X.w) X.A X.env X.xe) (hc : X.calm = true) (hi : SndI T B X F call tg k its iter) (hg : PG X tg (TGx T B g)) (hb : SndSs T B X F call body bs)
    (hs : ∀ x, foldedSetIterable iter X.env x = pure x) : SndS T B X F call (.for_ g k its body) (.For tg iter bs [] pos) :=
  PSw.weak (ps_for hp hc hi hg hb hs) fun D σ H ⟨W, S, f, I, e1, h⟩ => by
    simp only [ex] at e1
    obtain ⟨⟨ds0, S1⟩, h1, e2⟩ := R.bind_eq_ok e1
    obtain ⟨ds, h2, e3⟩ := R.ofO_bind e2
    refine ⟨W, S, ds0, S1, ds, I, h1, h2, fun W1 J H1 l1 I1 wk => ?_⟩
    refine ⟨fun i m σ H => m + i = ds.length ∧ ∃ W' S', Le W1 W' ∧ Rel T B W' S' σ H ∧ forL (fun S => exs F call body S) g (ds.drop i) S' = .ok f, ⟨ds.length, by simp, W1, S1, Le.refl W1, I1, by simpa using e3⟩, ?_⟩
    rintro i m σ1 H1 ⟨hm, W2, S2, l2, I2, e4⟩
    have s2 : Same W1.F H1 := l2.1.trans I2.sub
    by_cases hlt : i < ds.length
    · refine .inr ⟨wk.go i H1 s2 hlt, fun σ' H' => ∃ W' S', Le W1 W' ∧ Rel T B W' S' σ' H' ∧ forL (fun S => exs F call body S) g (ds.drop (i + 1)) S' = .ok f, fun σ' H' n' => ⟨m - 1, by omega, by omega, n'⟩, fun x H2 y => ?_⟩
      rw [List.drop_eq_getElem_cons hlt] at e4
      simp only [forL] at e4
      obtain ⟨L, h5, e5⟩ := R.ofO_bind e4
      obtain ⟨f1, h6, e6⟩ := R.bind_eq_ok e5
      obtain ⟨W3, st, rx⟩ := wk.yld i W2 H1 x H2 l2 I2.sub y _ (List.getElem?_eq_getElem hlt)
      refine ⟨W3, S2, ds[i], L, I2.step st, rx, h5, fun σ3 _ J3 => ⟨W3, ⟨L, S2.C⟩, f1, J3, h6, ?_⟩⟩
      have l3 := l2.trans st.toLe
      cases f1 with
      | nx S3 => exact fun W4 σ4 H4 l J => ⟨W4, S3, l3.trans l, J, e6⟩
      | cnt S3 => exact fun W4 σ4 H4 l J => ⟨W4, S3, l3.trans l, J, e6⟩
      | brk S3 =>
        cases e6
        exact fun W4 σ4 H4 l J => h W4 σ4 H4 (l1.trans (l3.trans l)) J
      | ret d S3 =>
        cases e6
        exact fun W4 v σ4 H4 l J r => h W4 v σ4 H4 (l1.trans (l3.trans l)) J r
    · refine .inl ⟨wk.stop i H1 s2 (by omega), ?_⟩
      rw [List.drop_eq_nil_of_le (by omega)] at e4
      cases e4
      exact h W2 σ1 H1 (l1.trans l2) I2
/-! ### assignments -/
theorem snd_set {i : Nat} {x : PySem.Str} {p : Pos} (hN : X.N.Nodup) (hi : X.N[i]? = some x) (hx : Loc X.env.scope x) (hf : X.fn x = true ∨ X.env.scope.names.lookup x = some .local) (he : Snd T B X F call me e) (hs : swapsWith e (some (.Name x p)) pos.line X.env = pure false) :
    SndS T B X F call (.asg (.v i) me) (.Assign [.Name x p] e pos) :=
  PSw.weak (ps_set hN hi hx he hs hf) fun D σ H ⟨W, S, f, I, e1, h⟩ => by
    simp only [ex] at e1
    obtain ⟨⟨d, S1⟩, h1, e2⟩ := R.bind_eq_ok e1
    unfold asgTg at e2
    simp only at e2
    split at e2
    · rename_i hl
      cases e2
      exact use_a I h1 fun W1 v H1 l J r hne => h W1 _ H1 l (J.put hl r hne)
    · cases e2
theorem swS_noLc {tg : List Expr} {e : Expr} (h : noLc e = true) (n : Nat) (env : Env) : swapsWithSole tg e n env = pure false := by
  unfold swapsWithSole
  split
  · exact noLc_swaps h _ _ _
  · rfl
/-- (a, b) = a tuple -/
theorem snd_setT {tg : Expr} {gs : List Tg} (he : Snd T B X F call me e) (hg : PG X tg (TGx T B (.t gs))) (hs : swapsWithSole [tg] e pos.line X.env = pure false) (hw : swappedStores [tg] e X.env = pure none) (h1 : (assignEach [tg] X.env).map (·.2) = [assign tg X.env]) :
    SndS T B X F call (.asg (.t gs) me) (.Assign [tg] e pos) :=
  PSw.weak (ps_asg he hg hs hw h1) fun D σ H ⟨W, S, f, I, e1, h⟩ => by
    simp only [ex] at e1
    obtain ⟨⟨d, S1⟩, h1, e2⟩ := R.bind_eq_ok e1
    unfold asgTg at e2
    simp only at e2
    obtain ⟨L, h3, e3⟩ := R.ofO_bind e2
    cases e3
    refine use_a I h1 fun W1 v H1 l J r hne => ?_
    obtain ⟨W2, l2, J2, _, r2⟩ := J.tmp r
    exact ⟨W2, S1, _, L, J2, r2 hne, h3, fun σ' _ K => h W2 σ' H1 (l.trans l2) K⟩
/-- x, y = a, b : stored from the right -/
theorem snd_par2 {i j : Nat} {x y : PySem.Str} {px py pt : Pos} {kt k2 pt2} (hc : X.calm = true) (hN : X.N.Nodup) (hi : X.N[i]? = some x) (hj : X.N[j]? = some y) (hij : i ≠ j)
    (hx : X.env.scope.names.lookup x = some .local) (hy : X.env.scope.names.lookup y = some .local) (ha : PA X [a, b] (TXs T (fun S => evas F call [ma, mb] S)))
    (hw : swappedStores [.Tuple [.Name x px, .Name y py] kt pt] (.Tuple [a, b] k2 pt2) X.env = pure (some [x, y])) :
    SndS T B X F call (.par [i, j] [ma, mb]) (.Assign [.Tuple [.Name x px, .Name y py] kt pt] (.Tuple [a, b] k2 pt2) pos) :=
  PSw.weak (ps_par hc hN hi hj hij hx hy ha hw (swS_noLc rfl _ _)) fun D σ H ⟨W, S, f, I, e1, h⟩ => by
    simp only [ex] at e1
    obtain ⟨⟨ds, S1⟩, h1, e2⟩ := R.bind_eq_ok e1
    simp only at e2
    split at e2
    · rename_i hl
      cases e2
      refine ⟨B, W, S, ds, S1, I, h1, fun W1 vs H1 l J r => ?_⟩
      have P := J.putMany (fun k hk => by simpa using (List.all_eq_true.mp hl.2) k hk) r hl.1
      match ds, vs, hl.1, r with
      | [d1, d2], vs, _, r =>
        obtain ⟨v1, r1, rfl, _, _, ⟨v2, r2, rfl, _, _, e, _⟩, _⟩ := r
        have e' : r2 = [] := e
        subst e'
        exact ⟨v1, v2, rfl, h W1 _ H1 l P⟩
    · cases e2
theorem snd_par3 {i j l : Nat} {x y z : PySem.Str} {px py pz pt : Pos} {kt k2 pt2} (hc : X.calm = true) (hN : X.N.Nodup) (hi : X.N[i]? = some x) (hj : X.N[j]? = some y) (hl : X.N[l]? = some z) (hij : i ≠ j) (hil : i ≠ l) (hjl : j ≠ l)
    (hx : X.env.scope.names.lookup x = some .local) (hy : X.env.scope.names.lookup y = some .local) (hz : X.env.scope.names.lookup z = some .local) (ha : PA X [a, b, c] (TXs T (fun S => evas F call [ma, mb, mc] S)))
    (hw : swappedStores [.Tuple [.Name x px, .Name y py, .Name z pz] kt pt] (.Tuple [a, b, c] k2 pt2) X.env = pure (some [x, y, z])) :
    SndS T B X F call (.par [i, j, l] [ma, mb, mc]) (.Assign [.Tuple [.Name x px, .Name y py, .Name z pz] kt pt] (.Tuple [a, b, c] k2 pt2) pos) :=
  PSw.weak (ps_par3 hc hN hi hj hl hij hil hjl hx hy hz ha hw (swS_noLc rfl _ _)) fun D σ H ⟨W, S, f, I, e1, h⟩ => by
    simp only [ex] at e1
    obtain ⟨⟨ds, S1⟩, h1, e2⟩ := R.bind_eq_ok e1
    simp only at e2
    split at e2
    · rename_i hl
      cases e2
      refine ⟨B, W, S, ds, S1, I, h1, fun W1 vs H1 l J r => ?_⟩
      have P := J.putMany (fun k hk => by simpa using (List.all_eq_true.mp hl.2) k hk) r hl.1
      match ds, vs, hl.1, r with
      | [d1, d2, d3], vs, _, r =>
        obtain ⟨v1, r1, rfl, _, _, ⟨v2, r2, rfl, _, _, ⟨v3, r3, rfl, _, _, e, _⟩, _⟩, _⟩ := r
        have e' : r3 = [] := e
        subst e'
        exact ⟨v1, v2, v3, rfl, h W1 _ H1 l P⟩
    · cases e2
/-- .. by a real tuple, from the left -/
def TGp (is : List Nat) : TGs := fun us σ H Q => us.length = is.length ∧ Q (setV is us σ) H
theorem pgp_nil : PGs X [] (TGp []) := PGs.weak pgs_nil fun v σ H Q ⟨hl, k⟩ => by
  cases v with
  | nil => exact ⟨rfl, k⟩
  | cons => simp at hl
theorem pgp_cons {i : Nat} {is : List Nat} {x : PySem.Str} {p : Pos} {tgs : List Expr} (hN : X.N.Nodup) (hi : X.N[i]? = some x) (hx : Loc X.env.scope x) (hf : X.fn x = true ∨ X.env.scope.names.lookup x = some .local) (h2 : PGs X tgs (TGp is)) : PGs X (.Name x p :: tgs) (TGp (i :: is)) :=
  PGs.weak (pgs_cons (pg_name hN hi hx hf) h2 rfl) fun us σ H Q ⟨hl, k⟩ => by
    cases us with
    | nil => simp at hl
    | cons v us => exact ⟨v, us, rfl, by simpa using hl, k⟩
theorem Ress.grow {W : Wd} {S : PS} {σ : L2.St} {H H' : Hp} (s : Same H H') : ∀ {ds : List D} {vs : List V}, Ress T B W S σ H ds vs → Ress T B W S σ H' ds vs
  | [], _, h => h
  | d :: ds, _, h => by
    obtain ⟨v, r, rfl, h1, h0, h2, h3⟩ := h
    refine ⟨v, r, rfl, ?_, h0, Ress.grow s h2, h3⟩
    cases d with
    | nl xs =>
      obtain ⟨a, vs, e, g1, g2, g3, g4, g5, g6⟩ := h1
      exact ⟨a, vs, e, s _ _ g1, g2, g3, g4, g5, g6⟩
    | _ => exact h1
theorem Ress.len {W : Wd} {S : PS} {σ : L2.St} {H : Hp} : ∀ {ds : List D} {vs : List V}, Ress T B W S σ H ds vs → ds.length = vs.length
  | [], _, h => by
    have h' : _ = [] := h
    subst h'
    rfl
  | d :: ds, _, h => by
    obtain ⟨v, r, rfl, _, _, h2, _⟩ := h
    simp [Ress.len h2]
theorem snd_parT {is : List Nat} {ms' : List ME} {tgs es : List Expr} {pt : Pos} {kt k2 pt2} (hK : X.K = T.K) (hc : X.calm = true) (hg : PGs X tgs (TGp is)) (ha : PA X es (TXs T (fun S => evas F call ms' S))) (hl : is.length < LIM)
    (hn : (assignEach tgs X.env).length = is.length) (hst : (assignEach tgs X.env).findIdx? (·.1) = none) (hw : swappedStores [.Tuple tgs kt pt] (.Tuple es k2 pt2) X.env = pure none) :
    SndS T B X F call (.par is ms') (.Assign [.Tuple tgs kt pt] (.Tuple es k2 pt2) pos) :=
  PSw.weak (ps_asg (pe_tup ha) (pg_tup hc hg hn hst) (swS_noLc rfl _ _) hw rfl) fun D σ H ⟨W, S, f, I, e1, h⟩ => by
    simp only [ex] at e1
    obtain ⟨⟨ds, S1⟩, h1, e2⟩ := R.bind_eq_ok e1
    simp only at e2
    split at e2
    · rename_i hl2
      cases e2
      refine ⟨B, W, S, ds, S1, I, h1, fun W1 vs H1 l J r => ?_⟩
      have hlen : vs.length = is.length := by rw [← r.len]; exact hl2.1.symm
      refine ⟨by rw [hlen]; exact Nat.le_of_lt (Nat.lt_trans hl lim_line), fun p hp => ?_⟩
      have s := same_upd (o := .tup vs) hp
      have P := (J.grow s).putMany (fun k hk => by simpa using (List.all_eq_true.mp hl2.2) k hk) (r.grow s) hl2.1
      exact ⟨p, vs, rfl, SqT.of upd_same, hlen, hlen, h W1 _ _ l P⟩
    · cases e2
/-- x += e, x -= e of ints -/
theorem snd_aug {i : Nat} {x : PySem.Str} {p : Pos} {op : Op} {pop : Operator} (hop : (op = .add ∧ pop = .Add) ∨ (op = .sub ∧ pop = .Sub)) (hN : X.N.Nodup) (hi : X.N[i]? = some x) (hx : Loc X.env.scope x) (hf : X.fn x = true ∨ X.env.scope.names.lookup x = some .local) (he : Snd T B X F call me e) :
    SndS T B X F call (.aug i op me) (.AugAssign (.Name x p) pop e pos) := by
  have core : ∀ {g : Int → Int → Int}, PIp X pop (ipI g) → (∀ a b d, binD op (.int a) (.int b) = some d → d = .int (g a b)) → SndS T B X F call (.aug i op me) (.AugAssign (.Name x p) pop e pos) := fun {g} hp hd =>
    PSw.weak (ps_aug hN hi hx he hp hf) fun D σ H ⟨W, S, f, I, e1, h⟩ => by
      simp only [ex] at e1
      obtain ⟨x0, h0, e1⟩ := R.ofO_bind e1
      obtain ⟨⟨d1, S1⟩, h1, e1⟩ := R.bind_eq_ok e1
      replace e1 := ofO_eq_ok e1
      obtain ⟨y, h2, e1⟩ := Option.bind_eq_some_iff.mp e1
      simp only at e1
      split at e1
      · split at e1
        · rename_i hc
          obtain ⟨d2, h3, e1⟩ := Option.map_eq_some_iff.mp e1
          cases e1
          have := hd _ _ _ h3
          subst this
          obtain ⟨v, hv, ok⟩ := I.slots i _ h0
          have ok' : Rep T W (.int _) v := ok
          simp only [Rep] at ok'
          refine ⟨v, hv, use_b I h1 fun W1 u H1 l J b1 => ?_⟩
          refine ⟨_, _, ok', vw_int (J.view b1 h2), ?_⟩
          simp only [Bool.and_eq_true, decide_eq_true_eq] at hc
          have P := fun a b : Int => J.put (i := i) (d := .int (g a b)) (v := .int (g a b)) hc.1 (Rep.res (by simp only [Rep])) (by intro _ z; cases z)
          exact h W1 _ H1 l (P _ _)
        · cases e1
      · cases e1
  rcases hop with ⟨rfl, rfl⟩ | ⟨rfl, rfl⟩
  · exact core ip_add fun a b d h => by
      simp only [binD, addD] at h
      cases h
      rfl
  · exact core ip_sub fun a b d h => by
      simp only [binD, subD] at h
      cases h
      rfl
/-- o[i] = e of a list -/
theorem snd_setI {p : Pos} (ho : Snd T B X F call mo o) (ha : Snd T B X F call ma a) (he : Snd T B X F call me e) (hn : noLc e = true) (hw : swappedStores [.Subscript o a p] e X.env = pure none) (pa : plE a = true) :
    SndS T B X F call (.setI mo ma me) (.Assign [.Subscript o a p] e pos) :=
  PSw.weak (ps_asg he (pg_sub ho ha set_list (by
    intro v
    cases a <;> first | cases pa; done | rfl)) (swS_noLc hn _ _) hw rfl) fun D σ H ⟨W, S, f, I, e1, h⟩ => by
    simp only [ex] at e1
    obtain ⟨⟨d1, S1⟩, h1, e1⟩ := R.bind_eq_ok e1
    obtain ⟨⟨d2, S2⟩, h2, e1⟩ := R.bind_eq_ok e1
    obtain ⟨⟨d3, S3⟩, h3, e1⟩ := R.bind_eq_ok e1
    replace e1 := ofO_eq_ok e1
    obtain ⟨S4, h4, e1⟩ := Option.map_eq_some_iff.mp e1
    cases e1
    unfold setAt at h4
    split at h4
    · rename_i k hk
      simp only at hk
      subst hk
      refine use_v I h1 fun W1 v1 H1 l1 I1 r1 => ?_
      have hd2 : ∀ ys, d2 ≠ .nl ys := fun ys z => by
        subst z
        cases h4
      refine use_r I1 h2 fun W2 v2 H2 l2 I2 r2 => ?_
      have b2 := r2.bo hd2
      refine use_b I2 h3 fun W3 v3 H3 l3 I3 b3 => ?_
      have hv3 : v3 = .int k := by simpa only [Bo, Rep] using b3
      subst hv3
      obtain ⟨p2, xs, ys, us, rfl, q1, q2, q3, q4, q5⟩ := I3.chg (b2.mono l3) h4
      obtain ⟨j, hj, rfl⟩ := Option.map_eq_some_iff.mp q2
      refine ⟨p2, us, k, j, rfl, rfl, q3, ?_, ?_⟩
      · rw [← q4.length]
        exact hj
      · have r1' := Rep.mono (l2.trans l3) _ r1
        exact h W3 σ _ ((l1.trans l2).trans l3) (q5 _ (Reps.set r1' j q4))
    · cases h4
end
end PM
end

section
set_option Elab.async false
set_option linter.all false
set_option maxRecDepth 100000
/-! PmL: comprehensions. -/
namespace PM
open PySem L2 PyProof.Rows
def TGE (T : Tb) (g : Tg) : TG := fun v σ H Q => ∃ B, TGx T B g v σ H Q
def TBE (T : Tb) (m : PS → R (Bool × PS)) : TT := fun σ H Q => ∃ B, TB T B m σ H Q
def TME (T : Tb) (m : PS → R (D × PS)) : TE := fun σ H Q => ∃ B, TM T B m σ H Q
theorem pge {X : Cx} {T : Tb} {g : Tg} {e : Expr} (h : ∀ B, PG X e (TGx T B g)) : PG X e (TGE T g) := ⟨fun pins s σ H v u Q I r ⟨B, q⟩ => (h B).run pins s σ H v u Q I r q⟩
theorem pme {X : Cx} {T : Tb} {m : PS → R (D × PS)} {e : Expr} (h : ∀ B, PE X e (TM T B m)) : PE X e (TME T m) := ⟨fun pins s σ H Q I ⟨B, q⟩ => (h B).run pins s σ H Q I q⟩
theorem ptse {X : Cx} {T : Tb} {m : PS → R (Bool × PS)} {es : List Expr} (h : ∀ B, PTs X es (TB T B m)) : PTs X es (TBE T m) := ⟨fun pins s σ H Q I ⟨B, q⟩ => (h B).run pins s σ H Q I q⟩
theorem PTs.weak {X : Cx} {es : List Expr} {t t' : TT} (h : PTs X es t) (k : ∀ σ H Q, t' σ H Q → t σ H Q) : PTs X es t' := ⟨fun pins s σ H Q I q => h.run pins s σ H Q I (k σ H Q q)⟩
section
variable {T : Tb} {B : Bs} {X : Cx} {F : Fields} {call : CallF}
theorem sndts_nil : PTs X [] (TB T B (fun S => evc F call [] S)) := PTs.weak pts_nil fun σ H Q ⟨W, S, b, S', I, e, k⟩ => by
  cases e
  exact k W H (Le.refl W) I
theorem sndts_one {c : Expr} {mc : ME} (h : SndT T B X F call mc c) : PTs X [c] (TB T B (fun S => evc F call [mc] S)) := PTs.weak (pts_one h) fun σ H Q q => q
section
variable {W W1 W' : Wd} {S S1 S' : PS} {σ σ' : L2.St} {H H1 H' : Hp} {a0 : Addr} {o : HO}
/-- an object that no one knows changes -/
theorem Rel.free (I : Rel T B W S σ H) (h2 : W.F a0 = none) (h3 : a0 ∉ W.ad) (h4 : B.H a0 = none) (h5 : ∀ i, ¬ Own S.L σ i a0) : Rel T B W S σ (upd H a0 o) where
  len := I.len
  sub := fun b u e => by
    rw [upd_ne (ne_of_none e h2)]
    exact I.sub b u e
  slots := fun i d hs => by
    obtain ⟨v, e1, ok⟩ := I.slots i d hs
    refine ⟨v, e1, ?_⟩
    cases d with
    | nl xs =>
      obtain ⟨a, vs, rfl, g1, g2, g3⟩ := ok
      have : a ≠ a0 := fun z => by
        subst z
        exact h5 i ⟨⟨xs, hs⟩, e1⟩
      exact ⟨a, vs, rfl, by rw [upd_ne this]; exact g1, g2, g3⟩
    | _ => exact ok
  excl := I.excl
  ownc := I.ownc
  adl := I.adl
  adn := I.adn
  cells := fun n a c h1 hc => by
    obtain ⟨k1, ok⟩ := I.cells n a c h1 hc
    refine ⟨k1, ?_⟩
    have : a ≠ a0 := fun z => by
      subst z
      exact h3 (List.mem_of_getElem? h1)
    cases c with
    | nl zs =>
      obtain ⟨us, k2, k3⟩ := ok
      exact ⟨us, by rw [upd_ne this]; exact k2, k3⟩
    | ins c ks ds =>
      obtain ⟨dx, fs, us, k2, k3⟩ := ok
      exact ⟨dx, fs, us, by rw [upd_ne this]; exact k2, k3⟩
    | _ => exact ok
  fr1 := fun a o' h hn => by
    have : a ≠ a0 := fun z => by
      subst z
      rw [h4] at h
      cases h
    rw [upd_ne this]
    exact I.fr1 a o' h hn
  fr2 := I.fr2
  le := I.le
  newc := I.newc
theorem Rel.new_ok (I : Rel T B W S σ H) (h : H a0 = none) : W.F a0 = none ∧ a0 ∉ W.ad ∧ B.H a0 = none ∧ ∀ i, ¬ Own S.L σ i a0 := by
  have h1 : a0 ∉ W.ad := fun z => I.cell_some z h
  refine ⟨?_, h1, ?_, fun i hi => ?_⟩
  · cases e : W.F a0 with
    | none => rfl
    | some o =>
      rw [I.sub _ _ e] at h
      cases h
  · cases e : B.H a0 with
    | none => rfl
    | some o =>
      have := I.fr1 a0 o e (I.notB h1)
      rw [h] at this
      cases this
  · obtain ⟨vs, e, _⟩ := I.own_some hi
    rw [h] at e
    cases e
theorem restL_length (L0 : List (Option D)) : ∀ (own : List Nat) (L : List (Option D)), (restL L0 own L).length = L.length
  | [], L => rfl
  | v :: vs, L => by
    unfold restL
    rw [List.length_set, restL_length L0 vs]
theorem restL_slot {L0 L : List (Option D)} {i : Nat} {d : D} : ∀ {own : List Nat}, slot (restL L0 own L) i = some d → (i ∈ own ∧ slot L0 i = some d) ∨ (i ∉ own ∧ slot L i = some d)
  | [], h => .inr ⟨by simp, h⟩
  | v :: vs, h => by
    unfold restL at h
    by_cases hv : v < (restL L0 vs L).length
    · rw [slot_set hv] at h
      split at h
      · rename_i e
        subst e
        refine .inl ⟨List.mem_cons_self, ?_⟩
        unfold slot
        rw [List.getD_eq_getElem?_getD] at h
        cases e : L0[v]? with
        | none => rw [e] at h; cases h
        | some z =>
          rw [e] at h
          have h' : z = some d := h
          rw [h']
      · rename_i hne
        rcases restL_slot h with ⟨g1, g2⟩ | ⟨g1, g2⟩
        · exact .inl ⟨List.mem_cons_of_mem _ g1, g2⟩
        · exact .inr ⟨fun z => by
            rcases List.mem_cons.mp z with z | z
            · exact hne z.symm
            · exact g1 z, g2⟩
    · rw [List.set_eq_of_length_le (by omega)] at h
      have hi : i < (restL L0 vs L).length := slot_lt h
      rcases restL_slot h with ⟨g1, g2⟩ | ⟨g1, g2⟩
      · exact .inl ⟨List.mem_cons_of_mem _ g1, g2⟩
      · exact .inr ⟨fun z => by
          rcases List.mem_cons.mp z with z | z
          · omega
          · exact g1 z, g2⟩
theorem noOwn_of {L : List (Option D)} {own : List Nat} (h : noOwn L own = true) {i : Nat} (hi : i ∈ own) {d : D} (hd : slot L i = some d) : isOwn d = false := by
  have := List.all_eq_true.mp h i hi
  rw [hd] at this
  simpa using this
theorem Rel.rest {own : List Nat} (I1 : Rel T B W1 S1 σ H1) (hn : noOwn S1.L own = true) (J : Rel T B W' ⟨wipeL S'.L own, S'.C⟩ (L2.wipe σ own) H') (l : Le W1 W') (hl : S'.L.length = S1.L.length) :
    Rel T B W' ⟨restL S1.L own S'.L, S'.C⟩ σ H' ∧ ∀ i a, Own (restL S1.L own S'.L) σ i a → Own (wipeL S'.L own) (L2.wipe σ own) i a := by
  have wslot : ∀ {i d}, i ∉ own → slot S'.L i = some d → slot (wipeL S'.L own) i = some d := fun {i d} hi h => by
    unfold slot at h ⊢
    have : (wipeL S'.L own)[i]? = S'.L[i]? := by
      have gen : ∀ own : List Nat, i ∉ own → (wipeL S'.L own)[i]? = S'.L[i]? := fun own => by
        induction own with
        | nil => intro _; rfl
        | cons v vs ih =>
          intro hn
          unfold wipeL
          rw [List.getElem?_set_ne (fun e => hn (by rw [e]; exact List.mem_cons_self ..)), ih fun z => hn (List.mem_cons_of_mem _ z)]
      exact gen own hi
    rw [this]
    exact h
  have ownB : ∀ i a, Own (restL S1.L own S'.L) σ i a → Own (wipeL S'.L own) (L2.wipe σ own) i a := fun i a ⟨⟨xs, h1⟩, h2⟩ => by
    rcases restL_slot h1 with ⟨g1, g2⟩ | ⟨g1, g2⟩
    · have := noOwn_of hn g1 g2
      cases this
    · exact ⟨⟨xs, wslot g1 g2⟩, by rw [wipe_out2 g1]; exact h2⟩
  refine ⟨⟨?_, J.sub, fun i d hs => ?_, fun i j a hij o1 o2 => J.excl i j a hij (ownB i a o1) (ownB j a o2), fun i a o1 => J.ownc i a (ownB i a o1), J.adl, J.adn, J.cells, J.fr1, J.fr2, J.le, J.newc⟩, ownB⟩
  · show (restL S1.L own S'.L).length = σ.length
    rw [restL_length, hl]
    exact I1.len
  · rcases restL_slot hs with ⟨g1, g2⟩ | ⟨g1, g2⟩
    · obtain ⟨v, e1, ok⟩ := I1.slots i d g2
      refine ⟨v, e1, ?_⟩
      have ho := noOwn_of hn g1 g2
      have r : Rep T W' d v := by
        cases d <;> first | exact Rep.mono l _ ok | cases ho
      cases d <;> first | exact r | cases ho
    · obtain ⟨v, e1, ok⟩ := J.slots i d (wslot g1 g2)
      exact ⟨v, by rw [← wipe_out2 g1]; exact e1, ok⟩
theorem wipe_idem {σ : L2.St} (vs : List Nat) : wipe (wipe σ vs) vs = wipe σ vs := by
  have gen : ∀ us : List Nat, (∀ i ∈ us, i ∈ vs) → wipe (wipe σ us) vs = wipe σ vs := fun us => by
    induction us with
    | nil => intro _; rfl
    | cons u us ih =>
      intro h
      show wipe ((wipe σ us).set u none) vs = wipe σ vs
      rw [wipe_set (h u List.mem_cons_self), ih fun i hi => h i (List.mem_cons_of_mem _ hi)]
  exact gen vs fun _ h => h
theorem setTg_len : ∀ (g : Tg) {d : D} {L L' : List (Option D)}, setTg g d L = some L' → L'.length = L.length := by
  intro g
  refine Tg.rec (motive_1 := fun g => ∀ {d : D} {L L' : List (Option D)}, setTg g d L = some L' → L'.length = L.length) (motive_2 := fun gs => ∀ {ds : List D} {L L' : List (Option D)}, setTgs gs ds L = some L' → L'.length = L.length) ?_ ?_ ?_ ?_ g
  · intro i d L L' h
    unfold setTg at h
    split at h
    · cases h
      simp
    · cases h
  · intro gs ih d L L' h
    unfold setTg at h
    split at h
    · exact ih h
    · cases h
  · intro ds L L' h
    cases ds with
    | nil => cases h; rfl
    | cons => cases h
  · intro g gs ih1 ih2 ds L L' h
    cases ds with
    | nil => cases h
    | cons d ds =>
      simp only [setTgs] at h
      obtain ⟨L1, e1, e2⟩ := Option.bind_eq_some_iff.mp h
      rw [ih2 e2, ih1 e1]
end
/-- [elt for tg in iter if ..] -/
theorem lc_read {k : Nat} {its cond : List ME} {elt : ME} {g : Tg} {own : List Nat} (hown : ∀ i ∈ tgVars g, i ∈ own) {σ : L2.St} {H : Hp} {Q : VK} {W : Wd} {S S' : PS} {d : D} (I : Rel T B W S σ H) (e1 : ev F call (.lc own g k its cond elt) S = .ok (d, S'))
    (kq : ∀ W' v H', Le W W' → Rel T B W' S' σ H' → Res T B W' S' σ H' d v → Q v H') :
    tLc (TIx T B (fun S => evvs F call its S) k) (TGE T g) (TBE T (fun S => evc F call cond S)) (TME T (fun S => ev F call elt S)) own σ H Q := by
  simp only [ev] at e1
  obtain ⟨⟨ds0, S1⟩, h1, e1⟩ := R.bind_eq_ok e1
  obtain ⟨ds, h2, e1⟩ := R.ofO_bind e1
  simp only at e1
  split at e1
  · rename_i hno
    obtain ⟨⟨res, Sf⟩, h3, e1⟩ := R.bind_eq_ok e1
    cases e1
    refine ⟨W, S, ds0, S1, ds, I, h1, h2, fun W1 J H1 l1 I1 wk Da hDa => ?_⟩
    obtain ⟨f1, f2, f3, f4⟩ := I1.new_ok hDa
    refine ⟨fun i m H => m + i = ds.length ∧ ∃ W' S' accD accV, Le W1 W' ∧ Rel T (B.ext Da (.lst accV)) W' ⟨wipeL S'.L own, S'.C⟩ (wipe σ own) H ∧ Reps T W' accD accV ∧ S'.L.length = S1.L.length ∧
      lcL own g (fun S => evc F call cond S) (fun S => vw (ev F call elt S)) (ds.drop i) accD S' = .ok (res, Sf), ⟨ds.length, by simp, W1, ⟨wipeL S1.L own, S1.C⟩, [], [], Le.refl W1, ?_, Reps.nil, wipeL_length _ _, by simpa using h3⟩, ?_⟩
    · have J1 := (I1.grow (same_upd (o := .lst []) hDa)).wipe own
      have J2 : Rel T B W1 ⟨wipeL (wipeL S1.L own) own, S1.C⟩ (wipe σ own) (upd H1 Da (.lst [])) := J1.weak (by rw [wipeL_length]; exact J1.len) fun i d h => ⟨(wipeL_slot h).1, rfl⟩
      exact J2.ext upd_same f1 f2 fun i ⟨⟨xs, q1⟩, q2⟩ => f4 i ⟨⟨xs, (wipeL_slot (wipeL_slot q1).1).1⟩, by rw [wipe_out2 (wipeL_slot q1).2] at q2; exact q2⟩
    · rintro i m H2 ⟨hm, W2, S2, accD, accV, l2, I2, rA, hL, e4⟩
      obtain ⟨I2', g1, g2, g3, g4⟩ := I2.unext f3 (I1.notBF f1) (I1.notB f2)
      have s2 : Same W1.F H2 := l2.1.trans I2.sub
      by_cases hlt : i < ds.length
      · refine .inr ⟨wk.go i H2 s2 hlt, fun H' => ∃ W' S' accD accV, Le W1 W' ∧ Rel T (B.ext Da (.lst accV)) W' ⟨wipeL S'.L own, S'.C⟩ (wipe σ own) H' ∧ Reps T W' accD accV ∧ S'.L.length = S1.L.length ∧
          lcL own g (fun S => evc F call cond S) (fun S => vw (ev F call elt S)) (ds.drop (i + 1)) accD S' = .ok (res, Sf), fun H' n' => ⟨m - 1, by omega, by omega, n'⟩, fun x H3 y => ?_⟩
        rw [List.drop_eq_getElem_cons hlt] at e4
        simp only [lcL] at e4
        obtain ⟨L, h5, e5⟩ := R.ofO_bind e4
        obtain ⟨⟨b, S3⟩, h6, e6⟩ := R.bind_eq_ok e5
        obtain ⟨W3, st, rx⟩ := wk.yld i W2 H2 x H3 l2 I2.sub y _ (List.getElem?_eq_getElem hlt)
        have hlL := setTg_len g h5
        refine ⟨B.ext Da (.lst accV), W3, ⟨wipeL S2.L own, S2.C⟩, ds[i], L, I2.step st, rx, h5, fun σ3 hw J3 => ⟨?_, ?_⟩⟩
        · rw [hw own hown, wipe_idem]
        · refine ⟨B.ext Da (.lst accV), W3, ⟨L, S2.C⟩, b, S3, J3, h6, fun W4 H4 l4 J4 => ?_⟩
          have lw := l2.trans (st.toLe.trans l4)
          have hw3 : wipe σ3 own = wipe σ own := by rw [hw own hown, wipe_idem]
          have hlen3 : S3.L.length = S1.L.length := by
            rw [J4.len, ← J3.len, hlL, wipeL_length, hL]
          cases b with
          | false =>
            simp only [Bool.false_eq_true, if_false] at e6 ⊢
            refine ⟨W4, S3, accD, accV, lw, ?_, Reps.mono (st.toLe.trans l4) _ rA, hlen3, e6⟩
            have := J4.wipe own
            rw [hw3] at this
            exact this
          | true =>
            simp only [if_true] at e6 ⊢
            obtain ⟨⟨dy, S5⟩, h7, e7⟩ := R.bind_eq_ok e6
            simp only at e7
            split at e7
            · rename_i hlim
              refine ⟨B.ext Da (.lst accV), use_v J4 h7 fun W5 yv H5 l5 J5 ry => ?_⟩
              obtain ⟨J6, q1, q2, q3, q4⟩ := J5.unext f3 (I1.notBF f1) (I1.notB f2)
              refine ⟨accV, q1, by rw [← rA.length]; exact Nat.lt_trans hlim lim_line, W5, S5, accD ++ [dy], accV ++ [yv], lw.trans l5, ?_, (Reps.mono ((st.toLe.trans l4).trans l5) _ rA).append (Reps.cons ry Reps.nil), ?_, e7⟩
              · have K := (J6.free (o := .lst (accV ++ [yv])) q2 q3 f3 q4).wipe own
                rw [hw3] at K
                exact K.ext upd_same q2 q3 fun j ⟨⟨xs, z1⟩, z2⟩ => q4 j ⟨⟨xs, (wipeL_slot z1).1⟩, by
                  rw [← hw3, wipe_out2 (wipeL_slot z1).2] at z2
                  exact z2⟩
              · rw [J5.len, ← J4.len, hlen3]
            · cases e7
      · refine .inl ⟨wk.stop i H2 s2 (by omega), ?_⟩
        rw [List.drop_eq_nil_of_le (by omega)] at e4
        cases e4
        obtain ⟨K, ob⟩ := I1.rest hno I2' l2 hL
        exact kq W2 (.ref Da) H2 (l1.trans l2) K ⟨Da, accV, rfl, g1, g2, rA, g3, f3, fun j hj => g4 j (ob j _ hj)⟩
  · cases e1
theorem snd_lc {k : Nat} {its cond : List ME} {elt : ME} {g : Tg} {own : List (PySem.Str × Nat)} {ee tg iter : Expr} {ifs : List Expr} {scope : Scope} {pos : Pos} (hc : X.calm = true) (hN : X.N.Nodup) (ok : BlkOk X.N X.env.scope scope own) (hown : ∀ i ∈ tgVars g, i ∈ own.map (·.2))
    (hi : SndI T B X F call tg k its iter)
    (hg : ∀ (s : Shared) (H : Hp) (C : Addr) (cl : List (PySem.Str × Addr)) (fp : List Addr) B, PG (X.blk s H scope (compEnvC scope cl C X.env) fp) tg (TGx T B g))
    (ht : ∀ (s : Shared) (H : Hp) (C : Addr) (cl : List (PySem.Str × Addr)) (fp : List Addr) B, PTs (X.blk s H scope (compEnvC scope cl C X.env) fp) ifs (TB T B (fun S => evc F call cond S)))
    (he : ∀ (s : Shared) (H : Hp) (C : Addr) (cl : List (PySem.Str × Addr)) (fp : List Addr) B, Snd T B (X.blk s H scope (compEnvC scope cl C X.env) fp) F call elt ee) (hs : ∀ x, foldedSetIterable iter X.env x = pure x) :
    Snd T B X F call (.lc (own.map (·.2)) g k its cond elt) (.ListComp ee [⟨tg, iter, ifs, 0⟩] scope pos) :=
  PE.weak (pe_lc hc hN hi ok (fun s H C cl fp => pge fun B => hg s H C cl fp B) (fun s H C cl fp => ptse fun B => ht s H C cl fp B) (fun s H C cl fp => pme fun B => he s H C cl fp B) hs) fun σ H Q ⟨W, S, d, S', I, e1, kq⟩ =>
    lc_read hown I e1 kq
/-- name = [..] on one line -/
theorem snd_setLc {k : Nat} {its cond : List ME} {elt : ME} {g : Tg} {own : List (PySem.Str × Nat)} {ee tg iter : Expr} {ifs : List Expr} {scope : Scope} {pos spos py : Pos} {i : Nat} {y : PySem.Str} (hc : X.calm = true) (hN : X.N.Nodup) (hy : X.N[i]? = some y) (hyl : X.env.scope.names.lookup y = some .local)
    (hsw : swapsWith (.ListComp ee [⟨tg, iter, ifs, 0⟩] scope pos) (some (.Name y py)) spos.line X.env = pure true) (ok : BlkOk X.N X.env.scope scope own) (hown : ∀ i ∈ tgVars g, i ∈ own.map (·.2))
    (hi : SndI T B X F call tg k its iter)
    (hg : ∀ (s : Shared) (H : Hp) (C : Addr) (cl : List (PySem.Str × Addr)) (fp : List Addr) B, PG (X.blk s H scope (compEnvC scope cl C X.env) fp) tg (TGx T B g))
    (ht : ∀ (s : Shared) (H : Hp) (C : Addr) (cl : List (PySem.Str × Addr)) (fp : List Addr) B, PTs (X.blk s H scope (compEnvC scope cl C X.env) fp) ifs (TB T B (fun S => evc F call cond S)))
    (he : ∀ (s : Shared) (H : Hp) (C : Addr) (cl : List (PySem.Str × Addr)) (fp : List Addr) B, Snd T B (X.blk s H scope (compEnvC scope cl C X.env) fp) F call elt ee) (hs : ∀ x, foldedSetIterable iter X.env x = pure x) :
    SndS T B X F call (.asg (.v i) (.lc (own.map (·.2)) g k its cond elt)) (.Assign [.Name y py] (.ListComp ee [⟨tg, iter, ifs, 0⟩] scope pos) spos) :=
  PSw.weak (ps_setLc hc hN hy hyl hsw hi ok (fun s H C cl fp => pge fun B => hg s H C cl fp B) (fun s H C cl fp => ptse fun B => ht s H C cl fp B) (fun s H C cl fp => pme fun B => he s H C cl fp B) hs) fun D σ H ⟨W, S, f, I, e1, h⟩ => by
    simp only [ex] at e1
    obtain ⟨⟨d, S1⟩, h1, e2⟩ := R.bind_eq_ok e1
    obtain ⟨⟨d0, S0⟩, h3, h4⟩ := R.bind_eq_ok h1
    have hd : ∃ xs, d0 = .nl xs := by
      simp only [ev] at h3
      obtain ⟨_, _, e3⟩ := R.bind_eq_ok h3
      obtain ⟨_, _, e3⟩ := R.bind_eq_ok e3
      split at e3
      · obtain ⟨_, _, e4⟩ := R.bind_eq_ok e3
        cases e4
        exact ⟨_, rfl⟩
      · cases e3
    obtain ⟨xs, rfl⟩ := hd
    cases h4
    unfold asgTg at e2
    simp only at e2
    split at e2
    · rename_i hl
      cases e2
      exact lc_read hown I h3 fun W1 v H1 l J r => h W1 _ H1 l (J.put hl r (by intro _ z; cases z))
    · cases e2
end
end PM
end

section
set_option Elab.async false
set_option linter.all false
set_option maxRecDepth 100000
/-! PmJ: more calls; isinstance; chains. -/
namespace PM
open PySem L2 PyProof.Rows
section
variable {T : Tb} {B : Bs} {X : Cx} {call : CallF}
variable {a b c e o : Expr} {ma mb mc me mo : ME} {pos apos : Pos}
theorem snd_call0 {f : Nat} {x : PySem.Str} {p : Pos} (hf : Fok T X call f 0) (hg : Gl X x) (hm : X.mg x = some (.ref (T.fa f))) (hdb : (x == ("__debug__" : PySem.Str)) = false) :
    Snd T B X T.fl call (.call f []) (.Call (.Name x p) [] [] pos) := by
  obtain ⟨k, fd, ps, F, hr, hb, hk⟩ := hf.ex
  refine PE.weak (pe_call0 F hr hg hm hk hb .nil pass0 hdb) fun σ H Q ⟨W, S, d, S', I, e1, k'⟩ => ?_
  simp only [ev, evvs] at e1
  obtain ⟨⟨ds, S1⟩, h1, e1⟩ := R.bind_eq_ok e1
  cases h1
  obtain ⟨⟨d1, C1⟩, h2, e1⟩ := R.bind_eq_ok e1
  cases e1
  refine ⟨rfl, W, S.C, [], _, C1, I.asked, Reps.nil, h2, fun W2 v H2 K2 rv => ?_⟩
  exact k' W2 v H2 K2.le (I.after K2) (Rep.res rv)
/-- a local name that holds a def -/
theorem snd_callv {i : Nat} {x : PySem.Str} {p : Pos} {es : List Expr} {ms : List ME} (hall : ∀ f ds C r, call f ds C = .ok r → Fok T X call f ds.length)
    (hN : X.N[i]? = some x) (hv : Vis X.env.scope x) (ha : SndV T B X T.fl call (ma :: ms) (a :: es)) (hdb : (x == ("__debug__" : PySem.Str)) = false) (hcd : (x == ("__classdict__" : PySem.Str)) = false) (pl : (a :: es).all plE = true) :
    Snd T B X T.fl call (.callv i (ma :: ms)) (.Call (.Name x p) (a :: es) [] pos) := by
  have pl' : plE a = true ∧ es.all plE = true := by simpa using pl
  refine ⟨fun pins s σ H Q Iv ⟨W, S, d, S', I, e1, k'⟩ => ?_⟩
  simp only [ev] at e1
  split at e1
  · rename_i f hs
    obtain ⟨⟨ds, S1⟩, h1, e1⟩ := R.bind_eq_ok e1
    obtain ⟨⟨d1, C1⟩, h2, e1⟩ := R.bind_eq_ok e1
    cases e1
    obtain ⟨k, fd, ps, F, hr, hb, hk⟩ := (hall f _ _ _ h2).ex
    have hσ : σ[i]? = some (some (.ref (T.fa f))) := by
      obtain ⟨v, e2, ok⟩ := I.slots i _ hs
      have ok' : Rep T W (.fn f) v := ok
      simp only [Rep] at ok'
      rw [e2, ok']
    refine (pe_callL (i := i) F hr hN hv hk hb .nil pass0 ha hdb hcd (plE_star pl'.1 _ _) (plEs_any pl'.2 _ _)).run pins s σ H Q Iv ⟨hσ, W, S, ds, S1, I, h1, fun W1 vs H1 l J r => ?_⟩
    refine ⟨?_, W1, S1.C, ds, _, C1, J.asked, by simpa using r, h2, fun W2 v H2 K2 rv => ?_⟩
    · rw [List.append_nil, ← r.length]
    · exact k' W2 v H2 (l.trans K2.le) (J.after K2) (Rep.res rv)
  · cases e1
/-- keywords: how the arguments stand as parameters -/
structure KOk (T : Tb) (X : Cx) (call : CallF) (f n : Nat) (ks : List PySem.Str) (pm : List Nat) : Prop where
  ex : ∃ k fd ps, FnOk X.prog X.w X.K X.mg X.base CX0 k (T.fa f) fd ps (spOf T call f pm.length) ∧ Room k X.A ∧ PySem.W.keepIn X.K (.ref (T.fa f)) = true ∧
    ∀ us ws : List Value, us.length = n → ws.length = ks.length → bindArgs fd ⟨us, ks.zip ws⟩ = pure (ps.zip (pm.map fun i => (us ++ ws).getD i .none))
  pm : ∀ i ∈ pm, i < n + ks.length
theorem vals_perm {vs : List V} {us : List Value} (r : Vals vs us) : ∀ (pm : List Nat), Vals (pm.map fun i => vs.getD i .non) (pm.map fun i => us.getD i .none)
  | [] => .nil
  | i :: pm => by
    have one : RelV (vs.getD i .non) (us.getD i .none) := by
      rw [List.getD_eq_getElem?_getD, List.getD_eq_getElem?_getD]
      by_cases hi : i < vs.length
      · obtain ⟨u, hu, ru⟩ := r.get (List.getElem?_eq_getElem hi)
        rw [hu, List.getElem?_eq_getElem hi]
        exact ru
      · rw [List.getElem?_eq_none (by omega), List.getElem?_eq_none (by rw [← r.length]; omega)]
        exact rfl
    exact .cons one (vals_perm r pm)
theorem reps_perm {W : Wd} {ds : List D} {vs : List V} (r : Reps T W ds vs) : ∀ (pm : List Nat), Reps T W (pm.map fun i => ds.getD i .non) (pm.map fun i => vs.getD i .non)
  | [] => Reps.nil
  | i :: pm => by
    have one : Rep T W (ds.getD i .non) (vs.getD i .non) := by
      rw [List.getD_eq_getElem?_getD, List.getD_eq_getElem?_getD]
      by_cases hi : i < vs.length
      · obtain ⟨d, hd, rd⟩ := r.getV (List.getElem?_eq_getElem hi)
        rw [hd, List.getElem?_eq_getElem hi]
        exact rd
      · rw [List.getElem?_eq_none (by rw [r.length]; omega), List.getElem?_eq_none (by omega)]
        show Rep T W .non .non
        simp only [Rep]
    exact Reps.cons one (reps_perm r pm)
/-- the values of keywords -/
def kwEs (kws : List Keyword) : List Expr := kws.map fun k => k.value
def TVE (T : Tb) (m : PS → R (List D × PS)) : TA := fun σ H Q => ∃ B, TV T B m σ H Q
theorem pk_of {F : Fields} : ∀ {kws : List Keyword} {ms : List ME}, (∀ (i : Nat) (k : Keyword) (m : ME), kws[i]? = some k → ms[i]? = some m → Snd T B X F call m k.value) → kws.length = ms.length → PK X kws (TV T B (fun S => evvs F call ms S))
  | [], [], _, _ => ⟨fun pos pins s σ H Q I q => pk_nil.run pos pins s σ H Q I (by
      obtain ⟨W, S, d, S', J, e, k⟩ := q
      cases e
      exact k W _ H (Le.refl W) J Reps.nil)⟩
  | ⟨nm, e, kp⟩ :: kws, m :: ms, h, hl => ⟨fun pos pins s σ H Q I q => (pk_cons (h 0 _ _ rfl rfl) (pk_of (fun i k m e1 e2 => h (i + 1) k m (by simpa using e1) (by simpa using e2)) (by simpa using hl))).run pos pins s σ H Q I (by
      obtain ⟨W, S, ds, S', J, e1, k⟩ := q
      simp only [evvs] at e1
      obtain ⟨⟨d1, S1⟩, h1, h2⟩ := R.bind_eq_ok e1
      obtain ⟨⟨ds', S2⟩, h3, h4⟩ := R.bind_eq_ok h2
      cases h4
      refine use_v J h1 fun W1 v H1 l J r => ?_
      exact ⟨W1, S1, ds', S2, J, h3, fun W2 vs H2 l2 J2 r2 => k W2 _ H2 (l.trans l2) J2 (Reps.cons (Rep.mono l2 _ r) r2)⟩)⟩
  | [], _ :: _, _, hl => by simp at hl
  | _ :: _, [], _, hl => by simp at hl
theorem kw_all {kws : List Keyword} (h : kws.all (fun k => k.arg.isSome) = true) (pos : Pos) (env : Env) : (backToKw pos (keywordEach kws env)).all (·.1.isSome) = true ∧ (backToKw pos (keywordEach kws env)).any (·.1.isNone) = false ∧ (backToKw pos (keywordEach kws env)).filterMap (·.1) = kws.filterMap (·.arg) := by
  induction kws with
  | nil => exact ⟨rfl, rfl, rfl⟩
  | cons k kws ih =>
    obtain ⟨nm, e, kp⟩ := k
    simp only [List.all_cons, Bool.and_eq_true] at h
    obtain ⟨h1, h2, h3⟩ := ih h.2
    cases nm with
    | none => cases h.1
    | some x =>
      refine ⟨?_, ?_, ?_⟩
      · have : backToKw pos (keywordEach (⟨some x, e, kp⟩ :: kws) env) = (some x, (do let v ← eval e env; standAt pos; pure v)) :: backToKw pos (keywordEach kws env) := rfl
        rw [this, List.all_cons, h1]
        rfl
      · have : backToKw pos (keywordEach (⟨some x, e, kp⟩ :: kws) env) = (some x, (do let v ← eval e env; standAt pos; pure v)) :: backToKw pos (keywordEach kws env) := rfl
        rw [this, List.any_cons, h2]
        rfl
      · have : backToKw pos (keywordEach (⟨some x, e, kp⟩ :: kws) env) = (some x, (do let v ← eval e env; standAt pos; pure v)) :: backToKw pos (keywordEach kws env) := rfl
        rw [this, List.filterMap_cons, h3]
        rfl
theorem evvs_append {F : Fields} : ∀ {ms ns : List ME} {S S' : PS} {ds : List D}, evvs F call (ms ++ ns) S = .ok (ds, S') → ∃ d1 d2 S1, evvs F call ms S = .ok (d1, S1) ∧ evvs F call ns S1 = .ok (d2, S') ∧ ds = d1 ++ d2
  | [], ns, S, S', ds, h => ⟨[], ds, S, rfl, h, rfl⟩
  | m :: ms, ns, S, S', ds, h => by
    simp only [List.cons_append, evvs] at h
    obtain ⟨⟨d1, S1⟩, h1, h2⟩ := R.bind_eq_ok h
    obtain ⟨⟨ds', S2⟩, h3, h4⟩ := R.bind_eq_ok h2
    cases h4
    obtain ⟨e1, e2, S3, g1, g2, rfl⟩ := evvs_append h3
    exact ⟨d1 :: e1, e2, S3, by simp only [evvs]; rw [h1]; show (evvs F call ms S1).bind _ = _; rw [g1]; rfl, g2, rfl⟩
theorem KOk.kbn {n : Nat} {ks : List PySem.Str} {pm : List Nat} {fd : FuncData} {ps : List PySem.Str} (hb : ∀ us ws : List Value, us.length = n → ws.length = ks.length → bindArgs fd ⟨us, ks.zip ws⟩ = pure (ps.zip (pm.map fun i => (us ++ ws).getD i .none))) :
    KBn X.K fd ps n ks (fun us ws => pm.map fun i => (us ++ ws).getD i .none) (fun vs zs => pm.map fun i => (vs ++ zs).getD i .non) :=
  ⟨fun s us ws _ h1 h2 => BindsTo.of_eq (hb us ws h1 h2), fun r1 r2 => vals_perm (r1.append r2) pm⟩
theorem callk_end {f : Nat} {pm : List Nat} {W : Wd} {S1 : PS} {σ : L2.St} {H : Hp} {ds : List D} {vs : List V} {d : D} {C1 : List D} {Q : VK} (J : Rel T B W S1 σ H) (r : Reps T W ds vs) (h2 : call f (pm.map fun i => ds.getD i .non) S1.C = .ok (d, C1))
    (k' : ∀ W' v H', Le W W' → Rel T B W' ⟨S1.L, C1⟩ σ H' → Res T B W' ⟨S1.L, C1⟩ σ H' d v → Q v H') : spOf T call f pm.length (pm.map fun i => vs.getD i .non) H Q E0 :=
  ⟨by rw [List.length_map], W, S1.C, _, _, C1, J.asked, reps_perm r pm, h2, fun W2 v H2 K2 rv => k' W2 v H2 K2.le (J.after K2) (Rep.res rv)⟩
/-- f(k = v, ..) -/
theorem snd_callk0 {f : Nat} {x : PySem.Str} {p : Pos} {kws : List Keyword} {ns : List ME} {ks : List PySem.Str} {pm : List Nat} (hf : KOk T X call f 0 ks pm) (hg : Gl X x) (hm : X.mg x = some (.ref (T.fa f))) (hdb : (x == ("__debug__" : PySem.Str)) = false)
    (hk : ∀ (i : Nat) (k : Keyword) (m : ME), kws[i]? = some k → ns[i]? = some m → Snd T B X T.fl call m k.value) (hl : kws.length = ns.length) (hs : kws.all (fun k => k.arg.isSome) = true) (hks : kws.filterMap (·.arg) = ks) (hkl : ks.length = ns.length) :
    Snd T B X T.fl call (.callk f ns pm) (.Call (.Name x p) [] kws pos) := by
  obtain ⟨k, fd, ps, F, hr, hkp, hb⟩ := hf.ex
  obtain ⟨q1, q2, q3⟩ := kw_all hs pos X.env
  refine ⟨fun pins s σ H Q Iv ⟨W, S, d, S', I, e1, k'⟩ => ?_⟩
  simp only [ev] at e1
  obtain ⟨⟨ds, S1⟩, h1, e1⟩ := R.bind_eq_ok e1
  obtain ⟨⟨d1, C1⟩, h2, e1⟩ := R.bind_eq_ok e1
  cases e1
  refine wpAny_Call_Name_kw (ld_glob Iv hg hm ?_ hdb)
  refine PySem.W.callWith_KW0 (h₀ := X.base) Iv.ok.mod.kin hkp q1 ?_ (by rw [q2]; rfl)
  have P := pk_of hk hl
  refine thn (P.run pos pins s σ H (fun zs H2 => zs.length = ks.length ∧ spOf T call f pm.length (pm.map fun i => ([] ++ zs).getD i .non) H2 Q E0) Iv ⟨W, S, ds, S1, I, h1, fun W1 vs H1 l J r => ⟨?_, ?_⟩⟩) fun ws s2 ⟨zs, H2, I2, rz, l2, q⟩ => ⟨I2.kIn, ?_⟩
  · rw [← r.length, evvs_len _ h1, hkl]
  · exact callk_end J r h2 fun W2 v H2 l2 K rv => k' W2 v H2 (l.trans l2) K rv
  · rw [q3, hks]
    exact run_fnN F hr (KOk.kbn hb) pass0 I2 (.nil : Vals [] []) rz rfl l2 q
end
section
variable {T : Tb} {B : Bs} {X : Cx} {call : CallF}
variable {a b c e o : Expr} {ma mb mc me mo : ME} {pos apos : Pos}
/-! ### chains of comparisons -/
theorem snd_chain {F : Fields} {op op' : Cmp} {pop pop' : CmpOp} (ho : OpR X (compareOp pop) (RC T op)) (ho' : OpR X (compareOp pop') (RC T op')) (ha : Snd T B X F call ma a) (hb : Snd T B X F call mb b) (hc : Snd T B X F call mc c) (hm : lastMarks [pop, pop'] [b, c] = false) :
    Snd T B X F call (.chain op op' ma mb mc) (.Compare a [pop, pop'] [b, c] pos) :=
  PE.weak (pe_chain ho ho' ha hb hc hm) fun σ H Q ⟨W, S, d, S', I, e1, k⟩ => by
    simp only [ev] at e1
    obtain ⟨⟨d1, S1⟩, h1, e1⟩ := R.bind_eq_ok e1
    obtain ⟨⟨d2, S2⟩, h2, e1⟩ := R.bind_eq_ok e1
    obtain ⟨⟨k0, y0⟩, h3, e1⟩ := R.ofO_bind e1
    obtain ⟨x, hx, h3⟩ := Option.bind_eq_some_iff.mp h3
    obtain ⟨y, hy, h3⟩ := Option.bind_eq_some_iff.mp h3
    obtain ⟨z, hz, h3⟩ := Option.map_eq_some_iff.mp h3
    cases h3
    refine use_b I h1 fun W1 v1 H1 l1 I1 b1 => ?_
    refine use_b I1 h2 fun W2 v2 H2 l2 I2 b2 => ?_
    refine ⟨W2, x, y0, k0, I2.sub, I2.view (b1.mono l2) hx, I2.view b2 hy, hz, k0, rfl, ?_⟩
    cases k0 with
    | false =>
      simp only [Bool.false_eq_true, if_false] at e1 ⊢
      cases e1
      exact k W2 _ H2 (l1.trans l2) I2 (Rep.res (by simp only [Rep]))
    | true =>
      simp only [if_true] at e1 ⊢
      obtain ⟨⟨d4, S4⟩, h4, e1⟩ := R.bind_eq_ok e1
      replace e1 := ofO_eq_ok e1
      obtain ⟨y', hy', e1⟩ := Option.bind_eq_some_iff.mp e1
      obtain ⟨z', hz', e1⟩ := Option.bind_eq_some_iff.mp e1
      obtain ⟨w', hw', e1⟩ := Option.map_eq_some_iff.mp e1
      cases e1
      refine use_b I2 h4 fun W4 v4 H4 l4 I4 b4 => ?_
      refine ⟨W4, y', z', w', I4.sub, I4.view (b2.mono l4) hy', I4.view b4 hz', hw', ?_⟩
      exact k W4 _ H4 ((l1.trans l2).trans l4) I4 (Rep.res (by simp only [Rep]))
theorem pt_of_chain {F : Fields} {op op' : Cmp} {pop pop' : CmpOp} (ho : OpR X (compareOp pop) (RC T op)) (ho' : OpR X (compareOp pop') (RC T op')) (ha : Snd T B X F call ma a) (hb : Snd T B X F call mb b) (hc : Snd T B X F call mc c) (hm : lastMarks [pop, pop'] [b, c] = false) :
    SndT T B X F call (.chain op op' ma mb mc) (.Compare a [pop, pop'] [b, c] pos) :=
  PT.weak (pt_chain ho ho' ha hb hc hm) fun σ H Q ⟨W, S, d, S', I, e0, k⟩ => by
    obtain ⟨⟨dd, Sd⟩, e1, e2⟩ := R.bind_eq_ok e0
    have := asB_ok e2
    cases this
    simp only [ev] at e1
    obtain ⟨⟨d1, S1⟩, h1, e1⟩ := R.bind_eq_ok e1
    obtain ⟨⟨d2, S2⟩, h2, e1⟩ := R.bind_eq_ok e1
    obtain ⟨⟨k0, y0⟩, h3, e1⟩ := R.ofO_bind e1
    obtain ⟨x, hx, h3⟩ := Option.bind_eq_some_iff.mp h3
    obtain ⟨y, hy, h3⟩ := Option.bind_eq_some_iff.mp h3
    obtain ⟨z, hz, h3⟩ := Option.map_eq_some_iff.mp h3
    cases h3
    refine use_b I h1 fun W1 v1 H1 l1 I1 b1 => ?_
    refine use_b I1 h2 fun W2 v2 H2 l2 I2 b2 => ?_
    refine ⟨W2, x, y0, k0, I2.sub, I2.view (b1.mono l2) hx, I2.view b2 hy, hz, k0, rfl, ?_⟩
    cases k0 with
    | false =>
      simp only [Bool.false_eq_true, if_false] at e1 ⊢
      cases e1
      exact ⟨false, rfl, k W2 H2 (l1.trans l2) I2⟩
    | true =>
      simp only [if_true] at e1 ⊢
      obtain ⟨⟨d4, S4⟩, h4, e1⟩ := R.bind_eq_ok e1
      replace e1 := ofO_eq_ok e1
      obtain ⟨y', hy', e1⟩ := Option.bind_eq_some_iff.mp e1
      obtain ⟨z', hz', e1⟩ := Option.bind_eq_some_iff.mp e1
      obtain ⟨w', hw', e1⟩ := Option.map_eq_some_iff.mp e1
      cases e1
      refine use_b I2 h4 fun W4 v4 H4 l4 I4 b4 => ?_
      refine ⟨W4, y', z', d, I4.sub, I4.view (b2.mono l4) hy', I4.view b4 hz', hw', ?_⟩
      exact ⟨d, rfl, k W4 H4 ((l1.trans l2).trans l4) I4⟩
/-! ### isinstance -/
/-- the types' facts: how isinstance answers -/
def tyV' (T : Tb) : Nat → D → Value
  | 0, _ => .type "NoneType" | 1, _ => .type "bool" | 2, _ => .type "int" | 3, _ => .type "str" | 4, _ => .type "tuple" | 5, _ => .type "list"
  | _, .obj c _ => .ref (T.ca c)
  | _, _ => .none
structure IsiOk (T : Tb) : Prop where
  own : ∀ c, T.fl c ≠ [] → Cls T.K (T.ca c) ∧ PySem.W.findIn T.K (.ref (T.ca c)) "__class__" = some (some (.builtin "object.__class__")) ∧ PySem.W.specialIn T.K (.builtin "object.__class__") "__get__" = some (some (.builtin "getset_descriptor.__get__")) ∧
    PySem.W.takesIn T.K (.builtin "object.__class__") = some true ∧ PySem.W.mroIn T.K (T.ca c) (.type "object") = some true
  oo : ∀ c c', T.fl c ≠ [] → T.fl c' ≠ [] → PySem.W.kitOne T.K (.ref (T.ca c)) (.ref (T.ca c')) = some (decide (c' = c))
  ob : ∀ c t, T.fl c ≠ [] → t ∈ ["int", "bool", "str", "tuple", "list", "dict"] → PySem.W.kitOne T.K (.ref (T.ca c)) (.type t) = some false
  bo : ∀ c t, T.fl c ≠ [] → t ∈ ["NoneType", "bool", "int", "str", "tuple", "list"] → PySem.W.kitOne T.K (.type t) (.ref (T.ca c)) = some false
/-- what the classes asked are -/
def clsV (T : Tb) : D → V
  | .ty t => .ty t
  | .cls c => .ref (T.ca c)
  | _ => .non
def clsU (T : Tb) : D → Value
  | .ty t => .type t
  | .cls c => .ref (T.ca c)
  | _ => .none
def isTyD (T : Tb) : D → Bool
  | .ty t => ["int", "bool", "str", "tuple", "list", "dict"].contains t
  | .cls c => !(T.fl c).isEmpty
  | _ => false
theorem tyx_of (K : IsiOk T) {W : Wd} {H : Hp} (hw : Same W.F H) {d : D} {v : V} {k : Nat} (h : Vw T W H d v) (e : tyOf d = some k) : TyX T.K H v (tyV' T k d) := by
  cases d <;> simp only [tyOf, Option.some.injEq] at e <;> try contradiction
  · subst e
    cases (show v = .non by simpa only [Vw, Rep] using h)
    exact .base .non
  · subst e
    cases (show v = .bl _ by simpa only [Vw, Rep] using h)
    exact .base (.bl _)
  · subst e
    cases vw_int h
    exact .base (.int _)
  · subst e
    cases vw_str h
    exact .base (.str _)
  · subst e
    obtain ⟨p, us, rfl, g1, g2⟩ := vw_tup h
    rcases sqT_mono hw g1 with (z | ⟨o, z⟩) | ⟨o, its, n, z, hc, _⟩
    · exact .base (.tup z)
    · exact .fTuple z
    · exact .kTuple z hc
  · subst e
    obtain ⟨p, us, rfl, g1, g2⟩ := h
    rcases g1 with z | ⟨o, z⟩
    · exact .base (.lst z)
    · exact .base (.frz z)
  · subst e
    have r : Rep T W (.obj _ _) v := h
    simp only [Rep] at r
    obtain ⟨p, dx, fs, ws, rfl, ⟨hp, ho⟩, _, hr⟩ := r
    obtain ⟨h1, h2, h3, h4, h5⟩ := K.own _ ho
    exact .base (.ins (hw _ _ hp) h1 h2 h3 h4 h5)
theorem kit_b : ∀ t ∈ ["NoneType", "bool", "int", "str", "tuple", "list"], ∀ u ∈ ["int", "bool", "str", "tuple", "list", "dict"], kitB t u = some (decide (t = u) || (decide (t = "bool") && decide (u = "int"))) := by decide +kernel
theorem obj_fl {W : Wd} {H : Hp} {c : Nat} {ds : List D} {v : V} (h : Vw T W H (.obj c ds) v) : T.fl c ≠ [] := by
  have r : Rep T W (.obj c ds) v := h
  simp only [Rep] at r
  obtain ⟨_, _, _, _, _, ⟨_, ho⟩, _⟩ := r
  exact ho
theorem kit_is (K : IsiOk T) {d t : D} {k : Nat} {b : Bool} {W : Wd} {H : Hp} {v : V} (hv : Vw T W H d v) (e : tyOf d = some k) (ht : isTyD T t = true) (hb : isiOne d t = some b) : PySem.W.kitOne T.K (tyV' T k d) (clsU T t) = some b := by
  cases t <;> try contradiction
  · rename_i s
    simp only [isTyD, List.contains_eq_mem, decide_eq_true_eq] at ht
    have key : ∀ nm, nm ∈ ["NoneType", "bool", "int", "str", "tuple", "list"] → PySem.W.kitOne T.K (.type nm) (.type s) = some (decide (nm = s) || (decide (nm = "bool") && decide (s = "int"))) := fun nm hn => kit_ty (kit_b nm hn s ht)
    have hobj : ∀ c, T.fl c ≠ [] → PySem.W.kitOne T.K (.ref (T.ca c)) (.type s) = some false := fun c hc => K.ob c s hc ht
    cases d <;> simp only [tyOf, Option.some.injEq] at e <;> try contradiction
    all_goals subst e
    all_goals simp only [tyV', clsU]
    all_goals first
      | rw [key _ (by simp)]
      | rw [hobj _ (obj_fl hv)]
    all_goals rw [← hb]
    all_goals simp only [isiOne, tyOf, Option.bind_some]
    all_goals (simp only [List.mem_cons, List.not_mem_nil, or_false] at ht; rcases ht with rfl | rfl | rfl | rfl | rfl | rfl <;> rfl)
  · rename_i c'
    have ht : T.fl c' ≠ [] := by simpa [isTyD] using ht
    cases d <;> simp only [tyOf, Option.some.injEq] at e <;> try contradiction
    all_goals subst e
    all_goals simp only [tyV', clsU]
    all_goals simp only [isiOne, tyOf, Option.bind_some, Option.some.injEq] at hb
    all_goals subst hb
    all_goals first
      | exact K.bo _ _ ht (by simp)
      | exact K.oo _ _ (obj_fl hv) ht
theorem clsv_ok {t : D} (h : isTyD T t = true) : ClsV (clsV T t) (clsU T t) := by
  cases t <;> first | exact .ty _ | exact .own _ | cases h
theorem isiOne_ty {d t : D} {b : Bool} (h : isiOne d t = some b) : ∃ k, tyOf d = some k := by
  unfold isiOne at h
  obtain ⟨k, h1, _⟩ := Option.bind_eq_some_iff.mp h
  exact ⟨k, h1⟩
/-- isinstance(e, C) -/
theorem snd_isi1 {F : Fields} {t : D} {np : Pos} (hK : X.K = T.K) (K : IsiOk T) (hg : Gl X "isinstance") (hm : X.mg "isinstance" = none) (he : Snd T B X F call me e) (hc : PE X c (tC (clsV T t))) (ht : isTyD T t = true) (pe : plE e = true) (pc : plE c = true) :
    Snd T B X F call (.prim (.isi [t]) [me]) (.Call (.Name "isinstance" np) [e, c] [] pos) :=
  PE.weak (pe_callB call_isi hg hm (by decide +kernel) (pa_cons he (pa_cons hc pa_nil (plE_star pc _ _)) (plE_star pe _ _)) (by decide) (by decide) (plE_star pe _ _) (plEs_any (es := [c]) (by simp [pc]) _ _)) fun σ H Q ⟨W, S, d, S', I, e1, k⟩ => by
    simp only [ev, evbs] at e1
    obtain ⟨⟨ds, S1⟩, h1, e1⟩ := R.bind_eq_ok e1
    obtain ⟨⟨d1, S2⟩, h2, h3⟩ := R.bind_eq_ok h1
    cases h3
    replace e1 := ofO_eq_ok e1
    obtain ⟨xs, h4, e1⟩ := Option.bind_eq_some_iff.mp e1
    obtain ⟨z, h5, e1⟩ := Option.map_eq_some_iff.mp e1
    cases e1
    simp only [List.mapM_cons, List.mapM_nil, Option.bind_eq_bind, Option.bind_eq_some_iff] at h4
    obtain ⟨x, h6, ys, h7, h8⟩ := h4
    cases h7
    cases h8
    simp only [primD] at h5
    obtain ⟨b, h9, rfl⟩ := Option.map_eq_some_iff.mp h5
    unfold isiAny at h9
    obtain ⟨b', h10, h11⟩ := Option.bind_eq_some_iff.mp h9
    have hb : b = b' := by
      cases b' <;> simp [isiAny] at h11 <;> exact h11
    subst hb
    obtain ⟨kk, hk⟩ := isiOne_ty h10
    refine use_b I h2 fun W1 v1 H1 l1 I1 b1 => ?_
    have vx := I1.view b1 h6
    exact ⟨v1, clsV T t, tyV' T kk x, clsU T t, b, rfl, clsv_ok ht, hK ▸ tyx_of K I1.sub vx hk, hK ▸ kit_is K vx hk ht h10, k W1 _ H1 l1 I1 (Rep.res (by simp only [Rep]))⟩
/-- isinstance(e, (C, ..)) -/
theorem kitAny_of (K : IsiOk T) {d : D} {k : Nat} {W : Wd} {H : Hp} {v : V} (hv : Vw T W H d v) (e : tyOf d = some k) : ∀ {ts : List D} {b : Bool}, ts.all (isTyD T) = true → isiAny d ts = some b → PySem.W.kitAny T.K (tyV' T k d) (ts.map (clsU T)) = some b
  | [], b, _, h => by
    cases h
    rfl
  | t :: ts, b, ht, h => by
    simp only [List.all_cons, Bool.and_eq_true] at ht
    unfold isiAny at h
    obtain ⟨b', h1, h2⟩ := Option.bind_eq_some_iff.mp h
    have q := kit_is K hv e ht.1 h1
    refine kitAny_cons q (fun z => ?_) (fun z => ?_)
    · subst z
      exact kitAny_of K hv e ht.2 (by simpa using h2)
    · subst z
      simpa using h2.symm
theorem snd_isiT {F : Fields} {ts : List D} {cs : List Expr} {kx : Nat} {np tp : Pos} (hK : X.K = T.K) (K : IsiOk T) (hg : Gl X "isinstance") (hm : X.mg "isinstance" = none) (he : Snd T B X F call me e) (hc : PA X cs (fun _ H Q => Q (ts.map (clsV T)) H)) (hne : ts ≠ []) (ht : ts.all (isTyD T) = true) (hl : ts.length < LIM) (pe : plE e = true) :
    Snd T B X F call (.prim (.isi ts) [me]) (.Call (.Name "isinstance" np) [e, .Tuple cs kx tp] [] pos) :=
  PE.weak (pe_callB call_isiT hg hm (by decide +kernel) (pa_cons he (pa_cons (pe_tup hc) pa_nil rfl) (plE_star pe _ _)) (by decide) (by decide) (plE_star pe _ _) rfl) fun σ H Q ⟨W, S, d, S', I, e1, k⟩ => by
    simp only [ev, evbs] at e1
    obtain ⟨⟨ds, S1⟩, h1, e1⟩ := R.bind_eq_ok e1
    obtain ⟨⟨d1, S2⟩, h2, h3⟩ := R.bind_eq_ok h1
    cases h3
    replace e1 := ofO_eq_ok e1
    obtain ⟨xs, h4, e1⟩ := Option.bind_eq_some_iff.mp e1
    obtain ⟨z, h5, e1⟩ := Option.map_eq_some_iff.mp e1
    cases e1
    simp only [List.mapM_cons, List.mapM_nil, Option.bind_eq_bind, Option.bind_eq_some_iff] at h4
    obtain ⟨x, h6, ys, h7, h8⟩ := h4
    cases h7
    cases h8
    simp only [primD] at h5
    obtain ⟨b, h9, rfl⟩ := Option.map_eq_some_iff.mp h5
    have hk : ∃ kk, tyOf x = some kk := by
      cases ts with
      | nil => exact absurd rfl hne
      | cons t ts =>
        unfold isiAny at h9
        obtain ⟨b', h10, h11⟩ := Option.bind_eq_some_iff.mp h9
        exact isiOne_ty h10
    obtain ⟨kk, hk⟩ := hk
    refine use_b I h2 fun W1 v1 H1 l1 I1 b1 => ?_
    have vx := I1.view b1 h6
    refine ⟨by rw [List.length_map]; exact Nat.le_of_lt (Nat.lt_trans hl lim_line), fun p hp => ?_⟩
    have st := Step.alloc (o := .tup (ts.map (clsV T))) I1.sub hp
    have pair : ∀ us : List D, us.all (isTyD T) = true → Paired ClsV (us.map (clsV T)) (us.map (clsU T)) := fun us => by
      induction us with
      | nil => intro _; exact .nil
      | cons u us ih =>
        intro h
        simp only [List.all_cons, Bool.and_eq_true] at h
        exact .cons (clsv_ok h.1) (ih h.2)
    have J := I1.step st
    have vx2 : Vw T W1 (upd H1 p (.tup (ts.map (clsV T)))) x v1 := by
      have := J.view b1 h6
      exact this
    exact ⟨v1, p, ts.map (clsV T), tyV' T kk x, ts.map (clsU T), b, rfl, upd_same, pair ts ht, hK ▸ tyx_of K J.sub vx2 hk, hK ▸ kitAny_of K vx2 hk ht h9, k W1 _ _ (l1.trans st.toLe) J (Rep.res (by simp only [Rep]))⟩
end
end PM
end

section
set_option Elab.async false
set_option linter.all false
set_option maxRecDepth 100000
/-! PmN: does a text's expression stand for a pure one. -/
namespace PM
open PySem L2 PyProof.Rows
/-- what a law's module tells: its globals, free built-in names, fields, arities, keyword calls -/
structure Gm where
  G : List (PySem.Str × D)
  FB : List PySem.Str
  fn : List PySem.Str
  ar : List Nat
  fl : List (List Nat)
  kw : List (Nat × List PySem.Str × List Nat)
def Gm.fields (Γ : Gm) : Fields := fun c => Γ.fl.getD c []
def okNm (x : PySem.Str) : Bool := x != ("__debug__" : PySem.Str) && x != ("__classdict__" : PySem.Str)
def visB (sc : Scope) (x : PySem.Str) : Bool := match sc.names.lookup x with
  | some .local => true | some .cell => true | some .free => true | _ => false
def locB (top : Bool) (sc : Scope) (x : PySem.Str) : Bool := match sc.names.lookup x with
  | some .local => true | some .cell => top | _ => false
/-- a block's scope as it is seen -/
def rl (sc scope : Scope) : Scope := { scope with names := scope.names.map fun (n, k) => if (k == .free && sc.kind == .function && sc.names.lookup n == some .cell) then (n, .cell) else (n, k) }
def glB (sc : Scope) (x : PySem.Str) : Bool := match sc.names.lookup x with
  | some .globalImplicit => true | _ => false
def gEq : D → D → Bool
  | .fn a, .fn b => decide (a = b)
  | .cls a, .cls b => decide (a = b)
  | .int a, .int b => decide (a = b)
  | .str a, .str b => decide (a = b)
  | _, _ => false
def glIs (Γ : Gm) (x : PySem.Str) (d : D) : Bool := match Γ.G.lookup x with
  | some d' => gEq d' d
  | none => false
def opEq : Op → Operator → Bool
  | .add, .Add => true | .sub, .Sub => true | .mul, .Mult => true | .fdiv, .FloorDiv => true | .mod, .Mod => true | .pow, .Pow => true
  | _, _ => false
def cmpEq : Cmp → CmpOp → Bool
  | .eq, .Eq => true | .ne, .NotEq => true | .lt, .Lt => true | .gt, .Gt => true | .le, .LtE => true | .ge, .GtE => true
  | .isIn, .In => true | .notIn, .NotIn => true | .is, .Is => true | .isNot, .IsNot => true
  | _, _ => false
def constEq : D → Const → Bool
  | .non, .none => true
  | .bl a, .bool b => a == b
  | .int a, .int b => decide (a = b)
  | .str a, .str b => decide (a = b)
  | _, _ => false
variable (Γ : Gm)
/-- a built-in name that is free -/
def bi (sc : Scope) (x nm : PySem.Str) : Bool := decide (x = nm) && glB sc x && decide (x ∈ Γ.FB)
def tyNames : List String := ["int", "bool", "str", "tuple", "list", "dict"]
def isiOneE (sc : Scope) : D → Expr → Bool
  | .ty t, .Name y _ => decide (t ∈ tyNames) && bi Γ sc y (PySem.Str.ofString t)
  | .cls c, .Name y _ => glB sc y && okNm y && glIs Γ y (.cls c) && !(Γ.fields c).isEmpty
  | _, _ => false
def isiAllE (sc : Scope) : List D → List Expr → Bool
  | [], [] => true
  | t :: ts, e :: es => isiOneE Γ sc t e && isiAllE sc ts es
  | _, _ => false
/-- a call of a built-in: the arguments that are evaluated -/
def pPrim (sc : Scope) (p : Prim) (x : PySem.Str) (xs : List Expr) : Option (List Expr) :=
  match p, xs with
  | .len, [a] => if bi Γ sc x "len" then some [a] else none
  | .abs, [a] => if bi Γ sc x "abs" then some [a] else none
  | .int1, [a] => if bi Γ sc x "int" then some [a] else none
  | .list1, [a] => if bi Γ sc x "list" then some [a] else none
  | .tuple1, [a] => if bi Γ sc x "tuple" then some [a] else none
  | .sorted1, [a] => if bi Γ sc x "sorted" then some [a] else none
  | .maxL, [a] => if bi Γ sc x "max" then some [a] else none
  | .minL, [a] => if bi Γ sc x "min" then some [a] else none
  | .sumL, [a] => if bi Γ sc x "sum" then some [a] else none
  | .max2, [a, b] => if bi Γ sc x "max" then some [a, b] else none
  | .min2, [a, b] => if bi Γ sc x "min" then some [a, b] else none
  | .listR1, [.Call (.Name y _) [a] [] _] => if bi Γ sc x "list" && bi Γ sc y "range" then some [a] else none
  | .tupR1, [.Call (.Name y _) [a] [] _] => if bi Γ sc x "tuple" && bi Γ sc y "range" then some [a] else none
  | .listZip, [.Call (.Name y _) [a, b] [] _] => if bi Γ sc x "list" && bi Γ sc y "zip" then some [a, b] else none
  | .sortedSet, [.Call (.Name y _) [a] [] _] => if bi Γ sc x "sorted" && bi Γ sc y "set" then some [a] else none
  | .isi [t], [a, .Name y q] => if bi Γ sc x "isinstance" && isiOneE Γ sc t (.Name y q) then some [a] else none
  | .isi (t :: ts), [a, .Tuple cs _ _] => if bi Γ sc x "isinstance" && isiAllE Γ sc (t :: ts) cs && decide (ts.length < 100) then some [a] else none
  | _, _ => none
/-- what is walked: the arguments, whether it asks for a tuple target -/
def pIter (sc : Scope) (k : Nat) (tg iter : Expr) : Option (List Expr) :=
  match k, iter with
  | 0, .Set _ _ _ => none
  | 0, e => some [e]
  | 1, .Call (.Name x _) [a] [] _ => if bi Γ sc x "range" then some [a] else none
  | 2, .Call (.Name x _) [a, b] [] _ => if bi Γ sc x "range" then some [a, b] else none
  | 3, .Call (.Name x _) [a, b, c] [] _ => if bi Γ sc x "range" then some [a, b, c] else none
  | 4, .Call (.Name x _) [a, b] [] _ => match tg with
    | .Tuple _ _ _ => if bi Γ sc x "zip" then some [a, b] else none
    | _ => none
  | 5, .Call (.Name x _) [a] [] _ => match tg with
    | .Tuple _ _ _ => if bi Γ sc x "enumerate" then some [a] else none
    | _ => none
  | _, _ => none
variable (N : List PySem.Str)
mutual
def mT (top : Bool) (sc : Scope) : Tg → Expr → Bool
  | .v i, .Name x _ => decide (N[i]? = some x) && locB top sc x
  | .t gs, .Tuple es _ _ => mTs top sc gs es
  | _, _ => false
def mTs (top : Bool) (sc : Scope) : List Tg → List Expr → Bool
  | [], [] => true
  | g :: gs, e :: es => mT top sc g e && mTs top sc gs es
  | _, _ => false
end
def ownOf (own : List Nat) : List (PySem.Str × Nat) := own.map fun i => (N.getD i PySem.Str.empty, i)
mutual
def mE (sc : Scope) : ME → Expr → Bool
  | .var i, .Name x _ => decide (N[i]? = some x) && visB sc x && okNm x
  | .k d, .Constant c _ _ => constEq d c
  | .glob d, .Name x _ => glB sc x && okNm x && glIs Γ x d
  | .bin op a b, .BinOp l pop r _ => opEq op pop && mE sc a l && mE sc b r
  | .neg a, .UnaryOp .USub e _ => mE sc a e
  | .not a, .UnaryOp .Not e _ => mE sc a e
  | .and a b, .BoolOp .And [x, y] _ => mE sc a x && mE sc b y
  | .and a b, .BoolOp .And (x :: y :: z :: r) p => mE sc a x && mE sc b (.BoolOp .And (y :: z :: r) p)
  | .or a b, .BoolOp .Or [x, y] _ => mE sc a x && mE sc b y
  | .or a b, .BoolOp .Or (x :: y :: z :: r) p => mE sc a x && mE sc b (.BoolOp .Or (y :: z :: r) p)
  | .cmp op a b, .Compare l [pop] [r] _ => cmpEq op pop && mE sc a l && mE sc b r && !behindInMarks pop r
  | .chain op op' a b c, .Compare x [pop, pop'] [y, z] _ => cmpEq op pop && cmpEq op' pop' && mE sc a x && mE sc b y && mE sc c z && !lastMarks [pop, pop'] [y, z]
  | .ite t a b, .IfExp c x y _ => mE sc t c && mE sc a x && mE sc b y
  | .tup es, .Tuple xs _ _ => mEs sc es xs && decide (es.length < 1000)
  | .list es, .List xs _ => mEs sc es xs && decide (es.length < 1000)
  | .idx a i, .Subscript x y _ => mE sc a x && mE sc i y
  | .slice a lo hi, .Subscript x (.Slice l h none _) _ => mE sc a x && mO sc lo l && mO sc hi h
  | .rev a, .Subscript x (.Slice none none (some (.UnaryOp .USub (.Constant (.int 1) _ _) _)) _) _ => mE sc a x
  | .attr a f, .Attribute x nm _ => mE sc a x && decide (Γ.fn[f]? = some nm) && plE x
  | .call f es, .Call (.Name x _) xs [] _ => glB sc x && okNm x && glIs Γ x (.fn f) && mEs sc es xs && decide (Γ.ar[f]? = some es.length)
  | .callk f es pm, .Call (.Name x _) [] kws _ => glB sc x && okNm x && glIs Γ x (.fn f) && mEs sc es (kws.map fun k => k.value) && kws.all (fun k => k.arg.isSome) && decide ((f, kws.filterMap (·.arg), pm) ∈ Γ.kw)
  | .callv i (e :: es), .Call (.Name x _) xs [] _ => decide (N[i]? = some x) && visB sc x && okNm x && mEs sc (e :: es) xs
  | .prim p es, .Call (.Name x _) xs [] _ => (match pPrim Γ sc p x xs with
    | some ys => mEs sc es ys
    | none => false)
  | .m1 .index o e, .Call (.Attribute x nm ap) [y] [] cp => decide (nm = ("index" : PySem.Str)) && mE sc o x && mE sc e y && plE x && plE y && (ap.endLine == cp.line)
  | .m1 .join o e, .Call (.Attribute x nm ap) [y] [] cp => decide (nm = ("join" : PySem.Str)) && mE sc o x && mE sc e y && plE x && plE y && (ap.endLine == cp.line)
  | .append o e, .Call (.Attribute x nm ap) [y] [] cp => decide (nm = ("append" : PySem.Str)) && mE sc o x && mE sc e y && plE x && plE y && (ap.endLine == cp.line)
  | .extend o e, .Call (.Attribute x nm ap) [y] [] cp => decide (nm = ("extend" : PySem.Str)) && mE sc o x && mE sc e y && plE x && plE y && (ap.endLine == cp.line)
  | .pop o, .Call (.Attribute x nm ap) [] [] cp => decide (nm = ("pop" : PySem.Str)) && mE sc o x && plE x && (ap.endLine == cp.line)
  | .popAt o e, .Call (.Attribute x nm ap) [y] [] cp => decide (nm = ("pop" : PySem.Str)) && mE sc o x && mE sc e y && plE x && plE y && (ap.endLine == cp.line)
  | .insert o i e, .Call (.Attribute x nm ap) [y, z] [] cp => decide (nm = ("insert" : PySem.Str)) && mE sc o x && mE sc i y && mE sc e z && plE x && plE y && plE z && (ap.endLine == cp.line)
  | .lc own g k its cond elt, .ListComp ee [⟨tg, iter, ifs, 0⟩] scope _ => blkC N sc scope (ownOf N own) && (tgVars g).all (fun i => own.contains i) && mT N false (rl sc scope) g tg &&
      (match pIter Γ sc k tg iter with
       | some ys => mEs sc its ys
       | none => false) && mC (rl sc scope) cond ifs && mE (rl sc scope) elt ee
  | .cell e, x => mE sc e x && (match e with | .list _ => true | .rev _ => true | _ => false)
  | _, _ => false
def mEs (sc : Scope) : List ME → List Expr → Bool
  | [], [] => true
  | e :: es, x :: xs => mE sc e x && plE x && mEs sc es xs
  | _, _ => false
def mO (sc : Scope) : Option ME → Option Expr → Bool
  | none, none => true
  | some e, some x => mE sc e x
  | _, _ => false
def mC (sc : Scope) : List ME → List Expr → Bool
  | [], [] => true
  | [e], [x] => mE sc e x
  | _, _ => false
end
end PM
end

section
set_option Elab.async false
set_option linter.all false
set_option maxRecDepth 100000
/-! PmO: what is matched is sound. -/
namespace PM
open PySem L2 PyProof.Rows
section
variable {T : Tb} {B : Bs} {W : Wd} {S : PS} {σ : L2.St} {H : Hp}
/-- a new list becomes a cell -/
theorem Rel.cell {xs : List D} {v : V} (I : Rel T B W S σ H) (f : Fresh T B W S σ H xs v) : ∃ W', Le W W' ∧ Rel T B W' ⟨S.L, S.C ++ [.nl xs]⟩ σ H ∧ Rep T W' (.ref S.C.length) v := by
  obtain ⟨a, vs, rfl, h1, h2, h3, h4, h5, h6⟩ := f
  have l : Le W ⟨W.F, W.ad ++ [a]⟩ := ⟨Same.refl _, List.prefix_append _ _⟩
  refine ⟨⟨W.F, W.ad ++ [a]⟩, l, ⟨I.len, I.sub, fun i d hs => ?_, I.excl, fun i b hb => ?_, ?_, ?_, fun n b c q1 q2 => ?_, I.fr1, I.fr2, I.le.trans l, fun n b hn q => ?_⟩, ?_⟩
  · obtain ⟨u, e, ok⟩ := I.slots i d hs
    refine ⟨u, e, ?_⟩
    cases d with
    | nl ys =>
      obtain ⟨b, us, e2, g1, g2, g3⟩ := ok
      exact ⟨b, us, e2, g1, g2, Reps.mono l _ g3⟩
    | _ => exact Rep.mono l _ ok
  · obtain ⟨c1, c2⟩ := I.ownc i b hb
    refine ⟨fun z => ?_, c2⟩
    rcases List.mem_append.mp z with z | z
    · exact c1 z
    · exact h6 i (List.mem_singleton.mp z ▸ hb)
  · simp [I.adl]
  · exact List.nodup_append.mpr ⟨I.adn, by simp, fun x hx y hy => by
      rw [List.mem_singleton.mp hy]
      exact fun z => h4 (z ▸ hx)⟩
  · have q1' : (W.ad ++ [a])[n]? = some b := q1
    have q2' : (S.C ++ [.nl xs])[n]? = some c := q2
    by_cases hn : n < W.ad.length
    · rw [List.getElem?_append_left hn] at q1'
      rw [List.getElem?_append_left (by rw [← I.adl]; exact hn)] at q2'
      obtain ⟨k1, ok⟩ := I.cells n b c q1' q2'
      refine ⟨k1, ?_⟩
      cases c with
      | nl ys =>
        obtain ⟨us, g1, g2⟩ := ok
        exact ⟨us, g1, Reps.mono l _ g2⟩
      | ins c ks ds =>
        obtain ⟨dx, fs, us, g1, g2, g3, g4⟩ := ok
        exact ⟨dx, fs, us, g1, g2, Reps.mono l _ g3, g4⟩
      | _ => exact ok
    · have hl := (List.getElem?_eq_some_iff.mp q1').1
      have e : n = W.ad.length := by simp at hl; omega
      subst e
      rw [List.getElem?_append_right (Nat.le_refl _)] at q1'
      rw [I.adl, List.getElem?_append_right (Nat.le_refl _)] at q2'
      simp at q1' q2'
      subst q1' q2'
      exact ⟨h2, vs, h1, Reps.mono l _ h3⟩
  · have q' : (W.ad ++ [a])[n]? = some b := q
    by_cases hl : n < W.ad.length
    · rw [List.getElem?_append_left hl] at q'
      exact I.newc n b hn q'
    · have hl2 := (List.getElem?_eq_some_iff.mp q').1
      have e : n = W.ad.length := by simp at hl2; omega
      subst e
      rw [List.getElem?_append_right (Nat.le_refl _)] at q'
      simp at q'
      subst q'
      exact h5
  · simp only [Rep]
    refine ⟨a, ?_, rfl⟩
    show (W.ad ++ [a])[S.C.length]? = some a
    rw [← I.adl, List.getElem?_append_right (Nat.le_refl _)]
    simp
end
theorem snd_cell {T : Tb} {B : Bs} {X : Cx} {F : Fields} {call : CallF} {e : Expr} {me : ME} (he : Snd T B X F call me e) : Snd T B X F call (.cell me) e :=
  PE.weak he fun σ H Q ⟨W, S, d, S', I, e1, k⟩ => by
    simp only [ev] at e1
    obtain ⟨⟨d1, S1⟩, h1, e1⟩ := R.bind_eq_ok e1
    simp only at e1
    split at e1
    · rename_i ho
      cases e1
      refine use_r I h1 fun W1 v H1 l J r => ?_
      cases d1 <;> try contradiction
      · obtain ⟨W2, l2, J2, r2⟩ := J.cell r
        exact k W2 v H1 (l.trans l2) J2 (Rep.res r2)
    · cases e1
def GlobOk (T : Tb) (mg : PySem.Str → Option Value) (x : PySem.Str) : D → Prop
  | .fn f => mg x = some (.ref (T.fa f))
  | .cls c => mg x = some (.ref (T.ca c))
  | .int i => ∃ t, mg x = some (.int i t)
  | .str s => ∃ t, mg x = some (.str s t)
  | _ => False
structure XOk (T : Tb) (Γ : Gm) (call : CallF) (N : List PySem.Str) (top : Bool) (sc : Scope) (X : Cx) : Prop where
  K : X.K = T.K
  fl : T.fl = Γ.fields
  fn : ∀ (f : Nat) nm, Γ.fn[f]? = some nm → T.fn f = nm
  calm : X.calm = true
  nd : N.Nodup
  eN : X.N = N
  scope : X.env.scope = sc
  kind : sc.kind = .function
  units : X.A.units + 64 < cLine
  pass : PassesOwn (model X.prog X.w) X.A X.env X.xe
  st : ∀ x, locB top sc x = true → X.fn x = true ∨ sc.names.lookup x = some .local
  glob : ∀ x d, Γ.G.lookup x = some d → GlobOk T X.mg x d
  free : ∀ x ∈ Γ.FB, X.mg x = none
  cls : ClsOk T
  isi : IsiOk T
  fns : ∀ (f n : Nat), Γ.ar[f]? = some n → Fok T X call f n
  dyn : ∀ f ds C r, call f ds C = .ok r → Fok T X call f ds.length
  kws : ∀ f ks pm, (f, ks, pm) ∈ Γ.kw → KOk T X call f 0 ks pm
theorem XOk.blk {T : Tb} {Γ : Gm} {call : CallF} {N : List PySem.Str} {top : Bool} {sc : Scope} {X : Cx} (O : XOk T Γ call N top sc X) {scope : Scope} (hk : scope.kind = .function) (s : Shared) (H : Hp) (C : Addr) (cl : List (PySem.Str × Addr)) (fp : List Addr) :
    XOk T Γ call N false (rl sc scope) (X.blk s H scope (compEnvC scope cl C X.env) fp) where
  K := O.K
  fl := O.fl
  fn := O.fn
  calm := O.calm
  nd := O.nd
  eN := O.eN
  scope := by
    rw [← O.scope]
    rfl
  kind := hk
  units := O.units
  pass := PassesOwn.never
  st := fun x h => by
    unfold locB at h
    split at h <;> first | exact .inr (by assumption) | cases h
  glob := O.glob
  free := O.free
  cls := O.cls
  isi := O.isi
  fns := fun f n h => ⟨(O.fns f n h).ex⟩
  dyn := fun f ds C r h => ⟨(O.dyn f ds C r h).ex⟩
  kws := fun f ks pm h => ⟨(O.kws f ks pm h).ex, (O.kws f ks pm h).pm⟩
/-! ### small readings of the checks -/
section
variable {T : Tb} {Γ : Gm} {call : CallF} {N : List PySem.Str} {top : Bool} {sc : Scope} {X : Cx}
theorem okNm_1 {x : PySem.Str} (h : okNm x = true) : (x == ("__debug__" : PySem.Str)) = false := by
  simp only [okNm, Bool.and_eq_true, bne_iff_ne, ne_eq] at h
  exact beq_eq_false_iff_ne.mpr h.1
theorem okNm_2 {x : PySem.Str} (h : okNm x = true) : (x == ("__classdict__" : PySem.Str)) = false := by
  simp only [okNm, Bool.and_eq_true, bne_iff_ne, ne_eq] at h
  exact beq_eq_false_iff_ne.mpr h.2
theorem XOk.vis (O : XOk T Γ call N top sc X) {x : PySem.Str} (h : visB sc x = true) : Vis X.env.scope x := by
  rw [O.scope]
  unfold visB at h
  split at h <;> first | exact .inl (by assumption) | exact .inr (.inl (by assumption)) | exact .inr (.inr (by assumption)) | cases h
theorem XOk.loc (O : XOk T Γ call N top sc X) {x : PySem.Str} (h : locB top sc x = true) : L2.Loc X.env.scope x ∧ (X.fn x = true ∨ X.env.scope.names.lookup x = some .local) := by
  have h1 : L2.Loc sc x := by
    unfold locB at h
    split at h <;> first | exact .inl (by assumption) | exact .inr (by assumption) | cases h
  rw [O.scope]
  exact ⟨h1, O.st x h⟩
theorem XOk.gl (O : XOk T Γ call N top sc X) {x : PySem.Str} (h : glB sc x = true) : Gl X x := by
  show X.env.scope.names.lookup x = _
  rw [O.scope]
  unfold glB at h
  split at h <;> first | assumption | cases h
theorem gEq_of {a b : D} (h : gEq a b = true) : a = b := by
  unfold gEq at h
  split at h <;> first | (rw [of_decide_eq_true h]) | cases h
theorem XOk.globIs (O : XOk T Γ call N top sc X) {x : PySem.Str} {d : D} (h : glIs Γ x d = true) : GlobOk T X.mg x d := by
  unfold glIs at h
  split at h
  · rename_i d' e
    have := gEq_of h
    subst this
    exact O.glob x _ e
  · cases h
theorem XOk.bi (O : XOk T Γ call N top sc X) {x nm : PySem.Str} (h : bi Γ sc x nm = true) : x = nm ∧ Gl X x ∧ X.mg x = none := by
  simp only [PM.bi, Bool.and_eq_true, decide_eq_true_eq] at h
  exact ⟨h.1.1, O.gl h.1.2, O.free x h.2⟩
/-- neither a star nor a slice -/
def plS : Expr → Bool
  | .Starred _ _ => false
  | .Slice _ _ _ _ => false
  | _ => true
theorem plS_ix {e : Expr} (h : plS e = true) : PlainIx e := by
  intro o i
  cases e <;> first | rfl | cases h
/-- read as a value, then asked for its truth -/
def plT : Expr → Bool
  | .UnaryOp .Not _ _ => false
  | .BoolOp _ _ _ => false
  | .IfExp _ _ _ _ => false
  | .Compare _ _ _ _ => false
  | _ => true
theorem plT_is {e : Expr} (h : plT e = true) (env : Env) (whole : Sem Value) : isTrue e env whole = (do let v ← whole; standAt e.pos; holding [v] (truthy v)) := by
  cases e with
  | UnaryOp op x p => cases op <;> first | rfl | cases h
  | _ => first | rfl | cases h
structure Sx (T : Tb) (X : Cx) (call : CallF) (m : ME) (e : Expr) : Prop where
  pl : plS e = true
  v : ∀ B, Snd T B X T.fl call m e
  t : ∀ B, SndT T B X T.fl call m e
  w : ∀ op es p, e = .BoolOp op es p → ∀ B, SndW T B X T.fl call m e
theorem Sx.of {m : ME} {e : Expr} (h : ∀ B, Snd T B X T.fl call m e) (hp : plS e = true) (ht : plT e = true) : Sx T X call m e :=
  ⟨hp, h, fun B => snd_test (h B) (plT_is ht X.env), fun op es p z => by subst z; cases ht⟩
theorem XOk.ob (O : XOk T Γ call N top sc X) {op : Op} {pop : Operator} (h : opEq op pop = true) : OpR X (binaryOp pop) (RB T op) := by
  cases op <;> cases pop <;> first | cases h; done | exact ob_add O.K | exact ob_sub | exact ob_mul O.K | exact ob_fdiv | exact ob_mod | exact ob_pow
theorem XOk.oc (O : XOk T Γ call N top sc X) {op : Cmp} {pop : CmpOp} (h : cmpEq op pop = true) : OpR X (compareOp pop) (RC T op) := by
  cases op <;> cases pop <;> first | cases h; done | exact oc_eq O.K O.units | exact oc_ne O.K O.units | exact oc_lt | exact oc_gt | exact oc_le | exact oc_ge | exact oc_in O.K O.units | exact oc_notIn O.K O.units | exact oc_is | exact oc_isNot
theorem const_ok {d : D} {c : Const} {k : Nat} {p : Pos} (h : constEq d c = true) : ∃ v, PE X (.Constant c k p) (tC v) ∧ ∀ W, Rep T W d v := by
  unfold constEq at h
  split at h
  · exact ⟨.non, pe_non, fun W => by simp only [Rep]⟩
  · rw [eq_of_beq h]
    exact ⟨.bl _, pe_bl, fun W => by simp only [Rep]⟩
  · rw [of_decide_eq_true h]
    exact ⟨.int _, pe_int, fun W => by simp only [Rep]⟩
  · rw [of_decide_eq_true h]
    exact ⟨.str _, pe_str, fun W => by simp only [Rep]⟩
  · cases h
theorem XOk.gval (O : XOk T Γ call N top sc X) {x : PySem.Str} {d : D} {p : Pos} (hg : glB sc x = true) (hn : okNm x = true) (h : glIs Γ x d = true) : ∃ v, PE X (.Name x p) (tC v) ∧ ∀ W, Rep T W d v := by
  have G := O.globIs h
  cases d <;> try (exact False.elim G)
  · obtain ⟨t, e⟩ := G
    exact ⟨.int _, pe_glob (O.gl hg) e ⟨t, rfl⟩ (okNm_1 hn), fun W => by simp only [Rep]⟩
  · obtain ⟨t, e⟩ := G
    exact ⟨.str _, pe_glob (O.gl hg) e ⟨t, rfl⟩ (okNm_1 hn), fun W => by simp only [Rep]⟩
  · exact ⟨.ref _, pe_glob (O.gl hg) G rfl (okNm_1 hn), fun W => by simp only [Rep]⟩
  · exact ⟨.ref _, pe_glob (O.gl hg) G rfl (okNm_1 hn), fun W => by simp only [Rep]⟩
theorem boot_ty : ∀ t ∈ tyNames, bootBuiltins (PySem.Str.ofString t) = some (.type t) ∧ PySem.Str.ofString t ≠ ("__name__" : PySem.Str) ∧ (PySem.Str.ofString t == ("__debug__" : PySem.Str)) = false := by decide +kernel
theorem XOk.isi1 (O : XOk T Γ call N top sc X) {t : D} {e : Expr} (h : isiOneE Γ sc t e = true) : PE X e (tC (clsV T t)) ∧ isTyD T t = true ∧ plE e = true := by
  unfold isiOneE at h
  split at h
  · simp only [Bool.and_eq_true, decide_eq_true_eq] at h
    obtain ⟨h1, h2⟩ := h
    obtain ⟨rfl, g1, g2⟩ := O.bi h2
    obtain ⟨b1, b2, b3⟩ := boot_ty _ h1
    exact ⟨pe_bltn g1 g2 b1 rfl b2 b3, by simpa [isTyD, tyNames] using h1, rfl⟩
  · simp only [Bool.and_eq_true] at h
    obtain ⟨⟨⟨h1, h2⟩, h3⟩, h4⟩ := h
    have G := O.globIs h3
    exact ⟨pe_glob (O.gl h1) G rfl (okNm_1 h2), by simpa [isTyD, O.fl] using h4, rfl⟩
  · cases h
theorem XOk.isiA (O : XOk T Γ call N top sc X) : ∀ {ts : List D} {es : List Expr}, isiAllE Γ sc ts es = true → PA X es (fun _ H Q => Q (ts.map (clsV T)) H) ∧ ts.all (isTyD T) = true
  | [], [], _ => ⟨PA.weak pa_nil fun σ H Q q => q, rfl⟩
  | t :: ts, e :: es, h => by
    simp only [isiAllE, Bool.and_eq_true] at h
    obtain ⟨h1, h2, h3⟩ := O.isi1 h.1
    obtain ⟨h4, h5⟩ := O.isiA h.2
    exact ⟨PA.weak (pa_cons h1 h4 (plE_star h3 _ _)) fun σ H Q q => q, by simp [h2, h5]⟩
  | [], _ :: _, h => by cases h
  | _ :: _, [], h => by cases h
/-! ### targets -/
theorem assign_len : ∀ {es : List Expr} (env : Env), (assignEach es env).length = es.length
  | [], _ => rfl
  | e :: es, env => by
    cases e <;> simp [assignEach, assign_len]
mutual
theorem mT_ok (O : XOk T Γ call N top sc X) : ∀ (g : Tg) {e : Expr}, mT N top sc g e = true → (∀ B, PG X e (TGx T B g)) ∧ (assignEach [e] X.env).map (·.2) = [assign e X.env] ∧ (∀ es, assignEach (e :: es) X.env = (false, assign e X.env) :: assignEach es X.env)
  | .v i, e, h => by
    cases e <;> try (simp only [mT, Bool.false_eq_true] at h; done)
    simp only [mT, Bool.and_eq_true, decide_eq_true_eq] at h
    obtain ⟨h1, h2⟩ := O.loc h.2
    exact ⟨fun B => sndg_v (by rw [O.eN]; exact O.nd) (by rw [O.eN]; exact h.1) h1 h2, rfl, fun es => rfl⟩
  | .t gs, e, h => by
    cases e <;> try (simp only [mT, Bool.false_eq_true] at h; done)
    simp only [mT] at h
    obtain ⟨h1, h2, h3⟩ := mTs_ok O gs h
    exact ⟨fun B => sndg_t O.K O.calm (h1 B) (by rw [assign_len, h2]) h3, rfl, fun es => rfl⟩
theorem mTs_ok (O : XOk T Γ call N top sc X) : ∀ (gs : List Tg) {es : List Expr}, mTs N top sc gs es = true → (∀ B, PGs X es (TGsx T B gs)) ∧ es.length = gs.length ∧ (assignEach es X.env).findIdx? (·.1) = none
  | [], es, h => by
    cases es with
    | nil => exact ⟨fun B => sndgs_nil, rfl, rfl⟩
    | cons => cases h
  | g :: gs, es, h => by
    cases es with
    | nil => cases h
    | cons e es =>
      simp only [mTs, Bool.and_eq_true] at h
      obtain ⟨h1, h2, h3⟩ := mT_ok O g h.1
      obtain ⟨h4, h5, h6⟩ := mTs_ok O gs h.2
      refine ⟨fun B => sndgs_cons (h1 B) (h4 B) (by rw [h3]; rfl), by simp [h5], ?_⟩
      rw [h3, List.findIdx?_cons, h6]
      rfl
end
/-! ### arguments -/
structure Sas (T : Tb) (X : Cx) (call : CallF) (ms : List ME) (es : List Expr) : Prop where
  pl : es.all plE = true
  len : es.length = ms.length
  v : ∀ B, SndV T B X T.fl call ms es
  b : ∀ B, SndB T B X T.fl call ms es
  a : PA X es (TXs T (fun S => evas T.fl call ms S))
  one : ∀ (i : Nat) e m, es[i]? = some e → ms[i]? = some m → Sx T X call m e
theorem Sas.nil : Sas T X call [] [] := ⟨rfl, rfl, fun B => sndv_nil, fun B => sndb_nil, sndas_nil, fun i e m h => by simp at h⟩
theorem Sas.cons {m : ME} {ms : List ME} {e : Expr} {es : List Expr} (h : Sx T X call m e) (hp : plE e = true) (t : Sas T X call ms es) : Sas T X call (m :: ms) (e :: es) :=
  ⟨by simp [hp, t.pl], by simp [t.len], fun B => sndv_cons (h.v B) (t.v B) (plE_star hp _ _), fun B => sndb_cons (h.v B) (t.b B) (plE_star hp _ _), sndas_cons h.v t.a (plE_star hp _ _), fun i e' m' h1 h2 => by
    cases i with
    | zero =>
      simp at h1 h2
      subst h1 h2
      exact h
    | succ i => exact t.one i e' m' (by simpa using h1) (by simpa using h2)⟩
theorem evbs_len : ∀ (ms : List ME) {S S1 : PS} {ds : List D}, evbs T.fl call ms S = .ok (ds, S1) → ds.length = ms.length
  | [], _, _, _, h => by cases h; rfl
  | m :: ms, S, S1, ds, h => by
    simp only [evbs] at h
    obtain ⟨⟨d1, S2⟩, h1, h2⟩ := R.bind_eq_ok h
    obtain ⟨⟨ds', S3⟩, h3, h4⟩ := R.bind_eq_ok h2
    cases h4
    simp [evbs_len ms h3]
end
end PM
end

section
set_option Elab.async false
set_option linter.all false
set_option maxRecDepth 100000
/-! PmE: a matched expression is sound. -/
namespace PM
open PySem L2 PyProof.Rows
section
variable {T : Tb} {Γ : Gm} {call : CallF} {N : List PySem.Str}
theorem pPrim_ok {top : Bool} {sc : Scope} {X : Cx} (O : XOk T Γ call N top sc X) {p : Prim} {x : PySem.Str} {xs ys : List Expr} {ms : List ME} {np pos : Pos} (h : pPrim Γ sc p x xs = some ys) (A : Sas T X call ms ys) (B : Bs) : Snd T B X T.fl call (.prim p ms) (.Call (.Name x np) xs [] pos) := by
  have one : ∀ {a : Expr}, ys = [a] → ∃ m, ms = [m] ∧ Sx T X call m a ∧ plE a = true := fun {a} e => by
    subst e
    have hl := A.len
    match ms, hl with
    | [m], _ => exact ⟨m, rfl, A.one 0 a m rfl rfl, by simpa using A.pl⟩
  unfold pPrim at h
  split at h <;> try contradiction
  all_goals (split at h <;> try contradiction)
  all_goals (rename_i hb; cases h)
  · obtain ⟨rfl, g1, g2⟩ := O.bi hb
    exact snd_primB (ok_len O.K) g1 g2 (by decide +kernel) (A.b B) (by decide) (by decide) A.pl
  · obtain ⟨rfl, g1, g2⟩ := O.bi hb
    exact snd_primB ok_abs g1 g2 (by decide +kernel) (A.b B) (by decide) (by decide) A.pl
  · obtain ⟨rfl, g1, g2⟩ := O.bi hb
    exact snd_primT ok_int1 g1 g2 (by decide +kernel) (A.b B) (by decide) (by decide) A.pl
  · obtain ⟨rfl, g1, g2⟩ := O.bi hb
    exact snd_primT (ok_list1 O.K O.calm) g1 g2 (by decide +kernel) (A.b B) (by decide) (by decide) A.pl
  · obtain ⟨rfl, g1, g2⟩ := O.bi hb
    exact snd_primT (ok_tuple1 O.K) g1 g2 (by decide +kernel) (A.b B) (by decide) (by decide) A.pl
  · obtain ⟨rfl, g1, g2⟩ := O.bi hb
    exact snd_primB (ok_sorted1 O.K O.units) g1 g2 (by decide +kernel) (A.b B) (by decide) (by decide) A.pl
  · obtain ⟨rfl, g1, g2⟩ := O.bi hb
    exact snd_primB (ok_maxL O.calm) g1 g2 (by decide +kernel) (A.b B) (by decide) (by decide) A.pl
  · obtain ⟨rfl, g1, g2⟩ := O.bi hb
    exact snd_primB (ok_minL O.calm) g1 g2 (by decide +kernel) (A.b B) (by decide) (by decide) A.pl
  · obtain ⟨rfl, g1, g2⟩ := O.bi hb
    exact snd_primB (ok_sumL O.calm) g1 g2 (by decide +kernel) (A.b B) (by decide) (by decide) A.pl
  · obtain ⟨rfl, g1, g2⟩ := O.bi hb
    exact snd_primB (ok_max2 O.calm) g1 g2 (by decide +kernel) (A.b B) (by decide) (by decide) A.pl
  · obtain ⟨rfl, g1, g2⟩ := O.bi hb
    exact snd_primB (ok_min2 O.calm) g1 g2 (by decide +kernel) (A.b B) (by decide) (by decide) A.pl
  · rw [Bool.and_eq_true] at hb
    obtain ⟨rfl, g1, g2⟩ := O.bi hb.1
    obtain ⟨rfl, g3, g4⟩ := O.bi hb.2
    obtain ⟨m, rfl, s, pl⟩ := one rfl
    exact snd_listR1 O.calm g1 g2 g3 g4 (s.v B) pl
  · rw [Bool.and_eq_true] at hb
    obtain ⟨rfl, g1, g2⟩ := O.bi hb.1
    obtain ⟨rfl, g3, g4⟩ := O.bi hb.2
    obtain ⟨m, rfl, s, pl⟩ := one rfl
    exact snd_tupR1 O.calm g1 g2 g3 g4 (s.v B) pl
  · rw [Bool.and_eq_true] at hb
    obtain ⟨rfl, g1, g2⟩ := O.bi hb.1
    obtain ⟨rfl, g3, g4⟩ := O.bi hb.2
    have hl := A.len
    have pl := A.pl
    simp only [List.all_cons, List.all_nil, Bool.and_true, Bool.and_eq_true] at pl
    match ms, hl with
    | [m, m'], _ => exact snd_listZip O.K O.calm g1 g2 g3 g4 ((A.one 0 _ m rfl rfl).v B) ((A.one 1 _ m' rfl rfl).v B) pl.1 pl.2
  · rw [Bool.and_eq_true] at hb
    obtain ⟨rfl, g1, g2⟩ := O.bi hb.1
    obtain ⟨rfl, g3, g4⟩ := O.bi hb.2
    obtain ⟨m, rfl, s, pl⟩ := one rfl
    exact snd_sortedSet O.calm g1 g2 g3 g4 (s.v B) pl
  · rw [Bool.and_eq_true] at hb
    obtain ⟨rfl, g1, g2⟩ := O.bi hb.1
    obtain ⟨h1, h2, h3⟩ := O.isi1 hb.2
    obtain ⟨m, rfl, s, pl⟩ := one rfl
    exact snd_isi1 O.K O.isi g1 g2 (s.v B) h1 h2 pl h3
  · simp only [Bool.and_eq_true, decide_eq_true_eq] at hb
    obtain ⟨rfl, g1, g2⟩ := O.bi hb.1.1
    obtain ⟨h1, h2⟩ := O.isiA hb.1.2
    obtain ⟨m, rfl, s, pl⟩ := one rfl
    exact snd_isiT O.K O.isi g1 g2 (s.v B) h1 (by simp) h2 (by
      simp only [List.length_cons]
      have := LIM_eq
      omega) pl
theorem pIter_ok {top : Bool} {sc : Scope} {X : Cx} (O : XOk T Γ call N top sc X) {k : Nat} {tg iter : Expr} {ys : List Expr} {ms : List ME} (h : pIter Γ sc k tg iter = some ys) (A : Sas T X call ms ys) : (∀ B, SndI T B X T.fl call tg k ms iter) ∧ ∀ x, foldedSetIterable iter X.env x = pure x := by
  unfold pIter at h
  split at h <;> try contradiction
  · rename_i hne
    cases h
    have hl := A.len
    match ms, hl with
    | [m], _ =>
      have s := A.one 0 _ m rfl rfl
      refine ⟨fun B => sndi_0 O.K (s.v B), fun x => ?_⟩
      cases iter <;> first | rfl | exact absurd rfl (hne _ _ _)
  all_goals (split at h <;> try contradiction)
  all_goals try (split at h <;> try contradiction)
  all_goals (rename_i hb; cases h)
  · obtain ⟨rfl, g1, g2⟩ := O.bi hb
    have hl := A.len
    match ms, hl with
    | [m], _ => exact ⟨fun B => sndi_1 g1 g2 ((A.one 0 _ m rfl rfl).v B) (by simpa using A.pl), fun x => rfl⟩
  · obtain ⟨rfl, g1, g2⟩ := O.bi hb
    have hl := A.len
    have pl := A.pl
    simp only [List.all_cons, List.all_nil, Bool.and_true, Bool.and_eq_true] at pl
    match ms, hl with
    | [m, m'], _ => exact ⟨fun B => sndi_2 g1 g2 ((A.one 0 _ m rfl rfl).v B) ((A.one 1 _ m' rfl rfl).v B) pl.1 pl.2, fun x => rfl⟩
  · obtain ⟨rfl, g1, g2⟩ := O.bi hb
    have hl := A.len
    have pl := A.pl
    simp only [List.all_cons, List.all_nil, Bool.and_true, Bool.and_eq_true] at pl
    match ms, hl with
    | [m, m', m3], _ => exact ⟨fun B => sndi_3 g1 g2 ((A.one 0 _ m rfl rfl).v B) ((A.one 1 _ m' rfl rfl).v B) ((A.one 2 _ m3 rfl rfl).v B) pl.1 pl.2.1 pl.2.2, fun x => rfl⟩
  · obtain ⟨rfl, g1, g2⟩ := O.bi hb
    have hl := A.len
    have pl := A.pl
    simp only [List.all_cons, List.all_nil, Bool.and_true, Bool.and_eq_true] at pl
    match ms, hl with
    | [m, m'], _ => exact ⟨fun B => sndi_4 O.K g1 g2 ((A.one 0 _ m rfl rfl).v B) ((A.one 1 _ m' rfl rfl).v B) pl.1 pl.2, fun x => rfl⟩
  · obtain ⟨rfl, g1, g2⟩ := O.bi hb
    have hl := A.len
    match ms, hl with
    | [m], _ => exact ⟨fun B => sndi_5 g1 g2 ((A.one 0 _ m rfl rfl).v B) (by simpa using A.pl), fun x => rfl⟩
theorem own_snd : ∀ own : List Nat, (ownOf N own).map (·.2) = own := fun own => by
  unfold ownOf
  rw [List.map_map]
  exact List.map_id own
mutual
theorem sndE : ∀ (m : ME) {top : Bool} {sc : Scope} {X : Cx} {e : Expr}, XOk T Γ call N top sc X → mE Γ N sc m e = true → Sx T X call m e
  | .var i, top, sc, X, e, O, h => by
    cases e <;> try (simp only [mE, Bool.false_eq_true] at h; done)
    simp only [mE, Bool.and_eq_true, decide_eq_true_eq] at h
    exact .of (fun B => snd_var (by rw [O.eN]; exact h.1.1) (O.vis h.1.2) (okNm_1 h.2) (okNm_2 h.2)) rfl rfl
  | .k d, top, sc, X, e, O, h => by
    cases e <;> try (simp only [mE, Bool.false_eq_true] at h; done)
    simp only [mE] at h
    obtain ⟨v, h1, h2⟩ := const_ok h
    exact .of (fun B => snd_const h1 h2) rfl rfl
  | .glob d, top, sc, X, e, O, h => by
    cases e <;> try (simp only [mE, Bool.false_eq_true] at h; done)
    simp only [mE, Bool.and_eq_true] at h
    obtain ⟨v, h1, h2⟩ := O.gval h.1.1 h.1.2 h.2
    exact .of (fun B => snd_glob h1 h2) rfl rfl
  | .bin op a b, top, sc, X, e, O, h => by
    cases e <;> try (simp only [mE, Bool.false_eq_true] at h; done)
    simp only [mE, Bool.and_eq_true] at h
    have ha := sndE a O h.1.2
    have hb := sndE b O h.2
    exact .of (fun B => snd_bin (O.ob h.1.1) (ha.v B) (hb.v B)) rfl rfl
  | .neg a, top, sc, X, e, O, h => by
    cases e <;> try (simp only [mE, Bool.false_eq_true] at h; done)
    rename_i op x p
    cases op <;> try (simp only [mE, Bool.false_eq_true] at h; done)
    simp only [mE] at h
    have ha := sndE a O h
    exact .of (fun B => snd_neg (ha.v B)) rfl rfl
  | .not a, top, sc, X, e, O, h => by
    cases e <;> try (simp only [mE, Bool.false_eq_true] at h; done)
    rename_i op x p
    cases op <;> try (simp only [mE, Bool.false_eq_true] at h; done)
    simp only [mE] at h
    have ha := sndE a O h
    exact ⟨rfl, fun B => snd_notV (ha.v B), fun B => snd_not (ha.t B), fun _ _ _ z => by cases z⟩
  | .and a b, top, sc, X, e, O, h => by
    cases e <;> try (simp only [mE, Bool.false_eq_true] at h; done)
    rename_i op xs p
    cases op <;> try (simp only [mE, Bool.false_eq_true] at h; done)
    match xs, h with
    | [], h => simp only [mE, Bool.false_eq_true] at h
    | [_], h => simp only [mE, Bool.false_eq_true] at h
    | [x, y], h =>
      simp only [mE, Bool.and_eq_true] at h
      have ha := sndE a O h.1
      have hb := sndE b O h.2
      have W : ∀ B, SndW T B X T.fl call (.and a b) (.BoolOp .And [x, y] p) := fun B => snd_andT (ha.t B) (pw_and1 (hb.t B))
      exact ⟨rfl, fun B => snd_andV (ha.v B) (pe_one (hb.v B)), fun B => (W B).pt, fun _ _ _ z B => by cases z; exact W B⟩
    | x :: y :: z :: r, h =>
      simp only [mE, Bool.and_eq_true] at h
      have ha := sndE a O h.1
      have hb := sndE b O h.2
      have W : ∀ B, SndW T B X T.fl call (.and a b) (.BoolOp .And (x :: y :: z :: r) p) := fun B => snd_andT (ha.t B) (hb.w _ _ _ rfl B)
      exact ⟨rfl, fun B => snd_andV (ha.v B) (hb.v B), fun B => (W B).pt, fun _ _ _ z B => by cases z; exact W B⟩
  | .or a b, top, sc, X, e, O, h => by
    cases e <;> try (simp only [mE, Bool.false_eq_true] at h; done)
    rename_i op xs p
    cases op <;> try (simp only [mE, Bool.false_eq_true] at h; done)
    match xs, h with
    | [], h => simp only [mE, Bool.false_eq_true] at h
    | [_], h => simp only [mE, Bool.false_eq_true] at h
    | [x, y], h =>
      simp only [mE, Bool.and_eq_true] at h
      have ha := sndE a O h.1
      have hb := sndE b O h.2
      have W : ∀ B, SndW T B X T.fl call (.or a b) (.BoolOp .Or [x, y] p) := fun B => snd_orT (ha.t B) (pw_or1 (hb.t B))
      exact ⟨rfl, fun B => snd_orV (ha.v B) (pe_one (hb.v B)), fun B => (W B).pt, fun _ _ _ z B => by cases z; exact W B⟩
    | x :: y :: z :: r, h =>
      simp only [mE, Bool.and_eq_true] at h
      have ha := sndE a O h.1
      have hb := sndE b O h.2
      have W : ∀ B, SndW T B X T.fl call (.or a b) (.BoolOp .Or (x :: y :: z :: r) p) := fun B => snd_orT (ha.t B) (hb.w _ _ _ rfl B)
      exact ⟨rfl, fun B => snd_orV (ha.v B) (hb.v B), fun B => (W B).pt, fun _ _ _ z B => by cases z; exact W B⟩
  | .cmp op a b, top, sc, X, e, O, h => by
    cases e <;> try (simp only [mE, Bool.false_eq_true] at h; done)
    rename_i l pops rs p
    match pops, rs, h with
    | [pop], [r], h =>
      simp only [mE, Bool.and_eq_true, Bool.not_eq_true'] at h
      have ha := sndE a O h.1.1.2
      have hb := sndE b O h.1.2
      exact ⟨rfl, fun B => snd_cmp (O.oc h.1.1.1) (ha.v B) (hb.v B) h.2, fun B => snd_cmpT (O.oc h.1.1.1) (ha.v B) (hb.v B) h.2, fun _ _ _ z => by cases z⟩
    | [], _, h => simp only [mE, Bool.false_eq_true] at h
    | _ :: _ :: _, _, h => simp only [mE, Bool.false_eq_true] at h
    | [_], [], h => simp only [mE, Bool.false_eq_true] at h
    | [_], _ :: _ :: _, h => simp only [mE, Bool.false_eq_true] at h
  | .chain op op' a b c, top, sc, X, e, O, h => by
    cases e <;> try (simp only [mE, Bool.false_eq_true] at h; done)
    rename_i l pops rs p
    match pops, rs, h with
    | [pop, pop'], [r, r'], h =>
      simp only [mE, Bool.and_eq_true, Bool.not_eq_true'] at h
      have ha := sndE a O h.1.1.1.2
      have hb := sndE b O h.1.1.2
      have hc := sndE c O h.1.2
      exact ⟨rfl, fun B => snd_chain (O.oc h.1.1.1.1.1) (O.oc h.1.1.1.1.2) (ha.v B) (hb.v B) (hc.v B) h.2, fun B => pt_of_chain (O.oc h.1.1.1.1.1) (O.oc h.1.1.1.1.2) (ha.v B) (hb.v B) (hc.v B) h.2, fun _ _ _ z => by cases z⟩
    | [], _, h => simp only [mE, Bool.false_eq_true] at h
    | [_], _, h => simp only [mE, Bool.false_eq_true] at h
    | _ :: _ :: _ :: _, _, h => simp only [mE, Bool.false_eq_true] at h
    | [_, _], [], h => simp only [mE, Bool.false_eq_true] at h
    | [_, _], [_], h => simp only [mE, Bool.false_eq_true] at h
    | [_, _], _ :: _ :: _ :: _, h => simp only [mE, Bool.false_eq_true] at h
  | .ite t a b, top, sc, X, e, O, h => by
    cases e <;> try (simp only [mE, Bool.false_eq_true] at h; done)
    simp only [mE, Bool.and_eq_true] at h
    have ht := sndE t O h.1.1
    have ha := sndE a O h.1.2
    have hb := sndE b O h.2
    exact ⟨rfl, fun B => snd_ite (ht.t B) (ha.v B) (hb.v B), fun B => snd_iteT (ht.t B) (ha.t B) (hb.t B), fun _ _ _ z => by cases z⟩
  | .tup es, top, sc, X, e, O, h => by
    cases e <;> try (simp only [mE, Bool.false_eq_true] at h; done)
    simp only [mE, Bool.and_eq_true, decide_eq_true_eq] at h
    have A := sndEs es O h.1
    exact .of (fun B => snd_tup (A.v B) (Nat.lt_trans h.2 (by rw [LIM_eq]; decide))) rfl rfl
  | .list es, top, sc, X, e, O, h => by
    cases e <;> try (simp only [mE, Bool.false_eq_true] at h; done)
    simp only [mE, Bool.and_eq_true, decide_eq_true_eq] at h
    have A := sndEs es O h.1
    exact .of (fun B => snd_list (A.v B) (Nat.lt_trans h.2 (by rw [LIM_eq]; decide))) rfl rfl
  | .dict _ _, top, sc, X, e, O, h => by
    cases e <;> simp only [mE, Bool.false_eq_true] at h
  | .idx a i, top, sc, X, e, O, h => by
    cases e <;> try (simp only [mE, Bool.false_eq_true] at h; done)
    simp only [mE, Bool.and_eq_true] at h
    have ha := sndE a O h.1
    have hb := sndE i O h.2
    exact .of (fun B => snd_idx O.K (ha.v B) (hb.v B) (plS_ix hb.pl)) rfl rfl
  | .slice a lo hi, top, sc, X, e, O, h => by
    cases e <;> try (simp only [mE, Bool.false_eq_true] at h; done)
    rename_i x y p
    cases y <;> try (simp only [mE, Bool.false_eq_true] at h; done)
    rename_i l u st p2
    cases st <;> try (simp only [mE, Bool.false_eq_true] at h; done)
    simp only [mE, Bool.and_eq_true] at h
    have ha := sndE a O h.1.1
    have hl := sndO lo O h.1.2
    have hh := sndO hi O h.2
    exact .of (fun B => snd_slice O.K (ha.v B) (hl B) (hh B)) rfl rfl
  | .rev a, top, sc, X, e, O, h => by
    cases e <;> try (simp only [mE, Bool.false_eq_true] at h; done)
    rename_i x y p
    unfold mE at h
    split at h <;> try contradiction
    rename_i heq' heq
    cases heq
    cases heq'
    have ha := sndE a O h
    exact .of (fun B => snd_rev O.K (ha.v B)) rfl rfl
  | .attr a f, top, sc, X, e, O, h => by
    cases e <;> try (simp only [mE, Bool.false_eq_true] at h; done)
    simp only [mE, Bool.and_eq_true, decide_eq_true_eq] at h
    have ha := sndE a O h.1.1
    exact .of (fun B => snd_attr O.K O.cls (O.fn _ _ h.1.2) (ha.v B) (plE_base h.2 _ _)) rfl rfl
  | .call f es, top, sc, X, e, O, h => by
    cases e <;> try (simp only [mE, Bool.false_eq_true] at h; done)
    rename_i g xs kws p
    cases g <;> try (simp only [mE, Bool.false_eq_true] at h; done)
    cases kws <;> try (simp only [mE, Bool.false_eq_true] at h; done)
    simp only [mE, Bool.and_eq_true, decide_eq_true_eq] at h
    have A := sndEs es O h.1.2
    have G := O.globIs h.1.1.2
    have Fk := O.fns _ _ h.2
    match es, xs, A, Fk with
    | [], [], A, Fk => exact .of (fun B => snd_call0 Fk (O.gl h.1.1.1.1) G (okNm_1 h.1.1.1.2)) rfl rfl
    | m :: ms, x :: xs, A, Fk =>
      have pl := A.pl
      simp only [List.all_cons, Bool.and_eq_true] at pl
      exact .of (fun B => snd_call Fk (O.gl h.1.1.1.1) G (A.v B) (okNm_1 h.1.1.1.2) (plE_star pl.1 _ _) (plEs_any pl.2 _ _)) rfl rfl
    | [], _ :: _, A, _ => exact absurd A.len (by simp)
    | _ :: _, [], A, _ => exact absurd A.len (by simp)
  | .callk f es pm, top, sc, X, e, O, h => by
    cases e <;> try (simp only [mE, Bool.false_eq_true] at h; done)
    rename_i g xs kws p
    cases g <;> try (simp only [mE, Bool.false_eq_true] at h; done)
    cases xs <;> try (simp only [mE, Bool.false_eq_true] at h; done)
    simp only [mE, Bool.and_eq_true, decide_eq_true_eq] at h
    have A := sndEs es O h.1.1.2
    have G := O.globIs h.1.1.1.2
    have KO := O.kws _ _ _ h.2
    have hl := A.len
    rw [List.length_map] at hl
    have hk : (kws.filterMap (·.arg)).length = kws.length := by
      have := h.1.2
      clear h hl KO A
      induction kws with
      | nil => rfl
      | cons k kws ih =>
        simp only [List.all_cons, Bool.and_eq_true] at this
        obtain ⟨nm, q, r⟩ := k
        cases nm with
        | none => cases this.1
        | some x => simp [ih this.2]
    refine .of (fun B => snd_callk0 KO (O.gl h.1.1.1.1.1) G (okNm_1 h.1.1.1.1.2) (fun i k m h1 h2 => ?_) hl h.1.2 rfl (by rw [hk, hl])) rfl rfl
    exact (A.one i k.value m (by rw [List.getElem?_map, h1]; rfl) h2).v B
  | .callv i es, top, sc, X, e, O, h => by
    cases es with
    | nil => cases e <;> simp only [mE, Bool.false_eq_true] at h
    | cons e0 es =>
    cases e <;> try (simp only [mE, Bool.false_eq_true] at h; done)
    rename_i g xs kws p
    cases g <;> try (simp only [mE, Bool.false_eq_true] at h; done)
    cases kws <;> try (simp only [mE, Bool.false_eq_true] at h; done)
    simp only [mE, Bool.and_eq_true, decide_eq_true_eq] at h
    have A := sndEs (e0 :: es) O h.2
    match xs, A with
    | x :: xs, A => exact .of (fun B => snd_callv O.dyn (by rw [O.eN]; exact h.1.1.1) (O.vis h.1.1.2) (A.v B) (okNm_1 h.1.2) (okNm_2 h.1.2) A.pl) rfl rfl
    | [], A => exact absurd A.len (by simp)
  | .meth _ _ _ _, top, sc, X, e, O, h => by
    cases e <;> simp only [mE, Bool.false_eq_true] at h
  | .mko _ _, top, sc, X, e, O, h => by
    cases e <;> simp only [mE, Bool.false_eq_true] at h
  | .mk _ _ _, top, sc, X, e, O, h => by
    cases e <;> simp only [mE, Bool.false_eq_true] at h
  | .prim p es, top, sc, X, e, O, h => by
    cases e <;> try (simp only [mE, Bool.false_eq_true] at h; done)
    rename_i g xs kws pp
    cases g <;> try (simp only [mE, Bool.false_eq_true] at h; done)
    cases kws <;> try (simp only [mE, Bool.false_eq_true] at h; done)
    simp only [mE] at h
    split at h
    · rename_i ys hp
      have A := sndEs es O h
      exact .of (fun B => pPrim_ok O hp A B) rfl rfl
    · cases h
  | .m1 p o e1, top, sc, X, e, O, h => by
    cases p <;> (cases e <;> try (simp only [mE, Bool.false_eq_true] at h; done))
    all_goals (rename_i g xs kws cp; cases g <;> try (simp only [mE, Bool.false_eq_true] at h; done))
    all_goals (cases kws <;> try (simp only [mE, Bool.false_eq_true] at h; done))
    all_goals (rename_i x nm ap; match xs, h with
      | [], h => simp only [mE, Bool.false_eq_true] at h
      | _ :: _ :: _, h => simp only [mE, Bool.false_eq_true] at h
      | [y], h =>
        simp only [mE, Bool.and_eq_true, decide_eq_true_eq] at h
        obtain ⟨⟨⟨⟨⟨rfl, h2⟩, h3⟩, h4⟩, h6⟩, h5⟩ := h
        have ho := sndE o O h2
        have he := sndE e1 O h3
        first
          | exact .of (fun B => snd_join (ho.v B) (he.v B) h4 h6 h5) rfl rfl
          | exact .of (fun B => snd_index (ho.v B) (he.v B) h4 h6 h5) rfl rfl)
  | .append o e1, top, sc, X, e, O, h => by
    cases e <;> try (simp only [mE, Bool.false_eq_true] at h; done)
    rename_i g xs kws cp
    cases g <;> try (simp only [mE, Bool.false_eq_true] at h; done)
    cases kws <;> try (simp only [mE, Bool.false_eq_true] at h; done)
    rename_i x nm ap
    match xs, h with
    | [], h => simp only [mE, Bool.false_eq_true] at h
    | _ :: _ :: _, h => simp only [mE, Bool.false_eq_true] at h
    | [y], h =>
      simp only [mE, Bool.and_eq_true, decide_eq_true_eq] at h
      obtain ⟨⟨⟨⟨⟨rfl, h2⟩, h3⟩, h4⟩, h6⟩, h5⟩ := h
      have ho := sndE o O h2
      have he := sndE e1 O h3
      exact .of (fun B => snd_append (ho.v B) (he.v B) h4 h6 h5) rfl rfl
  | .extend o e1, top, sc, X, e, O, h => by
    cases e <;> try (simp only [mE, Bool.false_eq_true] at h; done)
    rename_i g xs kws cp
    cases g <;> try (simp only [mE, Bool.false_eq_true] at h; done)
    cases kws <;> try (simp only [mE, Bool.false_eq_true] at h; done)
    rename_i x nm ap
    match xs, h with
    | [], h => simp only [mE, Bool.false_eq_true] at h
    | _ :: _ :: _, h => simp only [mE, Bool.false_eq_true] at h
    | [y], h =>
      simp only [mE, Bool.and_eq_true, decide_eq_true_eq] at h
      obtain ⟨⟨⟨⟨⟨rfl, h2⟩, h3⟩, h4⟩, h6⟩, h5⟩ := h
      have ho := sndE o O h2
      have he := sndE e1 O h3
      exact .of (fun B => snd_extend O.K (ho.v B) (he.v B) h4 h6 h5) rfl rfl
  | .popAt o e1, top, sc, X, e, O, h => by
    cases e <;> try (simp only [mE, Bool.false_eq_true] at h; done)
    rename_i g xs kws cp
    cases g <;> try (simp only [mE, Bool.false_eq_true] at h; done)
    cases kws <;> try (simp only [mE, Bool.false_eq_true] at h; done)
    rename_i x nm ap
    match xs, h with
    | [], h => simp only [mE, Bool.false_eq_true] at h
    | _ :: _ :: _, h => simp only [mE, Bool.false_eq_true] at h
    | [y], h =>
      simp only [mE, Bool.and_eq_true, decide_eq_true_eq] at h
      obtain ⟨⟨⟨⟨⟨rfl, h2⟩, h3⟩, h4⟩, h6⟩, h5⟩ := h
      have ho := sndE o O h2
      have he := sndE e1 O h3
      exact .of (fun B => snd_popAt (ho.v B) (he.v B) h4 h6 h5) rfl rfl
  | .pop o, top, sc, X, e, O, h => by
    cases e <;> try (simp only [mE, Bool.false_eq_true] at h; done)
    rename_i g xs kws cp
    cases g <;> try (simp only [mE, Bool.false_eq_true] at h; done)
    cases kws <;> try (simp only [mE, Bool.false_eq_true] at h; done)
    rename_i x nm ap
    match xs, h with
    | _ :: _, h => simp only [mE, Bool.false_eq_true] at h
    | [], h =>
      simp only [mE, Bool.and_eq_true, decide_eq_true_eq] at h
      obtain ⟨⟨⟨rfl, h2⟩, h4⟩, h5⟩ := h
      have ho := sndE o O h2
      exact .of (fun B => snd_pop (ho.v B) h4 h5) rfl rfl
  | .insert o i e1, top, sc, X, e, O, h => by
    cases e <;> try (simp only [mE, Bool.false_eq_true] at h; done)
    rename_i g xs kws cp
    cases g <;> try (simp only [mE, Bool.false_eq_true] at h; done)
    cases kws <;> try (simp only [mE, Bool.false_eq_true] at h; done)
    rename_i x nm ap
    match xs, h with
    | [], h => simp only [mE, Bool.false_eq_true] at h
    | [_], h => simp only [mE, Bool.false_eq_true] at h
    | _ :: _ :: _ :: _, h => simp only [mE, Bool.false_eq_true] at h
    | [y, z], h =>
      simp only [mE, Bool.and_eq_true, decide_eq_true_eq] at h
      obtain ⟨⟨⟨⟨⟨⟨⟨rfl, h2⟩, h3⟩, h7⟩, h4⟩, h6⟩, h8⟩, h5⟩ := h
      have ho := sndE o O h2
      have hi := sndE i O h3
      have he := sndE e1 O h7
      exact .of (fun B => snd_insert (ho.v B) (hi.v B) (he.v B) h4 h6 h8 h5) rfl rfl
  | .get _ _, top, sc, X, e, O, h => by
    cases e <;> simp only [mE, Bool.false_eq_true] at h
  | .get2 _ _ _, top, sc, X, e, O, h => by
    cases e <;> simp only [mE, Bool.false_eq_true] at h
  | .lc own g k its cond elt, top, sc, X, e, O, h => by
    cases e <;> try (simp only [mE, Bool.false_eq_true] at h; done)
    rename_i ee gens scope p
    unfold mE at h
    split at h <;> try contradiction
    rename_i heq' heq
    cases heq
    cases heq'
    simp only [Bool.and_eq_true] at h
    obtain ⟨⟨⟨⟨⟨h1, h2⟩, h3⟩, h4⟩, h5⟩, h6⟩ := h
    split at h4 <;> try contradiction
    rename_i ys hy
    have A := sndEs its O h4
    obtain ⟨I1, I2⟩ := pIter_ok O hy A
    have ok := blkOk_by h1
    have hk : scope.kind = .function := ok.kind
    refine .of (fun B => ?_) rfl rfl
    rw [← own_snd (N := N) own]
    refine snd_lc O.calm (by rw [O.eN]; exact O.nd) (by rw [O.eN, O.scope]; exact ok) (fun i hi => ?_) (I1 B) (fun s H C cl fp B' => (mT_ok (O.blk hk s H C cl fp) g h3).1 B') (fun s H C cl fp B' => sndC cond (O.blk hk s H C cl fp) h5 B') (fun s H C cl fp B' => (sndE elt (O.blk hk s H C cl fp) h6).v B') I2
    rw [own_snd]
    simpa using List.all_eq_true.mp h2 i hi
  | .lc2 _ _ _ _ _ _ _ _ _ _ _, top, sc, X, e, O, h => by
    cases e <;> simp only [mE, Bool.false_eq_true] at h
  | .dc _ _ _ _ _ _ _, top, sc, X, e, O, h => by
    cases e <;> simp only [mE, Bool.false_eq_true] at h
  | .cell e1, top, sc, X, e, O, h => by
    simp only [mE, Bool.and_eq_true] at h
    have he := sndE e1 O h.1
    have ht : plT e = true := by
      have h2 := h.2
      cases e1 <;> try contradiction
      all_goals (cases e <;> first | rfl | (simp only [mE, Bool.false_eq_true, Bool.false_and, false_and] at h; done))
    exact .of (fun B => snd_cell (he.v B)) he.pl ht
theorem sndEs : ∀ (ms : List ME) {top : Bool} {sc : Scope} {X : Cx} {es : List Expr}, XOk T Γ call N top sc X → mEs Γ N sc ms es = true → Sas T X call ms es
  | [], top, sc, X, es, O, h => by
    cases es with
    | nil => exact Sas.nil
    | cons => simp only [mEs, Bool.false_eq_true] at h
  | m :: ms, top, sc, X, es, O, h => by
    cases es with
    | nil => simp only [mEs, Bool.false_eq_true] at h
    | cons e es =>
      simp only [mEs, Bool.and_eq_true] at h
      exact Sas.cons (sndE m O h.1.1) h.1.2 (sndEs ms O h.2)
theorem sndO : ∀ (m : Option ME) {top : Bool} {sc : Scope} {X : Cx} {e : Option Expr}, XOk T Γ call N top sc X → mO Γ N sc m e = true → ∀ B, SndO T B X T.fl call m e
  | none, top, sc, X, e, O, h => by
    cases e with
    | none => exact fun B => sndo_none
    | some => simp only [mO, Bool.false_eq_true] at h
  | some m, top, sc, X, e, O, h => by
    cases e with
    | none => simp only [mO, Bool.false_eq_true] at h
    | some e =>
      simp only [mO] at h
      have s := sndE m O h
      exact fun B => sndo_some (s.v B)
theorem sndC : ∀ (ms : List ME) {top : Bool} {sc : Scope} {X : Cx} {es : List Expr}, XOk T Γ call N top sc X → mC Γ N sc ms es = true → ∀ B, PTs X es (TB T B (fun S => evc T.fl call ms S))
  | [], top, sc, X, es, O, h => by
    cases es with
    | nil => exact fun B => sndts_nil
    | cons => simp only [mC, Bool.false_eq_true] at h
  | [m], top, sc, X, es, O, h => by
    match es, h with
    | [], h => simp only [mC, Bool.false_eq_true] at h
    | [e], h =>
      simp only [mC] at h
      have s := sndE m O h
      exact fun B => sndts_one (s.t B)
    | _ :: _ :: _, h => simp only [mC, Bool.false_eq_true] at h
  | _ :: _ :: _, top, sc, X, es, O, h => by
    cases es with
    | nil => simp only [mC, Bool.false_eq_true] at h
    | cons e es => cases es <;> simp only [mC, Bool.false_eq_true] at h
end
end
end PM
end

section
set_option Elab.async false
set_option linter.all false
set_option maxRecDepth 100000
/-! PmI: statements that are matched are sound. -/
namespace PM
open PySem L2 PyProof.Rows
/-- a, b = x, y: is it stored from the right (the names), is it a real tuple (none) -/
def swapPure (sc : Scope) (ts vs : List Expr) : Option (Option (List PySem.Str)) :=
  if !(ts.length == 2 || ts.length == 3) || vs.length != ts.length then some none
  else if vs.any (fun | .Starred .. => true | _ => false) then some none
  else
    let line := (ts.head?.map (·.pos.line)).getD 0
    let names := ts.filterMap fun
      | .Name id pos => if sc.names.lookup id == some .local && pos.line == line then some id else none
      | _ => none
    if names.length != ts.length || names.eraseDups.length != names.length then some none
    else if vs.all (foldedForSure 8) then some none
    else if vs.all (constantsAlone 8) then none
    else some (some names)
theorem swap_ok {env : Env} {ts vs : List Expr} {k k2 : Nat} {p p2 : Pos} {r : Option (List PySem.Str)} (hk : env.scope.kind = .function) (h : swapPure env.scope ts vs = some r) : swappedStores [.Tuple ts k p] (.Tuple vs k2 p2) env = pure r := by
  have hb : env.blockKind = .function := by
    unfold Env.blockKind
    rw [hk]
    rfl
  unfold swapPure at h
  unfold swappedStores
  simp only [hb]
  split at h
  · rename_i c
    cases h
    have : (!(ts.length == 2 || ts.length == 3) || vs.length != ts.length || (ScopeKind.function != ScopeKind.function)) = true := by
      rw [c]
      rfl
    rw [if_pos this]
  · rename_i c
    have : ¬ (!(ts.length == 2 || ts.length == 3) || vs.length != ts.length || (ScopeKind.function != ScopeKind.function)) = true := by
      intro z
      rw [Bool.or_eq_true] at z
      rcases z with z | z
      · exact c z
      · cases z
    rw [if_neg this]
    split at h
    · rename_i c2
      cases h
      exact if_pos c2
    · rename_i c2
      refine (if_neg c2).trans ?_
      simp only at h
      split at h
      · rename_i c3
        cases h
        exact if_pos c3
      · rename_i c3
        refine (if_neg c3).trans ?_
        split at h
        · rename_i c4
          cases h
          exact if_pos c4
        · rename_i c4
          refine (if_neg c4).trans ?_
          split at h
          · cases h
          · rename_i c5
            cases h
            exact if_neg c5
variable (Γ : Gm) (N : List PySem.Str)
/-- plain names -/
def mNames (sc : Scope) : List Nat → List Expr → Bool
  | [], [] => true
  | i :: is, .Name x _ :: es => decide (N[i]? = some x) && locB true sc x && mNames sc is es
  | _, _ => false
/-- how a, b = x, y is stored -/
def mPar (sc : Scope) (is : List Nat) (tgs vs : List Expr) : Bool := match swapPure sc tgs vs with
  | some none => true
  | some (some ns) => (match is, tgs, vs with
    | [i, j], [.Name x _, .Name y _], [_, _] => decide (i ≠ j) && decide (ns = [x, y]) && sc.names.lookup x == some .local && sc.names.lookup y == some .local
    | [i, j, l], [.Name x _, .Name y _, .Name z _], [_, _, _] => decide (i ≠ j) && decide (i ≠ l) && decide (j ≠ l) && decide (ns = [x, y, z]) && sc.names.lookup x == some .local && sc.names.lookup y == some .local && sc.names.lookup z == some .local
    | _, _, _ => false)
  | none => false
/-- does a comprehension's list go straight into the name -/
def lcStraight (sc : Scope) (x : PySem.Str) (p : Pos) : Expr → Bool
  | .ListComp _ _ s vp => sc.names.lookup x == some .local && p.line == vp.line && !(s.names.any fun (n, k) => n == x && (k == .local || k == .cell))
  | _ => false
def noPair : Expr → Bool
  | .Tuple _ _ _ => false
  | .List _ _ => false
  | _ => true
mutual
def mS (sc : Scope) : MS → Stmt → Bool
  | .asg (.v i) e, .Assign [.Name x p] v _ => decide (N[i]? = some x) && locB true sc x && mE Γ N sc e v && (match v with
    | .SetComp _ _ _ _ => false
    | .DictComp _ _ _ _ _ => false
    | _ => true)
  | .asg (.t gs) e, .Assign [.Tuple tgs _ _] v _ => mTs N true sc gs tgs && mE Γ N sc e v && noLc v && (match v with
    | .Tuple vs _ _ => decide (swapPure sc tgs vs = some none)
    | _ => true)
  | .par is es, .Assign [.Tuple tgs _ _] (.Tuple vs _ _) _ => mNames N sc is tgs && mEs Γ N sc es vs && decide (is.length < 1000) && mPar sc is tgs vs
  | .aug i .add e, .AugAssign (.Name x _) .Add v _ => decide (N[i]? = some x) && locB true sc x && mE Γ N sc e v
  | .aug i .sub e, .AugAssign (.Name x _) .Sub v _ => decide (N[i]? = some x) && locB true sc x && mE Γ N sc e v
  | .setI o i e, .Assign [.Subscript x y _] v _ => mE Γ N sc o x && mE Γ N sc i y && mE Γ N sc e v && noLc v && plE y
  | .expr e, .Expr v _ => mE Γ N sc e v && noLc v
  | .ret e, .Return (some v) _ => mE Γ N sc e v
  | .retN, .Return none _ => true
  | .ite t a b, .If c x y _ => mE Γ N sc t c && mSs sc a x && mSs sc b y
  | .for_ g k its body, .For tg iter bs [] _ => mT N true sc g tg && (match pIter Γ sc k tg iter with
    | some ys => mEs Γ N sc its ys
    | none => false) && mSs sc body bs
  | .while_ _ t body, .While c bs [] _ => mE Γ N sc t c && mSs sc body bs
  | .brk, .Break _ => true
  | .cnt, .Continue _ => true
  | .pass, .Pass _ => true
  | _, _ => false
def mSs (sc : Scope) : List MS → List Stmt → Bool
  | [], [] => true
  | .kill _ :: ms, sts => mSs sc ms sts
  | m :: ms, st :: sts => mS sc m st && mSs sc ms sts
  | _, _ => false
end
variable {Γ N}
section
variable {T : Tb} {call : CallF} {sc : Scope} {X : Cx}
theorem mNames_pgp (O : XOk T Γ call N true sc X) : ∀ {is : List Nat} {es : List Expr}, mNames N sc is es = true → PGs X es (TGp is) ∧ es.length = is.length ∧ (assignEach es X.env).findIdx? (·.1) = none
  | [], [], _ => ⟨pgp_nil, rfl, rfl⟩
  | i :: is, e :: es, h => by
    cases e <;> try (simp only [mNames, Bool.false_eq_true] at h; done)
    simp only [mNames, Bool.and_eq_true, decide_eq_true_eq] at h
    obtain ⟨h1, h2⟩ := O.loc h.1.2
    obtain ⟨h3, h4, h5⟩ := mNames_pgp O h.2
    refine ⟨pgp_cons (by rw [O.eN]; exact O.nd) (by rw [O.eN]; exact h.1.1) h1 h2 h3, by simp [h4], ?_⟩
    show (List.findIdx? _ ((false, _) :: assignEach es X.env)) = none
    rw [List.findIdx?_cons, h5]
    rfl
  | [], _ :: _, h => by cases h
  | _ :: _, [], h => by cases h
theorem lc_of {m : ME} {ee : Expr} {gens : List Comprehension} {scope : Scope} {vp : Pos} (h : mE Γ N sc m (.ListComp ee gens scope vp) = true) : ∃ own g k its cond elt tg iter ifs ys, m = .lc own g k its cond elt ∧ gens = [⟨tg, iter, ifs, 0⟩] ∧ blkC N sc scope (ownOf N own) = true ∧ (tgVars g).all (fun i => own.contains i) = true ∧
    mT N false (rl sc scope) g tg = true ∧ pIter Γ sc k tg iter = some ys ∧ mEs Γ N sc its ys = true ∧ mC Γ N (rl sc scope) cond ifs = true ∧ mE Γ N (rl sc scope) elt ee = true := by
  cases m <;> try (simp only [mE, Bool.false_eq_true] at h; done)
  · unfold mE at h
    split at h <;> try contradiction
    rename_i heq' heq
    cases heq
    cases heq'
    simp only [Bool.and_eq_true] at h
    obtain ⟨⟨⟨⟨⟨h1, h2⟩, h3⟩, h4⟩, h5⟩, h6⟩ := h
    split at h4 <;> try contradiction
    rename_i ys hy
    exact ⟨_, _, _, _, _, _, _, _, _, ys, rfl, rfl, h1, h2, h3, hy, h4, h5, h6⟩
  · rename_i e1
    simp only [mE, Bool.and_eq_true] at h
    have h2 := h.2
    have h1 := h.1
    clear h
    cases e1 <;> try contradiction
    all_goals (simp only [mE, Bool.false_eq_true] at h1)
theorem swaps_lc {ee : Expr} {gens : List Comprehension} {scope : Scope} {vp p : Pos} {x : PySem.Str} {n : Nat} {env : Env} (hk : env.scope.kind = .function) :
    swapsWith (.ListComp ee gens scope vp) (some (.Name x p)) n env = pure (lcStraight env.scope x p (.ListComp ee gens scope vp)) := by
  have hb : env.blockKind = .function := by
    unfold Env.blockKind
    rw [hk]
    rfl
  unfold swapsWith lcStraight
  simp only [hb]
  rfl
theorem XOk.kd (O : XOk T Γ call N true sc X) : X.env.scope.kind = .function := by
  rw [O.scope]
  exact O.kind
theorem snd_parX (O : XOk T Γ call N true sc X) (B : Bs) {is : List Nat} {es : List ME} {tgs vs : List Expr} {kt k2 : Nat} {pt pt2 pos : Pos} (h1 : mNames N sc is tgs = true) (A : Sas T X call es vs) (h3 : is.length < 1000) (h4 : mPar sc is tgs vs = true) :
    SndS T B X T.fl call (.par is es) (.Assign [.Tuple tgs kt pt] (.Tuple vs k2 pt2) pos) := by
  obtain ⟨g1, g2, g3⟩ := mNames_pgp O h1
  unfold mPar at h4
  split at h4
  · rename_i hs
    exact snd_parT O.K O.calm g1 A.a (Nat.lt_trans h3 (by rw [LIM_eq]; decide)) (by rw [assign_len, g2]) g3 (swap_ok O.kd (by rw [O.scope]; exact hs))
  · rename_i ns hs
    have hw := swap_ok (k := kt) (k2 := k2) (p := pt) (p2 := pt2) O.kd (by rw [O.scope]; exact hs)
    split at h4
    · simp only [Bool.and_eq_true, decide_eq_true_eq, beq_iff_eq] at h4
      obtain ⟨⟨⟨hij, rfl⟩, lx⟩, ly⟩ := h4
      simp only [mNames, Bool.and_eq_true, decide_eq_true_eq] at h1
      have hl := A.len
      match es, hl, A with
      | [ma, mb], _, A => exact snd_par2 O.calm (by rw [O.eN]; exact O.nd) (by rw [O.eN]; exact h1.1.1) (by rw [O.eN]; exact h1.2.1.1) hij (by rw [O.scope]; exact lx) (by rw [O.scope]; exact ly) A.a hw
    · simp only [Bool.and_eq_true, decide_eq_true_eq, beq_iff_eq] at h4
      obtain ⟨⟨⟨⟨⟨⟨hij, hil⟩, hjl⟩, rfl⟩, lx⟩, ly⟩, lz⟩ := h4
      simp only [mNames, Bool.and_eq_true, decide_eq_true_eq] at h1
      have hl := A.len
      match es, hl, A with
      | [ma, mb, mc], _, A => exact snd_par3 O.calm (by rw [O.eN]; exact O.nd) (by rw [O.eN]; exact h1.1.1) (by rw [O.eN]; exact h1.2.1.1) (by rw [O.eN]; exact h1.2.2.1.1) hij hil hjl (by rw [O.scope]; exact lx) (by rw [O.scope]; exact ly) (by rw [O.scope]; exact lz) A.a hw
    · cases h4
  · cases h4
theorem sndS_asg (tg : Tg) (e : ME) {X : Cx} {st : Stmt} (O : XOk T Γ call N true sc X) (h : mS Γ N sc (.asg tg e) st = true) (B : Bs) : SndS T B X T.fl call (.asg tg e) st := by
    cases tg with
    | v i =>
      unfold mS at h
      split at h <;> first | contradiction | (rename_i heq; cases heq; done) | skip
      rename_i x p v pos heq
      cases heq
      simp only [Bool.and_eq_true, decide_eq_true_eq] at h
      obtain ⟨⟨⟨h1, h2⟩, h3⟩, h4⟩ := h
      obtain ⟨l1, l2⟩ := O.loc h2
      have s := sndE e O h3
      by_cases hlc : noLc v = true
      · exact snd_set (by rw [O.eN]; exact O.nd) (by rw [O.eN]; exact h1) l1 l2 (s.v B) (noLc_swaps hlc _ _ _)
      · cases v <;> try (exact absurd rfl hlc)
        · rename_i ee gens scope vp
          have sw := swaps_lc (ee := ee) (gens := gens) (scope := scope) (vp := vp) (p := p) (x := x) (n := pos.line) O.kd
          cases hb : lcStraight X.env.scope x p (.ListComp ee gens scope vp) with
          | false =>
            rw [hb] at sw
            exact snd_set (by rw [O.eN]; exact O.nd) (by rw [O.eN]; exact h1) l1 l2 (s.v B) sw
          | true =>
            rw [hb] at sw
            have lx : X.env.scope.names.lookup x = some .local := by
              simp only [lcStraight, Bool.and_eq_true, beq_iff_eq] at hb
              exact hb.1.1
            obtain ⟨own, g, k, its, cond, elt, tg, iter, ifs, ys, rfl, rfl, q1, q2, q3, q4, q5, q6, q7⟩ := lc_of h3
            have A := sndEs its O q5
            obtain ⟨I1, I2⟩ := pIter_ok O q4 A
            have ok := blkOk_by q1
            have hk : scope.kind = .function := ok.kind
            rw [← own_snd (N := N) own]
            refine snd_setLc O.calm (by rw [O.eN]; exact O.nd) (by rw [O.eN]; exact h1) lx sw (by rw [O.eN, O.scope]; exact ok) (fun i hi => ?_) (I1 B) (fun s H C cl fp B' => (mT_ok (O.blk hk s H C cl fp) g q3).1 B') (fun s H C cl fp B' => sndC cond (O.blk hk s H C cl fp) q6 B') (fun s H C cl fp B' => (sndE elt (O.blk hk s H C cl fp) q7).v B') I2
            rw [own_snd]
            simpa using List.all_eq_true.mp q2 i hi
        · cases h4
        · cases h4
    | t gs =>
      unfold mS at h
      split at h <;> first | contradiction | (rename_i heq; cases heq; done) | skip
      rename_i tgs k p v pos heq
      cases heq
      simp only [Bool.and_eq_true] at h
      obtain ⟨⟨⟨h1, h2⟩, h3⟩, h4⟩ := h
      have s := sndE e O h2
      obtain ⟨q1, q2, q3⟩ := mTs_ok O gs h1
      refine snd_setT (s.v B) (sndg_t O.K O.calm (q1 B) (by rw [assign_len, q2]) q3) (swS_noLc h3 _ _) ?_ rfl
      cases v with
      | Tuple vs k2 p2 =>
        simp only [decide_eq_true_eq] at h4
        exact swap_ok O.kd (by rw [O.scope]; exact h4)
      | _ => rfl
theorem sndS_par (is : List Nat) (es : List ME) {X : Cx} {st : Stmt} (O : XOk T Γ call N true sc X) (h : mS Γ N sc (.par is es) st = true) (B : Bs) : SndS T B X T.fl call (.par is es) st := by
  unfold mS at h
  split at h <;> try contradiction
  rename_i heq
  cases heq
  simp only [Bool.and_eq_true, decide_eq_true_eq] at h
  obtain ⟨⟨⟨h1, h2⟩, h3⟩, h4⟩ := h
  exact snd_parX O B h1 (sndEs es O h2) h3 h4
theorem sndS_aug (i : Nat) (op : Op) (e : ME) {X : Cx} {st : Stmt} (O : XOk T Γ call N true sc X) (h : mS Γ N sc (.aug i op e) st = true) (B : Bs) : SndS T B X T.fl call (.aug i op e) st := by
  unfold mS at h
  split at h <;> try contradiction
  all_goals
    rename_i heq
    cases heq
    simp only [Bool.and_eq_true, decide_eq_true_eq] at h
    obtain ⟨l1, l2⟩ := O.loc h.1.2
    have s := sndE e O h.2
    first
      | exact snd_aug (.inl ⟨rfl, rfl⟩) (by rw [O.eN]; exact O.nd) (by rw [O.eN]; exact h.1.1) l1 l2 (s.v B)
      | exact snd_aug (.inr ⟨rfl, rfl⟩) (by rw [O.eN]; exact O.nd) (by rw [O.eN]; exact h.1.1) l1 l2 (s.v B)
theorem sndS_setI (o i e : ME) {X : Cx} {st : Stmt} (O : XOk T Γ call N true sc X) (h : mS Γ N sc (.setI o i e) st = true) (B : Bs) : SndS T B X T.fl call (.setI o i e) st := by
  unfold mS at h
  split at h <;> try contradiction
  rename_i heq
  cases heq
  simp only [Bool.and_eq_true] at h
  obtain ⟨⟨⟨⟨h1, h2⟩, h3⟩, h4⟩, h5⟩ := h
  exact snd_setI ((sndE o O h1).v B) ((sndE i O h2).v B) ((sndE e O h3).v B) h4 rfl h5
mutual
theorem sndSt : ∀ (m : MS) {X : Cx} {st : Stmt}, XOk T Γ call N true sc X → mS Γ N sc m st = true → ∀ B, SndS T B X T.fl call m st
  | .asg tg e, X, st, O, h, B => sndS_asg tg e O h B
  | .par is es, X, st, O, h, B => sndS_par is es O h B
  | .aug i op e, X, st, O, h, B => sndS_aug i op e O h B
  | .setI o i e, X, st, O, h, B => sndS_setI o i e O h B
  | .setA _ _ _, X, st, O, h, B => by
    cases st <;> simp only [mS, Bool.false_eq_true] at h
  | .expr e, X, st, O, h, B => by
    cases st <;> try (simp only [mS, Bool.false_eq_true] at h; done)
    simp only [mS, Bool.and_eq_true] at h
    exact snd_expr ((sndE e O h.1).v B) h.2
  | .ret e, X, st, O, h, B => by
    cases st <;> try (simp only [mS, Bool.false_eq_true] at h; done)
    rename_i v pos
    cases v <;> try (simp only [mS, Bool.false_eq_true] at h; done)
    simp only [mS] at h
    exact snd_ret ((sndE e O h).v B)
  | .retN, X, st, O, h, B => by
    cases st <;> try (simp only [mS, Bool.false_eq_true] at h; done)
    rename_i v pos
    cases v <;> try (simp only [mS, Bool.false_eq_true] at h; done)
    exact snd_retN
  | .ite t a b, X, st, O, h, B => by
    cases st <;> try (simp only [mS, Bool.false_eq_true] at h; done)
    simp only [mS, Bool.and_eq_true] at h
    exact snd_if ((sndE t O h.1.1).t B) (sndSts a O h.1.2 B) (sndSts b O h.2 B)
  | .for_ g k its body, X, st, O, h, B => by
    cases st <;> try (simp only [mS, Bool.false_eq_true] at h; done)
    rename_i tg iter bs orelse pos
    cases orelse <;> try (simp only [mS, Bool.false_eq_true] at h; done)
    simp only [mS, Bool.and_eq_true] at h
    obtain ⟨⟨h1, h2⟩, h3⟩ := h
    split at h2 <;> try contradiction
    rename_i ys hy
    have A := sndEs its O h2
    obtain ⟨I1, I2⟩ := pIter_ok O hy A
    exact snd_for O.pass O.calm (I1 B) ((mT_ok O g h1).1 B) (sndSts body O h3 B) I2
  | .while_ n t body, X, st, O, h, B => by
    cases st <;> try (simp only [mS, Bool.false_eq_true] at h; done)
    rename_i c bs orelse pos
    cases orelse <;> try (simp only [mS, Bool.false_eq_true] at h; done)
    simp only [mS, Bool.and_eq_true] at h
    exact snd_while O.pass ((sndE t O h.1).t B) (sndSts body O h.2 B)
  | .brk, X, st, O, h, B => by
    cases st <;> try (simp only [mS, Bool.false_eq_true] at h; done)
    exact snd_brk
  | .cnt, X, st, O, h, B => by
    cases st <;> try (simp only [mS, Bool.false_eq_true] at h; done)
    exact snd_cnt
  | .pass, X, st, O, h, B => by
    cases st <;> try (simp only [mS, Bool.false_eq_true] at h; done)
    exact snd_pass
  | .kill _, X, st, O, h, B => by
    cases st <;> simp only [mS, Bool.false_eq_true] at h
  | .raise _ _, X, st, O, h, B => by
    cases st <;> simp only [mS, Bool.false_eq_true] at h
theorem sndSts : ∀ (ms : List MS) {X : Cx} {sts : List Stmt}, XOk T Γ call N true sc X → mSs Γ N sc ms sts = true → ∀ B, SndSs T B X T.fl call ms sts
  | [], X, sts, O, h, B => by
    cases sts with
    | nil => exact snds_nil
    | cons => simp only [mSs, Bool.false_eq_true] at h
  | m :: ms, X, sts, O, h, B => by
    by_cases hk : ∃ is, m = .kill is
    · obtain ⟨is, rfl⟩ := hk
      simp only [mSs] at h
      exact snds_kill (sndSts ms O h B)
    · cases sts with
      | nil =>
        cases m <;> first | exact absurd ⟨_, rfl⟩ hk | simp only [mSs, Bool.false_eq_true] at h
      | cons st sts =>
        have h' : (mS Γ N sc m st && mSs Γ N sc ms sts) = true := by
          cases m <;> first | exact absurd ⟨_, rfl⟩ hk | simpa only [mSs] using h
        rw [Bool.and_eq_true] at h'
        exact snds_cons (sndSt m O h'.1 B) (sndSts ms O h'.2 B)
end
end
end PM
end

section
set_option Elab.async false
set_option linter.all false
set_option maxRecDepth 100000
/-! PmK: defs keep their promises; the law. -/
namespace PM
open PySem L2 PyProof.Rows
section
variable {T : Tb} {B : Bs} {W W' : Wd} {S : PS} {σ : L2.St} {H H' : Hp}
mutual
theorem Rep.cut {n : Nat} : ∀ (d : D) {v : V}, below n d = true → Rep T W d v → Rep T ⟨W.F, W.ad.take n⟩ d v
  | .non, _, _, h => by simpa only [Rep] using h
  | .bl _, _, _, h => by simpa only [Rep] using h
  | .int _, _, _, h => by simpa only [Rep] using h
  | .str _, _, _, h => by simpa only [Rep] using h
  | .tup xs, _, b, h => by
    simp only [Rep] at h ⊢
    obtain ⟨a, vs, e, h1, h2⟩ := h
    exact ⟨a, vs, e, h1, Reps.cut xs (by simpa only [below] using b) h2⟩
  | .lst xs, _, b, h => by
    simp only [Rep] at h ⊢
    obtain ⟨a, vs, e, h1, h2⟩ := h
    exact ⟨a, vs, e, h1, Reps.cut xs (by simpa only [below] using b) h2⟩
  | .obj c ds, _, b, h => by
    simp only [Rep] at h ⊢
    obtain ⟨a, dx, fs, vs, e, h1, h2, h3⟩ := h
    exact ⟨a, dx, fs, vs, e, h1, h2, Reps.cut ds (by simpa only [below] using b) h3⟩
  | .fn _, _, _, h => by simpa only [Rep] using h
  | .cls _, _, _, h => by simpa only [Rep] using h
  | .ty _, _, _, h => by simpa only [Rep] using h
  | .ref k, _, b, h => by
    simp only [Rep] at h ⊢
    simp only [below, decide_eq_true_eq] at b
    obtain ⟨a, h1, h2⟩ := h
    exact ⟨a, by rw [List.getElem?_take, if_pos b]; exact h1, h2⟩
  | .nl _, _, _, h => by simp only [Rep] at h
  | .dic _ _, _, _, h => by simp only [Rep] at h
  | .nd _ _, _, _, h => by simp only [Rep] at h
  | .ins _ _ _, _, _, h => by simp only [Rep] at h
  | .loc _, _, _, h => by simp only [Rep] at h
theorem Reps.cut {n : Nat} : ∀ (ds : List D) {vs : List V}, belows n ds = true → Reps T W ds vs → Reps T ⟨W.F, W.ad.take n⟩ ds vs
  | [], _, _, h => by simpa only [Reps] using h
  | d :: ds, _, b, h => by
    simp only [Reps] at h ⊢
    simp only [belows, Bool.and_eq_true] at b
    obtain ⟨v, r, e, h1, h2⟩ := h
    exact ⟨v, r, e, Rep.cut d b.1 h1, Reps.cut ds b.2 h2⟩
end
/-- without the slots -/
theorem Rel.bare (I : Rel T B W S σ H) : Rel T B W ⟨[], S.C⟩ [] H where
  len := rfl
  sub := I.sub
  slots := fun i d h => (slot_nil h).elim
  excl := fun i j a _ h _ => (own_nil h).elim
  ownc := fun i a h => (own_nil h).elim
  adl := I.adl
  adn := I.adn
  cells := I.cells
  fr1 := I.fr1
  fr2 := I.fr2
  le := I.le
  newc := I.newc
theorem belows_get {n : Nat} : ∀ {ds : List D} {i : Nat} {d : D}, belows n ds = true → ds[i]? = some d → below n d = true
  | d :: ds, 0, x, h, e => by
    simp only [belows, Bool.and_eq_true] at h
    simp at e
    subst e
    exact h.1
  | d :: ds, i + 1, x, h, e => by
    simp only [belows, Bool.and_eq_true] at h
    exact belows_get h.2 (by simpa using e)
  | [], _, _, _, e => by simp at e
/-- new cells are forgotten -/
theorem Rel.cutC {C : List D} {n : Nat} (I : Rel T B W ⟨[], C⟩ [] H) (hn : B.W.ad.length = n) (hb : belows n (C.take n) = true) : Rel T B ⟨W.F, W.ad.take n⟩ ⟨[], C.take n⟩ [] H where
  len := rfl
  sub := I.sub
  slots := fun i d h => (slot_nil h).elim
  excl := fun i j a _ h _ => (own_nil h).elim
  ownc := fun i a h => (own_nil h).elim
  adl := by simp [I.adl]
  adn := List.Pairwise.sublist (List.take_sublist _ _) I.adn
  cells := fun k a c h1 h2 => by
    have h1' : (W.ad.take n)[k]? = some a := h1
    have h2' : (C.take n)[k]? = some c := h2
    have hb' := belows_get hb h2'
    rw [List.getElem?_take] at h1' h2'
    split at h1'
    · rename_i hk
      rw [if_pos hk] at h2'
      obtain ⟨g1, ok⟩ := I.cells k a c h1' h2'
      refine ⟨g1, ?_⟩
      cases c with
      | nl xs =>
        obtain ⟨vs, g2, g3⟩ := ok
        exact ⟨vs, g2, Reps.cut xs (by simpa only [below] using hb') g3⟩
      | ins c ks ds =>
        obtain ⟨dx, fs, vs, g2, g3, g4, g5⟩ := ok
        exact ⟨dx, fs, vs, g2, g3, Reps.cut ds (by simpa only [below] using hb') g4, g5⟩
      | _ => exact ok
    · cases h1'
  fr1 := I.fr1
  fr2 := I.fr2
  le := ⟨I.le.1, by
    obtain ⟨t, ht⟩ := I.le.2
    show B.W.ad <+: W.ad.take n
    rw [← ht, ← hn, List.take_left']
    · exact List.prefix_refl _
    · rfl⟩
  newc := fun k a h1 h2 => by
    have h2' : (W.ad.take n)[k]? = some a := h2
    rw [List.getElem?_take, if_neg (by omega)] at h2'
    cases h2'
/-- a def's beginning -/
theorem Rel.start {ds : List D} {vs : List V} {C : List D} {N : List PySem.Str} {n : Nat} (I : Rel T ⟨H, W⟩ W ⟨[], C⟩ [] H) (r : Reps T W ds vs) (hn : n = N.length) (hl : ds.length ≤ n) : Rel T ⟨H, W⟩ W ⟨ds.map some ++ List.replicate (n - ds.length) none, C⟩ (L2.start N vs) H := by
  have sl : ∀ {i d}, slot (ds.map some ++ List.replicate (n - ds.length) none) i = some d → ds[i]? = some d := fun {i d} h => by
    unfold slot at h
    by_cases hi : i < ds.length
    · rw [List.getElem?_append_left (by simpa using hi), List.getElem?_map, List.getElem?_eq_getElem hi] at h
      rw [List.getElem?_eq_getElem hi]
      exact h
    · rw [List.getElem?_append_right (by simp; omega)] at h
      rw [List.getElem?_replicate] at h
      split at h <;> cases h
      rename_i z
      split at z <;> cases z
  have no : ∀ {i a}, ¬ Own (ds.map some ++ List.replicate (n - ds.length) none) (L2.start N vs) i a := fun {i a} ⟨⟨xs, h⟩, _⟩ => by
    obtain ⟨v, _, rv⟩ := r.get (sl h)
    simp only [Rep] at rv
  refine ⟨?_, I.sub, fun i d h => ?_, fun i j a _ h _ => (no h).elim, fun i a h => (no h).elim, I.adl, I.adn, I.cells, I.fr1, I.fr2, I.le, I.newc⟩
  · unfold L2.start
    simp [← r.length, ← hn]
  · have hd := sl h
    obtain ⟨v, hv, rv⟩ := r.get hd
    refine ⟨v, ?_, ?_⟩
    · unfold L2.start
      have := (List.getElem?_eq_some_iff.mp hv).1
      rw [List.getElem?_append_left (by simpa using this), List.getElem?_map, hv]
      rfl
    · cases d <;> first | exact rv | (simp only [Rep] at rv)
end
/-! ### defs -/
/-- what is checked of a def -/
structure FnX (T : Tb) (Γ : Gm) (P : List Fn) (K : PySem.W.Frag) (f : Nat) (fn : Fn) : Prop where
  ex : ∃ (x qual : PySem.Str) (params : Arguments) (body : List Stmt) (scope : Scope) (fd : FuncData) (N ps : List PySem.Str), FunD K x qual params body scope [] [] (T.fa f) fd ∧ FnScope N ps scope ∧ fn.n = N.length ∧ fn.ar = ps.length ∧ mSs Γ N scope fn.body body = true ∧
    (∀ us : List Value, us.length = ps.length → bindArgs fd ⟨us, []⟩ = pure (ps.zip us)) ∧
    ∀ ks pm, (f, ks, pm) ∈ Γ.kw → pm.length = ps.length ∧ (∀ i ∈ pm, i < ks.length) ∧ ∀ ws : List Value, ws.length = ks.length → bindArgs fd ⟨[], ks.zip ws⟩ = pure (ps.zip (pm.map fun i => ws.getD i .none))
structure LawOk (T : Tb) (Γ : Gm) (P : List Fn) (K : PySem.W.Frag) (mg : PySem.Str → Option Value) : Prop where
  eK : K = T.K
  fl : T.fl = Γ.fields
  fn : ∀ (f : Nat) nm, Γ.fn[f]? = some nm → T.fn f = nm
  glob : ∀ x d, Γ.G.lookup x = some d → GlobOk T mg x d
  free : ∀ x ∈ Γ.FB, mg x = none
  cls : ClsOk T
  isi : IsiOk T
  ar : ∀ (f n : Nat), Γ.ar[f]? = some n → ∃ fn, P[f]? = some fn ∧ fn.ar = n
  defs : ∀ (f : Nat) fn, P[f]? = some fn → FnX T Γ P K f fn
  kw : ∀ f ks pm, (f, ks, pm) ∈ Γ.kw → ∃ fn, P[f]? = some fn
variable {T : Tb} {Γ : Gm} {P : List Fn} {K : PySem.W.Frag} {mg : PySem.Str → Option Value} {prog : Program} {w : World} {base : Heap}
/-- what is known of all defs at a level -/
def Lev (T : Tb) (Γ : Gm) (P : List Fn) (K : PySem.W.Frag) (mg : PySem.Str → Option Value) (prog : Program) (w : World) (base : Heap) (n : Nat) : Prop := ∀ (f : Nat) (fn : Fn), P[f]? = some fn → ∃ fd ps, FnOk prog w K mg base CX0 (2 * n) (T.fa f) fd ps (spOf T (run T.fl P n) f fn.ar) ∧ ps.length = fn.ar ∧ Binds K fd ps [] ∧ PySem.W.keepIn K (.ref (T.fa f)) = true ∧
    ∀ ks pm, (f, ks, pm) ∈ Γ.kw → pm.length = ps.length ∧ (∀ i ∈ pm, i < ks.length) ∧ ∀ ws : List Value, ws.length = ks.length → bindArgs fd ⟨[], ks.zip ws⟩ = pure (ps.zip (pm.map fun i => ws.getD i .none))
theorem fn_step (L : LawOk T Γ P K mg) {n : Nat} (ih : Lev T Γ P K mg prog w base n) {f : Nat} {fn : Fn} (hf : P[f]? = some fn) {x qual : PySem.Str} {params : Arguments} {body : List Stmt} {scope : Scope} {fd : FuncData} {N ps : List PySem.Str} (F : FunD K x qual params body scope [] [] (T.fa f) fd) (S : FnScope N ps scope)
    (hn : fn.n = N.length) (har : fn.ar = ps.length) (hm : mSs Γ N scope fn.body body = true) : FnOk prog w K mg base CX0 (2 * (n + 1)) (T.fa f) fd ps (spOf T (run T.fl P (n + 1)) f fn.ar) := by
  have e2 : 2 * (n + 1) = (2 * n + 1) + 1 := by omega
  rw [e2]
  refine F.ok S (fun vs H Q E h => by rw [h.1, har]) (fun cdv A outer s H vs Q E hr h => ?_)
  obtain ⟨hl, W, C, ds, d, C', I, r, e, k⟩ := h
  refine ⟨TSx T ⟨H, W⟩ (fun S => exs T.fl (run T.fl P n) fn.body S), PSs.nox ?_, ?_⟩
  · have O : XOk T Γ (run T.fl P n) N true scope (cxOf CX0 prog w K mg base N qual scope (T.fa f) cdv A outer s H E).nox := {
      K := L.eK
      fl := L.fl
      fn := L.fn
      calm := rfl
      nd := S.nd
      eN := rfl
      scope := rfl
      kind := S.kind
      units := hr.units
      pass := PassesOwn.never
      st := fun x h => .inl rfl
      glob := L.glob
      free := L.free
      cls := L.cls
      isi := L.isi
      fns := fun g m hg => by
        obtain ⟨gn, h1, rfl⟩ := L.ar g m hg
        obtain ⟨gd, gs, G, _, gb, gk, _⟩ := ih g gn h1
        exact ⟨2 * n, gd, gs, G, hr.mono (by omega), gb, gk⟩
      dyn := fun g ds C r hg => by
        cases n with
        | zero => cases hg
        | succ n =>
          have hg' := hg
          unfold run at hg'
          split at hg'
          · cases hg'
          · rename_i gn h1
            split at hg'
            · rename_i hl
              obtain ⟨gd, gs, G, _, gb, gk, _⟩ := ih g gn h1
              rw [hl]
              exact ⟨2 * (n + 1), gd, gs, G, hr.mono (by omega), gb, gk⟩
            · cases hg'
      kws := fun g ks pm hg => by
        obtain ⟨gn, h1⟩ := L.kw g ks pm hg
        obtain ⟨gd, gs, G, gl, gb, gk, gw⟩ := ih g gn h1
        obtain ⟨w1, w2, w3⟩ := gw ks pm hg
        refine ⟨⟨2 * n, gd, gs, ?_, hr.mono (by omega), gk, fun us ws h1 h2 => ?_⟩, fun i hi => by have := w2 i hi; omega⟩
        · rw [w1, gl]
          exact G
        · match us, h1 with
          | [], _ => exact w3 ws h2 }
    exact sndSts fn.body O hm _
  · have hds : ds.length = fn.ar := by rw [r.length, hl]
    have hpl : ps.length ≤ N.length := by
      have := congrArg List.length S.pre
      rw [List.length_take] at this
      omega
    unfold run at e
    rw [hf] at e
    simp only [hds, if_true] at e
    obtain ⟨f1, e1, e3⟩ := R.bind_eq_ok e
    have st := Rel.start (N := N) (n := fn.n) I r hn (by rw [hds, har, hn]; exact hpl)
    rw [hds] at st
    refine ⟨W, _, f1, st, e1, ?_⟩
    have fin : ∀ {d0 : D} {S1 : PS} {W' : Wd} {v : V} {σ' : L2.St} {H' : Hp}, endC fn.gc C.length d0 S1.C = .ok (d, C') → Rel T ⟨H, W⟩ W' S1 σ' H' → Rep T W' d0 v → Q v H' := fun {d0 S1 W' v σ' H'} e J rv => by
      unfold endC at e
      split at e
      · split at e
        · rename_i hb
          cases e
          rw [Bool.and_eq_true] at hb
          exact k ⟨W'.F, W'.ad.take C.length⟩ v H' (J.bare.cutC (by exact I.adl) hb.2) (Rep.cut _ hb.1 rv)
        · cases e
      · cases e
        exact k W' v H' J.bare rv
    cases f1 with
    | ret d0 S1 => exact fun W' v σ' H' l J rv => fin e3 J rv
    | nx S1 => exact fun W' σ' H' l J => fin e3 J (by simp only [Rep])
    | brk S1 => cases e3
    | cnt S1 => cases e3
theorem fn_promise (L : LawOk T Γ P K mg) : ∀ n : Nat, Lev T Γ P K mg prog w base n
  | 0 => by
    intro f fn hf
    obtain ⟨x, qual, params, body, scope, fd, N, ps, F, S, hn, har, hm, hb, hk⟩ := (L.defs f fn hf).ex
    refine ⟨fd, ps, ⟨fun vs H Q E h => ?_, fun A outer s H args us vs Q E hr he hbd hv h => ?_⟩, har.symm, Binds.all hb, F.kp, hk⟩
    · rw [h.1, har]
    · obtain ⟨_, W, C, ds, d, C', _, _, z, _⟩ := h
      cases z
  | n + 1 => by
    intro f fn hf
    obtain ⟨x, qual, params, body, scope, fd, N, ps, F, S, hn, har, hm, hb, hk⟩ := (L.defs f fn hf).ex
    exact ⟨fd, ps, fn_step L (fn_promise L n) hf F S hn har hm, har.symm, Binds.all hb, F.kp, hk⟩
/-- no list stands in the written part -/
def noL (K : PySem.W.Frag) : Bool := K.all fun p => decide (p.2.cls ≠ .type "list")
theorem lookup_mem {a : Addr} {o : Obj} : ∀ {K : List (Addr × Obj)}, K.lookup a = some o → (a, o) ∈ K
  | [], h => by cases h
  | (b, u) :: K, h => by
    rw [List.lookup_cons] at h
    split at h
    · rename_i e
      cases h
      rw [eq_of_beq e]
      exact List.mem_cons_self
    · exact List.mem_cons_of_mem _ (lookup_mem h)
/-- a law's promise -/
theorem law_sp (hnl : noL K = true) {f n most : Nat} (hr : ∀ ns : List Int, ns.length ≤ most → ∃ C, run T.fl P n f [.lst (ns.map .int)] [] = .ok (.bl true, C)) (H : Hp) (a : Addr) (ns : List Int) (hl : ns.length ≤ most) (hS : SqL K H a (ns.map V.int)) :
    spOf T (run T.fl P n) f 1 [.ref a] H (fun v _ => v = .bl true) fun _ _ _ => False := by
  have hR : Rd H a (.lst (ns.map V.int)) := by
    rcases hS with h | ⟨o, its, m, h1, h2, _⟩
    · exact h
    · have := List.all_eq_true.mp hnl _ (lookup_mem h1)
      simp only [decide_eq_true_eq] at this
      exact absurd h2 this
  obtain ⟨C, e⟩ := hr ns hl
  let F0 : Hp := fun b => if b = a then H a else none
  have hF : F0 a = H a := if_pos rfl
  refine ⟨rfl, ⟨F0, []⟩, [], [.lst (ns.map .int)], .bl true, C, ?_, ?_, e, fun W' v H' J r => ?_⟩
  · have sub : Same F0 H := fun b o h => by
      have h' : (if b = a then H a else none) = some o := h
      split at h'
      · rename_i z
        rw [z]
        exact h'
      · cases h'
    exact ⟨rfl, sub, fun i d h => (slot_nil h).elim, fun i j a _ h _ => (own_nil h).elim, fun i a h => (own_nil h).elim, rfl, List.Pairwise.nil, (fun k b c h _ => by cases h), fun b o h _ => h, fun b h => .inl h, Le.refl _, fun k b _ h => by cases h⟩
  · refine Reps.cons ?_ Reps.nil
    simp only [Rep]
    refine ⟨a, ns.map V.int, rfl, ?_, reps_int ns⟩
    rcases hR with h | ⟨o, h⟩
    · exact .inl (by rw [hF]; exact h)
    · exact .inr ⟨o, by rw [hF]; exact h⟩
  · simpa only [Rep] using r
end PM
end

section
set_option Elab.async false
set_option linter.all false
set_option maxRecDepth 100000
/-! PmD: the head: what is looked at behind the top. -/
namespace PM
open PySem L2 PyProof.Rows
/-- what a law's module has: its defs' names, its classes' names -/
structure Nm where
  fns : List PySem.Str
  cls : List PySem.Str
def tbOf (K : PySem.W.Frag) (M : Nm) (Γ : Gm) : Tb where
  K := K
  fa := fun f => He.ga K (M.fns.getD f PySem.Str.empty)
  ca := fun c => He.ga K (M.cls.getD c PySem.Str.empty)
  fn := fun i => Γ.fn.getD i PySem.Str.empty
  fl := Γ.fields
def vO (a b : Option (Option Value)) : Bool := decide (a = b)
def clsChk (K : PySem.W.Frag) (M : Nm) (Γ : Gm) (c : Nat) : Bool :=
  let x := M.cls.getD c PySem.Str.empty
  let a := He.ga K x
  (Γ.fields c).isEmpty || ((He.Fa.cls x).ok K && (Γ.fields c).all (fun f => (He.Fa.noat x (Γ.fn.getD f PySem.Str.empty)).ok K) &&
    vO (PySem.W.findIn K (.ref a) "__class__") (some (some (.builtin "object.__class__"))) && vO (PySem.W.specialIn K (.builtin "object.__class__") "__get__") (some (some (.builtin "getset_descriptor.__get__"))) &&
    decide (PySem.W.takesIn K (.builtin "object.__class__") = some true) && decide (PySem.W.mroIn K a (.type "object") = some true) &&
    (["int", "bool", "str", "tuple", "list", "dict"].all fun t => decide (PySem.W.kitOne K (.ref a) (.type t) = some false)) &&
    (["NoneType", "bool", "int", "str", "tuple", "list"].all fun t => decide (PySem.W.kitOne K (.type t) (.ref a) = some false)) &&
    (List.range Γ.fl.length).all fun c' => (Γ.fields c').isEmpty || decide (PySem.W.kitOne K (.ref a) (.ref (He.ga K (M.cls.getD c' PySem.Str.empty))) = some (decide (c' = c))))
def exK (M : Nm) (Γ : Gm) (K : PySem.W.Frag) : Bool := noL K && (List.range Γ.fl.length).all (clsChk K M Γ)
def faOf (Γ : Gm) : List He.Fa := (Γ.G.map fun p => match p.2 with
  | .int i => He.Fa.int p.1 i
  | .str s => He.Fa.str p.1 s
  | _ => He.Fa.glo p.1) ++ Γ.FB.map He.Fa.free
/-- the globals' names are the defs' and the classes' own -/
def nmChk (M : Nm) (Γ : Gm) : Bool := Γ.G.all fun p => match p.2 with
  | .fn f => decide (M.fns.getD f PySem.Str.empty = p.1)
  | .cls c => decide (M.cls.getD c PySem.Str.empty = p.1)
  | .int _ => true
  | .str _ => true
  | _ => false
def obsP (ex : PySem.W.Frag → Bool) (fa : List He.Fa) (fn : List He.DefD) (K : PySem.W.Frag) : He.AlD := (ex K && ((fa.all fun f => f.ok K) && fn.all fun d => d.ok K), fn.map fun d => He.fnW K d.at_)
def SaysP (ex : PySem.W.Frag → Bool) (fa : List He.Fa) (fn : List He.DefD) (K : PySem.W.Frag) : Prop := obsP ex fa fn K = He.valD fn
def obsPG (ex : PySem.W.Frag → Bool) (n : Nat) (fa : List He.Fa) (fn : List He.DefD) (g : Addr → Option Obj) : He.AlD := obsP ex fa fn (He.frG g (He.asD g n))
def hookP (ex : PySem.W.Frag → Bool) (n : Nat) (fa : List He.Fa) (fn : List He.DefD) : PySem.W.Hook where
  α := He.AlD
  obs := fun s => obsPG ex n fa fn s.heap.get?
  val := fun _ => He.valD fn
  says := fun _ h => ∃ K : PySem.W.Frag, K.In h ∧ SaysP ex fa fn K
  of := fun _ _ e => ⟨_, He.frG_in, e⟩
  keeps := fun _ _ _ ⟨K, hK, c⟩ k => ⟨K, PySem.W.Frag.In.keeps hK k, c⟩
theorem obsPG_eq {ex : PySem.W.Frag → Bool} {n : Nat} {fa : List He.Fa} {fn : List He.DefD} {g : Addr → Option Obj} {s : Shared} (h : ∀ a, g a = s.heap.get? a) : obsPG ex n fa fn g = (hookP ex n fa fn).obs s := by
  have e : g = s.heap.get? := funext h
  rw [e]
  rfl
theorem SaysP.ex {ex : PySem.W.Frag → Bool} {fa : List He.Fa} {fn : List He.DefD} {K : PySem.W.Frag} (c : SaysP ex fa fn K) : ex K = true ∧ He.SaysD fa fn K := by
  have c1 : (ex K && ((fa.all fun f => f.ok K) && fn.all fun d => d.ok K)) = true := congrArg (fun z : He.AlD => z.1) c
  have c2 : fn.map (fun d => He.fnW K d.at_) = fn.map He.DefD.val := congrArg (fun z : He.AlD => z.2) c
  rw [Bool.and_eq_true] at c1
  refine ⟨c1.1, ?_⟩
  unfold He.SaysD He.obsD He.valD
  rw [c1.2, c2]
section
variable {M : Nm} {Γ : Gm} {K : PySem.W.Frag}
theorem cls_of {c : Nat} (h : exK M Γ K = true) (hc : (tbOf K M Γ).fl c ≠ []) : clsChk K M Γ c = true ∧ c < Γ.fl.length := by
  have hl : c < Γ.fl.length := by
    refine Nat.lt_of_not_le fun z => hc ?_
    show Γ.fl.getD c [] = []
    rw [List.getD_eq_getElem?_getD, List.getElem?_eq_none z]
    rfl
  simp only [exK, Bool.and_eq_true] at h
  exact ⟨List.all_eq_true.mp h.2 c (List.mem_range.mpr hl), hl⟩
theorem clsOk_of (h : exK M Γ K = true) : ClsOk (tbOf K M Γ) where
  cl := fun c hc => by
    obtain ⟨h1, _⟩ := cls_of h hc
    simp only [clsChk, Bool.or_eq_true, Bool.and_eq_true, List.isEmpty_iff] at h1
    rcases h1 with h1 | h1
    · exact absurd h1 hc
    · exact He.cls_ok h1.1.1.1.1.1.1.1.1
  na := fun c f hf => by
    obtain ⟨h1, _⟩ := cls_of h (List.ne_nil_of_mem hf)
    simp only [clsChk, Bool.or_eq_true, Bool.and_eq_true, List.isEmpty_iff] at h1
    rcases h1 with h1 | h1
    · exact absurd h1 (List.ne_nil_of_mem hf)
    · exact He.noat_ok (List.all_eq_true.mp h1.1.1.1.1.1.1.1.2 f hf)
theorem isiOk_of (h : exK M Γ K = true) : IsiOk (tbOf K M Γ) := by
  have get : ∀ c, (tbOf K M Γ).fl c ≠ [] → _ := fun c hc => by
    have h1 := (cls_of h hc).1
    simp only [clsChk, Bool.or_eq_true, Bool.and_eq_true, List.isEmpty_iff] at h1
    exact h1.resolve_left hc
  refine ⟨fun c hc => ?_, fun c c' hc hc' => ?_, fun c t hc ht => ?_, fun c t hc ht => ?_⟩
  · have g := get c hc
    refine ⟨(clsOk_of h).cl c hc, of_decide_eq_true g.1.1.1.1.1.1.2, of_decide_eq_true g.1.1.1.1.1.2, ?_, ?_⟩
    · exact of_decide_eq_true g.1.1.1.1.2
    · exact of_decide_eq_true g.1.1.1.2
  · have g := get c hc
    have z := List.all_eq_true.mp g.2 c' (List.mem_range.mpr (cls_of h hc').2)
    simp only [Bool.or_eq_true, List.isEmpty_iff, decide_eq_true_eq] at z
    exact z.resolve_left hc'
  · have g := get c hc
    exact of_decide_eq_true (List.all_eq_true.mp g.1.1.2 t ht)
  · have g := get c hc
    exact of_decide_eq_true (List.all_eq_true.mp g.1.2 t ht)
theorem glob_of {h : Heap} {mg : PySem.Str → Option Value} (X : K.In h) (G : h.Ns mainGlobals mg) (hn : nmChk M Γ = true) (hf : (faOf Γ).all (fun f => f.ok K) = true) : (∀ x d, Γ.G.lookup x = some d → GlobOk (tbOf K M Γ) mg x d) ∧ ∀ x ∈ Γ.FB, mg x = none := by
  refine ⟨fun x d hx => ?_, fun x hx => ?_⟩
  · have hm : (x, d) ∈ Γ.G := PySem.mem_of_lookup hx
    have h1 := List.all_eq_true.mp hn _ hm
    have h2 := List.all_eq_true.mp hf _ (List.mem_append_left _ (List.mem_map.mpr ⟨_, hm, rfl⟩))
    cases d <;> try contradiction
    · exact He.int_ok X G h2
    · exact He.str_ok X G h2
    · simp only [decide_eq_true_eq] at h1
      show mg x = some (.ref (He.ga K (M.fns.getD _ _)))
      rw [h1]
      exact He.glo_ok X G h2
    · simp only [decide_eq_true_eq] at h1
      show mg x = some (.ref (He.ga K (M.cls.getD _ _)))
      rw [h1]
      exact He.glo_ok X G h2
  · have h2 := List.all_eq_true.mp hf _ (List.mem_append_right _ (List.mem_map.mpr ⟨_, hx, rfl⟩))
    exact He.free_ok X G h2
end
/-! ### defs -/
structure DefOk (Γ : Gm) (f : Nat) (st : Stmt) (fn : Fn) (N ps : List PySem.Str) : Prop where
  sc : FnScope N ps (defScope st)
  n : fn.n = N.length
  ar : fn.ar = ps.length
  m : mSs Γ N (defScope st) fn.body (defBody st) = true
  b : ∀ (x : PySem.Str) (kV doc pm : Value) (an : Option Addr) (cdv ct : Value) (us : List Value), us.length = ps.length → bindArgs (PySem.W.fnOf x x (defArgs st) (defBody st) (defScope st) .none kV doc pm an cdv ct) ⟨us, []⟩ = pure (ps.zip us)
  k : ∀ ks pm, (f, ks, pm) ∈ Γ.kw → pm.length = ps.length ∧ (∀ i ∈ pm, i < ks.length) ∧ ∀ (x : PySem.Str) (kV doc pmv : Value) (an : Option Addr) (cdv ct : Value) (ws : List Value), ws.length = ks.length →
    bindArgs (PySem.W.fnOf x x (defArgs st) (defBody st) (defScope st) .none kV doc pmv an cdv ct) ⟨[], ks.zip ws⟩ = pure (ps.zip (pm.map fun i => ws.getD i .none))
def ddOf (x : PySem.Str) (st : Stmt) : He.DefD := ⟨(x, none), x, x, defArgs st, defBody st, defScope st, [], []⟩
theorem fnx_of {M : Nm} {Γ : Gm} {K : PySem.W.Frag} {P : List Fn} {f : Nat} {st : Stmt} {fn : Fn} {N ps : List PySem.Str} (D : DefOk Γ f st fn N ps) {fd : FuncData} (F : FunD K (M.fns.getD f PySem.Str.empty) (M.fns.getD f PySem.Str.empty) (defArgs st) (defBody st) (defScope st) [] [] (He.ga K (M.fns.getD f PySem.Str.empty)) fd) :
    FnX (tbOf K M Γ) Γ P K f fn := by
  refine ⟨_, _, _, _, _, fd, N, ps, F, D.sc, D.n, D.ar, D.m, ?_, fun ks pm hk => ?_⟩
  · obtain ⟨oc, od, dV, kV, doc, pm, an, cdv, ct, osl, rfl, lk, hcd, hD, hK⟩ := F.ex
    rcases hD with ⟨_, rfl⟩ | ⟨e, _⟩
    · exact D.b _ kV doc pm an cdv ct
    · exact absurd rfl e
  · obtain ⟨h1, h2, h3⟩ := D.k ks pm hk
    refine ⟨h1, h2, ?_⟩
    obtain ⟨oc, od, dV, kV, doc, pmv, an, cdv, ct, osl, rfl, lk, hcd, hD, hK⟩ := F.ex
    rcases hD with ⟨_, rfl⟩ | ⟨e, _⟩
    · exact h3 _ kV doc pmv an cdv ct
    · exact absurd rfl e
/-- all of a law -/
structure AllOk (M : Nm) (Γ : Gm) (P : List Fn) (sts : List Stmt) : Prop where
  nm : nmChk M Γ = true
  ar : decide (Γ.ar = P.map (·.ar)) = true
  kw : (Γ.kw.all fun z => decide (z.1 < P.length)) = true
  ln : sts.length = P.length
  fl : M.fns.length = P.length
  defs : ∀ (f : Nat) fn st, P[f]? = some fn → sts[f]? = some st → ∃ N ps, DefOk Γ f st fn N ps
def ddsOf (M : Nm) (sts : List Stmt) : List He.DefD := (M.fns.zip sts).map fun p => ddOf p.1 p.2
theorem lawOk_of {M : Nm} {Γ : Gm} {P : List Fn} {sts : List Stmt} (A : AllOk M Γ P sts) {K : PySem.W.Frag} {h : Heap} {mg : PySem.Str → Option Value} (X : K.In h) (G : h.Ns mainGlobals mg) (c : SaysP (exK M Γ) (faOf Γ) (ddsOf M sts) K) : LawOk (tbOf K M Γ) Γ P K mg ∧ noL K = true := by
  obtain ⟨c1, c2⟩ := c.ex
  have hfa : (faOf Γ).all (fun f => f.ok K) = true := by
    have c3 : (((faOf Γ).all fun f => f.ok K) && (ddsOf M sts).all fun d => d.ok K) = true := congrArg (fun z : He.AlD => z.1) c2
    rw [Bool.and_eq_true] at c3
    exact c3.1
  obtain ⟨g1, g2⟩ := glob_of (M := M) X G A.nm hfa
  have c1' := c1
  simp only [exK, Bool.and_eq_true] at c1'
  refine ⟨⟨rfl, rfl, fun f nm hf => ?_, g1, g2, clsOk_of c1, isiOk_of c1, fun f n hf => ?_, fun f fn hf => ?_, fun f ks pm hk => ?_⟩, c1'.1⟩
  · show Γ.fn.getD f PySem.Str.empty = nm
    rw [List.getD_eq_getElem?_getD, hf]
    rfl
  · have e : Γ.ar = P.map (·.ar) := of_decide_eq_true A.ar
    rw [e, List.getElem?_map] at hf
    exact Option.map_eq_some_iff.mp hf
  · have hl := (List.getElem?_eq_some_iff.mp hf).1
    have hs : sts[f]? = some (sts[f]'(by rw [A.ln]; exact hl)) := List.getElem?_eq_getElem _
    have hx : M.fns[f]? = some (M.fns[f]'(by rw [A.fl]; exact hl)) := List.getElem?_eq_getElem _
    obtain ⟨N, ps, D⟩ := A.defs f fn _ hf hs
    obtain ⟨fd, F⟩ := c2.def_ f (d := ddOf (M.fns[f]'(by rw [A.fl]; exact hl)) (sts[f]'(by rw [A.ln]; exact hl))) (by
      have z : (M.fns.zip sts)[f]? = some (M.fns[f]'(by rw [A.fl]; exact hl), sts[f]'(by rw [A.ln]; exact hl)) := List.getElem?_zip_eq_some.mpr ⟨hx, hs⟩
      show ((M.fns.zip sts).map fun p => ddOf p.1 p.2)[f]? = _
      rw [List.getElem?_map, z]
      rfl)
    have e : M.fns.getD f PySem.Str.empty = M.fns[f]'(by rw [A.fl]; exact hl) := by
      rw [List.getD_eq_getElem?_getD, hx]
      rfl
    refine fnx_of D (fd := fd) ?_
    rw [e]
    exact F
  · have := List.all_eq_true.mp A.kw _ hk
    simp only [decide_eq_true_eq] at this
    exact ⟨P[f], List.getElem?_eq_getElem this⟩
theorem law_facts {M : Nm} {Γ : Gm} {P : List Fn} {sts : List Stmt} (A : AllOk M Γ P sts) {f : Nat} {fn : Fn} {st : Stmt} {N : List PySem.Str} (D : DefOk Γ f st fn N ["script"]) (hf : P[f]? = some fn) (hs : sts[f]? = some st) (hl0 : decide (M.fns[f]? = some ("law" : PySem.Str)) = true) {prog : Program} {w : World} {K : PySem.W.Frag} {h : Heap} {mg : PySem.Str → Option Value} {fa : Addr}
    (X : K.In h) (G : h.Ns mainGlobals mg) (hfa : mg ("law" : PySem.Str) = some (.ref fa)) (c : SaysP (exK M Γ) (faOf Γ) (ddsOf M sts) K) (hg0 : glIs Γ ("law" : PySem.Str) (.fn f) = true) (n : Nat) :
    ∃ fd : FuncData, (∀ (s : Shared) (v : Value), BindsTo s fd ⟨[v], []⟩ [("script", v)]) ∧ noL K = true ∧ ∀ base : Heap, K.In base → base.Ns mainGlobals mg → FnOk prog w K mg base CX0 (2 * (n + 1)) fa fd ["script"] (spOf (tbOf K M Γ) (run Γ.fields P (n + 1)) f 1) := by
  obtain ⟨L, hnl⟩ := lawOk_of A X G c
  obtain ⟨c1, c2⟩ := c.ex
  have hl : M.fns[f]? = some ("law" : PySem.Str) := of_decide_eq_true hl0
  have hg : Γ.G.lookup ("law" : PySem.Str) = some (.fn f) := by
    unfold glIs at hg0
    split at hg0
    · rename_i d' e
      rw [e, gEq_of hg0]
    · cases hg0
  obtain ⟨fd, F⟩ := c2.def_ f (d := ddOf "law" st) (by
    have z : (M.fns.zip sts)[f]? = some (("law" : PySem.Str), st) := List.getElem?_zip_eq_some.mpr ⟨hl, hs⟩
    show ((M.fns.zip sts).map fun p => ddOf p.1 p.2)[f]? = _
    rw [List.getElem?_map, z]
    rfl)
  have e : (tbOf K M Γ).fa f = He.ga K ("law" : PySem.Str) := by
    show He.ga K (M.fns.getD f PySem.Str.empty) = _
    rw [List.getD_eq_getElem?_getD, hl]
    rfl
  have e2 : fa = (tbOf K M Γ).fa f := by
    have := L.glob _ _ hg
    have this : mg ("law" : PySem.Str) = some (.ref ((tbOf K M Γ).fa f)) := this
    rw [hfa] at this
    cases this
    rfl
  have F' : FunD K "law" "law" (defArgs st) (defBody st) (defScope st) [] [] ((tbOf K M Γ).fa f) fd := by
    rw [e]
    exact F
  refine ⟨fd, fun s v => ?_, hnl, fun base _ _ => ?_⟩
  · obtain ⟨oc, od, dV, kV, doc, pm, an, cdv, ct, osl, rfl, lk, hcd, hD, hK⟩ := F.ex
    rcases hD with ⟨_, rfl⟩ | ⟨e, _⟩
    · exact BindsTo.of_eq (D.b _ kV doc pm an cdv ct [v] rfl)
    · exact absurd rfl e
  · have := fn_step (prog := prog) (w := w) (base := base) L (fn_promise L n) hf F' D.sc D.n D.ar D.m
    rw [D.ar] at this
    rw [e2]
    exact this
/-- what walk_ofE asks -/
theorem law_end {M : Nm} {Γ : Gm} {P : List Fn} {sts : List Stmt} (A : AllOk M Γ P sts) {f : Nat} {fn : Fn} {st : Stmt} {N : List PySem.Str} (D : DefOk Γ f st fn N ["script"]) (hf : P[f]? = some fn) (hs : sts[f]? = some st) (hl0 : decide (M.fns[f]? = some ("law" : PySem.Str)) = true) {prog : Program} {w : World} {h : Heap} {mg : PySem.Str → Option Value} {fa : Addr}
    (Y : ∃ K : PySem.W.Frag, K.In h ∧ SaysP (exK M Γ) (faOf Γ) (ddsOf M sts) K) (G : h.Ns mainGlobals mg) (hfa : mg ("law" : PySem.Str) = some (.ref fa)) (hg0 : glIs Γ ("law" : PySem.Str) (.fn f) = true) (n most : Nat)
    (math : ∀ xs : List Int, xs.length ≤ most → ∃ C, run Γ.fields P (n + 1) f [.lst (xs.map .int)] [] = .ok (.bl true, C)) :
    ∃ (K : PySem.W.Frag) (fd : FuncData) (sp : Sp), K.In h ∧ (∀ (s : Shared) (u : Value), BindsTo s fd ⟨[u], []⟩ [("script", u)]) ∧
        (∀ (H : Hp) (a : Addr) (ns : List Int), ns.length ≤ most → Only H → SqL K H a (ns.map V.int) → sp [.ref a] H (fun v _ => v = .bl true) fun _ _ _ => False) ∧
        ∀ base : Heap, K.In base → base.Ns mainGlobals mg → FnOk prog w K mg base CX0 (2 * (n + 1)) fa fd ["script"] sp := by
  obtain ⟨K, KX, c⟩ := Y
  obtain ⟨fd, hb, hn, hF⟩ := law_facts (prog := prog) (w := w) A D hf hs hl0 KX G hfa c hg0 n
  exact ⟨K, fd, _, KX, hb, fun H a ns hl _ hS => law_sp (T := tbOf K M Γ) (P := P) hn math H a ns hl hS, hF⟩
end PM
end

section
set_option Elab.async false
set_option linter.all false
set_option maxRecDepth 1000000
namespace Lk02
open PySem PM
/-- inner -/
def f0 : Fn := ⟨1, 1, true, [.ite (.cmp .isIn (.idx (.var 0) (.k (.int (0)))) (.tup [.glob (.str "plus"), .glob (.str "times")])) [.ret (.idx (.var 0) (.k (.int (1))))] [], .ite (.cmp .eq (.idx (.var 0) (.k (.int (0)))) (.glob (.str "hear"))) [.ret (.slice (.var 0) (some (.k (.int (2)))) none)] [], .ret (.ite (.cmp .isIn (.idx (.var 0) (.k (.int (0)))) (.tup [.glob (.str "whole"), .glob (.str "total")])) (.slice (.var 0) (some (.k (.int (1)))) none) (.tup []))]⟩
/-- is_vector_within -/
def f1 : Fn := ⟨2, 2, true, [.ite (.cmp .isIn (.idx (.var 0) (.k (.int (0)))) (.tup [.glob (.str "whole"), .glob (.str "total")])) [.ret (.cmp .eq (.idx (.var 0) (.k (.int (0)))) (.glob (.str "total")))] [], .ret (.var 1)]⟩
/-- sorted_parts -/
def f2 : Fn := ⟨7, 1, true, [.par [1, 2] [.list [], .list [.tup [.var 0, .k (.bl false)]]], .while_ FUEL (.cmp .ne (.var 2) (.list [])) [.asg (.t [.v 4, .v 5]) (.pop (.var 2)), .expr (.append (.var 1) (.tup [.var 4, .var 5])), .asg (.v 3) (.call 1 [.var 4, .var 5]), .expr (.extend (.var 2) (.lc [6] (.v 6) 0 [.rev (.call 0 [.var 4])] [] (.tup [.var 6, .var 3])))], .ret (.var 1)]⟩
/-- hearing_parts -/
def f3 : Fn := ⟨1, 1, true, [.ret (.prim .len [.call 2 [.var 0]])]⟩
/-- heard_folded -/
def f4 : Fn := ⟨9, 2, true, [.par [2, 3] [.list [.tup [.var 0, .k (.bl false)]], .list []], .while_ FUEL (.cmp .ne (.var 2) (.list [])) [.asg (.t [.v 6, .v 5]) (.pop (.var 2)), .asg (.v 4) (.call 0 [.var 6]), .ite (.var 5) [.asg (.v 7) (.bin .sub (.prim .len [.var 3]) (.prim .len [.var 4])), .asg (.v 3) (.bin .add (.slice (.var 3) none (some (.var 7))) (.list [.callv 1 [.var 6, .prim .tuple1 [.slice (.var 3) (some (.var 7)) none]]]))] [.expr (.append (.var 2) (.tup [.var 6, .k (.bl true)])), .expr (.extend (.var 2) (.lc [8] (.v 8) 0 [.rev (.var 4)] [] (.tup [.var 8, .k (.bl false)])))]], .ret (.idx (.var 3) (.k (.int (0))))]⟩
/-- round_step -/
def f5 : Fn := ⟨7, 2, true, [.asg (.v 2) (.prim .maxL [.bin .add (.list [.k (.int (0))]) (.lc [4, 6] (.t [.v 4, .v 6]) 0 [.var 1] [] (.var 4))]), .asg (.v 3) (.prim .maxL [.bin .add (.list [.k (.int (0))]) (.lc [6, 5] (.t [.v 6, .v 5]) 0 [.var 1] [] (.var 5))]), .ite (.cmp .eq (.idx (.var 0) (.k (.int (0)))) (.glob (.str "hear"))) [.ret (.tup [.bin .add (.var 2) (.k (.int (1))), .var 3])] [], .ret (.ite (.cmp .isIn (.idx (.var 0) (.k (.int (0)))) (.tup [.glob (.str "total"), .glob (.str "whole")])) (.tup [.k (.int (0)), .prim .max2 [.var 2, .var 3]]) (.tup [.var 2, .var 3]))]⟩
/-- rounds_of -/
def f6 : Fn := ⟨1, 1, true, [.ret (.idx (.call 4 [.var 0, .glob (.fn 5)]) (.k (.int (1))))]⟩
/-- is_plain_factor -/
def f7 : Fn := ⟨1, 1, true, [.ret (.cmp .isIn (.idx (.var 0) (.k (.int (0)))) (.tup [.glob (.str "number"), .glob (.str "mark"), .glob (.str "whole")]))]⟩
/-- is_walk -/
def f8 : Fn := ⟨4, 1, true, [.for_ (.t [.v 1, .v 2]) 0 [.call 2 [.var 0]] [.ite (.and (.var 2) (.and (.cmp .eq (.idx (.var 1) (.k (.int (0)))) (.glob (.str "times"))) (.cmp .gt (.prim .len [.lc [3] (.v 3) 0 [.idx (.var 1) (.k (.int (1)))] [.not (.call 7 [.var 3])] (.var 3)]) (.k (.int (1)))))) [.ret (.k (.bl false))] []], .ret (.k (.bl true))]⟩
/-- _law_deal -/
def f9 : Fn := ⟨6, 2, false, [.asg (.v 2) (.bin .mul (.bin .mul (.bin .mul (.bin .mul (.bin .mul (.bin .pow (.k (.int (10))) (.k (.int (64)))) (.bin .pow (.k (.int (10))) (.k (.int (64))))) (.bin .pow (.k (.int (10))) (.k (.int (64))))) (.bin .pow (.k (.int (10))) (.k (.int (64))))) (.bin .pow (.k (.int (10))) (.k (.int (64))))) (.bin .pow (.k (.int (10))) (.k (.int (64))))), .asg (.v 3) (.lc [5] (.v 5) 0 [.slice (.var 0) none (some (.k (.int (63))))] [] (.bin .mod (.prim .int1 [.prim .abs [.prim .int1 [.var 5]]]) (.var 2))), .asg (.v 4) (.bin .add (.k (.int (70001))) (.bin .mul (.k (.int (7919))) (.var 1))), .for_ (.v 5) 0 [.var 3] [.asg (.v 4) (.bin .mod (.prim .int1 [.bin .add (.bin .add (.bin .mul (.var 4) (.k (.int (69621)))) (.bin .mod (.prim .int1 [.var 5]) (.k (.int (2147483563))))) (.k (.int (23)))]) (.k (.int (2147483647))))], .ret (.cell (.list [.cell (.rev (.lc [5] (.v 5) 0 [.var 3] [.cmp .ge (.var 5) (.bin .pow (.k (.int (10))) (.k (.int (18))))] (.var 5))), .var 4]))]⟩
/-- _law_any -/
def f10 : Fn := ⟨3, 2, true, [.while_ FUEL (.and (.cmp .gt (.prim .len [.idx (.var 0) (.k (.int (0)))]) (.k (.int (0)))) (.cmp .eq (.idx (.idx (.var 0) (.k (.int (0)))) (.neg (.k (.int (1))))) (.k (.int (0))))) [.expr (.pop (.idx (.var 0) (.k (.int (0)))))], .ite (.cmp .gt (.prim .len [.idx (.var 0) (.k (.int (0)))]) (.k (.int (0)))) [.asg (.v 2) (.prim .int1 [.pop (.idx (.var 0) (.k (.int (0))))]), .expr (.append (.idx (.var 0) (.k (.int (0)))) (.bin .fdiv (.var 2) (.var 1))), .ret (.bin .mod (.var 2) (.var 1))] [], .setI (.var 0) (.k (.int (1))) (.bin .mod (.prim .int1 [.bin .add (.bin .mul (.idx (.var 0) (.k (.int (1)))) (.k (.int (48271)))) (.k (.int (31)))]) (.k (.int (2147483647)))), .ret (.bin .mod (.prim .int1 [.bin .fdiv (.idx (.var 0) (.k (.int (1)))) (.k (.int (64)))]) (.var 1))]⟩
/-- _law_of -/
def f11 : Fn := ⟨2, 2, true, [.ret (.idx (.var 1) (.call 10 [.var 0, .prim .len [.var 1]]))]⟩
/-- _law_is_kind -/
def f12 : Fn := ⟨2, 2, true, [.ite (.cmp .is (.var 1) (.k (.non))) [.ret (.cmp .is (.var 0) (.k (.non)))] [], .ite (.or (.cmp .is (.var 1) (.k (.bl true))) (.cmp .is (.var 1) (.k (.bl false)))) [.ret (.ite (.var 1) (.cmp .is (.var 0) (.k (.bl true))) (.cmp .is (.var 0) (.k (.bl false))))] [], .ite (.prim (.isi [.ty "str"]) [.var 1]) [.ret (.and (.prim (.isi [.ty "str"]) [.var 0]) (.cmp .eq (.var 0) (.var 1)))] [], .ret (.and (.prim (.isi [.ty "int"]) [.var 0]) (.and (.not (.prim (.isi [.ty "bool"]) [.var 0])) (.cmp .eq (.var 0) (.var 1))))]⟩
/-- _law_same -/
def f13 : Fn := ⟨6, 2, true, [.asg (.v 2) (.list [.tup [.var 0, .var 1]]), .while_ FUEL (.cmp .gt (.prim .len [.var 2]) (.k (.int (0)))) [.asg (.t [.v 3, .v 4]) (.pop (.var 2)), .ite (.prim (.isi [.ty "tuple"]) [.var 4]) [.ite (.or (.not (.prim (.isi [.ty "tuple"]) [.var 3])) (.cmp .ne (.prim .len [.var 3]) (.prim .len [.var 4]))) [.ret (.k (.bl false))] [], .for_ (.v 5) 1 [.prim .len [.var 4]] [.expr (.append (.var 2) (.tup [.idx (.var 3) (.var 5), .idx (.var 4) (.var 5)]))]] [.ite (.or (.prim (.isi [.ty "tuple", .ty "list", .ty "dict"]) [.var 3]) (.not (.call 12 [.var 3, .var 4]))) [.ret (.k (.bl false))] []]], .ret (.k (.bl true))]⟩
/-- _law_all -/
def f14 : Fn := ⟨3, 1, true, [.ret (.cmp .eq (.prim .len [.lc [1, 2] (.t [.v 1, .v 2]) 0 [.var 0] [.not (.call 13 [.var 1, .var 2])] (.var 1)]) (.k (.int (0))))]⟩
/-- _law_mixed -/
def f15 : Fn := ⟨5, 2, true, [.par [4, 3] [.prim .list1 [.var 1], .list []], .for_ (.v 2) 1 [.prim .len [.var 1]] [.expr (.append (.var 3) (.popAt (.var 4) (.call 10 [.var 0, .prim .len [.var 4]])))], .ret (.var 3)]⟩
/-- _law_name -/
def f16 : Fn := ⟨3, 2, true, [.ret (.bin .add (.idx (.k (.str "abcdefghijklmnopqr")) (.var 1)) (.m1 .join (.k (.str "")) (.lc [2] (.v 2) 1 [.call 10 [.var 0, .k (.int (8))]] [] (.call 11 [.var 0, .prim .list1 [.k (.str "stuvwxyz")]]))))]⟩
/-- _law_kind -/
def f17 : Fn := ⟨8, 1, true, [.par [4, 5] [.lc [6] (.v 6) 0 [.slice (.call 15 [.var 0, .prim .listR1 [.k (.int (18))]]) none (some (.k (.int (4))))] [] (.call 16 [.var 0, .var 6]), .call 11 [.var 0, .list [.k (.int (0)), .k (.int (0)), .k (.int (1)), .k (.int (2))]]], .asg (.v 1) (.call 11 [.var 0, .list [.k (.int (0)), .k (.int (1)), .k (.int (1)), .k (.int (1)), .k (.int (2))]]), .asg (.v 2) (.ite (.cmp .gt (.var 1) (.k (.int (0)))) (.call 10 [.var 0, .bin .sub (.k (.int (3))) (.var 1)]) (.bin .add (.k (.int (1))) (.call 10 [.var 0, .k (.int (2))]))), .asg (.v 3) (.list [.slice (.var 4) none (some (.var 5)), .slice (.var 4) (some (.var 5)) (some (.bin .add (.var 5) (.var 1))), .slice (.bin .add (.slice (.var 4) (some (.bin .add (.var 5) (.var 1))) none) (.list [.k (.str "zzarrows"), .k (.str "zzways")])) none (some (.var 2))]), .ret (.prim .tuple1 [.lc [7] (.v 7) 0 [.var 3] [] (.prim .tuple1 [.prim .sorted1 [.var 7]])])]⟩
/-- _law_divisor -/
def f18 : Fn := ⟨2, 2, true, [.par [0, 1] [.prim .abs [.var 0], .prim .abs [.var 1]], .while_ FUEL (.cmp .ne (.var 1) (.k (.int (0)))) [.par [0, 1] [.var 1, .bin .mod (.prim .int1 [.var 0]) (.var 1)]], .ret (.var 0)]⟩
/-- _law_fraction -/
def f19 : Fn := ⟨3, 2, true, [.asg (.v 2) (.call 18 [.var 0, .var 1]), .ret (.tup [.prim .int1 [.bin .fdiv (.var 0) (.var 2)], .prim .int1 [.bin .fdiv (.var 1) (.var 2)]])]⟩
/-- _law_number -/
def f20 : Fn := ⟨2, 1, true, [.asg (.v 1) (.call 11 [.var 0, .list [.k (.int (0)), .k (.int (1)), .k (.int (1)), .k (.int (2)), .k (.int (3)), .k (.int (99))]]), .ret (.call 19 [.ite (.cmp .eq (.call 10 [.var 0, .k (.int (2))]) (.k (.int (0)))) (.var 1) (.bin .sub (.k (.int (0))) (.var 1)), .call 11 [.var 0, .list [.k (.int (1)), .k (.int (1)), .k (.int (1)), .k (.int (2)), .k (.int (3)), .k (.int (12))]]])]⟩
/-- _law_link_facts -/
def f21 : Fn := ⟨3, 1, true, [.ret (.prim .sorted1 [.bin .add (.bin .add (.lc [2] (.v 2) 0 [.idx (.var 0) (.k (.int (1)))] [] (.tup [.var 2, .k (.str "with")])) (.lc [1] (.v 1) 0 [.idx (.var 0) (.k (.int (2)))] [] (.tup [.var 1, .k (.str "out")]))) (.lc [1] (.v 1) 0 [.idx (.var 0) (.k (.int (2)))] [] (.tup [.var 1, .k (.str "in")]))])]⟩
/-- _law_link -/
def f22 : Fn := ⟨3, 2, true, [.asg (.v 2) (.call 21 [.var 1]), .ite (.cmp .gt (.call 10 [.var 0, .k (.int (3))]) (.k (.int (0)))) [.ret (.tup [.call 11 [.var 0, .var 2]])] [], .ret (.prim .tuple1 [.prim .sorted1 [.slice (.call 15 [.var 0, .var 2]) none (some (.bin .add (.k (.int (1))) (.call 10 [.var 0, .prim .len [.var 2]])))]])]⟩
/-- _law_leaf -/
def f23 : Fn := ⟨2, 2, true, [.ite (.and (.cmp .gt (.prim .len [.idx (.var 1) (.k (.int (0)))]) (.k (.int (0)))) (.cmp .eq (.call 10 [.var 0, .k (.int (2))]) (.k (.int (0))))) [.ret (.tup [.k (.str "mark"), .call 11 [.var 0, .idx (.var 1) (.k (.int (0)))]])] [], .ret (.tup [.k (.str "number"), .call 11 [.var 0, .list [.tup [.k (.int (1)), .k (.int (1))], .tup [.k (.int (1)), .k (.int (1))], .call 20 [.var 0]]]])]⟩
/-- _law_vector -/
def f24 : Fn := ⟨7, 4, true, [.asg (.v 4) (.ite (.cmp .gt (.var 2) (.k (.int (0)))) (.call 10 [.var 0, .k (.int (8))]) (.k (.int (0)))), .ite (.cmp .lt (.var 4) (.k (.int (2)))) [.ret (.call 23 [.var 0, .var 1])] [], .ite (.cmp .lt (.var 4) (.k (.int (5)))) [.ret (.tup [.k (.str "hear"), .call 22 [.var 0, .var 1], .call 24 [.var 0, .var 1, .bin .sub (.var 2) (.k (.int (1))), .var 3]])] [], .ite (.and (.cmp .eq (.var 4) (.k (.int (5)))) (.var 3)) [.ret (.tup [.k (.str "whole"), .call 25 [.var 0, .var 1, .bin .sub (.var 2) (.k (.int (1))), .var 3]])] [], .asg (.v 5) (.bin .add (.k (.int (2))) (.ite (.cmp .eq (.call 10 [.var 0, .k (.int (4))]) (.k (.int (0)))) (.k (.int (1))) (.k (.int (0))))), .ret (.tup [.ite (.cmp .eq (.var 4) (.k (.int (6)))) (.k (.str "plus")) (.k (.str "times")), .prim .tuple1 [.lc [6] (.v 6) 1 [.var 5] [] (.call 24 [.var 0, .var 1, .bin .sub (.var 2) (.k (.int (1))), .var 3])]])]⟩
/-- _law_hearing -/
def f25 : Fn := ⟨6, 4, true, [.asg (.v 4) (.ite (.cmp .gt (.var 2) (.k (.int (0)))) (.call 10 [.var 0, .k (.int (6))]) (.k (.int (0)))), .ite (.cmp .eq (.var 4) (.k (.int (0)))) [.ret (.ite (.cmp .gt (.var 2) (.k (.int (0)))) (.tup [.k (.str "number"), .call 20 [.var 0]]) (.tup [.k (.str "total"), .call 23 [.var 0, .var 1]]))] [], .ite (.cmp .lt (.var 4) (.k (.int (4)))) [.ret (.tup [.k (.str "total"), .call 24 [.var 0, .var 1, .bin .sub (.var 2) (.k (.int (1))), .var 3]])] [], .ret (.tup [.ite (.cmp .eq (.var 4) (.k (.int (4)))) (.k (.str "plus")) (.k (.str "times")), .prim .tuple1 [.lc [5] (.v 5) 1 [.k (.int (2))] [] (.call 25 [.var 0, .var 1, .bin .sub (.var 2) (.k (.int (1))), .var 3])]])]⟩
/-- _law_within -/
def f26 : Fn := ⟨1, 1, true, [.ite (.cmp .isIn (.idx (.var 0) (.k (.int (0)))) (.list [.k (.str "plus"), .k (.str "times")])) [.ret (.prim .list1 [.idx (.var 0) (.k (.int (1)))])] [], .ret (.ite (.cmp .eq (.idx (.var 0) (.k (.int (0)))) (.k (.str "hear"))) (.list [.idx (.var 0) (.k (.int (2)))]) (.ite (.cmp .isIn (.idx (.var 0) (.k (.int (0)))) (.list [.k (.str "whole"), .k (.str "total")])) (.list [.idx (.var 0) (.k (.int (1)))]) (.list [])))]⟩
/-- _law_all_within -/
def f27 : Fn := ⟨4, 1, true, [.par [1, 2] [.list [], .list [.var 0]], .while_ FUEL (.cmp .gt (.prim .len [.var 2]) (.k (.int (0)))) [.asg (.v 3) (.pop (.var 2)), .expr (.append (.var 1) (.var 3)), .asg (.v 2) (.bin .add (.var 2) (.rev (.call 26 [.var 3])))], .ret (.var 1)]⟩
/-- _law_some_hearing -/
def f28 : Fn := ⟨6, 4, true, [.asg (.v 4) (.call 25 [.var 0, .var 1, .var 2, .var 3]), .ite (.or (.cmp .gt (.prim .len [.call 27 [.var 4]]) (.k (.int (30)))) (.cmp .eq (.prim .len [.lc [5] (.v 5) 0 [.call 27 [.var 4]] [.cmp .eq (.idx (.var 5) (.k (.int (0)))) (.k (.str "hear"))] (.var 5)]) (.k (.int (0))))) [.ret (.tup [.k (.str "total"), .tup [.k (.str "hear"), .call 22 [.var 0, .var 1], .call 23 [.var 0, .var 1]]])] [], .ret (.var 4)]⟩
/-- _law_rounds -/
def f29 : Fn := ⟨6, 1, true, [.asg (.v 1) (.lc [4] (.v 4) 0 [.call 26 [.var 0]] [] (.call 29 [.var 4])), .par [2, 3] [.prim .maxL [.bin .add (.list [.k (.int (0))]) (.lc [5] (.v 5) 0 [.var 1] [] (.idx (.var 5) (.k (.int (0)))))], .prim .maxL [.bin .add (.list [.k (.int (0))]) (.lc [5] (.v 5) 0 [.var 1] [] (.idx (.var 5) (.k (.int (1)))))]], .ite (.cmp .eq (.idx (.var 0) (.k (.int (0)))) (.k (.str "hear"))) [.ret (.tup [.bin .add (.var 2) (.k (.int (1))), .var 3])] [], .ret (.ite (.cmp .isIn (.idx (.var 0) (.k (.int (0)))) (.list [.k (.str "total"), .k (.str "whole")])) (.tup [.k (.int (0)), .prim .max2 [.var 2, .var 3]]) (.tup [.var 2, .var 3]))]⟩
/-- _law_is_walk -/
def f30 : Fn := ⟨4, 2, true, [.ite (.and (.var 1) (.and (.cmp .eq (.idx (.var 0) (.k (.int (0)))) (.k (.str "times"))) (.cmp .gt (.prim .len [.lc [3] (.v 3) 0 [.idx (.var 0) (.k (.int (1)))] [.cmp .notIn (.idx (.var 3) (.k (.int (0)))) (.list [.k (.str "number"), .k (.str "mark"), .k (.str "whole")])] (.var 3)]) (.k (.int (1)))))) [.ret (.k (.bl false))] [], .asg (.v 2) (.or (.cmp .eq (.idx (.var 0) (.k (.int (0)))) (.k (.str "total"))) (.and (.var 1) (.cmp .ne (.idx (.var 0) (.k (.int (0)))) (.k (.str "whole"))))), .ret (.cmp .eq (.prim .len [.lc [3] (.v 3) 0 [.call 26 [.var 0]] [.not (.call 30 [.var 3, .var 2])] (.var 3)]) (.k (.int (0))))]⟩
/-- _law_asked -/
def f31 : Fn := ⟨4, 2, true, [.asg (.v 2) (.list [.prim .len [.call 27 [.var 0]], .idx (.call 29 [.var 0]) (.k (.int (1))), .call 30 [.var 0, .k (.bl false)]]), .asg (.v 3) (.list [.call 3 [.var 0], .call 6 [.var 0], .call 8 [.var 0]]), .asg (.v 3) (.ite (.var 1) (.list [.callk 3 [.var 0] [0], .callk 6 [.var 0] [0], .callk 8 [.var 0] [0]]) (.var 3)), .ret (.prim .listZip [.var 3, .var 2])]⟩
/-- law -/
def f32 : Fn := ⟨14, 1, true, [.asg (.v 1) (.call 9 [.var 0, .k (.int (602))]), .asg (.v 2) (.list []), .for_ (.v 3) 1 [.k (.int (10))] [.asg (.v 4) (.call 17 [.var 1]), .asg (.v 5) (.call 28 [.var 1, .var 4, .bin .add (.k (.int (1))) (.call 10 [.var 1, .k (.int (5))]), .k (.bl true)]), .asg (.v 2) (.bin .add (.var 2) (.call 31 [.var 5, .cmp .eq (.var 3) (.k (.int (0)))])), .par [10, 11] [.call 22 [.var 1, .var 4], .tup [.k (.str "number"), .tup [.k (.int (1)), .k (.int (1))]]], .asg (.v 6) (.tup [.k (.str "hear"), .var 10, .tup [.k (.str "times"), .tup [.tup [.k (.str "whole"), .var 5], .var 11]]]), .asg (.v 7) (.prim .max2 [.k (.int (1)), .idx (.call 29 [.var 5]) (.k (.int (1)))]), .asg (.v 2) (.bin .add (.var 2) (.list [.tup [.call 6 [.tup [.k (.str "total"), .var 6]], .var 7], .tup [.call 6 [.tup [.k (.str "total"), .tup [.k (.str "hear"), .var 10, .var 6]]], .prim .max2 [.k (.int (2)), .var 7]]])), .asg (.v 2) (.bin .add (.var 2) (.list [.tup [.call 3 [.tup [.k (.str "total"), .var 6]], .bin .add (.prim .len [.call 27 [.var 5]]) (.k (.int (5)))]])), .asg (.v 8) (.tup [.k (.str "total"), .tup [.k (.str "times"), .tup [.tup [.k (.str "hear"), .var 10, .var 11], .tup [.k (.str "hear"), .var 10, .var 11]]]]), .asg (.v 2) (.bin .add (.var 2) (.list [.tup [.call 8 [.var 8], .k (.bl false)], .tup [.call 8 [.tup [.k (.str "total"), .tup [.k (.str "whole"), .var 8]]], .k (.bl false)]])), .asg (.v 2) (.bin .add (.var 2) (.list [.tup [.call 8 [.tup [.k (.str "times"), .tup [.tup [.k (.str "total"), .tup [.k (.str "hear"), .var 10, .var 11]], .tup [.k (.str "total"), .tup [.k (.str "hear"), .var 10, .var 11]]]]], .k (.bl true)]])), .par [12, 13] [.var 11, .call 10 [.var 1, .k (.int (9))]], .for_ (.v 9) 1 [.var 13] [.asg (.v 12) (.tup [.k (.str "hear"), .call 22 [.var 1, .var 4], .var 12])], .asg (.v 2) (.bin .add (.bin .add (.var 2) (.list [.tup [.call 6 [.tup [.k (.str "total"), .var 12]], .var 13], .tup [.call 8 [.tup [.k (.str "total"), .var 12]], .k (.bl true)]])) (.call 31 [.tup [.k (.str "plus"), .tup [.tup [.k (.str "total"), .var 12], .var 5]], .k (.bl false)]))], .ret (.call 14 [.bin .add (.var 2) (.list [.tup [.call 6 [.tup [.k (.str "number"), .tup [.k (.int (2)), .k (.int (1))]]], .k (.int (0))], .tup [.call 3 [.tup [.k (.str "number"), .tup [.k (.int (2)), .k (.int (1))]]], .k (.int (1))], .tup [.call 8 [.tup [.k (.str "number"), .tup [.k (.int (2)), .k (.int (1))]]], .k (.bl true)]])])]⟩
def P : List Fn := [f0, f1, f2, f3, f4, f5, f6, f7, f8, f9, f10, f11, f12, f13, f14, f15, f16, f17, f18, f19, f20, f21, f22, f23, f24, f25, f26, f27, f28, f29, f30, f31, f32]
end Lk02
end

section
set_option Elab.async false
set_option linter.all false
set_option maxRecDepth 1000000
namespace Lk02
open PySem PM L2 PySem.Spec PyProof.Rows
def top (i : Nat) : Stmt := PySem.Challenge.pw_eachtongue_k02_rounds_and_walks_are_told.main.body.getD i (.Pass ⟨0, 0, 0, 0⟩)
def M : Nm := ⟨((["inner", "is_vector_within", "sorted_parts", "hearing_parts", "heard_folded", "round_step", "rounds_of", "is_plain_factor", "is_walk", "_law_deal", "_law_any", "_law_of", "_law_is_kind", "_law_same", "_law_all", "_law_mixed", "_law_name", "_law_kind", "_law_divisor", "_law_fraction", "_law_number", "_law_link_facts", "_law_link", "_law_leaf"] : List PySem.Str) ++ (["_law_vector", "_law_hearing", "_law_within", "_law_all_within", "_law_some_hearing", "_law_rounds", "_law_is_walk", "_law_asked", "law"] : List PySem.Str)), []⟩
def Γ : Gm := ⟨(([("inner", .fn 0), ("is_vector_within", .fn 1), ("sorted_parts", .fn 2), ("hearing_parts", .fn 3), ("heard_folded", .fn 4), ("round_step", .fn 5), ("rounds_of", .fn 6), ("is_plain_factor", .fn 7), ("is_walk", .fn 8), ("_law_deal", .fn 9), ("_law_any", .fn 10), ("_law_of", .fn 11), ("_law_is_kind", .fn 12), ("_law_same", .fn 13), ("_law_all", .fn 14), ("_law_mixed", .fn 15), ("_law_name", .fn 16), ("_law_kind", .fn 17), ("_law_divisor", .fn 18), ("_law_fraction", .fn 19), ("_law_number", .fn 20), ("_law_link_facts", .fn 21), ("_law_link", .fn 22), ("_law_leaf", .fn 23)] : List (PySem.Str × D)) ++ ([("_law_vector", .fn 24), ("_law_hearing", .fn 25), ("_law_within", .fn 26), ("_law_all_within", .fn 27), ("_law_some_hearing", .fn 28), ("_law_rounds", .fn 29), ("_law_is_walk", .fn 30), ("_law_asked", .fn 31), ("law", .fn 32), ("HEAR", .str "hear"), ("PLUS", .str "plus"), ("TIMES", .str "times"), ("WHOLE", .str "whole"), ("TOTAL", .str "total"), ("NUMBER", .str "number"), ("MARK", .str "mark")] : List (PySem.Str × D))), ["abs", "bool", "dict", "int", "isinstance", "len", "list", "max", "range", "sorted", "str", "tuple", "zip"], [], (([1, 2, 1, 1, 2, 2, 1, 1, 1, 2, 2, 2, 2, 2, 1, 2, 2, 1, 2, 2, 1, 1, 2, 2] : List Nat) ++ ([4, 4, 1, 1, 4, 1, 2, 2, 1] : List Nat)), [], [(3, ["program"], [0]), (6, ["program"], [0]), (8, ["program"], [0])]⟩
def sts : List Stmt := [top 8, top 9, top 10, top 11, top 12, top 13, top 14, top 15, top 16, top 18, top 19, top 20, top 21, top 22, top 23, top 24, top 25, top 26, top 27, top 28, top 29, top 30, top 31, top 32, top 33, top 34, top 35, top 36, top 37, top 38, top 39, top 40, top 41]
theorem d0 : DefOk Γ 0 (top 8) f0 ["part"] ["part"] := ⟨⟨rfl, rfl, rfl, by decide +kernel, rfl, by decide +kernel, by decide +kernel⟩, rfl, rfl, by decide +kernel, fun x kV doc pm an cdv ct us hl => match us, hl with | [_], _ => rfl, fun ks pm h => by
  simp only [Γ, List.mem_cons, List.not_mem_nil, or_false, Prod.mk.injEq] at h
  rcases h with ⟨h0, rfl, rfl⟩ | ⟨h0, rfl, rfl⟩ | ⟨h0, rfl, rfl⟩
  · exact absurd h0 (by decide)
  · exact absurd h0 (by decide)
  · exact absurd h0 (by decide)⟩
theorem d1 : DefOk Γ 1 (top 9) f1 ["part", "is_vector"] ["part", "is_vector"] := ⟨⟨rfl, rfl, rfl, by decide +kernel, rfl, by decide +kernel, by decide +kernel⟩, rfl, rfl, by decide +kernel, fun x kV doc pm an cdv ct us hl => match us, hl with | [_, _], _ => rfl, fun ks pm h => by
  simp only [Γ, List.mem_cons, List.not_mem_nil, or_false, Prod.mk.injEq] at h
  rcases h with ⟨h0, rfl, rfl⟩ | ⟨h0, rfl, rfl⟩ | ⟨h0, rfl, rfl⟩
  · exact absurd h0 (by decide)
  · exact absurd h0 (by decide)
  · exact absurd h0 (by decide)⟩
theorem d2 : DefOk Γ 2 (top 10) f2 ["program", "found", "todo", "late", "part", "is_vector", "other"] ["program"] := ⟨⟨rfl, rfl, rfl, by decide +kernel, rfl, by decide +kernel, by decide +kernel⟩, rfl, rfl, by decide +kernel, fun x kV doc pm an cdv ct us hl => match us, hl with | [_], _ => rfl, fun ks pm h => by
  simp only [Γ, List.mem_cons, List.not_mem_nil, or_false, Prod.mk.injEq] at h
  rcases h with ⟨h0, rfl, rfl⟩ | ⟨h0, rfl, rfl⟩ | ⟨h0, rfl, rfl⟩
  · exact absurd h0 (by decide)
  · exact absurd h0 (by decide)
  · exact absurd h0 (by decide)⟩
theorem d3 : DefOk Γ 3 (top 11) f3 ["program"] ["program"] := ⟨⟨rfl, rfl, rfl, by decide +kernel, rfl, by decide +kernel, by decide +kernel⟩, rfl, rfl, by decide +kernel, fun x kV doc pm an cdv ct us hl => match us, hl with | [_], _ => rfl, fun ks pm h => by
  simp only [Γ, List.mem_cons, List.not_mem_nil, or_false, Prod.mk.injEq] at h
  rcases h with ⟨h0, rfl, rfl⟩ | ⟨h0, rfl, rfl⟩ | ⟨h0, rfl, rfl⟩
  · exact ⟨rfl, by decide, fun x kV doc pmv an cdv ct ws hl => match ws, hl with | [_], _ => rfl⟩
  · exact absurd h0 (by decide)
  · exact absurd h0 (by decide)⟩
theorem d4 : DefOk Γ 4 (top 12) f4 ["program", "work", "todo", "done", "within", "is_ready", "part", "ahead", "other"] ["program", "work"] := ⟨⟨rfl, rfl, rfl, by decide +kernel, rfl, by decide +kernel, by decide +kernel⟩, rfl, rfl, by decide +kernel, fun x kV doc pm an cdv ct us hl => match us, hl with | [_, _], _ => rfl, fun ks pm h => by
  simp only [Γ, List.mem_cons, List.not_mem_nil, or_false, Prod.mk.injEq] at h
  rcases h with ⟨h0, rfl, rfl⟩ | ⟨h0, rfl, rfl⟩ | ⟨h0, rfl, rfl⟩
  · exact absurd h0 (by decide)
  · exact absurd h0 (by decide)
  · exact absurd h0 (by decide)⟩
theorem d5 : DefOk Γ 5 (top 13) f5 ["part", "pairs", "now", "best", "rounds", "most", "_"] ["part", "pairs"] := ⟨⟨rfl, rfl, rfl, by decide +kernel, rfl, by decide +kernel, by decide +kernel⟩, rfl, rfl, by decide +kernel, fun x kV doc pm an cdv ct us hl => match us, hl with | [_, _], _ => rfl, fun ks pm h => by
  simp only [Γ, List.mem_cons, List.not_mem_nil, or_false, Prod.mk.injEq] at h
  rcases h with ⟨h0, rfl, rfl⟩ | ⟨h0, rfl, rfl⟩ | ⟨h0, rfl, rfl⟩
  · exact absurd h0 (by decide)
  · exact absurd h0 (by decide)
  · exact absurd h0 (by decide)⟩
theorem d6 : DefOk Γ 6 (top 14) f6 ["program"] ["program"] := ⟨⟨rfl, rfl, rfl, by decide +kernel, rfl, by decide +kernel, by decide +kernel⟩, rfl, rfl, by decide +kernel, fun x kV doc pm an cdv ct us hl => match us, hl with | [_], _ => rfl, fun ks pm h => by
  simp only [Γ, List.mem_cons, List.not_mem_nil, or_false, Prod.mk.injEq] at h
  rcases h with ⟨h0, rfl, rfl⟩ | ⟨h0, rfl, rfl⟩ | ⟨h0, rfl, rfl⟩
  · exact absurd h0 (by decide)
  · exact ⟨rfl, by decide, fun x kV doc pmv an cdv ct ws hl => match ws, hl with | [_], _ => rfl⟩
  · exact absurd h0 (by decide)⟩
theorem d7 : DefOk Γ 7 (top 15) f7 ["part"] ["part"] := ⟨⟨rfl, rfl, rfl, by decide +kernel, rfl, by decide +kernel, by decide +kernel⟩, rfl, rfl, by decide +kernel, fun x kV doc pm an cdv ct us hl => match us, hl with | [_], _ => rfl, fun ks pm h => by
  simp only [Γ, List.mem_cons, List.not_mem_nil, or_false, Prod.mk.injEq] at h
  rcases h with ⟨h0, rfl, rfl⟩ | ⟨h0, rfl, rfl⟩ | ⟨h0, rfl, rfl⟩
  · exact absurd h0 (by decide)
  · exact absurd h0 (by decide)
  · exact absurd h0 (by decide)⟩
theorem d8 : DefOk Γ 8 (top 16) f8 ["program", "part", "is_vector", "other"] ["program"] := ⟨⟨rfl, rfl, rfl, by decide +kernel, rfl, by decide +kernel, by decide +kernel⟩, rfl, rfl, by decide +kernel, fun x kV doc pm an cdv ct us hl => match us, hl with | [_], _ => rfl, fun ks pm h => by
  simp only [Γ, List.mem_cons, List.not_mem_nil, or_false, Prod.mk.injEq] at h
  rcases h with ⟨h0, rfl, rfl⟩ | ⟨h0, rfl, rfl⟩ | ⟨h0, rfl, rfl⟩
  · exact absurd h0 (by decide)
  · exact absurd h0 (by decide)
  · exact ⟨rfl, by decide, fun x kV doc pmv an cdv ct ws hl => match ws, hl with | [_], _ => rfl⟩⟩
theorem d9 : DefOk Γ 9 (top 18) f9 ["script", "salt", "most", "cells", "mix", "cell"] ["script", "salt"] := ⟨⟨rfl, rfl, rfl, by decide +kernel, rfl, by decide +kernel, by decide +kernel⟩, rfl, rfl, by decide +kernel, fun x kV doc pm an cdv ct us hl => match us, hl with | [_, _], _ => rfl, fun ks pm h => by
  simp only [Γ, List.mem_cons, List.not_mem_nil, or_false, Prod.mk.injEq] at h
  rcases h with ⟨h0, rfl, rfl⟩ | ⟨h0, rfl, rfl⟩ | ⟨h0, rfl, rfl⟩
  · exact absurd h0 (by decide)
  · exact absurd h0 (by decide)
  · exact absurd h0 (by decide)⟩
theorem d10 : DefOk Γ 10 (top 19) f10 ["deal", "bound", "rest"] ["deal", "bound"] := ⟨⟨rfl, rfl, rfl, by decide +kernel, rfl, by decide +kernel, by decide +kernel⟩, rfl, rfl, by decide +kernel, fun x kV doc pm an cdv ct us hl => match us, hl with | [_, _], _ => rfl, fun ks pm h => by
  simp only [Γ, List.mem_cons, List.not_mem_nil, or_false, Prod.mk.injEq] at h
  rcases h with ⟨h0, rfl, rfl⟩ | ⟨h0, rfl, rfl⟩ | ⟨h0, rfl, rfl⟩
  · exact absurd h0 (by decide)
  · exact absurd h0 (by decide)
  · exact absurd h0 (by decide)⟩
theorem d11 : DefOk Γ 11 (top 20) f11 ["deal", "some"] ["deal", "some"] := ⟨⟨rfl, rfl, rfl, by decide +kernel, rfl, by decide +kernel, by decide +kernel⟩, rfl, rfl, by decide +kernel, fun x kV doc pm an cdv ct us hl => match us, hl with | [_, _], _ => rfl, fun ks pm h => by
  simp only [Γ, List.mem_cons, List.not_mem_nil, or_false, Prod.mk.injEq] at h
  rcases h with ⟨h0, rfl, rfl⟩ | ⟨h0, rfl, rfl⟩ | ⟨h0, rfl, rfl⟩
  · exact absurd h0 (by decide)
  · exact absurd h0 (by decide)
  · exact absurd h0 (by decide)⟩
theorem d12 : DefOk Γ 12 (top 21) f12 ["told", "due"] ["told", "due"] := ⟨⟨rfl, rfl, rfl, by decide +kernel, rfl, by decide +kernel, by decide +kernel⟩, rfl, rfl, by decide +kernel, fun x kV doc pm an cdv ct us hl => match us, hl with | [_, _], _ => rfl, fun ks pm h => by
  simp only [Γ, List.mem_cons, List.not_mem_nil, or_false, Prod.mk.injEq] at h
  rcases h with ⟨h0, rfl, rfl⟩ | ⟨h0, rfl, rfl⟩ | ⟨h0, rfl, rfl⟩
  · exact absurd h0 (by decide)
  · exact absurd h0 (by decide)
  · exact absurd h0 (by decide)⟩
theorem d13 : DefOk Γ 13 (top 22) f13 ["told", "due", "todo", "one", "other", "at"] ["told", "due"] := ⟨⟨rfl, rfl, rfl, by decide +kernel, rfl, by decide +kernel, by decide +kernel⟩, rfl, rfl, by decide +kernel, fun x kV doc pm an cdv ct us hl => match us, hl with | [_, _], _ => rfl, fun ks pm h => by
  simp only [Γ, List.mem_cons, List.not_mem_nil, or_false, Prod.mk.injEq] at h
  rcases h with ⟨h0, rfl, rfl⟩ | ⟨h0, rfl, rfl⟩ | ⟨h0, rfl, rfl⟩
  · exact absurd h0 (by decide)
  · exact absurd h0 (by decide)
  · exact absurd h0 (by decide)⟩
theorem d14 : DefOk Γ 14 (top 23) f14 ["pairs", "told", "due"] ["pairs"] := ⟨⟨rfl, rfl, rfl, by decide +kernel, rfl, by decide +kernel, by decide +kernel⟩, rfl, rfl, by decide +kernel, fun x kV doc pm an cdv ct us hl => match us, hl with | [_], _ => rfl, fun ks pm h => by
  simp only [Γ, List.mem_cons, List.not_mem_nil, or_false, Prod.mk.injEq] at h
  rcases h with ⟨h0, rfl, rfl⟩ | ⟨h0, rfl, rfl⟩ | ⟨h0, rfl, rfl⟩
  · exact absurd h0 (by decide)
  · exact absurd h0 (by decide)
  · exact absurd h0 (by decide)⟩
theorem d15 : DefOk Γ 15 (top 24) f15 ["deal", "some", "turn", "found", "left"] ["deal", "some"] := ⟨⟨rfl, rfl, rfl, by decide +kernel, rfl, by decide +kernel, by decide +kernel⟩, rfl, rfl, by decide +kernel, fun x kV doc pm an cdv ct us hl => match us, hl with | [_, _], _ => rfl, fun ks pm h => by
  simp only [Γ, List.mem_cons, List.not_mem_nil, or_false, Prod.mk.injEq] at h
  rcases h with ⟨h0, rfl, rfl⟩ | ⟨h0, rfl, rfl⟩ | ⟨h0, rfl, rfl⟩
  · exact absurd h0 (by decide)
  · exact absurd h0 (by decide)
  · exact absurd h0 (by decide)⟩
theorem d16 : DefOk Γ 16 (top 25) f16 ["deal", "at", "turn"] ["deal", "at"] := ⟨⟨rfl, rfl, rfl, by decide +kernel, rfl, by decide +kernel, by decide +kernel⟩, rfl, rfl, by decide +kernel, fun x kV doc pm an cdv ct us hl => match us, hl with | [_, _], _ => rfl, fun ks pm h => by
  simp only [Γ, List.mem_cons, List.not_mem_nil, or_false, Prod.mk.injEq] at h
  rcases h with ⟨h0, rfl, rfl⟩ | ⟨h0, rfl, rfl⟩ | ⟨h0, rfl, rfl⟩
  · exact absurd h0 (by decide)
  · exact absurd h0 (by decide)
  · exact absurd h0 (by decide)⟩
theorem d17 : DefOk Γ 17 (top 26) f17 ["deal", "ties", "arrows", "rows", "names", "marks", "at", "row"] ["deal"] := ⟨⟨rfl, rfl, rfl, by decide +kernel, rfl, by decide +kernel, by decide +kernel⟩, rfl, rfl, by decide +kernel, fun x kV doc pm an cdv ct us hl => match us, hl with | [_], _ => rfl, fun ks pm h => by
  simp only [Γ, List.mem_cons, List.not_mem_nil, or_false, Prod.mk.injEq] at h
  rcases h with ⟨h0, rfl, rfl⟩ | ⟨h0, rfl, rfl⟩ | ⟨h0, rfl, rfl⟩
  · exact absurd h0 (by decide)
  · exact absurd h0 (by decide)
  · exact absurd h0 (by decide)⟩
theorem d18 : DefOk Γ 18 (top 27) f18 ["one", "other"] ["one", "other"] := ⟨⟨rfl, rfl, rfl, by decide +kernel, rfl, by decide +kernel, by decide +kernel⟩, rfl, rfl, by decide +kernel, fun x kV doc pm an cdv ct us hl => match us, hl with | [_, _], _ => rfl, fun ks pm h => by
  simp only [Γ, List.mem_cons, List.not_mem_nil, or_false, Prod.mk.injEq] at h
  rcases h with ⟨h0, rfl, rfl⟩ | ⟨h0, rfl, rfl⟩ | ⟨h0, rfl, rfl⟩
  · exact absurd h0 (by decide)
  · exact absurd h0 (by decide)
  · exact absurd h0 (by decide)⟩
theorem d19 : DefOk Γ 19 (top 28) f19 ["top", "bottom", "both"] ["top", "bottom"] := ⟨⟨rfl, rfl, rfl, by decide +kernel, rfl, by decide +kernel, by decide +kernel⟩, rfl, rfl, by decide +kernel, fun x kV doc pm an cdv ct us hl => match us, hl with | [_, _], _ => rfl, fun ks pm h => by
  simp only [Γ, List.mem_cons, List.not_mem_nil, or_false, Prod.mk.injEq] at h
  rcases h with ⟨h0, rfl, rfl⟩ | ⟨h0, rfl, rfl⟩ | ⟨h0, rfl, rfl⟩
  · exact absurd h0 (by decide)
  · exact absurd h0 (by decide)
  · exact absurd h0 (by decide)⟩
theorem d20 : DefOk Γ 20 (top 29) f20 ["deal", "top"] ["deal"] := ⟨⟨rfl, rfl, rfl, by decide +kernel, rfl, by decide +kernel, by decide +kernel⟩, rfl, rfl, by decide +kernel, fun x kV doc pm an cdv ct us hl => match us, hl with | [_], _ => rfl, fun ks pm h => by
  simp only [Γ, List.mem_cons, List.not_mem_nil, or_false, Prod.mk.injEq] at h
  rcases h with ⟨h0, rfl, rfl⟩ | ⟨h0, rfl, rfl⟩ | ⟨h0, rfl, rfl⟩
  · exact absurd h0 (by decide)
  · exact absurd h0 (by decide)
  · exact absurd h0 (by decide)⟩
theorem d21 : DefOk Γ 21 (top 30) f21 ["kind", "arrow", "tie"] ["kind"] := ⟨⟨rfl, rfl, rfl, by decide +kernel, rfl, by decide +kernel, by decide +kernel⟩, rfl, rfl, by decide +kernel, fun x kV doc pm an cdv ct us hl => match us, hl with | [_], _ => rfl, fun ks pm h => by
  simp only [Γ, List.mem_cons, List.not_mem_nil, or_false, Prod.mk.injEq] at h
  rcases h with ⟨h0, rfl, rfl⟩ | ⟨h0, rfl, rfl⟩ | ⟨h0, rfl, rfl⟩
  · exact absurd h0 (by decide)
  · exact absurd h0 (by decide)
  · exact absurd h0 (by decide)⟩
theorem d22 : DefOk Γ 22 (top 31) f22 ["deal", "kind", "some"] ["deal", "kind"] := ⟨⟨rfl, rfl, rfl, by decide +kernel, rfl, by decide +kernel, by decide +kernel⟩, rfl, rfl, by decide +kernel, fun x kV doc pm an cdv ct us hl => match us, hl with | [_, _], _ => rfl, fun ks pm h => by
  simp only [Γ, List.mem_cons, List.not_mem_nil, or_false, Prod.mk.injEq] at h
  rcases h with ⟨h0, rfl, rfl⟩ | ⟨h0, rfl, rfl⟩ | ⟨h0, rfl, rfl⟩
  · exact absurd h0 (by decide)
  · exact absurd h0 (by decide)
  · exact absurd h0 (by decide)⟩
theorem d23 : DefOk Γ 23 (top 32) f23 ["deal", "kind"] ["deal", "kind"] := ⟨⟨rfl, rfl, rfl, by decide +kernel, rfl, by decide +kernel, by decide +kernel⟩, rfl, rfl, by decide +kernel, fun x kV doc pm an cdv ct us hl => match us, hl with | [_, _], _ => rfl, fun ks pm h => by
  simp only [Γ, List.mem_cons, List.not_mem_nil, or_false, Prod.mk.injEq] at h
  rcases h with ⟨h0, rfl, rfl⟩ | ⟨h0, rfl, rfl⟩ | ⟨h0, rfl, rfl⟩
  · exact absurd h0 (by decide)
  · exact absurd h0 (by decide)
  · exact absurd h0 (by decide)⟩
theorem d24 : DefOk Γ 24 (top 33) f24 ["deal", "kind", "left", "is_whole", "sort", "many", "turn"] ["deal", "kind", "left", "is_whole"] := ⟨⟨rfl, rfl, rfl, by decide +kernel, rfl, by decide +kernel, by decide +kernel⟩, rfl, rfl, by decide +kernel, fun x kV doc pm an cdv ct us hl => match us, hl with | [_, _, _, _], _ => rfl, fun ks pm h => by
  simp only [Γ, List.mem_cons, List.not_mem_nil, or_false, Prod.mk.injEq] at h
  rcases h with ⟨h0, rfl, rfl⟩ | ⟨h0, rfl, rfl⟩ | ⟨h0, rfl, rfl⟩
  · exact absurd h0 (by decide)
  · exact absurd h0 (by decide)
  · exact absurd h0 (by decide)⟩
theorem d25 : DefOk Γ 25 (top 34) f25 ["deal", "kind", "left", "is_whole", "sort", "turn"] ["deal", "kind", "left", "is_whole"] := ⟨⟨rfl, rfl, rfl, by decide +kernel, rfl, by decide +kernel, by decide +kernel⟩, rfl, rfl, by decide +kernel, fun x kV doc pm an cdv ct us hl => match us, hl with | [_, _, _, _], _ => rfl, fun ks pm h => by
  simp only [Γ, List.mem_cons, List.not_mem_nil, or_false, Prod.mk.injEq] at h
  rcases h with ⟨h0, rfl, rfl⟩ | ⟨h0, rfl, rfl⟩ | ⟨h0, rfl, rfl⟩
  · exact absurd h0 (by decide)
  · exact absurd h0 (by decide)
  · exact absurd h0 (by decide)⟩
theorem d26 : DefOk Γ 26 (top 35) f26 ["part"] ["part"] := ⟨⟨rfl, rfl, rfl, by decide +kernel, rfl, by decide +kernel, by decide +kernel⟩, rfl, rfl, by decide +kernel, fun x kV doc pm an cdv ct us hl => match us, hl with | [_], _ => rfl, fun ks pm h => by
  simp only [Γ, List.mem_cons, List.not_mem_nil, or_false, Prod.mk.injEq] at h
  rcases h with ⟨h0, rfl, rfl⟩ | ⟨h0, rfl, rfl⟩ | ⟨h0, rfl, rfl⟩
  · exact absurd h0 (by decide)
  · exact absurd h0 (by decide)
  · exact absurd h0 (by decide)⟩
theorem d27 : DefOk Γ 27 (top 36) f27 ["program", "found", "todo", "part"] ["program"] := ⟨⟨rfl, rfl, rfl, by decide +kernel, rfl, by decide +kernel, by decide +kernel⟩, rfl, rfl, by decide +kernel, fun x kV doc pm an cdv ct us hl => match us, hl with | [_], _ => rfl, fun ks pm h => by
  simp only [Γ, List.mem_cons, List.not_mem_nil, or_false, Prod.mk.injEq] at h
  rcases h with ⟨h0, rfl, rfl⟩ | ⟨h0, rfl, rfl⟩ | ⟨h0, rfl, rfl⟩
  · exact absurd h0 (by decide)
  · exact absurd h0 (by decide)
  · exact absurd h0 (by decide)⟩
theorem d28 : DefOk Γ 28 (top 37) f28 ["deal", "kind", "left", "is_whole", "program", "part"] ["deal", "kind", "left", "is_whole"] := ⟨⟨rfl, rfl, rfl, by decide +kernel, rfl, by decide +kernel, by decide +kernel⟩, rfl, rfl, by decide +kernel, fun x kV doc pm an cdv ct us hl => match us, hl with | [_, _, _, _], _ => rfl, fun ks pm h => by
  simp only [Γ, List.mem_cons, List.not_mem_nil, or_false, Prod.mk.injEq] at h
  rcases h with ⟨h0, rfl, rfl⟩ | ⟨h0, rfl, rfl⟩ | ⟨h0, rfl, rfl⟩
  · exact absurd h0 (by decide)
  · exact absurd h0 (by decide)
  · exact absurd h0 (by decide)⟩
theorem d29 : DefOk Γ 29 (top 38) f29 ["part", "pairs", "now", "best", "other", "pair"] ["part"] := ⟨⟨rfl, rfl, rfl, by decide +kernel, rfl, by decide +kernel, by decide +kernel⟩, rfl, rfl, by decide +kernel, fun x kV doc pm an cdv ct us hl => match us, hl with | [_], _ => rfl, fun ks pm h => by
  simp only [Γ, List.mem_cons, List.not_mem_nil, or_false, Prod.mk.injEq] at h
  rcases h with ⟨h0, rfl, rfl⟩ | ⟨h0, rfl, rfl⟩ | ⟨h0, rfl, rfl⟩
  · exact absurd h0 (by decide)
  · exact absurd h0 (by decide)
  · exact absurd h0 (by decide)⟩
theorem d30 : DefOk Γ 30 (top 39) f30 ["part", "is_vector", "late", "other"] ["part", "is_vector"] := ⟨⟨rfl, rfl, rfl, by decide +kernel, rfl, by decide +kernel, by decide +kernel⟩, rfl, rfl, by decide +kernel, fun x kV doc pm an cdv ct us hl => match us, hl with | [_, _], _ => rfl, fun ks pm h => by
  simp only [Γ, List.mem_cons, List.not_mem_nil, or_false, Prod.mk.injEq] at h
  rcases h with ⟨h0, rfl, rfl⟩ | ⟨h0, rfl, rfl⟩ | ⟨h0, rfl, rfl⟩
  · exact absurd h0 (by decide)
  · exact absurd h0 (by decide)
  · exact absurd h0 (by decide)⟩
theorem d31 : DefOk Γ 31 (top 40) f31 ["program", "is_named", "due", "told"] ["program", "is_named"] := ⟨⟨rfl, rfl, rfl, by decide +kernel, rfl, by decide +kernel, by decide +kernel⟩, rfl, rfl, by decide +kernel, fun x kV doc pm an cdv ct us hl => match us, hl with | [_, _], _ => rfl, fun ks pm h => by
  simp only [Γ, List.mem_cons, List.not_mem_nil, or_false, Prod.mk.injEq] at h
  rcases h with ⟨h0, rfl, rfl⟩ | ⟨h0, rfl, rfl⟩ | ⟨h0, rfl, rfl⟩
  · exact absurd h0 (by decide)
  · exact absurd h0 (by decide)
  · exact absurd h0 (by decide)⟩
theorem d32 : DefOk Γ 32 (top 41) f32 ["script", "deal", "pairs", "turn", "kind", "program", "heard", "rounds", "twice", "again", "link", "one", "row", "many"] ["script"] := ⟨⟨rfl, rfl, rfl, by decide +kernel, rfl, by decide +kernel, by decide +kernel⟩, rfl, rfl, by decide +kernel, fun x kV doc pm an cdv ct us hl => match us, hl with | [_], _ => rfl, fun ks pm h => by
  simp only [Γ, List.mem_cons, List.not_mem_nil, or_false, Prod.mk.injEq] at h
  rcases h with ⟨h0, rfl, rfl⟩ | ⟨h0, rfl, rfl⟩ | ⟨h0, rfl, rfl⟩
  · exact absurd h0 (by decide)
  · exact absurd h0 (by decide)
  · exact absurd h0 (by decide)⟩
theorem allok : AllOk M Γ P sts := ⟨by decide +kernel, by decide +kernel, by decide +kernel, rfl, rfl, fun f fn st h1 h2 => match f, h1, h2 with
  | 0, h1, h2 => by cases h1; cases h2; exact ⟨_, _, d0⟩
  | 1, h1, h2 => by cases h1; cases h2; exact ⟨_, _, d1⟩
  | 2, h1, h2 => by cases h1; cases h2; exact ⟨_, _, d2⟩
  | 3, h1, h2 => by cases h1; cases h2; exact ⟨_, _, d3⟩
  | 4, h1, h2 => by cases h1; cases h2; exact ⟨_, _, d4⟩
  | 5, h1, h2 => by cases h1; cases h2; exact ⟨_, _, d5⟩
  | 6, h1, h2 => by cases h1; cases h2; exact ⟨_, _, d6⟩
  | 7, h1, h2 => by cases h1; cases h2; exact ⟨_, _, d7⟩
  | 8, h1, h2 => by cases h1; cases h2; exact ⟨_, _, d8⟩
  | 9, h1, h2 => by cases h1; cases h2; exact ⟨_, _, d9⟩
  | 10, h1, h2 => by cases h1; cases h2; exact ⟨_, _, d10⟩
  | 11, h1, h2 => by cases h1; cases h2; exact ⟨_, _, d11⟩
  | 12, h1, h2 => by cases h1; cases h2; exact ⟨_, _, d12⟩
  | 13, h1, h2 => by cases h1; cases h2; exact ⟨_, _, d13⟩
  | 14, h1, h2 => by cases h1; cases h2; exact ⟨_, _, d14⟩
  | 15, h1, h2 => by cases h1; cases h2; exact ⟨_, _, d15⟩
  | 16, h1, h2 => by cases h1; cases h2; exact ⟨_, _, d16⟩
  | 17, h1, h2 => by cases h1; cases h2; exact ⟨_, _, d17⟩
  | 18, h1, h2 => by cases h1; cases h2; exact ⟨_, _, d18⟩
  | 19, h1, h2 => by cases h1; cases h2; exact ⟨_, _, d19⟩
  | 20, h1, h2 => by cases h1; cases h2; exact ⟨_, _, d20⟩
  | 21, h1, h2 => by cases h1; cases h2; exact ⟨_, _, d21⟩
  | 22, h1, h2 => by cases h1; cases h2; exact ⟨_, _, d22⟩
  | 23, h1, h2 => by cases h1; cases h2; exact ⟨_, _, d23⟩
  | 24, h1, h2 => by cases h1; cases h2; exact ⟨_, _, d24⟩
  | 25, h1, h2 => by cases h1; cases h2; exact ⟨_, _, d25⟩
  | 26, h1, h2 => by cases h1; cases h2; exact ⟨_, _, d26⟩
  | 27, h1, h2 => by cases h1; cases h2; exact ⟨_, _, d27⟩
  | 28, h1, h2 => by cases h1; cases h2; exact ⟨_, _, d28⟩
  | 29, h1, h2 => by cases h1; cases h2; exact ⟨_, _, d29⟩
  | 30, h1, h2 => by cases h1; cases h2; exact ⟨_, _, d30⟩
  | 31, h1, h2 => by cases h1; cases h2; exact ⟨_, _, d31⟩
  | 32, h1, h2 => by cases h1; cases h2; exact ⟨_, _, d32⟩
  | _ + 33, h1, h2 => by cases h1⟩
def nm0 : List PySem.Str := ["NUMBER", "MARK", "PLUS", "TIMES", "__name__", "HEAR", "WHOLE", "TOTAL", "inner", "is_vector_within", "sorted_parts", "hearing_parts", "heard_folded", "round_step", "rounds_of", "is_plain_factor", "is_walk", "_law_deal", "_law_any", "_law_of", "_law_is_kind", "_law_same", "_law_all", "_law_mixed"]
def nm1 : List PySem.Str := ["_law_name", "_law_kind", "_law_divisor", "_law_fraction", "_law_number", "_law_link_facts", "_law_link", "_law_leaf", "_law_vector", "_law_hearing", "_law_within", "_law_all_within", "_law_some_hearing", "_law_rounds", "_law_is_walk", "_law_asked"]
def loose : List PySem.Str := nm0 ++ nm1
abbrev R : PySem.W.OpenRow := PySem.W.OpenLaw.row PySem.Challenge.rw_eachtongue_k02_rounds_and_walks_are_told
abbrev q : Program := PySem.W.view R.prog [41]
abbrev hk : PySem.W.Hook := hookP (exK M Γ) 4 (faOf Γ) (ddsOf M sts)
def ob (s : PySem.W.SharedT) : He.AlD := obsPG (exK M Γ) 4 (faOf Γ) (ddsOf M sts) (HandSHeadRun.getT s)
theorem ob_eq (s : PySem.W.SharedT) : ob s = hk.obs s.abs := obsPG_eq (HandSHeadRun.getT_eq s)
theorem run (w : World) : HandSHeadRun.RunEq R q hk ob 6000 loose w := by
  intro os
  kernel_rfl
end Lk02
end

section
set_option Elab.async false
open PySem PM
namespace Mk
section
variable {F : Fields} {call : CallF} {S S1 : PS} {C : List D}
theorem exs_nx {m : MS} {ms : List MS} {out} (h : ex F call m S = .ok (.nx S1)) (k : exs F call ms S1 = out) : exs F call (m :: ms) S = out := by
  rw [exs, h]
  exact k
theorem exs_ret {m : MS} {ms : List MS} {d : D} (h : ex F call m S = .ok (.ret d S1)) : exs F call (m :: ms) S = .ok (.ret d S1) := by
  rw [exs, h]
  rfl
theorem exs_end : exs F call [] S = .ok (.nx S) := by rw [exs]
theorem run_ret {P : List Fn} {n f : Nat} {fn : Fn} {ds : List D} {d : D} {S : PS} {out} (L0 : List (Option D)) (hf : P[f]? = some fn) (hl : ds.length = fn.ar) (hL : ds.map some ++ List.replicate (fn.n - ds.length) none = L0) (he : exs F (PM.run F P n) fn.body ⟨L0, C⟩ = .ok (.ret d S)) (hx : endC fn.gc C.length d S.C = out) : PM.run F P (n + 1) f ds C = out := by
  subst hL
  rw [PM.run, hf]
  simp only [hl, if_true]
  rw [← hl, he]
  exact hx
theorem end_ok {n : Nat} {d : D} {C : List D} (hn : n = C.length) (hd : below C.length d = true) (hb : belows C.length C = true) : endC true n d C = .ok (d, C) := by
  subst hn
  simp [endC, hd, hb]
theorem ex_for {tg : Tg} {k : Nat} {its : List ME} {body : List MS} {vals ds : List D} {out} (h1 : evvs F call its S = .ok (vals, S1)) (h2 : itemsD k vals = some ds) (h3 : forL (fun S => exs F call body S) tg ds S1 = out) : ex F call (.for_ tg k its body) S = out := by
  unfold ex
  rw [h1]
  show (ofO (itemsD k vals)).bind _ = _
  rw [h2]
  exact h3
theorem ex_while {n : Nat} {t : ME} {body : List MS} {out} (h : whileL (fun S => evT F call t S) (fun S => exs F call body S) n S = out) : ex F call (.while_ n t body) S = out := by
  unfold ex
  exact h
theorem while_end {t : PS → PM.R (Bool × PS)} {b : PS → PM.R Fl} {n : Nat} (h : t S = .ok (false, S1)) : whileL t b (n + 1) S = .ok (.nx S1) := by
  rw [whileL, h]
  rfl
theorem while_step {t : PS → PM.R (Bool × PS)} {b : PS → PM.R Fl} {n : Nat} {S2 : PS} {out} (h : t S = .ok (true, S1)) (h2 : b S1 = .ok (.nx S2)) (k : whileL t b n S2 = out) : whileL t b (n + 1) S = out := by
  rw [whileL, h]
  show (b S1).bind _ = _
  rw [h2]
  exact k
theorem while_ret {t : PS → PM.R (Bool × PS)} {b : PS → PM.R Fl} {n : Nat} {S2 : PS} {d : D} (h : t S = .ok (true, S1)) (h2 : b S1 = .ok (.ret d S2)) : whileL t b (n + 1) S = .ok (.ret d S2) := by
  rw [whileL, h]
  show (b S1).bind _ = _
  rw [h2]
  rfl
theorem for_nil {body : PS → PM.R Fl} {tg : Tg} : forL body tg [] S = .ok (.nx S) := rfl
theorem for_step {body : PS → PM.R Fl} {tg : Tg} {d : D} {ds : List D} {L : List (Option D)} {out} (h1 : setTg tg d S.L = some L) (h2 : body ⟨L, S.C⟩ = .ok (.nx S1)) (k : forL body tg ds S1 = out) : forL body tg (d :: ds) S = out := by
  simp only [forL, h1, h2, ofO, PM.R.bind]
  exact k
theorem setTg_v {i : Nat} {d : D} {L : List (Option D)} (h : i < L.length) : setTg (.v i) d L = some (L.set i (some d)) := by
  simp [setTg, h]
theorem fuel_pos : ∃ n, FUEL = n + 1 := ⟨FUEL - 1, by decide +kernel⟩
theorem fuel_ge {k : Nat} (h : k < 10 ^ 200) : ∃ n, FUEL = n + (k + 1) := by
  have : 10 ^ 200 ≤ FUEL := by decide +kernel
  exact ⟨FUEL - (k + 1), by omega⟩
theorem ev_bin {op : Op} {a b : ME} {S2 : PS} {x y x' y' d : D} (h1 : bw (ev F call a S) = .ok (x, S1)) (h2 : bw (ev F call b S1) = .ok (y, S2)) (v1 : view S2 x = some x') (v2 : view S2 y = some y') (h : binD op x' y' = some d) : ev F call (.bin op a b) S = .ok (d, S2) := by
  unfold ev
  rw [h1]
  show (bw (ev F call b S1)).bind _ = _
  rw [h2]
  show ofO ((view S2 x).bind fun x => (view S2 y).bind fun y => (binD op x y).map fun d => (d, S2)) = _
  rw [v1, v2]
  show ofO ((binD op x' y').map fun d => (d, S2)) = _
  rw [h]
  rfl
theorem bw_ok {r : PM.R (D × PS)} {d d' : D} (h : r = .ok (d, S)) (e : tmp d = d') : bw r = .ok (d', S) := by
  rw [h]
  subst e
  rfl
theorem ex_asg {e : ME} {i : Nat} {d : D} (h : ev F call e S = .ok (d, S1)) (hd : (match d with | .loc _ => false | _ => true) = true) (hi : i < S1.L.length) : ex F call (.asg (.v i) e) S = .ok (.nx ⟨S1.L.set i (some d), S1.C⟩) := by
  unfold ex aw
  rw [h]
  cases d <;> first | contradiction | simp [asgTg, hi, PM.R.bind]
/-! ### comprehensions -/
theorem wipe_length : ∀ (own : List Nat) (L : List (Option D)), (wipeL L own).length = L.length
  | [], L => rfl
  | v :: vs, L => by simp only [wipeL, List.length_set, wipe_length vs L]
theorem rest_length : ∀ (own : List Nat) (L0 L : List (Option D)), (restL L0 own L).length = L.length
  | [], L0, L => rfl
  | v :: vs, L0, L => by simp only [restL, List.length_set, rest_length vs L0 L]
theorem rest_wipe (L0 : List (Option D)) : ∀ (own : List Nat) (L : List (Option D)), L.length = L0.length → wipeL L own = wipeL L0 own → restL L0 own L = L0 := by
  have w : ∀ (own : List Nat) (L : List (Option D)) (i : Nat), i < L.length → (wipeL L own)[i]? = if i ∈ own then some none else L[i]? := by
    intro own
    induction own with
    | nil => intro L i _; simp [wipeL]
    | cons v vs ih =>
      intro L i hi
      simp only [wipeL, List.getElem?_set, List.mem_cons]
      rw [wipe_length, ih L i hi]
      by_cases e : v = i
      · subst e; simp [hi]
      · rw [if_neg e]
        have : ¬ i = v := fun z => e z.symm
        simp [this]
  have r : ∀ (own : List Nat) (L : List (Option D)) (i : Nat), i < L.length → (restL L0 own L)[i]? = if i ∈ own then some (L0.getD i none) else L[i]? := by
    intro own
    induction own with
    | nil => intro L i _; simp [restL]
    | cons v vs ih =>
      intro L i hi
      simp only [restL, List.getElem?_set, List.mem_cons]
      rw [rest_length, ih L i hi]
      by_cases e : v = i
      · subst e; simp [hi]
      · rw [if_neg e]
        have : ¬ i = v := fun z => e z.symm
        simp [this]
  intro own L hl h
  apply List.ext_getElem?
  intro i
  by_cases hi : i < L.length
  · rw [r own L i hi]
    have a := w own L i hi
    have b := w own L0 i (by omega)
    rw [h, b] at a
    split
    · rw [List.getD_eq_getElem?_getD, List.getElem?_eq_getElem (by omega)]
      rfl
    · rename_i hn
      rw [if_neg hn, if_neg hn] at a
      exact a.symm
  · rw [List.getElem?_eq_none (by rw [rest_length]; omega), List.getElem?_eq_none (by omega)]
theorem set_length : ∀ (tg : Tg) (d : D) (L L1 : List (Option D)), setTg tg d L = some L1 → L1.length = L.length := by
  have : ∀ (n : Nat), (∀ (tg : Tg) (d : D) (L L1 : List (Option D)), sizeOf tg < n → setTg tg d L = some L1 → L1.length = L.length) ∧ (∀ (tg : List Tg) (d : List D) (L L1 : List (Option D)), sizeOf tg < n → setTgs tg d L = some L1 → L1.length = L.length) := by
    intro n
    induction n with
    | zero => exact ⟨fun _ _ _ _ h => absurd h (by omega), fun _ _ _ _ h => absurd h (by omega)⟩
    | succ n ih =>
      refine ⟨fun tg d L L1 h e => ?_, fun tg d L L1 h e => ?_⟩
      · cases tg with
        | v i =>
          simp only [setTg] at e
          split at e
          · cases e; simp
          · cases e
        | t gs =>
          cases d <;> simp only [setTg] at e <;> try cases e
          exact ih.2 gs _ L L1 (by simp at h; omega) e
      · cases tg with
        | nil => cases d <;> simp only [setTgs] at e <;> cases e; rfl
        | cons g gs =>
          cases d with
          | nil => simp only [setTgs] at e; cases e
          | cons d ds =>
            simp only [setTgs, Option.bind_eq_some_iff] at e
            obtain ⟨L2, e1, e2⟩ := e
            simp at h
            rw [ih.2 gs ds L2 L1 (by omega) e2, ih.1 g d L L2 (by omega) e1]
  intro tg d L L1 e
  exact (this (sizeOf tg + 1)).1 tg d L L1 (by omega) e
theorem lcL_pure {α : Type} {own : List Nat} {tg : Tg} {cond : PS → PM.R (Bool × PS)} {elt : PS → PM.R (D × PS)} {B : List (Option D)} {g : α → D} {c : α → Bool} {f : α → D} {Ld : α → List (Option D)} :
    ∀ (ds : List α) (acc : List D) (L : List (Option D)), wipeL L own = B → (∀ d ∈ ds, setTg tg (g d) B = some (Ld d) ∧ cond ⟨Ld d, C⟩ = .ok (c d, ⟨Ld d, C⟩) ∧ (c d = true → elt ⟨Ld d, C⟩ = .ok (f d, ⟨Ld d, C⟩)) ∧ wipeL (Ld d) own = B) → acc.length + ds.length < LIM →
      ∃ L', lcL own tg cond elt (ds.map g) acc ⟨L, C⟩ = .ok (acc ++ (ds.filter c).map f, ⟨L', C⟩) ∧ wipeL L' own = B ∧ L'.length = L.length
  | [], acc, L, hw, _, _ => ⟨L, by simp [lcL], hw, rfl⟩
  | d :: ds, acc, L, hw, h, hl => by
    obtain ⟨h1, h2, h3, h4⟩ := h d List.mem_cons_self
    have ll : (Ld d).length = L.length := by rw [set_length _ _ _ _ h1, ← hw, wipe_length]
    simp only [List.length_cons] at hl
    simp only [List.map_cons, lcL, hw, h1, ofO, PM.R.bind, h2]
    cases hc : c d with
    | false =>
      obtain ⟨L', e, k1, k2⟩ := lcL_pure ds acc (Ld d) h4 (fun x hx => h x (List.mem_cons_of_mem _ hx)) (by omega)
      exact ⟨L', by simp [e, hc], k1, k2.trans ll⟩
    | true =>
      obtain ⟨L', e, k1, k2⟩ := lcL_pure ds (acc ++ [f d]) (Ld d) h4 (fun x hx => h x (List.mem_cons_of_mem _ hx)) (by simp; omega)
      have : acc.length < LIM := by omega
      exact ⟨L', by simp [h3 hc, this, e, hc], k1, k2.trans ll⟩
theorem lcL_step {own : List Nat} {tg : Tg} {cond : PS → PM.R (Bool × PS)} {elt : PS → PM.R (D × PS)} {d v : D} {ds acc : List D} {S S1 S2 : PS} {L : List (Option D)} {out} (h1 : setTg tg d (wipeL S.L own) = some L) (h2 : cond ⟨L, S.C⟩ = .ok (true, S1)) (h3 : elt S1 = .ok (v, S2)) (h4 : acc.length < LIM) (k : lcL own tg cond elt ds (acc ++ [v]) S2 = out) : lcL own tg cond elt (d :: ds) acc S = out := by
  simp only [lcL, h1, ofO, PM.R.bind, h2, h3, h4, if_true]
  exact k
theorem ev_lc_st {own : List Nat} {tg : Tg} {k : Nat} {its cond : List ME} {elt : ME} {vals ds out : List D} {S2 : PS} (h1 : evvs F call its S = .ok (vals, S1)) (h2 : itemsD k vals = some ds) (h3 : noOwn S1.L own = true) (h : lcL own tg (fun S => evc F call cond S) (fun S => vw (ev F call elt S)) ds [] ⟨wipeL S1.L own, S1.C⟩ = .ok (out, S2)) : ev F call (.lc own tg k its cond elt) S = .ok (.nl out, ⟨restL S1.L own S2.L, S2.C⟩) := by
  unfold ev
  rw [h1]
  show (ofO (itemsD k vals)).bind _ = _
  rw [h2]
  show (if noOwn S1.L own then _ else _) = _
  rw [if_pos h3, h]
  rfl
theorem wipe_wipe (own : List Nat) (L : List (Option D)) : wipeL (wipeL L own) own = wipeL L own := by
  have w : ∀ (own : List Nat) (L : List (Option D)) (i : Nat), (wipeL L own)[i]? = if i ∈ own ∧ i < L.length then some none else L[i]? := by
    intro own
    induction own with
    | nil => intro L i; simp [wipeL]
    | cons v vs ih =>
      intro L i
      simp only [wipeL, List.getElem?_set, List.mem_cons]
      rw [wipe_length, ih L i]
      by_cases e : v = i
      · subst e
        by_cases hi : v < L.length
        · simp [hi]
        · simp [hi]
      · have : ¬ i = v := fun z => e z.symm
        rw [if_neg e]
        simp [this]
  apply List.ext_getElem?
  intro i
  rw [w, wipe_length, w]
  split <;> rfl
theorem ev_lc {α : Type} {own : List Nat} {tg : Tg} {k : Nat} {its cond : List ME} {elt : ME} {vals : List D} (ds : List α) (g : α → D) (c : α → Bool) (f : α → D) (Ld : α → List (Option D)) (h1 : evvs F call its S = .ok (vals, S1)) (h2 : itemsD k vals = some (ds.map g)) (h3 : noOwn S1.L own = true) (hl : ds.length < LIM)
    (h : ∀ d ∈ ds, setTg tg (g d) (wipeL S1.L own) = some (Ld d) ∧ evc F call cond ⟨Ld d, S1.C⟩ = .ok (c d, ⟨Ld d, S1.C⟩) ∧ (c d = true → vw (ev F call elt ⟨Ld d, S1.C⟩) = .ok (f d, ⟨Ld d, S1.C⟩)) ∧ wipeL (Ld d) own = wipeL S1.L own) :
    ev F call (.lc own tg k its cond elt) S = .ok (.nl ((ds.filter c).map f), S1) := by
  unfold ev
  rw [h1]
  show (ofO (itemsD k vals)).bind _ = _
  rw [h2]
  show (if noOwn S1.L own then _ else _) = _
  rw [if_pos h3]
  obtain ⟨L', e, k1, k2⟩ := lcL_pure (C := S1.C) (own := own) (tg := tg) (cond := fun S => evc F call cond S) (elt := fun S => vw (ev F call elt S)) (g := g) (c := c) (f := f) (Ld := Ld) ds [] (wipeL S1.L own) (wipe_wipe own S1.L) h (by simpa using hl)
  rw [e]
  show PM.R.ok (D.nl _, (⟨restL S1.L own L', S1.C⟩ : PS)) = _
  rw [rest_wipe S1.L own L' (k2.trans (wipe_length own S1.L)) k1, List.nil_append]
/-- a for that goes through -/
inductive ForTo (body : PS → PM.R Fl) (tg : Tg) : List D → PS → PS → Prop
  | nil {S : PS} : ForTo body tg [] S S
  | cons {d : D} {ds : List D} {S S2 S1 : PS} {L : List (Option D)} : setTg tg d S.L = some L → body ⟨L, S.C⟩ = .ok (.nx S2) → ForTo body tg ds S2 S1 → ForTo body tg (d :: ds) S S1
theorem ForTo.run {body : PS → PM.R Fl} {tg : Tg} {ds : List D} {S S1 : PS} (h : ForTo body tg ds S S1) : forL body tg ds S = .ok (.nx S1) := by
  induction h with
  | nil => rfl
  | cons h1 h2 _ ih => exact for_step h1 h2 ih
theorem ForTo.append {body : PS → PM.R Fl} {tg : Tg} {a b : List D} {S S2 S1 : PS} (h : ForTo body tg a S S2) (k : ForTo body tg b S2 S1) : ForTo body tg (a ++ b) S S1 := by
  induction h with
  | nil => exact k
  | cons h1 h2 _ ih => exact .cons h1 h2 (ih k)
end
end Mk
end

section
set_option Elab.async false
set_option linter.all false
open PySem PM
namespace Mk
theorem mul_fits {a b : Int} (h : fits b = true) : mulD (.int a) (.int b) = some (.int (a * b)) := by
  simp [mulD, h]
theorem add_ii (a b : Int) : addD (.int a) (.int b) = some (.int (a + b)) := rfl
def isD (l : List Int) : List D := l.map .int
theorem below_ints (m : Nat) : ∀ l : List Int, belows m (isD l) = true
  | [] => rfl
  | x :: l => by
    simp only [isD, List.map_cons, belows, below, Bool.true_and]
    exact below_ints m l
theorem isD_append (a b : List Int) : isD (a ++ b) = isD a ++ isD b := List.map_append
theorem isD_length (a : List Int) : (isD a).length = a.length := List.length_map ..
theorem ixN_nat {n k : Nat} (h : k < n) : L2.ixN n ((k : Nat) : Int) = some k := by
  unfold L2.ixN
  rw [if_pos (by omega), if_pos (by omega), Int.toNat_natCast]
theorem ixN_last {n : Nat} (h : 0 < n) : L2.ixN n (-1) = some (n - 1) := by
  unfold L2.ixN
  rw [if_neg (by omega), if_pos (by omega)]
  congr 1
  omega
theorem ixN_zero {n : Nat} (h : 0 < n) : L2.ixN n 0 = some 0 := by
  unfold L2.ixN
  rw [if_pos (by omega), if_pos (by omega)]
  rfl
theorem isD_get {f : List Int} {k : Nat} (h : k < f.length) : (isD f)[k]? = some (.int (f.getD k 0)) := by
  unfold isD
  rw [List.getElem?_map, List.getD_eq_getElem?_getD, List.getElem?_eq_getElem h]
  rfl
theorem isD_set (f : List Int) (k : Nat) (v : Int) : (isD f).set k (.int v) = isD (f.set k v) := by
  unfold isD
  rw [List.map_set]
theorem slice_last (l : List D) : sliceL l none (some (-1)) = l.dropLast := by
  have a : HT.sIx l.length 0 none = 0 := rfl
  have b : HT.sIx l.length l.length (some (-1)) = l.length - 1 := by
    show (if (-1 : Int) < 0 then ((-1 : Int) + (l.length : Int)).toNat else min (-1 : Int).toNat l.length) = _
    rw [if_pos (by decide)]
    omega
  unfold sliceL
  rw [a, b, List.drop_zero, Nat.sub_zero, List.dropLast_eq_take]
theorem intsOf_isD : ∀ l : List Int, intsOf (isD l) = some l
  | [] => rfl
  | x :: l => by
    simp only [isD, List.map_cons, intsOf]
    have := intsOf_isD l
    unfold isD at this
    rw [this]
    rfl
theorem add_lists (a b : List D) (h : a.length + b.length < 1000000) : addD (.lst a) (.lst b) = some (.nl (a ++ b)) := by
  have h2 : a.length + b.length < LIM := by rw [LIM_eq]; omega
  simp only [addD, h2, if_true]
theorem idx_last (l : List D) (d : D) : idxD (.lst (l ++ [d])) (.int (-1)) = some d := by
  have : L2.ixN (l ++ [d]).length (-1) = some l.length := by
    rw [ixN_last (by simp)]
    simp
  show (ixD _ _).bind _ = _
  unfold ixD
  rw [this]
  simp
theorem slice_to (l : List D) (k : Nat) : sliceL l none (some (k : Nat)) = l.take k := by
  have a : HT.sIx l.length 0 none = 0 := rfl
  have b : HT.sIx l.length l.length (some ((k : Nat) : Int)) = min k l.length := HT.sIx_nat _ _ _
  unfold sliceL
  rw [a, b, List.drop_zero, Nat.sub_zero]
  by_cases h : k ≤ l.length
  · rw [Nat.min_eq_left h]
  · rw [Nat.min_eq_right (by omega), List.take_length, List.take_of_length_le (by omega)]
def rgI (a : Int) : Nat → List Int
  | 0 => []
  | n + 1 => a :: rgI (a + 1) n
theorem range_isD : ∀ (m : Nat) (a : Int), (List.range m).map (fun (i : Nat) => D.int (a + i)) = isD (rgI a m)
  | 0, a => rfl
  | m + 1, a => by
    have ih := range_isD m (a + 1)
    rw [List.range_succ_eq_map, List.map_cons, List.map_map, rgI, isD, List.map_cons]
    unfold isD at ih
    rw [← ih]
    congr 1
    · congr 1; simp
    · apply List.map_congr_left
      intro i _
      show D.int (a + ((i + 1 : Nat) : Int)) = D.int (a + 1 + (i : Int))
      congr 1
      omega
theorem rangeD_isD (m : Nat) : rangeD 0 (m : Nat) = isD (rgI 0 m) := by
  unfold rangeD
  rw [show (((m : Nat) : Int) - 0).toNat = m by omega, range_isD]
theorem mem_rgI : ∀ (m : Nat) (a t : Int), t ∈ rgI a m ↔ a ≤ t ∧ t < a + m
  | 0, a, t => by simp [rgI]
  | m + 1, a, t => by
    rw [rgI, List.mem_cons, mem_rgI m (a + 1) t]
    omega
theorem length_rgI : ∀ (m : Nat) (a : Int), (rgI a m).length = m
  | 0, a => rfl
  | m + 1, a => by rw [rgI, List.length_cons, length_rgI m]
theorem pow10 (k : Nat) (hk : k < 100) : powD (.int 10) (.int (k : Nat)) = some (.int (10 ^ k)) := by
  have c : decide ((0 : Int) ≤ (k : Nat) ∧ ((k : Nat) : Int) ≤ 1000000 ∧ (10 : Int).natAbs < 2 ^ 64) = true := decide_eq_true ⟨by omega, by omega, by decide⟩
  simp only [powD, c, if_true, Int.toNat_natCast]
/-- the deal's heap -/
def Hp (cs : List Int) (mix : Int) : List D := [.nl (isD cs), .nl [.ref 0, .int mix]]
theorem below_Hp (cs : List Int) (mix : Int) : belows (Hp cs mix).length (Hp cs mix) = true := by
  show belows 2 [.nl (isD cs), .nl [.ref 0, .int mix]] = true
  simp [belows, below, below_ints]
theorem end_Hp (d : D) (cs cs' : List Int) (mix mix' : Int) (hd : below 2 d = true) : endC true (Hp cs mix).length d (Hp cs' mix') = .ok (d, Hp cs' mix') := by
  have h : belows 2 (Hp cs' mix') = true := below_Hp cs' mix'
  show (if true then (if below 2 d && belows 2 ((Hp cs' mix').take 2) then PM.R.ok (d, (Hp cs' mix').take 2) else .bad) else .ok (d, Hp cs' mix')) = _
  rw [show (Hp cs' mix').take 2 = Hp cs' mix' from rfl, hd, h]
  rfl
theorem idx_0 (a : D) (l : List D) : idxD (.lst (a :: l)) (.int 0) = some a := by
  show (ixD _ _).bind _ = _
  unfold ixD
  rw [ixN_zero (by simp)]
  rfl
theorem idx_1 (a b : D) (l : List D) : idxD (.lst (a :: b :: l)) (.int 1) = some b := by
  show (ixD _ _).bind _ = _
  unfold ixD
  rw [show L2.ixN (a :: b :: l).length 1 = some 1 from ixN_nat (k := 1) (by simp)]
  rfl
theorem last_isD (l : List Int) (x : Int) : idxD (.lst (isD (l ++ [x]))) (.int (-1)) = some (.int x) := by
  rw [isD_append]
  exact idx_last _ _
theorem eq_ii (a b : Int) : cmpD .eq (.int a) (.int b) = some (decide (a = b)) := rfl
theorem last_ints (l : List Int) : l = [] ∨ ∃ i q, l = i ++ [q] := by
  rcases List.eq_nil_or_concat l with h | ⟨i, q, h⟩
  · exact .inl h
  · exact .inr ⟨i, q, by simpa using h⟩
theorem mod_pos (a : Int) {b : Int} (h : 0 < b) : modD (.int a) (.int b) = some (.int (a % b)) := by
  show (if decide (b ≠ 0) then some (D.int (a.fmod b)) else none) = _
  rw [if_pos (by simp; omega), Int.fmod_eq_emod_of_nonneg _ (by omega)]
theorem fdiv_pos (a : Int) {b : Int} (h : 0 < b) (h2 : b < 1073741824) : fdivD (.int a) (.int b) = some (.int (a / b)) := by
  show (if decide (b ≠ 0 ∧ b.natAbs < 1073741824) then some (D.int (a.fdiv b)) else none) = _
  rw [if_pos (by simp; omega), Int.fdiv_eq_ediv_of_nonneg _ (by omega)]
theorem len_isD (l : List Int) : primD .len [.lst (isD l)] = some (.int ((l.length : Nat) : Int)) := by
  show some (D.int (((isD l).length : Nat) : Int)) = _
  rw [isD_length]
section
variable (F : Fields) (n : Nat)
theorem any_loop (b : D) (mix : Int) : ∀ (k m : Nat) (cs : List Int), cs.length ≤ k →
    ∃ cs' : List Int, whileL (fun S => evT F (PM.run F Lk02.P n) (.and (.cmp .gt (.prim .len [.idx (.var 0) (.k (.int (0)))]) (.k (.int (0)))) (.cmp .eq (.idx (.idx (.var 0) (.k (.int (0)))) (.neg (.k (.int (1))))) (.k (.int (0))))) S) (fun S => exs F (PM.run F Lk02.P n) [.expr (.pop (.idx (.var 0) (.k (.int (0)))))] S) (m + (k + 1)) ⟨[some (.ref 1), some b, none], Hp cs mix⟩ = .ok (.nx ⟨[some (.ref 1), some b, none], Hp cs' mix⟩) ∧ cs'.length ≤ cs.length := by
  intro k
  induction k with
  | zero =>
    intro m cs h
    have : cs = [] := List.eq_nil_of_length_eq_zero (by omega)
    subst this
    refine ⟨[], while_end ?_, Nat.le_refl _⟩
    have i0 := idx_0 (.ref 0) [.int mix]
    have ln := len_isD []
    generalize isD [] = A at ln
    have hg : ∀ cs mix, (Hp cs mix)[1]? = some (.nl [.ref 0, .int mix]) := fun _ _ => rfl
    have hg0 : ∀ cs mix, (Hp cs mix)[0]? = some (.nl (isD cs)) := fun _ _ => rfl
    simp [isOwn, tmp, view, frz, ex, aw, ev, evvs, evbs, evas, evo, evc, evT, vw, bw, slot, rd, setS, PM.R.bind, asgTg, asB, asI, ofO, setTg, setTgs, PM.R.bind_ok, Hp, i0, len_isD, cmpD]
  | succ k ih =>
    intro m cs h
    have i0 := idx_0 (.ref 0) [.int mix]
    rcases last_ints cs with rfl | ⟨i, q, rfl⟩
    · refine ⟨[], while_end ?_, Nat.le_refl _⟩
      simp [isOwn, tmp, view, frz, ex, aw, ev, evvs, evbs, evas, evo, evc, evT, vw, bw, slot, rd, setS, PM.R.bind, asgTg, asB, asI, ofO, setTg, setTgs, PM.R.bind_ok, Hp, i0, len_isD, cmpD]
    · have ln := len_isD (i ++ [q])
      have hp : (0 : Int) < (((i ++ [q]).length : Nat) : Int) := by rw [List.length_append, List.length_singleton]; omega
      have il := last_isD i q
      have eq := eq_ii q 0
      have lt : ∀ a b : Int, cmpD .gt (.int a) (.int b) = some (decide (b < a)) := fun _ _ => rfl
      by_cases e : q = 0
      · obtain ⟨cs', r, hl⟩ := ih m i (by rw [List.length_append, List.length_singleton] at h; omega)
        refine ⟨cs', while_step (S1 := ⟨[some (.ref 1), some b, none], Hp (i ++ [q]) mix⟩) (S2 := ⟨[some (.ref 1), some b, none], Hp i mix⟩) ?_ ?_ r, by rw [List.length_append]; omega⟩
        · rw [decide_eq_true e] at eq
          have hp2 : 0 < (i ++ [q]).length := by simp
          generalize i ++ [q] = cs at *
          simp [isOwn, tmp, view, frz, ex, aw, ev, evvs, evbs, evas, evo, evc, evT, vw, bw, slot, rd, setS, PM.R.bind, asgTg, asB, asI, ofO, setTg, setTgs, PM.R.bind_ok, Hp, i0, ln, lt, hp, hp2, il, eq]
        · have gl : (isD (i ++ [q])).getLast? = some (.int q) := by simp [isD]
          have dl : (isD (i ++ [q])).dropLast = isD i := by simp [isD]
          generalize i ++ [q] = cs at *
          simp [isOwn, tmp, view, frz, ex, aw, ev, evvs, evbs, evas, evo, evc, evT, vw, bw, slot, rd, setS, PM.R.bind, asgTg, asB, asI, ofO, setTg, setTgs, PM.R.bind_ok, exs, Hp, i0, ownL, chg, gl, dl]
      · refine ⟨i ++ [q], while_end ?_, Nat.le_refl _⟩
        rw [decide_eq_false e] at eq
        generalize i ++ [q] = cs at *
        simp [isOwn, tmp, view, frz, ex, aw, ev, evvs, evbs, evas, evo, evc, evT, vw, bw, slot, rd, setS, PM.R.bind, asgTg, asB, asI, ofO, setTg, setTgs, PM.R.bind_ok, Hp, i0, ln, lt, hp, il, eq]
theorem any_ok (b : Int) (h0 : 0 < b) (h1 : b < 1073741824) (cs : List Int) (mix : Int) (hc : cs.length ≤ 100) : ∃ (r : Int) (cs' : List Int) (mix' : Int), PM.run F Lk02.P (n + 1) 10 [.ref 1, .int b] (Hp cs mix) = .ok (.int r, Hp cs' mix') ∧ 0 ≤ r ∧ r < b ∧ cs'.length ≤ 100 := by
  obtain ⟨m, hf⟩ := fuel_ge (show 100 < 10 ^ 200 by decide +kernel)
  obtain ⟨cs1, w, hl⟩ := any_loop F n (.int b) mix 100 m cs hc
  rw [← hf] at w
  have i0 := idx_0 (.ref 0) [.int mix]
  have lt : ∀ a b : Int, cmpD .gt (.int a) (.int b) = some (decide (b < a)) := fun _ _ => rfl
  rcases last_ints cs1 with rfl | ⟨i, q, rfl⟩
  · have mz : ∀ a : Int, ∃ z, mulD (.int a) (.int 48271) = some (.int z) := fun a => ⟨_, mul_fits (show fits 48271 = true from (fits_is _).mpr (by decide))⟩
    obtain ⟨z, hz⟩ := mz mix
    have md := mod_pos (z + 31) (show (0 : Int) < 2147483647 by decide)
    generalize hm : (z + 31) % 2147483647 = mix' at md
    have fd := fdiv_pos mix' (show (0 : Int) < 64 by decide) (by decide)
    have md2 := mod_pos (mix' / 64) h0
    refine ⟨mix' / 64 % b, [], mix', ?_, Int.emod_nonneg _ (by omega), Int.emod_lt_of_pos _ h0, by simp⟩
    refine run_ret [some (.ref 1), some (.int b), none] (fn := Lk02.f10) (d := .int (mix' / 64 % b)) (S := ⟨[some (.ref 1), some (.int b), none], Hp [] mix'⟩) rfl rfl rfl ?_ (end_Hp _ _ _ _ _ rfl)
    refine exs_nx (ex_while w) ?_
    refine exs_nx (S1 := ⟨[some (.ref 1), some (.int b), none], Hp [] mix⟩) ?_ ?_
    · simp [isOwn, tmp, view, frz, ex, aw, ev, evvs, evbs, evas, evo, evc, evT, vw, bw, slot, rd, setS, PM.R.bind, asgTg, asB, asI, ofO, setTg, setTgs, PM.R.bind_ok, exs, Hp, i0, len_isD, cmpD]
    have i1 := idx_1 (.ref 0) (.int mix) []
    have i1' := idx_1 (.ref 0) (.int mix') []
    have pi : ∀ a : Int, primD .int1 [.int a] = some (.int a) := fun _ => rfl
    refine exs_nx (S1 := ⟨[some (.ref 1), some (.int b), none], Hp [] mix'⟩) ?_ (exs_ret ?_)
    · have x1 : L2.ixN 2 1 = some 1 := ixN_nat (n := 2) (k := 1) (by omega)
      simp [isOwn, tmp, view, frz, ex, aw, ev, evvs, evbs, evas, evo, evc, evT, vw, bw, slot, rd, setS, PM.R.bind, asgTg, asB, asI, ofO, setTg, setTgs, PM.R.bind_ok, Hp, i1, hz, binD, add_ii, pi, md, setAt, chg, x1]
    · simp [isOwn, tmp, view, frz, ex, aw, ev, evvs, evbs, evas, evo, evc, evT, vw, bw, slot, rd, setS, PM.R.bind, asgTg, asB, asI, ofO, setTg, setTgs, PM.R.bind_ok, Hp, i1', fd, md2, pi, binD]
  · have ln := len_isD (i ++ [q])
    have hp : (0 : Int) < (((i ++ [q]).length : Nat) : Int) := by rw [List.length_append, List.length_singleton]; omega
    have md := mod_pos q h0
    have fd := fdiv_pos q h0 h1
    rw [List.length_append, List.length_singleton] at hl
    refine ⟨q % b, i ++ [q / b], mix, ?_, Int.emod_nonneg _ (by omega), Int.emod_lt_of_pos _ h0, by rw [List.length_append, List.length_singleton]; omega⟩
    refine run_ret [some (.ref 1), some (.int b), none] (fn := Lk02.f10) (d := .int (q % b)) (S := ⟨[some (.ref 1), some (.int b), some (.int q)], Hp (i ++ [q / b]) mix⟩) rfl rfl rfl ?_ (end_Hp _ _ _ _ _ rfl)
    refine exs_nx (ex_while w) (exs_ret ?_)
    have gl : (isD (i ++ [q])).getLast? = some (.int q) := by simp [isD]
    have dl : (isD (i ++ [q])).dropLast = isD i := by simp [isD]
    have ap : isD i ++ [.int (q / b)] = isD (i ++ [q / b]) := by simp [isD]
    have hz : (isD i).length < LIM := by rw [LIM_eq, isD_length]; omega
    have pi : ∀ a : Int, primD .int1 [.int a] = some (.int a) := fun _ => rfl
    have hne : i ++ [q] ≠ [] := by simp
    generalize i ++ [q] = cs at *
    generalize i ++ [q / b] = cs' at *
    simp [isOwn, tmp, view, frz, ex, aw, ev, evvs, evbs, evas, evo, evc, evT, vw, bw, slot, rd, setS, PM.R.bind, asgTg, asB, asI, ofO, setTg, setTgs, PM.R.bind_ok, exs, Hp, i0, ln, lt, hp, ownL, chg, gl, dl, ap, hz, pi, md, fd, binD, hne]
theorem deal_consts : ∃ T T2 T3 T4 T5 T6 T18 : Int, powD (.int 10) (.int 64) = some (.int T) ∧ mulD (.int T) (.int T) = some (.int T2) ∧ mulD (.int T2) (.int T) = some (.int T3) ∧ mulD (.int T3) (.int T) = some (.int T4) ∧ mulD (.int T4) (.int T) = some (.int T5) ∧ mulD (.int T5) (.int T) = some (.int T6) ∧ 0 < T6 ∧ powD (.int 10) (.int 18) = some (.int T18) := by
  have pw : ∀ k : Nat, k < 100 → powD (.int 10) (.int (k : Nat)) = some (.int (10 ^ k)) := fun k hk => by
    have c : decide ((0 : Int) ≤ (k : Nat) ∧ ((k : Nat) : Int) ≤ 1000000 ∧ (10 : Int).natAbs < 2 ^ 64) = true := decide_eq_true ⟨by omega, by omega, by decide⟩
    simp only [powD, c, if_true, Int.toNat_natCast]
  have mb : ∀ k : Nat, k < 512 → mulD (.int (10 ^ k)) (.int (10 ^ 64)) = some (.int (10 ^ (k + 64))) := fun k hk => by
    have h1 : big (10 ^ k) = true := by
      rw [big_iff, Int.natAbs_pow]
      exact Nat.lt_trans (Nat.pow_lt_pow_right (by decide) hk : 10 ^ k < 10 ^ 512) (by decide +kernel)
    have h2 : big (10 ^ 64) = true := by
      rw [big_iff, Int.natAbs_pow]
      exact (by decide +kernel : 10 ^ 64 < 2 ^ 4000)
    simp only [mulD, h1, h2, Bool.and_self, Bool.or_true, if_true]
    rw [Int.pow_add]
  exact ⟨10 ^ 64, 10 ^ (64 + 64), 10 ^ (128 + 64), 10 ^ (192 + 64), 10 ^ (256 + 64), 10 ^ (320 + 64), 10 ^ 18, pw 64 (by decide), mb 64 (by decide), mb 128 (by decide), mb 192 (by decide), mb 256 (by decide), mb 320 (by decide), Int.pow_pos (by decide), pw 18 (by decide)⟩
theorem deal_loop (s0 s1 s2 : Option D) (cells : D) : ∀ (l : List Int) (mix : Int) (x : Option D), ∃ (mix' : Int) (y : Option D), forL (fun S => exs F (PM.run F Lk02.P n) [.asg (.v 4) (.bin .mod (.prim .int1 [.bin .add (.bin .add (.bin .mul (.var 4) (.k (.int (69621)))) (.bin .mod (.prim .int1 [.var 5]) (.k (.int (2147483563))))) (.k (.int (23)))]) (.k (.int (2147483647))))] S) (.v 5) (isD l) ⟨[s0, s1, s2, some cells, some (.int mix), x], []⟩ = .ok (.nx ⟨[s0, s1, s2, some cells, some (.int mix'), y], []⟩) ∧ (y = x ∨ ∃ v, y = some (.int v)) := by
  intro l
  induction l with
  | nil => exact fun mix x => ⟨mix, x, rfl, .inl rfl⟩
  | cons c l ih =>
    intro mix x
    have mz : ∃ z, mulD (.int mix) (.int 69621) = some (.int z) := ⟨_, mul_fits (show fits 69621 = true from (fits_is _).mpr (by decide))⟩
    obtain ⟨z, hz⟩ := mz
    have m1 := mod_pos c (show (0 : Int) < 2147483563 by decide)
    generalize c % 2147483563 = c' at m1
    have m2 := mod_pos (z + c' + 23) (show (0 : Int) < 2147483647 by decide)
    generalize (z + c' + 23) % 2147483647 = mix1 at m2
    obtain ⟨mix', y, r, hy⟩ := ih mix1 (some (.int c))
    refine ⟨mix', y, ?_, .inr (hy.elim (fun e => ⟨c, e⟩) id)⟩
    refine (for_step (setTg_v (by simp)) (exs_nx (S1 := ⟨[s0, s1, s2, some cells, some (.int mix1), some (.int c)], []⟩) ?_ exs_end) r)
    have pi : ∀ a : Int, primD .int1 [.int a] = some (.int a) := fun _ => rfl
    simp [isOwn, tmp, view, frz, ex, aw, ev, evvs, evbs, evas, evo, evc, evT, vw, bw, slot, rd, setS, PM.R.bind, asgTg, asB, asI, ofO, setTg, setTgs, PM.R.bind_ok, binD, hz, m1, add_ii, pi, m2]
theorem deal_ok (xs : List Int) (hx : xs.length ≤ 63) (salt : Int) : ∃ (cs : List Int) (mix : Int), PM.run F Lk02.P (n + 1) 9 [.lst (isD xs), .int salt] [] = .ok (.ref 1, Hp cs mix) ∧ cs.length ≤ 100 := by
  obtain ⟨T, T2, T3, T4, T5, T6, T18, c1, c2, c3, c4, c5, c6, c7, c8⟩ := deal_consts
  have mz : ∃ z, mulD (.int 7919) (.int salt) = some (.int z) := ⟨7919 * salt, by
    have : fits 7919 = true := (fits_is _).mpr (by decide)
    simp [mulD, this]⟩
  obtain ⟨z, hz⟩ := mz
  have pi : ∀ a : Int, primD .int1 [.int a] = some (.int a) := fun _ => rfl
  have pa : ∀ a : Int, primD .abs [.int a] = some (.int (if a < 0 then -a else a)) := fun _ => rfl
  have hs : sliceL (isD xs) none (some 63) = isD (xs.take 63) := by
    show sliceL (isD xs) none (some ((63 : Nat) : Int)) = _
    rw [slice_to]
    simp [isD]
  have hlc := ev_lc (F := F) (call := PM.run F Lk02.P n) (S := ⟨[some (.lst (isD xs)), some (.int salt), some (.int T6), none, none, none], []⟩) (S1 := ⟨[some (.lst (isD xs)), some (.int salt), some (.int T6), none, none, none], []⟩) (own := [5]) (tg := .v 5) (k := 0) (its := [.slice (.var 0) none (some (.k (.int (63))))]) (cond := []) (elt := .bin .mod (.prim .int1 [.prim .abs [.prim .int1 [.var 5]]]) (.var 2)) (vals := [.lst (isD (xs.take 63))]) (ds := xs.take 63) (g := .int) (c := fun _ => true) (f := fun x => .int ((if x < 0 then -x else x) % T6)) (Ld := fun x => [some (.lst (isD xs)), some (.int salt), some (.int T6), none, none, some (.int x)]) (by simp [isOwn, tmp, view, frz, ex, aw, ev, evvs, evbs, evas, evo, evc, evT, vw, bw, slot, rd, setS, PM.R.bind, asgTg, asB, asI, ofO, setTg, setTgs, PM.R.bind_ok, sliceD, hs]) rfl (by simp [isOwn, tmp, view, frz, ex, aw, ev, evvs, evbs, evas, evo, evc, evT, vw, bw, slot, rd, setS, PM.R.bind, asgTg, asB, asI, ofO, binD, add_ii, subD, cmpD, primD, itemsD, setTg, setTgs, wipeL, noOwn, idxD, sliceD, revD, PM.R.bind_ok]) (by rw [LIM_eq, List.length_take]; omega) (by
    intro x _
    have m := mod_pos (if x < 0 then -x else x) c7
    generalize (if x < 0 then -x else x) % T6 = v at m
    have pa := pa x
    generalize (if x < 0 then -x else x) = w at m pa
    simp [isOwn, tmp, view, frz, ex, aw, ev, evvs, evbs, evas, evo, evc, evT, vw, bw, slot, rd, setS, PM.R.bind, asgTg, asB, asI, ofO, setTg, setTgs, PM.R.bind_ok, pi, pa, binD, m, wipeL])
  generalize hcs : (((xs.take 63).filter fun _ => true).map fun x => (if x < 0 then -x else x) % T6) = cs
  have e : (((xs.take 63).filter fun _ => true).map fun x => D.int ((if x < 0 then -x else x) % T6)) = isD cs := by
    rw [← hcs]
    unfold isD
    rw [List.map_map]
    rfl
  have hcl : cs.length ≤ 63 := by
    rw [← hcs, List.length_map]
    refine Nat.le_trans (List.length_filter_le _ _) ?_
    rw [List.length_take]
    omega
  rw [e] at hlc
  obtain ⟨mix', y, r, hy⟩ := deal_loop F n (some (.lst (isD xs))) (some (.int salt)) (some (.int T6)) (.lst (isD cs)) cs (70001 + z) none
  have hlc2 := ev_lc (F := F) (call := PM.run F Lk02.P n) (S := ⟨[some (.lst (isD xs)), some (.int salt), some (.int T6), some (.lst (isD cs)), some (.int mix'), y], []⟩) (S1 := ⟨[some (.lst (isD xs)), some (.int salt), some (.int T6), some (.lst (isD cs)), some (.int mix'), y], []⟩) (own := [5]) (tg := .v 5) (k := 0) (its := [.var 3]) (cond := [.cmp .ge (.var 5) (.bin .pow (.k (.int (10))) (.k (.int (18))))]) (elt := .var 5) (vals := [.lst (isD cs)]) (ds := cs) (g := .int) (c := fun x => decide (T18 ≤ x)) (f := .int) (Ld := fun x => [some (.lst (isD xs)), some (.int salt), some (.int T6), some (.lst (isD cs)), some (.int mix'), some (.int x)]) (by simp [isOwn, tmp, view, frz, ex, aw, ev, evvs, evbs, evas, evo, evc, evT, vw, bw, slot, rd, setS, PM.R.bind, asgTg, asB, asI, ofO, setTg, setTgs, PM.R.bind_ok]) rfl (by rcases hy with rfl | ⟨v, rfl⟩ <;> simp [noOwn, slot, isOwn]) (by rw [LIM_eq]; omega) (by
    intro x _
    have cg : cmpD .ge (.int x) (.int T18) = some (decide (T18 ≤ x)) := rfl
    simp [isOwn, tmp, view, frz, ex, aw, ev, evvs, evbs, evas, evo, evc, evT, vw, bw, slot, rd, setS, PM.R.bind, asgTg, asB, asI, ofO, setTg, setTgs, PM.R.bind_ok, binD, c8, cg, wipeL])
  generalize hfs : (cs.filter fun x => decide (T18 ≤ x)) = fs at hlc2
  have hfl : fs.length ≤ 63 := by
    rw [← hfs]
    exact Nat.le_trans (List.length_filter_le _ _) hcl
  refine ⟨fs.reverse, mix', ?_, by rw [List.length_reverse]; omega⟩
  refine run_ret [some (.lst (isD xs)), some (.int salt), none, none, none, none] (fn := Lk02.f9) (d := .ref 1) (S := ⟨[some (.lst (isD xs)), some (.int salt), some (.int T6), some (.lst (isD cs)), some (.int mix'), y], Hp fs.reverse mix'⟩) rfl rfl rfl ?_ rfl
  refine exs_nx (S1 := ⟨[some (.lst (isD xs)), some (.int salt), some (.int T6), none, none, none], []⟩) ?_ ?_
  · simp [isOwn, tmp, view, frz, ex, aw, ev, evvs, evbs, evas, evo, evc, evT, vw, bw, slot, rd, setS, PM.R.bind, asgTg, asB, asI, ofO, setTg, setTgs, PM.R.bind_ok, binD, c1, c2, c3, c4, c5, c6]
  refine exs_nx (S1 := ⟨[some (.lst (isD xs)), some (.int salt), some (.int T6), some (.nl (isD cs)), none, none], []⟩) ?_ (exs_nx (S1 := ⟨[some (.lst (isD xs)), some (.int salt), some (.int T6), some (.nl (isD cs)), some (.int (70001 + z)), none], []⟩) ?_ ?_)
  · generalize ME.lc _ _ _ _ _ _ = le at hlc ⊢
    simp [isOwn, tmp, view, frz, ex, aw, ev, evvs, evbs, evas, evo, evc, evT, vw, bw, slot, rd, setS, PM.R.bind, asgTg, asB, asI, ofO, setTg, setTgs, PM.R.bind_ok, hlc]
  · simp [isOwn, tmp, view, frz, ex, aw, ev, evvs, evbs, evas, evo, evc, evT, vw, bw, slot, rd, setS, PM.R.bind, asgTg, asB, asI, ofO, setTg, setTgs, PM.R.bind_ok, binD, hz, add_ii]
  refine exs_nx (ex_for (S1 := ⟨[some (.lst (isD xs)), some (.int salt), some (.int T6), some (.lst (isD cs)), some (.int (70001 + z)), none], []⟩) (vals := [.lst (isD cs)]) (by simp [isOwn, tmp, view, frz, ex, aw, ev, evvs, evbs, evas, evo, evc, evT, vw, bw, slot, rd, setS, PM.R.bind, asgTg, asB, asI, ofO, setTg, setTgs, PM.R.bind_ok]) rfl r) (exs_ret ?_)
  generalize ME.lc _ _ _ _ _ _ = le at hlc2 ⊢
  have rv : revD (.lst (fs.map .int)) = some (.nl (isD fs.reverse)) := by simp [revD, isD]
  simp [isOwn, tmp, view, frz, ex, aw, ev, evvs, evbs, evas, evo, evc, evT, vw, bw, slot, rd, setS, PM.R.bind, asgTg, asB, asI, ofO, setTg, setTgs, PM.R.bind_ok, hlc2, rv, Hp]
end
end Mk
end

section
set_option Elab.async false
set_option linter.all false
open PySem PM
namespace Mk
theorem in_T1_number : cmpD .isIn (.str "number") (.tup [.str "plus", .str "times"]) = some false := by decide +kernel
theorem il_T1_number : cmpD .isIn (.str "number") (.lst [.str "plus", .str "times"]) = some false := by decide +kernel
theorem nl_T1_number : cmpD .notIn (.str "number") (.lst [.str "plus", .str "times"]) = some true := by decide +kernel
theorem in_T1_mark : cmpD .isIn (.str "mark") (.tup [.str "plus", .str "times"]) = some false := by decide +kernel
theorem il_T1_mark : cmpD .isIn (.str "mark") (.lst [.str "plus", .str "times"]) = some false := by decide +kernel
theorem nl_T1_mark : cmpD .notIn (.str "mark") (.lst [.str "plus", .str "times"]) = some true := by decide +kernel
theorem in_T1_hear : cmpD .isIn (.str "hear") (.tup [.str "plus", .str "times"]) = some false := by decide +kernel
theorem il_T1_hear : cmpD .isIn (.str "hear") (.lst [.str "plus", .str "times"]) = some false := by decide +kernel
theorem nl_T1_hear : cmpD .notIn (.str "hear") (.lst [.str "plus", .str "times"]) = some true := by decide +kernel
theorem in_T1_whole : cmpD .isIn (.str "whole") (.tup [.str "plus", .str "times"]) = some false := by decide +kernel
theorem il_T1_whole : cmpD .isIn (.str "whole") (.lst [.str "plus", .str "times"]) = some false := by decide +kernel
theorem nl_T1_whole : cmpD .notIn (.str "whole") (.lst [.str "plus", .str "times"]) = some true := by decide +kernel
theorem in_T1_total : cmpD .isIn (.str "total") (.tup [.str "plus", .str "times"]) = some false := by decide +kernel
theorem il_T1_total : cmpD .isIn (.str "total") (.lst [.str "plus", .str "times"]) = some false := by decide +kernel
theorem nl_T1_total : cmpD .notIn (.str "total") (.lst [.str "plus", .str "times"]) = some true := by decide +kernel
theorem in_T1_plus : cmpD .isIn (.str "plus") (.tup [.str "plus", .str "times"]) = some true := by decide +kernel
theorem il_T1_plus : cmpD .isIn (.str "plus") (.lst [.str "plus", .str "times"]) = some true := by decide +kernel
theorem nl_T1_plus : cmpD .notIn (.str "plus") (.lst [.str "plus", .str "times"]) = some false := by decide +kernel
theorem in_T1_times : cmpD .isIn (.str "times") (.tup [.str "plus", .str "times"]) = some true := by decide +kernel
theorem il_T1_times : cmpD .isIn (.str "times") (.lst [.str "plus", .str "times"]) = some true := by decide +kernel
theorem nl_T1_times : cmpD .notIn (.str "times") (.lst [.str "plus", .str "times"]) = some false := by decide +kernel
theorem in_T2_number : cmpD .isIn (.str "number") (.tup [.str "whole", .str "total"]) = some false := by decide +kernel
theorem il_T2_number : cmpD .isIn (.str "number") (.lst [.str "whole", .str "total"]) = some false := by decide +kernel
theorem nl_T2_number : cmpD .notIn (.str "number") (.lst [.str "whole", .str "total"]) = some true := by decide +kernel
theorem in_T2_mark : cmpD .isIn (.str "mark") (.tup [.str "whole", .str "total"]) = some false := by decide +kernel
theorem il_T2_mark : cmpD .isIn (.str "mark") (.lst [.str "whole", .str "total"]) = some false := by decide +kernel
theorem nl_T2_mark : cmpD .notIn (.str "mark") (.lst [.str "whole", .str "total"]) = some true := by decide +kernel
theorem in_T2_hear : cmpD .isIn (.str "hear") (.tup [.str "whole", .str "total"]) = some false := by decide +kernel
theorem il_T2_hear : cmpD .isIn (.str "hear") (.lst [.str "whole", .str "total"]) = some false := by decide +kernel
theorem nl_T2_hear : cmpD .notIn (.str "hear") (.lst [.str "whole", .str "total"]) = some true := by decide +kernel
theorem in_T2_whole : cmpD .isIn (.str "whole") (.tup [.str "whole", .str "total"]) = some true := by decide +kernel
theorem il_T2_whole : cmpD .isIn (.str "whole") (.lst [.str "whole", .str "total"]) = some true := by decide +kernel
theorem nl_T2_whole : cmpD .notIn (.str "whole") (.lst [.str "whole", .str "total"]) = some false := by decide +kernel
theorem in_T2_total : cmpD .isIn (.str "total") (.tup [.str "whole", .str "total"]) = some true := by decide +kernel
theorem il_T2_total : cmpD .isIn (.str "total") (.lst [.str "whole", .str "total"]) = some true := by decide +kernel
theorem nl_T2_total : cmpD .notIn (.str "total") (.lst [.str "whole", .str "total"]) = some false := by decide +kernel
theorem in_T2_plus : cmpD .isIn (.str "plus") (.tup [.str "whole", .str "total"]) = some false := by decide +kernel
theorem il_T2_plus : cmpD .isIn (.str "plus") (.lst [.str "whole", .str "total"]) = some false := by decide +kernel
theorem nl_T2_plus : cmpD .notIn (.str "plus") (.lst [.str "whole", .str "total"]) = some true := by decide +kernel
theorem in_T2_times : cmpD .isIn (.str "times") (.tup [.str "whole", .str "total"]) = some false := by decide +kernel
theorem il_T2_times : cmpD .isIn (.str "times") (.lst [.str "whole", .str "total"]) = some false := by decide +kernel
theorem nl_T2_times : cmpD .notIn (.str "times") (.lst [.str "whole", .str "total"]) = some true := by decide +kernel
theorem in_T3_number : cmpD .isIn (.str "number") (.tup [.str "total", .str "whole"]) = some false := by decide +kernel
theorem il_T3_number : cmpD .isIn (.str "number") (.lst [.str "total", .str "whole"]) = some false := by decide +kernel
theorem nl_T3_number : cmpD .notIn (.str "number") (.lst [.str "total", .str "whole"]) = some true := by decide +kernel
theorem in_T3_mark : cmpD .isIn (.str "mark") (.tup [.str "total", .str "whole"]) = some false := by decide +kernel
theorem il_T3_mark : cmpD .isIn (.str "mark") (.lst [.str "total", .str "whole"]) = some false := by decide +kernel
theorem nl_T3_mark : cmpD .notIn (.str "mark") (.lst [.str "total", .str "whole"]) = some true := by decide +kernel
theorem in_T3_hear : cmpD .isIn (.str "hear") (.tup [.str "total", .str "whole"]) = some false := by decide +kernel
theorem il_T3_hear : cmpD .isIn (.str "hear") (.lst [.str "total", .str "whole"]) = some false := by decide +kernel
theorem nl_T3_hear : cmpD .notIn (.str "hear") (.lst [.str "total", .str "whole"]) = some true := by decide +kernel
theorem in_T3_whole : cmpD .isIn (.str "whole") (.tup [.str "total", .str "whole"]) = some true := by decide +kernel
theorem il_T3_whole : cmpD .isIn (.str "whole") (.lst [.str "total", .str "whole"]) = some true := by decide +kernel
theorem nl_T3_whole : cmpD .notIn (.str "whole") (.lst [.str "total", .str "whole"]) = some false := by decide +kernel
theorem in_T3_total : cmpD .isIn (.str "total") (.tup [.str "total", .str "whole"]) = some true := by decide +kernel
theorem il_T3_total : cmpD .isIn (.str "total") (.lst [.str "total", .str "whole"]) = some true := by decide +kernel
theorem nl_T3_total : cmpD .notIn (.str "total") (.lst [.str "total", .str "whole"]) = some false := by decide +kernel
theorem in_T3_plus : cmpD .isIn (.str "plus") (.tup [.str "total", .str "whole"]) = some false := by decide +kernel
theorem il_T3_plus : cmpD .isIn (.str "plus") (.lst [.str "total", .str "whole"]) = some false := by decide +kernel
theorem nl_T3_plus : cmpD .notIn (.str "plus") (.lst [.str "total", .str "whole"]) = some true := by decide +kernel
theorem in_T3_times : cmpD .isIn (.str "times") (.tup [.str "total", .str "whole"]) = some false := by decide +kernel
theorem il_T3_times : cmpD .isIn (.str "times") (.lst [.str "total", .str "whole"]) = some false := by decide +kernel
theorem nl_T3_times : cmpD .notIn (.str "times") (.lst [.str "total", .str "whole"]) = some true := by decide +kernel
theorem in_T4_number : cmpD .isIn (.str "number") (.tup [.str "number", .str "mark", .str "whole"]) = some true := by decide +kernel
theorem il_T4_number : cmpD .isIn (.str "number") (.lst [.str "number", .str "mark", .str "whole"]) = some true := by decide +kernel
theorem nl_T4_number : cmpD .notIn (.str "number") (.lst [.str "number", .str "mark", .str "whole"]) = some false := by decide +kernel
theorem in_T4_mark : cmpD .isIn (.str "mark") (.tup [.str "number", .str "mark", .str "whole"]) = some true := by decide +kernel
theorem il_T4_mark : cmpD .isIn (.str "mark") (.lst [.str "number", .str "mark", .str "whole"]) = some true := by decide +kernel
theorem nl_T4_mark : cmpD .notIn (.str "mark") (.lst [.str "number", .str "mark", .str "whole"]) = some false := by decide +kernel
theorem in_T4_hear : cmpD .isIn (.str "hear") (.tup [.str "number", .str "mark", .str "whole"]) = some false := by decide +kernel
theorem il_T4_hear : cmpD .isIn (.str "hear") (.lst [.str "number", .str "mark", .str "whole"]) = some false := by decide +kernel
theorem nl_T4_hear : cmpD .notIn (.str "hear") (.lst [.str "number", .str "mark", .str "whole"]) = some true := by decide +kernel
theorem in_T4_whole : cmpD .isIn (.str "whole") (.tup [.str "number", .str "mark", .str "whole"]) = some true := by decide +kernel
theorem il_T4_whole : cmpD .isIn (.str "whole") (.lst [.str "number", .str "mark", .str "whole"]) = some true := by decide +kernel
theorem nl_T4_whole : cmpD .notIn (.str "whole") (.lst [.str "number", .str "mark", .str "whole"]) = some false := by decide +kernel
theorem in_T4_total : cmpD .isIn (.str "total") (.tup [.str "number", .str "mark", .str "whole"]) = some false := by decide +kernel
theorem il_T4_total : cmpD .isIn (.str "total") (.lst [.str "number", .str "mark", .str "whole"]) = some false := by decide +kernel
theorem nl_T4_total : cmpD .notIn (.str "total") (.lst [.str "number", .str "mark", .str "whole"]) = some true := by decide +kernel
theorem in_T4_plus : cmpD .isIn (.str "plus") (.tup [.str "number", .str "mark", .str "whole"]) = some false := by decide +kernel
theorem il_T4_plus : cmpD .isIn (.str "plus") (.lst [.str "number", .str "mark", .str "whole"]) = some false := by decide +kernel
theorem nl_T4_plus : cmpD .notIn (.str "plus") (.lst [.str "number", .str "mark", .str "whole"]) = some true := by decide +kernel
theorem in_T4_times : cmpD .isIn (.str "times") (.tup [.str "number", .str "mark", .str "whole"]) = some false := by decide +kernel
theorem il_T4_times : cmpD .isIn (.str "times") (.lst [.str "number", .str "mark", .str "whole"]) = some false := by decide +kernel
theorem nl_T4_times : cmpD .notIn (.str "times") (.lst [.str "number", .str "mark", .str "whole"]) = some true := by decide +kernel
theorem eq_number_hear : cmpD .eq (.str "number") (.str "hear") = some false := by decide +kernel
theorem eq_number_total : cmpD .eq (.str "number") (.str "total") = some false := by decide +kernel
theorem eq_number_times : cmpD .eq (.str "number") (.str "times") = some false := by decide +kernel
theorem eq_number_whole : cmpD .eq (.str "number") (.str "whole") = some false := by decide +kernel
theorem ne_number_whole : cmpD .ne (.str "number") (.str "whole") = some true := by decide +kernel
theorem eq_mark_hear : cmpD .eq (.str "mark") (.str "hear") = some false := by decide +kernel
theorem eq_mark_total : cmpD .eq (.str "mark") (.str "total") = some false := by decide +kernel
theorem eq_mark_times : cmpD .eq (.str "mark") (.str "times") = some false := by decide +kernel
theorem eq_mark_whole : cmpD .eq (.str "mark") (.str "whole") = some false := by decide +kernel
theorem ne_mark_whole : cmpD .ne (.str "mark") (.str "whole") = some true := by decide +kernel
theorem eq_hear_hear : cmpD .eq (.str "hear") (.str "hear") = some true := by decide +kernel
theorem eq_hear_total : cmpD .eq (.str "hear") (.str "total") = some false := by decide +kernel
theorem eq_hear_times : cmpD .eq (.str "hear") (.str "times") = some false := by decide +kernel
theorem eq_hear_whole : cmpD .eq (.str "hear") (.str "whole") = some false := by decide +kernel
theorem ne_hear_whole : cmpD .ne (.str "hear") (.str "whole") = some true := by decide +kernel
theorem eq_whole_hear : cmpD .eq (.str "whole") (.str "hear") = some false := by decide +kernel
theorem eq_whole_total : cmpD .eq (.str "whole") (.str "total") = some false := by decide +kernel
theorem eq_whole_times : cmpD .eq (.str "whole") (.str "times") = some false := by decide +kernel
theorem eq_whole_whole : cmpD .eq (.str "whole") (.str "whole") = some true := by decide +kernel
theorem ne_whole_whole : cmpD .ne (.str "whole") (.str "whole") = some false := by decide +kernel
theorem eq_total_hear : cmpD .eq (.str "total") (.str "hear") = some false := by decide +kernel
theorem eq_total_total : cmpD .eq (.str "total") (.str "total") = some true := by decide +kernel
theorem eq_total_times : cmpD .eq (.str "total") (.str "times") = some false := by decide +kernel
theorem eq_total_whole : cmpD .eq (.str "total") (.str "whole") = some false := by decide +kernel
theorem ne_total_whole : cmpD .ne (.str "total") (.str "whole") = some true := by decide +kernel
theorem eq_plus_hear : cmpD .eq (.str "plus") (.str "hear") = some false := by decide +kernel
theorem eq_plus_total : cmpD .eq (.str "plus") (.str "total") = some false := by decide +kernel
theorem eq_plus_times : cmpD .eq (.str "plus") (.str "times") = some false := by decide +kernel
theorem eq_plus_whole : cmpD .eq (.str "plus") (.str "whole") = some false := by decide +kernel
theorem ne_plus_whole : cmpD .ne (.str "plus") (.str "whole") = some true := by decide +kernel
theorem eq_times_hear : cmpD .eq (.str "times") (.str "hear") = some false := by decide +kernel
theorem eq_times_total : cmpD .eq (.str "times") (.str "total") = some false := by decide +kernel
theorem eq_times_times : cmpD .eq (.str "times") (.str "times") = some true := by decide +kernel
theorem eq_times_whole : cmpD .eq (.str "times") (.str "whole") = some false := by decide +kernel
theorem ne_times_whole : cmpD .ne (.str "times") (.str "whole") = some true := by decide +kernel

inductive A where
  | s (x : PySem.Str) | p (a b : Int)
def aD : A → D
  | .s x => .str x
  | .p a b => .tup [.int a, .int b]
def lD (l : List (PySem.Str × PySem.Str)) : D := .tup (l.map fun q => .tup [.str q.1, .str q.2])
/-- a hearing program, a vector -/
inductive T where
  | leaf (m : Bool) (a : A) | hear (l : List (PySem.Str × PySem.Str)) (t : T) | whole (t : T) | total (t : T) | plus (ts : List T) | times (ts : List T)
mutual
def tD : T → D
  | .leaf m a => .tup [.str (if m then "mark" else "number"), aD a]
  | .hear l t => .tup [.str "hear", lD l, tD t]
  | .whole t => .tup [.str "whole", tD t]
  | .total t => .tup [.str "total", tD t]
  | .plus ts => .tup [.str "plus", .tup (tDs ts)]
  | .times ts => .tup [.str "times", .tup (tDs ts)]
def tDs : List T → List D
  | [] => []
  | t :: ts => tD t :: tDs ts
end
theorem tDs_map : ∀ ts : List T, tDs ts = ts.map tD
  | [] => rfl
  | t :: ts => by rw [tDs, tDs_map ts]; rfl
def kids : T → List T
  | .leaf _ _ => []
  | .hear _ t => [t]
  | .whole t => [t]
  | .total t => [t]
  | .plus ts => ts
  | .times ts => ts
def vin : T → Bool → Bool
  | .whole _, _ => false
  | .total _, _ => true
  | _, v => v
mutual
def sz : T → Nat
  | .leaf _ _ => 1
  | .hear _ t => 1 + sz t
  | .whole t => 1 + sz t
  | .total t => 1 + sz t
  | .plus ts => 1 + szs ts
  | .times ts => 1 + szs ts
def szs : List T → Nat
  | [] => 0
  | t :: ts => sz t + szs ts
end
theorem sz_kids (t : T) : sz t = 1 + szs (kids t) := by
  cases t <;> simp [sz, kids, szs]
mutual
def pre : Bool → T → List (T × Bool)
  | v, .leaf m a => [(.leaf m a, v)]
  | v, .hear l t => (.hear l t, v) :: pre v t
  | v, .whole t => (.whole t, v) :: pre false t
  | v, .total t => (.total t, v) :: pre true t
  | v, .plus ts => (.plus ts, v) :: pres v ts
  | v, .times ts => (.times ts, v) :: pres v ts
def pres : Bool → List T → List (T × Bool)
  | _, [] => []
  | v, t :: ts => pre v t ++ pres v ts
end
theorem pre_kids (v : Bool) (t : T) : pre v t = (t, v) :: pres (vin t v) (kids t) := by
  cases t <;> simp [pre, kids, pres, vin]
mutual
theorem length_pre : ∀ (v : Bool) (t : T), (pre v t).length = sz t
  | v, .leaf m a => rfl
  | v, .hear l t => by rw [pre, sz, List.length_cons, length_pre v t, Nat.add_comm]
  | v, .whole t => by rw [pre, sz, List.length_cons, length_pre false t, Nat.add_comm]
  | v, .total t => by rw [pre, sz, List.length_cons, length_pre true t, Nat.add_comm]
  | v, .plus ts => by rw [pre, sz, List.length_cons, length_pres v ts, Nat.add_comm]
  | v, .times ts => by rw [pre, sz, List.length_cons, length_pres v ts, Nat.add_comm]
theorem length_pres : ∀ (v : Bool) (ts : List T), (pres v ts).length = szs ts
  | v, [] => rfl
  | v, t :: ts => by rw [pres, szs, List.length_append, length_pre v t, length_pres v ts]
end
theorem plain_lD (l : List (PySem.Str × PySem.Str)) : PM.plain (lD l) = true := by
  rw [lD, PM.plain]
  induction l with
  | nil => rfl
  | cons q l ih =>
    rw [List.map_cons, plains, ih]
    rfl
theorem dep_lD (l : List (PySem.Str × PySem.Str)) : dep (lD l) ≤ 2 := by
  rw [lD, dep]
  have : deps (l.map fun q => D.tup [.str q.1, .str q.2]) ≤ 1 := by
    induction l with
    | nil => simp [deps]
    | cons q l ih =>
      rw [List.map_cons, deps]
      have : dep (D.tup [.str q.1, .str q.2]) = 1 := by simp [dep, deps]
      omega
  omega
mutual
theorem plain_tD : ∀ t : T, PM.plain (tD t) = true
  | .leaf m a => by cases a <;> simp [tD, aD, PM.plain, plains]
  | .hear l t => by simp [tD, PM.plain, plains, plain_lD, plain_tD t]
  | .whole t => by simp [tD, PM.plain, plains, plain_tD t]
  | .total t => by simp [tD, PM.plain, plains, plain_tD t]
  | .plus ts => by simp [tD, PM.plain, plains, plains_tDs ts]
  | .times ts => by simp [tD, PM.plain, plains, plains_tDs ts]
theorem plains_tDs : ∀ ts : List T, plains (tDs ts) = true
  | [] => rfl
  | t :: ts => by simp [tDs, plains, plain_tD t, plains_tDs ts]
end
theorem below_lD (m : Nat) (l : List (PySem.Str × PySem.Str)) : below m (lD l) = true := by
  rw [lD, below]
  induction l with
  | nil => rfl
  | cons q l ih =>
    rw [List.map_cons, belows, ih]
    rfl
mutual
theorem below_tD (m : Nat) : ∀ t : T, below m (tD t) = true
  | .leaf _ a => by cases a <;> simp [tD, aD, below, belows]
  | .hear l t => by simp [tD, below, belows, below_lD, below_tD m t]
  | .whole t => by simp [tD, below, belows, below_tD m t]
  | .total t => by simp [tD, below, belows, below_tD m t]
  | .plus ts => by simp [tD, below, belows, belows_tDs m ts]
  | .times ts => by simp [tD, below, belows, belows_tDs m ts]
theorem belows_tDs (m : Nat) : ∀ ts : List T, belows m (tDs ts) = true
  | [] => rfl
  | t :: ts => by simp [tDs, belows, below_tD m t, belows_tDs m ts]
end
theorem deps_of : ∀ {ts : List T} {k : T}, k ∈ ts → dep (tD k) ≤ deps (tDs ts)
  | t :: ts, k, h => by
    rw [tDs, deps]
    rcases List.mem_cons.mp h with rfl | h
    · omega
    · have := deps_of h
      omega
theorem dep_kid {t k : T} (h : k ∈ kids t) : dep (tD k) ≤ dep (tD t) := by
  cases t with
  | leaf m a => simp [kids] at h
  | hear l t => simp only [kids, List.mem_singleton] at h; subst h; simp only [tD, dep, deps]; omega
  | whole t => simp only [kids, List.mem_singleton] at h; subst h; simp only [tD, dep, deps]; omega
  | total t => simp only [kids, List.mem_singleton] at h; subst h; simp only [tD, dep, deps]; omega
  | plus ts => simp only [kids] at h; have := deps_of h; simp only [tD, dep, deps]; omega
  | times ts => simp only [kids] at h; have := deps_of h; simp only [tD, dep, deps]; omega
/-- a part of a form -/
theorem tD_tup (t : T) : ∃ l, tD t = .tup l := by
  cases t <;> exact ⟨_, rfl⟩
section
variable (F : Fields) (n : Nat) (C : List D) (hb : belows C.length C = true)
include hb
theorem inner_ok (t : T) : PM.run F Lk02.P (n + 1) 0 [tD t] C = .ok (.tup (tDs (kids t)), C) := by
  refine run_ret [some (tD t)] (fn := Lk02.f0) (d := .tup (tDs (kids t))) (S := ⟨[some (tD t)], C⟩) rfl rfl rfl ?_ (end_ok rfl (belows_tDs _ _) hb)
  have i0 : ∀ (a : D) (l : List D), idxD (.tup (a :: l)) (.int 0) = some a := fun a l => by
    show (ixD _ _).bind _ = _
    unfold ixD
    rw [ixN_zero (by simp)]
    rfl
  have i1 : ∀ (a b : D) (l : List D), idxD (.tup (a :: b :: l)) (.int 1) = some b := fun a b l => by
    show (ixD _ _).bind _ = _
    unfold ixD
    rw [show L2.ixN (a :: b :: l).length 1 = some 1 from ixN_nat (k := 1) (by simp)]
    rfl
  have s2 : ∀ a b c : D, sliceD (.tup [a, b, c]) (some 2) none = some (.tup [c]) := fun _ _ _ => rfl
  have s1 : ∀ a b : D, sliceD (.tup [a, b]) (some 1) none = some (.tup [b]) := fun _ _ => rfl
  cases t with
  | leaf m a =>
    cases m <;> cases a <;> simp [isOwn, tmp, view, frz, ex, aw, ev, evvs, evbs, evas, evo, evc, evT, vw, bw, slot, rd, setS, PM.R.bind, asgTg, asB, asI, ofO, setTg, setTgs, PM.R.bind_ok, exs, Lk02.f0, tD, aD, kids, tDs, i0, i1, in_T1_number, il_T1_number, nl_T1_number, in_T1_mark, il_T1_mark, nl_T1_mark, in_T1_hear, il_T1_hear, nl_T1_hear, in_T1_whole, il_T1_whole, nl_T1_whole, in_T1_total, il_T1_total, nl_T1_total, in_T1_plus, il_T1_plus, nl_T1_plus, in_T1_times, il_T1_times, nl_T1_times, in_T2_number, il_T2_number, nl_T2_number, in_T2_mark, il_T2_mark, nl_T2_mark, in_T2_hear, il_T2_hear, nl_T2_hear, in_T2_whole, il_T2_whole, nl_T2_whole, in_T2_total, il_T2_total, nl_T2_total, in_T2_plus, il_T2_plus, nl_T2_plus, in_T2_times, il_T2_times, nl_T2_times, in_T3_number, il_T3_number, nl_T3_number, in_T3_mark, il_T3_mark, nl_T3_mark, in_T3_hear, il_T3_hear, nl_T3_hear, in_T3_whole, il_T3_whole, nl_T3_whole, in_T3_total, il_T3_total, nl_T3_total, in_T3_plus, il_T3_plus, nl_T3_plus, in_T3_times, il_T3_times, nl_T3_times, in_T4_number, il_T4_number, nl_T4_number, in_T4_mark, il_T4_mark, nl_T4_mark, in_T4_hear, il_T4_hear, nl_T4_hear, in_T4_whole, il_T4_whole, nl_T4_whole, in_T4_total, il_T4_total, nl_T4_total, in_T4_plus, il_T4_plus, nl_T4_plus, in_T4_times, il_T4_times, nl_T4_times, eq_number_hear, eq_number_total, eq_number_times, eq_number_whole, ne_number_whole, eq_mark_hear, eq_mark_total, eq_mark_times, eq_mark_whole, ne_mark_whole, eq_hear_hear, eq_hear_total, eq_hear_times, eq_hear_whole, ne_hear_whole, eq_whole_hear, eq_whole_total, eq_whole_times, eq_whole_whole, ne_whole_whole, eq_total_hear, eq_total_total, eq_total_times, eq_total_whole, ne_total_whole, eq_plus_hear, eq_plus_total, eq_plus_times, eq_plus_whole, ne_plus_whole, eq_times_hear, eq_times_total, eq_times_times, eq_times_whole, ne_times_whole]
  | hear l t => simp [isOwn, tmp, view, frz, ex, aw, ev, evvs, evbs, evas, evo, evc, evT, vw, bw, slot, rd, setS, PM.R.bind, asgTg, asB, asI, ofO, setTg, setTgs, PM.R.bind_ok, exs, Lk02.f0, tD, kids, tDs, i0, i1, s2, s1, in_T1_number, il_T1_number, nl_T1_number, in_T1_mark, il_T1_mark, nl_T1_mark, in_T1_hear, il_T1_hear, nl_T1_hear, in_T1_whole, il_T1_whole, nl_T1_whole, in_T1_total, il_T1_total, nl_T1_total, in_T1_plus, il_T1_plus, nl_T1_plus, in_T1_times, il_T1_times, nl_T1_times, in_T2_number, il_T2_number, nl_T2_number, in_T2_mark, il_T2_mark, nl_T2_mark, in_T2_hear, il_T2_hear, nl_T2_hear, in_T2_whole, il_T2_whole, nl_T2_whole, in_T2_total, il_T2_total, nl_T2_total, in_T2_plus, il_T2_plus, nl_T2_plus, in_T2_times, il_T2_times, nl_T2_times, in_T3_number, il_T3_number, nl_T3_number, in_T3_mark, il_T3_mark, nl_T3_mark, in_T3_hear, il_T3_hear, nl_T3_hear, in_T3_whole, il_T3_whole, nl_T3_whole, in_T3_total, il_T3_total, nl_T3_total, in_T3_plus, il_T3_plus, nl_T3_plus, in_T3_times, il_T3_times, nl_T3_times, in_T4_number, il_T4_number, nl_T4_number, in_T4_mark, il_T4_mark, nl_T4_mark, in_T4_hear, il_T4_hear, nl_T4_hear, in_T4_whole, il_T4_whole, nl_T4_whole, in_T4_total, il_T4_total, nl_T4_total, in_T4_plus, il_T4_plus, nl_T4_plus, in_T4_times, il_T4_times, nl_T4_times, eq_number_hear, eq_number_total, eq_number_times, eq_number_whole, ne_number_whole, eq_mark_hear, eq_mark_total, eq_mark_times, eq_mark_whole, ne_mark_whole, eq_hear_hear, eq_hear_total, eq_hear_times, eq_hear_whole, ne_hear_whole, eq_whole_hear, eq_whole_total, eq_whole_times, eq_whole_whole, ne_whole_whole, eq_total_hear, eq_total_total, eq_total_times, eq_total_whole, ne_total_whole, eq_plus_hear, eq_plus_total, eq_plus_times, eq_plus_whole, ne_plus_whole, eq_times_hear, eq_times_total, eq_times_times, eq_times_whole, ne_times_whole]
  | whole t => simp [isOwn, tmp, view, frz, ex, aw, ev, evvs, evbs, evas, evo, evc, evT, vw, bw, slot, rd, setS, PM.R.bind, asgTg, asB, asI, ofO, setTg, setTgs, PM.R.bind_ok, exs, Lk02.f0, tD, kids, tDs, i0, i1, s2, s1, in_T1_number, il_T1_number, nl_T1_number, in_T1_mark, il_T1_mark, nl_T1_mark, in_T1_hear, il_T1_hear, nl_T1_hear, in_T1_whole, il_T1_whole, nl_T1_whole, in_T1_total, il_T1_total, nl_T1_total, in_T1_plus, il_T1_plus, nl_T1_plus, in_T1_times, il_T1_times, nl_T1_times, in_T2_number, il_T2_number, nl_T2_number, in_T2_mark, il_T2_mark, nl_T2_mark, in_T2_hear, il_T2_hear, nl_T2_hear, in_T2_whole, il_T2_whole, nl_T2_whole, in_T2_total, il_T2_total, nl_T2_total, in_T2_plus, il_T2_plus, nl_T2_plus, in_T2_times, il_T2_times, nl_T2_times, in_T3_number, il_T3_number, nl_T3_number, in_T3_mark, il_T3_mark, nl_T3_mark, in_T3_hear, il_T3_hear, nl_T3_hear, in_T3_whole, il_T3_whole, nl_T3_whole, in_T3_total, il_T3_total, nl_T3_total, in_T3_plus, il_T3_plus, nl_T3_plus, in_T3_times, il_T3_times, nl_T3_times, in_T4_number, il_T4_number, nl_T4_number, in_T4_mark, il_T4_mark, nl_T4_mark, in_T4_hear, il_T4_hear, nl_T4_hear, in_T4_whole, il_T4_whole, nl_T4_whole, in_T4_total, il_T4_total, nl_T4_total, in_T4_plus, il_T4_plus, nl_T4_plus, in_T4_times, il_T4_times, nl_T4_times, eq_number_hear, eq_number_total, eq_number_times, eq_number_whole, ne_number_whole, eq_mark_hear, eq_mark_total, eq_mark_times, eq_mark_whole, ne_mark_whole, eq_hear_hear, eq_hear_total, eq_hear_times, eq_hear_whole, ne_hear_whole, eq_whole_hear, eq_whole_total, eq_whole_times, eq_whole_whole, ne_whole_whole, eq_total_hear, eq_total_total, eq_total_times, eq_total_whole, ne_total_whole, eq_plus_hear, eq_plus_total, eq_plus_times, eq_plus_whole, ne_plus_whole, eq_times_hear, eq_times_total, eq_times_times, eq_times_whole, ne_times_whole]
  | total t => simp [isOwn, tmp, view, frz, ex, aw, ev, evvs, evbs, evas, evo, evc, evT, vw, bw, slot, rd, setS, PM.R.bind, asgTg, asB, asI, ofO, setTg, setTgs, PM.R.bind_ok, exs, Lk02.f0, tD, kids, tDs, i0, i1, s2, s1, in_T1_number, il_T1_number, nl_T1_number, in_T1_mark, il_T1_mark, nl_T1_mark, in_T1_hear, il_T1_hear, nl_T1_hear, in_T1_whole, il_T1_whole, nl_T1_whole, in_T1_total, il_T1_total, nl_T1_total, in_T1_plus, il_T1_plus, nl_T1_plus, in_T1_times, il_T1_times, nl_T1_times, in_T2_number, il_T2_number, nl_T2_number, in_T2_mark, il_T2_mark, nl_T2_mark, in_T2_hear, il_T2_hear, nl_T2_hear, in_T2_whole, il_T2_whole, nl_T2_whole, in_T2_total, il_T2_total, nl_T2_total, in_T2_plus, il_T2_plus, nl_T2_plus, in_T2_times, il_T2_times, nl_T2_times, in_T3_number, il_T3_number, nl_T3_number, in_T3_mark, il_T3_mark, nl_T3_mark, in_T3_hear, il_T3_hear, nl_T3_hear, in_T3_whole, il_T3_whole, nl_T3_whole, in_T3_total, il_T3_total, nl_T3_total, in_T3_plus, il_T3_plus, nl_T3_plus, in_T3_times, il_T3_times, nl_T3_times, in_T4_number, il_T4_number, nl_T4_number, in_T4_mark, il_T4_mark, nl_T4_mark, in_T4_hear, il_T4_hear, nl_T4_hear, in_T4_whole, il_T4_whole, nl_T4_whole, in_T4_total, il_T4_total, nl_T4_total, in_T4_plus, il_T4_plus, nl_T4_plus, in_T4_times, il_T4_times, nl_T4_times, eq_number_hear, eq_number_total, eq_number_times, eq_number_whole, ne_number_whole, eq_mark_hear, eq_mark_total, eq_mark_times, eq_mark_whole, ne_mark_whole, eq_hear_hear, eq_hear_total, eq_hear_times, eq_hear_whole, ne_hear_whole, eq_whole_hear, eq_whole_total, eq_whole_times, eq_whole_whole, ne_whole_whole, eq_total_hear, eq_total_total, eq_total_times, eq_total_whole, ne_total_whole, eq_plus_hear, eq_plus_total, eq_plus_times, eq_plus_whole, ne_plus_whole, eq_times_hear, eq_times_total, eq_times_times, eq_times_whole, ne_times_whole]
  | plus ts => simp [isOwn, tmp, view, frz, ex, aw, ev, evvs, evbs, evas, evo, evc, evT, vw, bw, slot, rd, setS, PM.R.bind, asgTg, asB, asI, ofO, setTg, setTgs, PM.R.bind_ok, exs, Lk02.f0, tD, kids, tDs, i0, i1, s2, s1, in_T1_number, il_T1_number, nl_T1_number, in_T1_mark, il_T1_mark, nl_T1_mark, in_T1_hear, il_T1_hear, nl_T1_hear, in_T1_whole, il_T1_whole, nl_T1_whole, in_T1_total, il_T1_total, nl_T1_total, in_T1_plus, il_T1_plus, nl_T1_plus, in_T1_times, il_T1_times, nl_T1_times, in_T2_number, il_T2_number, nl_T2_number, in_T2_mark, il_T2_mark, nl_T2_mark, in_T2_hear, il_T2_hear, nl_T2_hear, in_T2_whole, il_T2_whole, nl_T2_whole, in_T2_total, il_T2_total, nl_T2_total, in_T2_plus, il_T2_plus, nl_T2_plus, in_T2_times, il_T2_times, nl_T2_times, in_T3_number, il_T3_number, nl_T3_number, in_T3_mark, il_T3_mark, nl_T3_mark, in_T3_hear, il_T3_hear, nl_T3_hear, in_T3_whole, il_T3_whole, nl_T3_whole, in_T3_total, il_T3_total, nl_T3_total, in_T3_plus, il_T3_plus, nl_T3_plus, in_T3_times, il_T3_times, nl_T3_times, in_T4_number, il_T4_number, nl_T4_number, in_T4_mark, il_T4_mark, nl_T4_mark, in_T4_hear, il_T4_hear, nl_T4_hear, in_T4_whole, il_T4_whole, nl_T4_whole, in_T4_total, il_T4_total, nl_T4_total, in_T4_plus, il_T4_plus, nl_T4_plus, in_T4_times, il_T4_times, nl_T4_times, eq_number_hear, eq_number_total, eq_number_times, eq_number_whole, ne_number_whole, eq_mark_hear, eq_mark_total, eq_mark_times, eq_mark_whole, ne_mark_whole, eq_hear_hear, eq_hear_total, eq_hear_times, eq_hear_whole, ne_hear_whole, eq_whole_hear, eq_whole_total, eq_whole_times, eq_whole_whole, ne_whole_whole, eq_total_hear, eq_total_total, eq_total_times, eq_total_whole, ne_total_whole, eq_plus_hear, eq_plus_total, eq_plus_times, eq_plus_whole, ne_plus_whole, eq_times_hear, eq_times_total, eq_times_times, eq_times_whole, ne_times_whole]
  | times ts => simp [isOwn, tmp, view, frz, ex, aw, ev, evvs, evbs, evas, evo, evc, evT, vw, bw, slot, rd, setS, PM.R.bind, asgTg, asB, asI, ofO, setTg, setTgs, PM.R.bind_ok, exs, Lk02.f0, tD, kids, tDs, i0, i1, s2, s1, in_T1_number, il_T1_number, nl_T1_number, in_T1_mark, il_T1_mark, nl_T1_mark, in_T1_hear, il_T1_hear, nl_T1_hear, in_T1_whole, il_T1_whole, nl_T1_whole, in_T1_total, il_T1_total, nl_T1_total, in_T1_plus, il_T1_plus, nl_T1_plus, in_T1_times, il_T1_times, nl_T1_times, in_T2_number, il_T2_number, nl_T2_number, in_T2_mark, il_T2_mark, nl_T2_mark, in_T2_hear, il_T2_hear, nl_T2_hear, in_T2_whole, il_T2_whole, nl_T2_whole, in_T2_total, il_T2_total, nl_T2_total, in_T2_plus, il_T2_plus, nl_T2_plus, in_T2_times, il_T2_times, nl_T2_times, in_T3_number, il_T3_number, nl_T3_number, in_T3_mark, il_T3_mark, nl_T3_mark, in_T3_hear, il_T3_hear, nl_T3_hear, in_T3_whole, il_T3_whole, nl_T3_whole, in_T3_total, il_T3_total, nl_T3_total, in_T3_plus, il_T3_plus, nl_T3_plus, in_T3_times, il_T3_times, nl_T3_times, in_T4_number, il_T4_number, nl_T4_number, in_T4_mark, il_T4_mark, nl_T4_mark, in_T4_hear, il_T4_hear, nl_T4_hear, in_T4_whole, il_T4_whole, nl_T4_whole, in_T4_total, il_T4_total, nl_T4_total, in_T4_plus, il_T4_plus, nl_T4_plus, in_T4_times, il_T4_times, nl_T4_times, eq_number_hear, eq_number_total, eq_number_times, eq_number_whole, ne_number_whole, eq_mark_hear, eq_mark_total, eq_mark_times, eq_mark_whole, ne_mark_whole, eq_hear_hear, eq_hear_total, eq_hear_times, eq_hear_whole, ne_hear_whole, eq_whole_hear, eq_whole_total, eq_whole_times, eq_whole_whole, ne_whole_whole, eq_total_hear, eq_total_total, eq_total_times, eq_total_whole, ne_total_whole, eq_plus_hear, eq_plus_total, eq_plus_times, eq_plus_whole, ne_plus_whole, eq_times_hear, eq_times_total, eq_times_times, eq_times_whole, ne_times_whole]
end
end Mk
end

section
set_option Elab.async false
set_option linter.all false
open PySem PM
namespace Mk
def tP (p : T × Bool) : D := .tup [tD p.1, .bl p.2]
def szp : List (T × Bool) → Nat
  | [] => 0
  | p :: ps => sz p.1 + szp ps
theorem szp_append (a b : List (T × Bool)) : szp (a ++ b) = szp a + szp b := by
  induction a with
  | nil => simp [szp]
  | cons x a ih => simp only [List.cons_append, szp, ih]; omega
theorem szp_kids (ts : List T) (v : Bool) : szp ((ts.map fun k => (k, v)).reverse) = szs ts := by
  induction ts with
  | nil => rfl
  | cons t ts ih => simp only [List.map_cons, List.reverse_cons, szp_append, ih, szp, szs]; omega
theorem sz_pos (t : T) : 0 < sz t := by rw [sz_kids]; omega
theorem len_szp (l : List (T × Bool)) : l.length ≤ szp l := by
  induction l with
  | nil => exact Nat.le_refl _
  | cons p l ih => have := sz_pos p.1; simp only [List.length_cons, szp]; omega
/-- what is found from a stack -/
def preS (l : List (T × Bool)) : List (T × Bool) := l.reverse.flatMap fun p => pre p.2 p.1
theorem pres_flat (v : Bool) (ts : List T) : (ts.map fun k => (k, v)).flatMap (fun p => pre p.2 p.1) = pres v ts := by
  induction ts with
  | nil => rfl
  | cons t ts ih => rw [List.map_cons, List.flatMap_cons, ih]; rfl
theorem preS_step (i : List (T × Bool)) (t : T) (v : Bool) : preS (i ++ [(t, v)]) = (t, v) :: preS (i ++ ((kids t).map fun k => (k, vin t v)).reverse) := by
  unfold preS
  rw [List.reverse_append, List.reverse_append, List.reverse_reverse, List.reverse_singleton, List.singleton_append, List.flatMap_cons, List.flatMap_append, pres_flat]
  show pre v t ++ _ = _
  rw [pre_kids]
  rfl
theorem okD_todo (l : List (T × Bool)) (h : ∀ p ∈ l, dep (tD p.1) ≤ 45) : okD (.lst (l.map tP)) = true := by
  have h1 : plains (l.map tP) = true := by
    induction l with
    | nil => rfl
    | cons p l ih =>
      rw [List.map_cons, plains, ih fun q hq => h q (List.mem_cons_of_mem _ hq), tP]
      simp [PM.plain, plains, plain_tD]
  have h2 : deps (l.map tP) ≤ 46 := by
    clear h1
    induction l with
    | nil => simp [deps]
    | cons p l ih =>
      rw [List.map_cons, deps]
      have a : dep (tP p) ≤ 46 := by
        have := h p List.mem_cons_self
        simp only [tP, dep, deps]
        omega
      have := ih fun q hq => h q (List.mem_cons_of_mem _ hq)
      omega
  unfold okD
  rw [PM.plain, h1, dep, Bool.true_and, decide_eq_true_eq]
  omega
theorem ne_todo (l : List (T × Bool)) (h : ∀ p ∈ l, dep (tD p.1) ≤ 45) : cmpD .ne (.lst (l.map tP)) (.lst []) = some (decide (l ≠ [])) := by
  have h1 := okD_todo l h
  have h2 : okD (.lst []) = true := rfl
  simp only [cmpD, h1, h2, sameSort, Bool.and_self, if_true]
  congr 1
  cases l with
  | nil => rfl
  | cons p l => rfl
section
variable (F : Fields) (n : Nat) (C : List D) (hb : belows C.length C = true)
include hb
theorem vin_ok (t : T) (v : Bool) : PM.run F Lk02.P (n + 1) 1 [tD t, .bl v] C = .ok (.bl (vin t v), C) := by
  refine run_ret [some (tD t), some (.bl v)] (fn := Lk02.f1) (d := .bl (vin t v)) (S := ⟨[some (tD t), some (.bl v)], C⟩) rfl rfl rfl ?_ (end_ok rfl rfl hb)
  have i0 : ∀ (a : D) (l : List D), idxD (.tup (a :: l)) (.int 0) = some a := fun a l => by
    show (ixD _ _).bind _ = _
    unfold ixD
    rw [ixN_zero (by simp)]
    rfl
  cases t with
  | leaf m a => cases m <;> cases a <;> simp [isOwn, tmp, view, frz, ex, aw, ev, evvs, evbs, evas, evo, evc, evT, vw, bw, slot, rd, setS, PM.R.bind, asgTg, asB, asI, ofO, setTg, setTgs, PM.R.bind_ok, exs, Lk02.f1, tD, aD, i0, vin, in_T1_number, il_T1_number, nl_T1_number, in_T1_mark, il_T1_mark, nl_T1_mark, in_T1_hear, il_T1_hear, nl_T1_hear, in_T1_whole, il_T1_whole, nl_T1_whole, in_T1_total, il_T1_total, nl_T1_total, in_T1_plus, il_T1_plus, nl_T1_plus, in_T1_times, il_T1_times, nl_T1_times, in_T2_number, il_T2_number, nl_T2_number, in_T2_mark, il_T2_mark, nl_T2_mark, in_T2_hear, il_T2_hear, nl_T2_hear, in_T2_whole, il_T2_whole, nl_T2_whole, in_T2_total, il_T2_total, nl_T2_total, in_T2_plus, il_T2_plus, nl_T2_plus, in_T2_times, il_T2_times, nl_T2_times, in_T3_number, il_T3_number, nl_T3_number, in_T3_mark, il_T3_mark, nl_T3_mark, in_T3_hear, il_T3_hear, nl_T3_hear, in_T3_whole, il_T3_whole, nl_T3_whole, in_T3_total, il_T3_total, nl_T3_total, in_T3_plus, il_T3_plus, nl_T3_plus, in_T3_times, il_T3_times, nl_T3_times, in_T4_number, il_T4_number, nl_T4_number, in_T4_mark, il_T4_mark, nl_T4_mark, in_T4_hear, il_T4_hear, nl_T4_hear, in_T4_whole, il_T4_whole, nl_T4_whole, in_T4_total, il_T4_total, nl_T4_total, in_T4_plus, il_T4_plus, nl_T4_plus, in_T4_times, il_T4_times, nl_T4_times, eq_number_hear, eq_number_total, eq_number_times, eq_number_whole, ne_number_whole, eq_mark_hear, eq_mark_total, eq_mark_times, eq_mark_whole, ne_mark_whole, eq_hear_hear, eq_hear_total, eq_hear_times, eq_hear_whole, ne_hear_whole, eq_whole_hear, eq_whole_total, eq_whole_times, eq_whole_whole, ne_whole_whole, eq_total_hear, eq_total_total, eq_total_times, eq_total_whole, ne_total_whole, eq_plus_hear, eq_plus_total, eq_plus_times, eq_plus_whole, ne_plus_whole, eq_times_hear, eq_times_total, eq_times_times, eq_times_whole, ne_times_whole]
  | hear l t => simp [isOwn, tmp, view, frz, ex, aw, ev, evvs, evbs, evas, evo, evc, evT, vw, bw, slot, rd, setS, PM.R.bind, asgTg, asB, asI, ofO, setTg, setTgs, PM.R.bind_ok, exs, Lk02.f1, tD, i0, vin, in_T1_number, il_T1_number, nl_T1_number, in_T1_mark, il_T1_mark, nl_T1_mark, in_T1_hear, il_T1_hear, nl_T1_hear, in_T1_whole, il_T1_whole, nl_T1_whole, in_T1_total, il_T1_total, nl_T1_total, in_T1_plus, il_T1_plus, nl_T1_plus, in_T1_times, il_T1_times, nl_T1_times, in_T2_number, il_T2_number, nl_T2_number, in_T2_mark, il_T2_mark, nl_T2_mark, in_T2_hear, il_T2_hear, nl_T2_hear, in_T2_whole, il_T2_whole, nl_T2_whole, in_T2_total, il_T2_total, nl_T2_total, in_T2_plus, il_T2_plus, nl_T2_plus, in_T2_times, il_T2_times, nl_T2_times, in_T3_number, il_T3_number, nl_T3_number, in_T3_mark, il_T3_mark, nl_T3_mark, in_T3_hear, il_T3_hear, nl_T3_hear, in_T3_whole, il_T3_whole, nl_T3_whole, in_T3_total, il_T3_total, nl_T3_total, in_T3_plus, il_T3_plus, nl_T3_plus, in_T3_times, il_T3_times, nl_T3_times, in_T4_number, il_T4_number, nl_T4_number, in_T4_mark, il_T4_mark, nl_T4_mark, in_T4_hear, il_T4_hear, nl_T4_hear, in_T4_whole, il_T4_whole, nl_T4_whole, in_T4_total, il_T4_total, nl_T4_total, in_T4_plus, il_T4_plus, nl_T4_plus, in_T4_times, il_T4_times, nl_T4_times, eq_number_hear, eq_number_total, eq_number_times, eq_number_whole, ne_number_whole, eq_mark_hear, eq_mark_total, eq_mark_times, eq_mark_whole, ne_mark_whole, eq_hear_hear, eq_hear_total, eq_hear_times, eq_hear_whole, ne_hear_whole, eq_whole_hear, eq_whole_total, eq_whole_times, eq_whole_whole, ne_whole_whole, eq_total_hear, eq_total_total, eq_total_times, eq_total_whole, ne_total_whole, eq_plus_hear, eq_plus_total, eq_plus_times, eq_plus_whole, ne_plus_whole, eq_times_hear, eq_times_total, eq_times_times, eq_times_whole, ne_times_whole]
  | whole t => simp [isOwn, tmp, view, frz, ex, aw, ev, evvs, evbs, evas, evo, evc, evT, vw, bw, slot, rd, setS, PM.R.bind, asgTg, asB, asI, ofO, setTg, setTgs, PM.R.bind_ok, exs, Lk02.f1, tD, i0, vin, in_T1_number, il_T1_number, nl_T1_number, in_T1_mark, il_T1_mark, nl_T1_mark, in_T1_hear, il_T1_hear, nl_T1_hear, in_T1_whole, il_T1_whole, nl_T1_whole, in_T1_total, il_T1_total, nl_T1_total, in_T1_plus, il_T1_plus, nl_T1_plus, in_T1_times, il_T1_times, nl_T1_times, in_T2_number, il_T2_number, nl_T2_number, in_T2_mark, il_T2_mark, nl_T2_mark, in_T2_hear, il_T2_hear, nl_T2_hear, in_T2_whole, il_T2_whole, nl_T2_whole, in_T2_total, il_T2_total, nl_T2_total, in_T2_plus, il_T2_plus, nl_T2_plus, in_T2_times, il_T2_times, nl_T2_times, in_T3_number, il_T3_number, nl_T3_number, in_T3_mark, il_T3_mark, nl_T3_mark, in_T3_hear, il_T3_hear, nl_T3_hear, in_T3_whole, il_T3_whole, nl_T3_whole, in_T3_total, il_T3_total, nl_T3_total, in_T3_plus, il_T3_plus, nl_T3_plus, in_T3_times, il_T3_times, nl_T3_times, in_T4_number, il_T4_number, nl_T4_number, in_T4_mark, il_T4_mark, nl_T4_mark, in_T4_hear, il_T4_hear, nl_T4_hear, in_T4_whole, il_T4_whole, nl_T4_whole, in_T4_total, il_T4_total, nl_T4_total, in_T4_plus, il_T4_plus, nl_T4_plus, in_T4_times, il_T4_times, nl_T4_times, eq_number_hear, eq_number_total, eq_number_times, eq_number_whole, ne_number_whole, eq_mark_hear, eq_mark_total, eq_mark_times, eq_mark_whole, ne_mark_whole, eq_hear_hear, eq_hear_total, eq_hear_times, eq_hear_whole, ne_hear_whole, eq_whole_hear, eq_whole_total, eq_whole_times, eq_whole_whole, ne_whole_whole, eq_total_hear, eq_total_total, eq_total_times, eq_total_whole, ne_total_whole, eq_plus_hear, eq_plus_total, eq_plus_times, eq_plus_whole, ne_plus_whole, eq_times_hear, eq_times_total, eq_times_times, eq_times_whole, ne_times_whole]
  | total t => simp [isOwn, tmp, view, frz, ex, aw, ev, evvs, evbs, evas, evo, evc, evT, vw, bw, slot, rd, setS, PM.R.bind, asgTg, asB, asI, ofO, setTg, setTgs, PM.R.bind_ok, exs, Lk02.f1, tD, i0, vin, in_T1_number, il_T1_number, nl_T1_number, in_T1_mark, il_T1_mark, nl_T1_mark, in_T1_hear, il_T1_hear, nl_T1_hear, in_T1_whole, il_T1_whole, nl_T1_whole, in_T1_total, il_T1_total, nl_T1_total, in_T1_plus, il_T1_plus, nl_T1_plus, in_T1_times, il_T1_times, nl_T1_times, in_T2_number, il_T2_number, nl_T2_number, in_T2_mark, il_T2_mark, nl_T2_mark, in_T2_hear, il_T2_hear, nl_T2_hear, in_T2_whole, il_T2_whole, nl_T2_whole, in_T2_total, il_T2_total, nl_T2_total, in_T2_plus, il_T2_plus, nl_T2_plus, in_T2_times, il_T2_times, nl_T2_times, in_T3_number, il_T3_number, nl_T3_number, in_T3_mark, il_T3_mark, nl_T3_mark, in_T3_hear, il_T3_hear, nl_T3_hear, in_T3_whole, il_T3_whole, nl_T3_whole, in_T3_total, il_T3_total, nl_T3_total, in_T3_plus, il_T3_plus, nl_T3_plus, in_T3_times, il_T3_times, nl_T3_times, in_T4_number, il_T4_number, nl_T4_number, in_T4_mark, il_T4_mark, nl_T4_mark, in_T4_hear, il_T4_hear, nl_T4_hear, in_T4_whole, il_T4_whole, nl_T4_whole, in_T4_total, il_T4_total, nl_T4_total, in_T4_plus, il_T4_plus, nl_T4_plus, in_T4_times, il_T4_times, nl_T4_times, eq_number_hear, eq_number_total, eq_number_times, eq_number_whole, ne_number_whole, eq_mark_hear, eq_mark_total, eq_mark_times, eq_mark_whole, ne_mark_whole, eq_hear_hear, eq_hear_total, eq_hear_times, eq_hear_whole, ne_hear_whole, eq_whole_hear, eq_whole_total, eq_whole_times, eq_whole_whole, ne_whole_whole, eq_total_hear, eq_total_total, eq_total_times, eq_total_whole, ne_total_whole, eq_plus_hear, eq_plus_total, eq_plus_times, eq_plus_whole, ne_plus_whole, eq_times_hear, eq_times_total, eq_times_times, eq_times_whole, ne_times_whole]
  | plus ts => simp [isOwn, tmp, view, frz, ex, aw, ev, evvs, evbs, evas, evo, evc, evT, vw, bw, slot, rd, setS, PM.R.bind, asgTg, asB, asI, ofO, setTg, setTgs, PM.R.bind_ok, exs, Lk02.f1, tD, i0, vin, in_T1_number, il_T1_number, nl_T1_number, in_T1_mark, il_T1_mark, nl_T1_mark, in_T1_hear, il_T1_hear, nl_T1_hear, in_T1_whole, il_T1_whole, nl_T1_whole, in_T1_total, il_T1_total, nl_T1_total, in_T1_plus, il_T1_plus, nl_T1_plus, in_T1_times, il_T1_times, nl_T1_times, in_T2_number, il_T2_number, nl_T2_number, in_T2_mark, il_T2_mark, nl_T2_mark, in_T2_hear, il_T2_hear, nl_T2_hear, in_T2_whole, il_T2_whole, nl_T2_whole, in_T2_total, il_T2_total, nl_T2_total, in_T2_plus, il_T2_plus, nl_T2_plus, in_T2_times, il_T2_times, nl_T2_times, in_T3_number, il_T3_number, nl_T3_number, in_T3_mark, il_T3_mark, nl_T3_mark, in_T3_hear, il_T3_hear, nl_T3_hear, in_T3_whole, il_T3_whole, nl_T3_whole, in_T3_total, il_T3_total, nl_T3_total, in_T3_plus, il_T3_plus, nl_T3_plus, in_T3_times, il_T3_times, nl_T3_times, in_T4_number, il_T4_number, nl_T4_number, in_T4_mark, il_T4_mark, nl_T4_mark, in_T4_hear, il_T4_hear, nl_T4_hear, in_T4_whole, il_T4_whole, nl_T4_whole, in_T4_total, il_T4_total, nl_T4_total, in_T4_plus, il_T4_plus, nl_T4_plus, in_T4_times, il_T4_times, nl_T4_times, eq_number_hear, eq_number_total, eq_number_times, eq_number_whole, ne_number_whole, eq_mark_hear, eq_mark_total, eq_mark_times, eq_mark_whole, ne_mark_whole, eq_hear_hear, eq_hear_total, eq_hear_times, eq_hear_whole, ne_hear_whole, eq_whole_hear, eq_whole_total, eq_whole_times, eq_whole_whole, ne_whole_whole, eq_total_hear, eq_total_total, eq_total_times, eq_total_whole, ne_total_whole, eq_plus_hear, eq_plus_total, eq_plus_times, eq_plus_whole, ne_plus_whole, eq_times_hear, eq_times_total, eq_times_times, eq_times_whole, ne_times_whole]
  | times ts => simp [isOwn, tmp, view, frz, ex, aw, ev, evvs, evbs, evas, evo, evc, evT, vw, bw, slot, rd, setS, PM.R.bind, asgTg, asB, asI, ofO, setTg, setTgs, PM.R.bind_ok, exs, Lk02.f1, tD, i0, vin, in_T1_number, il_T1_number, nl_T1_number, in_T1_mark, il_T1_mark, nl_T1_mark, in_T1_hear, il_T1_hear, nl_T1_hear, in_T1_whole, il_T1_whole, nl_T1_whole, in_T1_total, il_T1_total, nl_T1_total, in_T1_plus, il_T1_plus, nl_T1_plus, in_T1_times, il_T1_times, nl_T1_times, in_T2_number, il_T2_number, nl_T2_number, in_T2_mark, il_T2_mark, nl_T2_mark, in_T2_hear, il_T2_hear, nl_T2_hear, in_T2_whole, il_T2_whole, nl_T2_whole, in_T2_total, il_T2_total, nl_T2_total, in_T2_plus, il_T2_plus, nl_T2_plus, in_T2_times, il_T2_times, nl_T2_times, in_T3_number, il_T3_number, nl_T3_number, in_T3_mark, il_T3_mark, nl_T3_mark, in_T3_hear, il_T3_hear, nl_T3_hear, in_T3_whole, il_T3_whole, nl_T3_whole, in_T3_total, il_T3_total, nl_T3_total, in_T3_plus, il_T3_plus, nl_T3_plus, in_T3_times, il_T3_times, nl_T3_times, in_T4_number, il_T4_number, nl_T4_number, in_T4_mark, il_T4_mark, nl_T4_mark, in_T4_hear, il_T4_hear, nl_T4_hear, in_T4_whole, il_T4_whole, nl_T4_whole, in_T4_total, il_T4_total, nl_T4_total, in_T4_plus, il_T4_plus, nl_T4_plus, in_T4_times, il_T4_times, nl_T4_times, eq_number_hear, eq_number_total, eq_number_times, eq_number_whole, ne_number_whole, eq_mark_hear, eq_mark_total, eq_mark_times, eq_mark_whole, ne_mark_whole, eq_hear_hear, eq_hear_total, eq_hear_times, eq_hear_whole, ne_hear_whole, eq_whole_hear, eq_whole_total, eq_whole_times, eq_whole_whole, ne_whole_whole, eq_total_hear, eq_total_total, eq_total_times, eq_total_whole, ne_total_whole, eq_plus_hear, eq_plus_total, eq_plus_times, eq_plus_whole, ne_plus_whole, eq_times_hear, eq_times_total, eq_times_times, eq_times_whole, ne_times_whole]
theorem parts_loop (s0 : D) : ∀ (k m : Nat) (todo found : List (T × Bool)) (x3 x4 x5 : Option D), szp todo ≤ k → found.length + k < 100000 → (∀ p ∈ todo, dep (tD p.1) ≤ 45) →
    ∃ y3 y4 y5 : Option D, whileL (fun S => evT F (PM.run F Lk02.P (n + 1)) (.cmp .ne (.var 2) (.list [])) S) (fun S => exs F (PM.run F Lk02.P (n + 1)) [.asg (.t [.v 4, .v 5]) (.pop (.var 2)), .expr (.append (.var 1) (.tup [.var 4, .var 5])), .asg (.v 3) (.call 1 [.var 4, .var 5]), .expr (.extend (.var 2) (.lc [6] (.v 6) 0 [.rev (.call 0 [.var 4])] [] (.tup [.var 6, .var 3])))] S) (m + (k + 1)) ⟨[some s0, some (.nl (found.map tP)), some (.nl (todo.map tP)), x3, x4, x5, none], C⟩ = .ok (.nx ⟨[some s0, some (.nl ((found ++ preS todo).map tP)), some (.nl []), y3, y4, y5, none], C⟩) := by
  intro k
  induction k with
  | zero =>
    intro m todo found x3 x4 x5 h _ _
    have : todo = [] := List.eq_nil_of_length_eq_zero (by have := len_szp todo; omega)
    subst this
    refine ⟨x3, x4, x5, while_end ?_⟩
    have ne := ne_todo [] (by simp)
    rw [List.map_nil] at ne
    have e : found ++ preS [] = found := by simp [preS]
    rw [e, List.map_nil]
    generalize found.map tP = A
    simp [isOwn, tmp, view, frz, ex, aw, ev, evvs, evbs, evas, evo, evc, evT, vw, bw, slot, rd, setS, PM.R.bind, asgTg, asB, asI, ofO, setTg, setTgs, PM.R.bind_ok, ne]
  | succ k ih =>
    intro m todo found x3 x4 x5 h hk hd
    have ne := ne_todo todo hd
    rcases List.eq_nil_or_concat todo with rfl | ⟨i, p, rfl⟩
    · refine ⟨x3, x4, x5, while_end ?_⟩
      rw [List.map_nil] at ne
      have e : found ++ preS [] = found := by simp [preS]
      rw [e, List.map_nil]
      generalize found.map tP = A
      simp [isOwn, tmp, view, frz, ex, aw, ev, evvs, evbs, evas, evo, evc, evT, vw, bw, slot, rd, setS, PM.R.bind, asgTg, asB, asI, ofO, setTg, setTgs, PM.R.bind_ok, ne]
    · obtain ⟨t, v⟩ := p
      simp only [List.concat_eq_append] at h ne hd ⊢
      rw [szp_append] at h
      simp only [szp] at h
      have hs := sz_kids t
      have hw : szp (i ++ ((kids t).map fun k => (k, vin t v)).reverse) ≤ k := by
        rw [szp_append, szp_kids]
        omega
      have hdt := hd (t, v) (by simp)
      obtain ⟨y3, y4, y5, r⟩ := ih m (i ++ ((kids t).map fun k => (k, vin t v)).reverse) (found ++ [(t, v)]) (some (.bl (vin t v))) (some (tD t)) (some (.bl v)) hw (by rw [List.length_append, List.length_singleton]; omega) (fun q hq => by
        rcases List.mem_append.mp hq with z | z
        · exact hd q (by simp [z])
        · obtain ⟨k, hk, rfl⟩ := List.mem_map.mp (List.mem_reverse.mp z)
          exact Nat.le_trans (dep_kid hk) hdt)
      refine ⟨y3, y4, y5, ?_⟩
      have e : found ++ preS (i ++ [(t, v)]) = found ++ [(t, v)] ++ preS (i ++ ((kids t).map fun k => (k, vin t v)).reverse) := by
        rw [preS_step]
        simp
      rw [e]
      refine while_step (S1 := ⟨[some s0, some (.nl (found.map tP)), some (.nl ((i ++ [(t, v)]).map tP)), x3, x4, x5, none], C⟩) (S2 := ⟨[some s0, some (.nl ((found ++ [(t, v)]).map tP)), some (.nl ((i ++ ((kids t).map fun k => (k, vin t v)).reverse).map tP)), some (.bl (vin t v)), some (tD t), some (.bl v), none], C⟩) ?_ ?_ r
      · rw [decide_eq_true (by simp)] at ne
        generalize (i ++ [(t, v)]).map tP = A at ne ⊢
        generalize found.map tP = A2
        simp [isOwn, tmp, view, frz, ex, aw, ev, evvs, evbs, evas, evo, evc, evT, vw, bw, slot, rd, setS, PM.R.bind, asgTg, asB, asI, ofO, setTg, setTgs, PM.R.bind_ok, ne]
      · have gl : ((i ++ [(t, v)]).map tP).getLast? = some (.tup [tD t, .bl v]) := by simp [tP]
        have dl : ((i ++ [(t, v)]).map tP).dropLast = i.map tP := by simp
        have vo := vin_ok F n C hb t v
        have io := inner_ok F n C hb t
        have hz : (found.map tP).length < LIM := by rw [LIM_eq, List.length_map]; omega
        have ea : found.map tP ++ [.tup [tD t, .bl v]] = (found ++ [(t, v)]).map tP := by rw [List.map_append]; rfl
        have hl := len_szp i
        have hks : (kids t).length ≤ szs (kids t) := by
          have := len_szp (((kids t).map fun k => (k, v)).reverse)
          rw [szp_kids] at this
          simpa using this
        have hlc := ev_lc (F := F) (call := PM.run F Lk02.P (n + 1)) (S := ⟨[some s0, some (.nl ((found ++ [(t, v)]).map tP)), some (.nl (i.map tP)), some (.bl (vin t v)), some (tD t), some (.bl v), none], C⟩) (S1 := ⟨[some s0, some (.nl ((found ++ [(t, v)]).map tP)), some (.nl (i.map tP)), some (.bl (vin t v)), some (tD t), some (.bl v), none], C⟩) (own := [6]) (tg := .v 6) (k := 0) (its := [.rev (.call 0 [.var 4])]) (cond := []) (elt := .tup [.var 6, .var 3]) (vals := [.tup ((kids t).reverse.map tD)]) (ds := (kids t).reverse) (g := tD) (c := fun _ => true) (f := fun k => tP (k, vin t v)) (Ld := fun k => [some s0, some (.nl ((found ++ [(t, v)]).map tP)), some (.nl (i.map tP)), some (.bl (vin t v)), some (tD t), some (.bl v), some (tD k)]) (by
            have rv : revD (.tup (tDs (kids t))) = some (.tup ((kids t).reverse.map tD)) := by
              rw [tDs_map]
              simp [revD]
            generalize PM.run F Lk02.P (n + 1) = cl at *
            generalize (found ++ [(t, v)]).map tP = A1 at *
            generalize i.map tP = A2 at *
            generalize tDs (kids t) = KK at *
            generalize (kids t).reverse.map tD = KR at *
            obtain ⟨l, hl⟩ := tD_tup t
            rw [hl] at io ⊢
            simp [isOwn, tmp, view, frz, ex, aw, ev, evvs, evbs, evas, evo, evc, evT, vw, bw, slot, rd, setS, PM.R.bind, asgTg, asB, asI, ofO, setTg, setTgs, PM.R.bind_ok, io, rv]) rfl (by
            generalize (found ++ [(t, v)]).map tP = A1 at *
            generalize i.map tP = A2 at *
            simp [isOwn, tmp, view, frz, ex, aw, ev, evvs, evbs, evas, evo, evc, evT, vw, bw, slot, rd, setS, PM.R.bind, asgTg, asB, asI, ofO, binD, add_ii, subD, cmpD, primD, itemsD, setTg, setTgs, wipeL, noOwn, idxD, sliceD, revD, PM.R.bind_ok]) (by rw [LIM_eq, List.length_reverse]; omega) (by
            intro k _
            generalize (found ++ [(t, v)]).map tP = A1 at *
            generalize i.map tP = A2 at *
            obtain ⟨l, hl⟩ := tD_tup k
            simp only [tP, hl]
            generalize tD t = TT
            simp [isOwn, tmp, view, frz, ex, aw, ev, evvs, evbs, evas, evo, evc, evT, vw, bw, slot, rd, setS, PM.R.bind, asgTg, asB, asI, ofO, setTg, setTgs, PM.R.bind_ok, wipeL])
        have ef : (((kids t).reverse.filter fun _ => true).map fun k => tP (k, vin t v)) = (((kids t).map fun k => (k, vin t v)).reverse).map tP := by
          rw [List.filter_eq_self.mpr (by simp), ← List.map_reverse, List.map_map]
          rfl
        rw [ef] at hlc
        have hz2 : (i.map tP).length + ((((kids t).map fun k => (k, vin t v)).reverse).map tP).length < LIM := by rw [LIM_eq]; simp; omega
        have ea2 : i.map tP ++ (((kids t).map fun k => (k, vin t v)).reverse).map tP = (i ++ ((kids t).map fun k => (k, vin t v)).reverse).map tP := by rw [List.map_append]
        refine exs_nx (S1 := ⟨[some s0, some (.nl (found.map tP)), some (.nl (i.map tP)), x3, some (tD t), some (.bl v), none], C⟩) ?_ (exs_nx (S1 := ⟨[some s0, some (.nl ((found ++ [(t, v)]).map tP)), some (.nl (i.map tP)), x3, some (tD t), some (.bl v), none], C⟩) ?_ (exs_nx (S1 := ⟨[some s0, some (.nl ((found ++ [(t, v)]).map tP)), some (.nl (i.map tP)), some (.bl (vin t v)), some (tD t), some (.bl v), none], C⟩) ?_ (exs_nx (S1 := ⟨[some s0, some (.nl ((found ++ [(t, v)]).map tP)), some (.nl ((i ++ ((kids t).map fun k => (k, vin t v)).reverse).map tP)), some (.bl (vin t v)), some (tD t), some (.bl v), none], C⟩) ?_ exs_end)))
        · clear hlc vo io
          generalize (i ++ [(t, v)]).map tP = A at gl dl
          generalize found.map tP = A2
          obtain ⟨l, hl⟩ := tD_tup t
          rw [hl] at gl ⊢
          simp [isOwn, tmp, view, frz, ex, aw, ev, evvs, evbs, evas, evo, evc, evT, vw, bw, slot, rd, setS, PM.R.bind, asgTg, asB, asI, ofO, setTg, setTgs, PM.R.bind_ok, ownL, chg, gl, dl]
        · clear hlc vo io
          rw [← ea]
          generalize i.map tP = A1 at *
          generalize found.map tP = A2 at *
          obtain ⟨l, hl⟩ := tD_tup t
          rw [hl]
          simp [isOwn, tmp, view, frz, ex, aw, ev, evvs, evbs, evas, evo, evc, evT, vw, bw, slot, rd, setS, PM.R.bind, asgTg, asB, asI, ofO, setTg, setTgs, PM.R.bind_ok, ownL, chg, hz]
        · clear hlc io
          generalize i.map tP = A1 at *
          generalize (found ++ [(t, v)]).map tP = A2 at *
          obtain ⟨l, hl⟩ := tD_tup t
          rw [hl] at vo ⊢
          simp [isOwn, tmp, view, frz, ex, aw, ev, evvs, evbs, evas, evo, evc, evT, vw, bw, slot, rd, setS, PM.R.bind, asgTg, asB, asI, ofO, setTg, setTgs, PM.R.bind_ok, vo]
        · rw [← ea2]
          clear vo io gl dl
          generalize (((kids t).map fun k => (k, vin t v)).reverse).map tP = A3 at *
          generalize ME.lc _ _ _ _ _ _ = le at *
          generalize i.map tP = A1 at *
          generalize (found ++ [(t, v)]).map tP = A2 at *
          simp [isOwn, tmp, view, frz, ex, aw, ev, evvs, evbs, evas, evo, evc, evT, vw, bw, slot, rd, setS, PM.R.bind, asgTg, asB, asI, ofO, setTg, setTgs, PM.R.bind_ok, hlc, ownL, chg, hz2]
theorem parts_ok (t : T) (h : sz t < 50000) (hd : dep (tD t) ≤ 45) : PM.run F Lk02.P (n + 2) 2 [tD t] C = .ok (.lst ((pre false t).map tP), C) := by
  obtain ⟨m, hf⟩ := fuel_ge (show szp [(t, false)] < 10 ^ 200 by
    have : (100000 : Nat) < 10 ^ 200 := by decide +kernel
    simp only [szp]
    omega)
  obtain ⟨y3, y4, y5, r⟩ := parts_loop F n C hb (tD t) (szp [(t, false)]) m [(t, false)] [] none none none (Nat.le_refl _) (by simp only [szp, List.length_nil]; omega) (by simpa using hd)
  rw [← hf, List.nil_append] at r
  have e : preS [(t, false)] = pre false t := by simp [preS]
  rw [e] at r
  have hbl : below C.length (.lst ((pre false t).map tP)) = true := by
    rw [below]
    generalize pre false t = l
    induction l with
    | nil => rfl
    | cons p l ih =>
      rw [List.map_cons, belows, ih, tP]
      simp [below, belows, below_tD]
  refine run_ret [some (tD t), none, none, none, none, none, none] (fn := Lk02.f2) (d := .lst ((pre false t).map tP)) (S := ⟨[some (tD t), some (.lst ((pre false t).map tP)), some (.nl []), y3, y4, y5, none], C⟩) rfl rfl rfl ?_ (end_ok rfl hbl hb)
  refine exs_nx (S1 := ⟨[some (tD t), some (.nl (([] : List (T × Bool)).map tP)), some (.nl ([(t, false)].map tP)), none, none, none, none], C⟩) ?_ (exs_nx (ex_while r) (exs_ret ?_))
  · simp only [List.map_cons, List.map_nil, tP]
    obtain ⟨l, hl⟩ := tD_tup t
    rw [hl]
    simp [isOwn, tmp, view, frz, ex, aw, ev, evvs, evbs, evas, evo, evc, evT, vw, bw, slot, rd, setS, PM.R.bind, asgTg, asB, asI, ofO, setTg, setTgs, PM.R.bind_ok, setMany]
  · generalize (pre false t).map tP = A
    simp [isOwn, tmp, view, frz, ex, aw, ev, evvs, evbs, evas, evo, evc, evT, vw, bw, slot, rd, setS, PM.R.bind, asgTg, asB, asI, ofO, setTg, setTgs, PM.R.bind_ok]
theorem hparts_ok (t : T) (h : sz t < 50000) (hd : dep (tD t) ≤ 45) : PM.run F Lk02.P (n + 3) 3 [tD t] C = .ok (.int (sz t : Nat), C) := by
  have p := parts_ok F n C hb t h hd
  refine run_ret [some (tD t)] (fn := Lk02.f3) (d := .int (sz t : Nat)) (S := ⟨[some (tD t)], C⟩) rfl rfl rfl (exs_ret ?_) (end_ok rfl rfl hb)
  have pl : primD .len [.lst ((pre false t).map tP)] = some (.int (sz t : Nat)) := by
    show some (D.int ((((pre false t).map tP).length : Nat) : Int)) = _
    rw [List.length_map, length_pre]
  generalize (pre false t).map tP = A at *
  obtain ⟨l, hl⟩ := tD_tup t
  rw [hl] at p ⊢
  simp [isOwn, tmp, view, frz, ex, aw, ev, evvs, evbs, evas, evo, evc, evT, vw, bw, slot, rd, setS, PM.R.bind, asgTg, asB, asI, ofO, setTg, setTgs, PM.R.bind_ok, p, pl]
end
end Mk
end

section
set_option Elab.async false
set_option linter.all false
open PySem PM
namespace Mk
def mx1 (l : List Nat) : Nat := l.foldr max 0
def stepM (t : T) (ps : List (Nat × Nat)) : Nat × Nat := match t with
  | .hear _ _ => (mx1 (ps.map (·.1)) + 1, mx1 (ps.map (·.2)))
  | .whole _ => (0, max (mx1 (ps.map (·.1))) (mx1 (ps.map (·.2))))
  | .total _ => (0, max (mx1 (ps.map (·.1))) (mx1 (ps.map (·.2))))
  | _ => (mx1 (ps.map (·.1)), mx1 (ps.map (·.2)))
mutual
def rnd : T → Nat × Nat
  | .leaf _ _ => (0, 0)
  | .hear _ t => ((rnd t).1 + 1, (rnd t).2)
  | .whole t => (0, max (rnd t).1 (rnd t).2)
  | .total t => (0, max (rnd t).1 (rnd t).2)
  | .plus ts => (mx1 ((rnds ts).map (·.1)), mx1 ((rnds ts).map (·.2)))
  | .times ts => (mx1 ((rnds ts).map (·.1)), mx1 ((rnds ts).map (·.2)))
def rnds : List T → List (Nat × Nat)
  | [] => []
  | t :: ts => rnd t :: rnds ts
end
theorem rnds_map : ∀ ts : List T, rnds ts = ts.map rnd
  | [] => rfl
  | t :: ts => by rw [rnds, rnds_map ts]; rfl
theorem rnd_step (t : T) : rnd t = stepM t ((kids t).map rnd) := by
  cases t <;> simp [rnd, stepM, kids, mx1, rnds_map]
def rD2 (p : Nat × Nat) : D := .tup [.int (p.1 : Nat), .int (p.2 : Nat)]
theorem maxI_mx1 (l : List Nat) : maxI ((0 : Int) :: l.map fun x => ((x : Nat) : Int)) = (mx1 l : Nat) := by
  have : ∀ (l : List Nat) (a : Nat), (l.map fun x => ((x : Nat) : Int)).foldl (fun a b => if b > a then b else a) ((a : Nat) : Int) = ((max a (mx1 l) : Nat) : Int) := by
    intro l
    induction l with
    | nil => intro a; simp [mx1]
    | cons x l ih =>
      intro a
      have e : (if ((x : Nat) : Int) > (a : Nat) then ((x : Nat) : Int) else ((a : Nat) : Int)) = ((max a x : Nat) : Int) := by
        split <;> omega
      rw [List.map_cons, List.foldl_cons, e, ih]
      congr 1
      simp only [mx1, List.foldr_cons]
      omega
  have h := this l 0
  simp only [Nat.zero_max] at h
  exact h
section
variable (F : Fields) (n : Nat) (C : List D) (hb : belows C.length C = true)
include hb
theorem step_ok (t : T) (ps : List (Nat × Nat)) (hp : ps.length < 100000) : PM.run F Lk02.P (n + 1) 5 [tD t, .tup (ps.map rD2)] C = .ok (rD2 (stepM t ps), C) := by
  have hl1 := ev_lc (F := F) (call := PM.run F Lk02.P n) (S := ⟨[some (tD t), some (.tup (ps.map rD2)), none, none, none, none, none], C⟩) (S1 := ⟨[some (tD t), some (.tup (ps.map rD2)), none, none, none, none, none], C⟩) (own := [4, 6]) (tg := .t [.v 4, .v 6]) (k := 0) (its := [.var 1]) (cond := []) (elt := .var 4) (vals := [.tup (ps.map rD2)]) (ds := ps) (g := rD2) (c := fun _ => true) (f := fun p => .int (p.1 : Nat)) (Ld := fun p => [some (tD t), some (.tup (ps.map rD2)), none, none, some (.int (p.1 : Nat)), none, some (.int (p.2 : Nat))]) (by
    generalize ps.map rD2 = A
    obtain ⟨l, hl⟩ := tD_tup t
    rw [hl]
    simp [isOwn, tmp, view, frz, ex, aw, ev, evvs, evbs, evas, evo, evc, evT, vw, bw, slot, rd, setS, PM.R.bind, asgTg, asB, asI, ofO, setTg, setTgs, PM.R.bind_ok]) rfl (by
    generalize ps.map rD2 = A
    simp [isOwn, tmp, view, frz, ex, aw, ev, evvs, evbs, evas, evo, evc, evT, vw, bw, slot, rd, setS, PM.R.bind, asgTg, asB, asI, ofO, binD, add_ii, subD, cmpD, primD, itemsD, setTg, setTgs, wipeL, noOwn, idxD, sliceD, revD, PM.R.bind_ok]) (by rw [LIM_eq]; omega) (by
    intro p _
    generalize ps.map rD2 = A
    generalize tD t = TT
    simp only [rD2]
    simp [isOwn, tmp, view, frz, ex, aw, ev, evvs, evbs, evas, evo, evc, evT, vw, bw, slot, rd, setS, PM.R.bind, asgTg, asB, asI, ofO, setTg, setTgs, PM.R.bind_ok, wipeL])
  have e1 : ((ps.filter fun _ => true).map fun p => D.int ((p.1 : Nat) : Int)) = isD ((ps.map (·.1)).map fun x => ((x : Nat) : Int)) := by
    rw [List.filter_eq_self.mpr (by simp)]
    simp [isD]
  rw [e1] at hl1
  have a1 := add_lists [.int 0] (isD ((ps.map (·.1)).map fun x => ((x : Nat) : Int))) (by rw [isD_length]; simp; omega)
  have p1 : primD .maxL [.lst ([.int 0] ++ isD ((ps.map (·.1)).map fun x => ((x : Nat) : Int)))] = some (.int (mx1 (ps.map (·.1)) : Nat)) := by
    have : [D.int 0] ++ isD ((ps.map (·.1)).map fun x => ((x : Nat) : Int)) = isD (0 :: (ps.map (·.1)).map fun x => ((x : Nat) : Int)) := rfl
    simp only [this, primD, intsOf_isD, Option.bind_some, maxI_mx1]
    rw [if_neg (by simp)]
  generalize [D.int 0] ++ isD ((ps.map (·.1)).map fun x => ((x : Nat) : Int)) = M1 at a1 p1
  have hl2 := ev_lc (F := F) (call := PM.run F Lk02.P n) (S := ⟨[some (tD t), some (.tup (ps.map rD2)), some (.int (mx1 (ps.map (·.1)) : Nat)), none, none, none, none], C⟩) (S1 := ⟨[some (tD t), some (.tup (ps.map rD2)), some (.int (mx1 (ps.map (·.1)) : Nat)), none, none, none, none], C⟩) (own := [6, 5]) (tg := .t [.v 6, .v 5]) (k := 0) (its := [.var 1]) (cond := []) (elt := .var 5) (vals := [.tup (ps.map rD2)]) (ds := ps) (g := rD2) (c := fun _ => true) (f := fun p => .int (p.2 : Nat)) (Ld := fun p => [some (tD t), some (.tup (ps.map rD2)), some (.int (mx1 (ps.map (·.1)) : Nat)), none, none, some (.int (p.2 : Nat)), some (.int (p.1 : Nat))]) (by
    generalize ps.map rD2 = A
    obtain ⟨l, hl⟩ := tD_tup t
    rw [hl]
    simp [isOwn, tmp, view, frz, ex, aw, ev, evvs, evbs, evas, evo, evc, evT, vw, bw, slot, rd, setS, PM.R.bind, asgTg, asB, asI, ofO, setTg, setTgs, PM.R.bind_ok]) rfl (by
    generalize ps.map rD2 = A
    simp [isOwn, tmp, view, frz, ex, aw, ev, evvs, evbs, evas, evo, evc, evT, vw, bw, slot, rd, setS, PM.R.bind, asgTg, asB, asI, ofO, binD, add_ii, subD, cmpD, primD, itemsD, setTg, setTgs, wipeL, noOwn, idxD, sliceD, revD, PM.R.bind_ok]) (by rw [LIM_eq]; omega) (by
    intro p _
    generalize ps.map rD2 = A
    generalize tD t = TT
    simp only [rD2]
    simp [isOwn, tmp, view, frz, ex, aw, ev, evvs, evbs, evas, evo, evc, evT, vw, bw, slot, rd, setS, PM.R.bind, asgTg, asB, asI, ofO, setTg, setTgs, PM.R.bind_ok, wipeL])
  have e2 : ((ps.filter fun _ => true).map fun p => D.int ((p.2 : Nat) : Int)) = isD ((ps.map (·.2)).map fun x => ((x : Nat) : Int)) := by
    rw [List.filter_eq_self.mpr (by simp)]
    simp [isD]
  rw [e2] at hl2
  have a2 := add_lists [.int 0] (isD ((ps.map (·.2)).map fun x => ((x : Nat) : Int))) (by rw [isD_length]; simp; omega)
  have p2 : primD .maxL [.lst ([.int 0] ++ isD ((ps.map (·.2)).map fun x => ((x : Nat) : Int)))] = some (.int (mx1 (ps.map (·.2)) : Nat)) := by
    have : [D.int 0] ++ isD ((ps.map (·.2)).map fun x => ((x : Nat) : Int)) = isD (0 :: (ps.map (·.2)).map fun x => ((x : Nat) : Int)) := rfl
    simp only [this, primD, intsOf_isD, Option.bind_some, maxI_mx1]
    rw [if_neg (by simp)]
  generalize [D.int 0] ++ isD ((ps.map (·.2)).map fun x => ((x : Nat) : Int)) = M2 at a2 p2
  have i0 : ∀ (a : D) (l : List D), idxD (.tup (a :: l)) (.int 0) = some a := fun a l => by
    show (ixD _ _).bind _ = _
    unfold ixD
    rw [ixN_zero (by simp)]
    rfl
  have fin : exs F (PM.run F Lk02.P n) [(.ite (.cmp .eq (.idx (.var 0) (.k (.int (0)))) (.glob (.str "hear"))) [.ret (.tup [.bin .add (.var 2) (.k (.int (1))), .var 3])] []), (.ret (.ite (.cmp .isIn (.idx (.var 0) (.k (.int (0)))) (.tup [.glob (.str "total"), .glob (.str "whole")])) (.tup [.k (.int (0)), .prim .max2 [.var 2, .var 3]]) (.tup [.var 2, .var 3])))] ⟨[some (tD t), some (.tup (ps.map rD2)), some (.int (mx1 (ps.map (·.1)) : Nat)), some (.int (mx1 (ps.map (·.2)) : Nat)), none, none, none], C⟩ = .ok (.ret (rD2 (stepM t ps)) ⟨[some (tD t), some (.tup (ps.map rD2)), some (.int (mx1 (ps.map (·.1)) : Nat)), some (.int (mx1 (ps.map (·.2)) : Nat)), none, none, none], C⟩) := by
    have m2 : ∀ a b : Nat, primD .max2 [.int (a : Nat), .int (b : Nat)] = some (.int ((max a b : Nat) : Int)) := fun a b => by
      show some (D.int (if ((b : Nat) : Int) > (a : Nat) then ((b : Nat) : Int) else ((a : Nat) : Int))) = _
      congr 2
      split <;> omega
    simp only [stepM]
    generalize mx1 (ps.map (·.1)) = u
    generalize mx1 (ps.map (·.2)) = v
    generalize ps.map rD2 = A
    have m2 := m2 u v
    generalize max u v = w at m2
    cases t with
    | leaf m a => cases m <;> cases a <;> simp [isOwn, tmp, view, frz, ex, aw, ev, evvs, evbs, evas, evo, evc, evT, vw, bw, slot, rd, setS, PM.R.bind, asgTg, asB, asI, ofO, setTg, setTgs, PM.R.bind_ok, exs, tD, aD, i0, rD2, m2, in_T1_number, il_T1_number, nl_T1_number, in_T1_mark, il_T1_mark, nl_T1_mark, in_T1_hear, il_T1_hear, nl_T1_hear, in_T1_whole, il_T1_whole, nl_T1_whole, in_T1_total, il_T1_total, nl_T1_total, in_T1_plus, il_T1_plus, nl_T1_plus, in_T1_times, il_T1_times, nl_T1_times, in_T2_number, il_T2_number, nl_T2_number, in_T2_mark, il_T2_mark, nl_T2_mark, in_T2_hear, il_T2_hear, nl_T2_hear, in_T2_whole, il_T2_whole, nl_T2_whole, in_T2_total, il_T2_total, nl_T2_total, in_T2_plus, il_T2_plus, nl_T2_plus, in_T2_times, il_T2_times, nl_T2_times, in_T3_number, il_T3_number, nl_T3_number, in_T3_mark, il_T3_mark, nl_T3_mark, in_T3_hear, il_T3_hear, nl_T3_hear, in_T3_whole, il_T3_whole, nl_T3_whole, in_T3_total, il_T3_total, nl_T3_total, in_T3_plus, il_T3_plus, nl_T3_plus, in_T3_times, il_T3_times, nl_T3_times, in_T4_number, il_T4_number, nl_T4_number, in_T4_mark, il_T4_mark, nl_T4_mark, in_T4_hear, il_T4_hear, nl_T4_hear, in_T4_whole, il_T4_whole, nl_T4_whole, in_T4_total, il_T4_total, nl_T4_total, in_T4_plus, il_T4_plus, nl_T4_plus, in_T4_times, il_T4_times, nl_T4_times, eq_number_hear, eq_number_total, eq_number_times, eq_number_whole, ne_number_whole, eq_mark_hear, eq_mark_total, eq_mark_times, eq_mark_whole, ne_mark_whole, eq_hear_hear, eq_hear_total, eq_hear_times, eq_hear_whole, ne_hear_whole, eq_whole_hear, eq_whole_total, eq_whole_times, eq_whole_whole, ne_whole_whole, eq_total_hear, eq_total_total, eq_total_times, eq_total_whole, ne_total_whole, eq_plus_hear, eq_plus_total, eq_plus_times, eq_plus_whole, ne_plus_whole, eq_times_hear, eq_times_total, eq_times_times, eq_times_whole, ne_times_whole]
    | hear l t =>
      have ad : binD .add (.int (u : Nat)) (.int 1) = some (.int ((u + 1 : Nat) : Int)) := rfl
      simp [isOwn, tmp, view, frz, ex, aw, ev, evvs, evbs, evas, evo, evc, evT, vw, bw, slot, rd, setS, PM.R.bind, asgTg, asB, asI, ofO, setTg, setTgs, PM.R.bind_ok, exs, tD, i0, rD2, m2, ad, in_T1_number, il_T1_number, nl_T1_number, in_T1_mark, il_T1_mark, nl_T1_mark, in_T1_hear, il_T1_hear, nl_T1_hear, in_T1_whole, il_T1_whole, nl_T1_whole, in_T1_total, il_T1_total, nl_T1_total, in_T1_plus, il_T1_plus, nl_T1_plus, in_T1_times, il_T1_times, nl_T1_times, in_T2_number, il_T2_number, nl_T2_number, in_T2_mark, il_T2_mark, nl_T2_mark, in_T2_hear, il_T2_hear, nl_T2_hear, in_T2_whole, il_T2_whole, nl_T2_whole, in_T2_total, il_T2_total, nl_T2_total, in_T2_plus, il_T2_plus, nl_T2_plus, in_T2_times, il_T2_times, nl_T2_times, in_T3_number, il_T3_number, nl_T3_number, in_T3_mark, il_T3_mark, nl_T3_mark, in_T3_hear, il_T3_hear, nl_T3_hear, in_T3_whole, il_T3_whole, nl_T3_whole, in_T3_total, il_T3_total, nl_T3_total, in_T3_plus, il_T3_plus, nl_T3_plus, in_T3_times, il_T3_times, nl_T3_times, in_T4_number, il_T4_number, nl_T4_number, in_T4_mark, il_T4_mark, nl_T4_mark, in_T4_hear, il_T4_hear, nl_T4_hear, in_T4_whole, il_T4_whole, nl_T4_whole, in_T4_total, il_T4_total, nl_T4_total, in_T4_plus, il_T4_plus, nl_T4_plus, in_T4_times, il_T4_times, nl_T4_times, eq_number_hear, eq_number_total, eq_number_times, eq_number_whole, ne_number_whole, eq_mark_hear, eq_mark_total, eq_mark_times, eq_mark_whole, ne_mark_whole, eq_hear_hear, eq_hear_total, eq_hear_times, eq_hear_whole, ne_hear_whole, eq_whole_hear, eq_whole_total, eq_whole_times, eq_whole_whole, ne_whole_whole, eq_total_hear, eq_total_total, eq_total_times, eq_total_whole, ne_total_whole, eq_plus_hear, eq_plus_total, eq_plus_times, eq_plus_whole, ne_plus_whole, eq_times_hear, eq_times_total, eq_times_times, eq_times_whole, ne_times_whole]
    | whole t => simp [isOwn, tmp, view, frz, ex, aw, ev, evvs, evbs, evas, evo, evc, evT, vw, bw, slot, rd, setS, PM.R.bind, asgTg, asB, asI, ofO, setTg, setTgs, PM.R.bind_ok, exs, tD, i0, rD2, m2, in_T1_number, il_T1_number, nl_T1_number, in_T1_mark, il_T1_mark, nl_T1_mark, in_T1_hear, il_T1_hear, nl_T1_hear, in_T1_whole, il_T1_whole, nl_T1_whole, in_T1_total, il_T1_total, nl_T1_total, in_T1_plus, il_T1_plus, nl_T1_plus, in_T1_times, il_T1_times, nl_T1_times, in_T2_number, il_T2_number, nl_T2_number, in_T2_mark, il_T2_mark, nl_T2_mark, in_T2_hear, il_T2_hear, nl_T2_hear, in_T2_whole, il_T2_whole, nl_T2_whole, in_T2_total, il_T2_total, nl_T2_total, in_T2_plus, il_T2_plus, nl_T2_plus, in_T2_times, il_T2_times, nl_T2_times, in_T3_number, il_T3_number, nl_T3_number, in_T3_mark, il_T3_mark, nl_T3_mark, in_T3_hear, il_T3_hear, nl_T3_hear, in_T3_whole, il_T3_whole, nl_T3_whole, in_T3_total, il_T3_total, nl_T3_total, in_T3_plus, il_T3_plus, nl_T3_plus, in_T3_times, il_T3_times, nl_T3_times, in_T4_number, il_T4_number, nl_T4_number, in_T4_mark, il_T4_mark, nl_T4_mark, in_T4_hear, il_T4_hear, nl_T4_hear, in_T4_whole, il_T4_whole, nl_T4_whole, in_T4_total, il_T4_total, nl_T4_total, in_T4_plus, il_T4_plus, nl_T4_plus, in_T4_times, il_T4_times, nl_T4_times, eq_number_hear, eq_number_total, eq_number_times, eq_number_whole, ne_number_whole, eq_mark_hear, eq_mark_total, eq_mark_times, eq_mark_whole, ne_mark_whole, eq_hear_hear, eq_hear_total, eq_hear_times, eq_hear_whole, ne_hear_whole, eq_whole_hear, eq_whole_total, eq_whole_times, eq_whole_whole, ne_whole_whole, eq_total_hear, eq_total_total, eq_total_times, eq_total_whole, ne_total_whole, eq_plus_hear, eq_plus_total, eq_plus_times, eq_plus_whole, ne_plus_whole, eq_times_hear, eq_times_total, eq_times_times, eq_times_whole, ne_times_whole]
    | total t => simp [isOwn, tmp, view, frz, ex, aw, ev, evvs, evbs, evas, evo, evc, evT, vw, bw, slot, rd, setS, PM.R.bind, asgTg, asB, asI, ofO, setTg, setTgs, PM.R.bind_ok, exs, tD, i0, rD2, m2, in_T1_number, il_T1_number, nl_T1_number, in_T1_mark, il_T1_mark, nl_T1_mark, in_T1_hear, il_T1_hear, nl_T1_hear, in_T1_whole, il_T1_whole, nl_T1_whole, in_T1_total, il_T1_total, nl_T1_total, in_T1_plus, il_T1_plus, nl_T1_plus, in_T1_times, il_T1_times, nl_T1_times, in_T2_number, il_T2_number, nl_T2_number, in_T2_mark, il_T2_mark, nl_T2_mark, in_T2_hear, il_T2_hear, nl_T2_hear, in_T2_whole, il_T2_whole, nl_T2_whole, in_T2_total, il_T2_total, nl_T2_total, in_T2_plus, il_T2_plus, nl_T2_plus, in_T2_times, il_T2_times, nl_T2_times, in_T3_number, il_T3_number, nl_T3_number, in_T3_mark, il_T3_mark, nl_T3_mark, in_T3_hear, il_T3_hear, nl_T3_hear, in_T3_whole, il_T3_whole, nl_T3_whole, in_T3_total, il_T3_total, nl_T3_total, in_T3_plus, il_T3_plus, nl_T3_plus, in_T3_times, il_T3_times, nl_T3_times, in_T4_number, il_T4_number, nl_T4_number, in_T4_mark, il_T4_mark, nl_T4_mark, in_T4_hear, il_T4_hear, nl_T4_hear, in_T4_whole, il_T4_whole, nl_T4_whole, in_T4_total, il_T4_total, nl_T4_total, in_T4_plus, il_T4_plus, nl_T4_plus, in_T4_times, il_T4_times, nl_T4_times, eq_number_hear, eq_number_total, eq_number_times, eq_number_whole, ne_number_whole, eq_mark_hear, eq_mark_total, eq_mark_times, eq_mark_whole, ne_mark_whole, eq_hear_hear, eq_hear_total, eq_hear_times, eq_hear_whole, ne_hear_whole, eq_whole_hear, eq_whole_total, eq_whole_times, eq_whole_whole, ne_whole_whole, eq_total_hear, eq_total_total, eq_total_times, eq_total_whole, ne_total_whole, eq_plus_hear, eq_plus_total, eq_plus_times, eq_plus_whole, ne_plus_whole, eq_times_hear, eq_times_total, eq_times_times, eq_times_whole, ne_times_whole]
    | plus ts => simp [isOwn, tmp, view, frz, ex, aw, ev, evvs, evbs, evas, evo, evc, evT, vw, bw, slot, rd, setS, PM.R.bind, asgTg, asB, asI, ofO, setTg, setTgs, PM.R.bind_ok, exs, tD, i0, rD2, m2, in_T1_number, il_T1_number, nl_T1_number, in_T1_mark, il_T1_mark, nl_T1_mark, in_T1_hear, il_T1_hear, nl_T1_hear, in_T1_whole, il_T1_whole, nl_T1_whole, in_T1_total, il_T1_total, nl_T1_total, in_T1_plus, il_T1_plus, nl_T1_plus, in_T1_times, il_T1_times, nl_T1_times, in_T2_number, il_T2_number, nl_T2_number, in_T2_mark, il_T2_mark, nl_T2_mark, in_T2_hear, il_T2_hear, nl_T2_hear, in_T2_whole, il_T2_whole, nl_T2_whole, in_T2_total, il_T2_total, nl_T2_total, in_T2_plus, il_T2_plus, nl_T2_plus, in_T2_times, il_T2_times, nl_T2_times, in_T3_number, il_T3_number, nl_T3_number, in_T3_mark, il_T3_mark, nl_T3_mark, in_T3_hear, il_T3_hear, nl_T3_hear, in_T3_whole, il_T3_whole, nl_T3_whole, in_T3_total, il_T3_total, nl_T3_total, in_T3_plus, il_T3_plus, nl_T3_plus, in_T3_times, il_T3_times, nl_T3_times, in_T4_number, il_T4_number, nl_T4_number, in_T4_mark, il_T4_mark, nl_T4_mark, in_T4_hear, il_T4_hear, nl_T4_hear, in_T4_whole, il_T4_whole, nl_T4_whole, in_T4_total, il_T4_total, nl_T4_total, in_T4_plus, il_T4_plus, nl_T4_plus, in_T4_times, il_T4_times, nl_T4_times, eq_number_hear, eq_number_total, eq_number_times, eq_number_whole, ne_number_whole, eq_mark_hear, eq_mark_total, eq_mark_times, eq_mark_whole, ne_mark_whole, eq_hear_hear, eq_hear_total, eq_hear_times, eq_hear_whole, ne_hear_whole, eq_whole_hear, eq_whole_total, eq_whole_times, eq_whole_whole, ne_whole_whole, eq_total_hear, eq_total_total, eq_total_times, eq_total_whole, ne_total_whole, eq_plus_hear, eq_plus_total, eq_plus_times, eq_plus_whole, ne_plus_whole, eq_times_hear, eq_times_total, eq_times_times, eq_times_whole, ne_times_whole]
    | times ts => simp [isOwn, tmp, view, frz, ex, aw, ev, evvs, evbs, evas, evo, evc, evT, vw, bw, slot, rd, setS, PM.R.bind, asgTg, asB, asI, ofO, setTg, setTgs, PM.R.bind_ok, exs, tD, i0, rD2, m2, in_T1_number, il_T1_number, nl_T1_number, in_T1_mark, il_T1_mark, nl_T1_mark, in_T1_hear, il_T1_hear, nl_T1_hear, in_T1_whole, il_T1_whole, nl_T1_whole, in_T1_total, il_T1_total, nl_T1_total, in_T1_plus, il_T1_plus, nl_T1_plus, in_T1_times, il_T1_times, nl_T1_times, in_T2_number, il_T2_number, nl_T2_number, in_T2_mark, il_T2_mark, nl_T2_mark, in_T2_hear, il_T2_hear, nl_T2_hear, in_T2_whole, il_T2_whole, nl_T2_whole, in_T2_total, il_T2_total, nl_T2_total, in_T2_plus, il_T2_plus, nl_T2_plus, in_T2_times, il_T2_times, nl_T2_times, in_T3_number, il_T3_number, nl_T3_number, in_T3_mark, il_T3_mark, nl_T3_mark, in_T3_hear, il_T3_hear, nl_T3_hear, in_T3_whole, il_T3_whole, nl_T3_whole, in_T3_total, il_T3_total, nl_T3_total, in_T3_plus, il_T3_plus, nl_T3_plus, in_T3_times, il_T3_times, nl_T3_times, in_T4_number, il_T4_number, nl_T4_number, in_T4_mark, il_T4_mark, nl_T4_mark, in_T4_hear, il_T4_hear, nl_T4_hear, in_T4_whole, il_T4_whole, nl_T4_whole, in_T4_total, il_T4_total, nl_T4_total, in_T4_plus, il_T4_plus, nl_T4_plus, in_T4_times, il_T4_times, nl_T4_times, eq_number_hear, eq_number_total, eq_number_times, eq_number_whole, ne_number_whole, eq_mark_hear, eq_mark_total, eq_mark_times, eq_mark_whole, ne_mark_whole, eq_hear_hear, eq_hear_total, eq_hear_times, eq_hear_whole, ne_hear_whole, eq_whole_hear, eq_whole_total, eq_whole_times, eq_whole_whole, ne_whole_whole, eq_total_hear, eq_total_total, eq_total_times, eq_total_whole, ne_total_whole, eq_plus_hear, eq_plus_total, eq_plus_times, eq_plus_whole, ne_plus_whole, eq_times_hear, eq_times_total, eq_times_times, eq_times_whole, ne_times_whole]
  have hend : endC true C.length (rD2 (stepM t ps)) C = .ok (rD2 (stepM t ps), C) := by
    generalize stepM t ps = q
    exact end_ok rfl rfl hb
  refine run_ret [some (tD t), some (.tup (ps.map rD2)), none, none, none, none, none] (fn := Lk02.f5) (d := rD2 (stepM t ps)) (S := ⟨[some (tD t), some (.tup (ps.map rD2)), some (.int (mx1 (ps.map (·.1)) : Nat)), some (.int (mx1 (ps.map (·.2)) : Nat)), none, none, none], C⟩) rfl rfl rfl ?_ hend
  refine exs_nx (S1 := ⟨[some (tD t), some (.tup (ps.map rD2)), some (.int (mx1 (ps.map (·.1)) : Nat)), none, none, none, none], C⟩) ?_ (exs_nx (S1 := ⟨[some (tD t), some (.tup (ps.map rD2)), some (.int (mx1 (ps.map (·.1)) : Nat)), some (.int (mx1 (ps.map (·.2)) : Nat)), none, none, none], C⟩) ?_ ?_)
  rotate_right
  · clear hl1 hl2
    generalize PM.run F Lk02.P n = cl at *
    generalize rD2 (stepM t ps) = q at *
    exact fin
  · clear hl2 fin
    generalize ME.lc _ _ _ _ _ _ = le at *
    generalize isD ((ps.map (·.1)).map fun x => ((x : Nat) : Int)) = LL at *
    generalize mx1 (ps.map (·.1)) = u at *
    generalize ps.map rD2 = A at *
    generalize tD t = TT at *
    simp [isOwn, tmp, view, frz, ex, aw, ev, evvs, evbs, evas, evo, evc, evT, vw, bw, slot, rd, setS, PM.R.bind, asgTg, asB, asI, ofO, setTg, setTgs, PM.R.bind_ok, hl1, binD, a1, p1]
  · clear hl1 fin
    generalize ME.lc _ _ _ _ _ _ = le at *
    generalize isD ((ps.map (·.2)).map fun x => ((x : Nat) : Int)) = LL at *
    generalize mx1 (ps.map (·.1)) = u at *
    generalize mx1 (ps.map (·.2)) = u2 at *
    generalize ps.map rD2 = A at *
    generalize tD t = TT at *
    simp [isOwn, tmp, view, frz, ex, aw, ev, evvs, evbs, evas, evo, evc, evT, vw, bw, slot, rd, setS, PM.R.bind, asgTg, asB, asI, ofO, setTg, setTgs, PM.R.bind_ok, hl2, binD, a2, p2]
/-- n turns of the while -/
def WT (F : Fields) (cl : CallF) (n : Nat) (S S' : PS) : Prop := ∀ m : Nat, whileL (fun S => evT F cl (.cmp .ne (.var 2) (.list [])) S) (fun S => exs F cl [.asg (.t [.v 6, .v 5]) (.pop (.var 2)), .asg (.v 4) (.call 0 [.var 6]), .ite (.var 5) [.asg (.v 7) (.bin .sub (.prim .len [.var 3]) (.prim .len [.var 4])), .asg (.v 3) (.bin .add (.slice (.var 3) none (some (.var 7))) (.list [.callv 1 [.var 6, .prim .tuple1 [.slice (.var 3) (some (.var 7)) none]]]))] [.expr (.append (.var 2) (.tup [.var 6, .k (.bl true)])), .expr (.extend (.var 2) (.lc [8] (.v 8) 0 [.rev (.var 4)] [] (.tup [.var 8, .k (.bl false)])))]] S) (m + n) S = whileL (fun S => evT F cl (.cmp .ne (.var 2) (.list [])) S) (fun S => exs F cl [.asg (.t [.v 6, .v 5]) (.pop (.var 2)), .asg (.v 4) (.call 0 [.var 6]), .ite (.var 5) [.asg (.v 7) (.bin .sub (.prim .len [.var 3]) (.prim .len [.var 4])), .asg (.v 3) (.bin .add (.slice (.var 3) none (some (.var 7))) (.list [.callv 1 [.var 6, .prim .tuple1 [.slice (.var 3) (some (.var 7)) none]]]))] [.expr (.append (.var 2) (.tup [.var 6, .k (.bl true)])), .expr (.extend (.var 2) (.lc [8] (.v 8) 0 [.rev (.var 4)] [] (.tup [.var 8, .k (.bl false)])))]] S) m S'
omit hb in
theorem WT.trans {cl : CallF} {a b : Nat} {S S' S'' : PS} (h : WT F cl a S S') (k : WT F cl b S' S'') : WT F cl (b + a) S S'' := fun m => by
  rw [← Nat.add_assoc, h, k]
omit hb in
theorem WT.one {cl : CallF} {S S1 S' : PS} (h : evT F cl (.cmp .ne (.var 2) (.list [])) S = .ok (true, S1)) (k : exs F cl [.asg (.t [.v 6, .v 5]) (.pop (.var 2)), .asg (.v 4) (.call 0 [.var 6]), .ite (.var 5) [.asg (.v 7) (.bin .sub (.prim .len [.var 3]) (.prim .len [.var 4])), .asg (.v 3) (.bin .add (.slice (.var 3) none (some (.var 7))) (.list [.callv 1 [.var 6, .prim .tuple1 [.slice (.var 3) (some (.var 7)) none]]]))] [.expr (.append (.var 2) (.tup [.var 6, .k (.bl true)])), .expr (.extend (.var 2) (.lc [8] (.v 8) 0 [.rev (.var 4)] [] (.tup [.var 8, .k (.bl false)])))]] S1 = .ok (.nx S')) : WT F cl 1 S S' := fun m => while_step h k rfl
/-- the state of heard_folded -/
def St (C : List D) (root : D) (todo : List (T × Bool)) (done : List (Nat × Nat)) (x4 x5 x6 x7 : Option D) : PS := ⟨[some root, some (.fn 5), some (.nl (todo.map tP)), some (.nl (done.map rD2)), x4, x5, x6, x7, none], C⟩
/-- what is folded of a part that stands on top -/
def PT (F : Fields) (cl : CallF) (C : List D) (root : D) (t : T) : Prop := ∀ (todo : List (T × Bool)) (done : List (Nat × Nat)) (x4 x5 x6 x7 : Option D), (∀ p ∈ todo, dep (tD p.1) ≤ 45) → dep (tD t) ≤ 45 → todo.length + done.length + 2 * sz t < 100000 →
  ∃ (n : Nat) (y4 y5 y6 y7 : Option D), n ≤ 2 * sz t ∧ WT F cl n (St C root (todo ++ [(t, false)]) done x4 x5 x6 x7) (St C root todo (done ++ [rnd t]) y4 y5 y6 y7)
def PTs (F : Fields) (cl : CallF) (C : List D) (root : D) (ts : List T) : Prop := ∀ (todo : List (T × Bool)) (done : List (Nat × Nat)) (x4 x5 x6 x7 : Option D), (∀ p ∈ todo, dep (tD p.1) ≤ 45) → (∀ t ∈ ts, dep (tD t) ≤ 45) → todo.length + done.length + 2 * szs ts < 100000 →
  ∃ (n : Nat) (y4 y5 y6 y7 : Option D), n ≤ 2 * szs ts ∧ WT F cl n (St C root (todo ++ (ts.map fun k => (k, false)).reverse) done x4 x5 x6 x7) (St C root todo (done ++ ts.map rnd) y4 y5 y6 y7)
omit hb in
theorem pts_nil {cl : CallF} {root : D} : PTs F cl C root [] := fun todo done x4 x5 x6 x7 _ _ _ => ⟨0, x4, x5, x6, x7, Nat.zero_le _, fun m => by simp⟩
omit hb in
theorem pts_cons {cl : CallF} {root : D} {t : T} {ts : List T} (h : PT F cl C root t) (k : PTs F cl C root ts) : PTs F cl C root (t :: ts) := fun todo done x4 x5 x6 x7 hd ht hl => by
  have hsz := sz_pos t
  simp only [szs] at hl
  have hln : ts.length ≤ szs ts := by
    have := len_szp ((ts.map fun k => (k, false)).reverse)
    rw [szp_kids] at this
    simpa using this
  obtain ⟨a, z4, z5, z6, z7, ha, wa⟩ := h (todo ++ (ts.map fun k => (k, false)).reverse) done x4 x5 x6 x7 (fun p hp => by
    rcases List.mem_append.mp hp with z | z
    · exact hd p z
    · obtain ⟨k, hk, rfl⟩ := List.mem_map.mp (List.mem_reverse.mp z)
      exact ht k (List.mem_cons_of_mem _ hk)) (ht t List.mem_cons_self) (by simp; omega)
  obtain ⟨b, y4, y5, y6, y7, hb, wb⟩ := k todo (done ++ [rnd t]) z4 z5 z6 z7 hd (fun u hu => ht u (List.mem_cons_of_mem _ hu)) (by simp; omega)
  refine ⟨b + a, y4, y5, y6, y7, by simp only [szs]; omega, ?_⟩
  have e1 : todo ++ ((t :: ts).map fun k => (k, false)).reverse = todo ++ (ts.map fun k => (k, false)).reverse ++ [(t, false)] := by simp
  have e2 : done ++ (t :: ts).map rnd = done ++ [rnd t] ++ ts.map rnd := by simp
  rw [e1, e2]
  exact wa.trans F wb
theorem pt_node (root : D) (t : T) (hk : PTs F (PM.run F Lk02.P (n + 1)) C root (kids t)) : PT F (PM.run F Lk02.P (n + 1)) C root t := fun todo done x4 x5 x6 x7 hd ht hl => by
  have hs := sz_kids t
  have hln : (kids t).length ≤ szs (kids t) := by
    have := len_szp (((kids t).map fun k => (k, false)).reverse)
    rw [szp_kids] at this
    simpa using this
  have io := inner_ok F n C hb t
  obtain ⟨tl, htl⟩ := tD_tup t
  have hd1 : ∀ p ∈ todo ++ [(t, true)], dep (tD p.1) ≤ 45 := fun p hp => by
    rcases List.mem_append.mp hp with z | z
    · exact hd p z
    · rw [List.mem_singleton] at z; subst z; exact ht
  have hd0 : ∀ p ∈ todo ++ [(t, false)], dep (tD p.1) ≤ 45 := fun p hp => by
    rcases List.mem_append.mp hp with z | z
    · exact hd p z
    · rw [List.mem_singleton] at z; subst z; exact ht
  -- the first turn
  have w1 : WT F (PM.run F Lk02.P (n + 1)) 1 (St C root (todo ++ [(t, false)]) done x4 x5 x6 x7) (St C root (todo ++ [(t, true)] ++ ((kids t).map fun k => (k, false)).reverse) done (some (.tup (tDs (kids t)))) (some (.bl false)) (some (tD t)) x7) := by
    have ne := ne_todo (todo ++ [(t, false)]) hd0
    rw [decide_eq_true (by simp)] at ne
    have gl : ((todo ++ [(t, false)]).map tP).getLast? = some (.tup [tD t, .bl false]) := by simp [tP]
    have dl : ((todo ++ [(t, false)]).map tP).dropLast = todo.map tP := by simp
    have hz : (todo.map tP).length < LIM := by rw [LIM_eq, List.length_map]; omega
    have ea : todo.map tP ++ [.tup [tD t, .bl true]] = (todo ++ [(t, true)]).map tP := by rw [List.map_append]; rfl
    have rv : revD (.tup (tDs (kids t))) = some (.tup ((kids t).reverse.map tD)) := by
      rw [tDs_map]
      simp [revD]
    have hlc := ev_lc (F := F) (call := PM.run F Lk02.P (n + 1)) (S := ⟨[some root, some (.fn 5), some (.nl ((todo ++ [(t, true)]).map tP)), some (.nl (done.map rD2)), some (.tup (tDs (kids t))), some (.bl false), some (tD t), x7, none], C⟩) (S1 := ⟨[some root, some (.fn 5), some (.nl ((todo ++ [(t, true)]).map tP)), some (.nl (done.map rD2)), some (.tup (tDs (kids t))), some (.bl false), some (tD t), x7, none], C⟩) (own := [8]) (tg := .v 8) (k := 0) (its := [.rev (.var 4)]) (cond := []) (elt := .tup [.var 8, .k (.bl false)]) (vals := [.tup ((kids t).reverse.map tD)]) (ds := (kids t).reverse) (g := tD) (c := fun _ => true) (f := fun k => tP (k, false)) (Ld := fun k => [some root, some (.fn 5), some (.nl ((todo ++ [(t, true)]).map tP)), some (.nl (done.map rD2)), some (.tup (tDs (kids t))), some (.bl false), some (tD t), x7, some (tD k)]) (by
        generalize (todo ++ [(t, true)]).map tP = A1 at *
        generalize done.map rD2 = A2 at *
        generalize tDs (kids t) = KK at *
        generalize (kids t).reverse.map tD = KR at *
        simp [isOwn, tmp, view, frz, ex, aw, ev, evvs, evbs, evas, evo, evc, evT, vw, bw, slot, rd, setS, PM.R.bind, asgTg, asB, asI, ofO, setTg, setTgs, PM.R.bind_ok, rv]) rfl (by
        generalize (todo ++ [(t, true)]).map tP = A1 at *
        generalize done.map rD2 = A2 at *
        simp [isOwn, tmp, view, frz, ex, aw, ev, evvs, evbs, evas, evo, evc, evT, vw, bw, slot, rd, setS, PM.R.bind, asgTg, asB, asI, ofO, binD, add_ii, subD, cmpD, primD, itemsD, setTg, setTgs, wipeL, noOwn, idxD, sliceD, revD, PM.R.bind_ok]) (by rw [LIM_eq, List.length_reverse]; omega) (by
        intro k _
        generalize (todo ++ [(t, true)]).map tP = A1 at *
        generalize done.map rD2 = A2 at *
        generalize tDs (kids t) = KK at *
        generalize tD t = TT at *
        obtain ⟨l, hl⟩ := tD_tup k
        simp only [tP, hl]
        simp [isOwn, tmp, view, frz, ex, aw, ev, evvs, evbs, evas, evo, evc, evT, vw, bw, slot, rd, setS, PM.R.bind, asgTg, asB, asI, ofO, setTg, setTgs, PM.R.bind_ok, wipeL])
    have ef : (((kids t).reverse.filter fun _ => true).map fun k => tP (k, false)) = (((kids t).map fun k => (k, false)).reverse).map tP := by
      rw [List.filter_eq_self.mpr (by simp), ← List.map_reverse, List.map_map]
      rfl
    rw [ef] at hlc
    have hz2 : ((todo ++ [(t, true)]).map tP).length + ((((kids t).map fun k => (k, false)).reverse).map tP).length < LIM := by rw [LIM_eq]; simp; omega
    have ea2 : (todo ++ [(t, true)]).map tP ++ (((kids t).map fun k => (k, false)).reverse).map tP = (todo ++ [(t, true)] ++ ((kids t).map fun k => (k, false)).reverse).map tP := by rw [← List.map_append]
    refine WT.one F (S1 := St C root (todo ++ [(t, false)]) done x4 x5 x6 x7) ?_ ?_
    · unfold St
      generalize (todo ++ [(t, false)]).map tP = A at *
      generalize done.map rD2 = A2 at *
      simp [isOwn, tmp, view, frz, ex, aw, ev, evvs, evbs, evas, evo, evc, evT, vw, bw, slot, rd, setS, PM.R.bind, asgTg, asB, asI, ofO, setTg, setTgs, PM.R.bind_ok, ne]
    · unfold St
      refine exs_nx (S1 := ⟨[some root, some (.fn 5), some (.nl (todo.map tP)), some (.nl (done.map rD2)), x4, some (.bl false), some (tD t), x7, none], C⟩) ?_ (exs_nx (S1 := ⟨[some root, some (.fn 5), some (.nl (todo.map tP)), some (.nl (done.map rD2)), some (.tup (tDs (kids t))), some (.bl false), some (tD t), x7, none], C⟩) ?_ (exs_nx (S1 := ⟨[some root, some (.fn 5), some (.nl ((todo ++ [(t, true)] ++ ((kids t).map fun k => (k, false)).reverse).map tP)), some (.nl (done.map rD2)), some (.tup (tDs (kids t))), some (.bl false), some (tD t), x7, none], C⟩) ?_ exs_end))
      · clear hlc io rv
        generalize (todo ++ [(t, false)]).map tP = A at *
        generalize todo.map tP = A1 at *
        generalize done.map rD2 = A2 at *
        rw [htl] at gl ⊢
        simp [isOwn, tmp, view, frz, ex, aw, ev, evvs, evbs, evas, evo, evc, evT, vw, bw, slot, rd, setS, PM.R.bind, asgTg, asB, asI, ofO, setTg, setTgs, PM.R.bind_ok, ownL, chg, gl, dl]
      · clear hlc rv
        generalize todo.map tP = A1 at *
        generalize done.map rD2 = A2 at *
        generalize tDs (kids t) = KK at *
        rw [htl] at io ⊢
        simp [isOwn, tmp, view, frz, ex, aw, ev, evvs, evbs, evas, evo, evc, evT, vw, bw, slot, rd, setS, PM.R.bind, asgTg, asB, asI, ofO, setTg, setTgs, PM.R.bind_ok, io]
      · rw [← ea2]
        clear io gl dl rv
        generalize (((kids t).map fun k => (k, false)).reverse).map tP = A3 at *
        generalize ME.lc _ _ _ _ _ _ = le at *
        generalize done.map rD2 = A2 at *
        generalize tDs (kids t) = KK at *
        rw [← ea] at hlc hz2 ⊢
        generalize todo.map tP = A1 at *
        rw [htl] at hlc hz2 ⊢
        generalize hA4 : A1 ++ [D.tup [D.tup tl, D.bl true]] = A4 at *
        simp [isOwn, tmp, view, frz, ex, aw, ev, evvs, evbs, evas, evo, evc, evT, vw, bw, slot, rd, setS, PM.R.bind, asgTg, asB, asI, ofO, setTg, setTgs, PM.R.bind_ok, exs, hlc, ownL, chg, hz, hz2, hA4]
  obtain ⟨b, z4, z5, z6, z7, hb2, w2⟩ := hk (todo ++ [(t, true)]) done (some (.tup (tDs (kids t)))) (some (.bl false)) (some (tD t)) x7 hd1 (fun k hk => Nat.le_trans (dep_kid hk) ht) (by rw [List.length_append, List.length_singleton]; omega)
  -- the last turn
  have w3 : WT F (PM.run F Lk02.P (n + 1)) 1 (St C root (todo ++ [(t, true)]) (done ++ (kids t).map rnd) z4 z5 z6 z7) (St C root todo (done ++ [rnd t]) (some (.tup (tDs (kids t)))) (some (.bl true)) (some (tD t)) (some (.int (done.length : Nat)))) := by
    have ne := ne_todo (todo ++ [(t, true)]) hd1
    rw [decide_eq_true (by simp)] at ne
    have gl : ((todo ++ [(t, true)]).map tP).getLast? = some (.tup [tD t, .bl true]) := by simp [tP]
    have dl : ((todo ++ [(t, true)]).map tP).dropLast = todo.map tP := by simp
    have so := step_ok F n C hb t ((kids t).map rnd) (by rw [List.length_map]; omega)
    rw [← rnd_step] at so
    have l1 : primD .len [.lst ((done ++ (kids t).map rnd).map rD2)] = some (.int ((done.length + (kids t).length : Nat) : Int)) := by
      show some (D.int ((((done ++ (kids t).map rnd).map rD2).length : Nat) : Int)) = _
      simp
    have l2 : primD .len [.tup (tDs (kids t))] = some (.int (((kids t).length : Nat) : Int)) := by
      show some (D.int (((tDs (kids t)).length : Nat) : Int)) = _
      rw [tDs_map, List.length_map]
    have sb : subD (.int ((done.length + (kids t).length : Nat) : Int)) (.int (((kids t).length : Nat) : Int)) = some (.int (done.length : Nat)) := by
      show some (D.int _) = _
      congr 2
      omega
    have s1 : sliceD (.lst ((done ++ (kids t).map rnd).map rD2)) none (some ((done.length : Nat) : Int)) = some (.nl (done.map rD2)) := by
      show some (D.nl (sliceL _ none (some ((done.length : Nat) : Int)))) = _
      rw [slice_to]
      simp
    have s2 : sliceD (.lst ((done ++ (kids t).map rnd).map rD2)) (some ((done.length : Nat) : Int)) none = some (.nl (((kids t).map rnd).map rD2)) := by
      show some (D.nl (sliceL _ (some ((done.length : Nat) : Int)) none)) = _
      have a : ∀ m : List D, HT.sIx m.length m.length none = m.length := fun m => rfl
      have b : HT.sIx ((done ++ (kids t).map rnd).map rD2).length 0 (some ((done.length : Nat) : Int)) = done.length := by
        rw [HT.sIx_nat]
        simp
      unfold sliceL
      rw [a, b, List.map_append, List.drop_append_of_le_length (by simp), List.drop_of_length_le (by simp), List.nil_append, List.take_of_length_le (by simp)]
    have ad := add_lists (done.map rD2) [rD2 (rnd t)] (by simp; omega)
    have ea : done.map rD2 ++ [rD2 (rnd t)] = (done ++ [rnd t]).map rD2 := by simp
    rw [ea] at ad
    have pt : ∀ A : List D, primD .tuple1 [.lst A] = some (.tup A) := fun _ => rfl
    refine WT.one F (S1 := St C root (todo ++ [(t, true)]) (done ++ (kids t).map rnd) z4 z5 z6 z7) ?_ ?_
    · unfold St
      generalize (todo ++ [(t, true)]).map tP = A at *
      generalize (done ++ (kids t).map rnd).map rD2 = A2 at *
      simp [isOwn, tmp, view, frz, ex, aw, ev, evvs, evbs, evas, evo, evc, evT, vw, bw, slot, rd, setS, PM.R.bind, asgTg, asB, asI, ofO, setTg, setTgs, PM.R.bind_ok, ne]
    · unfold St
      refine exs_nx (S1 := ⟨[some root, some (.fn 5), some (.nl (todo.map tP)), some (.nl ((done ++ (kids t).map rnd).map rD2)), z4, some (.bl true), some (tD t), z7, none], C⟩) ?_ (exs_nx (S1 := ⟨[some root, some (.fn 5), some (.nl (todo.map tP)), some (.nl ((done ++ (kids t).map rnd).map rD2)), some (.tup (tDs (kids t))), some (.bl true), some (tD t), z7, none], C⟩) ?_ (exs_nx (S1 := ⟨[some root, some (.fn 5), some (.nl (todo.map tP)), some (.nl ((done ++ [rnd t]).map rD2)), some (.tup (tDs (kids t))), some (.bl true), some (tD t), some (.int (done.length : Nat)), none], C⟩) ?_ exs_end))
      · clear io so l1 l2 sb s1 s2 ad ea
        generalize (todo ++ [(t, true)]).map tP = A at *
        generalize todo.map tP = A1 at *
        generalize (done ++ (kids t).map rnd).map rD2 = A2 at *
        rw [htl] at gl ⊢
        simp [isOwn, tmp, view, frz, ex, aw, ev, evvs, evbs, evas, evo, evc, evT, vw, bw, slot, rd, setS, PM.R.bind, asgTg, asB, asI, ofO, setTg, setTgs, PM.R.bind_ok, ownL, chg, gl, dl]
      · clear so l1 l2 sb s1 s2 ad ea
        generalize todo.map tP = A1 at *
        generalize (done ++ (kids t).map rnd).map rD2 = A2 at *
        generalize tDs (kids t) = KK at *
        rw [htl] at io ⊢
        simp [isOwn, tmp, view, frz, ex, aw, ev, evvs, evbs, evas, evo, evc, evT, vw, bw, slot, rd, setS, PM.R.bind, asgTg, asB, asI, ofO, setTg, setTgs, PM.R.bind_ok, io]
      · clear io ea gl dl ne
        have hr : ∃ q : List D, rD2 (rnd t) = .tup q := ⟨_, rfl⟩
        generalize (done ++ [rnd t]).map rD2 = A3 at *
        generalize rD2 (rnd t) = RR at *
        obtain ⟨q, rfl⟩ := hr
        generalize todo.map tP = A1 at *
        generalize (done ++ (kids t).map rnd).map rD2 = A2 at *
        generalize ((kids t).map rnd).map rD2 = A4 at *
        generalize done.map rD2 = A5 at *
        generalize tDs (kids t) = KK at *
        generalize ((done.length + (kids t).length : Nat) : Int) = N1 at *
        generalize (((kids t).length : Nat) : Int) = N2 at *
        generalize ((done.length : Nat) : Int) = N3 at *
        generalize PM.run F Lk02.P (n + 1) = cl at *
        rw [htl] at so ⊢
        simp [isOwn, tmp, view, frz, ex, aw, ev, evvs, evbs, evas, evo, evc, evT, vw, bw, slot, rd, setS, PM.R.bind, asgTg, asB, asI, ofO, setTg, setTgs, PM.R.bind_ok, exs, l1, l2, binD, sb, s1, s2, so, ad, pt]
  refine ⟨1 + (b + 1), some (.tup (tDs (kids t))), some (.bl true), some (tD t), some (.int (done.length : Nat)), by omega, (w1.trans F w2).trans F w3⟩
mutual
theorem pt_all (root : D) : ∀ t : T, PT F (PM.run F Lk02.P (n + 1)) C root t
  | .leaf m a => pt_node F n C hb root (.leaf m a) (pts_nil F C)
  | .hear l t => pt_node F n C hb root (.hear l t) (pts_cons F C (pt_all root t) (pts_nil F C))
  | .whole t => pt_node F n C hb root (.whole t) (pts_cons F C (pt_all root t) (pts_nil F C))
  | .total t => pt_node F n C hb root (.total t) (pts_cons F C (pt_all root t) (pts_nil F C))
  | .plus ts => pt_node F n C hb root (.plus ts) (pts_all root ts)
  | .times ts => pt_node F n C hb root (.times ts) (pts_all root ts)
theorem pts_all (root : D) : ∀ ts : List T, PTs F (PM.run F Lk02.P (n + 1)) C root ts
  | [] => pts_nil F C
  | t :: ts => pts_cons F C (pt_all root t) (pts_all root ts)
end
theorem folded_ok (t : T) (h : sz t < 40000) (hd : dep (tD t) ≤ 45) : PM.run F Lk02.P (n + 2) 4 [tD t, .fn 5] C = .ok (rD2 (rnd t), C) := by
  obtain ⟨k, y4, y5, y6, y7, hk, w⟩ := pt_all F n C hb (tD t) t [] [] none none none none (by simp) hd (by simp; omega)
  obtain ⟨m, hf⟩ := fuel_ge (show k < 10 ^ 200 by
    have : (100000 : Nat) < 10 ^ 200 := by decide +kernel
    omega)
  have r := w (m + 1)
  rw [show m + 1 + k = m + (k + 1) by omega, ← hf] at r
  have ne := ne_todo [] (by simp)
  rw [List.map_nil] at ne
  rw [List.nil_append, List.nil_append] at r
  rw [while_end (S1 := St C (tD t) [] [rnd t] y4 y5 y6 y7) (by
    unfold St
    rw [List.map_nil]
    generalize [rnd t].map rD2 = A
    simp [isOwn, tmp, view, frz, ex, aw, ev, evvs, evbs, evas, evo, evc, evT, vw, bw, slot, rd, setS, PM.R.bind, asgTg, asB, asI, ofO, setTg, setTgs, PM.R.bind_ok, ne])] at r
  unfold St at r
  rw [List.map_nil, List.map_singleton, List.map_singleton] at r
  refine run_ret [some (tD t), some (.fn 5), none, none, none, none, none, none, none] (fn := Lk02.f4) (d := rD2 (rnd t)) (S := ⟨[some (tD t), some (.fn 5), some (.nl []), some (.nl [rD2 (rnd t)]), y4, y5, y6, y7, none], C⟩) rfl rfl rfl ?_ (by
    show endC true C.length (rD2 (rnd t)) C = _
    generalize rnd t = q
    exact end_ok rfl rfl hb)
  refine exs_nx (S1 := ⟨[some (tD t), some (.fn 5), some (.nl [tP (t, false)]), some (.nl (([] : List (Nat × Nat)).map rD2)), none, none, none, none, none], C⟩) ?_ (exs_nx (ex_while r) (exs_ret ?_))
  · rw [List.map_nil]
    simp only [tP]
    obtain ⟨l, hl⟩ := tD_tup t
    rw [hl]
    simp [isOwn, tmp, view, frz, ex, aw, ev, evvs, evbs, evas, evo, evc, evT, vw, bw, slot, rd, setS, PM.R.bind, asgTg, asB, asI, ofO, setTg, setTgs, PM.R.bind_ok, setMany]
  · have i0 := idx_0 (rD2 (rnd t)) []
    simp only [rD2] at i0 ⊢
    generalize tD t = TT
    simp [isOwn, tmp, view, frz, ex, aw, ev, evvs, evbs, evas, evo, evc, evT, vw, bw, slot, rd, setS, PM.R.bind, asgTg, asB, asI, ofO, setTg, setTgs, PM.R.bind_ok, i0]
theorem rounds_ok (t : T) (h : sz t < 40000) (hd : dep (tD t) ≤ 45) : PM.run F Lk02.P (n + 3) 6 [tD t] C = .ok (.int ((rnd t).2 : Nat), C) := by
  have p := folded_ok F n C hb t h hd
  refine run_ret [some (tD t)] (fn := Lk02.f6) (d := .int ((rnd t).2 : Nat)) (S := ⟨[some (tD t)], C⟩) rfl rfl rfl (exs_ret ?_) (end_ok rfl rfl hb)
  have i1 : idxD (rD2 (rnd t)) (.int 1) = some (.int ((rnd t).2 : Nat)) := by
    show (ixD 2 1).bind (fun k => [D.int (rnd t).1, D.int (rnd t).2][k]?) = _
    unfold ixD
    rw [show L2.ixN 2 1 = some 1 from ixN_nat (n := 2) (k := 1) (by omega)]
    rfl
  simp only [rD2] at p i1
  obtain ⟨l, hl⟩ := tD_tup t
  rw [hl] at p ⊢
  simp [isOwn, tmp, view, frz, ex, aw, ev, evvs, evbs, evas, evo, evc, evT, vw, bw, slot, rd, setS, PM.R.bind, asgTg, asB, asI, ofO, setTg, setTgs, PM.R.bind_ok, p, i1]
end
end Mk
end

section
set_option Elab.async false
set_option linter.all false
open PySem PM
namespace Mk
def plainF : T → Bool
  | .leaf _ _ => true
  | .whole _ => true
  | _ => false
def crowd (t : T) : Bool := match t with
  | .times ts => decide (1 < (ts.filter fun k => !plainF k).length)
  | _ => false
def badM (p : T × Bool) : Bool := p.2 && crowd p.1
theorem tup_idx0 (a : D) (l : List D) : idxD (.tup (a :: l)) (.int 0) = some a := by
  show (ixD _ _).bind _ = _
  unfold ixD
  rw [ixN_zero (by simp)]
  rfl
theorem tup_idx1 (a b : D) (l : List D) : idxD (.tup (a :: b :: l)) (.int 1) = some b := by
  show (ixD _ _).bind _ = _
  unfold ixD
  rw [show L2.ixN (a :: b :: l).length 1 = some 1 from ixN_nat (k := 1) (by simp)]
  rfl
theorem tup_idx2 (a b c : D) (l : List D) : idxD (.tup (a :: b :: c :: l)) (.int 2) = some c := by
  show (ixD _ _).bind _ = _
  unfold ixD
  rw [show L2.ixN (a :: b :: c :: l).length 2 = some 2 from ixN_nat (k := 2) (by simp)]
  rfl
theorem not_word (t : T) : cmpD .notIn (.str (match t with | .leaf true _ => ("mark" : PySem.Str) | .leaf false _ => "number" | .hear _ _ => "hear" | .whole _ => "whole" | .total _ => "total" | .plus _ => "plus" | .times _ => "times")) (.lst [.str "number", .str "mark", .str "whole"]) = some (!plainF t) := by
  cases t with
  | leaf m a => cases m <;> simp [plainF, in_T1_number, il_T1_number, nl_T1_number, in_T1_mark, il_T1_mark, nl_T1_mark, in_T1_hear, il_T1_hear, nl_T1_hear, in_T1_whole, il_T1_whole, nl_T1_whole, in_T1_total, il_T1_total, nl_T1_total, in_T1_plus, il_T1_plus, nl_T1_plus, in_T1_times, il_T1_times, nl_T1_times, in_T2_number, il_T2_number, nl_T2_number, in_T2_mark, il_T2_mark, nl_T2_mark, in_T2_hear, il_T2_hear, nl_T2_hear, in_T2_whole, il_T2_whole, nl_T2_whole, in_T2_total, il_T2_total, nl_T2_total, in_T2_plus, il_T2_plus, nl_T2_plus, in_T2_times, il_T2_times, nl_T2_times, in_T3_number, il_T3_number, nl_T3_number, in_T3_mark, il_T3_mark, nl_T3_mark, in_T3_hear, il_T3_hear, nl_T3_hear, in_T3_whole, il_T3_whole, nl_T3_whole, in_T3_total, il_T3_total, nl_T3_total, in_T3_plus, il_T3_plus, nl_T3_plus, in_T3_times, il_T3_times, nl_T3_times, in_T4_number, il_T4_number, nl_T4_number, in_T4_mark, il_T4_mark, nl_T4_mark, in_T4_hear, il_T4_hear, nl_T4_hear, in_T4_whole, il_T4_whole, nl_T4_whole, in_T4_total, il_T4_total, nl_T4_total, in_T4_plus, il_T4_plus, nl_T4_plus, in_T4_times, il_T4_times, nl_T4_times, eq_number_hear, eq_number_total, eq_number_times, eq_number_whole, ne_number_whole, eq_mark_hear, eq_mark_total, eq_mark_times, eq_mark_whole, ne_mark_whole, eq_hear_hear, eq_hear_total, eq_hear_times, eq_hear_whole, ne_hear_whole, eq_whole_hear, eq_whole_total, eq_whole_times, eq_whole_whole, ne_whole_whole, eq_total_hear, eq_total_total, eq_total_times, eq_total_whole, ne_total_whole, eq_plus_hear, eq_plus_total, eq_plus_times, eq_plus_whole, ne_plus_whole, eq_times_hear, eq_times_total, eq_times_times, eq_times_whole, ne_times_whole]
  | _ => simp [plainF, in_T1_number, il_T1_number, nl_T1_number, in_T1_mark, il_T1_mark, nl_T1_mark, in_T1_hear, il_T1_hear, nl_T1_hear, in_T1_whole, il_T1_whole, nl_T1_whole, in_T1_total, il_T1_total, nl_T1_total, in_T1_plus, il_T1_plus, nl_T1_plus, in_T1_times, il_T1_times, nl_T1_times, in_T2_number, il_T2_number, nl_T2_number, in_T2_mark, il_T2_mark, nl_T2_mark, in_T2_hear, il_T2_hear, nl_T2_hear, in_T2_whole, il_T2_whole, nl_T2_whole, in_T2_total, il_T2_total, nl_T2_total, in_T2_plus, il_T2_plus, nl_T2_plus, in_T2_times, il_T2_times, nl_T2_times, in_T3_number, il_T3_number, nl_T3_number, in_T3_mark, il_T3_mark, nl_T3_mark, in_T3_hear, il_T3_hear, nl_T3_hear, in_T3_whole, il_T3_whole, nl_T3_whole, in_T3_total, il_T3_total, nl_T3_total, in_T3_plus, il_T3_plus, nl_T3_plus, in_T3_times, il_T3_times, nl_T3_times, in_T4_number, il_T4_number, nl_T4_number, in_T4_mark, il_T4_mark, nl_T4_mark, in_T4_hear, il_T4_hear, nl_T4_hear, in_T4_whole, il_T4_whole, nl_T4_whole, in_T4_total, il_T4_total, nl_T4_total, in_T4_plus, il_T4_plus, nl_T4_plus, in_T4_times, il_T4_times, nl_T4_times, eq_number_hear, eq_number_total, eq_number_times, eq_number_whole, ne_number_whole, eq_mark_hear, eq_mark_total, eq_mark_times, eq_mark_whole, ne_mark_whole, eq_hear_hear, eq_hear_total, eq_hear_times, eq_hear_whole, ne_hear_whole, eq_whole_hear, eq_whole_total, eq_whole_times, eq_whole_whole, ne_whole_whole, eq_total_hear, eq_total_total, eq_total_times, eq_total_whole, ne_total_whole, eq_plus_hear, eq_plus_total, eq_plus_times, eq_plus_whole, ne_plus_whole, eq_times_hear, eq_times_total, eq_times_times, eq_times_whole, ne_times_whole]
theorem idx_word (t : T) : idxD (tD t) (.int 0) = some (.str (match t with | .leaf true _ => ("mark" : PySem.Str) | .leaf false _ => "number" | .hear _ _ => "hear" | .whole _ => "whole" | .total _ => "total" | .plus _ => "plus" | .times _ => "times")) := by
  cases t with
  | leaf m a => cases m <;> exact tup_idx0 _ _
  | _ => exact tup_idx0 _ _
section
variable (F : Fields) (n : Nat) (C : List D) (hb : belows C.length C = true)
include hb
theorem plainF_ok (t : T) : PM.run F Lk02.P (n + 1) 7 [tD t] C = .ok (.bl (plainF t), C) := by
  refine run_ret [some (tD t)] (fn := Lk02.f7) (d := .bl (plainF t)) (S := ⟨[some (tD t)], C⟩) rfl rfl rfl (exs_ret ?_) (end_ok rfl rfl hb)
  cases t with
  | leaf m a => cases m <;> cases a <;> simp [isOwn, tmp, view, frz, ex, aw, ev, evvs, evbs, evas, evo, evc, evT, vw, bw, slot, rd, setS, PM.R.bind, asgTg, asB, asI, ofO, setTg, setTgs, PM.R.bind_ok, tD, aD, tup_idx0, plainF, in_T1_number, il_T1_number, nl_T1_number, in_T1_mark, il_T1_mark, nl_T1_mark, in_T1_hear, il_T1_hear, nl_T1_hear, in_T1_whole, il_T1_whole, nl_T1_whole, in_T1_total, il_T1_total, nl_T1_total, in_T1_plus, il_T1_plus, nl_T1_plus, in_T1_times, il_T1_times, nl_T1_times, in_T2_number, il_T2_number, nl_T2_number, in_T2_mark, il_T2_mark, nl_T2_mark, in_T2_hear, il_T2_hear, nl_T2_hear, in_T2_whole, il_T2_whole, nl_T2_whole, in_T2_total, il_T2_total, nl_T2_total, in_T2_plus, il_T2_plus, nl_T2_plus, in_T2_times, il_T2_times, nl_T2_times, in_T3_number, il_T3_number, nl_T3_number, in_T3_mark, il_T3_mark, nl_T3_mark, in_T3_hear, il_T3_hear, nl_T3_hear, in_T3_whole, il_T3_whole, nl_T3_whole, in_T3_total, il_T3_total, nl_T3_total, in_T3_plus, il_T3_plus, nl_T3_plus, in_T3_times, il_T3_times, nl_T3_times, in_T4_number, il_T4_number, nl_T4_number, in_T4_mark, il_T4_mark, nl_T4_mark, in_T4_hear, il_T4_hear, nl_T4_hear, in_T4_whole, il_T4_whole, nl_T4_whole, in_T4_total, il_T4_total, nl_T4_total, in_T4_plus, il_T4_plus, nl_T4_plus, in_T4_times, il_T4_times, nl_T4_times, eq_number_hear, eq_number_total, eq_number_times, eq_number_whole, ne_number_whole, eq_mark_hear, eq_mark_total, eq_mark_times, eq_mark_whole, ne_mark_whole, eq_hear_hear, eq_hear_total, eq_hear_times, eq_hear_whole, ne_hear_whole, eq_whole_hear, eq_whole_total, eq_whole_times, eq_whole_whole, ne_whole_whole, eq_total_hear, eq_total_total, eq_total_times, eq_total_whole, ne_total_whole, eq_plus_hear, eq_plus_total, eq_plus_times, eq_plus_whole, ne_plus_whole, eq_times_hear, eq_times_total, eq_times_times, eq_times_whole, ne_times_whole]
  | hear l t => simp [isOwn, tmp, view, frz, ex, aw, ev, evvs, evbs, evas, evo, evc, evT, vw, bw, slot, rd, setS, PM.R.bind, asgTg, asB, asI, ofO, setTg, setTgs, PM.R.bind_ok, tD, tup_idx0, plainF, in_T1_number, il_T1_number, nl_T1_number, in_T1_mark, il_T1_mark, nl_T1_mark, in_T1_hear, il_T1_hear, nl_T1_hear, in_T1_whole, il_T1_whole, nl_T1_whole, in_T1_total, il_T1_total, nl_T1_total, in_T1_plus, il_T1_plus, nl_T1_plus, in_T1_times, il_T1_times, nl_T1_times, in_T2_number, il_T2_number, nl_T2_number, in_T2_mark, il_T2_mark, nl_T2_mark, in_T2_hear, il_T2_hear, nl_T2_hear, in_T2_whole, il_T2_whole, nl_T2_whole, in_T2_total, il_T2_total, nl_T2_total, in_T2_plus, il_T2_plus, nl_T2_plus, in_T2_times, il_T2_times, nl_T2_times, in_T3_number, il_T3_number, nl_T3_number, in_T3_mark, il_T3_mark, nl_T3_mark, in_T3_hear, il_T3_hear, nl_T3_hear, in_T3_whole, il_T3_whole, nl_T3_whole, in_T3_total, il_T3_total, nl_T3_total, in_T3_plus, il_T3_plus, nl_T3_plus, in_T3_times, il_T3_times, nl_T3_times, in_T4_number, il_T4_number, nl_T4_number, in_T4_mark, il_T4_mark, nl_T4_mark, in_T4_hear, il_T4_hear, nl_T4_hear, in_T4_whole, il_T4_whole, nl_T4_whole, in_T4_total, il_T4_total, nl_T4_total, in_T4_plus, il_T4_plus, nl_T4_plus, in_T4_times, il_T4_times, nl_T4_times, eq_number_hear, eq_number_total, eq_number_times, eq_number_whole, ne_number_whole, eq_mark_hear, eq_mark_total, eq_mark_times, eq_mark_whole, ne_mark_whole, eq_hear_hear, eq_hear_total, eq_hear_times, eq_hear_whole, ne_hear_whole, eq_whole_hear, eq_whole_total, eq_whole_times, eq_whole_whole, ne_whole_whole, eq_total_hear, eq_total_total, eq_total_times, eq_total_whole, ne_total_whole, eq_plus_hear, eq_plus_total, eq_plus_times, eq_plus_whole, ne_plus_whole, eq_times_hear, eq_times_total, eq_times_times, eq_times_whole, ne_times_whole]
  | whole t => simp [isOwn, tmp, view, frz, ex, aw, ev, evvs, evbs, evas, evo, evc, evT, vw, bw, slot, rd, setS, PM.R.bind, asgTg, asB, asI, ofO, setTg, setTgs, PM.R.bind_ok, tD, tup_idx0, plainF, in_T1_number, il_T1_number, nl_T1_number, in_T1_mark, il_T1_mark, nl_T1_mark, in_T1_hear, il_T1_hear, nl_T1_hear, in_T1_whole, il_T1_whole, nl_T1_whole, in_T1_total, il_T1_total, nl_T1_total, in_T1_plus, il_T1_plus, nl_T1_plus, in_T1_times, il_T1_times, nl_T1_times, in_T2_number, il_T2_number, nl_T2_number, in_T2_mark, il_T2_mark, nl_T2_mark, in_T2_hear, il_T2_hear, nl_T2_hear, in_T2_whole, il_T2_whole, nl_T2_whole, in_T2_total, il_T2_total, nl_T2_total, in_T2_plus, il_T2_plus, nl_T2_plus, in_T2_times, il_T2_times, nl_T2_times, in_T3_number, il_T3_number, nl_T3_number, in_T3_mark, il_T3_mark, nl_T3_mark, in_T3_hear, il_T3_hear, nl_T3_hear, in_T3_whole, il_T3_whole, nl_T3_whole, in_T3_total, il_T3_total, nl_T3_total, in_T3_plus, il_T3_plus, nl_T3_plus, in_T3_times, il_T3_times, nl_T3_times, in_T4_number, il_T4_number, nl_T4_number, in_T4_mark, il_T4_mark, nl_T4_mark, in_T4_hear, il_T4_hear, nl_T4_hear, in_T4_whole, il_T4_whole, nl_T4_whole, in_T4_total, il_T4_total, nl_T4_total, in_T4_plus, il_T4_plus, nl_T4_plus, in_T4_times, il_T4_times, nl_T4_times, eq_number_hear, eq_number_total, eq_number_times, eq_number_whole, ne_number_whole, eq_mark_hear, eq_mark_total, eq_mark_times, eq_mark_whole, ne_mark_whole, eq_hear_hear, eq_hear_total, eq_hear_times, eq_hear_whole, ne_hear_whole, eq_whole_hear, eq_whole_total, eq_whole_times, eq_whole_whole, ne_whole_whole, eq_total_hear, eq_total_total, eq_total_times, eq_total_whole, ne_total_whole, eq_plus_hear, eq_plus_total, eq_plus_times, eq_plus_whole, ne_plus_whole, eq_times_hear, eq_times_total, eq_times_times, eq_times_whole, ne_times_whole]
  | total t => simp [isOwn, tmp, view, frz, ex, aw, ev, evvs, evbs, evas, evo, evc, evT, vw, bw, slot, rd, setS, PM.R.bind, asgTg, asB, asI, ofO, setTg, setTgs, PM.R.bind_ok, tD, tup_idx0, plainF, in_T1_number, il_T1_number, nl_T1_number, in_T1_mark, il_T1_mark, nl_T1_mark, in_T1_hear, il_T1_hear, nl_T1_hear, in_T1_whole, il_T1_whole, nl_T1_whole, in_T1_total, il_T1_total, nl_T1_total, in_T1_plus, il_T1_plus, nl_T1_plus, in_T1_times, il_T1_times, nl_T1_times, in_T2_number, il_T2_number, nl_T2_number, in_T2_mark, il_T2_mark, nl_T2_mark, in_T2_hear, il_T2_hear, nl_T2_hear, in_T2_whole, il_T2_whole, nl_T2_whole, in_T2_total, il_T2_total, nl_T2_total, in_T2_plus, il_T2_plus, nl_T2_plus, in_T2_times, il_T2_times, nl_T2_times, in_T3_number, il_T3_number, nl_T3_number, in_T3_mark, il_T3_mark, nl_T3_mark, in_T3_hear, il_T3_hear, nl_T3_hear, in_T3_whole, il_T3_whole, nl_T3_whole, in_T3_total, il_T3_total, nl_T3_total, in_T3_plus, il_T3_plus, nl_T3_plus, in_T3_times, il_T3_times, nl_T3_times, in_T4_number, il_T4_number, nl_T4_number, in_T4_mark, il_T4_mark, nl_T4_mark, in_T4_hear, il_T4_hear, nl_T4_hear, in_T4_whole, il_T4_whole, nl_T4_whole, in_T4_total, il_T4_total, nl_T4_total, in_T4_plus, il_T4_plus, nl_T4_plus, in_T4_times, il_T4_times, nl_T4_times, eq_number_hear, eq_number_total, eq_number_times, eq_number_whole, ne_number_whole, eq_mark_hear, eq_mark_total, eq_mark_times, eq_mark_whole, ne_mark_whole, eq_hear_hear, eq_hear_total, eq_hear_times, eq_hear_whole, ne_hear_whole, eq_whole_hear, eq_whole_total, eq_whole_times, eq_whole_whole, ne_whole_whole, eq_total_hear, eq_total_total, eq_total_times, eq_total_whole, ne_total_whole, eq_plus_hear, eq_plus_total, eq_plus_times, eq_plus_whole, ne_plus_whole, eq_times_hear, eq_times_total, eq_times_times, eq_times_whole, ne_times_whole]
  | plus ts => simp [isOwn, tmp, view, frz, ex, aw, ev, evvs, evbs, evas, evo, evc, evT, vw, bw, slot, rd, setS, PM.R.bind, asgTg, asB, asI, ofO, setTg, setTgs, PM.R.bind_ok, tD, tup_idx0, plainF, in_T1_number, il_T1_number, nl_T1_number, in_T1_mark, il_T1_mark, nl_T1_mark, in_T1_hear, il_T1_hear, nl_T1_hear, in_T1_whole, il_T1_whole, nl_T1_whole, in_T1_total, il_T1_total, nl_T1_total, in_T1_plus, il_T1_plus, nl_T1_plus, in_T1_times, il_T1_times, nl_T1_times, in_T2_number, il_T2_number, nl_T2_number, in_T2_mark, il_T2_mark, nl_T2_mark, in_T2_hear, il_T2_hear, nl_T2_hear, in_T2_whole, il_T2_whole, nl_T2_whole, in_T2_total, il_T2_total, nl_T2_total, in_T2_plus, il_T2_plus, nl_T2_plus, in_T2_times, il_T2_times, nl_T2_times, in_T3_number, il_T3_number, nl_T3_number, in_T3_mark, il_T3_mark, nl_T3_mark, in_T3_hear, il_T3_hear, nl_T3_hear, in_T3_whole, il_T3_whole, nl_T3_whole, in_T3_total, il_T3_total, nl_T3_total, in_T3_plus, il_T3_plus, nl_T3_plus, in_T3_times, il_T3_times, nl_T3_times, in_T4_number, il_T4_number, nl_T4_number, in_T4_mark, il_T4_mark, nl_T4_mark, in_T4_hear, il_T4_hear, nl_T4_hear, in_T4_whole, il_T4_whole, nl_T4_whole, in_T4_total, il_T4_total, nl_T4_total, in_T4_plus, il_T4_plus, nl_T4_plus, in_T4_times, il_T4_times, nl_T4_times, eq_number_hear, eq_number_total, eq_number_times, eq_number_whole, ne_number_whole, eq_mark_hear, eq_mark_total, eq_mark_times, eq_mark_whole, ne_mark_whole, eq_hear_hear, eq_hear_total, eq_hear_times, eq_hear_whole, ne_hear_whole, eq_whole_hear, eq_whole_total, eq_whole_times, eq_whole_whole, ne_whole_whole, eq_total_hear, eq_total_total, eq_total_times, eq_total_whole, ne_total_whole, eq_plus_hear, eq_plus_total, eq_plus_times, eq_plus_whole, ne_plus_whole, eq_times_hear, eq_times_total, eq_times_times, eq_times_whole, ne_times_whole]
  | times ts => simp [isOwn, tmp, view, frz, ex, aw, ev, evvs, evbs, evas, evo, evc, evT, vw, bw, slot, rd, setS, PM.R.bind, asgTg, asB, asI, ofO, setTg, setTgs, PM.R.bind_ok, tD, tup_idx0, plainF, in_T1_number, il_T1_number, nl_T1_number, in_T1_mark, il_T1_mark, nl_T1_mark, in_T1_hear, il_T1_hear, nl_T1_hear, in_T1_whole, il_T1_whole, nl_T1_whole, in_T1_total, il_T1_total, nl_T1_total, in_T1_plus, il_T1_plus, nl_T1_plus, in_T1_times, il_T1_times, nl_T1_times, in_T2_number, il_T2_number, nl_T2_number, in_T2_mark, il_T2_mark, nl_T2_mark, in_T2_hear, il_T2_hear, nl_T2_hear, in_T2_whole, il_T2_whole, nl_T2_whole, in_T2_total, il_T2_total, nl_T2_total, in_T2_plus, il_T2_plus, nl_T2_plus, in_T2_times, il_T2_times, nl_T2_times, in_T3_number, il_T3_number, nl_T3_number, in_T3_mark, il_T3_mark, nl_T3_mark, in_T3_hear, il_T3_hear, nl_T3_hear, in_T3_whole, il_T3_whole, nl_T3_whole, in_T3_total, il_T3_total, nl_T3_total, in_T3_plus, il_T3_plus, nl_T3_plus, in_T3_times, il_T3_times, nl_T3_times, in_T4_number, il_T4_number, nl_T4_number, in_T4_mark, il_T4_mark, nl_T4_mark, in_T4_hear, il_T4_hear, nl_T4_hear, in_T4_whole, il_T4_whole, nl_T4_whole, in_T4_total, il_T4_total, nl_T4_total, in_T4_plus, il_T4_plus, nl_T4_plus, in_T4_times, il_T4_times, nl_T4_times, eq_number_hear, eq_number_total, eq_number_times, eq_number_whole, ne_number_whole, eq_mark_hear, eq_mark_total, eq_mark_times, eq_mark_whole, ne_mark_whole, eq_hear_hear, eq_hear_total, eq_hear_times, eq_hear_whole, ne_hear_whole, eq_whole_hear, eq_whole_total, eq_whole_times, eq_whole_whole, ne_whole_whole, eq_total_hear, eq_total_total, eq_total_times, eq_total_whole, ne_total_whole, eq_plus_hear, eq_plus_total, eq_plus_times, eq_plus_whole, ne_plus_whole, eq_times_hear, eq_times_total, eq_times_times, eq_times_whole, ne_times_whole]
/-- the crowd test of is_walk -/
theorem crowd_test (s0 : D) (t : T) (v : Bool) (hl : sz t < 50000) : evT F (PM.run F Lk02.P (n + 1)) (.and (.var 2) (.and (.cmp .eq (.idx (.var 1) (.k (.int (0)))) (.glob (.str "times"))) (.cmp .gt (.prim .len [.lc [3] (.v 3) 0 [.idx (.var 1) (.k (.int (1)))] [.not (.call 7 [.var 3])] (.var 3)]) (.k (.int (1)))))) ⟨[some s0, some (tD t), some (.bl v), none], C⟩ = .ok (badM (t, v), ⟨[some s0, some (tD t), some (.bl v), none], C⟩) := by
  cases v with
  | false =>
    have : badM (t, false) = false := rfl
    rw [this]
    generalize tD t = TT
    simp [isOwn, tmp, view, frz, ex, aw, ev, evvs, evbs, evas, evo, evc, evT, vw, bw, slot, rd, setS, PM.R.bind, asgTg, asB, asI, ofO, setTg, setTgs, PM.R.bind_ok]
  | true =>
    have gt : ∀ a b : Int, cmpD .gt (.int a) (.int b) = some (decide (b < a)) := fun _ _ => rfl
    cases t with
    | leaf m a => cases m <;> cases a <;> simp [isOwn, tmp, view, frz, ex, aw, ev, evvs, evbs, evas, evo, evc, evT, vw, bw, slot, rd, setS, PM.R.bind, asgTg, asB, asI, ofO, setTg, setTgs, PM.R.bind_ok, tD, aD, tup_idx0, badM, crowd, in_T1_number, il_T1_number, nl_T1_number, in_T1_mark, il_T1_mark, nl_T1_mark, in_T1_hear, il_T1_hear, nl_T1_hear, in_T1_whole, il_T1_whole, nl_T1_whole, in_T1_total, il_T1_total, nl_T1_total, in_T1_plus, il_T1_plus, nl_T1_plus, in_T1_times, il_T1_times, nl_T1_times, in_T2_number, il_T2_number, nl_T2_number, in_T2_mark, il_T2_mark, nl_T2_mark, in_T2_hear, il_T2_hear, nl_T2_hear, in_T2_whole, il_T2_whole, nl_T2_whole, in_T2_total, il_T2_total, nl_T2_total, in_T2_plus, il_T2_plus, nl_T2_plus, in_T2_times, il_T2_times, nl_T2_times, in_T3_number, il_T3_number, nl_T3_number, in_T3_mark, il_T3_mark, nl_T3_mark, in_T3_hear, il_T3_hear, nl_T3_hear, in_T3_whole, il_T3_whole, nl_T3_whole, in_T3_total, il_T3_total, nl_T3_total, in_T3_plus, il_T3_plus, nl_T3_plus, in_T3_times, il_T3_times, nl_T3_times, in_T4_number, il_T4_number, nl_T4_number, in_T4_mark, il_T4_mark, nl_T4_mark, in_T4_hear, il_T4_hear, nl_T4_hear, in_T4_whole, il_T4_whole, nl_T4_whole, in_T4_total, il_T4_total, nl_T4_total, in_T4_plus, il_T4_plus, nl_T4_plus, in_T4_times, il_T4_times, nl_T4_times, eq_number_hear, eq_number_total, eq_number_times, eq_number_whole, ne_number_whole, eq_mark_hear, eq_mark_total, eq_mark_times, eq_mark_whole, ne_mark_whole, eq_hear_hear, eq_hear_total, eq_hear_times, eq_hear_whole, ne_hear_whole, eq_whole_hear, eq_whole_total, eq_whole_times, eq_whole_whole, ne_whole_whole, eq_total_hear, eq_total_total, eq_total_times, eq_total_whole, ne_total_whole, eq_plus_hear, eq_plus_total, eq_plus_times, eq_plus_whole, ne_plus_whole, eq_times_hear, eq_times_total, eq_times_times, eq_times_whole, ne_times_whole]
    | hear l t => simp [isOwn, tmp, view, frz, ex, aw, ev, evvs, evbs, evas, evo, evc, evT, vw, bw, slot, rd, setS, PM.R.bind, asgTg, asB, asI, ofO, setTg, setTgs, PM.R.bind_ok, tD, tup_idx0, badM, crowd, in_T1_number, il_T1_number, nl_T1_number, in_T1_mark, il_T1_mark, nl_T1_mark, in_T1_hear, il_T1_hear, nl_T1_hear, in_T1_whole, il_T1_whole, nl_T1_whole, in_T1_total, il_T1_total, nl_T1_total, in_T1_plus, il_T1_plus, nl_T1_plus, in_T1_times, il_T1_times, nl_T1_times, in_T2_number, il_T2_number, nl_T2_number, in_T2_mark, il_T2_mark, nl_T2_mark, in_T2_hear, il_T2_hear, nl_T2_hear, in_T2_whole, il_T2_whole, nl_T2_whole, in_T2_total, il_T2_total, nl_T2_total, in_T2_plus, il_T2_plus, nl_T2_plus, in_T2_times, il_T2_times, nl_T2_times, in_T3_number, il_T3_number, nl_T3_number, in_T3_mark, il_T3_mark, nl_T3_mark, in_T3_hear, il_T3_hear, nl_T3_hear, in_T3_whole, il_T3_whole, nl_T3_whole, in_T3_total, il_T3_total, nl_T3_total, in_T3_plus, il_T3_plus, nl_T3_plus, in_T3_times, il_T3_times, nl_T3_times, in_T4_number, il_T4_number, nl_T4_number, in_T4_mark, il_T4_mark, nl_T4_mark, in_T4_hear, il_T4_hear, nl_T4_hear, in_T4_whole, il_T4_whole, nl_T4_whole, in_T4_total, il_T4_total, nl_T4_total, in_T4_plus, il_T4_plus, nl_T4_plus, in_T4_times, il_T4_times, nl_T4_times, eq_number_hear, eq_number_total, eq_number_times, eq_number_whole, ne_number_whole, eq_mark_hear, eq_mark_total, eq_mark_times, eq_mark_whole, ne_mark_whole, eq_hear_hear, eq_hear_total, eq_hear_times, eq_hear_whole, ne_hear_whole, eq_whole_hear, eq_whole_total, eq_whole_times, eq_whole_whole, ne_whole_whole, eq_total_hear, eq_total_total, eq_total_times, eq_total_whole, ne_total_whole, eq_plus_hear, eq_plus_total, eq_plus_times, eq_plus_whole, ne_plus_whole, eq_times_hear, eq_times_total, eq_times_times, eq_times_whole, ne_times_whole]
    | whole t => simp [isOwn, tmp, view, frz, ex, aw, ev, evvs, evbs, evas, evo, evc, evT, vw, bw, slot, rd, setS, PM.R.bind, asgTg, asB, asI, ofO, setTg, setTgs, PM.R.bind_ok, tD, tup_idx0, badM, crowd, in_T1_number, il_T1_number, nl_T1_number, in_T1_mark, il_T1_mark, nl_T1_mark, in_T1_hear, il_T1_hear, nl_T1_hear, in_T1_whole, il_T1_whole, nl_T1_whole, in_T1_total, il_T1_total, nl_T1_total, in_T1_plus, il_T1_plus, nl_T1_plus, in_T1_times, il_T1_times, nl_T1_times, in_T2_number, il_T2_number, nl_T2_number, in_T2_mark, il_T2_mark, nl_T2_mark, in_T2_hear, il_T2_hear, nl_T2_hear, in_T2_whole, il_T2_whole, nl_T2_whole, in_T2_total, il_T2_total, nl_T2_total, in_T2_plus, il_T2_plus, nl_T2_plus, in_T2_times, il_T2_times, nl_T2_times, in_T3_number, il_T3_number, nl_T3_number, in_T3_mark, il_T3_mark, nl_T3_mark, in_T3_hear, il_T3_hear, nl_T3_hear, in_T3_whole, il_T3_whole, nl_T3_whole, in_T3_total, il_T3_total, nl_T3_total, in_T3_plus, il_T3_plus, nl_T3_plus, in_T3_times, il_T3_times, nl_T3_times, in_T4_number, il_T4_number, nl_T4_number, in_T4_mark, il_T4_mark, nl_T4_mark, in_T4_hear, il_T4_hear, nl_T4_hear, in_T4_whole, il_T4_whole, nl_T4_whole, in_T4_total, il_T4_total, nl_T4_total, in_T4_plus, il_T4_plus, nl_T4_plus, in_T4_times, il_T4_times, nl_T4_times, eq_number_hear, eq_number_total, eq_number_times, eq_number_whole, ne_number_whole, eq_mark_hear, eq_mark_total, eq_mark_times, eq_mark_whole, ne_mark_whole, eq_hear_hear, eq_hear_total, eq_hear_times, eq_hear_whole, ne_hear_whole, eq_whole_hear, eq_whole_total, eq_whole_times, eq_whole_whole, ne_whole_whole, eq_total_hear, eq_total_total, eq_total_times, eq_total_whole, ne_total_whole, eq_plus_hear, eq_plus_total, eq_plus_times, eq_plus_whole, ne_plus_whole, eq_times_hear, eq_times_total, eq_times_times, eq_times_whole, ne_times_whole]
    | total t => simp [isOwn, tmp, view, frz, ex, aw, ev, evvs, evbs, evas, evo, evc, evT, vw, bw, slot, rd, setS, PM.R.bind, asgTg, asB, asI, ofO, setTg, setTgs, PM.R.bind_ok, tD, tup_idx0, badM, crowd, in_T1_number, il_T1_number, nl_T1_number, in_T1_mark, il_T1_mark, nl_T1_mark, in_T1_hear, il_T1_hear, nl_T1_hear, in_T1_whole, il_T1_whole, nl_T1_whole, in_T1_total, il_T1_total, nl_T1_total, in_T1_plus, il_T1_plus, nl_T1_plus, in_T1_times, il_T1_times, nl_T1_times, in_T2_number, il_T2_number, nl_T2_number, in_T2_mark, il_T2_mark, nl_T2_mark, in_T2_hear, il_T2_hear, nl_T2_hear, in_T2_whole, il_T2_whole, nl_T2_whole, in_T2_total, il_T2_total, nl_T2_total, in_T2_plus, il_T2_plus, nl_T2_plus, in_T2_times, il_T2_times, nl_T2_times, in_T3_number, il_T3_number, nl_T3_number, in_T3_mark, il_T3_mark, nl_T3_mark, in_T3_hear, il_T3_hear, nl_T3_hear, in_T3_whole, il_T3_whole, nl_T3_whole, in_T3_total, il_T3_total, nl_T3_total, in_T3_plus, il_T3_plus, nl_T3_plus, in_T3_times, il_T3_times, nl_T3_times, in_T4_number, il_T4_number, nl_T4_number, in_T4_mark, il_T4_mark, nl_T4_mark, in_T4_hear, il_T4_hear, nl_T4_hear, in_T4_whole, il_T4_whole, nl_T4_whole, in_T4_total, il_T4_total, nl_T4_total, in_T4_plus, il_T4_plus, nl_T4_plus, in_T4_times, il_T4_times, nl_T4_times, eq_number_hear, eq_number_total, eq_number_times, eq_number_whole, ne_number_whole, eq_mark_hear, eq_mark_total, eq_mark_times, eq_mark_whole, ne_mark_whole, eq_hear_hear, eq_hear_total, eq_hear_times, eq_hear_whole, ne_hear_whole, eq_whole_hear, eq_whole_total, eq_whole_times, eq_whole_whole, ne_whole_whole, eq_total_hear, eq_total_total, eq_total_times, eq_total_whole, ne_total_whole, eq_plus_hear, eq_plus_total, eq_plus_times, eq_plus_whole, ne_plus_whole, eq_times_hear, eq_times_total, eq_times_times, eq_times_whole, ne_times_whole]
    | plus ts => simp [isOwn, tmp, view, frz, ex, aw, ev, evvs, evbs, evas, evo, evc, evT, vw, bw, slot, rd, setS, PM.R.bind, asgTg, asB, asI, ofO, setTg, setTgs, PM.R.bind_ok, tD, tup_idx0, badM, crowd, in_T1_number, il_T1_number, nl_T1_number, in_T1_mark, il_T1_mark, nl_T1_mark, in_T1_hear, il_T1_hear, nl_T1_hear, in_T1_whole, il_T1_whole, nl_T1_whole, in_T1_total, il_T1_total, nl_T1_total, in_T1_plus, il_T1_plus, nl_T1_plus, in_T1_times, il_T1_times, nl_T1_times, in_T2_number, il_T2_number, nl_T2_number, in_T2_mark, il_T2_mark, nl_T2_mark, in_T2_hear, il_T2_hear, nl_T2_hear, in_T2_whole, il_T2_whole, nl_T2_whole, in_T2_total, il_T2_total, nl_T2_total, in_T2_plus, il_T2_plus, nl_T2_plus, in_T2_times, il_T2_times, nl_T2_times, in_T3_number, il_T3_number, nl_T3_number, in_T3_mark, il_T3_mark, nl_T3_mark, in_T3_hear, il_T3_hear, nl_T3_hear, in_T3_whole, il_T3_whole, nl_T3_whole, in_T3_total, il_T3_total, nl_T3_total, in_T3_plus, il_T3_plus, nl_T3_plus, in_T3_times, il_T3_times, nl_T3_times, in_T4_number, il_T4_number, nl_T4_number, in_T4_mark, il_T4_mark, nl_T4_mark, in_T4_hear, il_T4_hear, nl_T4_hear, in_T4_whole, il_T4_whole, nl_T4_whole, in_T4_total, il_T4_total, nl_T4_total, in_T4_plus, il_T4_plus, nl_T4_plus, in_T4_times, il_T4_times, nl_T4_times, eq_number_hear, eq_number_total, eq_number_times, eq_number_whole, ne_number_whole, eq_mark_hear, eq_mark_total, eq_mark_times, eq_mark_whole, ne_mark_whole, eq_hear_hear, eq_hear_total, eq_hear_times, eq_hear_whole, ne_hear_whole, eq_whole_hear, eq_whole_total, eq_whole_times, eq_whole_whole, ne_whole_whole, eq_total_hear, eq_total_total, eq_total_times, eq_total_whole, ne_total_whole, eq_plus_hear, eq_plus_total, eq_plus_times, eq_plus_whole, ne_plus_whole, eq_times_hear, eq_times_total, eq_times_times, eq_times_whole, ne_times_whole]
    | times ts =>
      have hk : ts.length ≤ szs ts := by
        have := len_szp ((ts.map fun k => (k, false)).reverse)
        rw [szp_kids] at this
        simpa using this
      simp only [sz] at hl
      have hlc := ev_lc (F := F) (call := PM.run F Lk02.P (n + 1)) (S := ⟨[some s0, some (tD (.times ts)), some (.bl true), none], C⟩) (S1 := ⟨[some s0, some (tD (.times ts)), some (.bl true), none], C⟩) (own := [3]) (tg := .v 3) (k := 0) (its := [.idx (.var 1) (.k (.int 1))]) (cond := [.not (.call 7 [.var 3])]) (elt := .var 3) (vals := [.tup (tDs ts)]) (ds := ts) (g := tD) (c := fun k => !plainF k) (f := tD) (Ld := fun k => [some s0, some (tD (.times ts)), some (.bl true), some (tD k)]) (by
        have i1 : idxD (tD (.times ts)) (.int 1) = some (.tup (tDs ts)) := tup_idx1 _ _ _
        obtain ⟨l, hl⟩ := tD_tup (.times ts)
        rw [hl] at i1 ⊢
        simp [isOwn, tmp, view, frz, ex, aw, ev, evvs, evbs, evas, evo, evc, evT, vw, bw, slot, rd, setS, PM.R.bind, asgTg, asB, asI, ofO, setTg, setTgs, PM.R.bind_ok, i1]) (by rw [tDs_map]; rfl) (by
        generalize tD (.times ts) = TT
        simp [isOwn, tmp, view, frz, ex, aw, ev, evvs, evbs, evas, evo, evc, evT, vw, bw, slot, rd, setS, PM.R.bind, asgTg, asB, asI, ofO, binD, add_ii, subD, cmpD, primD, itemsD, setTg, setTgs, wipeL, noOwn, idxD, sliceD, revD, PM.R.bind_ok]) (by rw [LIM_eq]; omega) (by
        intro k _
        have p := plainF_ok F n C hb k
        generalize tD (.times ts) = TT
        obtain ⟨l, hl⟩ := tD_tup k
        rw [hl] at p ⊢
        simp [isOwn, tmp, view, frz, ex, aw, ev, evvs, evbs, evas, evo, evc, evT, vw, bw, slot, rd, setS, PM.R.bind, asgTg, asB, asI, ofO, setTg, setTgs, PM.R.bind_ok, p, wipeL])
      have pl : primD .len [.lst ((ts.filter fun k => !plainF k).map tD)] = some (.int (((ts.filter fun k => !plainF k).length : Nat) : Int)) := by
        show some (D.int ((((ts.filter fun k => !plainF k).map tD).length : Nat) : Int)) = _
        rw [List.length_map]
      have e : badM (.times ts, true) = decide ((1 : Int) < (((ts.filter fun k => !plainF k).length : Nat) : Int)) := by
        show decide (1 < (ts.filter fun k => !plainF k).length) = _
        by_cases h : 1 < (ts.filter fun k => !plainF k).length
        · rw [decide_eq_true h, decide_eq_true (by omega)]
        · rw [decide_eq_false h, decide_eq_false (by omega)]
      rw [e]
      have i0 : idxD (tD (.times ts)) (.int 0) = some (.str "times") := tup_idx0 _ _
      obtain ⟨l, hl⟩ := tD_tup (.times ts)
      rw [hl] at hlc i0 ⊢
      generalize ME.lc _ _ _ _ _ _ = le at *
      generalize (((ts.filter fun k => !plainF k).length : Nat) : Int) = N at *
      generalize (ts.filter fun k => !plainF k).map tD = A at *
      simp [isOwn, tmp, view, frz, ex, aw, ev, evvs, evbs, evas, evo, evc, evT, vw, bw, slot, rd, setS, PM.R.bind, asgTg, asB, asI, ofO, setTg, setTgs, PM.R.bind_ok, i0, hlc, pl, gt, in_T1_number, il_T1_number, nl_T1_number, in_T1_mark, il_T1_mark, nl_T1_mark, in_T1_hear, il_T1_hear, nl_T1_hear, in_T1_whole, il_T1_whole, nl_T1_whole, in_T1_total, il_T1_total, nl_T1_total, in_T1_plus, il_T1_plus, nl_T1_plus, in_T1_times, il_T1_times, nl_T1_times, in_T2_number, il_T2_number, nl_T2_number, in_T2_mark, il_T2_mark, nl_T2_mark, in_T2_hear, il_T2_hear, nl_T2_hear, in_T2_whole, il_T2_whole, nl_T2_whole, in_T2_total, il_T2_total, nl_T2_total, in_T2_plus, il_T2_plus, nl_T2_plus, in_T2_times, il_T2_times, nl_T2_times, in_T3_number, il_T3_number, nl_T3_number, in_T3_mark, il_T3_mark, nl_T3_mark, in_T3_hear, il_T3_hear, nl_T3_hear, in_T3_whole, il_T3_whole, nl_T3_whole, in_T3_total, il_T3_total, nl_T3_total, in_T3_plus, il_T3_plus, nl_T3_plus, in_T3_times, il_T3_times, nl_T3_times, in_T4_number, il_T4_number, nl_T4_number, in_T4_mark, il_T4_mark, nl_T4_mark, in_T4_hear, il_T4_hear, nl_T4_hear, in_T4_whole, il_T4_whole, nl_T4_whole, in_T4_total, il_T4_total, nl_T4_total, in_T4_plus, il_T4_plus, nl_T4_plus, in_T4_times, il_T4_times, nl_T4_times, eq_number_hear, eq_number_total, eq_number_times, eq_number_whole, ne_number_whole, eq_mark_hear, eq_mark_total, eq_mark_times, eq_mark_whole, ne_mark_whole, eq_hear_hear, eq_hear_total, eq_hear_times, eq_hear_whole, ne_hear_whole, eq_whole_hear, eq_whole_total, eq_whole_times, eq_whole_whole, ne_whole_whole, eq_total_hear, eq_total_total, eq_total_times, eq_total_whole, ne_total_whole, eq_plus_hear, eq_plus_total, eq_plus_times, eq_plus_whole, ne_plus_whole, eq_times_hear, eq_times_total, eq_times_times, eq_times_whole, ne_times_whole]
theorem walk_loop (s0 : D) : ∀ (l : List (T × Bool)) (x1 x2 : Option D), (∀ p ∈ l, sz p.1 < 50000) →
    (l.any badM = true → ∃ S, forL (fun S => exs F (PM.run F Lk02.P (n + 1)) [.ite (.and (.var 2) (.and (.cmp .eq (.idx (.var 1) (.k (.int (0)))) (.glob (.str "times"))) (.cmp .gt (.prim .len [.lc [3] (.v 3) 0 [.idx (.var 1) (.k (.int (1)))] [.not (.call 7 [.var 3])] (.var 3)]) (.k (.int (1)))))) [.ret (.k (.bl false))] []] S) (.t [.v 1, .v 2]) (l.map tP) ⟨[some s0, x1, x2, none], C⟩ = .ok (.ret (.bl false) S) ∧ S.C = C) ∧
    (l.any badM = false → ∃ y1 y2, forL (fun S => exs F (PM.run F Lk02.P (n + 1)) [.ite (.and (.var 2) (.and (.cmp .eq (.idx (.var 1) (.k (.int (0)))) (.glob (.str "times"))) (.cmp .gt (.prim .len [.lc [3] (.v 3) 0 [.idx (.var 1) (.k (.int (1)))] [.not (.call 7 [.var 3])] (.var 3)]) (.k (.int (1)))))) [.ret (.k (.bl false))] []] S) (.t [.v 1, .v 2]) (l.map tP) ⟨[some s0, x1, x2, none], C⟩ = .ok (.nx ⟨[some s0, y1, y2, none], C⟩)) := by
  intro l
  induction l with
  | nil => exact fun x1 x2 _ => ⟨fun h => by simp at h, fun _ => ⟨x1, x2, rfl⟩⟩
  | cons p l ih =>
    intro x1 x2 hs
    obtain ⟨t, v⟩ := p
    have ct := crowd_test F n C hb s0 t v (hs (t, v) List.mem_cons_self)
    have ih := ih (some (tD t)) (some (.bl v)) fun p hp => hs p (List.mem_cons_of_mem _ hp)
    have e0 : setTg (.t [.v 1, .v 2]) (tP (t, v)) [some s0, x1, x2, none] = some [some s0, some (tD t), some (.bl v), none] := by simp [setTg, setTgs, tP]
    cases hbm : badM (t, v) with
    | true =>
      rw [hbm] at ct
      refine ⟨fun _ => ⟨⟨[some s0, some (tD t), some (.bl v), none], C⟩, ?_, rfl⟩, fun h => by simp [hbm] at h⟩
      have b1 : exs F (PM.run F Lk02.P (n + 1)) [.ite (.and (.var 2) (.and (.cmp .eq (.idx (.var 1) (.k (.int (0)))) (.glob (.str "times"))) (.cmp .gt (.prim .len [.lc [3] (.v 3) 0 [.idx (.var 1) (.k (.int (1)))] [.not (.call 7 [.var 3])] (.var 3)]) (.k (.int (1)))))) [.ret (.k (.bl false))] []] ⟨[some s0, some (tD t), some (.bl v), none], C⟩ = .ok (.ret (.bl false) ⟨[some s0, some (tD t), some (.bl v), none], C⟩) := by
        refine exs_ret ?_
        unfold ex
        rw [ct]
        rfl
      rw [List.map_cons]
      simp only [forL, e0, ofO, PM.R.bind, b1]
    | false =>
      rw [hbm] at ct
      have b1 : exs F (PM.run F Lk02.P (n + 1)) [.ite (.and (.var 2) (.and (.cmp .eq (.idx (.var 1) (.k (.int (0)))) (.glob (.str "times"))) (.cmp .gt (.prim .len [.lc [3] (.v 3) 0 [.idx (.var 1) (.k (.int (1)))] [.not (.call 7 [.var 3])] (.var 3)]) (.k (.int (1)))))) [.ret (.k (.bl false))] []] ⟨[some s0, some (tD t), some (.bl v), none], C⟩ = .ok (.nx ⟨[some s0, some (tD t), some (.bl v), none], C⟩) := by
        refine exs_nx (S1 := ⟨[some s0, some (tD t), some (.bl v), none], C⟩) ?_ exs_end
        unfold ex
        rw [ct]
        rfl
      rw [List.any_cons, hbm, Bool.false_or, List.map_cons]
      exact ⟨fun h => by
        obtain ⟨S, e, hC⟩ := ih.1 h
        exact ⟨S, for_step e0 b1 e, hC⟩, fun h => by
        obtain ⟨y1, y2, e⟩ := ih.2 h
        exact ⟨y1, y2, for_step e0 b1 e⟩⟩
end
end Mk
end

section
set_option Elab.async false
set_option linter.all false
open PySem PM
namespace Mk
mutual
def hgt : T → Nat
  | .leaf _ _ => 0
  | .hear _ t => hgt t + 1
  | .whole t => hgt t + 1
  | .total t => hgt t + 1
  | .plus ts => hgts ts + 1
  | .times ts => hgts ts + 1
def hgts : List T → Nat
  | [] => 0
  | t :: ts => max (hgt t) (hgts ts)
end
theorem hgt_mem : ∀ {ts : List T} {k : T}, k ∈ ts → hgt k ≤ hgts ts
  | t :: ts, k, h => by
    rw [hgts]
    rcases List.mem_cons.mp h with rfl | h
    · omega
    · have := hgt_mem h
      omega
theorem hgt_kid {t k : T} (h : k ∈ kids t) : hgt k + 1 ≤ hgt t := by
  cases t with
  | leaf m a => simp [kids] at h
  | hear l t => simp only [kids, List.mem_singleton] at h; subst h; simp [hgt]
  | whole t => simp only [kids, List.mem_singleton] at h; subst h; simp [hgt]
  | total t => simp only [kids, List.mem_singleton] at h; subst h; simp [hgt]
  | plus ts => simp only [kids] at h; have := hgt_mem h; simp only [hgt]; omega
  | times ts => simp only [kids] at h; have := hgt_mem h; simp only [hgt]; omega
theorem sz_mem : ∀ {ts : List T} {k : T}, k ∈ ts → sz k ≤ szs ts
  | t :: ts, k, h => by
    rw [szs]
    rcases List.mem_cons.mp h with rfl | h
    · omega
    · have := sz_mem h
      omega
theorem sz_kid {t k : T} (h : k ∈ kids t) : sz k < sz t := by
  have := sz_kids t
  have := sz_mem h
  omega
theorem len_szs (ts : List T) : ts.length ≤ szs ts := by
  have := len_szp ((ts.map fun k => (k, false)).reverse)
  rw [szp_kids] at this
  simpa using this
mutual
theorem up {P : T → Prop} (h : ∀ t, (∀ k ∈ kids t, P k) → P t) : ∀ t : T, P t
  | .leaf m a => h _ (by simp [kids])
  | .hear l t => h _ (by simp only [kids, List.mem_singleton]; intro k hk; subst hk; exact up h k)
  | .whole t => h _ (by simp only [kids, List.mem_singleton]; intro k hk; subst hk; exact up h k)
  | .total t => h _ (by simp only [kids, List.mem_singleton]; intro k hk; subst hk; exact up h k)
  | .plus ts => h _ (ups h ts)
  | .times ts => h _ (ups h ts)
theorem ups {P : T → Prop} (h : ∀ t, (∀ k ∈ kids t, P k) → P t) : ∀ ts : List T, ∀ k ∈ ts, P k
  | [], k, hk => by simp at hk
  | t :: ts, k, hk => by
    rcases List.mem_cons.mp hk with e | e
    · rw [e]; exact up h t
    · exact ups h ts k e
end
section
variable (F : Fields) (n : Nat) (C : List D) (hb : belows C.length C = true)
include hb
theorem walk_ok (t : T) (h : sz t < 40000) (hd : dep (tD t) ≤ 45) : PM.run F Lk02.P (n + 3) 8 [tD t] C = .ok (.bl (!(pre false t).any badM), C) := by
  have p := parts_ok F n C hb t (by omega) hd
  have hs : ∀ q ∈ pre false t, sz q.1 < 50000 := by
    have : ∀ t : T, ∀ v, ∀ q ∈ pre v t, sz q.1 ≤ sz t := up fun t ih v q hq => by
      rw [pre_kids] at hq
      rcases List.mem_cons.mp hq with rfl | hq
      · exact Nat.le_refl _
      · rw [← pres_flat] at hq
        obtain ⟨x, hx, hq⟩ := List.mem_flatMap.mp hq
        obtain ⟨k, hk, rfl⟩ := List.mem_map.mp hx
        have := ih k hk _ q hq
        have := sz_kid hk
        omega
    intro q hq
    have := this t false q hq
    omega
  have w := walk_loop F (n + 1) C hb (tD t) (pre false t) none none hs
  have e0 : evvs F (PM.run F Lk02.P (n + 2)) [.call 2 [.var 0]] ⟨[some (tD t), none, none, none], C⟩ = .ok ([.lst ((pre false t).map tP)], ⟨[some (tD t), none, none, none], C⟩) := by
    generalize (pre false t).map tP = A at *
    obtain ⟨l, hl⟩ := tD_tup t
    rw [hl] at p ⊢
    simp [isOwn, tmp, view, frz, ex, aw, ev, evvs, evbs, evas, evo, evc, evT, vw, bw, slot, rd, setS, PM.R.bind, asgTg, asB, asI, ofO, setTg, setTgs, PM.R.bind_ok, p]
  cases hw : (pre false t).any badM with
  | true =>
    obtain ⟨S, e, hC⟩ := w.1 hw
    refine run_ret [some (tD t), none, none, none] (fn := Lk02.f8) (d := .bl false) (S := S) rfl rfl rfl (exs_ret (ex_for e0 rfl e)) (by rw [hC]; exact end_ok rfl rfl hb)
  | false =>
    obtain ⟨y1, y2, e⟩ := w.2 hw
    refine run_ret [some (tD t), none, none, none] (fn := Lk02.f8) (d := .bl true) (S := ⟨[some (tD t), y1, y2, none], C⟩) rfl rfl rfl (exs_nx (ex_for e0 rfl e) (exs_ret ?_)) (end_ok rfl rfl hb)
    generalize tD t = TT
    simp [isOwn, tmp, view, frz, ex, aw, ev, evvs, evbs, evas, evo, evc, evT, vw, bw, slot, rd, setS, PM.R.bind, asgTg, asB, asI, ofO, setTg, setTgs, PM.R.bind_ok]
theorem below_tDl (m : Nat) (ts : List T) : below m (.lst (ts.map tD)) = true := by
  rw [← tDs_map, below, belows_tDs]
theorem lwithin_ok (t : T) : PM.run F Lk02.P (n + 1) 26 [tD t] C = .ok (.lst ((kids t).map tD), C) := by
  refine run_ret [some (tD t)] (fn := Lk02.f26) (d := .lst ((kids t).map tD)) (S := ⟨[some (tD t)], C⟩) rfl rfl rfl ?_ (end_ok rfl (below_tDl C hb _ _) hb)
  have l1 : ∀ A : List D, primD .list1 [.tup A] = some (.nl A) := fun _ => rfl
  have hk : ∀ k : T, ∃ q, tD k = .tup q := tD_tup
  cases t with
  | leaf m a => cases m <;> cases a <;> simp [isOwn, tmp, view, frz, ex, aw, ev, evvs, evbs, evas, evo, evc, evT, vw, bw, slot, rd, setS, PM.R.bind, asgTg, asB, asI, ofO, setTg, setTgs, PM.R.bind_ok, exs, Lk02.f26, tD, aD, kids, tup_idx0, in_T1_number, il_T1_number, nl_T1_number, in_T1_mark, il_T1_mark, nl_T1_mark, in_T1_hear, il_T1_hear, nl_T1_hear, in_T1_whole, il_T1_whole, nl_T1_whole, in_T1_total, il_T1_total, nl_T1_total, in_T1_plus, il_T1_plus, nl_T1_plus, in_T1_times, il_T1_times, nl_T1_times, in_T2_number, il_T2_number, nl_T2_number, in_T2_mark, il_T2_mark, nl_T2_mark, in_T2_hear, il_T2_hear, nl_T2_hear, in_T2_whole, il_T2_whole, nl_T2_whole, in_T2_total, il_T2_total, nl_T2_total, in_T2_plus, il_T2_plus, nl_T2_plus, in_T2_times, il_T2_times, nl_T2_times, in_T3_number, il_T3_number, nl_T3_number, in_T3_mark, il_T3_mark, nl_T3_mark, in_T3_hear, il_T3_hear, nl_T3_hear, in_T3_whole, il_T3_whole, nl_T3_whole, in_T3_total, il_T3_total, nl_T3_total, in_T3_plus, il_T3_plus, nl_T3_plus, in_T3_times, il_T3_times, nl_T3_times, in_T4_number, il_T4_number, nl_T4_number, in_T4_mark, il_T4_mark, nl_T4_mark, in_T4_hear, il_T4_hear, nl_T4_hear, in_T4_whole, il_T4_whole, nl_T4_whole, in_T4_total, il_T4_total, nl_T4_total, in_T4_plus, il_T4_plus, nl_T4_plus, in_T4_times, il_T4_times, nl_T4_times, eq_number_hear, eq_number_total, eq_number_times, eq_number_whole, ne_number_whole, eq_mark_hear, eq_mark_total, eq_mark_times, eq_mark_whole, ne_mark_whole, eq_hear_hear, eq_hear_total, eq_hear_times, eq_hear_whole, ne_hear_whole, eq_whole_hear, eq_whole_total, eq_whole_times, eq_whole_whole, ne_whole_whole, eq_total_hear, eq_total_total, eq_total_times, eq_total_whole, ne_total_whole, eq_plus_hear, eq_plus_total, eq_plus_times, eq_plus_whole, ne_plus_whole, eq_times_hear, eq_times_total, eq_times_times, eq_times_whole, ne_times_whole]
  | hear l k =>
    obtain ⟨q, hq⟩ := hk k
    simp only [tD, kids, List.map_cons, List.map_nil, hq, lD]
    simp [isOwn, tmp, view, frz, ex, aw, ev, evvs, evbs, evas, evo, evc, evT, vw, bw, slot, rd, setS, PM.R.bind, asgTg, asB, asI, ofO, setTg, setTgs, PM.R.bind_ok, exs, Lk02.f26, tup_idx0, tup_idx2, in_T1_number, il_T1_number, nl_T1_number, in_T1_mark, il_T1_mark, nl_T1_mark, in_T1_hear, il_T1_hear, nl_T1_hear, in_T1_whole, il_T1_whole, nl_T1_whole, in_T1_total, il_T1_total, nl_T1_total, in_T1_plus, il_T1_plus, nl_T1_plus, in_T1_times, il_T1_times, nl_T1_times, in_T2_number, il_T2_number, nl_T2_number, in_T2_mark, il_T2_mark, nl_T2_mark, in_T2_hear, il_T2_hear, nl_T2_hear, in_T2_whole, il_T2_whole, nl_T2_whole, in_T2_total, il_T2_total, nl_T2_total, in_T2_plus, il_T2_plus, nl_T2_plus, in_T2_times, il_T2_times, nl_T2_times, in_T3_number, il_T3_number, nl_T3_number, in_T3_mark, il_T3_mark, nl_T3_mark, in_T3_hear, il_T3_hear, nl_T3_hear, in_T3_whole, il_T3_whole, nl_T3_whole, in_T3_total, il_T3_total, nl_T3_total, in_T3_plus, il_T3_plus, nl_T3_plus, in_T3_times, il_T3_times, nl_T3_times, in_T4_number, il_T4_number, nl_T4_number, in_T4_mark, il_T4_mark, nl_T4_mark, in_T4_hear, il_T4_hear, nl_T4_hear, in_T4_whole, il_T4_whole, nl_T4_whole, in_T4_total, il_T4_total, nl_T4_total, in_T4_plus, il_T4_plus, nl_T4_plus, in_T4_times, il_T4_times, nl_T4_times, eq_number_hear, eq_number_total, eq_number_times, eq_number_whole, ne_number_whole, eq_mark_hear, eq_mark_total, eq_mark_times, eq_mark_whole, ne_mark_whole, eq_hear_hear, eq_hear_total, eq_hear_times, eq_hear_whole, ne_hear_whole, eq_whole_hear, eq_whole_total, eq_whole_times, eq_whole_whole, ne_whole_whole, eq_total_hear, eq_total_total, eq_total_times, eq_total_whole, ne_total_whole, eq_plus_hear, eq_plus_total, eq_plus_times, eq_plus_whole, ne_plus_whole, eq_times_hear, eq_times_total, eq_times_times, eq_times_whole, ne_times_whole]
  | whole k =>
    obtain ⟨q, hq⟩ := hk k
    simp only [tD, kids, List.map_cons, List.map_nil, hq]
    simp [isOwn, tmp, view, frz, ex, aw, ev, evvs, evbs, evas, evo, evc, evT, vw, bw, slot, rd, setS, PM.R.bind, asgTg, asB, asI, ofO, setTg, setTgs, PM.R.bind_ok, exs, Lk02.f26, tup_idx0, tup_idx1, in_T1_number, il_T1_number, nl_T1_number, in_T1_mark, il_T1_mark, nl_T1_mark, in_T1_hear, il_T1_hear, nl_T1_hear, in_T1_whole, il_T1_whole, nl_T1_whole, in_T1_total, il_T1_total, nl_T1_total, in_T1_plus, il_T1_plus, nl_T1_plus, in_T1_times, il_T1_times, nl_T1_times, in_T2_number, il_T2_number, nl_T2_number, in_T2_mark, il_T2_mark, nl_T2_mark, in_T2_hear, il_T2_hear, nl_T2_hear, in_T2_whole, il_T2_whole, nl_T2_whole, in_T2_total, il_T2_total, nl_T2_total, in_T2_plus, il_T2_plus, nl_T2_plus, in_T2_times, il_T2_times, nl_T2_times, in_T3_number, il_T3_number, nl_T3_number, in_T3_mark, il_T3_mark, nl_T3_mark, in_T3_hear, il_T3_hear, nl_T3_hear, in_T3_whole, il_T3_whole, nl_T3_whole, in_T3_total, il_T3_total, nl_T3_total, in_T3_plus, il_T3_plus, nl_T3_plus, in_T3_times, il_T3_times, nl_T3_times, in_T4_number, il_T4_number, nl_T4_number, in_T4_mark, il_T4_mark, nl_T4_mark, in_T4_hear, il_T4_hear, nl_T4_hear, in_T4_whole, il_T4_whole, nl_T4_whole, in_T4_total, il_T4_total, nl_T4_total, in_T4_plus, il_T4_plus, nl_T4_plus, in_T4_times, il_T4_times, nl_T4_times, eq_number_hear, eq_number_total, eq_number_times, eq_number_whole, ne_number_whole, eq_mark_hear, eq_mark_total, eq_mark_times, eq_mark_whole, ne_mark_whole, eq_hear_hear, eq_hear_total, eq_hear_times, eq_hear_whole, ne_hear_whole, eq_whole_hear, eq_whole_total, eq_whole_times, eq_whole_whole, ne_whole_whole, eq_total_hear, eq_total_total, eq_total_times, eq_total_whole, ne_total_whole, eq_plus_hear, eq_plus_total, eq_plus_times, eq_plus_whole, ne_plus_whole, eq_times_hear, eq_times_total, eq_times_times, eq_times_whole, ne_times_whole]
  | total k =>
    obtain ⟨q, hq⟩ := hk k
    simp only [tD, kids, List.map_cons, List.map_nil, hq]
    simp [isOwn, tmp, view, frz, ex, aw, ev, evvs, evbs, evas, evo, evc, evT, vw, bw, slot, rd, setS, PM.R.bind, asgTg, asB, asI, ofO, setTg, setTgs, PM.R.bind_ok, exs, Lk02.f26, tup_idx0, tup_idx1, in_T1_number, il_T1_number, nl_T1_number, in_T1_mark, il_T1_mark, nl_T1_mark, in_T1_hear, il_T1_hear, nl_T1_hear, in_T1_whole, il_T1_whole, nl_T1_whole, in_T1_total, il_T1_total, nl_T1_total, in_T1_plus, il_T1_plus, nl_T1_plus, in_T1_times, il_T1_times, nl_T1_times, in_T2_number, il_T2_number, nl_T2_number, in_T2_mark, il_T2_mark, nl_T2_mark, in_T2_hear, il_T2_hear, nl_T2_hear, in_T2_whole, il_T2_whole, nl_T2_whole, in_T2_total, il_T2_total, nl_T2_total, in_T2_plus, il_T2_plus, nl_T2_plus, in_T2_times, il_T2_times, nl_T2_times, in_T3_number, il_T3_number, nl_T3_number, in_T3_mark, il_T3_mark, nl_T3_mark, in_T3_hear, il_T3_hear, nl_T3_hear, in_T3_whole, il_T3_whole, nl_T3_whole, in_T3_total, il_T3_total, nl_T3_total, in_T3_plus, il_T3_plus, nl_T3_plus, in_T3_times, il_T3_times, nl_T3_times, in_T4_number, il_T4_number, nl_T4_number, in_T4_mark, il_T4_mark, nl_T4_mark, in_T4_hear, il_T4_hear, nl_T4_hear, in_T4_whole, il_T4_whole, nl_T4_whole, in_T4_total, il_T4_total, nl_T4_total, in_T4_plus, il_T4_plus, nl_T4_plus, in_T4_times, il_T4_times, nl_T4_times, eq_number_hear, eq_number_total, eq_number_times, eq_number_whole, ne_number_whole, eq_mark_hear, eq_mark_total, eq_mark_times, eq_mark_whole, ne_mark_whole, eq_hear_hear, eq_hear_total, eq_hear_times, eq_hear_whole, ne_hear_whole, eq_whole_hear, eq_whole_total, eq_whole_times, eq_whole_whole, ne_whole_whole, eq_total_hear, eq_total_total, eq_total_times, eq_total_whole, ne_total_whole, eq_plus_hear, eq_plus_total, eq_plus_times, eq_plus_whole, ne_plus_whole, eq_times_hear, eq_times_total, eq_times_times, eq_times_whole, ne_times_whole]
  | plus ts =>
    simp only [tD, kids, ← tDs_map]
    simp [isOwn, tmp, view, frz, ex, aw, ev, evvs, evbs, evas, evo, evc, evT, vw, bw, slot, rd, setS, PM.R.bind, asgTg, asB, asI, ofO, setTg, setTgs, PM.R.bind_ok, exs, Lk02.f26, tup_idx0, tup_idx1, l1, in_T1_number, il_T1_number, nl_T1_number, in_T1_mark, il_T1_mark, nl_T1_mark, in_T1_hear, il_T1_hear, nl_T1_hear, in_T1_whole, il_T1_whole, nl_T1_whole, in_T1_total, il_T1_total, nl_T1_total, in_T1_plus, il_T1_plus, nl_T1_plus, in_T1_times, il_T1_times, nl_T1_times, in_T2_number, il_T2_number, nl_T2_number, in_T2_mark, il_T2_mark, nl_T2_mark, in_T2_hear, il_T2_hear, nl_T2_hear, in_T2_whole, il_T2_whole, nl_T2_whole, in_T2_total, il_T2_total, nl_T2_total, in_T2_plus, il_T2_plus, nl_T2_plus, in_T2_times, il_T2_times, nl_T2_times, in_T3_number, il_T3_number, nl_T3_number, in_T3_mark, il_T3_mark, nl_T3_mark, in_T3_hear, il_T3_hear, nl_T3_hear, in_T3_whole, il_T3_whole, nl_T3_whole, in_T3_total, il_T3_total, nl_T3_total, in_T3_plus, il_T3_plus, nl_T3_plus, in_T3_times, il_T3_times, nl_T3_times, in_T4_number, il_T4_number, nl_T4_number, in_T4_mark, il_T4_mark, nl_T4_mark, in_T4_hear, il_T4_hear, nl_T4_hear, in_T4_whole, il_T4_whole, nl_T4_whole, in_T4_total, il_T4_total, nl_T4_total, in_T4_plus, il_T4_plus, nl_T4_plus, in_T4_times, il_T4_times, nl_T4_times, eq_number_hear, eq_number_total, eq_number_times, eq_number_whole, ne_number_whole, eq_mark_hear, eq_mark_total, eq_mark_times, eq_mark_whole, ne_mark_whole, eq_hear_hear, eq_hear_total, eq_hear_times, eq_hear_whole, ne_hear_whole, eq_whole_hear, eq_whole_total, eq_whole_times, eq_whole_whole, ne_whole_whole, eq_total_hear, eq_total_total, eq_total_times, eq_total_whole, ne_total_whole, eq_plus_hear, eq_plus_total, eq_plus_times, eq_plus_whole, ne_plus_whole, eq_times_hear, eq_times_total, eq_times_times, eq_times_whole, ne_times_whole]
  | times ts =>
    simp only [tD, kids, ← tDs_map]
    simp [isOwn, tmp, view, frz, ex, aw, ev, evvs, evbs, evas, evo, evc, evT, vw, bw, slot, rd, setS, PM.R.bind, asgTg, asB, asI, ofO, setTg, setTgs, PM.R.bind_ok, exs, Lk02.f26, tup_idx0, tup_idx1, l1, in_T1_number, il_T1_number, nl_T1_number, in_T1_mark, il_T1_mark, nl_T1_mark, in_T1_hear, il_T1_hear, nl_T1_hear, in_T1_whole, il_T1_whole, nl_T1_whole, in_T1_total, il_T1_total, nl_T1_total, in_T1_plus, il_T1_plus, nl_T1_plus, in_T1_times, il_T1_times, nl_T1_times, in_T2_number, il_T2_number, nl_T2_number, in_T2_mark, il_T2_mark, nl_T2_mark, in_T2_hear, il_T2_hear, nl_T2_hear, in_T2_whole, il_T2_whole, nl_T2_whole, in_T2_total, il_T2_total, nl_T2_total, in_T2_plus, il_T2_plus, nl_T2_plus, in_T2_times, il_T2_times, nl_T2_times, in_T3_number, il_T3_number, nl_T3_number, in_T3_mark, il_T3_mark, nl_T3_mark, in_T3_hear, il_T3_hear, nl_T3_hear, in_T3_whole, il_T3_whole, nl_T3_whole, in_T3_total, il_T3_total, nl_T3_total, in_T3_plus, il_T3_plus, nl_T3_plus, in_T3_times, il_T3_times, nl_T3_times, in_T4_number, il_T4_number, nl_T4_number, in_T4_mark, il_T4_mark, nl_T4_mark, in_T4_hear, il_T4_hear, nl_T4_hear, in_T4_whole, il_T4_whole, nl_T4_whole, in_T4_total, il_T4_total, nl_T4_total, in_T4_plus, il_T4_plus, nl_T4_plus, in_T4_times, il_T4_times, nl_T4_times, eq_number_hear, eq_number_total, eq_number_times, eq_number_whole, ne_number_whole, eq_mark_hear, eq_mark_total, eq_mark_times, eq_mark_whole, ne_mark_whole, eq_hear_hear, eq_hear_total, eq_hear_times, eq_hear_whole, ne_hear_whole, eq_whole_hear, eq_whole_total, eq_whole_times, eq_whole_whole, ne_whole_whole, eq_total_hear, eq_total_total, eq_total_times, eq_total_whole, ne_total_whole, eq_plus_hear, eq_plus_total, eq_plus_times, eq_plus_whole, ne_plus_whole, eq_times_hear, eq_times_total, eq_times_times, eq_times_whole, ne_times_whole]
theorem all_loop (s0 : D) : ∀ (k m : Nat) (todo found : List T) (x3 : Option D), szs todo ≤ k → found.length + 2 * k < 200000 →
    ∃ (l : List T) (y3 : Option D), whileL (fun S => evT F (PM.run F Lk02.P (n + 1)) (.cmp .gt (.prim .len [.var 2]) (.k (.int (0)))) S) (fun S => exs F (PM.run F Lk02.P (n + 1)) [.asg (.v 3) (.pop (.var 2)), .expr (.append (.var 1) (.var 3)), .asg (.v 2) (.bin .add (.var 2) (.rev (.call 26 [.var 3])))] S) (m + (k + 1)) ⟨[some s0, some (.nl (found.map tD)), some (.nl (todo.map tD)), x3], C⟩ = .ok (.nx ⟨[some s0, some (.nl ((found ++ l).map tD)), some (.nl []), y3], C⟩) ∧ l.length = szs todo := by
  intro k
  have gt : ∀ a b : Int, cmpD .gt (.int a) (.int b) = some (decide (b < a)) := fun _ _ => rfl
  have pl : ∀ A : List D, primD .len [.lst A] = some (.int ((A.length : Nat) : Int)) := fun A => rfl
  induction k with
  | zero =>
    intro m todo found x3 h _
    have : todo = [] := List.eq_nil_of_length_eq_zero (by have := len_szs todo; omega)
    subst this
    refine ⟨[], x3, while_end ?_, rfl⟩
    rw [List.append_nil, List.map_nil]
    generalize found.map tD = A
    simp [isOwn, tmp, view, frz, ex, aw, ev, evvs, evbs, evas, evo, evc, evT, vw, bw, slot, rd, setS, PM.R.bind, asgTg, asB, asI, ofO, setTg, setTgs, PM.R.bind_ok, pl, gt]
  | succ k ih =>
    intro m todo found x3 h hk
    rcases List.eq_nil_or_concat todo with rfl | ⟨i, t, rfl⟩
    · refine ⟨[], x3, while_end ?_, rfl⟩
      rw [List.append_nil, List.map_nil]
      generalize found.map tD = A
      simp [isOwn, tmp, view, frz, ex, aw, ev, evvs, evbs, evas, evo, evc, evT, vw, bw, slot, rd, setS, PM.R.bind, asgTg, asB, asI, ofO, setTg, setTgs, PM.R.bind_ok, pl, gt]
    · simp only [List.concat_eq_append] at h hk ⊢
      have sa : ∀ a b : List T, szs (a ++ b) = szs a + szs b := fun a b => by
        induction a with
        | nil => simp [szs]
        | cons x a ih => simp only [List.cons_append, szs, ih]; omega
      have sr : ∀ a : List T, szs a.reverse = szs a := fun a => by
        induction a with
        | nil => rfl
        | cons x a ih => simp only [List.reverse_cons, sa, ih, szs]; omega
      rw [sa] at h
      simp only [szs] at h
      have hs := sz_kids t
      have hkl := len_szs (kids t)
      have hil := len_szs i
      obtain ⟨l, y3, r, rl⟩ := ih m (i ++ (kids t).reverse) (found ++ [t]) (some (tD t)) (by rw [sa, sr]; omega) (by simp; omega)
      refine ⟨t :: l, y3, ?_, by rw [List.length_cons, rl, sa, sa, sr]; simp only [szs]; omega⟩
      have e : found ++ t :: l = found ++ [t] ++ l := by simp
      rw [e]
      have gl : ((i ++ [t]).map tD).getLast? = some (tD t) := by simp
      have dl : ((i ++ [t]).map tD).dropLast = i.map tD := by simp
      have hz : (found.map tD).length < LIM := by rw [LIM_eq, List.length_map]; omega
      have ea : found.map tD ++ [tD t] = (found ++ [t]).map tD := by simp
      have wo := lwithin_ok F n C hb t
      have rv : revD (.lst ((kids t).map tD)) = some (.nl ((kids t).reverse.map tD)) := by simp [revD]
      have ad := add_lists (i.map tD) ((kids t).reverse.map tD) (by simp; omega)
      rw [← List.map_append] at ad
      have hp : 0 < ((i ++ [t]).map tD).length := by simp
      have hp2 : (i ++ [t]).map tD ≠ [] := by simp
      refine while_step (S1 := ⟨[some s0, some (.nl (found.map tD)), some (.nl ((i ++ [t]).map tD)), x3], C⟩) (S2 := ⟨[some s0, some (.nl ((found ++ [t]).map tD)), some (.nl ((i ++ (kids t).reverse).map tD)), some (tD t)], C⟩) ?_ ?_ r
      · generalize (i ++ [t]).map tD = A at hp hp2
        generalize found.map tD = A2
        simp [isOwn, tmp, view, frz, ex, aw, ev, evvs, evbs, evas, evo, evc, evT, vw, bw, slot, rd, setS, PM.R.bind, asgTg, asB, asI, ofO, setTg, setTgs, PM.R.bind_ok, pl, gt, hp, hp2]
      · rw [← ea]
        obtain ⟨q, hq⟩ := tD_tup t
        rw [hq] at gl wo ⊢
        generalize (i ++ [t]).map tD = A at *
        generalize found.map tD = A2 at *
        generalize (i ++ (kids t).reverse).map tD = A3 at *
        generalize (kids t).reverse.map tD = A4 at *
        generalize (kids t).map tD = A5 at *
        generalize i.map tD = A6 at *
        simp [isOwn, tmp, view, frz, ex, aw, ev, evvs, evbs, evas, evo, evc, evT, vw, bw, slot, rd, setS, PM.R.bind, asgTg, asB, asI, ofO, setTg, setTgs, PM.R.bind_ok, exs, ownL, chg, gl, dl, hz, wo, rv, binD, ad]
theorem allw_ok (t : T) (h : sz t < 40000) : ∃ l : List T, PM.run F Lk02.P (n + 2) 27 [tD t] C = .ok (.lst (l.map tD), C) ∧ l.length = sz t := by
  obtain ⟨m, hf⟩ := fuel_ge (show szs [t] < 10 ^ 200 by
    have : (100000 : Nat) < 10 ^ 200 := by decide +kernel
    simp only [szs]
    omega)
  obtain ⟨l, y3, r, rl⟩ := all_loop F n C hb (tD t) (szs [t]) m [t] [] none (Nat.le_refl _) (by simp only [szs, List.length_nil]; omega)
  rw [← hf, List.nil_append] at r
  refine ⟨l, ?_, by rw [rl]; simp [szs]⟩
  refine run_ret [some (tD t), none, none, none] (fn := Lk02.f27) (d := .lst (l.map tD)) (S := ⟨[some (tD t), some (.lst (l.map tD)), some (.nl []), y3], C⟩) rfl rfl rfl ?_ (end_ok rfl (below_tDl C hb _ _) hb)
  refine exs_nx (S1 := ⟨[some (tD t), some (.nl (([] : List T).map tD)), some (.nl ([t].map tD)), none], C⟩) ?_ (exs_nx (ex_while r) (exs_ret ?_))
  · simp only [List.map_cons, List.map_nil]
    obtain ⟨q, hq⟩ := tD_tup t
    rw [hq]
    simp [isOwn, tmp, view, frz, ex, aw, ev, evvs, evbs, evas, evo, evc, evT, vw, bw, slot, rd, setS, PM.R.bind, asgTg, asB, asI, ofO, setTg, setTgs, PM.R.bind_ok, setMany]
  · generalize l.map tD = A
    simp [isOwn, tmp, view, frz, ex, aw, ev, evvs, evbs, evas, evo, evc, evT, vw, bw, slot, rd, setS, PM.R.bind, asgTg, asB, asI, ofO, setTg, setTgs, PM.R.bind_ok]
theorem lrounds_ok : ∀ t : T, sz t < 40000 → ∀ n : Nat, hgt t ≤ n → PM.run F Lk02.P (n + 2) 29 [tD t] C = .ok (rD2 (rnd t), C) := up fun t ih hsz n hn => by
  have hkl := len_szs (kids t)
  have hs := sz_kids t
  have wo := lwithin_ok F n C hb t
  have hl0 := ev_lc (F := F) (call := PM.run F Lk02.P (n + 1)) (S := ⟨[some (tD t), none, none, none, none, none], C⟩) (S1 := ⟨[some (tD t), none, none, none, none, none], C⟩) (own := [4]) (tg := .v 4) (k := 0) (its := [.call 26 [.var 0]]) (cond := []) (elt := .call 29 [.var 4]) (vals := [.lst ((kids t).map tD)]) (ds := kids t) (g := tD) (c := fun _ => true) (f := fun k => rD2 (rnd k)) (Ld := fun k => [some (tD t), none, none, none, some (tD k), none]) (by
    obtain ⟨q, hq⟩ := tD_tup t
    rw [hq] at wo ⊢
    generalize (kids t).map tD = A at *
    simp [isOwn, tmp, view, frz, ex, aw, ev, evvs, evbs, evas, evo, evc, evT, vw, bw, slot, rd, setS, PM.R.bind, asgTg, asB, asI, ofO, setTg, setTgs, PM.R.bind_ok, wo]) rfl (by
    generalize tD t = TT
    simp [isOwn, tmp, view, frz, ex, aw, ev, evvs, evbs, evas, evo, evc, evT, vw, bw, slot, rd, setS, PM.R.bind, asgTg, asB, asI, ofO, binD, add_ii, subD, cmpD, primD, itemsD, setTg, setTgs, wipeL, noOwn, idxD, sliceD, revD, PM.R.bind_ok]) (by rw [LIM_eq]; omega) (by
    intro k hk
    have hh := hgt_kid hk
    obtain ⟨n', rfl⟩ : ∃ n', n = n' + 1 := ⟨n - 1, by omega⟩
    have r := ih k hk (by have := sz_kid hk; omega) n' (by omega)
    simp only [rD2] at r ⊢
    obtain ⟨q, hq⟩ := tD_tup k
    rw [hq] at r ⊢
    generalize tD t = TT
    simp [isOwn, tmp, view, frz, ex, aw, ev, evvs, evbs, evas, evo, evc, evT, vw, bw, slot, rd, setS, PM.R.bind, asgTg, asB, asI, ofO, setTg, setTgs, PM.R.bind_ok, r, wipeL])
  have e0 : (((kids t).filter fun _ => true).map fun k => rD2 (rnd k)) = ((kids t).map rnd).map rD2 := by
    rw [List.filter_eq_self.mpr (by simp), List.map_map]
    rfl
  rw [e0] at hl0
  rw [rnd_step t]
  have hpl : ((kids t).map rnd).length < 100000 := by rw [List.length_map]; omega
  generalize (kids t).map rnd = ps at *
  have st := fun (j : Nat) => trivial
  have g1 := ev_lc (F := F) (call := PM.run F Lk02.P (n + 1)) (S := ⟨[some (tD t), some (.nl (ps.map rD2)), none, none, none, none], C⟩) (S1 := ⟨[some (tD t), some (.lst (ps.map rD2)), none, none, none, none], C⟩) (own := [5]) (tg := .v 5) (k := 0) (its := [.var 1]) (cond := []) (elt := .idx (.var 5) (.k (.int 0))) (vals := [.lst (ps.map rD2)]) (ds := ps) (g := rD2) (c := fun _ => true) (f := fun p => .int (p.1 : Nat)) (Ld := fun p => [some (tD t), some (.lst (ps.map rD2)), none, none, none, some (rD2 p)]) (by
    generalize ps.map rD2 = A
    simp [isOwn, tmp, view, frz, ex, aw, ev, evvs, evbs, evas, evo, evc, evT, vw, bw, slot, rd, setS, PM.R.bind, asgTg, asB, asI, ofO, setTg, setTgs, PM.R.bind_ok]) rfl (by
    generalize ps.map rD2 = A
    generalize tD t = TT
    simp [isOwn, tmp, view, frz, ex, aw, ev, evvs, evbs, evas, evo, evc, evT, vw, bw, slot, rd, setS, PM.R.bind, asgTg, asB, asI, ofO, binD, add_ii, subD, cmpD, primD, itemsD, setTg, setTgs, wipeL, noOwn, idxD, sliceD, revD, PM.R.bind_ok]) (by rw [LIM_eq]; omega) (by
    intro p _
    generalize ps.map rD2 = A
    generalize tD t = TT
    simp only [rD2]
    simp [isOwn, tmp, view, frz, ex, aw, ev, evvs, evbs, evas, evo, evc, evT, vw, bw, slot, rd, setS, PM.R.bind, asgTg, asB, asI, ofO, setTg, setTgs, PM.R.bind_ok, wipeL, tup_idx0])
  have g2 := ev_lc (F := F) (call := PM.run F Lk02.P (n + 1)) (S := ⟨[some (tD t), some (.lst (ps.map rD2)), none, none, none, none], C⟩) (S1 := ⟨[some (tD t), some (.lst (ps.map rD2)), none, none, none, none], C⟩) (own := [5]) (tg := .v 5) (k := 0) (its := [.var 1]) (cond := []) (elt := .idx (.var 5) (.k (.int 1))) (vals := [.lst (ps.map rD2)]) (ds := ps) (g := rD2) (c := fun _ => true) (f := fun p => .int (p.2 : Nat)) (Ld := fun p => [some (tD t), some (.lst (ps.map rD2)), none, none, none, some (rD2 p)]) (by
    generalize ps.map rD2 = A
    simp [isOwn, tmp, view, frz, ex, aw, ev, evvs, evbs, evas, evo, evc, evT, vw, bw, slot, rd, setS, PM.R.bind, asgTg, asB, asI, ofO, setTg, setTgs, PM.R.bind_ok]) rfl (by
    generalize ps.map rD2 = A
    generalize tD t = TT
    simp [isOwn, tmp, view, frz, ex, aw, ev, evvs, evbs, evas, evo, evc, evT, vw, bw, slot, rd, setS, PM.R.bind, asgTg, asB, asI, ofO, binD, add_ii, subD, cmpD, primD, itemsD, setTg, setTgs, wipeL, noOwn, idxD, sliceD, revD, PM.R.bind_ok]) (by rw [LIM_eq]; omega) (by
    intro p _
    generalize ps.map rD2 = A
    generalize tD t = TT
    simp only [rD2]
    simp [isOwn, tmp, view, frz, ex, aw, ev, evvs, evbs, evas, evo, evc, evT, vw, bw, slot, rd, setS, PM.R.bind, asgTg, asB, asI, ofO, setTg, setTgs, PM.R.bind_ok, wipeL, tup_idx1])
  have e1 : ((ps.filter fun _ => true).map fun p => D.int ((p.1 : Nat) : Int)) = isD ((ps.map (·.1)).map fun x => ((x : Nat) : Int)) := by
    rw [List.filter_eq_self.mpr (by simp)]
    simp [isD]
  have e2 : ((ps.filter fun _ => true).map fun p => D.int ((p.2 : Nat) : Int)) = isD ((ps.map (·.2)).map fun x => ((x : Nat) : Int)) := by
    rw [List.filter_eq_self.mpr (by simp)]
    simp [isD]
  rw [e1] at g1
  rw [e2] at g2
  have a1 := add_lists [.int 0] (isD ((ps.map (·.1)).map fun x => ((x : Nat) : Int))) (by rw [isD_length]; simp; omega)
  have a2 := add_lists [.int 0] (isD ((ps.map (·.2)).map fun x => ((x : Nat) : Int))) (by rw [isD_length]; simp; omega)
  have p1 : primD .maxL [.lst ([.int 0] ++ isD ((ps.map (·.1)).map fun x => ((x : Nat) : Int)))] = some (.int (mx1 (ps.map (·.1)) : Nat)) := by
    have : [D.int 0] ++ isD ((ps.map (·.1)).map fun x => ((x : Nat) : Int)) = isD (0 :: (ps.map (·.1)).map fun x => ((x : Nat) : Int)) := rfl
    simp only [this, primD, intsOf_isD, Option.bind_some, maxI_mx1]
    rw [if_neg (by simp)]
  have p2 : primD .maxL [.lst ([.int 0] ++ isD ((ps.map (·.2)).map fun x => ((x : Nat) : Int)))] = some (.int (mx1 (ps.map (·.2)) : Nat)) := by
    have : [D.int 0] ++ isD ((ps.map (·.2)).map fun x => ((x : Nat) : Int)) = isD (0 :: (ps.map (·.2)).map fun x => ((x : Nat) : Int)) := rfl
    simp only [this, primD, intsOf_isD, Option.bind_some, maxI_mx1]
    rw [if_neg (by simp)]
  generalize [D.int 0] ++ isD ((ps.map (·.1)).map fun x => ((x : Nat) : Int)) = M1 at a1 p1
  generalize [D.int 0] ++ isD ((ps.map (·.2)).map fun x => ((x : Nat) : Int)) = M2 at a2 p2
  have fin : exs F (PM.run F Lk02.P (n + 1)) [(.ite (.cmp .eq (.idx (.var 0) (.k (.int (0)))) (.k (.str "hear"))) [.ret (.tup [.bin .add (.var 2) (.k (.int (1))), .var 3])] []), (.ret (.ite (.cmp .isIn (.idx (.var 0) (.k (.int (0)))) (.list [.k (.str "total"), .k (.str "whole")])) (.tup [.k (.int (0)), .prim .max2 [.var 2, .var 3]]) (.tup [.var 2, .var 3])))] ⟨[some (tD t), some (.lst (ps.map rD2)), some (.int (mx1 (ps.map (·.1)) : Nat)), some (.int (mx1 (ps.map (·.2)) : Nat)), none, none], C⟩ = .ok (.ret (rD2 (stepM t ps)) ⟨[some (tD t), some (.lst (ps.map rD2)), some (.int (mx1 (ps.map (·.1)) : Nat)), some (.int (mx1 (ps.map (·.2)) : Nat)), none, none], C⟩) := by
    have m2 : ∀ a b : Nat, primD .max2 [.int (a : Nat), .int (b : Nat)] = some (.int ((max a b : Nat) : Int)) := fun a b => by
      show some (D.int (if ((b : Nat) : Int) > (a : Nat) then ((b : Nat) : Int) else ((a : Nat) : Int))) = _
      congr 2
      split <;> omega
    clear g1 g2 a1 a2 p1 p2 hl0 e1 e2 e0 ih wo
    simp only [stepM]
    generalize PM.run F Lk02.P (n + 1) = cl
    generalize mx1 (ps.map (·.1)) = u
    generalize mx1 (ps.map (·.2)) = v
    generalize ps.map rD2 = A
    have m2 := m2 u v
    generalize max u v = w at m2
    cases t with
    | leaf m a => cases m <;> cases a <;> simp [isOwn, tmp, view, frz, ex, aw, ev, evvs, evbs, evas, evo, evc, evT, vw, bw, slot, rd, setS, PM.R.bind, asgTg, asB, asI, ofO, setTg, setTgs, PM.R.bind_ok, exs, tD, aD, tup_idx0, rD2, m2, in_T1_number, il_T1_number, nl_T1_number, in_T1_mark, il_T1_mark, nl_T1_mark, in_T1_hear, il_T1_hear, nl_T1_hear, in_T1_whole, il_T1_whole, nl_T1_whole, in_T1_total, il_T1_total, nl_T1_total, in_T1_plus, il_T1_plus, nl_T1_plus, in_T1_times, il_T1_times, nl_T1_times, in_T2_number, il_T2_number, nl_T2_number, in_T2_mark, il_T2_mark, nl_T2_mark, in_T2_hear, il_T2_hear, nl_T2_hear, in_T2_whole, il_T2_whole, nl_T2_whole, in_T2_total, il_T2_total, nl_T2_total, in_T2_plus, il_T2_plus, nl_T2_plus, in_T2_times, il_T2_times, nl_T2_times, in_T3_number, il_T3_number, nl_T3_number, in_T3_mark, il_T3_mark, nl_T3_mark, in_T3_hear, il_T3_hear, nl_T3_hear, in_T3_whole, il_T3_whole, nl_T3_whole, in_T3_total, il_T3_total, nl_T3_total, in_T3_plus, il_T3_plus, nl_T3_plus, in_T3_times, il_T3_times, nl_T3_times, in_T4_number, il_T4_number, nl_T4_number, in_T4_mark, il_T4_mark, nl_T4_mark, in_T4_hear, il_T4_hear, nl_T4_hear, in_T4_whole, il_T4_whole, nl_T4_whole, in_T4_total, il_T4_total, nl_T4_total, in_T4_plus, il_T4_plus, nl_T4_plus, in_T4_times, il_T4_times, nl_T4_times, eq_number_hear, eq_number_total, eq_number_times, eq_number_whole, ne_number_whole, eq_mark_hear, eq_mark_total, eq_mark_times, eq_mark_whole, ne_mark_whole, eq_hear_hear, eq_hear_total, eq_hear_times, eq_hear_whole, ne_hear_whole, eq_whole_hear, eq_whole_total, eq_whole_times, eq_whole_whole, ne_whole_whole, eq_total_hear, eq_total_total, eq_total_times, eq_total_whole, ne_total_whole, eq_plus_hear, eq_plus_total, eq_plus_times, eq_plus_whole, ne_plus_whole, eq_times_hear, eq_times_total, eq_times_times, eq_times_whole, ne_times_whole]
    | hear l t =>
      have ad : binD .add (.int (u : Nat)) (.int 1) = some (.int ((u + 1 : Nat) : Int)) := rfl
      simp [isOwn, tmp, view, frz, ex, aw, ev, evvs, evbs, evas, evo, evc, evT, vw, bw, slot, rd, setS, PM.R.bind, asgTg, asB, asI, ofO, setTg, setTgs, PM.R.bind_ok, exs, tD, tup_idx0, rD2, m2, ad, in_T1_number, il_T1_number, nl_T1_number, in_T1_mark, il_T1_mark, nl_T1_mark, in_T1_hear, il_T1_hear, nl_T1_hear, in_T1_whole, il_T1_whole, nl_T1_whole, in_T1_total, il_T1_total, nl_T1_total, in_T1_plus, il_T1_plus, nl_T1_plus, in_T1_times, il_T1_times, nl_T1_times, in_T2_number, il_T2_number, nl_T2_number, in_T2_mark, il_T2_mark, nl_T2_mark, in_T2_hear, il_T2_hear, nl_T2_hear, in_T2_whole, il_T2_whole, nl_T2_whole, in_T2_total, il_T2_total, nl_T2_total, in_T2_plus, il_T2_plus, nl_T2_plus, in_T2_times, il_T2_times, nl_T2_times, in_T3_number, il_T3_number, nl_T3_number, in_T3_mark, il_T3_mark, nl_T3_mark, in_T3_hear, il_T3_hear, nl_T3_hear, in_T3_whole, il_T3_whole, nl_T3_whole, in_T3_total, il_T3_total, nl_T3_total, in_T3_plus, il_T3_plus, nl_T3_plus, in_T3_times, il_T3_times, nl_T3_times, in_T4_number, il_T4_number, nl_T4_number, in_T4_mark, il_T4_mark, nl_T4_mark, in_T4_hear, il_T4_hear, nl_T4_hear, in_T4_whole, il_T4_whole, nl_T4_whole, in_T4_total, il_T4_total, nl_T4_total, in_T4_plus, il_T4_plus, nl_T4_plus, in_T4_times, il_T4_times, nl_T4_times, eq_number_hear, eq_number_total, eq_number_times, eq_number_whole, ne_number_whole, eq_mark_hear, eq_mark_total, eq_mark_times, eq_mark_whole, ne_mark_whole, eq_hear_hear, eq_hear_total, eq_hear_times, eq_hear_whole, ne_hear_whole, eq_whole_hear, eq_whole_total, eq_whole_times, eq_whole_whole, ne_whole_whole, eq_total_hear, eq_total_total, eq_total_times, eq_total_whole, ne_total_whole, eq_plus_hear, eq_plus_total, eq_plus_times, eq_plus_whole, ne_plus_whole, eq_times_hear, eq_times_total, eq_times_times, eq_times_whole, ne_times_whole]
    | whole t => simp [isOwn, tmp, view, frz, ex, aw, ev, evvs, evbs, evas, evo, evc, evT, vw, bw, slot, rd, setS, PM.R.bind, asgTg, asB, asI, ofO, setTg, setTgs, PM.R.bind_ok, exs, tD, tup_idx0, rD2, m2, in_T1_number, il_T1_number, nl_T1_number, in_T1_mark, il_T1_mark, nl_T1_mark, in_T1_hear, il_T1_hear, nl_T1_hear, in_T1_whole, il_T1_whole, nl_T1_whole, in_T1_total, il_T1_total, nl_T1_total, in_T1_plus, il_T1_plus, nl_T1_plus, in_T1_times, il_T1_times, nl_T1_times, in_T2_number, il_T2_number, nl_T2_number, in_T2_mark, il_T2_mark, nl_T2_mark, in_T2_hear, il_T2_hear, nl_T2_hear, in_T2_whole, il_T2_whole, nl_T2_whole, in_T2_total, il_T2_total, nl_T2_total, in_T2_plus, il_T2_plus, nl_T2_plus, in_T2_times, il_T2_times, nl_T2_times, in_T3_number, il_T3_number, nl_T3_number, in_T3_mark, il_T3_mark, nl_T3_mark, in_T3_hear, il_T3_hear, nl_T3_hear, in_T3_whole, il_T3_whole, nl_T3_whole, in_T3_total, il_T3_total, nl_T3_total, in_T3_plus, il_T3_plus, nl_T3_plus, in_T3_times, il_T3_times, nl_T3_times, in_T4_number, il_T4_number, nl_T4_number, in_T4_mark, il_T4_mark, nl_T4_mark, in_T4_hear, il_T4_hear, nl_T4_hear, in_T4_whole, il_T4_whole, nl_T4_whole, in_T4_total, il_T4_total, nl_T4_total, in_T4_plus, il_T4_plus, nl_T4_plus, in_T4_times, il_T4_times, nl_T4_times, eq_number_hear, eq_number_total, eq_number_times, eq_number_whole, ne_number_whole, eq_mark_hear, eq_mark_total, eq_mark_times, eq_mark_whole, ne_mark_whole, eq_hear_hear, eq_hear_total, eq_hear_times, eq_hear_whole, ne_hear_whole, eq_whole_hear, eq_whole_total, eq_whole_times, eq_whole_whole, ne_whole_whole, eq_total_hear, eq_total_total, eq_total_times, eq_total_whole, ne_total_whole, eq_plus_hear, eq_plus_total, eq_plus_times, eq_plus_whole, ne_plus_whole, eq_times_hear, eq_times_total, eq_times_times, eq_times_whole, ne_times_whole]
    | total t => simp [isOwn, tmp, view, frz, ex, aw, ev, evvs, evbs, evas, evo, evc, evT, vw, bw, slot, rd, setS, PM.R.bind, asgTg, asB, asI, ofO, setTg, setTgs, PM.R.bind_ok, exs, tD, tup_idx0, rD2, m2, in_T1_number, il_T1_number, nl_T1_number, in_T1_mark, il_T1_mark, nl_T1_mark, in_T1_hear, il_T1_hear, nl_T1_hear, in_T1_whole, il_T1_whole, nl_T1_whole, in_T1_total, il_T1_total, nl_T1_total, in_T1_plus, il_T1_plus, nl_T1_plus, in_T1_times, il_T1_times, nl_T1_times, in_T2_number, il_T2_number, nl_T2_number, in_T2_mark, il_T2_mark, nl_T2_mark, in_T2_hear, il_T2_hear, nl_T2_hear, in_T2_whole, il_T2_whole, nl_T2_whole, in_T2_total, il_T2_total, nl_T2_total, in_T2_plus, il_T2_plus, nl_T2_plus, in_T2_times, il_T2_times, nl_T2_times, in_T3_number, il_T3_number, nl_T3_number, in_T3_mark, il_T3_mark, nl_T3_mark, in_T3_hear, il_T3_hear, nl_T3_hear, in_T3_whole, il_T3_whole, nl_T3_whole, in_T3_total, il_T3_total, nl_T3_total, in_T3_plus, il_T3_plus, nl_T3_plus, in_T3_times, il_T3_times, nl_T3_times, in_T4_number, il_T4_number, nl_T4_number, in_T4_mark, il_T4_mark, nl_T4_mark, in_T4_hear, il_T4_hear, nl_T4_hear, in_T4_whole, il_T4_whole, nl_T4_whole, in_T4_total, il_T4_total, nl_T4_total, in_T4_plus, il_T4_plus, nl_T4_plus, in_T4_times, il_T4_times, nl_T4_times, eq_number_hear, eq_number_total, eq_number_times, eq_number_whole, ne_number_whole, eq_mark_hear, eq_mark_total, eq_mark_times, eq_mark_whole, ne_mark_whole, eq_hear_hear, eq_hear_total, eq_hear_times, eq_hear_whole, ne_hear_whole, eq_whole_hear, eq_whole_total, eq_whole_times, eq_whole_whole, ne_whole_whole, eq_total_hear, eq_total_total, eq_total_times, eq_total_whole, ne_total_whole, eq_plus_hear, eq_plus_total, eq_plus_times, eq_plus_whole, ne_plus_whole, eq_times_hear, eq_times_total, eq_times_times, eq_times_whole, ne_times_whole]
    | plus ts => simp [isOwn, tmp, view, frz, ex, aw, ev, evvs, evbs, evas, evo, evc, evT, vw, bw, slot, rd, setS, PM.R.bind, asgTg, asB, asI, ofO, setTg, setTgs, PM.R.bind_ok, exs, tD, tup_idx0, rD2, m2, in_T1_number, il_T1_number, nl_T1_number, in_T1_mark, il_T1_mark, nl_T1_mark, in_T1_hear, il_T1_hear, nl_T1_hear, in_T1_whole, il_T1_whole, nl_T1_whole, in_T1_total, il_T1_total, nl_T1_total, in_T1_plus, il_T1_plus, nl_T1_plus, in_T1_times, il_T1_times, nl_T1_times, in_T2_number, il_T2_number, nl_T2_number, in_T2_mark, il_T2_mark, nl_T2_mark, in_T2_hear, il_T2_hear, nl_T2_hear, in_T2_whole, il_T2_whole, nl_T2_whole, in_T2_total, il_T2_total, nl_T2_total, in_T2_plus, il_T2_plus, nl_T2_plus, in_T2_times, il_T2_times, nl_T2_times, in_T3_number, il_T3_number, nl_T3_number, in_T3_mark, il_T3_mark, nl_T3_mark, in_T3_hear, il_T3_hear, nl_T3_hear, in_T3_whole, il_T3_whole, nl_T3_whole, in_T3_total, il_T3_total, nl_T3_total, in_T3_plus, il_T3_plus, nl_T3_plus, in_T3_times, il_T3_times, nl_T3_times, in_T4_number, il_T4_number, nl_T4_number, in_T4_mark, il_T4_mark, nl_T4_mark, in_T4_hear, il_T4_hear, nl_T4_hear, in_T4_whole, il_T4_whole, nl_T4_whole, in_T4_total, il_T4_total, nl_T4_total, in_T4_plus, il_T4_plus, nl_T4_plus, in_T4_times, il_T4_times, nl_T4_times, eq_number_hear, eq_number_total, eq_number_times, eq_number_whole, ne_number_whole, eq_mark_hear, eq_mark_total, eq_mark_times, eq_mark_whole, ne_mark_whole, eq_hear_hear, eq_hear_total, eq_hear_times, eq_hear_whole, ne_hear_whole, eq_whole_hear, eq_whole_total, eq_whole_times, eq_whole_whole, ne_whole_whole, eq_total_hear, eq_total_total, eq_total_times, eq_total_whole, ne_total_whole, eq_plus_hear, eq_plus_total, eq_plus_times, eq_plus_whole, ne_plus_whole, eq_times_hear, eq_times_total, eq_times_times, eq_times_whole, ne_times_whole]
    | times ts => simp [isOwn, tmp, view, frz, ex, aw, ev, evvs, evbs, evas, evo, evc, evT, vw, bw, slot, rd, setS, PM.R.bind, asgTg, asB, asI, ofO, setTg, setTgs, PM.R.bind_ok, exs, tD, tup_idx0, rD2, m2, in_T1_number, il_T1_number, nl_T1_number, in_T1_mark, il_T1_mark, nl_T1_mark, in_T1_hear, il_T1_hear, nl_T1_hear, in_T1_whole, il_T1_whole, nl_T1_whole, in_T1_total, il_T1_total, nl_T1_total, in_T1_plus, il_T1_plus, nl_T1_plus, in_T1_times, il_T1_times, nl_T1_times, in_T2_number, il_T2_number, nl_T2_number, in_T2_mark, il_T2_mark, nl_T2_mark, in_T2_hear, il_T2_hear, nl_T2_hear, in_T2_whole, il_T2_whole, nl_T2_whole, in_T2_total, il_T2_total, nl_T2_total, in_T2_plus, il_T2_plus, nl_T2_plus, in_T2_times, il_T2_times, nl_T2_times, in_T3_number, il_T3_number, nl_T3_number, in_T3_mark, il_T3_mark, nl_T3_mark, in_T3_hear, il_T3_hear, nl_T3_hear, in_T3_whole, il_T3_whole, nl_T3_whole, in_T3_total, il_T3_total, nl_T3_total, in_T3_plus, il_T3_plus, nl_T3_plus, in_T3_times, il_T3_times, nl_T3_times, in_T4_number, il_T4_number, nl_T4_number, in_T4_mark, il_T4_mark, nl_T4_mark, in_T4_hear, il_T4_hear, nl_T4_hear, in_T4_whole, il_T4_whole, nl_T4_whole, in_T4_total, il_T4_total, nl_T4_total, in_T4_plus, il_T4_plus, nl_T4_plus, in_T4_times, il_T4_times, nl_T4_times, eq_number_hear, eq_number_total, eq_number_times, eq_number_whole, ne_number_whole, eq_mark_hear, eq_mark_total, eq_mark_times, eq_mark_whole, ne_mark_whole, eq_hear_hear, eq_hear_total, eq_hear_times, eq_hear_whole, ne_hear_whole, eq_whole_hear, eq_whole_total, eq_whole_times, eq_whole_whole, ne_whole_whole, eq_total_hear, eq_total_total, eq_total_times, eq_total_whole, ne_total_whole, eq_plus_hear, eq_plus_total, eq_plus_times, eq_plus_whole, ne_plus_whole, eq_times_hear, eq_times_total, eq_times_times, eq_times_whole, ne_times_whole]
  have hend : endC true C.length (rD2 (stepM t ps)) C = .ok (rD2 (stepM t ps), C) := by
    generalize stepM t ps = q
    exact end_ok rfl rfl hb
  refine run_ret [some (tD t), none, none, none, none, none] (fn := Lk02.f29) (d := rD2 (stepM t ps)) (S := ⟨[some (tD t), some (.lst (ps.map rD2)), some (.int (mx1 (ps.map (·.1)) : Nat)), some (.int (mx1 (ps.map (·.2)) : Nat)), none, none], C⟩) rfl rfl rfl ?_ hend
  refine exs_nx (S1 := ⟨[some (tD t), some (.nl (ps.map rD2)), none, none, none, none], C⟩) ?_ (exs_nx (S1 := ⟨[some (tD t), some (.lst (ps.map rD2)), some (.int (mx1 (ps.map (·.1)) : Nat)), some (.int (mx1 (ps.map (·.2)) : Nat)), none, none], C⟩) ?_ ?_)
  rotate_right
  · clear hl0 g1 g2
    generalize PM.run F Lk02.P (n + 1) = cl at *
    generalize rD2 (stepM t ps) = q at *
    exact fin
  · clear g1 g2 fin wo
    generalize ME.lc _ _ _ _ _ _ = le at *
    generalize ps.map rD2 = A at *
    generalize tD t = TT at *
    simp [isOwn, tmp, view, frz, ex, aw, ev, evvs, evbs, evas, evo, evc, evT, vw, bw, slot, rd, setS, PM.R.bind, asgTg, asB, asI, ofO, setTg, setTgs, PM.R.bind_ok, hl0]
  · clear hl0 fin wo ih
    generalize PM.run F Lk02.P (n + 1) = cl at *
    generalize hle1 : (ME.lc [5] (.v 5) 0 [.var 1] [] (.idx (.var 5) (.k (.int 0)))) = le1 at *
    generalize hle2 : (ME.lc [5] (.v 5) 0 [.var 1] [] (.idx (.var 5) (.k (.int 1)))) = le2 at *
    generalize isD ((ps.map (·.1)).map fun x => ((x : Nat) : Int)) = LL1 at *
    generalize isD ((ps.map (·.2)).map fun x => ((x : Nat) : Int)) = LL2 at *
    generalize mx1 (ps.map (·.1)) = u at *
    generalize mx1 (ps.map (·.2)) = u2 at *
    generalize ps.map rD2 = A at *
    generalize tD t = TT at *
    simp [isOwn, tmp, view, frz, ex, aw, ev, evvs, evbs, evas, evo, evc, evT, vw, bw, slot, rd, setS, PM.R.bind, asgTg, asB, asI, ofO, setTg, setTgs, PM.R.bind_ok, g1, g2, binD, a1, p1, a2, p2, setMany]
end
end Mk
end

section
set_option Elab.async false
set_option linter.all false
open PySem PM
namespace Mk
inductive I2 where
  | i (x : Int) | b (x : Bool)
def iD : I2 → D
  | .i x => .int x
  | .b x => .bl x
def t2 (x : I2) : D := .tup [iD x, iD x]
theorem any_pre (v : Bool) (t : T) : (pre v t).any badM = (badM (t, v) || (kids t).any fun k => (pre (vin t v) k).any badM) := by
  rw [pre_kids, List.any_cons, ← pres_flat, List.any_flatMap, List.any_map]
  rfl
theorem len0 (A : List D) : cmpD .eq (.int ((A.length : Nat) : Int)) (.int 0) = some (decide (A = [])) := by
  rw [eq_ii]
  congr 1
  cases A with
  | nil => rfl
  | cons a A =>
    have : ¬ ((((a :: A).length : Nat) : Int) = 0) := by simp only [List.length_cons]; omega
    rw [decide_eq_false this, decide_eq_false (by simp)]
section
variable (F : Fields) (C : List D) (hb : belows C.length C = true)
include hb
theorem lcrowd (n : Nat) (t : T) (v : Bool) (hl : sz t < 50000) : evT F (PM.run F Lk02.P n) (.and (.var 1) (.and (.cmp .eq (.idx (.var 0) (.k (.int (0)))) (.k (.str "times"))) (.cmp .gt (.prim .len [.lc [3] (.v 3) 0 [.idx (.var 0) (.k (.int (1)))] [.cmp .notIn (.idx (.var 3) (.k (.int (0)))) (.list [.k (.str "number"), .k (.str "mark"), .k (.str "whole")])] (.var 3)]) (.k (.int (1)))))) ⟨[some (tD t), some (.bl v), none, none], C⟩ = .ok (badM (t, v), ⟨[some (tD t), some (.bl v), none, none], C⟩) := by
  cases v with
  | false =>
    have : badM (t, false) = false := rfl
    rw [this]
    generalize tD t = TT
    simp [isOwn, tmp, view, frz, ex, aw, ev, evvs, evbs, evas, evo, evc, evT, vw, bw, slot, rd, setS, PM.R.bind, asgTg, asB, asI, ofO, setTg, setTgs, PM.R.bind_ok]
  | true =>
    have gt : ∀ a b : Int, cmpD .gt (.int a) (.int b) = some (decide (b < a)) := fun _ _ => rfl
    cases t with
    | leaf m a => cases m <;> cases a <;> simp [isOwn, tmp, view, frz, ex, aw, ev, evvs, evbs, evas, evo, evc, evT, vw, bw, slot, rd, setS, PM.R.bind, asgTg, asB, asI, ofO, setTg, setTgs, PM.R.bind_ok, tD, aD, tup_idx0, badM, crowd, in_T1_number, il_T1_number, nl_T1_number, in_T1_mark, il_T1_mark, nl_T1_mark, in_T1_hear, il_T1_hear, nl_T1_hear, in_T1_whole, il_T1_whole, nl_T1_whole, in_T1_total, il_T1_total, nl_T1_total, in_T1_plus, il_T1_plus, nl_T1_plus, in_T1_times, il_T1_times, nl_T1_times, in_T2_number, il_T2_number, nl_T2_number, in_T2_mark, il_T2_mark, nl_T2_mark, in_T2_hear, il_T2_hear, nl_T2_hear, in_T2_whole, il_T2_whole, nl_T2_whole, in_T2_total, il_T2_total, nl_T2_total, in_T2_plus, il_T2_plus, nl_T2_plus, in_T2_times, il_T2_times, nl_T2_times, in_T3_number, il_T3_number, nl_T3_number, in_T3_mark, il_T3_mark, nl_T3_mark, in_T3_hear, il_T3_hear, nl_T3_hear, in_T3_whole, il_T3_whole, nl_T3_whole, in_T3_total, il_T3_total, nl_T3_total, in_T3_plus, il_T3_plus, nl_T3_plus, in_T3_times, il_T3_times, nl_T3_times, in_T4_number, il_T4_number, nl_T4_number, in_T4_mark, il_T4_mark, nl_T4_mark, in_T4_hear, il_T4_hear, nl_T4_hear, in_T4_whole, il_T4_whole, nl_T4_whole, in_T4_total, il_T4_total, nl_T4_total, in_T4_plus, il_T4_plus, nl_T4_plus, in_T4_times, il_T4_times, nl_T4_times, eq_number_hear, eq_number_total, eq_number_times, eq_number_whole, ne_number_whole, eq_mark_hear, eq_mark_total, eq_mark_times, eq_mark_whole, ne_mark_whole, eq_hear_hear, eq_hear_total, eq_hear_times, eq_hear_whole, ne_hear_whole, eq_whole_hear, eq_whole_total, eq_whole_times, eq_whole_whole, ne_whole_whole, eq_total_hear, eq_total_total, eq_total_times, eq_total_whole, ne_total_whole, eq_plus_hear, eq_plus_total, eq_plus_times, eq_plus_whole, ne_plus_whole, eq_times_hear, eq_times_total, eq_times_times, eq_times_whole, ne_times_whole]
    | hear l t => simp [isOwn, tmp, view, frz, ex, aw, ev, evvs, evbs, evas, evo, evc, evT, vw, bw, slot, rd, setS, PM.R.bind, asgTg, asB, asI, ofO, setTg, setTgs, PM.R.bind_ok, tD, tup_idx0, badM, crowd, in_T1_number, il_T1_number, nl_T1_number, in_T1_mark, il_T1_mark, nl_T1_mark, in_T1_hear, il_T1_hear, nl_T1_hear, in_T1_whole, il_T1_whole, nl_T1_whole, in_T1_total, il_T1_total, nl_T1_total, in_T1_plus, il_T1_plus, nl_T1_plus, in_T1_times, il_T1_times, nl_T1_times, in_T2_number, il_T2_number, nl_T2_number, in_T2_mark, il_T2_mark, nl_T2_mark, in_T2_hear, il_T2_hear, nl_T2_hear, in_T2_whole, il_T2_whole, nl_T2_whole, in_T2_total, il_T2_total, nl_T2_total, in_T2_plus, il_T2_plus, nl_T2_plus, in_T2_times, il_T2_times, nl_T2_times, in_T3_number, il_T3_number, nl_T3_number, in_T3_mark, il_T3_mark, nl_T3_mark, in_T3_hear, il_T3_hear, nl_T3_hear, in_T3_whole, il_T3_whole, nl_T3_whole, in_T3_total, il_T3_total, nl_T3_total, in_T3_plus, il_T3_plus, nl_T3_plus, in_T3_times, il_T3_times, nl_T3_times, in_T4_number, il_T4_number, nl_T4_number, in_T4_mark, il_T4_mark, nl_T4_mark, in_T4_hear, il_T4_hear, nl_T4_hear, in_T4_whole, il_T4_whole, nl_T4_whole, in_T4_total, il_T4_total, nl_T4_total, in_T4_plus, il_T4_plus, nl_T4_plus, in_T4_times, il_T4_times, nl_T4_times, eq_number_hear, eq_number_total, eq_number_times, eq_number_whole, ne_number_whole, eq_mark_hear, eq_mark_total, eq_mark_times, eq_mark_whole, ne_mark_whole, eq_hear_hear, eq_hear_total, eq_hear_times, eq_hear_whole, ne_hear_whole, eq_whole_hear, eq_whole_total, eq_whole_times, eq_whole_whole, ne_whole_whole, eq_total_hear, eq_total_total, eq_total_times, eq_total_whole, ne_total_whole, eq_plus_hear, eq_plus_total, eq_plus_times, eq_plus_whole, ne_plus_whole, eq_times_hear, eq_times_total, eq_times_times, eq_times_whole, ne_times_whole]
    | whole t => simp [isOwn, tmp, view, frz, ex, aw, ev, evvs, evbs, evas, evo, evc, evT, vw, bw, slot, rd, setS, PM.R.bind, asgTg, asB, asI, ofO, setTg, setTgs, PM.R.bind_ok, tD, tup_idx0, badM, crowd, in_T1_number, il_T1_number, nl_T1_number, in_T1_mark, il_T1_mark, nl_T1_mark, in_T1_hear, il_T1_hear, nl_T1_hear, in_T1_whole, il_T1_whole, nl_T1_whole, in_T1_total, il_T1_total, nl_T1_total, in_T1_plus, il_T1_plus, nl_T1_plus, in_T1_times, il_T1_times, nl_T1_times, in_T2_number, il_T2_number, nl_T2_number, in_T2_mark, il_T2_mark, nl_T2_mark, in_T2_hear, il_T2_hear, nl_T2_hear, in_T2_whole, il_T2_whole, nl_T2_whole, in_T2_total, il_T2_total, nl_T2_total, in_T2_plus, il_T2_plus, nl_T2_plus, in_T2_times, il_T2_times, nl_T2_times, in_T3_number, il_T3_number, nl_T3_number, in_T3_mark, il_T3_mark, nl_T3_mark, in_T3_hear, il_T3_hear, nl_T3_hear, in_T3_whole, il_T3_whole, nl_T3_whole, in_T3_total, il_T3_total, nl_T3_total, in_T3_plus, il_T3_plus, nl_T3_plus, in_T3_times, il_T3_times, nl_T3_times, in_T4_number, il_T4_number, nl_T4_number, in_T4_mark, il_T4_mark, nl_T4_mark, in_T4_hear, il_T4_hear, nl_T4_hear, in_T4_whole, il_T4_whole, nl_T4_whole, in_T4_total, il_T4_total, nl_T4_total, in_T4_plus, il_T4_plus, nl_T4_plus, in_T4_times, il_T4_times, nl_T4_times, eq_number_hear, eq_number_total, eq_number_times, eq_number_whole, ne_number_whole, eq_mark_hear, eq_mark_total, eq_mark_times, eq_mark_whole, ne_mark_whole, eq_hear_hear, eq_hear_total, eq_hear_times, eq_hear_whole, ne_hear_whole, eq_whole_hear, eq_whole_total, eq_whole_times, eq_whole_whole, ne_whole_whole, eq_total_hear, eq_total_total, eq_total_times, eq_total_whole, ne_total_whole, eq_plus_hear, eq_plus_total, eq_plus_times, eq_plus_whole, ne_plus_whole, eq_times_hear, eq_times_total, eq_times_times, eq_times_whole, ne_times_whole]
    | total t => simp [isOwn, tmp, view, frz, ex, aw, ev, evvs, evbs, evas, evo, evc, evT, vw, bw, slot, rd, setS, PM.R.bind, asgTg, asB, asI, ofO, setTg, setTgs, PM.R.bind_ok, tD, tup_idx0, badM, crowd, in_T1_number, il_T1_number, nl_T1_number, in_T1_mark, il_T1_mark, nl_T1_mark, in_T1_hear, il_T1_hear, nl_T1_hear, in_T1_whole, il_T1_whole, nl_T1_whole, in_T1_total, il_T1_total, nl_T1_total, in_T1_plus, il_T1_plus, nl_T1_plus, in_T1_times, il_T1_times, nl_T1_times, in_T2_number, il_T2_number, nl_T2_number, in_T2_mark, il_T2_mark, nl_T2_mark, in_T2_hear, il_T2_hear, nl_T2_hear, in_T2_whole, il_T2_whole, nl_T2_whole, in_T2_total, il_T2_total, nl_T2_total, in_T2_plus, il_T2_plus, nl_T2_plus, in_T2_times, il_T2_times, nl_T2_times, in_T3_number, il_T3_number, nl_T3_number, in_T3_mark, il_T3_mark, nl_T3_mark, in_T3_hear, il_T3_hear, nl_T3_hear, in_T3_whole, il_T3_whole, nl_T3_whole, in_T3_total, il_T3_total, nl_T3_total, in_T3_plus, il_T3_plus, nl_T3_plus, in_T3_times, il_T3_times, nl_T3_times, in_T4_number, il_T4_number, nl_T4_number, in_T4_mark, il_T4_mark, nl_T4_mark, in_T4_hear, il_T4_hear, nl_T4_hear, in_T4_whole, il_T4_whole, nl_T4_whole, in_T4_total, il_T4_total, nl_T4_total, in_T4_plus, il_T4_plus, nl_T4_plus, in_T4_times, il_T4_times, nl_T4_times, eq_number_hear, eq_number_total, eq_number_times, eq_number_whole, ne_number_whole, eq_mark_hear, eq_mark_total, eq_mark_times, eq_mark_whole, ne_mark_whole, eq_hear_hear, eq_hear_total, eq_hear_times, eq_hear_whole, ne_hear_whole, eq_whole_hear, eq_whole_total, eq_whole_times, eq_whole_whole, ne_whole_whole, eq_total_hear, eq_total_total, eq_total_times, eq_total_whole, ne_total_whole, eq_plus_hear, eq_plus_total, eq_plus_times, eq_plus_whole, ne_plus_whole, eq_times_hear, eq_times_total, eq_times_times, eq_times_whole, ne_times_whole]
    | plus ts => simp [isOwn, tmp, view, frz, ex, aw, ev, evvs, evbs, evas, evo, evc, evT, vw, bw, slot, rd, setS, PM.R.bind, asgTg, asB, asI, ofO, setTg, setTgs, PM.R.bind_ok, tD, tup_idx0, badM, crowd, in_T1_number, il_T1_number, nl_T1_number, in_T1_mark, il_T1_mark, nl_T1_mark, in_T1_hear, il_T1_hear, nl_T1_hear, in_T1_whole, il_T1_whole, nl_T1_whole, in_T1_total, il_T1_total, nl_T1_total, in_T1_plus, il_T1_plus, nl_T1_plus, in_T1_times, il_T1_times, nl_T1_times, in_T2_number, il_T2_number, nl_T2_number, in_T2_mark, il_T2_mark, nl_T2_mark, in_T2_hear, il_T2_hear, nl_T2_hear, in_T2_whole, il_T2_whole, nl_T2_whole, in_T2_total, il_T2_total, nl_T2_total, in_T2_plus, il_T2_plus, nl_T2_plus, in_T2_times, il_T2_times, nl_T2_times, in_T3_number, il_T3_number, nl_T3_number, in_T3_mark, il_T3_mark, nl_T3_mark, in_T3_hear, il_T3_hear, nl_T3_hear, in_T3_whole, il_T3_whole, nl_T3_whole, in_T3_total, il_T3_total, nl_T3_total, in_T3_plus, il_T3_plus, nl_T3_plus, in_T3_times, il_T3_times, nl_T3_times, in_T4_number, il_T4_number, nl_T4_number, in_T4_mark, il_T4_mark, nl_T4_mark, in_T4_hear, il_T4_hear, nl_T4_hear, in_T4_whole, il_T4_whole, nl_T4_whole, in_T4_total, il_T4_total, nl_T4_total, in_T4_plus, il_T4_plus, nl_T4_plus, in_T4_times, il_T4_times, nl_T4_times, eq_number_hear, eq_number_total, eq_number_times, eq_number_whole, ne_number_whole, eq_mark_hear, eq_mark_total, eq_mark_times, eq_mark_whole, ne_mark_whole, eq_hear_hear, eq_hear_total, eq_hear_times, eq_hear_whole, ne_hear_whole, eq_whole_hear, eq_whole_total, eq_whole_times, eq_whole_whole, ne_whole_whole, eq_total_hear, eq_total_total, eq_total_times, eq_total_whole, ne_total_whole, eq_plus_hear, eq_plus_total, eq_plus_times, eq_plus_whole, ne_plus_whole, eq_times_hear, eq_times_total, eq_times_times, eq_times_whole, ne_times_whole]
    | times ts =>
      have hk := len_szs ts
      simp only [sz] at hl
      have hlc := ev_lc (F := F) (call := PM.run F Lk02.P n) (S := ⟨[some (tD (.times ts)), some (.bl true), none, none], C⟩) (S1 := ⟨[some (tD (.times ts)), some (.bl true), none, none], C⟩) (own := [3]) (tg := .v 3) (k := 0) (its := [.idx (.var 0) (.k (.int 1))]) (cond := [.cmp .notIn (.idx (.var 3) (.k (.int 0))) (.list [.k (.str "number"), .k (.str "mark"), .k (.str "whole")])]) (elt := .var 3) (vals := [.tup (tDs ts)]) (ds := ts) (g := tD) (c := fun k => !plainF k) (f := tD) (Ld := fun k => [some (tD (.times ts)), some (.bl true), none, some (tD k)]) (by
        have i1 : idxD (tD (.times ts)) (.int 1) = some (.tup (tDs ts)) := tup_idx1 _ _ _
        obtain ⟨l, hl⟩ := tD_tup (.times ts)
        rw [hl] at i1 ⊢
        simp [isOwn, tmp, view, frz, ex, aw, ev, evvs, evbs, evas, evo, evc, evT, vw, bw, slot, rd, setS, PM.R.bind, asgTg, asB, asI, ofO, setTg, setTgs, PM.R.bind_ok, i1]) (by rw [tDs_map]; rfl) (by
        generalize tD (.times ts) = TT
        simp [isOwn, tmp, view, frz, ex, aw, ev, evvs, evbs, evas, evo, evc, evT, vw, bw, slot, rd, setS, PM.R.bind, asgTg, asB, asI, ofO, binD, add_ii, subD, cmpD, primD, itemsD, setTg, setTgs, wipeL, noOwn, idxD, sliceD, revD, PM.R.bind_ok]) (by rw [LIM_eq]; omega) (by
        intro k _
        have p := idx_word k
        have q := not_word k
        generalize tD (.times ts) = TT
        obtain ⟨l, hl⟩ := tD_tup k
        rw [hl] at p ⊢
        generalize (match k with | .leaf true _ => ("mark" : PySem.Str) | .leaf false _ => "number" | .hear _ _ => "hear" | .whole _ => "whole" | .total _ => "total" | .plus _ => "plus" | .times _ => "times") = wd at p q
        simp [isOwn, tmp, view, frz, ex, aw, ev, evvs, evbs, evas, evo, evc, evT, vw, bw, slot, rd, setS, PM.R.bind, asgTg, asB, asI, ofO, setTg, setTgs, PM.R.bind_ok, p, q, wipeL])
      have pl : primD .len [.lst ((ts.filter fun k => !plainF k).map tD)] = some (.int (((ts.filter fun k => !plainF k).length : Nat) : Int)) := by
        show some (D.int ((((ts.filter fun k => !plainF k).map tD).length : Nat) : Int)) = _
        rw [List.length_map]
      have e : badM (.times ts, true) = decide ((1 : Int) < (((ts.filter fun k => !plainF k).length : Nat) : Int)) := by
        show decide (1 < (ts.filter fun k => !plainF k).length) = _
        by_cases h : 1 < (ts.filter fun k => !plainF k).length
        · rw [decide_eq_true h, decide_eq_true (by omega)]
        · rw [decide_eq_false h, decide_eq_false (by omega)]
      rw [e]
      have i0 : idxD (tD (.times ts)) (.int 0) = some (.str "times") := tup_idx0 _ _
      obtain ⟨l, hl⟩ := tD_tup (.times ts)
      rw [hl] at hlc i0 ⊢
      generalize ME.lc _ _ _ _ _ _ = le at *
      generalize (((ts.filter fun k => !plainF k).length : Nat) : Int) = N at *
      generalize (ts.filter fun k => !plainF k).map tD = A at *
      simp [isOwn, tmp, view, frz, ex, aw, ev, evvs, evbs, evas, evo, evc, evT, vw, bw, slot, rd, setS, PM.R.bind, asgTg, asB, asI, ofO, setTg, setTgs, PM.R.bind_ok, i0, hlc, pl, gt, in_T1_number, il_T1_number, nl_T1_number, in_T1_mark, il_T1_mark, nl_T1_mark, in_T1_hear, il_T1_hear, nl_T1_hear, in_T1_whole, il_T1_whole, nl_T1_whole, in_T1_total, il_T1_total, nl_T1_total, in_T1_plus, il_T1_plus, nl_T1_plus, in_T1_times, il_T1_times, nl_T1_times, in_T2_number, il_T2_number, nl_T2_number, in_T2_mark, il_T2_mark, nl_T2_mark, in_T2_hear, il_T2_hear, nl_T2_hear, in_T2_whole, il_T2_whole, nl_T2_whole, in_T2_total, il_T2_total, nl_T2_total, in_T2_plus, il_T2_plus, nl_T2_plus, in_T2_times, il_T2_times, nl_T2_times, in_T3_number, il_T3_number, nl_T3_number, in_T3_mark, il_T3_mark, nl_T3_mark, in_T3_hear, il_T3_hear, nl_T3_hear, in_T3_whole, il_T3_whole, nl_T3_whole, in_T3_total, il_T3_total, nl_T3_total, in_T3_plus, il_T3_plus, nl_T3_plus, in_T3_times, il_T3_times, nl_T3_times, in_T4_number, il_T4_number, nl_T4_number, in_T4_mark, il_T4_mark, nl_T4_mark, in_T4_hear, il_T4_hear, nl_T4_hear, in_T4_whole, il_T4_whole, nl_T4_whole, in_T4_total, il_T4_total, nl_T4_total, in_T4_plus, il_T4_plus, nl_T4_plus, in_T4_times, il_T4_times, nl_T4_times, eq_number_hear, eq_number_total, eq_number_times, eq_number_whole, ne_number_whole, eq_mark_hear, eq_mark_total, eq_mark_times, eq_mark_whole, ne_mark_whole, eq_hear_hear, eq_hear_total, eq_hear_times, eq_hear_whole, ne_hear_whole, eq_whole_hear, eq_whole_total, eq_whole_times, eq_whole_whole, ne_whole_whole, eq_total_hear, eq_total_total, eq_total_times, eq_total_whole, ne_total_whole, eq_plus_hear, eq_plus_total, eq_plus_times, eq_plus_whole, ne_plus_whole, eq_times_hear, eq_times_total, eq_times_times, eq_times_whole, ne_times_whole]
theorem late_ok (n : Nat) (t : T) (v : Bool) : ev F (PM.run F Lk02.P n) (.or (.cmp .eq (.idx (.var 0) (.k (.int (0)))) (.k (.str "total"))) (.and (.var 1) (.cmp .ne (.idx (.var 0) (.k (.int (0)))) (.k (.str "whole"))))) ⟨[some (tD t), some (.bl v), none, none], C⟩ = .ok (.bl (vin t v), ⟨[some (tD t), some (.bl v), none, none], C⟩) := by
  cases v with
  | false =>
    cases t with
    | leaf m a => cases m <;> cases a <;> simp [isOwn, tmp, view, frz, ex, aw, ev, evvs, evbs, evas, evo, evc, evT, vw, bw, slot, rd, setS, PM.R.bind, asgTg, asB, asI, ofO, setTg, setTgs, PM.R.bind_ok, tD, aD, tup_idx0, vin, in_T1_number, il_T1_number, nl_T1_number, in_T1_mark, il_T1_mark, nl_T1_mark, in_T1_hear, il_T1_hear, nl_T1_hear, in_T1_whole, il_T1_whole, nl_T1_whole, in_T1_total, il_T1_total, nl_T1_total, in_T1_plus, il_T1_plus, nl_T1_plus, in_T1_times, il_T1_times, nl_T1_times, in_T2_number, il_T2_number, nl_T2_number, in_T2_mark, il_T2_mark, nl_T2_mark, in_T2_hear, il_T2_hear, nl_T2_hear, in_T2_whole, il_T2_whole, nl_T2_whole, in_T2_total, il_T2_total, nl_T2_total, in_T2_plus, il_T2_plus, nl_T2_plus, in_T2_times, il_T2_times, nl_T2_times, in_T3_number, il_T3_number, nl_T3_number, in_T3_mark, il_T3_mark, nl_T3_mark, in_T3_hear, il_T3_hear, nl_T3_hear, in_T3_whole, il_T3_whole, nl_T3_whole, in_T3_total, il_T3_total, nl_T3_total, in_T3_plus, il_T3_plus, nl_T3_plus, in_T3_times, il_T3_times, nl_T3_times, in_T4_number, il_T4_number, nl_T4_number, in_T4_mark, il_T4_mark, nl_T4_mark, in_T4_hear, il_T4_hear, nl_T4_hear, in_T4_whole, il_T4_whole, nl_T4_whole, in_T4_total, il_T4_total, nl_T4_total, in_T4_plus, il_T4_plus, nl_T4_plus, in_T4_times, il_T4_times, nl_T4_times, eq_number_hear, eq_number_total, eq_number_times, eq_number_whole, ne_number_whole, eq_mark_hear, eq_mark_total, eq_mark_times, eq_mark_whole, ne_mark_whole, eq_hear_hear, eq_hear_total, eq_hear_times, eq_hear_whole, ne_hear_whole, eq_whole_hear, eq_whole_total, eq_whole_times, eq_whole_whole, ne_whole_whole, eq_total_hear, eq_total_total, eq_total_times, eq_total_whole, ne_total_whole, eq_plus_hear, eq_plus_total, eq_plus_times, eq_plus_whole, ne_plus_whole, eq_times_hear, eq_times_total, eq_times_times, eq_times_whole, ne_times_whole]
    | hear l t => simp [isOwn, tmp, view, frz, ex, aw, ev, evvs, evbs, evas, evo, evc, evT, vw, bw, slot, rd, setS, PM.R.bind, asgTg, asB, asI, ofO, setTg, setTgs, PM.R.bind_ok, tD, tup_idx0, vin, in_T1_number, il_T1_number, nl_T1_number, in_T1_mark, il_T1_mark, nl_T1_mark, in_T1_hear, il_T1_hear, nl_T1_hear, in_T1_whole, il_T1_whole, nl_T1_whole, in_T1_total, il_T1_total, nl_T1_total, in_T1_plus, il_T1_plus, nl_T1_plus, in_T1_times, il_T1_times, nl_T1_times, in_T2_number, il_T2_number, nl_T2_number, in_T2_mark, il_T2_mark, nl_T2_mark, in_T2_hear, il_T2_hear, nl_T2_hear, in_T2_whole, il_T2_whole, nl_T2_whole, in_T2_total, il_T2_total, nl_T2_total, in_T2_plus, il_T2_plus, nl_T2_plus, in_T2_times, il_T2_times, nl_T2_times, in_T3_number, il_T3_number, nl_T3_number, in_T3_mark, il_T3_mark, nl_T3_mark, in_T3_hear, il_T3_hear, nl_T3_hear, in_T3_whole, il_T3_whole, nl_T3_whole, in_T3_total, il_T3_total, nl_T3_total, in_T3_plus, il_T3_plus, nl_T3_plus, in_T3_times, il_T3_times, nl_T3_times, in_T4_number, il_T4_number, nl_T4_number, in_T4_mark, il_T4_mark, nl_T4_mark, in_T4_hear, il_T4_hear, nl_T4_hear, in_T4_whole, il_T4_whole, nl_T4_whole, in_T4_total, il_T4_total, nl_T4_total, in_T4_plus, il_T4_plus, nl_T4_plus, in_T4_times, il_T4_times, nl_T4_times, eq_number_hear, eq_number_total, eq_number_times, eq_number_whole, ne_number_whole, eq_mark_hear, eq_mark_total, eq_mark_times, eq_mark_whole, ne_mark_whole, eq_hear_hear, eq_hear_total, eq_hear_times, eq_hear_whole, ne_hear_whole, eq_whole_hear, eq_whole_total, eq_whole_times, eq_whole_whole, ne_whole_whole, eq_total_hear, eq_total_total, eq_total_times, eq_total_whole, ne_total_whole, eq_plus_hear, eq_plus_total, eq_plus_times, eq_plus_whole, ne_plus_whole, eq_times_hear, eq_times_total, eq_times_times, eq_times_whole, ne_times_whole]
    | whole t => simp [isOwn, tmp, view, frz, ex, aw, ev, evvs, evbs, evas, evo, evc, evT, vw, bw, slot, rd, setS, PM.R.bind, asgTg, asB, asI, ofO, setTg, setTgs, PM.R.bind_ok, tD, tup_idx0, vin, in_T1_number, il_T1_number, nl_T1_number, in_T1_mark, il_T1_mark, nl_T1_mark, in_T1_hear, il_T1_hear, nl_T1_hear, in_T1_whole, il_T1_whole, nl_T1_whole, in_T1_total, il_T1_total, nl_T1_total, in_T1_plus, il_T1_plus, nl_T1_plus, in_T1_times, il_T1_times, nl_T1_times, in_T2_number, il_T2_number, nl_T2_number, in_T2_mark, il_T2_mark, nl_T2_mark, in_T2_hear, il_T2_hear, nl_T2_hear, in_T2_whole, il_T2_whole, nl_T2_whole, in_T2_total, il_T2_total, nl_T2_total, in_T2_plus, il_T2_plus, nl_T2_plus, in_T2_times, il_T2_times, nl_T2_times, in_T3_number, il_T3_number, nl_T3_number, in_T3_mark, il_T3_mark, nl_T3_mark, in_T3_hear, il_T3_hear, nl_T3_hear, in_T3_whole, il_T3_whole, nl_T3_whole, in_T3_total, il_T3_total, nl_T3_total, in_T3_plus, il_T3_plus, nl_T3_plus, in_T3_times, il_T3_times, nl_T3_times, in_T4_number, il_T4_number, nl_T4_number, in_T4_mark, il_T4_mark, nl_T4_mark, in_T4_hear, il_T4_hear, nl_T4_hear, in_T4_whole, il_T4_whole, nl_T4_whole, in_T4_total, il_T4_total, nl_T4_total, in_T4_plus, il_T4_plus, nl_T4_plus, in_T4_times, il_T4_times, nl_T4_times, eq_number_hear, eq_number_total, eq_number_times, eq_number_whole, ne_number_whole, eq_mark_hear, eq_mark_total, eq_mark_times, eq_mark_whole, ne_mark_whole, eq_hear_hear, eq_hear_total, eq_hear_times, eq_hear_whole, ne_hear_whole, eq_whole_hear, eq_whole_total, eq_whole_times, eq_whole_whole, ne_whole_whole, eq_total_hear, eq_total_total, eq_total_times, eq_total_whole, ne_total_whole, eq_plus_hear, eq_plus_total, eq_plus_times, eq_plus_whole, ne_plus_whole, eq_times_hear, eq_times_total, eq_times_times, eq_times_whole, ne_times_whole]
    | total t => simp [isOwn, tmp, view, frz, ex, aw, ev, evvs, evbs, evas, evo, evc, evT, vw, bw, slot, rd, setS, PM.R.bind, asgTg, asB, asI, ofO, setTg, setTgs, PM.R.bind_ok, tD, tup_idx0, vin, in_T1_number, il_T1_number, nl_T1_number, in_T1_mark, il_T1_mark, nl_T1_mark, in_T1_hear, il_T1_hear, nl_T1_hear, in_T1_whole, il_T1_whole, nl_T1_whole, in_T1_total, il_T1_total, nl_T1_total, in_T1_plus, il_T1_plus, nl_T1_plus, in_T1_times, il_T1_times, nl_T1_times, in_T2_number, il_T2_number, nl_T2_number, in_T2_mark, il_T2_mark, nl_T2_mark, in_T2_hear, il_T2_hear, nl_T2_hear, in_T2_whole, il_T2_whole, nl_T2_whole, in_T2_total, il_T2_total, nl_T2_total, in_T2_plus, il_T2_plus, nl_T2_plus, in_T2_times, il_T2_times, nl_T2_times, in_T3_number, il_T3_number, nl_T3_number, in_T3_mark, il_T3_mark, nl_T3_mark, in_T3_hear, il_T3_hear, nl_T3_hear, in_T3_whole, il_T3_whole, nl_T3_whole, in_T3_total, il_T3_total, nl_T3_total, in_T3_plus, il_T3_plus, nl_T3_plus, in_T3_times, il_T3_times, nl_T3_times, in_T4_number, il_T4_number, nl_T4_number, in_T4_mark, il_T4_mark, nl_T4_mark, in_T4_hear, il_T4_hear, nl_T4_hear, in_T4_whole, il_T4_whole, nl_T4_whole, in_T4_total, il_T4_total, nl_T4_total, in_T4_plus, il_T4_plus, nl_T4_plus, in_T4_times, il_T4_times, nl_T4_times, eq_number_hear, eq_number_total, eq_number_times, eq_number_whole, ne_number_whole, eq_mark_hear, eq_mark_total, eq_mark_times, eq_mark_whole, ne_mark_whole, eq_hear_hear, eq_hear_total, eq_hear_times, eq_hear_whole, ne_hear_whole, eq_whole_hear, eq_whole_total, eq_whole_times, eq_whole_whole, ne_whole_whole, eq_total_hear, eq_total_total, eq_total_times, eq_total_whole, ne_total_whole, eq_plus_hear, eq_plus_total, eq_plus_times, eq_plus_whole, ne_plus_whole, eq_times_hear, eq_times_total, eq_times_times, eq_times_whole, ne_times_whole]
    | plus ts => simp [isOwn, tmp, view, frz, ex, aw, ev, evvs, evbs, evas, evo, evc, evT, vw, bw, slot, rd, setS, PM.R.bind, asgTg, asB, asI, ofO, setTg, setTgs, PM.R.bind_ok, tD, tup_idx0, vin, in_T1_number, il_T1_number, nl_T1_number, in_T1_mark, il_T1_mark, nl_T1_mark, in_T1_hear, il_T1_hear, nl_T1_hear, in_T1_whole, il_T1_whole, nl_T1_whole, in_T1_total, il_T1_total, nl_T1_total, in_T1_plus, il_T1_plus, nl_T1_plus, in_T1_times, il_T1_times, nl_T1_times, in_T2_number, il_T2_number, nl_T2_number, in_T2_mark, il_T2_mark, nl_T2_mark, in_T2_hear, il_T2_hear, nl_T2_hear, in_T2_whole, il_T2_whole, nl_T2_whole, in_T2_total, il_T2_total, nl_T2_total, in_T2_plus, il_T2_plus, nl_T2_plus, in_T2_times, il_T2_times, nl_T2_times, in_T3_number, il_T3_number, nl_T3_number, in_T3_mark, il_T3_mark, nl_T3_mark, in_T3_hear, il_T3_hear, nl_T3_hear, in_T3_whole, il_T3_whole, nl_T3_whole, in_T3_total, il_T3_total, nl_T3_total, in_T3_plus, il_T3_plus, nl_T3_plus, in_T3_times, il_T3_times, nl_T3_times, in_T4_number, il_T4_number, nl_T4_number, in_T4_mark, il_T4_mark, nl_T4_mark, in_T4_hear, il_T4_hear, nl_T4_hear, in_T4_whole, il_T4_whole, nl_T4_whole, in_T4_total, il_T4_total, nl_T4_total, in_T4_plus, il_T4_plus, nl_T4_plus, in_T4_times, il_T4_times, nl_T4_times, eq_number_hear, eq_number_total, eq_number_times, eq_number_whole, ne_number_whole, eq_mark_hear, eq_mark_total, eq_mark_times, eq_mark_whole, ne_mark_whole, eq_hear_hear, eq_hear_total, eq_hear_times, eq_hear_whole, ne_hear_whole, eq_whole_hear, eq_whole_total, eq_whole_times, eq_whole_whole, ne_whole_whole, eq_total_hear, eq_total_total, eq_total_times, eq_total_whole, ne_total_whole, eq_plus_hear, eq_plus_total, eq_plus_times, eq_plus_whole, ne_plus_whole, eq_times_hear, eq_times_total, eq_times_times, eq_times_whole, ne_times_whole]
    | times ts => simp [isOwn, tmp, view, frz, ex, aw, ev, evvs, evbs, evas, evo, evc, evT, vw, bw, slot, rd, setS, PM.R.bind, asgTg, asB, asI, ofO, setTg, setTgs, PM.R.bind_ok, tD, tup_idx0, vin, in_T1_number, il_T1_number, nl_T1_number, in_T1_mark, il_T1_mark, nl_T1_mark, in_T1_hear, il_T1_hear, nl_T1_hear, in_T1_whole, il_T1_whole, nl_T1_whole, in_T1_total, il_T1_total, nl_T1_total, in_T1_plus, il_T1_plus, nl_T1_plus, in_T1_times, il_T1_times, nl_T1_times, in_T2_number, il_T2_number, nl_T2_number, in_T2_mark, il_T2_mark, nl_T2_mark, in_T2_hear, il_T2_hear, nl_T2_hear, in_T2_whole, il_T2_whole, nl_T2_whole, in_T2_total, il_T2_total, nl_T2_total, in_T2_plus, il_T2_plus, nl_T2_plus, in_T2_times, il_T2_times, nl_T2_times, in_T3_number, il_T3_number, nl_T3_number, in_T3_mark, il_T3_mark, nl_T3_mark, in_T3_hear, il_T3_hear, nl_T3_hear, in_T3_whole, il_T3_whole, nl_T3_whole, in_T3_total, il_T3_total, nl_T3_total, in_T3_plus, il_T3_plus, nl_T3_plus, in_T3_times, il_T3_times, nl_T3_times, in_T4_number, il_T4_number, nl_T4_number, in_T4_mark, il_T4_mark, nl_T4_mark, in_T4_hear, il_T4_hear, nl_T4_hear, in_T4_whole, il_T4_whole, nl_T4_whole, in_T4_total, il_T4_total, nl_T4_total, in_T4_plus, il_T4_plus, nl_T4_plus, in_T4_times, il_T4_times, nl_T4_times, eq_number_hear, eq_number_total, eq_number_times, eq_number_whole, ne_number_whole, eq_mark_hear, eq_mark_total, eq_mark_times, eq_mark_whole, ne_mark_whole, eq_hear_hear, eq_hear_total, eq_hear_times, eq_hear_whole, ne_hear_whole, eq_whole_hear, eq_whole_total, eq_whole_times, eq_whole_whole, ne_whole_whole, eq_total_hear, eq_total_total, eq_total_times, eq_total_whole, ne_total_whole, eq_plus_hear, eq_plus_total, eq_plus_times, eq_plus_whole, ne_plus_whole, eq_times_hear, eq_times_total, eq_times_times, eq_times_whole, ne_times_whole]
  | true =>
    cases t with
    | leaf m a => cases m <;> cases a <;> simp [isOwn, tmp, view, frz, ex, aw, ev, evvs, evbs, evas, evo, evc, evT, vw, bw, slot, rd, setS, PM.R.bind, asgTg, asB, asI, ofO, setTg, setTgs, PM.R.bind_ok, tD, aD, tup_idx0, vin, in_T1_number, il_T1_number, nl_T1_number, in_T1_mark, il_T1_mark, nl_T1_mark, in_T1_hear, il_T1_hear, nl_T1_hear, in_T1_whole, il_T1_whole, nl_T1_whole, in_T1_total, il_T1_total, nl_T1_total, in_T1_plus, il_T1_plus, nl_T1_plus, in_T1_times, il_T1_times, nl_T1_times, in_T2_number, il_T2_number, nl_T2_number, in_T2_mark, il_T2_mark, nl_T2_mark, in_T2_hear, il_T2_hear, nl_T2_hear, in_T2_whole, il_T2_whole, nl_T2_whole, in_T2_total, il_T2_total, nl_T2_total, in_T2_plus, il_T2_plus, nl_T2_plus, in_T2_times, il_T2_times, nl_T2_times, in_T3_number, il_T3_number, nl_T3_number, in_T3_mark, il_T3_mark, nl_T3_mark, in_T3_hear, il_T3_hear, nl_T3_hear, in_T3_whole, il_T3_whole, nl_T3_whole, in_T3_total, il_T3_total, nl_T3_total, in_T3_plus, il_T3_plus, nl_T3_plus, in_T3_times, il_T3_times, nl_T3_times, in_T4_number, il_T4_number, nl_T4_number, in_T4_mark, il_T4_mark, nl_T4_mark, in_T4_hear, il_T4_hear, nl_T4_hear, in_T4_whole, il_T4_whole, nl_T4_whole, in_T4_total, il_T4_total, nl_T4_total, in_T4_plus, il_T4_plus, nl_T4_plus, in_T4_times, il_T4_times, nl_T4_times, eq_number_hear, eq_number_total, eq_number_times, eq_number_whole, ne_number_whole, eq_mark_hear, eq_mark_total, eq_mark_times, eq_mark_whole, ne_mark_whole, eq_hear_hear, eq_hear_total, eq_hear_times, eq_hear_whole, ne_hear_whole, eq_whole_hear, eq_whole_total, eq_whole_times, eq_whole_whole, ne_whole_whole, eq_total_hear, eq_total_total, eq_total_times, eq_total_whole, ne_total_whole, eq_plus_hear, eq_plus_total, eq_plus_times, eq_plus_whole, ne_plus_whole, eq_times_hear, eq_times_total, eq_times_times, eq_times_whole, ne_times_whole]
    | hear l t => simp [isOwn, tmp, view, frz, ex, aw, ev, evvs, evbs, evas, evo, evc, evT, vw, bw, slot, rd, setS, PM.R.bind, asgTg, asB, asI, ofO, setTg, setTgs, PM.R.bind_ok, tD, tup_idx0, vin, in_T1_number, il_T1_number, nl_T1_number, in_T1_mark, il_T1_mark, nl_T1_mark, in_T1_hear, il_T1_hear, nl_T1_hear, in_T1_whole, il_T1_whole, nl_T1_whole, in_T1_total, il_T1_total, nl_T1_total, in_T1_plus, il_T1_plus, nl_T1_plus, in_T1_times, il_T1_times, nl_T1_times, in_T2_number, il_T2_number, nl_T2_number, in_T2_mark, il_T2_mark, nl_T2_mark, in_T2_hear, il_T2_hear, nl_T2_hear, in_T2_whole, il_T2_whole, nl_T2_whole, in_T2_total, il_T2_total, nl_T2_total, in_T2_plus, il_T2_plus, nl_T2_plus, in_T2_times, il_T2_times, nl_T2_times, in_T3_number, il_T3_number, nl_T3_number, in_T3_mark, il_T3_mark, nl_T3_mark, in_T3_hear, il_T3_hear, nl_T3_hear, in_T3_whole, il_T3_whole, nl_T3_whole, in_T3_total, il_T3_total, nl_T3_total, in_T3_plus, il_T3_plus, nl_T3_plus, in_T3_times, il_T3_times, nl_T3_times, in_T4_number, il_T4_number, nl_T4_number, in_T4_mark, il_T4_mark, nl_T4_mark, in_T4_hear, il_T4_hear, nl_T4_hear, in_T4_whole, il_T4_whole, nl_T4_whole, in_T4_total, il_T4_total, nl_T4_total, in_T4_plus, il_T4_plus, nl_T4_plus, in_T4_times, il_T4_times, nl_T4_times, eq_number_hear, eq_number_total, eq_number_times, eq_number_whole, ne_number_whole, eq_mark_hear, eq_mark_total, eq_mark_times, eq_mark_whole, ne_mark_whole, eq_hear_hear, eq_hear_total, eq_hear_times, eq_hear_whole, ne_hear_whole, eq_whole_hear, eq_whole_total, eq_whole_times, eq_whole_whole, ne_whole_whole, eq_total_hear, eq_total_total, eq_total_times, eq_total_whole, ne_total_whole, eq_plus_hear, eq_plus_total, eq_plus_times, eq_plus_whole, ne_plus_whole, eq_times_hear, eq_times_total, eq_times_times, eq_times_whole, ne_times_whole]
    | whole t => simp [isOwn, tmp, view, frz, ex, aw, ev, evvs, evbs, evas, evo, evc, evT, vw, bw, slot, rd, setS, PM.R.bind, asgTg, asB, asI, ofO, setTg, setTgs, PM.R.bind_ok, tD, tup_idx0, vin, in_T1_number, il_T1_number, nl_T1_number, in_T1_mark, il_T1_mark, nl_T1_mark, in_T1_hear, il_T1_hear, nl_T1_hear, in_T1_whole, il_T1_whole, nl_T1_whole, in_T1_total, il_T1_total, nl_T1_total, in_T1_plus, il_T1_plus, nl_T1_plus, in_T1_times, il_T1_times, nl_T1_times, in_T2_number, il_T2_number, nl_T2_number, in_T2_mark, il_T2_mark, nl_T2_mark, in_T2_hear, il_T2_hear, nl_T2_hear, in_T2_whole, il_T2_whole, nl_T2_whole, in_T2_total, il_T2_total, nl_T2_total, in_T2_plus, il_T2_plus, nl_T2_plus, in_T2_times, il_T2_times, nl_T2_times, in_T3_number, il_T3_number, nl_T3_number, in_T3_mark, il_T3_mark, nl_T3_mark, in_T3_hear, il_T3_hear, nl_T3_hear, in_T3_whole, il_T3_whole, nl_T3_whole, in_T3_total, il_T3_total, nl_T3_total, in_T3_plus, il_T3_plus, nl_T3_plus, in_T3_times, il_T3_times, nl_T3_times, in_T4_number, il_T4_number, nl_T4_number, in_T4_mark, il_T4_mark, nl_T4_mark, in_T4_hear, il_T4_hear, nl_T4_hear, in_T4_whole, il_T4_whole, nl_T4_whole, in_T4_total, il_T4_total, nl_T4_total, in_T4_plus, il_T4_plus, nl_T4_plus, in_T4_times, il_T4_times, nl_T4_times, eq_number_hear, eq_number_total, eq_number_times, eq_number_whole, ne_number_whole, eq_mark_hear, eq_mark_total, eq_mark_times, eq_mark_whole, ne_mark_whole, eq_hear_hear, eq_hear_total, eq_hear_times, eq_hear_whole, ne_hear_whole, eq_whole_hear, eq_whole_total, eq_whole_times, eq_whole_whole, ne_whole_whole, eq_total_hear, eq_total_total, eq_total_times, eq_total_whole, ne_total_whole, eq_plus_hear, eq_plus_total, eq_plus_times, eq_plus_whole, ne_plus_whole, eq_times_hear, eq_times_total, eq_times_times, eq_times_whole, ne_times_whole]
    | total t => simp [isOwn, tmp, view, frz, ex, aw, ev, evvs, evbs, evas, evo, evc, evT, vw, bw, slot, rd, setS, PM.R.bind, asgTg, asB, asI, ofO, setTg, setTgs, PM.R.bind_ok, tD, tup_idx0, vin, in_T1_number, il_T1_number, nl_T1_number, in_T1_mark, il_T1_mark, nl_T1_mark, in_T1_hear, il_T1_hear, nl_T1_hear, in_T1_whole, il_T1_whole, nl_T1_whole, in_T1_total, il_T1_total, nl_T1_total, in_T1_plus, il_T1_plus, nl_T1_plus, in_T1_times, il_T1_times, nl_T1_times, in_T2_number, il_T2_number, nl_T2_number, in_T2_mark, il_T2_mark, nl_T2_mark, in_T2_hear, il_T2_hear, nl_T2_hear, in_T2_whole, il_T2_whole, nl_T2_whole, in_T2_total, il_T2_total, nl_T2_total, in_T2_plus, il_T2_plus, nl_T2_plus, in_T2_times, il_T2_times, nl_T2_times, in_T3_number, il_T3_number, nl_T3_number, in_T3_mark, il_T3_mark, nl_T3_mark, in_T3_hear, il_T3_hear, nl_T3_hear, in_T3_whole, il_T3_whole, nl_T3_whole, in_T3_total, il_T3_total, nl_T3_total, in_T3_plus, il_T3_plus, nl_T3_plus, in_T3_times, il_T3_times, nl_T3_times, in_T4_number, il_T4_number, nl_T4_number, in_T4_mark, il_T4_mark, nl_T4_mark, in_T4_hear, il_T4_hear, nl_T4_hear, in_T4_whole, il_T4_whole, nl_T4_whole, in_T4_total, il_T4_total, nl_T4_total, in_T4_plus, il_T4_plus, nl_T4_plus, in_T4_times, il_T4_times, nl_T4_times, eq_number_hear, eq_number_total, eq_number_times, eq_number_whole, ne_number_whole, eq_mark_hear, eq_mark_total, eq_mark_times, eq_mark_whole, ne_mark_whole, eq_hear_hear, eq_hear_total, eq_hear_times, eq_hear_whole, ne_hear_whole, eq_whole_hear, eq_whole_total, eq_whole_times, eq_whole_whole, ne_whole_whole, eq_total_hear, eq_total_total, eq_total_times, eq_total_whole, ne_total_whole, eq_plus_hear, eq_plus_total, eq_plus_times, eq_plus_whole, ne_plus_whole, eq_times_hear, eq_times_total, eq_times_times, eq_times_whole, ne_times_whole]
    | plus ts => simp [isOwn, tmp, view, frz, ex, aw, ev, evvs, evbs, evas, evo, evc, evT, vw, bw, slot, rd, setS, PM.R.bind, asgTg, asB, asI, ofO, setTg, setTgs, PM.R.bind_ok, tD, tup_idx0, vin, in_T1_number, il_T1_number, nl_T1_number, in_T1_mark, il_T1_mark, nl_T1_mark, in_T1_hear, il_T1_hear, nl_T1_hear, in_T1_whole, il_T1_whole, nl_T1_whole, in_T1_total, il_T1_total, nl_T1_total, in_T1_plus, il_T1_plus, nl_T1_plus, in_T1_times, il_T1_times, nl_T1_times, in_T2_number, il_T2_number, nl_T2_number, in_T2_mark, il_T2_mark, nl_T2_mark, in_T2_hear, il_T2_hear, nl_T2_hear, in_T2_whole, il_T2_whole, nl_T2_whole, in_T2_total, il_T2_total, nl_T2_total, in_T2_plus, il_T2_plus, nl_T2_plus, in_T2_times, il_T2_times, nl_T2_times, in_T3_number, il_T3_number, nl_T3_number, in_T3_mark, il_T3_mark, nl_T3_mark, in_T3_hear, il_T3_hear, nl_T3_hear, in_T3_whole, il_T3_whole, nl_T3_whole, in_T3_total, il_T3_total, nl_T3_total, in_T3_plus, il_T3_plus, nl_T3_plus, in_T3_times, il_T3_times, nl_T3_times, in_T4_number, il_T4_number, nl_T4_number, in_T4_mark, il_T4_mark, nl_T4_mark, in_T4_hear, il_T4_hear, nl_T4_hear, in_T4_whole, il_T4_whole, nl_T4_whole, in_T4_total, il_T4_total, nl_T4_total, in_T4_plus, il_T4_plus, nl_T4_plus, in_T4_times, il_T4_times, nl_T4_times, eq_number_hear, eq_number_total, eq_number_times, eq_number_whole, ne_number_whole, eq_mark_hear, eq_mark_total, eq_mark_times, eq_mark_whole, ne_mark_whole, eq_hear_hear, eq_hear_total, eq_hear_times, eq_hear_whole, ne_hear_whole, eq_whole_hear, eq_whole_total, eq_whole_times, eq_whole_whole, ne_whole_whole, eq_total_hear, eq_total_total, eq_total_times, eq_total_whole, ne_total_whole, eq_plus_hear, eq_plus_total, eq_plus_times, eq_plus_whole, ne_plus_whole, eq_times_hear, eq_times_total, eq_times_times, eq_times_whole, ne_times_whole]
    | times ts => simp [isOwn, tmp, view, frz, ex, aw, ev, evvs, evbs, evas, evo, evc, evT, vw, bw, slot, rd, setS, PM.R.bind, asgTg, asB, asI, ofO, setTg, setTgs, PM.R.bind_ok, tD, tup_idx0, vin, in_T1_number, il_T1_number, nl_T1_number, in_T1_mark, il_T1_mark, nl_T1_mark, in_T1_hear, il_T1_hear, nl_T1_hear, in_T1_whole, il_T1_whole, nl_T1_whole, in_T1_total, il_T1_total, nl_T1_total, in_T1_plus, il_T1_plus, nl_T1_plus, in_T1_times, il_T1_times, nl_T1_times, in_T2_number, il_T2_number, nl_T2_number, in_T2_mark, il_T2_mark, nl_T2_mark, in_T2_hear, il_T2_hear, nl_T2_hear, in_T2_whole, il_T2_whole, nl_T2_whole, in_T2_total, il_T2_total, nl_T2_total, in_T2_plus, il_T2_plus, nl_T2_plus, in_T2_times, il_T2_times, nl_T2_times, in_T3_number, il_T3_number, nl_T3_number, in_T3_mark, il_T3_mark, nl_T3_mark, in_T3_hear, il_T3_hear, nl_T3_hear, in_T3_whole, il_T3_whole, nl_T3_whole, in_T3_total, il_T3_total, nl_T3_total, in_T3_plus, il_T3_plus, nl_T3_plus, in_T3_times, il_T3_times, nl_T3_times, in_T4_number, il_T4_number, nl_T4_number, in_T4_mark, il_T4_mark, nl_T4_mark, in_T4_hear, il_T4_hear, nl_T4_hear, in_T4_whole, il_T4_whole, nl_T4_whole, in_T4_total, il_T4_total, nl_T4_total, in_T4_plus, il_T4_plus, nl_T4_plus, in_T4_times, il_T4_times, nl_T4_times, eq_number_hear, eq_number_total, eq_number_times, eq_number_whole, ne_number_whole, eq_mark_hear, eq_mark_total, eq_mark_times, eq_mark_whole, ne_mark_whole, eq_hear_hear, eq_hear_total, eq_hear_times, eq_hear_whole, ne_hear_whole, eq_whole_hear, eq_whole_total, eq_whole_times, eq_whole_whole, ne_whole_whole, eq_total_hear, eq_total_total, eq_total_times, eq_total_whole, ne_total_whole, eq_plus_hear, eq_plus_total, eq_plus_times, eq_plus_whole, ne_plus_whole, eq_times_hear, eq_times_total, eq_times_times, eq_times_whole, ne_times_whole]
theorem lwalk_ok : ∀ t : T, sz t < 40000 → ∀ n : Nat, hgt t ≤ n → ∀ v : Bool, PM.run F Lk02.P (n + 2) 30 [tD t, .bl v] C = .ok (.bl (!(pre v t).any badM), C) := up fun t ih hsz n hn v => by
  have hkl := len_szs (kids t)
  have hs := sz_kids t
  have ct := lcrowd F C hb (n + 1) t v (by omega)
  rw [any_pre]
  cases hbm : badM (t, v) with
  | true =>
    rw [hbm] at ct
    refine run_ret [some (tD t), some (.bl v), none, none] (fn := Lk02.f30) (d := .bl false) (S := ⟨[some (tD t), some (.bl v), none, none], C⟩) rfl rfl rfl (exs_ret ?_) (end_ok rfl rfl hb)
    unfold ex
    rw [ct]
    rfl
  | false =>
    rw [hbm] at ct
    rw [Bool.false_or]
    have wo := lwithin_ok F n C hb t
    have lo := late_ok F C hb (n + 1) t v
    generalize hlv : vin t v = lv at lo
    have hlc := ev_lc (F := F) (call := PM.run F Lk02.P (n + 1)) (S := ⟨[some (tD t), some (.bl v), some (.bl lv), none], C⟩) (S1 := ⟨[some (tD t), some (.bl v), some (.bl lv), none], C⟩) (own := [3]) (tg := .v 3) (k := 0) (its := [.call 26 [.var 0]]) (cond := [.not (.call 30 [.var 3, .var 2])]) (elt := .var 3) (vals := [.lst ((kids t).map tD)]) (ds := kids t) (g := tD) (c := fun k => (pre lv k).any badM) (f := tD) (Ld := fun k => [some (tD t), some (.bl v), some (.bl lv), some (tD k)]) (by
      obtain ⟨q, hq⟩ := tD_tup t
      rw [hq] at wo ⊢
      generalize (kids t).map tD = A at *
      simp [isOwn, tmp, view, frz, ex, aw, ev, evvs, evbs, evas, evo, evc, evT, vw, bw, slot, rd, setS, PM.R.bind, asgTg, asB, asI, ofO, setTg, setTgs, PM.R.bind_ok, wo]) rfl (by
      generalize tD t = TT
      simp [isOwn, tmp, view, frz, ex, aw, ev, evvs, evbs, evas, evo, evc, evT, vw, bw, slot, rd, setS, PM.R.bind, asgTg, asB, asI, ofO, binD, add_ii, subD, cmpD, primD, itemsD, setTg, setTgs, wipeL, noOwn, idxD, sliceD, revD, PM.R.bind_ok]) (by rw [LIM_eq]; omega) (by
      intro k hk
      have hh := hgt_kid hk
      obtain ⟨n', rfl⟩ : ∃ n', n = n' + 1 := ⟨n - 1, by omega⟩
      have r := ih k hk (by have := sz_kid hk; omega) n' (by omega) lv
      obtain ⟨q, hq⟩ := tD_tup k
      rw [hq] at r ⊢
      generalize tD t = TT
      generalize (pre lv k).any badM = bb at *
      simp [isOwn, tmp, view, frz, ex, aw, ev, evvs, evbs, evas, evo, evc, evT, vw, bw, slot, rd, setS, PM.R.bind, asgTg, asB, asI, ofO, setTg, setTgs, PM.R.bind_ok, r, wipeL])
    have pl : ∀ A : List D, primD .len [.lst A] = some (.int ((A.length : Nat) : Int)) := fun _ => rfl
    have l0 := len0 (((kids t).filter fun k => (pre lv k).any badM).map tD)
    have e : decide (((kids t).filter fun k => (pre lv k).any badM).map tD = []) = !((kids t).any fun k => (pre lv k).any badM) := by
      cases hh : (kids t).any fun k => (pre lv k).any badM with
      | true =>
        obtain ⟨k, hk, hk2⟩ := List.any_eq_true.mp hh
        refine decide_eq_false fun z => ?_
        have := List.map_eq_nil_iff.mp z
        have hm : k ∈ (kids t).filter fun k => (pre lv k).any badM := List.mem_filter.mpr ⟨hk, hk2⟩
        rw [this] at hm
        simp at hm
      | false =>
        refine decide_eq_true ?_
        rw [List.map_eq_nil_iff, List.filter_eq_nil_iff]
        intro k hk hk2
        have := (List.any_eq_true (p := fun k => (pre lv k).any badM)).mpr ⟨k, hk, hk2⟩
        rw [hh] at this
        cases this
    rw [e] at l0
    generalize (kids t).any (fun k => (pre lv k).any badM) = res at *
    refine run_ret [some (tD t), some (.bl v), none, none] (fn := Lk02.f30) (d := .bl (!res)) (S := ⟨[some (tD t), some (.bl v), some (.bl lv), none], C⟩) rfl rfl rfl ?_ (end_ok rfl rfl hb)
    refine exs_nx (S1 := ⟨[some (tD t), some (.bl v), none, none], C⟩) ?_ (exs_nx (S1 := ⟨[some (tD t), some (.bl v), some (.bl lv), none], C⟩) ?_ (exs_ret ?_))
    · unfold ex
      rw [ct]
      rfl
    · exact ex_asg lo rfl (by simp)
    · clear ct lo wo ih e
      generalize ME.lc _ _ _ _ _ _ = le at *
      generalize ((kids t).filter fun k => (pre lv k).any badM).map tD = A at *
      generalize tD t = TT at *
      simp [isOwn, tmp, view, frz, ex, aw, ev, evvs, evbs, evas, evo, evc, evT, vw, bw, slot, rd, setS, PM.R.bind, asgTg, asB, asI, ofO, setTg, setTgs, PM.R.bind_ok, hlc, pl, l0]
theorem kind_ok (n : Nat) (x : I2) : PM.run F Lk02.P (n + 1) 12 [iD x, iD x] C = .ok (.bl true, C) := by
  cases x with
  | i i =>
    have c1 : cmpD .is (.int i) .non = some false := rfl
    have c2 : ∀ b, cmpD .is (.int i) (.bl b) = some false := fun _ => rfl
    have c3 : cmpD .eq (.int i) (.int i) = some true := by rw [eq_ii, decide_eq_true rfl]
    refine run_ret [some (.int i), some (.int i)] (fn := Lk02.f12) (d := .bl true) (S := ⟨[some (.int i), some (.int i)], C⟩) rfl rfl rfl ?_ (end_ok rfl rfl hb)
    simp [isOwn, tmp, view, frz, ex, aw, ev, evvs, evbs, evas, evo, evc, evT, vw, bw, slot, rd, setS, PM.R.bind, asgTg, asB, asI, ofO, setTg, setTgs, PM.R.bind_ok, exs, Lk02.f12, primD, isiAny, isiOne, tyOf, c1, c2, c3]
  | b i =>
    have c1 : cmpD .is (.bl i) .non = some false := rfl
    have c2 : ∀ a b, cmpD .is (.bl a) (.bl b) = some (decide (a = b)) := fun _ _ => rfl
    refine run_ret [some (.bl i), some (.bl i)] (fn := Lk02.f12) (d := .bl true) (S := ⟨[some (.bl i), some (.bl i)], C⟩) rfl rfl rfl ?_ (end_ok rfl rfl hb)
    cases i <;> simp [isOwn, tmp, view, frz, ex, aw, ev, evvs, evbs, evas, evo, evc, evT, vw, bw, slot, rd, setS, PM.R.bind, asgTg, asB, asI, ofO, setTg, setTgs, PM.R.bind_ok, exs, Lk02.f12, c1, c2]
theorem same_ok (n : Nat) (x : I2) : PM.run F Lk02.P (n + 2) 13 [iD x, iD x] C = .ok (.bl true, C) := by
  have gt : ∀ a b : Int, cmpD .gt (.int a) (.int b) = some (decide (b < a)) := fun _ _ => rfl
  have pl : ∀ A : List D, primD .len [.lst A] = some (.int ((A.length : Nat) : Int)) := fun A => rfl
  have k := kind_ok F C hb n x
  have p1 : primD (.isi [.ty "tuple"]) [iD x] = some (.bl false) := by cases x <;> rfl
  have p2 : primD (.isi [.ty "tuple", .ty "list", .ty "dict"]) [iD x] = some (.bl false) := by cases x <;> rfl
  have w : whileL (fun S => evT F (PM.run F Lk02.P (n + 1)) (.cmp .gt (.prim .len [.var 2]) (.k (.int (0)))) S) (fun S => exs F (PM.run F Lk02.P (n + 1)) [.asg (.t [.v 3, .v 4]) (.pop (.var 2)), .ite (.prim (.isi [.ty "tuple"]) [.var 4]) [.ite (.or (.not (.prim (.isi [.ty "tuple"]) [.var 3])) (.cmp .ne (.prim .len [.var 3]) (.prim .len [.var 4]))) [.ret (.k (.bl false))] [], .for_ (.v 5) 1 [.prim .len [.var 4]] [.expr (.append (.var 2) (.tup [.idx (.var 3) (.var 5), .idx (.var 4) (.var 5)]))]] [.ite (.or (.prim (.isi [.ty "tuple", .ty "list", .ty "dict"]) [.var 3]) (.not (.call 12 [.var 3, .var 4]))) [.ret (.k (.bl false))] []]] S) FUEL ⟨[some (iD x), some (iD x), some (.nl [t2 x]), none, none, none], C⟩ = .ok (.nx ⟨[some (iD x), some (iD x), some (.nl []), some (iD x), some (iD x), none], C⟩) := by
    obtain ⟨m, hf⟩ := fuel_ge (show 1 < 10 ^ 200 by decide +kernel)
    rw [hf]
    refine while_step (n := m + 1) (S1 := ⟨[some (iD x), some (iD x), some (.nl [t2 x]), none, none, none], C⟩) (S2 := ⟨[some (iD x), some (iD x), some (.nl []), some (iD x), some (iD x), none], C⟩) ?_ ?_ (while_end ?_)
    · generalize t2 x = A
      generalize iD x = A1
      simp [isOwn, tmp, view, frz, ex, aw, ev, evvs, evbs, evas, evo, evc, evT, vw, bw, slot, rd, setS, PM.R.bind, asgTg, asB, asI, ofO, setTg, setTgs, PM.R.bind_ok, pl, gt]
    · simp only [t2]
      cases x with
      | i i => simp only [iD] at *; simp [isOwn, tmp, view, frz, ex, aw, ev, evvs, evbs, evas, evo, evc, evT, vw, bw, slot, rd, setS, PM.R.bind, asgTg, asB, asI, ofO, setTg, setTgs, PM.R.bind_ok, exs, ownL, chg, p1, p2, k]
      | b i => simp only [iD] at *; simp [isOwn, tmp, view, frz, ex, aw, ev, evvs, evbs, evas, evo, evc, evT, vw, bw, slot, rd, setS, PM.R.bind, asgTg, asB, asI, ofO, setTg, setTgs, PM.R.bind_ok, exs, ownL, chg, p1, p2, k]
    · generalize iD x = A1
      simp [isOwn, tmp, view, frz, ex, aw, ev, evvs, evbs, evas, evo, evc, evT, vw, bw, slot, rd, setS, PM.R.bind, asgTg, asB, asI, ofO, setTg, setTgs, PM.R.bind_ok, pl, gt]
  refine run_ret [some (iD x), some (iD x), none, none, none, none] (fn := Lk02.f13) (d := .bl true) (S := ⟨[some (iD x), some (iD x), some (.nl []), some (iD x), some (iD x), none], C⟩) rfl rfl rfl ?_ (end_ok rfl rfl hb)
  refine exs_nx (S1 := ⟨[some (iD x), some (iD x), some (.nl [t2 x]), none, none, none], C⟩) ?_ (exs_nx (ex_while w) (exs_ret ?_))
  · cases x <;> simp [isOwn, tmp, view, frz, ex, aw, ev, evvs, evbs, evas, evo, evc, evT, vw, bw, slot, rd, setS, PM.R.bind, asgTg, asB, asI, ofO, setTg, setTgs, PM.R.bind_ok, iD, t2]
  · generalize iD x = A1
    simp [isOwn, tmp, view, frz, ex, aw, ev, evvs, evbs, evas, evo, evc, evT, vw, bw, slot, rd, setS, PM.R.bind, asgTg, asB, asI, ofO, setTg, setTgs, PM.R.bind_ok]
theorem all_ok (n : Nat) (l : List I2) (hl : l.length < 100000) : PM.run F Lk02.P (n + 3) 14 [.lst (l.map t2)] C = .ok (.bl true, C) := by
  have hlc := ev_lc (F := F) (call := PM.run F Lk02.P (n + 2)) (S := ⟨[some (.lst (l.map t2)), none, none], C⟩) (S1 := ⟨[some (.lst (l.map t2)), none, none], C⟩) (own := [1, 2]) (tg := .t [.v 1, .v 2]) (k := 0) (its := [.var 0]) (cond := [.not (.call 13 [.var 1, .var 2])]) (elt := .var 1) (vals := [.lst (l.map t2)]) (ds := l) (g := t2) (c := fun _ => false) (f := fun _ => .non) (Ld := fun x => [some (.lst (l.map t2)), some (iD x), some (iD x)]) (by simp [isOwn, tmp, view, frz, ex, aw, ev, evvs, evbs, evas, evo, evc, evT, vw, bw, slot, rd, setS, PM.R.bind, asgTg, asB, asI, ofO, setTg, setTgs, PM.R.bind_ok]) rfl (by simp [isOwn, tmp, view, frz, ex, aw, ev, evvs, evbs, evas, evo, evc, evT, vw, bw, slot, rd, setS, PM.R.bind, asgTg, asB, asI, ofO, binD, add_ii, subD, cmpD, primD, itemsD, setTg, setTgs, wipeL, noOwn, idxD, sliceD, revD, PM.R.bind_ok]) (by rw [LIM_eq]; omega) (by
    intro x hx
    have s := same_ok F C hb n x
    generalize l.map t2 = A
    cases x with
    | i i =>
      simp only [iD, t2] at s ⊢
      simp [isOwn, tmp, view, frz, ex, aw, ev, evvs, evbs, evas, evo, evc, evT, vw, bw, slot, rd, setS, PM.R.bind, asgTg, asB, asI, ofO, setTg, setTgs, PM.R.bind_ok, s, wipeL]
    | b i =>
      simp only [iD, t2] at s ⊢
      simp [isOwn, tmp, view, frz, ex, aw, ev, evvs, evbs, evas, evo, evc, evT, vw, bw, slot, rd, setS, PM.R.bind, asgTg, asB, asI, ofO, setTg, setTgs, PM.R.bind_ok, s, wipeL])
  have e : ((l.filter fun _ => false).map fun _ => D.non) = [] := by simp
  rw [e] at hlc
  refine run_ret [some (.lst (l.map t2)), none, none] (fn := Lk02.f14) (d := .bl true) (S := ⟨[some (.lst (l.map t2)), none, none], C⟩) rfl rfl rfl (exs_ret ?_) (end_ok rfl rfl hb)
  generalize ME.lc _ _ _ _ _ _ = le at hlc ⊢
  have pl : primD .len [.lst []] = some (.int 0) := rfl
  have eq : cmpD .eq (.int 0) (.int 0) = some true := rfl
  simp [isOwn, tmp, view, frz, ex, aw, ev, evvs, evbs, evas, evo, evc, evT, vw, bw, slot, rd, setS, PM.R.bind, asgTg, asB, asI, ofO, setTg, setTgs, PM.R.bind_ok, hlc, pl, eq]
end
end Mk
end

section
set_option Elab.async false
set_option linter.all false
open PySem PM
namespace Mk
/-- frozen, nothing of the heap in it -/
def Fz (d : D) : Prop := (∀ m, below m d = true) ∧ ∀ S, frz d S = some (d, S)
theorem fz_int (i : Int) : Fz (.int i) := ⟨fun _ => rfl, fun _ => rfl⟩
theorem fz_str (i : PySem.Str) : Fz (.str i) := ⟨fun _ => rfl, fun _ => rfl⟩
def sq (b : Bool) (l : List D) : D := if b then .tup l else .lst l
theorem idx_nat (b : Bool) (l : List D) (k : Nat) (hk : k < l.length) : idxD (sq b l) (.int (k : Nat)) = some l[k] := by
  have h : (ixD l.length ((k : Nat) : Int)).bind (fun k => l[k]?) = some l[k] := by
    unfold ixD
    rw [ixN_nat hk, Option.bind_some, List.getElem?_eq_getElem hk]
  cases b
  · exact h
  · exact h
section
variable (F : Fields) (n : Nat)
theorem of_ok (b : Bool) (ds : List D) (h0 : ds ≠ []) (hl : ds.length < 1000000) (hz : ∀ d ∈ ds, Fz d) (cs : List Int) (mix : Int) (hc : cs.length ≤ 100) : ∃ (d : D) (cs' : List Int) (mix' : Int), PM.run F Lk02.P (n + 2) 11 [.ref 1, sq b ds] (Hp cs mix) = .ok (d, Hp cs' mix') ∧ d ∈ ds ∧ cs'.length ≤ 100 := by
  have hp : 0 < ds.length := List.length_pos_iff.mpr h0
  obtain ⟨r, cs', mix', w, r0, r1, hc'⟩ := any_ok F n (ds.length : Nat) (by omega) (by omega) cs mix hc
  obtain ⟨k, rfl⟩ : ∃ k : Nat, r = (k : Nat) := ⟨r.toNat, by omega⟩
  have hk : k < ds.length := by omega
  have ix := idx_nat b ds k hk
  obtain ⟨z1, z2⟩ := hz ds[k] (List.getElem_mem hk)
  refine ⟨ds[k], cs', mix', ?_, List.getElem_mem hk, hc'⟩
  have pl : primD .len [sq b ds] = some (.int (ds.length : Nat)) := by cases b <;> rfl
  have hsq : sq b ds = .tup ds ∨ sq b ds = .lst ds := by cases b; exact .inr rfl; exact .inl rfl
  generalize sq b ds = SQ at *
  generalize ds[k] = d at *
  refine run_ret [some (.ref 1), some SQ] (fn := Lk02.f11) (d := d) (S := ⟨[some (.ref 1), some SQ], Hp cs' mix'⟩) rfl rfl rfl (exs_ret ?_) (end_Hp _ _ _ _ _ (z1 2))
  have e1 : ev F (PM.run F Lk02.P (n + 1)) (.idx (.var 1) (.call 10 [.var 0, .prim .len [.var 1]])) ⟨[some (.ref 1), some SQ], Hp cs mix⟩ = .ok (d, ⟨[some (.ref 1), some SQ], Hp cs' mix'⟩) := by
    clear z1 z2
    generalize PM.run F Lk02.P (n + 1) = cl at *
    generalize Hp cs mix = H at *
    generalize Hp cs' mix' = H' at *
    rcases hsq with rfl | rfl
    · simp [isOwn, tmp, view, frz, ex, aw, ev, evvs, evbs, evas, evo, evc, evT, vw, bw, slot, rd, setS, PM.R.bind, asgTg, asB, asI, ofO, setTg, setTgs, PM.R.bind_ok, pl, w, ix]
    · simp [isOwn, tmp, view, frz, ex, aw, ev, evvs, evbs, evas, evo, evc, evT, vw, bw, slot, rd, setS, PM.R.bind, asgTg, asB, asI, ofO, setTg, setTgs, PM.R.bind_ok, pl, w, ix]
  unfold ex
  rw [e1]
  show ((ofO (frz d _)).bind fun p => PM.R.ok (Fl.ret p.1 p.2)) = _
  rw [z2]
  rfl
theorem of_int (l : List Int) (h0 : l ≠ []) (hl : l.length < 1000) (cs : List Int) (mix : Int) (hc : cs.length ≤ 100) : ∃ (v : Int) (cs' : List Int) (mix' : Int), PM.run F Lk02.P (n + 2) 11 [.ref 1, .lst (isD l)] (Hp cs mix) = .ok (.int v, Hp cs' mix') ∧ v ∈ l ∧ cs'.length ≤ 100 := by
  obtain ⟨d, cs', mix', w, hd, hc'⟩ := of_ok F n false (isD l) (by simpa [isD] using h0) (by rw [isD_length]; omega) (fun d hd => by
    obtain ⟨i, _, rfl⟩ := List.mem_map.mp hd
    exact fz_int i) cs mix hc
  obtain ⟨i, hi, rfl⟩ := List.mem_map.mp hd
  exact ⟨i, cs', mix', w, hi, hc'⟩
theorem div_loop (C : List D) : ∀ (k m : Nat) (a b : Int), 0 ≤ a → 0 ≤ b → a + b ≠ 0 → a < 1000000 → b < 1000000 → b.toNat ≤ k →
    ∃ r : Int, whileL (fun S => evT F (PM.run F Lk02.P n) (.cmp .ne (.var 1) (.k (.int (0)))) S) (fun S => exs F (PM.run F Lk02.P n) [.par [0, 1] [.var 1, .bin .mod (.prim .int1 [.var 0]) (.var 1)]] S) (m + (k + 1)) ⟨[some (.int a), some (.int b)], C⟩ = .ok (.nx ⟨[some (.int r), some (.int 0)], C⟩) ∧ 0 < r ∧ r < 1000000 := by
  intro k
  have ne : ∀ a b : Int, cmpD .ne (.int a) (.int b) = some (!decide (a = b)) := fun _ _ => rfl
  induction k with
  | zero =>
    intro m a b h0 h1 h2 h3 h4 hk
    have : b = 0 := by omega
    subst this
    exact ⟨a, while_end (by simp [isOwn, tmp, view, frz, ex, aw, ev, evvs, evbs, evas, evo, evc, evT, vw, bw, slot, rd, setS, PM.R.bind, asgTg, asB, asI, ofO, setTg, setTgs, PM.R.bind_ok, ne]), by omega, h3⟩
  | succ k ih =>
    intro m a b h0 h1 h2 h3 h4 hk
    by_cases e : b = 0
    · subst e
      exact ⟨a, while_end (by simp [isOwn, tmp, view, frz, ex, aw, ev, evvs, evbs, evas, evo, evc, evT, vw, bw, slot, rd, setS, PM.R.bind, asgTg, asB, asI, ofO, setTg, setTgs, PM.R.bind_ok, ne]), by omega, h3⟩
    · have hb : 0 < b := by omega
      have md := mod_pos a hb
      have g1 := Int.emod_nonneg a (show b ≠ 0 by omega)
      have g2 := Int.emod_lt_of_pos a hb
      obtain ⟨r, w, r0, r1⟩ := ih m b (a % b) h1 g1 (by omega) h4 (by omega) (by omega)
      refine ⟨r, while_step (S1 := ⟨[some (.int a), some (.int b)], C⟩) (S2 := ⟨[some (.int b), some (.int (a % b))], C⟩) ?_ ?_ w, r0, r1⟩
      · simp [isOwn, tmp, view, frz, ex, aw, ev, evvs, evbs, evas, evo, evc, evT, vw, bw, slot, rd, setS, PM.R.bind, asgTg, asB, asI, ofO, setTg, setTgs, PM.R.bind_ok, ne, e]
      · have pi : ∀ a : Int, primD .int1 [.int a] = some (.int a) := fun _ => rfl
        generalize a % b = q at md
        simp [isOwn, tmp, view, frz, ex, aw, ev, evvs, evbs, evas, evo, evc, evT, vw, bw, slot, rd, setS, PM.R.bind, asgTg, asB, asI, ofO, setTg, setTgs, PM.R.bind_ok, exs, pi, binD, md, setMany]
theorem fraction_ok (C : List D) (hb : belows C.length C = true) (a b : Int) (ha : -1000 ≤ a ∧ a ≤ 1000) (hb2 : 0 < b ∧ b ≤ 1000) : ∃ x y : Int, PM.run F Lk02.P (n + 2) 19 [.int a, .int b] C = .ok (.tup [.int x, .int y], C) := by
  have pa : ∀ a : Int, primD .abs [.int a] = some (.int (if a < 0 then -a else a)) := fun _ => rfl
  have hab : 0 ≤ (if a < 0 then -a else a) ∧ (if a < 0 then -a else a) ≤ 1000 := by split <;> omega
  obtain ⟨m, hf⟩ := fuel_ge (show 1000 < 10 ^ 200 by decide +kernel)
  obtain ⟨r, w, r0, r1⟩ := div_loop F n C 1000 m (if a < 0 then -a else a) b hab.1 (by omega) (by omega) (by omega) (by omega) (by omega)
  rw [← hf] at w
  have dv : PM.run F Lk02.P (n + 1) 18 [.int a, .int b] C = .ok (.int r, C) := by
    refine run_ret [some (.int a), some (.int b)] (fn := Lk02.f18) (d := .int r) (S := ⟨[some (.int r), some (.int 0)], C⟩) rfl rfl rfl ?_ (end_ok rfl rfl hb)
    refine exs_nx (S1 := ⟨[some (.int (if a < 0 then -a else a)), some (.int b)], C⟩) ?_ (exs_nx (ex_while w) (exs_ret (by simp [isOwn, tmp, view, frz, ex, aw, ev, evvs, evbs, evas, evo, evc, evT, vw, bw, slot, rd, setS, PM.R.bind, asgTg, asB, asI, ofO, setTg, setTgs, PM.R.bind_ok])))
    have p1 := pa a
    have p2 := pa b
    rw [if_neg (by omega)] at p2
    generalize (if a < 0 then -a else a) = q at p1
    simp [isOwn, tmp, view, frz, ex, aw, ev, evvs, evbs, evas, evo, evc, evT, vw, bw, slot, rd, setS, PM.R.bind, asgTg, asB, asI, ofO, setTg, setTgs, PM.R.bind_ok, p1, p2, setMany]
  have f1 := fdiv_pos a r0 (by omega)
  have f2 := fdiv_pos b r0 (by omega)
  refine ⟨a / r, b / r, ?_⟩
  generalize a / r = x at *
  generalize b / r = y at *
  refine run_ret [some (.int a), some (.int b), none] (fn := Lk02.f19) (d := .tup [.int x, .int y]) (S := ⟨[some (.int a), some (.int b), some (.int r)], C⟩) rfl rfl rfl ?_ (end_ok rfl rfl hb)
  have pi : ∀ a : Int, primD .int1 [.int a] = some (.int a) := fun _ => rfl
  refine exs_nx (S1 := ⟨[some (.int a), some (.int b), some (.int r)], C⟩) ?_ (exs_ret ?_)
  · simp [isOwn, tmp, view, frz, ex, aw, ev, evvs, evbs, evas, evo, evc, evT, vw, bw, slot, rd, setS, PM.R.bind, asgTg, asB, asI, ofO, setTg, setTgs, PM.R.bind_ok, dv]
  · simp [isOwn, tmp, view, frz, ex, aw, ev, evvs, evbs, evas, evo, evc, evT, vw, bw, slot, rd, setS, PM.R.bind, asgTg, asB, asI, ofO, setTg, setTgs, PM.R.bind_ok, pi, binD, f1, f2]
theorem number_ok (cs : List Int) (mix : Int) (hc : cs.length ≤ 100) : ∃ (x y : Int) (cs' : List Int) (mix' : Int), PM.run F Lk02.P (n + 3) 20 [.ref 1] (Hp cs mix) = .ok (.tup [.int x, .int y], Hp cs' mix') ∧ cs'.length ≤ 100 := by
  obtain ⟨top, cs1, mix1, w1, t1, hc1⟩ := of_int F n [0, 1, 1, 2, 3, 99] (by simp) (by simp) cs mix hc
  obtain ⟨r, cs2, mix2, w2, r0, r1, hc2⟩ := any_ok F (n + 1) 2 (by decide) (by decide) cs1 mix1 hc1
  obtain ⟨bt, cs3, mix3, w3, t3, hc3⟩ := of_int F n [1, 1, 1, 2, 3, 12] (by simp) (by simp) cs2 mix2 hc2
  have h1 : 0 ≤ top ∧ top ≤ 99 := by simp at t1; omega
  have h3 : 0 < bt ∧ bt ≤ 12 := by simp at t3; omega
  have hb := below_Hp cs3 mix3
  have i1 : isD [0, 1, 1, 2, 3, 99] = [.int 0, .int 1, .int 1, .int 2, .int 3, .int 99] := rfl
  have i3 : isD [1, 1, 1, 2, 3, 12] = [.int 1, .int 1, .int 1, .int 2, .int 3, .int 12] := rfl
  rw [i1] at w1
  rw [i3] at w3
  have eq := eq_ii r 0
  by_cases e : r = 0
  · obtain ⟨x, y, w⟩ := fraction_ok F n (Hp cs3 mix3) hb top bt (by omega) (by omega)
    refine ⟨x, y, cs3, mix3, ?_, hc3⟩
    rw [decide_eq_true e] at eq
    refine run_ret [some (.ref 1), none] (fn := Lk02.f20) (d := .tup [.int x, .int y]) (S := ⟨[some (.ref 1), some (.int top)], Hp cs3 mix3⟩) rfl rfl rfl ?_ (end_Hp _ _ _ _ _ rfl)
    refine exs_nx (S1 := ⟨[some (.ref 1), some (.int top)], Hp cs1 mix1⟩) ?_ (exs_ret ?_)
    · generalize PM.run F Lk02.P (n + 2) = cl at *
      simp [isOwn, tmp, view, frz, ex, aw, ev, evvs, evbs, evas, evo, evc, evT, vw, bw, slot, rd, setS, PM.R.bind, asgTg, asB, asI, ofO, setTg, setTgs, PM.R.bind_ok, w1]
    · generalize PM.run F Lk02.P (n + 2) = cl at *
      simp [isOwn, tmp, view, frz, ex, aw, ev, evvs, evbs, evas, evo, evc, evT, vw, bw, slot, rd, setS, PM.R.bind, asgTg, asB, asI, ofO, setTg, setTgs, PM.R.bind_ok, w2, eq, w3, w]
  · obtain ⟨x, y, w⟩ := fraction_ok F n (Hp cs3 mix3) hb (0 - top) bt (by omega) (by omega)
    refine ⟨x, y, cs3, mix3, ?_, hc3⟩
    rw [decide_eq_false e] at eq
    refine run_ret [some (.ref 1), none] (fn := Lk02.f20) (d := .tup [.int x, .int y]) (S := ⟨[some (.ref 1), some (.int top)], Hp cs3 mix3⟩) rfl rfl rfl ?_ (end_Hp _ _ _ _ _ rfl)
    have sb : subD (.int 0) (.int top) = some (.int (0 - top)) := rfl
    generalize 0 - top = q at *
    refine exs_nx (S1 := ⟨[some (.ref 1), some (.int top)], Hp cs1 mix1⟩) ?_ (exs_ret ?_)
    · generalize PM.run F Lk02.P (n + 2) = cl at *
      simp [isOwn, tmp, view, frz, ex, aw, ev, evvs, evbs, evas, evo, evc, evT, vw, bw, slot, rd, setS, PM.R.bind, asgTg, asB, asI, ofO, setTg, setTgs, PM.R.bind_ok, w1]
    · generalize PM.run F Lk02.P (n + 2) = cl at *
      simp [isOwn, tmp, view, frz, ex, aw, ev, evvs, evbs, evas, evo, evc, evT, vw, bw, slot, rd, setS, PM.R.bind, asgTg, asB, asI, ofO, setTg, setTgs, PM.R.bind_ok, w2, eq, w3, w, binD, sb]
theorem mixed_loop (some_ : D) : ∀ (l : List Int) (left found : List D) (x2 : Option D) (cs : List Int) (mix : Int), cs.length ≤ 100 → left.length = l.length → found.length + l.length < 100000 → (∀ d ∈ left, Fz d) →
    ∃ (ys : List D) (y2 : Option D) (cs' : List Int) (mix' : Int), forL (fun S => exs F (PM.run F Lk02.P (n + 1)) [.expr (.append (.var 3) (.popAt (.var 4) (.call 10 [.var 0, .prim .len [.var 4]])))] S) (.v 2) (isD l) ⟨[some (.ref 1), some some_, x2, some (.nl found), some (.nl left)], Hp cs mix⟩ = .ok (.nx ⟨[some (.ref 1), some some_, y2, some (.nl (found ++ ys)), some (.nl [])], Hp cs' mix'⟩) ∧ ys.length = left.length ∧ (∀ y ∈ ys, y ∈ left) ∧ cs'.length ≤ 100 := by
  intro l
  induction l with
  | nil =>
    intro left found x2 cs mix hc hl _ _
    have : left = [] := List.eq_nil_of_length_eq_zero hl
    subst this
    refine ⟨[], x2, cs, mix, ?_, rfl, by simp, hc⟩
    rw [List.append_nil]
    rfl
  | cons t l ih =>
    intro left found x2 cs mix hc hl hn hz
    rw [List.length_cons] at hl hn
    obtain ⟨r, cs1, mix1, w, r0, r1, hc1⟩ := any_ok F n (left.length : Nat) (by omega) (by omega) cs mix hc
    obtain ⟨k, rfl⟩ : ∃ k : Nat, r = (k : Nat) := ⟨r.toNat, by omega⟩
    have hk : k < left.length := by omega
    obtain ⟨z1, z2⟩ := hz left[k] (List.getElem_mem hk)
    obtain ⟨ys, y2, cs', mix', q, q1, q2, q3⟩ := ih (left.eraseIdx k) (found ++ [left[k]]) (some (.int t)) cs1 mix1 hc1 (by rw [List.length_eraseIdx_of_lt hk]; omega) (by rw [List.length_append, List.length_singleton]; omega) (fun d hd => hz d (List.mem_of_mem_eraseIdx hd))
    refine ⟨left[k] :: ys, y2, cs', mix', ?_, by rw [List.length_cons, q1, List.length_eraseIdx_of_lt hk]; omega, fun y hy => ?_, q3⟩
    · have e3 : found ++ left[k] :: ys = found ++ [left[k]] ++ ys := by simp
      rw [e3]
      refine for_step (L := [some (.ref 1), some some_, some (.int t), some (.nl found), some (.nl left)]) (by simp [setTg]) (exs_nx (S1 := ⟨[some (.ref 1), some some_, some (.int t), some (.nl (found ++ [left[k]])), some (.nl (left.eraseIdx k))], Hp cs1 mix1⟩) ?_ exs_end) q
      have a1 : fitI ((k : Nat) : Int) = true := (fitI_is _).mpr (by omega)
      have a2 : L2.ixN left.length ((k : Nat) : Int) = some k := ixN_nat hk
      have a3 : left[k]? = some left[k] := List.getElem?_eq_getElem hk
      have pl : primD .len [.lst left] = some (.int (left.length : Nat)) := rfl
      have hz2 : found.length < LIM := by rw [LIM_eq]; omega
      have e1 : ev F (PM.run F Lk02.P (n + 1)) (.popAt (.var 4) (.call 10 [.var 0, .prim .len [.var 4]])) ⟨[some (.ref 1), some some_, some (.int t), some (.nl found), some (.nl left)], Hp cs mix⟩ = .ok (left[k], ⟨[some (.ref 1), some some_, some (.int t), some (.nl found), some (.nl (left.eraseIdx k))], Hp cs1 mix1⟩) := by
        clear q z1 z2
        generalize left[k] = d at *
        generalize PM.run F Lk02.P (n + 1) = cl at *
        simp [isOwn, tmp, view, frz, ex, aw, ev, evvs, evbs, evas, evo, evc, evT, vw, bw, slot, rd, setS, PM.R.bind, asgTg, asB, asI, ofO, setTg, setTgs, PM.R.bind_ok, ownL, chg, pl, w, a1, a2, a3]
      have e2 : vw (ev F (PM.run F Lk02.P (n + 1)) (.popAt (.var 4) (.call 10 [.var 0, .prim .len [.var 4]])) ⟨[some (.ref 1), some some_, some (.int t), some (.nl found), some (.nl left)], Hp cs mix⟩) = .ok (left[k], ⟨[some (.ref 1), some some_, some (.int t), some (.nl found), some (.nl (left.eraseIdx k))], Hp cs1 mix1⟩) := by
        rw [e1]
        show ofO (frz _ _) = _
        rw [z2]
        rfl
      clear e1 q z1 z2
      generalize left[k] = d at *
      generalize PM.run F Lk02.P (n + 1) = cl at *
      generalize ME.popAt _ _ = pe at *
      simp [isOwn, ex, ev, slot, rd, setS, PM.R.bind, ofO, ownL, chg, e2, hz2]
    · rcases List.mem_cons.mp hy with rfl | hy
      · exact List.getElem_mem hk
      · exact List.mem_of_mem_eraseIdx (q2 y hy)
theorem mixed_ok (ds : List D) (hl : ds.length < 10000) (hz : ∀ d ∈ ds, Fz d) (cs : List Int) (mix : Int) (hc : cs.length ≤ 100) : ∃ (ys cs' : List D) (cs2 : List Int) (mix2 : Int), PM.run F Lk02.P (n + 2) 15 [.ref 1, .lst ds] (Hp cs mix) = .ok (.lst ys, Hp cs2 mix2) ∧ ys.length = ds.length ∧ (∀ y ∈ ys, y ∈ ds) ∧ cs2.length ≤ 100 := by
  obtain ⟨ys, y2, cs2, mix2, w, q1, q2, q3⟩ := mixed_loop F n (.lst ds) (rgI 0 ds.length) ds [] none cs mix hc (by rw [length_rgI]) (by rw [length_rgI]; simp; omega) hz
  rw [List.nil_append] at w
  have hbl : below 2 (.lst ys) = true := by
    have : ∀ ys : List D, (∀ y ∈ ys, y ∈ ds) → belows 2 ys = true := by
      intro ys
      induction ys with
      | nil => intro _; rfl
      | cons y ys ih =>
        intro h
        rw [belows, ih fun z hz => h z (List.mem_cons_of_mem _ hz), (hz y (h y List.mem_cons_self)).1]
        rfl
    exact this ys q2
  refine ⟨ys, [], cs2, mix2, ?_, q1, q2, q3⟩
  refine run_ret [some (.ref 1), some (.lst ds), none, none, none] (fn := Lk02.f15) (d := .lst ys) (S := ⟨[some (.ref 1), some (.lst ds), y2, some (.lst ys), some (.nl [])], Hp cs2 mix2⟩) rfl rfl rfl ?_ (end_Hp _ _ _ _ _ hbl)
  have l1 : primD .list1 [.lst ds] = some (.nl ds) := rfl
  have pl : primD .len [.lst ds] = some (.int (ds.length : Nat)) := rfl
  have a1 : fitI ((ds.length : Nat) : Int) = true := (fitI_is _).mpr (by omega)
  have i1 : itemsD 1 [.int (ds.length : Nat)] = some (isD (rgI 0 ds.length)) := by
    simp only [itemsD, a1, if_true, rangeD_isD]
  refine exs_nx (S1 := ⟨[some (.ref 1), some (.lst ds), none, some (.nl []), some (.nl ds)], Hp cs mix⟩) ?_ (exs_nx (ex_for (S1 := ⟨[some (.ref 1), some (.lst ds), none, some (.nl []), some (.nl ds)], Hp cs mix⟩) (vals := [.int (ds.length : Nat)]) ?_ i1 w) (exs_ret ?_))
  · simp [isOwn, tmp, view, frz, ex, aw, ev, evvs, evbs, evas, evo, evc, evT, vw, bw, slot, rd, setS, PM.R.bind, asgTg, asB, asI, ofO, setTg, setTgs, PM.R.bind_ok, l1, setMany]
  · simp [isOwn, tmp, view, frz, ex, aw, ev, evvs, evbs, evas, evo, evc, evT, vw, bw, slot, rd, setS, PM.R.bind, asgTg, asB, asI, ofO, setTg, setTgs, PM.R.bind_ok, pl]
  · simp [isOwn, tmp, view, frz, ex, aw, ev, evvs, evbs, evas, evo, evc, evT, vw, bw, slot, rd, setS, PM.R.bind, asgTg, asB, asI, ofO, setTg, setTgs, PM.R.bind_ok]
end
end Mk
end

section
set_option Elab.async false
set_option linter.all false
open PySem PM
namespace Mk
def sD (ss : List PySem.Str) : List D := ss.map .str
theorem strsOf_sD : ∀ ss : List PySem.Str, strsOf (sD ss) = some ss
  | [] => rfl
  | s :: ss => by
    have := strsOf_sD ss
    unfold sD at this ⊢
    rw [List.map_cons, strsOf, this]
    rfl
theorem intsOf_sD (ss : List PySem.Str) (h : ss ≠ []) : intsOf (sD ss) = none := by
  cases ss with
  | nil => exact absurd rfl h
  | cons s ss => rfl
theorem sort_strs (ss : List PySem.Str) : ∃ ss' : List PySem.Str, primD .sorted1 [.lst (sD ss)] = some (.nl (sD ss')) ∧ ss'.length = ss.length := by
  by_cases h : ss = []
  · subst h
    exact ⟨[], by simp [primD, intsOf, sD, isort], rfl⟩
  · have ok : sortOk (sD ss) = true := by
      have h1 : plains (sD ss) = true := by
        induction ss with
        | nil => rfl
        | cons s ss ih =>
          by_cases h2 : ss = []
          · subst h2; rfl
          · show plains (.str s :: sD ss) = true
            rw [plains, ih h2]
            rfl
      have h2 : deps (sD ss) ≤ 40 := by
        clear h h1
        have : deps (sD ss) = 0 := by
          induction ss with
          | nil => rfl
          | cons s ss ih =>
            show deps (.str s :: sD ss) = 0
            rw [deps, ih]
            rfl
        omega
      have h3 : ((sD ss).all fun a => (sD ss).all fun b => PySem.W.alike (toPD a) (toPD b)) = true := by
        refine List.all_eq_true.mpr fun a ha => List.all_eq_true.mpr fun b hb => ?_
        obtain ⟨x, _, rfl⟩ := List.mem_map.mp ha
        obtain ⟨y, _, rfl⟩ := List.mem_map.mp hb
        rfl
      have h4 : (sD ss).all notTup = true := by
        refine List.all_eq_true.mpr fun a ha => ?_
        obtain ⟨x, _, rfl⟩ := List.mem_map.mp ha
        rfl
      unfold sortOk
      rw [h1, decide_eq_true h2, h3, h4]
      simp
    have hp : (sortD (sD ss)).Perm (sD ss) := List.mergeSort_perm _ _
    have hm : ∀ d ∈ sortD (sD ss), ∃ s, d = .str s := fun d hd => by
      obtain ⟨s, _, rfl⟩ := List.mem_map.mp (hp.mem_iff.mp hd)
      exact ⟨s, rfl⟩
    have ex : ∀ l : List D, (∀ d ∈ l, ∃ s, d = .str s) → ∃ ss', l = sD ss' := by
      intro l
      induction l with
      | nil => intro _; exact ⟨[], rfl⟩
      | cons d l ih =>
        intro h
        obtain ⟨s, rfl⟩ := h d List.mem_cons_self
        obtain ⟨ss', rfl⟩ := ih fun d hd => h d (List.mem_cons_of_mem _ hd)
        exact ⟨s :: ss', rfl⟩
    obtain ⟨ss', e⟩ := ex _ hm
    refine ⟨ss', ?_, ?_⟩
    · simp only [primD, intsOf_sD ss h, ok, if_true]
      rw [e]
    · have := hp.length_eq
      rw [e] at this
      simpa [sD] using this
def qD (q : PySem.Str × PySem.Str) : D := .tup [.str q.1, .str q.2]
theorem lD_eq (l : List (PySem.Str × PySem.Str)) : lD l = .tup (l.map qD) := rfl
theorem sort_pairs (l : List (PySem.Str × PySem.Str)) : ∃ l' : List (PySem.Str × PySem.Str), primD .sorted1 [.lst (l.map qD)] = some (.nl (l'.map qD)) ∧ l'.length = l.length := by
  by_cases h : l = []
  · subst h
    exact ⟨[], by simp [primD, intsOf, isort], rfl⟩
  · have hi : intsOf (l.map qD) = none := by
      cases l with
      | nil => exact absurd rfl h
      | cons s l => rfl
    have ok : sortOk (l.map qD) = true := by
      have h1 : plains (l.map qD) = true := by
        have := plain_lD l
        rw [lD_eq, PM.plain] at this
        exact this
      have h2 : deps (l.map qD) ≤ 40 := by
        have := dep_lD l
        rw [lD_eq, dep] at this
        omega
      have h3 : ((l.map qD).all fun a => (l.map qD).all fun b => PySem.W.alike (toPD a) (toPD b)) = true := by
        refine List.all_eq_true.mpr fun a ha => List.all_eq_true.mpr fun b hb => ?_
        obtain ⟨x, _, rfl⟩ := List.mem_map.mp ha
        obtain ⟨y, _, rfl⟩ := List.mem_map.mp hb
        rfl
      have h4 : (l.map qD).all isTupC = true := by
        refine List.all_eq_true.mpr fun a ha => ?_
        obtain ⟨x, _, rfl⟩ := List.mem_map.mp ha
        rfl
      unfold sortOk
      rw [h1, decide_eq_true h2, h3, h4]
      simp
    have hp : (sortD (l.map qD)).Perm (l.map qD) := List.mergeSort_perm _ _
    have hm : ∀ d ∈ sortD (l.map qD), ∃ s, d = qD s := fun d hd => by
      obtain ⟨s, _, rfl⟩ := List.mem_map.mp (hp.mem_iff.mp hd)
      exact ⟨s, rfl⟩
    have ex : ∀ m : List D, (∀ d ∈ m, ∃ s, d = qD s) → ∃ l' : List (PySem.Str × PySem.Str), m = l'.map qD := by
      intro m
      induction m with
      | nil => intro _; exact ⟨[], rfl⟩
      | cons d m ih =>
        intro h
        obtain ⟨s, rfl⟩ := h d List.mem_cons_self
        obtain ⟨l', rfl⟩ := ih fun d hd => h d (List.mem_cons_of_mem _ hd)
        exact ⟨s :: l', rfl⟩
    obtain ⟨l', e⟩ := ex _ hm
    refine ⟨l', ?_, ?_⟩
    · simp only [primD, hi, ok, if_true]
      rw [e]
    · have := hp.length_eq
      rw [e] at this
      simpa using this
/-- a kind of links -/
def kD (a b c : List PySem.Str) : D := .tup [.tup (sD a), .tup (sD b), .tup (sD c)]
section
variable (F : Fields) (n : Nat)
theorem facts_ok (C : List D) (hb : belows C.length C = true) (a b c : List PySem.Str) (h : b ≠ [] ∨ c ≠ []) (hl : b.length + c.length < 1000) : ∃ l : List (PySem.Str × PySem.Str), PM.run F Lk02.P (n + 1) 21 [kD a b c] C = .ok (.lst (l.map qD), C) ∧ l ≠ [] ∧ l.length < 3000 := by
  have h1 := ev_lc (F := F) (call := PM.run F Lk02.P n) (S := ⟨[some (kD a b c), none, none], C⟩) (S1 := ⟨[some (kD a b c), none, none], C⟩) (own := [2]) (tg := .v 2) (k := 0) (its := [.idx (.var 0) (.k (.int 1))]) (cond := []) (elt := .tup [.var 2, .k (.str "with")]) (vals := [.tup (sD b)]) (ds := b) (g := .str) (c := fun _ => true) (f := fun s => qD (s, "with")) (Ld := fun s => [some (kD a b c), none, some (.str s)]) (by
    simp only [kD]
    generalize sD a = A
    generalize sD b = B
    generalize sD c = CC
    simp [isOwn, tmp, view, frz, ex, aw, ev, evvs, evbs, evas, evo, evc, evT, vw, bw, slot, rd, setS, PM.R.bind, asgTg, asB, asI, ofO, setTg, setTgs, PM.R.bind_ok, tup_idx1]) rfl rfl (by rw [LIM_eq]; omega) (by
    intro s _
    simp only [kD]
    generalize sD a = A
    generalize sD b = B
    generalize sD c = CC
    simp [isOwn, tmp, view, frz, ex, aw, ev, evvs, evbs, evas, evo, evc, evT, vw, bw, slot, rd, setS, PM.R.bind, asgTg, asB, asI, ofO, setTg, setTgs, PM.R.bind_ok, wipeL, qD])
  have h2 := ev_lc (F := F) (call := PM.run F Lk02.P n) (S := ⟨[some (kD a b c), none, none], C⟩) (S1 := ⟨[some (kD a b c), none, none], C⟩) (own := [1]) (tg := .v 1) (k := 0) (its := [.idx (.var 0) (.k (.int 2))]) (cond := []) (elt := .tup [.var 1, .k (.str "out")]) (vals := [.tup (sD c)]) (ds := c) (g := .str) (c := fun _ => true) (f := fun s => qD (s, "out")) (Ld := fun s => [some (kD a b c), some (.str s), none]) (by
    simp only [kD]
    generalize sD a = A
    generalize sD b = B
    generalize sD c = CC
    simp [isOwn, tmp, view, frz, ex, aw, ev, evvs, evbs, evas, evo, evc, evT, vw, bw, slot, rd, setS, PM.R.bind, asgTg, asB, asI, ofO, setTg, setTgs, PM.R.bind_ok, tup_idx2]) rfl rfl (by rw [LIM_eq]; omega) (by
    intro s _
    simp only [kD]
    generalize sD a = A
    generalize sD b = B
    generalize sD c = CC
    simp [isOwn, tmp, view, frz, ex, aw, ev, evvs, evbs, evas, evo, evc, evT, vw, bw, slot, rd, setS, PM.R.bind, asgTg, asB, asI, ofO, setTg, setTgs, PM.R.bind_ok, wipeL, qD])
  have h3 := ev_lc (F := F) (call := PM.run F Lk02.P n) (S := ⟨[some (kD a b c), none, none], C⟩) (S1 := ⟨[some (kD a b c), none, none], C⟩) (own := [1]) (tg := .v 1) (k := 0) (its := [.idx (.var 0) (.k (.int 2))]) (cond := []) (elt := .tup [.var 1, .k (.str "in")]) (vals := [.tup (sD c)]) (ds := c) (g := .str) (c := fun _ => true) (f := fun s => qD (s, "in")) (Ld := fun s => [some (kD a b c), some (.str s), none]) (by
    simp only [kD]
    generalize sD a = A
    generalize sD b = B
    generalize sD c = CC
    simp [isOwn, tmp, view, frz, ex, aw, ev, evvs, evbs, evas, evo, evc, evT, vw, bw, slot, rd, setS, PM.R.bind, asgTg, asB, asI, ofO, setTg, setTgs, PM.R.bind_ok, tup_idx2]) rfl rfl (by rw [LIM_eq]; omega) (by
    intro s _
    simp only [kD]
    generalize sD a = A
    generalize sD b = B
    generalize sD c = CC
    simp [isOwn, tmp, view, frz, ex, aw, ev, evvs, evbs, evas, evo, evc, evT, vw, bw, slot, rd, setS, PM.R.bind, asgTg, asB, asI, ofO, setTg, setTgs, PM.R.bind_ok, wipeL, qD])
  have ff : ∀ (l : List PySem.Str) (w : PySem.Str), ((l.filter fun _ => true).map fun s => qD (s, w)) = (l.map fun s => (s, w)).map qD := fun l w => by
    rw [List.filter_eq_self.mpr (by simp), List.map_map]
    rfl
  rw [ff] at h1 h2 h3
  have a1 := add_lists ((b.map fun s => (s, ("with" : PySem.Str))).map qD) ((c.map fun s => (s, ("out" : PySem.Str))).map qD) (by simp; omega)
  rw [← List.map_append] at a1
  have a2 := add_lists (((b.map fun s => (s, ("with" : PySem.Str))) ++ (c.map fun s => (s, ("out" : PySem.Str)))).map qD) ((c.map fun s => (s, ("in" : PySem.Str))).map qD) (by simp; omega)
  rw [← List.map_append] at a2
  obtain ⟨l, e, el⟩ := sort_pairs (((b.map fun s => (s, ("with" : PySem.Str))) ++ (c.map fun s => (s, ("out" : PySem.Str)))) ++ (c.map fun s => (s, ("in" : PySem.Str))))
  have hll : l.length = b.length + c.length + c.length := by rw [el]; simp; omega
  have hpos : 0 < b.length + c.length := by
    rcases h with h | h
    · have := List.length_pos_iff.mpr h; omega
    · have := List.length_pos_iff.mpr h; omega
  refine ⟨l, ?_, List.length_pos_iff.mp (by omega), by omega⟩
  have hbl : below C.length (.lst (l.map qD)) = true := by
    have := below_lD C.length l
    rw [lD_eq, below] at this
    rw [below]
    exact this
  refine run_ret [some (kD a b c), none, none] (fn := Lk02.f21) (d := .lst (l.map qD)) (S := ⟨[some (kD a b c), none, none], C⟩) rfl rfl rfl (exs_ret ?_) (end_ok rfl hbl hb)
  generalize (((b.map fun s => (s, ("with" : PySem.Str))) ++ (c.map fun s => (s, ("out" : PySem.Str)))) ++ (c.map fun s => (s, ("in" : PySem.Str)))).map qD = M3 at *
  generalize ((b.map fun s => (s, ("with" : PySem.Str))) ++ (c.map fun s => (s, ("out" : PySem.Str)))).map qD = M2 at *
  generalize (b.map fun s => (s, ("with" : PySem.Str))).map qD = B1 at *
  generalize (c.map fun s => (s, ("out" : PySem.Str))).map qD = B2 at *
  generalize (c.map fun s => (s, ("in" : PySem.Str))).map qD = B3 at *
  generalize l.map qD = LL at *
  generalize kD a b c = KK at *
  generalize hx1 : (ME.lc [2] (.v 2) 0 [.idx (.var 0) (.k (.int 1))] [] (.tup [.var 2, .k (.str "with")])) = x1 at *
  generalize hx2 : (ME.lc [1] (.v 1) 0 [.idx (.var 0) (.k (.int 2))] [] (.tup [.var 1, .k (.str "out")])) = x2 at *
  generalize hx3 : (ME.lc [1] (.v 1) 0 [.idx (.var 0) (.k (.int 2))] [] (.tup [.var 1, .k (.str "in")])) = x3 at *
  simp [isOwn, tmp, view, frz, ex, aw, ev, evvs, evbs, evas, evo, evc, evT, vw, bw, slot, rd, setS, PM.R.bind, asgTg, asB, asI, ofO, setTg, setTgs, PM.R.bind_ok, h1, h2, h3, binD, a1, a2, e]
end
end Mk
end

section
set_option Elab.async false
set_option linter.all false
open PySem PM
namespace Mk
theorem join_len (g : PySem.Str) (hg : g.cps.size = 0) (ps : List PySem.Str) (h : ∀ p ∈ ps, p.cps.size = 1) : (joinS g ps).length ≤ ps.length := by
  have fl : ∀ (ps : List PySem.Str) (acc : Array Nat), (∀ p ∈ ps, p.cps.size = 1) → (ps.foldl (fun acc p => acc ++ g.cps ++ p.cps) acc).size = acc.size + ps.length := by
    intro ps
    induction ps with
    | nil => intro acc _; rfl
    | cons p ps ih =>
      intro acc h
      have hp := h p List.mem_cons_self
      rw [List.foldl_cons, ih _ fun q hq => h q (List.mem_cons_of_mem _ hq), Array.size_append, Array.size_append, hg, hp, List.length_cons]
      omega
  show ((ps.drop 1).foldl (fun acc p => acc ++ g.cps ++ p.cps) (ps.headD PySem.Str.empty).cps).size ≤ ps.length
  cases ps with
  | nil => exact Nat.le_refl _
  | cons p ps =>
    have hp := h p List.mem_cons_self
    show ((ps).foldl (fun acc p => acc ++ g.cps ++ p.cps) p.cps).size ≤ (p :: ps).length
    rw [fl ps p.cps fun q hq => h q (List.mem_cons_of_mem _ hq), hp, List.length_cons]
    omega
theorem lensum_one : ∀ ps : List PySem.Str, (∀ p ∈ ps, p.cps.size = 1) → lensum ps = ps.length
  | [], _ => rfl
  | p :: ps, h => by
    have hp : p.length = 1 := h p List.mem_cons_self
    rw [lensum, hp, lensum_one ps fun q hq => h q (List.mem_cons_of_mem _ hq), List.length_cons]
    omega
def chs : List D := ("stuvwxyz" : PySem.Str).cps.toList.map fun c => .str ⟨#[c]⟩
theorem chs_ne : chs ≠ [] := by
  have : ("stuvwxyz" : PySem.Str).cps.toList ≠ [] := by decide +kernel
  unfold chs
  simpa using this
theorem chs_len : chs.length < 100 := by
  unfold chs
  rw [List.length_map]
  decide +kernel
section
variable (F : Fields) (n : Nat)
theorem letters_loop (x1 : Option D) : ∀ (l : List Int) (acc : List PySem.Str) (x2 : Option D) (cs : List Int) (mix : Int), cs.length ≤ 100 → acc.length + l.length < 1000 → (∀ p ∈ acc, p.cps.size = 1) →
    ∃ (ss : List PySem.Str) (y2 : Option D) (cs' : List Int) (mix' : Int), lcL [2] (.v 2) (fun S => evc F (PM.run F Lk02.P (n + 2)) [] S) (fun S => vw (ev F (PM.run F Lk02.P (n + 2)) (.call 11 [.var 0, .prim .list1 [.k (.str "stuvwxyz")]]) S)) (isD l) (sD acc) ⟨[some (.ref 1), x1, x2], Hp cs mix⟩ = .ok (sD ss, ⟨[some (.ref 1), x1, y2], Hp cs' mix'⟩) ∧ ss.length = acc.length + l.length ∧ (∀ p ∈ ss, p.cps.size = 1) ∧ cs'.length ≤ 100 := by
  intro l
  induction l with
  | nil =>
    intro acc x2 cs mix hc _ ha
    exact ⟨acc, x2, cs, mix, rfl, by simp, ha, hc⟩
  | cons t l ih =>
    intro acc x2 cs mix hc hl ha
    rw [List.length_cons] at hl
    obtain ⟨d, cs1, mix1, w, hd, hc1⟩ := of_ok F n false chs chs_ne (by have := chs_len; omega) (fun d hd => by
      obtain ⟨c, _, rfl⟩ := List.mem_map.mp hd
      exact fz_str _) cs mix hc
    obtain ⟨c, _, rfl⟩ := List.mem_map.mp hd
    obtain ⟨ss, y2, cs', mix', q, q1, q2, q3⟩ := ih (acc ++ [⟨#[c]⟩]) (some (.int t)) cs1 mix1 hc1 (by rw [List.length_append, List.length_singleton]; omega) (fun p hp => by
      rcases List.mem_append.mp hp with z | z
      · exact ha p z
      · rw [List.mem_singleton] at z; subst z; rfl)
    refine ⟨ss, y2, cs', mix', ?_, by rw [q1, List.length_append, List.length_singleton, List.length_cons]; omega, q2, q3⟩
    have hz : (sD acc).length < LIM := by rw [LIM_eq]; simp [sD]; omega
    have ea : sD acc ++ [.str ⟨#[c]⟩] = sD (acc ++ [⟨#[c]⟩]) := by simp [sD]
    have e2 : setTg (.v 2) (.int t) (wipeL [some (.ref 1), x1, x2] [2]) = some [some (.ref 1), x1, some (.int t)] := by simp [setTg, wipeL]
    have l1 : primD .list1 [.str "stuvwxyz"] = some (.nl chs) := by
      have : ("stuvwxyz" : PySem.Str).length < LIM := by rw [LIM_eq]; decide +kernel
      simp only [primD, this, if_true]
      rfl
    have w' : PM.run F Lk02.P (n + 2) 11 [.ref 1, .lst chs] (Hp cs mix) = .ok (.str ⟨#[c]⟩, Hp cs1 mix1) := w
    have e1 : vw (ev F (PM.run F Lk02.P (n + 2)) (.call 11 [.var 0, .prim .list1 [.k (.str "stuvwxyz")]]) ⟨[some (.ref 1), x1, some (.int t)], Hp cs mix⟩) = .ok (.str ⟨#[c]⟩, ⟨[some (.ref 1), x1, some (.int t)], Hp cs1 mix1⟩) := by
      generalize chs = CH at *
      generalize PM.run F Lk02.P (n + 2) = cl at *
      simp [isOwn, tmp, view, frz, ex, aw, ev, evvs, evbs, evas, evo, evc, evT, vw, bw, slot, rd, setS, PM.R.bind, asgTg, asB, asI, ofO, setTg, setTgs, PM.R.bind_ok, l1, w']
    have q' := q
    rw [← ea] at q'
    generalize PM.run F Lk02.P (n + 2) = cl at *
    generalize (ME.call 11 [.var 0, .prim .list1 [.k (.str "stuvwxyz")]]) = elt at *
    exact lcL_step (d := .int t) (v := .str ⟨#[c]⟩) (ds := isD l) (acc := sD acc) (L := [some (.ref 1), x1, some (.int t)]) e2 rfl e1 hz q'
theorem name_ok (k : Nat) (hk : k < 18) (cs : List Int) (mix : Int) (hc : cs.length ≤ 100) : ∃ (s : PySem.Str) (cs' : List Int) (mix' : Int), PM.run F Lk02.P (n + 3) 16 [.ref 1, .int (k : Nat)] (Hp cs mix) = .ok (.str s, Hp cs' mix') ∧ cs'.length ≤ 100 := by
  obtain ⟨r, cs1, mix1, w1, r0, r1, hc1⟩ := any_ok F (n + 1) 8 (by decide) (by decide) cs mix hc
  obtain ⟨m, rfl⟩ : ∃ m : Nat, r = (m : Nat) := ⟨r.toNat, by omega⟩
  obtain ⟨ss, y2, cs2, mix2, q, q1, q2, q3⟩ := letters_loop F n (some (.int (k : Nat))) (rgI 0 m) [] none cs1 mix1 hc1 (by rw [length_rgI]; simp; omega) (by simp)
  rw [length_rgI, List.length_nil, Nat.zero_add] at q1
  rw [show sD [] = [] from rfl] at q
  have a1 : fitI ((m : Nat) : Int) = true := (fitI_is _).mpr (by omega)
  have i1 : itemsD 1 [.int (m : Nat)] = some (isD (rgI 0 m)) := by simp only [itemsD, a1, if_true, rangeD_isD]
  have e0 : evvs F (PM.run F Lk02.P (n + 2)) [.call 10 [.var 0, .k (.int 8)]] ⟨[some (.ref 1), some (.int (k : Nat)), none], Hp cs mix⟩ = .ok ([.int (m : Nat)], ⟨[some (.ref 1), some (.int (k : Nat)), none], Hp cs1 mix1⟩) := by
    clear q
    generalize PM.run F Lk02.P (n + 2) = cl at *
    simp [isOwn, tmp, view, frz, ex, aw, ev, evvs, evbs, evas, evo, evc, evT, vw, bw, slot, rd, setS, PM.R.bind, asgTg, asB, asI, ofO, setTg, setTgs, PM.R.bind_ok, w1]
  have w0 : wipeL [some (.ref 1), some (.int (k : Nat)), none] [2] = [some (.ref 1), some (.int (k : Nat)), none] := rfl
  have r0 : restL [some (.ref 1), some (.int (k : Nat)), none] [2] [some (.ref 1), some (.int (k : Nat)), y2] = [some (.ref 1), some (.int (k : Nat)), none] := rfl
  have o0 : noOwn [some (.ref 1), some (.int (k : Nat)), none] [2] = true := rfl
  have hlc : ev F (PM.run F Lk02.P (n + 2)) (.lc [2] (.v 2) 1 [.call 10 [.var 0, .k (.int 8)]] [] (.call 11 [.var 0, .prim .list1 [.k (.str "stuvwxyz")]])) ⟨[some (.ref 1), some (.int (k : Nat)), none], Hp cs mix⟩ = .ok (.nl (sD ss), ⟨[some (.ref 1), some (.int (k : Nat)), none], Hp cs2 mix2⟩) := by
    clear w1
    generalize PM.run F Lk02.P (n + 2) = cl at *
    generalize isD (rgI 0 m) = ds at *
    generalize (ME.call 11 [.var 0, .prim .list1 [.k (.str "stuvwxyz")]]) = elt at *
    have h := ev_lc_st (F := F) (call := cl) (S := ⟨[some (.ref 1), some (.int (k : Nat)), none], Hp cs mix⟩) (S1 := ⟨[some (.ref 1), some (.int (k : Nat)), none], Hp cs1 mix1⟩) (S2 := ⟨[some (.ref 1), some (.int (k : Nat)), y2], Hp cs2 mix2⟩) (own := [2]) (tg := .v 2) (k := 1) (its := [.call 10 [.var 0, .k (.int 8)]]) (cond := []) (elt := elt) (ds := ds) (out := sD ss) e0 i1 o0 (by rw [w0]; exact q)
    rw [r0] at h
    exact h
  have hsz : ("abcdefghijklmnopqr" : PySem.Str).length = 18 := by decide +kernel
  have ix : ∃ c : Nat, idxD (.str "abcdefghijklmnopqr") (.int (k : Nat)) = some (.str ⟨#[c]⟩) := by
    have hL : ("abcdefghijklmnopqr" : PySem.Str).length < LIM := by rw [hsz, LIM_eq]; decide
    have hk' : k < ("abcdefghijklmnopqr" : PySem.Str).cps.toList.length := by
      rw [Array.length_toList]
      show k < ("abcdefghijklmnopqr" : PySem.Str).length
      omega
    have hx : L2.ixN ("abcdefghijklmnopqr" : PySem.Str).length ((k : Nat) : Int) = some k := ixN_nat (by omega)
    refine ⟨("abcdefghijklmnopqr" : PySem.Str).cps.toList[k], ?_⟩
    simp only [idxD, hL, if_true, strAt]
    unfold ixD
    rw [hx, Option.bind_some, List.getElem?_eq_getElem hk']
    rfl
  obtain ⟨c, ix⟩ := ix
  have jn : primD .join [.str "", .lst (sD ss)] = some (.str (joinS "" ss)) := by
    have : lensum ss + ss.length * ("" : PySem.Str).length < LIM := by
      rw [lensum_one ss q2, LIM_eq, show ("" : PySem.Str).length = 0 from by decide +kernel]
      omega
    simp only [primD, strsOf_sD, Option.bind_some, this, if_true]
  have jl := join_len "" (by decide +kernel) ss q2
  have ad : addD (.str ⟨#[c]⟩) (.str (joinS "" ss)) = some (.str (⟨#[c]⟩ ++ joinS "" ss)) := by
    have : (⟨#[c]⟩ : PySem.Str).length + (joinS "" ss).length < LIM := by
      rw [LIM_eq, show (⟨#[c]⟩ : PySem.Str).length = 1 from rfl]
      omega
    simp only [addD, this, if_true]
  refine ⟨⟨#[c]⟩ ++ joinS "" ss, cs2, mix2, ?_, q3⟩
  generalize (⟨#[c]⟩ : PySem.Str) ++ joinS "" ss = out at *
  generalize joinS "" ss = J at *
  refine run_ret [some (.ref 1), some (.int (k : Nat)), none] (fn := Lk02.f16) (d := .str out) (S := ⟨[some (.ref 1), some (.int (k : Nat)), none], Hp cs2 mix2⟩) rfl rfl rfl (exs_ret ?_) (end_Hp _ _ _ _ _ rfl)
  clear q e0 w1 i1 a1 jl
  generalize PM.run F Lk02.P (n + 2) = cl at *
  generalize ME.lc _ _ _ _ _ _ = le at *
  generalize sD ss = SS at *
  generalize ((k : Nat) : Int) = kk at *
  simp [isOwn, tmp, view, frz, ex, aw, ev, evvs, evbs, evas, evo, evc, evT, vw, bw, slot, rd, setS, PM.R.bind, asgTg, asB, asI, ofO, setTg, setTgs, PM.R.bind_ok, ix, hlc, recvOk, jn, binD, ad]
end
end Mk
end

section
set_option Elab.async false
set_option linter.all false
open PySem PM
namespace Mk
theorem slice_sD (ss : List PySem.Str) (lo hi : Option Int) : sliceL (sD ss) lo hi = sD (sliceL ss lo hi) := by
  unfold sliceL sD
  rw [List.length_map, List.map_take, List.map_drop]
theorem slice_len {α : Type} (xs : List α) (lo hi : Option Int) : (sliceL xs lo hi).length = min (HT.sIx xs.length xs.length hi - HT.sIx xs.length 0 lo) (xs.length - HT.sIx xs.length 0 lo) := by
  unfold sliceL
  rw [List.length_take, List.length_drop]
section
variable (F : Fields) (n : Nat)
theorem names_loop (s4 s5 s7 s1 s2 s3 : Option D) : ∀ (l : List D) (acc : List PySem.Str) (x6 : Option D) (cs : List Int) (mix : Int), cs.length ≤ 100 → acc.length + l.length < 1000 → (∀ d ∈ l, ∃ k : Nat, k < 18 ∧ d = .int (k : Nat)) →
    ∃ (ss : List PySem.Str) (y6 : Option D) (cs' : List Int) (mix' : Int), lcL [6] (.v 6) (fun S => evc F (PM.run F Lk02.P (n + 3)) [] S) (fun S => vw (ev F (PM.run F Lk02.P (n + 3)) (.call 16 [.var 0, .var 6]) S)) l (sD acc) ⟨[some (.ref 1), s1, s2, s3, s4, s5, x6, s7], Hp cs mix⟩ = .ok (sD ss, ⟨[some (.ref 1), s1, s2, s3, s4, s5, y6, s7], Hp cs' mix'⟩) ∧ ss.length = acc.length + l.length ∧ cs'.length ≤ 100 := by
  intro l
  induction l with
  | nil =>
    intro acc x6 cs mix hc _ _
    exact ⟨acc, x6, cs, mix, rfl, by simp, hc⟩
  | cons d l ih =>
    intro acc x6 cs mix hc hl hd
    rw [List.length_cons] at hl
    obtain ⟨k, hk, rfl⟩ := hd d List.mem_cons_self
    obtain ⟨s, cs1, mix1, w, hc1⟩ := name_ok F n k hk cs mix hc
    obtain ⟨ss, y6, cs', mix', q, q1, q3⟩ := ih (acc ++ [s]) (some (.int (k : Nat))) cs1 mix1 hc1 (by rw [List.length_append, List.length_singleton]; omega) (fun d h => hd d (List.mem_cons_of_mem _ h))
    refine ⟨ss, y6, cs', mix', ?_, by rw [q1, List.length_append, List.length_singleton, List.length_cons]; omega, q3⟩
    have hz : (sD acc).length < LIM := by rw [LIM_eq]; simp [sD]; omega
    have ea : sD acc ++ [.str s] = sD (acc ++ [s]) := by simp [sD]
    have e2 : setTg (.v 6) (.int (k : Nat)) (wipeL [some (.ref 1), s1, s2, s3, s4, s5, x6, s7] [6]) = some [some (.ref 1), s1, s2, s3, s4, s5, some (.int (k : Nat)), s7] := by simp [setTg, wipeL]
    have e1 : vw (ev F (PM.run F Lk02.P (n + 3)) (.call 16 [.var 0, .var 6]) ⟨[some (.ref 1), s1, s2, s3, s4, s5, some (.int (k : Nat)), s7], Hp cs mix⟩) = .ok (.str s, ⟨[some (.ref 1), s1, s2, s3, s4, s5, some (.int (k : Nat)), s7], Hp cs1 mix1⟩) := by
      generalize PM.run F Lk02.P (n + 3) = cl at *
      generalize ((k : Nat) : Int) = kk at *
      simp [isOwn, tmp, view, frz, ex, aw, ev, evvs, evbs, evas, evo, evc, evT, vw, bw, slot, rd, setS, PM.R.bind, asgTg, asB, asI, ofO, setTg, setTgs, PM.R.bind_ok, w]
    have q' := q
    rw [← ea] at q'
    generalize PM.run F Lk02.P (n + 3) = cl at *
    generalize (ME.call 16 [.var 0, .var 6]) = elt at *
    exact lcL_step (d := .int (k : Nat)) (v := .str s) (ds := l) (acc := sD acc) (L := [some (.ref 1), s1, s2, s3, s4, s5, some (.int (k : Nat)), s7]) e2 rfl e1 hz q'
theorem kind_ok2 (cs : List Int) (mix : Int) (hc : cs.length ≤ 100) : ∃ (a b c : List PySem.Str) (cs' : List Int) (mix' : Int), PM.run F Lk02.P (n + 4) 17 [.ref 1] (Hp cs mix) = .ok (kD a b c, Hp cs' mix') ∧ (b ≠ [] ∨ c ≠ []) ∧ a.length + b.length + c.length < 30 ∧ cs'.length ≤ 100 := by
  obtain ⟨ys, _, cs1, mix1, w1, yl, ym, hc1⟩ := mixed_ok F (n + 1) (isD (rgI 0 18)) (by rw [isD_length, length_rgI]; decide) (fun d hd => by
    obtain ⟨i, _, rfl⟩ := List.mem_map.mp hd
    exact fz_int i) cs mix hc
  rw [isD_length, length_rgI] at yl
  have hy4 : ∀ d ∈ ys.take 4, ∃ k : Nat, k < 18 ∧ d = .int (k : Nat) := fun d hd => by
    obtain ⟨i, hi, rfl⟩ := List.mem_map.mp (ym d (List.mem_of_mem_take hd))
    have := (mem_rgI 18 0 i).mp hi
    exact ⟨i.toNat, by omega, by congr 1; omega⟩
  obtain ⟨ss, y6, cs2, mix2, q, q1, hc2⟩ := names_loop F n none none none none none none (ys.take 4) [] none cs1 mix1 hc1 (by rw [List.length_take]; simp; omega) hy4
  rw [List.length_take, yl, List.length_nil] at q1
  have q1 : ss.length = 4 := by omega
  rw [show sD [] = [] from rfl] at q
  obtain ⟨mk, cs3, mix3, w3, m3, hc3⟩ := of_int F (n + 1) [0, 0, 1, 2] (by simp) (by simp) cs2 mix2 hc2
  obtain ⟨ti, cs4, mix4, w4, t4, hc4⟩ := of_int F (n + 1) [0, 1, 1, 1, 2] (by simp) (by simp) cs3 mix3 hc3
  have hm : 0 ≤ mk ∧ mk ≤ 2 := by simp at m3; omega
  have ht : 0 ≤ ti ∧ ti ≤ 2 := by simp at t4; omega
  obtain ⟨m, rfl⟩ : ∃ m : Nat, mk = (m : Nat) := ⟨mk.toNat, by omega⟩
  obtain ⟨t, rfl⟩ : ∃ t : Nat, ti = (t : Nat) := ⟨ti.toNat, by omega⟩
  have har : ∃ (ar : Nat) (cs5 : List Int) (mix5 : Int), ev F (PM.run F Lk02.P (n + 3)) (.ite (.cmp .gt (.var 1) (.k (.int (0)))) (.call 10 [.var 0, .bin .sub (.k (.int (3))) (.var 1)]) (.bin .add (.k (.int (1))) (.call 10 [.var 0, .k (.int (2))]))) ⟨[some (.ref 1), some (.int (t : Nat)), none, none, some (.nl (sD ss)), some (.int (m : Nat)), none, none], Hp cs4 mix4⟩ = .ok (.int (ar : Nat), ⟨[some (.ref 1), some (.int (t : Nat)), none, none, some (.nl (sD ss)), some (.int (m : Nat)), none, none], Hp cs5 mix5⟩) ∧ (t = 0 → 1 ≤ ar) ∧ ar ≤ 10 ∧ cs5.length ≤ 100 := by
    have gt : ∀ a b : Int, cmpD .gt (.int a) (.int b) = some (decide (b < a)) := fun _ _ => rfl
    by_cases e : t = 0
    · subst e
      obtain ⟨r, cs5, mix5, w5, r0, r1, hc5⟩ := any_ok F (n + 2) 2 (by decide) (by decide) cs4 mix4 hc4
      obtain ⟨r, rfl⟩ : ∃ r' : Nat, r = (r' : Nat) := ⟨r.toNat, by omega⟩
      refine ⟨1 + r, cs5, mix5, ?_, fun _ => by omega, by omega, hc5⟩
      have ad : addD (.int 1) (.int (r : Nat)) = some (.int ((1 + r : Nat) : Int)) := by
        show some (D.int _) = _
        congr 2
      generalize ((1 + r : Nat) : Int) = rr at *
      generalize PM.run F Lk02.P (n + 3) = cl at *
      generalize sD ss = SS at *
      simp [isOwn, tmp, view, frz, ex, aw, ev, evvs, evbs, evas, evo, evc, evT, vw, bw, slot, rd, setS, PM.R.bind, asgTg, asB, asI, ofO, setTg, setTgs, PM.R.bind_ok, gt, w5, binD, ad]
    · have hp : (0 : Int) < (t : Nat) := by omega
      obtain ⟨r, cs5, mix5, w5, r0, r1, hc5⟩ := any_ok F (n + 2) (3 - (t : Nat)) (by omega) (by omega) cs4 mix4 hc4
      obtain ⟨r, rfl⟩ : ∃ r' : Nat, r = (r' : Nat) := ⟨r.toNat, by omega⟩
      refine ⟨r, cs5, mix5, ?_, fun h => absurd h e, by omega, hc5⟩
      have sb : subD (.int 3) (.int (t : Nat)) = some (.int (3 - (t : Nat))) := rfl
      have hp2 : 0 < t := by omega
      generalize (3 - ((t : Nat) : Int)) = q3 at *
      generalize PM.run F Lk02.P (n + 3) = cl at *
      generalize sD ss = SS at *
      simp [isOwn, tmp, view, frz, ex, aw, ev, evvs, evbs, evas, evo, evc, evT, vw, bw, slot, rd, setS, PM.R.bind, asgTg, asB, asI, ofO, setTg, setTgs, PM.R.bind_ok, gt, hp, hp2, w5, binD, sb]
  obtain ⟨ar, cs5, mix5, w5, ar1, ar2, hc5⟩ := har
  -- the rows
  generalize ha0 : sliceL ss none (some ((m : Nat) : Int)) = a0
  generalize hb0 : sliceL ss (some ((m : Nat) : Int)) (some ((m + t : Nat) : Int)) = b0
  generalize hc0' : sliceL ss (some ((m + t : Nat) : Int)) none = d0
  generalize hc0 : sliceL (d0 ++ [("zzarrows" : PySem.Str), ("zzways" : PySem.Str)]) none (some ((ar : Nat) : Int)) = c0
  have la : a0.length ≤ 4 := by rw [← ha0, slice_len, q1]; show min _ _ ≤ 4; exact Nat.le_trans (Nat.min_le_right _ _) (by omega)
  have lb : b0.length = t := by
    rw [← hb0, slice_len, q1, HT.sIx_nat, HT.sIx_nat]
    omega
  have ld : d0.length ≤ 4 := by rw [← hc0', slice_len, q1]; exact Nat.le_trans (Nat.min_le_right _ _) (by omega)
  have lc : c0.length = min ar (d0.length + 2) := by
    rw [← hc0, slice_len, HT.sIx_nat]
    show min (min ar _ - 0) (_ - 0) = _
    simp
  obtain ⟨a, ea, eal⟩ := sort_strs a0
  obtain ⟨b, eb, ebl⟩ := sort_strs b0
  obtain ⟨c, ec, ecl⟩ := sort_strs c0
  refine ⟨a, b, c, cs5, mix5, ?_, ?_, by omega, hc5⟩
  rotate_left
  · by_cases e : t = 0
    · refine .inr (List.length_pos_iff.mp ?_)
      have := ar1 e
      omega
    · exact .inl (List.length_pos_iff.mp (by omega))
  have hbl : below 2 (kD a b c) = true := by
    have : ∀ l : List PySem.Str, belows 2 (sD l) = true := by
      intro l
      induction l with
      | nil => rfl
      | cons s l ih => show belows 2 (.str s :: sD l) = true; rw [belows, ih]; rfl
    simp [kD, below, belows, this]
  refine run_ret [some (.ref 1), none, none, none, none, none, none, none] (fn := Lk02.f17) (d := kD a b c) (S := ⟨[some (.ref 1), some (.int (t : Nat)), some (.int (ar : Nat)), some (.lst [.lst (sD a0), .lst (sD b0), .lst (sD c0)]), some (.nl (sD ss)), some (.int (m : Nat)), none, none], Hp cs5 mix5⟩) rfl rfl rfl ?_ (end_Hp _ _ _ _ _ hbl)
  refine exs_nx (S1 := ⟨[some (.ref 1), none, none, none, some (.nl (sD ss)), some (.int (m : Nat)), none, none], Hp cs3 mix3⟩) ?_ (exs_nx (S1 := ⟨[some (.ref 1), some (.int (t : Nat)), none, none, some (.nl (sD ss)), some (.int (m : Nat)), none, none], Hp cs4 mix4⟩) ?_ (exs_nx (S1 := ⟨[some (.ref 1), some (.int (t : Nat)), some (.int (ar : Nat)), none, some (.nl (sD ss)), some (.int (m : Nat)), none, none], Hp cs5 mix5⟩) ?_ (exs_nx (S1 := ⟨[some (.ref 1), some (.int (t : Nat)), some (.int (ar : Nat)), some (.nl [.lst (sD a0), .lst (sD b0), .lst (sD c0)]), some (.nl (sD ss)), some (.int (m : Nat)), none, none], Hp cs5 mix5⟩) ?_ (exs_ret ?_))))
  · clear w4 w5
    have lr : primD .listR1 [.int 18] = some (.nl (isD (rgI 0 18))) := by
      have a1 : fitI 18 = true := (fitI_is _).mpr (by decide)
      have a2 : (18 : Int) < (LIM : Nat) := by rw [LIM_eq]; decide
      have a3 : rangeD 0 18 = isD (rgI 0 18) := rangeD_isD 18
      simp only [primD, a1, a2, a3, decide_true, Bool.and_self, if_true]
    have sl : sliceD (.lst ys) none (some 4) = some (.nl (ys.take 4)) := by
      show some (D.nl (sliceL ys none (some ((4 : Nat) : Int)))) = _
      rw [slice_to]
    have i0 : isD [0, 0, 1, 2] = [.int 0, .int 0, .int 1, .int 2] := rfl
    rw [i0] at w3
    have e0 : evvs F (PM.run F Lk02.P (n + 3)) [.slice (.call 15 [.var 0, .prim .listR1 [.k (.int 18)]]) none (some (.k (.int 4)))] ⟨[some (.ref 1), none, none, none, none, none, none, none], Hp cs mix⟩ = .ok ([.lst (ys.take 4)], ⟨[some (.ref 1), none, none, none, none, none, none, none], Hp cs1 mix1⟩) := by
      clear q w3
      generalize isD (rgI 0 18) = RR at *
      generalize ys.take 4 = Y4 at *
      generalize PM.run F Lk02.P (n + 3) = cl at *
      simp [isOwn, tmp, view, frz, ex, aw, ev, evvs, evbs, evas, evo, evc, evT, vw, bw, slot, rd, setS, PM.R.bind, asgTg, asB, asI, ofO, setTg, setTgs, PM.R.bind_ok, lr, w1, sl]
    have hlc : ev F (PM.run F Lk02.P (n + 3)) (.lc [6] (.v 6) 0 [.slice (.call 15 [.var 0, .prim .listR1 [.k (.int 18)]]) none (some (.k (.int 4)))] [] (.call 16 [.var 0, .var 6])) ⟨[some (.ref 1), none, none, none, none, none, none, none], Hp cs mix⟩ = .ok (.nl (sD ss), ⟨[some (.ref 1), none, none, none, none, none, none, none], Hp cs2 mix2⟩) := by
      clear w1 w3
      have h := ev_lc_st (F := F) (call := PM.run F Lk02.P (n + 3)) (S := ⟨[some (.ref 1), none, none, none, none, none, none, none], Hp cs mix⟩) (S1 := ⟨[some (.ref 1), none, none, none, none, none, none, none], Hp cs1 mix1⟩) (S2 := ⟨[some (.ref 1), none, none, none, none, none, y6, none], Hp cs2 mix2⟩) (own := [6]) (tg := .v 6) (k := 0) (its := [.slice (.call 15 [.var 0, .prim .listR1 [.k (.int 18)]]) none (some (.k (.int 4)))]) (cond := []) (elt := .call 16 [.var 0, .var 6]) (ds := ys.take 4) (out := sD ss) e0 rfl rfl q
      exact h
    clear q e0 w1
    generalize PM.run F Lk02.P (n + 3) = cl at *
    generalize ME.lc _ _ _ _ _ _ = le at *
    generalize sD ss = SS at *
    generalize ((m : Nat) : Int) = mm at *
    simp [isOwn, tmp, view, frz, ex, aw, ev, evvs, evbs, evas, evo, evc, evT, vw, bw, slot, rd, setS, PM.R.bind, asgTg, asB, asI, ofO, setTg, setTgs, PM.R.bind_ok, hlc, w3, setMany]
  · clear w1 w3 w5 q
    have i0 : isD [0, 1, 1, 1, 2] = [.int 0, .int 1, .int 1, .int 1, .int 2] := rfl
    rw [i0] at w4
    generalize PM.run F Lk02.P (n + 3) = cl at *
    generalize sD ss = SS at *
    generalize ((m : Nat) : Int) = mm at *
    generalize ((t : Nat) : Int) = tt at *
    simp [isOwn, tmp, view, frz, ex, aw, ev, evvs, evbs, evas, evo, evc, evT, vw, bw, slot, rd, setS, PM.R.bind, asgTg, asB, asI, ofO, setTg, setTgs, PM.R.bind_ok, w4]
  · exact ex_asg w5 rfl (by simp)
  · clear w1 w3 w4 w5 q
    have s1 : sliceD (.lst (sD ss)) none (some ((m : Nat) : Int)) = some (.nl (sD a0)) := by
      show some (D.nl (sliceL _ _ _)) = _
      rw [slice_sD, ha0]
    have s2 : sliceD (.lst (sD ss)) (some ((m : Nat) : Int)) (some ((m + t : Nat) : Int)) = some (.nl (sD b0)) := by
      show some (D.nl (sliceL _ _ _)) = _
      rw [slice_sD, hb0]
    have s3 : sliceD (.lst (sD ss)) (some ((m + t : Nat) : Int)) none = some (.nl (sD d0)) := by
      show some (D.nl (sliceL _ _ _)) = _
      rw [slice_sD, hc0']
    have a1 := add_lists (sD d0) [.str "zzarrows", .str "zzways"] (by simp [sD]; omega)
    have e1 : sD d0 ++ [.str "zzarrows", .str "zzways"] = sD (d0 ++ [("zzarrows" : PySem.Str), ("zzways" : PySem.Str)]) := by simp [sD]
    rw [e1] at a1
    have s4 : sliceD (.lst (sD (d0 ++ [("zzarrows" : PySem.Str), ("zzways" : PySem.Str)]))) none (some ((ar : Nat) : Int)) = some (.nl (sD c0)) := by
      show some (D.nl (sliceL _ _ _)) = _
      rw [slice_sD, hc0]
    have ad : addD (.int (m : Nat)) (.int (t : Nat)) = some (.int ((m + t : Nat) : Int)) := rfl
    generalize PM.run F Lk02.P (n + 3) = cl at *
    generalize sD (d0 ++ [("zzarrows" : PySem.Str), ("zzways" : PySem.Str)]) = S5 at *
    generalize sD d0 = S6 at *
    generalize sD ss = SS at *
    generalize sD a0 = A0 at *
    generalize sD b0 = B0 at *
    generalize sD c0 = C0 at *
    generalize ((m + t : Nat) : Int) = mt at *
    generalize ((m : Nat) : Int) = mm at *
    generalize ((t : Nat) : Int) = tt at *
    generalize ((ar : Nat) : Int) = aa at *
    simp [isOwn, tmp, view, frz, ex, aw, ev, evvs, evbs, evas, evo, evc, evT, vw, bw, slot, rd, setS, PM.R.bind, asgTg, asB, asI, ofO, setTg, setTgs, PM.R.bind_ok, s1, s2, s3, s4, binD, a1, ad]
  · have hlc := ev_lc (F := F) (call := PM.run F Lk02.P (n + 3)) (S := ⟨[some (.ref 1), some (.int (t : Nat)), some (.int (ar : Nat)), some (.nl [.lst (sD a0), .lst (sD b0), .lst (sD c0)]), some (.nl (sD ss)), some (.int (m : Nat)), none, none], Hp cs5 mix5⟩) (S1 := ⟨[some (.ref 1), some (.int (t : Nat)), some (.int (ar : Nat)), some (.lst [.lst (sD a0), .lst (sD b0), .lst (sD c0)]), some (.nl (sD ss)), some (.int (m : Nat)), none, none], Hp cs5 mix5⟩) (own := [7]) (tg := .v 7) (k := 0) (its := [.var 3]) (cond := []) (elt := .prim .tuple1 [.prim .sorted1 [.var 7]]) (vals := [.lst [.lst (sD a0), .lst (sD b0), .lst (sD c0)]]) (ds := [(a0, a), (b0, b), (c0, c)]) (g := fun p => .lst (sD p.1)) (c := fun _ => true) (f := fun p => .tup (sD p.2)) (Ld := fun p => [some (.ref 1), some (.int (t : Nat)), some (.int (ar : Nat)), some (.lst [.lst (sD a0), .lst (sD b0), .lst (sD c0)]), some (.nl (sD ss)), some (.int (m : Nat)), none, some (.lst (sD p.1))]) (by
      generalize Hp cs5 mix5 = H
      generalize sD ss = SS at *
      generalize sD a0 = A0 at *
      generalize sD b0 = B0 at *
      generalize sD c0 = C0 at *
      simp [isOwn, tmp, view, frz, ex, aw, ev, evvs, evbs, evas, evo, evc, evT, vw, bw, slot, rd, setS, PM.R.bind, asgTg, asB, asI, ofO, setTg, setTgs, PM.R.bind_ok]) rfl (by
      generalize sD ss = SS at *
      simp [isOwn, tmp, view, frz, ex, aw, ev, evvs, evbs, evas, evo, evc, evT, vw, bw, slot, rd, setS, PM.R.bind, asgTg, asB, asI, ofO, binD, add_ii, subD, cmpD, primD, itemsD, setTg, setTgs, wipeL, noOwn, idxD, sliceD, revD, PM.R.bind_ok]) (by rw [LIM_eq]; simp) (by
      intro p hp
      have hs : primD .sorted1 [.lst (sD p.1)] = some (.nl (sD p.2)) := by
        simp only [List.mem_cons, List.not_mem_nil, or_false] at hp
        rcases hp with rfl | rfl | rfl
        · exact ea
        · exact eb
        · exact ec
      have pt : ∀ A : List D, primD .tuple1 [.lst A] = some (.tup A) := fun _ => rfl
      generalize Hp cs5 mix5 = H
      generalize sD ss = SS at *
      generalize sD p.1 = P1 at *
      generalize sD p.2 = P2 at *
      generalize sD a0 = A0 at *
      generalize sD b0 = B0 at *
      generalize sD c0 = C0 at *
      simp [isOwn, tmp, view, frz, ex, aw, ev, evvs, evbs, evas, evo, evc, evT, vw, bw, slot, rd, setS, PM.R.bind, asgTg, asB, asI, ofO, setTg, setTgs, PM.R.bind_ok, hs, pt, wipeL])
    have ef : ((([(a0, a), (b0, b), (c0, c)] : List (List PySem.Str × List PySem.Str)).filter fun _ => true).map fun p => D.tup (sD p.2)) = [.tup (sD a), .tup (sD b), .tup (sD c)] := by simp
    rw [ef] at hlc
    clear w1 w3 w4 w5 q
    have pt : ∀ A : List D, primD .tuple1 [.lst A] = some (.tup A) := fun _ => rfl
    unfold kD
    generalize PM.run F Lk02.P (n + 3) = cl at *
    generalize ME.lc _ _ _ _ _ _ = le at *
    generalize Hp cs5 mix5 = H at *
    generalize sD ss = SS at *
    generalize sD a0 = A0 at *
    generalize sD b0 = B0 at *
    generalize sD c0 = C0 at *
    generalize sD a = A1 at *
    generalize sD b = B1 at *
    generalize sD c = C1 at *
    simp [isOwn, tmp, view, frz, ex, aw, ev, evvs, evbs, evas, evo, evc, evT, vw, bw, slot, rd, setS, PM.R.bind, asgTg, asB, asI, ofO, setTg, setTgs, PM.R.bind_ok, hlc, pt]
end
end Mk
end

section
set_option Elab.async false
set_option linter.all false
open PySem PM
namespace Mk
theorem fz_q (q : PySem.Str × PySem.Str) : Fz (qD q) := ⟨fun _ => rfl, fun _ => rfl⟩
theorem ex_map {α : Type} (f : α → D) : ∀ (m : List D), (∀ d ∈ m, ∃ s, d = f s) → ∃ l : List α, m = l.map f
  | [], _ => ⟨[], rfl⟩
  | d :: m, h => by
    obtain ⟨s, rfl⟩ := h d List.mem_cons_self
    obtain ⟨l, rfl⟩ := ex_map f m fun d hd => h d (List.mem_cons_of_mem _ hd)
    exact ⟨s :: l, rfl⟩
section
variable (F : Fields) (n : Nat) (a b c : List PySem.Str) (hbc : b ≠ [] ∨ c ≠ []) (hk : a.length + b.length + c.length < 30)
include hbc hk
theorem link_ok (cs : List Int) (mix : Int) (hc : cs.length ≤ 100) : ∃ (l : List (PySem.Str × PySem.Str)) (cs' : List Int) (mix' : Int), PM.run F Lk02.P (n + 3) 22 [.ref 1, kD a b c] (Hp cs mix) = .ok (lD l, Hp cs' mix') ∧ cs'.length ≤ 100 := by
  obtain ⟨l, w0, l0, l1⟩ := facts_ok F (n + 1) (Hp cs mix) (below_Hp cs mix) a b c hbc (by omega)
  obtain ⟨r, cs1, mix1, w1, r0, r1, hc1⟩ := any_ok F (n + 1) 3 (by decide) (by decide) cs mix hc
  have gt : ∀ a b : Int, cmpD .gt (.int a) (.int b) = some (decide (b < a)) := fun _ _ => rfl
  have fz : ∀ d ∈ l.map qD, Fz d := fun d hd => by
    obtain ⟨q, _, rfl⟩ := List.mem_map.mp hd
    exact fz_q q
  have hll : (l.map qD).length = l.length := List.length_map ..
  by_cases e : 0 < r
  · obtain ⟨d, cs2, mix2, w2, hd, hc2⟩ := of_ok F n false (l.map qD) (by simpa using l0) (by omega) fz cs1 mix1 hc1
    obtain ⟨q, _, rfl⟩ := List.mem_map.mp hd
    refine ⟨[q], cs2, mix2, ?_, hc2⟩
    refine run_ret [some (.ref 1), some (kD a b c), none] (fn := Lk02.f22) (d := lD [q]) (S := ⟨[some (.ref 1), some (kD a b c), some (.lst (l.map qD))], Hp cs2 mix2⟩) rfl rfl rfl ?_ (end_Hp _ _ _ _ _ (below_lD _ _))
    replace w2 : PM.run F Lk02.P (n + 2) 11 [.ref 1, .lst (l.map qD)] (Hp cs1 mix1) = .ok (qD q, Hp cs2 mix2) := w2
    generalize PM.run F Lk02.P (n + 2) = cl at *
    generalize l.map qD = LL at *
    simp only [kD] at w0 ⊢
    generalize sD a = A at *
    generalize sD b = B at *
    generalize sD c = CC at *
    refine exs_nx (S1 := ⟨[some (.ref 1), some (.tup [.tup A, .tup B, .tup CC]), some (.lst LL)], Hp cs mix⟩) ?_ (exs_ret ?_)
    · simp [isOwn, tmp, view, frz, ex, aw, ev, evvs, evbs, evas, evo, evc, evT, vw, bw, slot, rd, setS, PM.R.bind, asgTg, asB, asI, ofO, setTg, setTgs, PM.R.bind_ok, w0]
    · simp only [qD] at w2
      simp [isOwn, tmp, view, frz, ex, aw, ev, evvs, evbs, evas, evo, evc, evT, vw, bw, slot, rd, setS, PM.R.bind, asgTg, asB, asI, ofO, setTg, setTgs, PM.R.bind_ok, exs, w1, gt, e, w2, lD]
  · obtain ⟨ys, _, cs2, mix2, w2, yl, ym, hc2⟩ := mixed_ok F n (l.map qD) (by omega) fz cs1 mix1 hc1
    obtain ⟨l2, rfl⟩ := ex_map qD ys fun d hd => by
      obtain ⟨q, _, rfl⟩ := List.mem_map.mp (ym d hd)
      exact ⟨q, rfl⟩
    have hp : 0 < l.length := List.length_pos_iff.mpr l0
    obtain ⟨k, cs3, mix3, w3, k0, k1, hc3⟩ := any_ok F (n + 1) (l.length : Nat) (by omega) (by omega) cs2 mix2 hc2
    obtain ⟨k, rfl⟩ : ∃ k' : Nat, k = (k' : Nat) := ⟨k.toNat, by omega⟩
    obtain ⟨l3, e3, _⟩ := sort_pairs (l2.take (1 + k))
    refine ⟨l3, cs3, mix3, ?_, hc3⟩
    have pl : primD .len [.lst (l.map qD)] = some (.int (l.length : Nat)) := by
      show some (D.int (((l.map qD).length : Nat) : Int)) = _
      rw [hll]
    have ad : addD (.int 1) (.int (k : Nat)) = some (.int ((1 + k : Nat) : Int)) := by
      show some (D.int _) = _
      congr 2
    have sl : sliceD (.lst (l2.map qD)) none (some ((1 + k : Nat) : Int)) = some (.nl ((l2.take (1 + k)).map qD)) := by
      show some (D.nl (sliceL _ none (some ((1 + k : Nat) : Int)))) = _
      rw [slice_to, List.map_take]
    have pt : ∀ A : List D, primD .tuple1 [.lst A] = some (.tup A) := fun _ => rfl
    refine run_ret [some (.ref 1), some (kD a b c), none] (fn := Lk02.f22) (d := lD l3) (S := ⟨[some (.ref 1), some (kD a b c), some (.lst (l.map qD))], Hp cs3 mix3⟩) rfl rfl rfl ?_ (end_Hp _ _ _ _ _ (below_lD _ _))
    rw [lD_eq]
    generalize PM.run F Lk02.P (n + 2) = cl at *
    generalize (l2.take (1 + k)).map qD = L3 at *
    generalize l2.map qD = L2 at *
    generalize l3.map qD = L4 at *
    generalize l.map qD = LL at *
    generalize ((1 + k : Nat) : Int) = kk at *
    generalize ((l.length : Nat) : Int) = ll at *
    simp only [kD] at w0 ⊢
    generalize sD a = A at *
    generalize sD b = B at *
    generalize sD c = CC at *
    refine exs_nx (S1 := ⟨[some (.ref 1), some (.tup [.tup A, .tup B, .tup CC]), some (.lst LL)], Hp cs mix⟩) ?_ (exs_nx (S1 := ⟨[some (.ref 1), some (.tup [.tup A, .tup B, .tup CC]), some (.lst LL)], Hp cs1 mix1⟩) ?_ (exs_ret ?_))
    · simp [isOwn, tmp, view, frz, ex, aw, ev, evvs, evbs, evas, evo, evc, evT, vw, bw, slot, rd, setS, PM.R.bind, asgTg, asB, asI, ofO, setTg, setTgs, PM.R.bind_ok, w0]
    · simp [isOwn, tmp, view, frz, ex, aw, ev, evvs, evbs, evas, evo, evc, evT, vw, bw, slot, rd, setS, PM.R.bind, asgTg, asB, asI, ofO, setTg, setTgs, PM.R.bind_ok, exs, w1, gt, e]
    · simp [isOwn, tmp, view, frz, ex, aw, ev, evvs, evbs, evas, evo, evc, evT, vw, bw, slot, rd, setS, PM.R.bind, asgTg, asB, asI, ofO, setTg, setTgs, PM.R.bind_ok, w2, pl, w3, binD, ad, sl, e3, pt]
theorem leaf_ok (cs : List Int) (mix : Int) (hc : cs.length ≤ 100) : ∃ (m : Bool) (x : A) (cs' : List Int) (mix' : Int), PM.run F Lk02.P (n + 4) 23 [.ref 1, kD a b c] (Hp cs mix) = .ok (tD (.leaf m x), Hp cs' mix') ∧ cs'.length ≤ 100 := by
  have gt : ∀ a b : Int, cmpD .gt (.int a) (.int b) = some (decide (b < a)) := fun _ _ => rfl
  have fin : ∀ (cs1 : List Int) (mix1 : Int), cs1.length ≤ 100 → ∃ (x y : Int) (cs' : List Int) (mix' : Int), ex F (PM.run F Lk02.P (n + 3)) (.ret (.tup [.k (.str "number"), .call 11 [.var 0, .list [.tup [.k (.int (1)), .k (.int (1))], .tup [.k (.int (1)), .k (.int (1))], .call 20 [.var 0]]]])) ⟨[some (.ref 1), some (kD a b c)], Hp cs1 mix1⟩ = .ok (.ret (tD (.leaf false (.p x y))) ⟨[some (.ref 1), some (kD a b c)], Hp cs' mix'⟩) ∧ cs'.length ≤ 100 := fun cs1 mix1 hc1 => by
    obtain ⟨x, y, cs2, mix2, w2, hc2⟩ := number_ok F n cs1 mix1 hc1
    obtain ⟨d, cs3, mix3, w3, hd, hc3⟩ := of_ok F (n + 1) false [.tup [.int 1, .int 1], .tup [.int 1, .int 1], .tup [.int x, .int y]] (by simp) (by simp) (fun d hd => by
      simp only [List.mem_cons, List.not_mem_nil, or_false] at hd
      rcases hd with rfl | rfl | rfl
      · exact ⟨fun _ => rfl, fun _ => rfl⟩
      · exact ⟨fun _ => rfl, fun _ => rfl⟩
      · exact ⟨fun _ => rfl, fun _ => rfl⟩) cs2 mix2 hc2
    have hd2 : ∃ u v : Int, d = .tup [.int u, .int v] := by
      simp only [List.mem_cons, List.not_mem_nil, or_false] at hd
      rcases hd with rfl | rfl | rfl
      · exact ⟨_, _, rfl⟩
      · exact ⟨_, _, rfl⟩
      · exact ⟨_, _, rfl⟩
    obtain ⟨u, v, rfl⟩ := hd2
    refine ⟨u, v, cs3, mix3, ?_, hc3⟩
    replace w3 : PM.run F Lk02.P (n + 3) 11 [.ref 1, .lst [.tup [.int 1, .int 1], .tup [.int 1, .int 1], .tup [.int x, .int y]]] (Hp cs2 mix2) = .ok (.tup [.int u, .int v], Hp cs3 mix3) := w3
    generalize PM.run F Lk02.P (n + 3) = cl at *
    generalize kD a b c = KK
    simp [isOwn, tmp, view, frz, ex, aw, ev, evvs, evbs, evas, evo, evc, evT, vw, bw, slot, rd, setS, PM.R.bind, asgTg, asB, asI, ofO, setTg, setTgs, PM.R.bind_ok, w2, w3, tD, aD]
  by_cases ha : a = []
  · obtain ⟨x, y, cs', mix', w, hc'⟩ := fin cs mix hc
    refine ⟨false, .p x y, cs', mix', ?_, hc'⟩
    refine run_ret [some (.ref 1), some (kD a b c)] (fn := Lk02.f23) (d := tD (.leaf false (.p x y))) (S := ⟨[some (.ref 1), some (kD a b c)], Hp cs' mix'⟩) rfl rfl rfl (exs_nx (S1 := ⟨[some (.ref 1), some (kD a b c)], Hp cs mix⟩) ?_ (exs_ret w)) (end_Hp _ _ _ _ _ (below_tD _ _))
    have pl : primD .len [.tup []] = some (.int 0) := rfl
    clear w fin
    subst ha
    simp only [kD, show sD [] = [] from rfl]
    generalize sD b = B
    generalize sD c = CC
    simp [isOwn, tmp, view, frz, ex, aw, ev, evvs, evbs, evas, evo, evc, evT, vw, bw, slot, rd, setS, PM.R.bind, asgTg, asB, asI, ofO, setTg, setTgs, PM.R.bind_ok, exs, tup_idx0, pl, gt]
  · have pl : primD .len [.tup (sD a)] = some (.int (a.length : Nat)) := by
      show some (D.int (((sD a).length : Nat) : Int)) = _
      simp [sD]
    have hp : (0 : Int) < (a.length : Nat) := by
      have := List.length_pos_iff.mpr ha
      omega
    obtain ⟨r, cs1, mix1, w1, r0, r1, hc1⟩ := any_ok F (n + 2) 2 (by decide) (by decide) cs mix hc
    have eq := eq_ii r 0
    by_cases e : r = 0
    · obtain ⟨d, cs2, mix2, w2, hd, hc2⟩ := of_ok F (n + 1) true (sD a) (by simpa [sD] using ha) (by simp [sD]; omega) (fun d hd => by
        obtain ⟨q, _, rfl⟩ := List.mem_map.mp hd
        exact fz_str q) cs1 mix1 hc1
      obtain ⟨q, _, rfl⟩ := List.mem_map.mp hd
      refine ⟨true, .s q, cs2, mix2, ?_, hc2⟩
      rw [decide_eq_true e] at eq
      refine run_ret [some (.ref 1), some (kD a b c)] (fn := Lk02.f23) (d := tD (.leaf true (.s q))) (S := ⟨[some (.ref 1), some (kD a b c)], Hp cs2 mix2⟩) rfl rfl rfl (exs_ret ?_) (end_Hp _ _ _ _ _ (below_tD _ _))
      replace w2 : PM.run F Lk02.P (n + 3) 11 [.ref 1, .tup (sD a)] (Hp cs1 mix1) = .ok (.str q, Hp cs2 mix2) := w2
      clear fin
      generalize PM.run F Lk02.P (n + 3) = cl at *
      generalize ((a.length : Nat) : Int) = al at *
      simp only [kD]
      generalize sD a = AA at *
      generalize sD b = B
      generalize sD c = CC
      simp [isOwn, tmp, view, frz, ex, aw, ev, evvs, evbs, evas, evo, evc, evT, vw, bw, slot, rd, setS, PM.R.bind, asgTg, asB, asI, ofO, setTg, setTgs, PM.R.bind_ok, exs, tup_idx0, pl, gt, hp, w1, eq, w2, tD, aD]
    · obtain ⟨x, y, cs', mix', w, hc'⟩ := fin cs1 mix1 hc1
      refine ⟨false, .p x y, cs', mix', ?_, hc'⟩
      rw [decide_eq_false e] at eq
      refine run_ret [some (.ref 1), some (kD a b c)] (fn := Lk02.f23) (d := tD (.leaf false (.p x y))) (S := ⟨[some (.ref 1), some (kD a b c)], Hp cs' mix'⟩) rfl rfl rfl (exs_nx (S1 := ⟨[some (.ref 1), some (kD a b c)], Hp cs1 mix1⟩) ?_ (exs_ret w)) (end_Hp _ _ _ _ _ (below_tD _ _))
      clear w fin
      generalize PM.run F Lk02.P (n + 3) = cl at *
      generalize ((a.length : Nat) : Int) = al at *
      simp only [kD]
      generalize sD a = AA at *
      generalize sD b = B
      generalize sD c = CC
      simp [isOwn, tmp, view, frz, ex, aw, ev, evvs, evbs, evas, evo, evc, evT, vw, bw, slot, rd, setS, PM.R.bind, asgTg, asB, asI, ofO, setTg, setTgs, PM.R.bind_ok, exs, tup_idx0, pl, gt, hp, w1, eq]
end
end Mk
end

section
set_option Elab.async false
set_option linter.all false
open PySem PM
namespace Mk
def Bz : Nat → Nat
  | 0 => 2
  | l + 1 => 1 + 3 * Bz l
/-- small enough for so many levels -/
def Sm (l : Nat) (t : T) : Prop := sz t ≤ Bz l ∧ hgt t ≤ l + 1 ∧ dep (tD t) ≤ 3 + 2 * l
theorem sm_list {l : Nat} : ∀ ts : List T, (∀ t ∈ ts, Sm l t) → szs ts ≤ ts.length * Bz l ∧ hgts ts ≤ l + 1 ∧ deps (tDs ts) ≤ 3 + 2 * l
  | [], _ => ⟨by simp [szs], by simp [hgts], by simp [tDs, deps]⟩
  | t :: ts, h => by
    obtain ⟨i1, i2, i3⟩ := sm_list ts fun u hu => h u (List.mem_cons_of_mem _ hu)
    obtain ⟨j1, j2, j3⟩ := h t List.mem_cons_self
    refine ⟨?_, ?_, ?_⟩
    · rw [szs, List.length_cons, Nat.add_mul, Nat.one_mul]
      omega
    · rw [hgts]; omega
    · rw [tDs, deps]; omega
theorem sm_leaf (l : Nat) (m : Bool) (a : A) : Sm l (.leaf m a) := by
  have hB : 2 ≤ Bz l := by
    induction l with
    | zero => exact Nat.le_refl _
    | succ l ih => rw [Bz]; omega
  refine ⟨by rw [sz]; omega, by rw [hgt]; omega, ?_⟩
  have : dep (tD (.leaf m a)) ≤ 2 := by cases a <;> simp [tD, aD, dep, deps]
  omega
theorem sm_hear {l : Nat} {t : T} (k : List (PySem.Str × PySem.Str)) (h : Sm l t) : Sm (l + 1) (.hear k t) := by
  obtain ⟨h1, h2, h3⟩ := h
  have := dep_lD k
  refine ⟨by rw [sz, Bz]; omega, by rw [hgt]; omega, ?_⟩
  simp only [tD, dep, deps]
  omega
theorem sm_whole {l : Nat} {t : T} (h : Sm l t) : Sm (l + 1) (.whole t) := by
  obtain ⟨h1, h2, h3⟩ := h
  refine ⟨by rw [sz, Bz]; omega, by rw [hgt]; omega, ?_⟩
  simp only [tD, dep, deps]
  omega
theorem sm_total {l : Nat} {t : T} (h : Sm l t) : Sm (l + 1) (.total t) := by
  obtain ⟨h1, h2, h3⟩ := h
  refine ⟨by rw [sz, Bz]; omega, by rw [hgt]; omega, ?_⟩
  simp only [tD, dep, deps]
  omega
theorem sm_plus {l : Nat} {ts : List T} (hl : ts.length ≤ 3) (h : ∀ t ∈ ts, Sm l t) : Sm (l + 1) (.plus ts) := by
  obtain ⟨h1, h2, h3⟩ := sm_list ts h
  have : ts.length * Bz l ≤ 3 * Bz l := Nat.mul_le_mul_right _ hl
  refine ⟨by rw [sz, Bz]; omega, by rw [hgt]; omega, ?_⟩
  simp only [tD, dep, deps]
  omega
theorem sm_times {l : Nat} {ts : List T} (hl : ts.length ≤ 3) (h : ∀ t ∈ ts, Sm l t) : Sm (l + 1) (.times ts) := by
  obtain ⟨h1, h2, h3⟩ := sm_list ts h
  have : ts.length * Bz l ≤ 3 * Bz l := Nat.mul_le_mul_right _ hl
  refine ⟨by rw [sz, Bz]; omega, by rw [hgt]; omega, ?_⟩
  simp only [tD, dep, deps]
  omega
theorem sm_total0 (m : Bool) (a : A) : Sm 0 (.total (.leaf m a)) := by
  refine ⟨by simp [sz, Bz], by simp [hgt], ?_⟩
  cases a <;> simp [tD, aD, dep, deps]
/-- what a call draws: a small tree -/
def Z0 (t : T) : Prop := (rnd t).1 = 0
theorem mx0 : ∀ l : List Nat, (∀ x ∈ l, x = 0) → mx1 l = 0
  | [], _ => rfl
  | x :: l, h => by
    have := mx0 l fun y hy => h y (List.mem_cons_of_mem _ hy)
    have := h x List.mem_cons_self
    simp only [mx1, List.foldr_cons] at *
    omega
theorem z0_list {ts : List T} (h : ∀ t ∈ ts, Z0 t) : mx1 ((rnds ts).map (·.1)) = 0 := mx0 _ fun x hx => by
  rw [rnds_map, List.map_map] at hx
  obtain ⟨t, ht, rfl⟩ := List.mem_map.mp hx
  exact h t ht
def Draws (cl : CallF) (f : Nat) (K : D) (l : Nat) (Q : T → Prop) : Prop := ∀ (cs : List Int) (mix : Int), cs.length ≤ 100 → ∃ (t : T) (cs' : List Int) (mix' : Int), cl f [.ref 1, K, .int (l : Nat), .bl true] (Hp cs mix) = .ok (tD t, Hp cs' mix') ∧ (Sm l t ∧ Q t) ∧ cs'.length ≤ 100
section
variable (F : Fields) (cl : CallF)
theorem draws_lc (f : Nat) (K : D) (hK : ∃ q, K = .tup q) (l : Nat) (Q : T → Prop) (h : Draws cl f K l Q) (own : Nat) (pre post : List (Option D)) (ho : own = 4 + pre.length) : ∀ (ds : List D) (acc : List T) (x : Option D) (cs : List Int) (mix : Int), cs.length ≤ 100 → acc.length + ds.length < 1000 →
    ∃ (ts : List T) (y : Option D) (cs' : List Int) (mix' : Int), lcL [own] (.v own) (fun S => evc F cl [] S) (fun S => vw (ev F cl (.call f [.var 0, .var 1, .bin .sub (.var 2) (.k (.int 1)), .var 3]) S)) ds (acc.map tD) ⟨[some (.ref 1), some K, some (.int ((l + 1 : Nat) : Int)), some (.bl true)] ++ pre ++ [x] ++ post, Hp cs mix⟩ = .ok ((acc ++ ts).map tD, ⟨[some (.ref 1), some K, some (.int ((l + 1 : Nat) : Int)), some (.bl true)] ++ pre ++ [y] ++ post, Hp cs' mix'⟩) ∧ ts.length = ds.length ∧ (∀ t ∈ ts, Sm l t ∧ Q t) ∧ cs'.length ≤ 100 := by
  intro ds
  induction ds with
  | nil =>
    intro acc x cs mix hc _
    refine ⟨[], x, cs, mix, ?_, rfl, by simp, hc⟩
    rw [List.append_nil]
    rfl
  | cons d ds ih =>
    intro acc x cs mix hc hl
    rw [List.length_cons] at hl
    obtain ⟨t, cs1, mix1, w, sm, hc1⟩ := h cs mix hc
    obtain ⟨ts, y, cs', mix', q, q1, q2, q3⟩ := ih (acc ++ [t]) (some d) cs1 mix1 hc1 (by rw [List.length_append, List.length_singleton]; omega)
    refine ⟨t :: ts, y, cs', mix', ?_, by simp [q1], fun u hu => ?_, q3⟩
    · have hz : (acc.map tD).length < LIM := by rw [LIM_eq, List.length_map]; omega
      have ea : acc.map tD ++ [tD t] = (acc ++ [t]).map tD := by simp
      have e3 : acc ++ t :: ts = acc ++ [t] ++ ts := by simp
      rw [e3]
      have e2 : setTg (.v own) d (wipeL ([some (.ref 1), some K, some (.int ((l + 1 : Nat) : Int)), some (.bl true)] ++ pre ++ [x] ++ post) [own]) = some ([some (.ref 1), some K, some (.int ((l + 1 : Nat) : Int)), some (.bl true)] ++ pre ++ [some d] ++ post) := by
        have hlen : own < (wipeL ([some (.ref 1), some K, some (.int ((l + 1 : Nat) : Int)), some (.bl true)] ++ pre ++ [x] ++ post) [own]).length := by
          rw [wipe_length]
          simp
          omega
        rw [setTg_v hlen]
        congr 1
        subst ho
        simp only [wipeL]
        rw [List.set_set]
        have e4 : ([some (.ref 1), some K, some (.int ((l + 1 : Nat) : Int)), some (.bl true)] ++ pre).length = 4 + pre.length := by simp; omega
        rw [List.append_assoc, List.set_append_right _ _ (by omega), e4, Nat.sub_self]
        simp
      have sb : subD (.int ((l + 1 : Nat) : Int)) (.int 1) = some (.int (l : Nat)) := by
        show some (D.int _) = _
        congr 2
        omega
      have e1 : vw (ev F cl (.call f [.var 0, .var 1, .bin .sub (.var 2) (.k (.int 1)), .var 3]) ⟨[some (.ref 1), some K, some (.int ((l + 1 : Nat) : Int)), some (.bl true)] ++ pre ++ [some d] ++ post, Hp cs mix⟩) = .ok (tD t, ⟨[some (.ref 1), some K, some (.int ((l + 1 : Nat) : Int)), some (.bl true)] ++ pre ++ [some d] ++ post, Hp cs1 mix1⟩) := by
        obtain ⟨k, rfl⟩ := hK
        obtain ⟨tt, htt⟩ := tD_tup t
        rw [htt] at w ⊢
        generalize ((l + 1 : Nat) : Int) = l1 at *
        simp [isOwn, tmp, view, frz, ex, aw, ev, evvs, evbs, evas, evo, evc, evT, vw, bw, slot, rd, setS, PM.R.bind, asgTg, asB, asI, ofO, setTg, setTgs, PM.R.bind_ok, binD, sb, w]
      have q' := q
      rw [← ea] at q'
      generalize (ME.call f [.var 0, .var 1, .bin .sub (.var 2) (.k (.int 1)), .var 3]) = elt at *
      exact lcL_step e2 rfl e1 hz q'
    · rcases List.mem_cons.mp hu with rfl | hu
      · exact sm
      · exact q2 u hu
end
end Mk
end

section
set_option Elab.async false
set_option linter.all false
open PySem PM
namespace Mk
section
variable (F : Fields) (N : Nat) (a b c : List PySem.Str) (hbc : b ≠ [] ∨ c ≠ []) (hk : a.length + b.length + c.length < 30)
include hbc hk
theorem vec0 : Draws (PM.run F Lk02.P (N + 5)) 24 (kD a b c) 0 (fun _ => True) := fun cs mix hc => by
  obtain ⟨m, x, cs', mix', w, hc'⟩ := leaf_ok F N a b c hbc hk cs mix hc
  refine ⟨.leaf m x, cs', mix', ?_, ⟨sm_leaf 0 m x, trivial⟩, hc'⟩
  have gt : ∀ a b : Int, cmpD .gt (.int a) (.int b) = some (decide (b < a)) := fun _ _ => rfl
  have lt : ∀ a b : Int, cmpD .lt (.int a) (.int b) = some (decide (a < b)) := fun _ _ => rfl
  refine run_ret [some (.ref 1), some (kD a b c), some (.int 0), some (.bl true), none, none, none] (fn := Lk02.f24) (d := tD (.leaf m x)) (S := ⟨[some (.ref 1), some (kD a b c), some (.int 0), some (.bl true), some (.int 0), none, none], Hp cs' mix'⟩) rfl rfl rfl ?_ (end_Hp _ _ _ _ _ (below_tD _ _))
  obtain ⟨q, hq⟩ := tD_tup (.leaf m x)
  rw [hq] at w ⊢
  generalize PM.run F Lk02.P (N + 4) = cl at *
  unfold kD at *
  generalize sD a = AA at *
  generalize sD b = BB at *
  generalize sD c = CC at *
  refine exs_nx (S1 := ⟨[some (.ref 1), some (.tup [.tup AA, .tup BB, .tup CC]), some (.int 0), some (.bl true), some (.int 0), none, none], Hp cs mix⟩) ?_ (exs_ret ?_)
  · simp [isOwn, tmp, view, frz, ex, aw, ev, evvs, evbs, evas, evo, evc, evT, vw, bw, slot, rd, setS, PM.R.bind, asgTg, asB, asI, ofO, setTg, setTgs, PM.R.bind_ok, gt]
  · simp [isOwn, tmp, view, frz, ex, aw, ev, evvs, evbs, evas, evo, evc, evT, vw, bw, slot, rd, setS, PM.R.bind, asgTg, asB, asI, ofO, setTg, setTgs, PM.R.bind_ok, exs, lt, w]
theorem hear0 : Draws (PM.run F Lk02.P (N + 5)) 25 (kD a b c) 0 Z0 := fun cs mix hc => by
  obtain ⟨m, x, cs', mix', w, hc'⟩ := leaf_ok F N a b c hbc hk cs mix hc
  refine ⟨.total (.leaf m x), cs', mix', ?_, ⟨sm_total0 m x, rfl⟩, hc'⟩
  have gt : ∀ a b : Int, cmpD .gt (.int a) (.int b) = some (decide (b < a)) := fun _ _ => rfl
  refine run_ret [some (.ref 1), some (kD a b c), some (.int 0), some (.bl true), none, none] (fn := Lk02.f25) (d := tD (.total (.leaf m x))) (S := ⟨[some (.ref 1), some (kD a b c), some (.int 0), some (.bl true), some (.int 0), none], Hp cs' mix'⟩) rfl rfl rfl ?_ (end_Hp _ _ _ _ _ (below_tD _ _))
  obtain ⟨q, hq⟩ := tD_tup (.leaf m x)
  rw [tD]
  rw [hq] at w ⊢
  generalize PM.run F Lk02.P (N + 4) = cl at *
  unfold kD at *
  generalize sD a = AA at *
  generalize sD b = BB at *
  generalize sD c = CC at *
  refine exs_nx (S1 := ⟨[some (.ref 1), some (.tup [.tup AA, .tup BB, .tup CC]), some (.int 0), some (.bl true), some (.int 0), none], Hp cs mix⟩) ?_ (exs_ret ?_)
  · simp [isOwn, tmp, view, frz, ex, aw, ev, evvs, evbs, evas, evo, evc, evT, vw, bw, slot, rd, setS, PM.R.bind, asgTg, asB, asI, ofO, setTg, setTgs, PM.R.bind_ok, gt]
  · simp [isOwn, tmp, view, frz, ex, aw, ev, evvs, evbs, evas, evo, evc, evT, vw, bw, slot, rd, setS, PM.R.bind, asgTg, asB, asI, ofO, setTg, setTgs, PM.R.bind_ok, exs, gt, eq_ii, w]
theorem vecS (l : Nat) (hv : Draws (PM.run F Lk02.P (N + 4)) 24 (kD a b c) l (fun _ => True)) (hh : Draws (PM.run F Lk02.P (N + 4)) 25 (kD a b c) l Z0) : Draws (PM.run F Lk02.P (N + 5)) 24 (kD a b c) (l + 1) (fun _ => True) := fun cs mix hc => by
  have gt : ∀ a b : Int, cmpD .gt (.int a) (.int b) = some (decide (b < a)) := fun _ _ => rfl
  have lt : ∀ a b : Int, cmpD .lt (.int a) (.int b) = some (decide (a < b)) := fun _ _ => rfl
  have hp : (0 : Int) < ((l + 1 : Nat) : Int) := by omega
  have sb : subD (.int ((l + 1 : Nat) : Int)) (.int 1) = some (.int (l : Nat)) := by
    show some (D.int _) = _
    congr 2
    omega
  obtain ⟨s, cs1, mix1, w1, s0, s1, hc1⟩ := any_ok F (N + 3) 8 (by decide) (by decide) cs mix hc
  have a0 : ex F (PM.run F Lk02.P (N + 4)) (.asg (.v 4) (.ite (.cmp .gt (.var 2) (.k (.int (0)))) (.call 10 [.var 0, .k (.int (8))]) (.k (.int (0))))) ⟨[some (.ref 1), some (kD a b c), some (.int ((l + 1 : Nat) : Int)), some (.bl true), none, none, none], Hp cs mix⟩ = .ok (.nx ⟨[some (.ref 1), some (kD a b c), some (.int ((l + 1 : Nat) : Int)), some (.bl true), some (.int s), none, none], Hp cs1 mix1⟩) := by
    clear hv hh
    generalize PM.run F Lk02.P (N + 4) = cl at *
    generalize ((l + 1 : Nat) : Int) = l1 at *
    generalize kD a b c = K
    simp [isOwn, tmp, view, frz, ex, aw, ev, evvs, evbs, evas, evo, evc, evT, vw, bw, slot, rd, setS, PM.R.bind, asgTg, asB, asI, ofO, setTg, setTgs, PM.R.bind_ok, gt, hp, w1]
  by_cases e1 : s < 2
  · obtain ⟨m, x, cs', mix', w, hc'⟩ := leaf_ok F N a b c hbc hk cs1 mix1 hc1
    refine ⟨.leaf m x, cs', mix', ?_, ⟨sm_leaf (l + 1) m x, trivial⟩, hc'⟩
    refine run_ret [some (.ref 1), some (kD a b c), some (.int ((l + 1 : Nat) : Int)), some (.bl true), none, none, none] (fn := Lk02.f24) (d := tD (.leaf m x)) (S := ⟨[some (.ref 1), some (kD a b c), some (.int ((l + 1 : Nat) : Int)), some (.bl true), some (.int s), none, none], Hp cs' mix'⟩) rfl rfl rfl (exs_nx a0 (exs_ret ?_)) (end_Hp _ _ _ _ _ (below_tD _ _))
    clear a0 hv hh w1
    obtain ⟨q, hq⟩ := tD_tup (.leaf m x)
    rw [hq] at w ⊢
    generalize PM.run F Lk02.P (N + 4) = cl at *
    generalize ((l + 1 : Nat) : Int) = l1 at *
    unfold kD at *
    generalize sD a = AA at *
    generalize sD b = BB at *
    generalize sD c = CC at *
    simp [isOwn, tmp, view, frz, ex, aw, ev, evvs, evbs, evas, evo, evc, evT, vw, bw, slot, rd, setS, PM.R.bind, asgTg, asB, asI, ofO, setTg, setTgs, PM.R.bind_ok, exs, lt, e1, w]
  have b1 : ex F (PM.run F Lk02.P (N + 4)) (.ite (.cmp .lt (.var 4) (.k (.int (2)))) [.ret (.call 23 [.var 0, .var 1])] []) ⟨[some (.ref 1), some (kD a b c), some (.int ((l + 1 : Nat) : Int)), some (.bl true), some (.int s), none, none], Hp cs1 mix1⟩ = .ok (.nx ⟨[some (.ref 1), some (kD a b c), some (.int ((l + 1 : Nat) : Int)), some (.bl true), some (.int s), none, none], Hp cs1 mix1⟩) := by
    clear hv hh a0 w1
    generalize PM.run F Lk02.P (N + 4) = cl at *
    generalize ((l + 1 : Nat) : Int) = l1 at *
    generalize kD a b c = K
    simp [isOwn, tmp, view, frz, ex, aw, ev, evvs, evbs, evas, evo, evc, evT, vw, bw, slot, rd, setS, PM.R.bind, asgTg, asB, asI, ofO, setTg, setTgs, PM.R.bind_ok, exs, lt, e1]
  by_cases e2 : s < 5
  · obtain ⟨lk, cs2, mix2, w2, hc2⟩ := link_ok F (N + 1) a b c hbc hk cs1 mix1 hc1
    obtain ⟨t, cs3, mix3, w3, sm, hc3⟩ := hv cs2 mix2 hc2
    refine ⟨.hear lk t, cs3, mix3, ?_, ⟨sm_hear lk sm.1, trivial⟩, hc3⟩
    refine run_ret [some (.ref 1), some (kD a b c), some (.int ((l + 1 : Nat) : Int)), some (.bl true), none, none, none] (fn := Lk02.f24) (d := tD (.hear lk t)) (S := ⟨[some (.ref 1), some (kD a b c), some (.int ((l + 1 : Nat) : Int)), some (.bl true), some (.int s), none, none], Hp cs3 mix3⟩) rfl rfl rfl (exs_nx a0 (exs_nx b1 (exs_ret ?_))) (end_Hp _ _ _ _ _ (below_tD _ _))
    clear a0 b1 hv hh w1
    obtain ⟨q, hq⟩ := tD_tup t
    rw [tD]
    rw [hq] at w3 ⊢
    simp only [lD_eq] at w2 ⊢
    generalize lk.map qD = LL at *
    generalize PM.run F Lk02.P (N + 4) = cl at *
    generalize ((l + 1 : Nat) : Int) = l1 at *
    unfold kD at *
    generalize sD a = AA at *
    generalize sD b = BB at *
    generalize sD c = CC at *
    simp [isOwn, tmp, view, frz, ex, aw, ev, evvs, evbs, evas, evo, evc, evT, vw, bw, slot, rd, setS, PM.R.bind, asgTg, asB, asI, ofO, setTg, setTgs, PM.R.bind_ok, exs, lt, e2, w2, binD, sb, w3]
  have b2 : ex F (PM.run F Lk02.P (N + 4)) (.ite (.cmp .lt (.var 4) (.k (.int (5)))) [.ret (.tup [.k (.str "hear"), .call 22 [.var 0, .var 1], .call 24 [.var 0, .var 1, .bin .sub (.var 2) (.k (.int (1))), .var 3]])] []) ⟨[some (.ref 1), some (kD a b c), some (.int ((l + 1 : Nat) : Int)), some (.bl true), some (.int s), none, none], Hp cs1 mix1⟩ = .ok (.nx ⟨[some (.ref 1), some (kD a b c), some (.int ((l + 1 : Nat) : Int)), some (.bl true), some (.int s), none, none], Hp cs1 mix1⟩) := by
    clear hv hh a0 w1 b1
    generalize PM.run F Lk02.P (N + 4) = cl at *
    generalize ((l + 1 : Nat) : Int) = l1 at *
    generalize kD a b c = K
    simp [isOwn, tmp, view, frz, ex, aw, ev, evvs, evbs, evas, evo, evc, evT, vw, bw, slot, rd, setS, PM.R.bind, asgTg, asB, asI, ofO, setTg, setTgs, PM.R.bind_ok, exs, lt, e2]
  have eq5 := eq_ii s 5
  by_cases e3 : s = 5
  · obtain ⟨t, cs3, mix3, w3, sm, hc3⟩ := hh cs1 mix1 hc1
    refine ⟨.whole t, cs3, mix3, ?_, ⟨sm_whole sm.1, trivial⟩, hc3⟩
    rw [decide_eq_true e3] at eq5
    refine run_ret [some (.ref 1), some (kD a b c), some (.int ((l + 1 : Nat) : Int)), some (.bl true), none, none, none] (fn := Lk02.f24) (d := tD (.whole t)) (S := ⟨[some (.ref 1), some (kD a b c), some (.int ((l + 1 : Nat) : Int)), some (.bl true), some (.int s), none, none], Hp cs3 mix3⟩) rfl rfl rfl (exs_nx a0 (exs_nx b1 (exs_nx b2 (exs_ret ?_)))) (end_Hp _ _ _ _ _ (below_tD _ _))
    clear a0 b1 b2 hv hh w1
    obtain ⟨q, hq⟩ := tD_tup t
    rw [tD]
    rw [hq] at w3 ⊢
    generalize PM.run F Lk02.P (N + 4) = cl at *
    generalize ((l + 1 : Nat) : Int) = l1 at *
    unfold kD at *
    generalize sD a = AA at *
    generalize sD b = BB at *
    generalize sD c = CC at *
    simp [isOwn, tmp, view, frz, ex, aw, ev, evvs, evbs, evas, evo, evc, evT, vw, bw, slot, rd, setS, PM.R.bind, asgTg, asB, asI, ofO, setTg, setTgs, PM.R.bind_ok, exs, eq5, binD, sb, w3]
  have b3 : ex F (PM.run F Lk02.P (N + 4)) (.ite (.and (.cmp .eq (.var 4) (.k (.int (5)))) (.var 3)) [.ret (.tup [.k (.str "whole"), .call 25 [.var 0, .var 1, .bin .sub (.var 2) (.k (.int (1))), .var 3]])] []) ⟨[some (.ref 1), some (kD a b c), some (.int ((l + 1 : Nat) : Int)), some (.bl true), some (.int s), none, none], Hp cs1 mix1⟩ = .ok (.nx ⟨[some (.ref 1), some (kD a b c), some (.int ((l + 1 : Nat) : Int)), some (.bl true), some (.int s), none, none], Hp cs1 mix1⟩) := by
    clear hv hh a0 w1 b1 b2
    rw [decide_eq_false e3] at eq5
    generalize PM.run F Lk02.P (N + 4) = cl at *
    generalize ((l + 1 : Nat) : Int) = l1 at *
    generalize kD a b c = K
    simp [isOwn, tmp, view, frz, ex, aw, ev, evvs, evbs, evas, evo, evc, evT, vw, bw, slot, rd, setS, PM.R.bind, asgTg, asB, asI, ofO, setTg, setTgs, PM.R.bind_ok, exs, eq5]
  obtain ⟨r, cs2, mix2, w2, r0, r1, hc2⟩ := any_ok F (N + 3) 4 (by decide) (by decide) cs1 mix1 hc1
  have hmany : ∃ m : Nat, m ≤ 3 ∧ ex F (PM.run F Lk02.P (N + 4)) (.asg (.v 5) (.bin .add (.k (.int (2))) (.ite (.cmp .eq (.call 10 [.var 0, .k (.int (4))]) (.k (.int (0)))) (.k (.int (1))) (.k (.int (0)))))) ⟨[some (.ref 1), some (kD a b c), some (.int ((l + 1 : Nat) : Int)), some (.bl true), some (.int s), none, none], Hp cs1 mix1⟩ = .ok (.nx ⟨[some (.ref 1), some (kD a b c), some (.int ((l + 1 : Nat) : Int)), some (.bl true), some (.int s), some (.int (m : Nat)), none], Hp cs2 mix2⟩) := by
    clear hv hh a0 w1 b1 b2 b3
    have eq := eq_ii r 0
    by_cases e : r = 0
    · rw [decide_eq_true e] at eq
      refine ⟨3, by decide, ?_⟩
      generalize PM.run F Lk02.P (N + 4) = cl at *
      generalize ((l + 1 : Nat) : Int) = l1 at *
      generalize kD a b c = K
      simp [isOwn, tmp, view, frz, ex, aw, ev, evvs, evbs, evas, evo, evc, evT, vw, bw, slot, rd, setS, PM.R.bind, asgTg, asB, asI, ofO, setTg, setTgs, PM.R.bind_ok, w2, eq, binD, add_ii]
    · rw [decide_eq_false e] at eq
      refine ⟨2, by decide, ?_⟩
      generalize PM.run F Lk02.P (N + 4) = cl at *
      generalize ((l + 1 : Nat) : Int) = l1 at *
      generalize kD a b c = K
      simp [isOwn, tmp, view, frz, ex, aw, ev, evvs, evbs, evas, evo, evc, evT, vw, bw, slot, rd, setS, PM.R.bind, asgTg, asB, asI, ofO, setTg, setTgs, PM.R.bind_ok, w2, eq, binD, add_ii]
  obtain ⟨m, hm, b4⟩ := hmany
  obtain ⟨ts, y, cs3, mix3, q, ql, qs, hc3⟩ := draws_lc F (PM.run F Lk02.P (N + 4)) 24 (kD a b c) ⟨_, rfl⟩ l _ hv 6 [some (.int s), some (.int (m : Nat))] [] rfl (isD (rgI 0 m)) [] none cs2 mix2 hc2 (by rw [isD_length, length_rgI]; simp; omega)
  rw [isD_length, length_rgI] at ql
  rw [List.nil_append, List.map_nil] at q
  have a1 : fitI ((m : Nat) : Int) = true := (fitI_is _).mpr (by omega)
  have i1 : itemsD 1 [.int (m : Nat)] = some (isD (rgI 0 m)) := by simp only [itemsD, a1, if_true, rangeD_isD]
  have hlc : ev F (PM.run F Lk02.P (N + 4)) (.lc [6] (.v 6) 1 [.var 5] [] (.call 24 [.var 0, .var 1, .bin .sub (.var 2) (.k (.int 1)), .var 3])) ⟨[some (.ref 1), some (kD a b c), some (.int ((l + 1 : Nat) : Int)), some (.bl true), some (.int s), some (.int (m : Nat)), none], Hp cs2 mix2⟩ = .ok (.nl (ts.map tD), ⟨[some (.ref 1), some (kD a b c), some (.int ((l + 1 : Nat) : Int)), some (.bl true), some (.int s), some (.int (m : Nat)), none], Hp cs3 mix3⟩) := by
    have e0 : evvs F (PM.run F Lk02.P (N + 4)) [.var 5] ⟨[some (.ref 1), some (kD a b c), some (.int ((l + 1 : Nat) : Int)), some (.bl true), some (.int s), some (.int (m : Nat)), none], Hp cs2 mix2⟩ = .ok ([.int (m : Nat)], ⟨[some (.ref 1), some (kD a b c), some (.int ((l + 1 : Nat) : Int)), some (.bl true), some (.int s), some (.int (m : Nat)), none], Hp cs2 mix2⟩) := by
      clear q hv hh
      generalize ((l + 1 : Nat) : Int) = l1 at *
      generalize kD a b c = K
      simp [isOwn, tmp, view, frz, ex, aw, ev, evvs, evbs, evas, evo, evc, evT, vw, bw, slot, rd, setS, PM.R.bind, asgTg, asB, asI, ofO, setTg, setTgs, PM.R.bind_ok]
    have h := ev_lc_st (F := F) (call := PM.run F Lk02.P (N + 4)) (S := ⟨[some (.ref 1), some (kD a b c), some (.int ((l + 1 : Nat) : Int)), some (.bl true), some (.int s), some (.int (m : Nat)), none], Hp cs2 mix2⟩) (S1 := ⟨[some (.ref 1), some (kD a b c), some (.int ((l + 1 : Nat) : Int)), some (.bl true), some (.int s), some (.int (m : Nat)), none], Hp cs2 mix2⟩) (S2 := ⟨[some (.ref 1), some (kD a b c), some (.int ((l + 1 : Nat) : Int)), some (.bl true), some (.int s), some (.int (m : Nat)), y], Hp cs3 mix3⟩) (own := [6]) (tg := .v 6) (k := 1) (its := [.var 5]) (cond := []) (elt := .call 24 [.var 0, .var 1, .bin .sub (.var 2) (.k (.int 1)), .var 3]) (ds := isD (rgI 0 m)) (out := ts.map tD) e0 i1 rfl q
    exact h
  have pt : ∀ A : List D, primD .tuple1 [.lst A] = some (.tup A) := fun _ => rfl
  have eq6 := eq_ii s 6
  by_cases e6 : s = 6
  · rw [decide_eq_true e6] at eq6
    refine ⟨.plus ts, cs3, mix3, ?_, ⟨sm_plus (by omega) fun t ht => (qs t ht).1, trivial⟩, hc3⟩
    refine run_ret [some (.ref 1), some (kD a b c), some (.int ((l + 1 : Nat) : Int)), some (.bl true), none, none, none] (fn := Lk02.f24) (d := tD (.plus ts)) (S := ⟨[some (.ref 1), some (kD a b c), some (.int ((l + 1 : Nat) : Int)), some (.bl true), some (.int s), some (.int (m : Nat)), none], Hp cs3 mix3⟩) rfl rfl rfl (exs_nx a0 (exs_nx b1 (exs_nx b2 (exs_nx b3 (exs_nx b4 (exs_ret ?_)))))) (end_Hp _ _ _ _ _ (below_tD _ _))
    clear a0 b1 b2 b3 b4 hv hh w1 w2 q
    rw [tD, tDs_map]
    generalize ts.map tD = TS at *
    generalize PM.run F Lk02.P (N + 4) = cl at *
    generalize ME.lc _ _ _ _ _ _ = le at *
    generalize ((l + 1 : Nat) : Int) = l1 at *
    generalize kD a b c = K at *
    simp [isOwn, tmp, view, frz, ex, aw, ev, evvs, evbs, evas, evo, evc, evT, vw, bw, slot, rd, setS, PM.R.bind, asgTg, asB, asI, ofO, setTg, setTgs, PM.R.bind_ok, eq6, hlc, pt]
  · rw [decide_eq_false e6] at eq6
    refine ⟨.times ts, cs3, mix3, ?_, ⟨sm_times (by omega) fun t ht => (qs t ht).1, trivial⟩, hc3⟩
    refine run_ret [some (.ref 1), some (kD a b c), some (.int ((l + 1 : Nat) : Int)), some (.bl true), none, none, none] (fn := Lk02.f24) (d := tD (.times ts)) (S := ⟨[some (.ref 1), some (kD a b c), some (.int ((l + 1 : Nat) : Int)), some (.bl true), some (.int s), some (.int (m : Nat)), none], Hp cs3 mix3⟩) rfl rfl rfl (exs_nx a0 (exs_nx b1 (exs_nx b2 (exs_nx b3 (exs_nx b4 (exs_ret ?_)))))) (end_Hp _ _ _ _ _ (below_tD _ _))
    clear a0 b1 b2 b3 b4 hv hh w1 w2 q
    rw [tD, tDs_map]
    generalize ts.map tD = TS at *
    generalize PM.run F Lk02.P (N + 4) = cl at *
    generalize ME.lc _ _ _ _ _ _ = le at *
    generalize ((l + 1 : Nat) : Int) = l1 at *
    generalize kD a b c = K at *
    simp [isOwn, tmp, view, frz, ex, aw, ev, evvs, evbs, evas, evo, evc, evT, vw, bw, slot, rd, setS, PM.R.bind, asgTg, asB, asI, ofO, setTg, setTgs, PM.R.bind_ok, eq6, hlc, pt]
theorem hearS (l : Nat) (hv : Draws (PM.run F Lk02.P (N + 4)) 24 (kD a b c) l (fun _ => True)) (hh : Draws (PM.run F Lk02.P (N + 4)) 25 (kD a b c) l Z0) : Draws (PM.run F Lk02.P (N + 5)) 25 (kD a b c) (l + 1) Z0 := fun cs mix hc => by
  have gt : ∀ a b : Int, cmpD .gt (.int a) (.int b) = some (decide (b < a)) := fun _ _ => rfl
  have lt : ∀ a b : Int, cmpD .lt (.int a) (.int b) = some (decide (a < b)) := fun _ _ => rfl
  have hp : (0 : Int) < ((l + 1 : Nat) : Int) := by omega
  have sb : subD (.int ((l + 1 : Nat) : Int)) (.int 1) = some (.int (l : Nat)) := by
    show some (D.int _) = _
    congr 2
    omega
  obtain ⟨s, cs1, mix1, w1, s0, s1, hc1⟩ := any_ok F (N + 3) 6 (by decide) (by decide) cs mix hc
  have a0 : ex F (PM.run F Lk02.P (N + 4)) (.asg (.v 4) (.ite (.cmp .gt (.var 2) (.k (.int (0)))) (.call 10 [.var 0, .k (.int (6))]) (.k (.int (0))))) ⟨[some (.ref 1), some (kD a b c), some (.int ((l + 1 : Nat) : Int)), some (.bl true), none, none], Hp cs mix⟩ = .ok (.nx ⟨[some (.ref 1), some (kD a b c), some (.int ((l + 1 : Nat) : Int)), some (.bl true), some (.int s), none], Hp cs1 mix1⟩) := by
    clear hv hh
    generalize PM.run F Lk02.P (N + 4) = cl at *
    generalize ((l + 1 : Nat) : Int) = l1 at *
    generalize kD a b c = K
    simp [isOwn, tmp, view, frz, ex, aw, ev, evvs, evbs, evas, evo, evc, evT, vw, bw, slot, rd, setS, PM.R.bind, asgTg, asB, asI, ofO, setTg, setTgs, PM.R.bind_ok, gt, hp, w1]
  have eq0 := eq_ii s 0
  by_cases e1 : s = 0
  · obtain ⟨x, y, cs', mix', w, hc'⟩ := number_ok F (N + 1) cs1 mix1 hc1
    refine ⟨.leaf false (.p x y), cs', mix', ?_, ⟨sm_leaf (l + 1) _ _, rfl⟩, hc'⟩
    rw [decide_eq_true e1] at eq0
    refine run_ret [some (.ref 1), some (kD a b c), some (.int ((l + 1 : Nat) : Int)), some (.bl true), none, none] (fn := Lk02.f25) (d := tD (.leaf false (.p x y))) (S := ⟨[some (.ref 1), some (kD a b c), some (.int ((l + 1 : Nat) : Int)), some (.bl true), some (.int s), none], Hp cs' mix'⟩) rfl rfl rfl (exs_nx a0 (exs_ret ?_)) (end_Hp _ _ _ _ _ (below_tD _ _))
    clear a0 hv hh w1
    generalize PM.run F Lk02.P (N + 4) = cl at *
    generalize ((l + 1 : Nat) : Int) = l1 at *
    generalize kD a b c = K
    simp [isOwn, tmp, view, frz, ex, aw, ev, evvs, evbs, evas, evo, evc, evT, vw, bw, slot, rd, setS, PM.R.bind, asgTg, asB, asI, ofO, setTg, setTgs, PM.R.bind_ok, exs, eq0, gt, hp, w, tD, aD]
  have b1 : ex F (PM.run F Lk02.P (N + 4)) (.ite (.cmp .eq (.var 4) (.k (.int (0)))) [.ret (.ite (.cmp .gt (.var 2) (.k (.int (0)))) (.tup [.k (.str "number"), .call 20 [.var 0]]) (.tup [.k (.str "total"), .call 23 [.var 0, .var 1]]))] []) ⟨[some (.ref 1), some (kD a b c), some (.int ((l + 1 : Nat) : Int)), some (.bl true), some (.int s), none], Hp cs1 mix1⟩ = .ok (.nx ⟨[some (.ref 1), some (kD a b c), some (.int ((l + 1 : Nat) : Int)), some (.bl true), some (.int s), none], Hp cs1 mix1⟩) := by
    clear hv hh a0 w1
    rw [decide_eq_false e1] at eq0
    generalize PM.run F Lk02.P (N + 4) = cl at *
    generalize ((l + 1 : Nat) : Int) = l1 at *
    generalize kD a b c = K
    simp [isOwn, tmp, view, frz, ex, aw, ev, evvs, evbs, evas, evo, evc, evT, vw, bw, slot, rd, setS, PM.R.bind, asgTg, asB, asI, ofO, setTg, setTgs, PM.R.bind_ok, exs, eq0]
  by_cases e2 : s < 4
  · obtain ⟨t, cs3, mix3, w3, sm, hc3⟩ := hv cs1 mix1 hc1
    refine ⟨.total t, cs3, mix3, ?_, ⟨sm_total sm.1, rfl⟩, hc3⟩
    refine run_ret [some (.ref 1), some (kD a b c), some (.int ((l + 1 : Nat) : Int)), some (.bl true), none, none] (fn := Lk02.f25) (d := tD (.total t)) (S := ⟨[some (.ref 1), some (kD a b c), some (.int ((l + 1 : Nat) : Int)), some (.bl true), some (.int s), none], Hp cs3 mix3⟩) rfl rfl rfl (exs_nx a0 (exs_nx b1 (exs_ret ?_))) (end_Hp _ _ _ _ _ (below_tD _ _))
    clear a0 b1 hv hh w1
    obtain ⟨q, hq⟩ := tD_tup t
    rw [tD]
    rw [hq] at w3 ⊢
    generalize PM.run F Lk02.P (N + 4) = cl at *
    generalize ((l + 1 : Nat) : Int) = l1 at *
    unfold kD at *
    generalize sD a = AA at *
    generalize sD b = BB at *
    generalize sD c = CC at *
    simp [isOwn, tmp, view, frz, ex, aw, ev, evvs, evbs, evas, evo, evc, evT, vw, bw, slot, rd, setS, PM.R.bind, asgTg, asB, asI, ofO, setTg, setTgs, PM.R.bind_ok, exs, lt, e2, binD, sb, w3]
  have b2 : ex F (PM.run F Lk02.P (N + 4)) (.ite (.cmp .lt (.var 4) (.k (.int (4)))) [.ret (.tup [.k (.str "total"), .call 24 [.var 0, .var 1, .bin .sub (.var 2) (.k (.int (1))), .var 3]])] []) ⟨[some (.ref 1), some (kD a b c), some (.int ((l + 1 : Nat) : Int)), some (.bl true), some (.int s), none], Hp cs1 mix1⟩ = .ok (.nx ⟨[some (.ref 1), some (kD a b c), some (.int ((l + 1 : Nat) : Int)), some (.bl true), some (.int s), none], Hp cs1 mix1⟩) := by
    clear hv hh a0 w1 b1
    generalize PM.run F Lk02.P (N + 4) = cl at *
    generalize ((l + 1 : Nat) : Int) = l1 at *
    generalize kD a b c = K
    simp [isOwn, tmp, view, frz, ex, aw, ev, evvs, evbs, evas, evo, evc, evT, vw, bw, slot, rd, setS, PM.R.bind, asgTg, asB, asI, ofO, setTg, setTgs, PM.R.bind_ok, exs, lt, e2]
  obtain ⟨ts, y, cs3, mix3, q, ql, qs, hc3⟩ := draws_lc F (PM.run F Lk02.P (N + 4)) 25 (kD a b c) ⟨_, rfl⟩ l _ hh 5 [some (.int s)] [] rfl (isD (rgI 0 2)) [] none cs1 mix1 hc1 (by rw [isD_length, length_rgI]; simp)
  rw [isD_length, length_rgI] at ql
  rw [List.nil_append, List.map_nil] at q
  have i1 : itemsD 1 [.int 2] = some (isD (rgI 0 2)) := by
    have a1 : fitI 2 = true := (fitI_is _).mpr (by decide)
    simp only [itemsD, a1, if_true]
    exact congrArg some (rangeD_isD 2)
  have hlc : ev F (PM.run F Lk02.P (N + 4)) (.lc [5] (.v 5) 1 [.k (.int 2)] [] (.call 25 [.var 0, .var 1, .bin .sub (.var 2) (.k (.int 1)), .var 3])) ⟨[some (.ref 1), some (kD a b c), some (.int ((l + 1 : Nat) : Int)), some (.bl true), some (.int s), none], Hp cs1 mix1⟩ = .ok (.nl (ts.map tD), ⟨[some (.ref 1), some (kD a b c), some (.int ((l + 1 : Nat) : Int)), some (.bl true), some (.int s), none], Hp cs3 mix3⟩) := by
    have e0 : evvs F (PM.run F Lk02.P (N + 4)) [.k (.int 2)] ⟨[some (.ref 1), some (kD a b c), some (.int ((l + 1 : Nat) : Int)), some (.bl true), some (.int s), none], Hp cs1 mix1⟩ = .ok ([.int 2], ⟨[some (.ref 1), some (kD a b c), some (.int ((l + 1 : Nat) : Int)), some (.bl true), some (.int s), none], Hp cs1 mix1⟩) := by
      clear q hv hh
      generalize ((l + 1 : Nat) : Int) = l1 at *
      generalize kD a b c = K
      simp [isOwn, tmp, view, frz, ex, aw, ev, evvs, evbs, evas, evo, evc, evT, vw, bw, slot, rd, setS, PM.R.bind, asgTg, asB, asI, ofO, setTg, setTgs, PM.R.bind_ok]
    have h := ev_lc_st (F := F) (call := PM.run F Lk02.P (N + 4)) (S := ⟨[some (.ref 1), some (kD a b c), some (.int ((l + 1 : Nat) : Int)), some (.bl true), some (.int s), none], Hp cs1 mix1⟩) (S1 := ⟨[some (.ref 1), some (kD a b c), some (.int ((l + 1 : Nat) : Int)), some (.bl true), some (.int s), none], Hp cs1 mix1⟩) (S2 := ⟨[some (.ref 1), some (kD a b c), some (.int ((l + 1 : Nat) : Int)), some (.bl true), some (.int s), y], Hp cs3 mix3⟩) (own := [5]) (tg := .v 5) (k := 1) (its := [.k (.int 2)]) (cond := []) (elt := .call 25 [.var 0, .var 1, .bin .sub (.var 2) (.k (.int 1)), .var 3]) (ds := isD (rgI 0 2)) (out := ts.map tD) e0 i1 rfl q
    exact h
  have pt : ∀ A : List D, primD .tuple1 [.lst A] = some (.tup A) := fun _ => rfl
  have eq4 := eq_ii s 4
  by_cases e6 : s = 4
  · rw [decide_eq_true e6] at eq4
    refine ⟨.plus ts, cs3, mix3, ?_, ⟨sm_plus (by omega) fun t ht => (qs t ht).1, z0_list fun t ht => (qs t ht).2⟩, hc3⟩
    refine run_ret [some (.ref 1), some (kD a b c), some (.int ((l + 1 : Nat) : Int)), some (.bl true), none, none] (fn := Lk02.f25) (d := tD (.plus ts)) (S := ⟨[some (.ref 1), some (kD a b c), some (.int ((l + 1 : Nat) : Int)), some (.bl true), some (.int s), none], Hp cs3 mix3⟩) rfl rfl rfl (exs_nx a0 (exs_nx b1 (exs_nx b2 (exs_ret ?_)))) (end_Hp _ _ _ _ _ (below_tD _ _))
    clear a0 b1 b2 hv hh w1 q
    rw [tD, tDs_map]
    generalize ts.map tD = TS at *
    generalize PM.run F Lk02.P (N + 4) = cl at *
    generalize ME.lc _ _ _ _ _ _ = le at *
    generalize ((l + 1 : Nat) : Int) = l1 at *
    generalize kD a b c = K at *
    simp [isOwn, tmp, view, frz, ex, aw, ev, evvs, evbs, evas, evo, evc, evT, vw, bw, slot, rd, setS, PM.R.bind, asgTg, asB, asI, ofO, setTg, setTgs, PM.R.bind_ok, eq4, hlc, pt]
  · rw [decide_eq_false e6] at eq4
    refine ⟨.times ts, cs3, mix3, ?_, ⟨sm_times (by omega) fun t ht => (qs t ht).1, z0_list fun t ht => (qs t ht).2⟩, hc3⟩
    refine run_ret [some (.ref 1), some (kD a b c), some (.int ((l + 1 : Nat) : Int)), some (.bl true), none, none] (fn := Lk02.f25) (d := tD (.times ts)) (S := ⟨[some (.ref 1), some (kD a b c), some (.int ((l + 1 : Nat) : Int)), some (.bl true), some (.int s), none], Hp cs3 mix3⟩) rfl rfl rfl (exs_nx a0 (exs_nx b1 (exs_nx b2 (exs_ret ?_)))) (end_Hp _ _ _ _ _ (below_tD _ _))
    clear a0 b1 b2 hv hh w1 q
    rw [tD, tDs_map]
    generalize ts.map tD = TS at *
    generalize PM.run F Lk02.P (N + 4) = cl at *
    generalize ME.lc _ _ _ _ _ _ = le at *
    generalize ((l + 1 : Nat) : Int) = l1 at *
    generalize kD a b c = K at *
    simp [isOwn, tmp, view, frz, ex, aw, ev, evvs, evbs, evas, evo, evc, evT, vw, bw, slot, rd, setS, PM.R.bind, asgTg, asB, asI, ofO, setTg, setTgs, PM.R.bind_ok, eq4, hlc, pt]
theorem draw_all : ∀ l : Nat, Draws (PM.run F Lk02.P (N + 5 + l)) 24 (kD a b c) l (fun _ => True) ∧ Draws (PM.run F Lk02.P (N + 5 + l)) 25 (kD a b c) l Z0
  | 0 => ⟨vec0 F N a b c hbc hk, hear0 F N a b c hbc hk⟩
  | l + 1 => by
    obtain ⟨h1, h2⟩ := draw_all l
    have e : N + 5 + l = (N + 1 + l) + 4 := by omega
    rw [e] at h1 h2
    have e2 : N + 5 + (l + 1) = (N + 1 + l) + 5 := by omega
    rw [e2]
    exact ⟨vecS F (N + 1 + l) a b c hbc hk l h1 h2, hearS F (N + 1 + l) a b c hbc hk l h1 h2⟩
end
end Mk
end

section
set_option Elab.async false
set_option linter.all false
open PySem PM
namespace Mk
def isHear : T → Bool
  | .hear _ _ => true
  | _ => false
theorem eq_hear (t : T) : ∃ w : PySem.Str, idxD (tD t) (.int 0) = some (.str w) ∧ cmpD .eq (.str w) (.str "hear") = some (isHear t) := by
  cases t with
  | leaf m a => cases m <;> exact ⟨_, tup_idx0 _ _, by simp [isHear, in_T1_number, il_T1_number, nl_T1_number, in_T1_mark, il_T1_mark, nl_T1_mark, in_T1_hear, il_T1_hear, nl_T1_hear, in_T1_whole, il_T1_whole, nl_T1_whole, in_T1_total, il_T1_total, nl_T1_total, in_T1_plus, il_T1_plus, nl_T1_plus, in_T1_times, il_T1_times, nl_T1_times, in_T2_number, il_T2_number, nl_T2_number, in_T2_mark, il_T2_mark, nl_T2_mark, in_T2_hear, il_T2_hear, nl_T2_hear, in_T2_whole, il_T2_whole, nl_T2_whole, in_T2_total, il_T2_total, nl_T2_total, in_T2_plus, il_T2_plus, nl_T2_plus, in_T2_times, il_T2_times, nl_T2_times, in_T3_number, il_T3_number, nl_T3_number, in_T3_mark, il_T3_mark, nl_T3_mark, in_T3_hear, il_T3_hear, nl_T3_hear, in_T3_whole, il_T3_whole, nl_T3_whole, in_T3_total, il_T3_total, nl_T3_total, in_T3_plus, il_T3_plus, nl_T3_plus, in_T3_times, il_T3_times, nl_T3_times, in_T4_number, il_T4_number, nl_T4_number, in_T4_mark, il_T4_mark, nl_T4_mark, in_T4_hear, il_T4_hear, nl_T4_hear, in_T4_whole, il_T4_whole, nl_T4_whole, in_T4_total, il_T4_total, nl_T4_total, in_T4_plus, il_T4_plus, nl_T4_plus, in_T4_times, il_T4_times, nl_T4_times, eq_number_hear, eq_number_total, eq_number_times, eq_number_whole, ne_number_whole, eq_mark_hear, eq_mark_total, eq_mark_times, eq_mark_whole, ne_mark_whole, eq_hear_hear, eq_hear_total, eq_hear_times, eq_hear_whole, ne_hear_whole, eq_whole_hear, eq_whole_total, eq_whole_times, eq_whole_whole, ne_whole_whole, eq_total_hear, eq_total_total, eq_total_times, eq_total_whole, ne_total_whole, eq_plus_hear, eq_plus_total, eq_plus_times, eq_plus_whole, ne_plus_whole, eq_times_hear, eq_times_total, eq_times_times, eq_times_whole, ne_times_whole]⟩
  | _ => exact ⟨_, tup_idx0 _ _, by simp [isHear, in_T1_number, il_T1_number, nl_T1_number, in_T1_mark, il_T1_mark, nl_T1_mark, in_T1_hear, il_T1_hear, nl_T1_hear, in_T1_whole, il_T1_whole, nl_T1_whole, in_T1_total, il_T1_total, nl_T1_total, in_T1_plus, il_T1_plus, nl_T1_plus, in_T1_times, il_T1_times, nl_T1_times, in_T2_number, il_T2_number, nl_T2_number, in_T2_mark, il_T2_mark, nl_T2_mark, in_T2_hear, il_T2_hear, nl_T2_hear, in_T2_whole, il_T2_whole, nl_T2_whole, in_T2_total, il_T2_total, nl_T2_total, in_T2_plus, il_T2_plus, nl_T2_plus, in_T2_times, il_T2_times, nl_T2_times, in_T3_number, il_T3_number, nl_T3_number, in_T3_mark, il_T3_mark, nl_T3_mark, in_T3_hear, il_T3_hear, nl_T3_hear, in_T3_whole, il_T3_whole, nl_T3_whole, in_T3_total, il_T3_total, nl_T3_total, in_T3_plus, il_T3_plus, nl_T3_plus, in_T3_times, il_T3_times, nl_T3_times, in_T4_number, il_T4_number, nl_T4_number, in_T4_mark, il_T4_mark, nl_T4_mark, in_T4_hear, il_T4_hear, nl_T4_hear, in_T4_whole, il_T4_whole, nl_T4_whole, in_T4_total, il_T4_total, nl_T4_total, in_T4_plus, il_T4_plus, nl_T4_plus, in_T4_times, il_T4_times, nl_T4_times, eq_number_hear, eq_number_total, eq_number_times, eq_number_whole, ne_number_whole, eq_mark_hear, eq_mark_total, eq_mark_times, eq_mark_whole, ne_mark_whole, eq_hear_hear, eq_hear_total, eq_hear_times, eq_hear_whole, ne_hear_whole, eq_whole_hear, eq_whole_total, eq_whole_times, eq_whole_whole, ne_whole_whole, eq_total_hear, eq_total_total, eq_total_times, eq_total_whole, ne_total_whole, eq_plus_hear, eq_plus_total, eq_plus_times, eq_plus_whole, ne_plus_whole, eq_times_hear, eq_times_total, eq_times_times, eq_times_whole, ne_times_whole]⟩
/-- the law's program -/
def Okp (t : T) : Prop := sz t ≤ 700 ∧ hgt t ≤ 6 ∧ dep (tD t) ≤ 13 ∧ (rnd t).1 = 0
section
variable (F : Fields) (n : Nat) (a b c : List PySem.Str) (hbc : b ≠ [] ∨ c ≠ []) (hk : a.length + b.length + c.length < 30)
include hbc hk
theorem some_ok (l : Nat) (h1 : 1 ≤ l) (h5 : l ≤ 5) (cs : List Int) (mix : Int) (hc : cs.length ≤ 100) : ∃ (t : T) (cs' : List Int) (mix' : Int), PM.run F Lk02.P (n + 11) 28 [.ref 1, kD a b c, .int (l : Nat), .bl true] (Hp cs mix) = .ok (tD t, Hp cs' mix') ∧ Okp t ∧ cs'.length ≤ 100 := by
  obtain ⟨t, cs1, mix1, w1, ⟨sm, z0⟩, hc1⟩ := (draw_all F (n + 5 - l) a b c hbc hk l).2 cs mix hc
  rw [show n + 5 - l + 5 + l = n + 10 by omega] at w1
  have hB : Bz l ≤ 607 := by
    have : l = 1 ∨ l = 2 ∨ l = 3 ∨ l = 4 ∨ l = 5 := by omega
    rcases this with rfl | rfl | rfl | rfl | rfl <;> decide
  obtain ⟨m1, m2, m3⟩ := sm
  have hok : Okp t := ⟨by omega, by omega, by omega, z0⟩
  obtain ⟨al, w2, al1⟩ := allw_ok F (n + 8) (Hp cs1 mix1) (below_Hp cs1 mix1) t (by omega)
  have gt : ∀ a b : Int, cmpD .gt (.int a) (.int b) = some (decide (b < a)) := fun _ _ => rfl
  have pl : ∀ A : List D, primD .len [.lst A] = some (.int ((A.length : Nat) : Int)) := fun _ => rfl
  have a0 : ex F (PM.run F Lk02.P (n + 10)) (.asg (.v 4) (.call 25 [.var 0, .var 1, .var 2, .var 3])) ⟨[some (.ref 1), some (kD a b c), some (.int (l : Nat)), some (.bl true), none, none], Hp cs mix⟩ = .ok (.nx ⟨[some (.ref 1), some (kD a b c), some (.int (l : Nat)), some (.bl true), some (tD t), none], Hp cs1 mix1⟩) := by
    obtain ⟨q, hq⟩ := tD_tup t
    rw [hq] at w1 ⊢
    clear w2
    generalize PM.run F Lk02.P (n + 10) = cl at *
    generalize ((l : Nat) : Int) = ll at *
    unfold kD at *
    generalize sD a = AA at *
    generalize sD b = BB at *
    generalize sD c = CC at *
    simp [isOwn, tmp, view, frz, ex, aw, ev, evvs, evbs, evas, evo, evc, evT, vw, bw, slot, rd, setS, PM.R.bind, asgTg, asB, asI, ofO, setTg, setTgs, PM.R.bind_ok, w1]
  have htest : ∃ bb : Bool, evT F (PM.run F Lk02.P (n + 10)) (.or (.cmp .gt (.prim .len [.call 27 [.var 4]]) (.k (.int (30)))) (.cmp .eq (.prim .len [.lc [5] (.v 5) 0 [.call 27 [.var 4]] [.cmp .eq (.idx (.var 5) (.k (.int (0)))) (.k (.str "hear"))] (.var 5)]) (.k (.int (0))))) ⟨[some (.ref 1), some (kD a b c), some (.int (l : Nat)), some (.bl true), some (tD t), none], Hp cs1 mix1⟩ = .ok (bb, ⟨[some (.ref 1), some (kD a b c), some (.int (l : Nat)), some (.bl true), some (tD t), none], Hp cs1 mix1⟩) := by
    have hlc := ev_lc (F := F) (call := PM.run F Lk02.P (n + 10)) (S := ⟨[some (.ref 1), some (kD a b c), some (.int (l : Nat)), some (.bl true), some (tD t), none], Hp cs1 mix1⟩) (S1 := ⟨[some (.ref 1), some (kD a b c), some (.int (l : Nat)), some (.bl true), some (tD t), none], Hp cs1 mix1⟩) (own := [5]) (tg := .v 5) (k := 0) (its := [.call 27 [.var 4]]) (cond := [.cmp .eq (.idx (.var 5) (.k (.int 0))) (.k (.str "hear"))]) (elt := .var 5) (vals := [.lst (al.map tD)]) (ds := al) (g := tD) (c := isHear) (f := tD) (Ld := fun k => [some (.ref 1), some (kD a b c), some (.int (l : Nat)), some (.bl true), some (tD t), some (tD k)]) (by
      obtain ⟨q, hq⟩ := tD_tup t
      rw [hq] at w2 ⊢
      clear w1 a0
      generalize PM.run F Lk02.P (n + 10) = cl at *
      generalize al.map tD = AL at *
      generalize ((l : Nat) : Int) = ll at *
      generalize kD a b c = KK at *
      simp [isOwn, tmp, view, frz, ex, aw, ev, evvs, evbs, evas, evo, evc, evT, vw, bw, slot, rd, setS, PM.R.bind, asgTg, asB, asI, ofO, setTg, setTgs, PM.R.bind_ok, w2]) rfl (by
      generalize ((l : Nat) : Int) = ll at *
      generalize kD a b c = KK at *
      generalize tD t = TT at *
      simp [isOwn, tmp, view, frz, ex, aw, ev, evvs, evbs, evas, evo, evc, evT, vw, bw, slot, rd, setS, PM.R.bind, asgTg, asB, asI, ofO, binD, add_ii, subD, cmpD, primD, itemsD, setTg, setTgs, wipeL, noOwn, idxD, sliceD, revD, PM.R.bind_ok]) (by rw [LIM_eq]; omega) (by
      intro k _
      obtain ⟨wd, p, q⟩ := eq_hear k
      generalize ((l : Nat) : Int) = ll at *
      generalize kD a b c = KK at *
      generalize tD t = TT at *
      obtain ⟨x, hx⟩ := tD_tup k
      rw [hx] at p ⊢
      simp [isOwn, tmp, view, frz, ex, aw, ev, evvs, evbs, evas, evo, evc, evT, vw, bw, slot, rd, setS, PM.R.bind, asgTg, asB, asI, ofO, setTg, setTgs, PM.R.bind_ok, p, q, wipeL])
    have eq := eq_ii ((((al.filter isHear).map tD).length : Nat) : Int) 0
    generalize hL1 : (((al.map tD).length : Nat) : Int) = L1
    have pl1 : primD .len [.lst (al.map tD)] = some (.int L1) := by rw [← hL1]; rfl
    generalize hL2 : ((((al.filter isHear).map tD).length : Nat) : Int) = L2 at eq
    have pl2 : primD .len [.lst ((al.filter isHear).map tD)] = some (.int L2) := by rw [← hL2]; rfl
    clear w1 a0
    obtain ⟨q, hq⟩ := tD_tup t
    rw [hq] at w2 hlc ⊢
    generalize PM.run F Lk02.P (n + 10) = cl at *
    generalize ME.lc _ _ _ _ _ _ = le at *
    generalize al.map tD = AL at *
    generalize (al.filter isHear).map tD = AL2 at *
    generalize ((l : Nat) : Int) = ll at *
    generalize kD a b c = KK at *
    by_cases e : 30 < L1
    · exact ⟨true, by simp [isOwn, tmp, view, frz, ex, aw, ev, evvs, evbs, evas, evo, evc, evT, vw, bw, slot, rd, setS, PM.R.bind, asgTg, asB, asI, ofO, setTg, setTgs, PM.R.bind_ok, w2, pl1, gt, e]⟩
    · exact ⟨decide (L2 = 0), by simp [isOwn, tmp, view, frz, ex, aw, ev, evvs, evbs, evas, evo, evc, evT, vw, bw, slot, rd, setS, PM.R.bind, asgTg, asB, asI, ofO, setTg, setTgs, PM.R.bind_ok, w2, pl1, gt, e, hlc, pl2, eq]⟩
  obtain ⟨bb, ht⟩ := htest
  cases bb with
  | true =>
    obtain ⟨lk, cs2, mix2, w3, hc2⟩ := link_ok F (n + 7) a b c hbc hk cs1 mix1 hc1
    obtain ⟨m, x, cs3, mix3, w4, hc3⟩ := leaf_ok F (n + 6) a b c hbc hk cs2 mix2 hc2
    have hd : dep (tD (.leaf m x)) ≤ 2 := by cases x <;> simp [tD, aD, dep, deps]
    refine ⟨.total (.hear lk (.leaf m x)), cs3, mix3, ?_, ⟨by simp [sz], by simp [hgt], ?_, by simp [rnd]⟩, hc3⟩
    · refine run_ret [some (.ref 1), some (kD a b c), some (.int (l : Nat)), some (.bl true), none, none] (fn := Lk02.f28) (d := tD (.total (.hear lk (.leaf m x)))) (S := ⟨[some (.ref 1), some (kD a b c), some (.int (l : Nat)), some (.bl true), some (tD t), none], Hp cs3 mix3⟩) rfl rfl rfl (exs_nx a0 (exs_ret ?_)) (end_Hp _ _ _ _ _ (below_tD _ _))
      unfold ex
      rw [ht]
      show exs F _ _ _ = _
      clear a0 ht w1 w2
      rw [tD, tD]
      obtain ⟨q, hq⟩ := tD_tup (.leaf m x)
      rw [hq] at w4 ⊢
      simp only [lD_eq] at w3 ⊢
      generalize lk.map qD = LL at *
      generalize PM.run F Lk02.P (n + 10) = cl at *
      generalize ((l : Nat) : Int) = ll at *
      generalize tD t = TT at *
      unfold kD at *
      generalize sD a = AA at *
      generalize sD b = BB at *
      generalize sD c = CC at *
      simp [isOwn, tmp, view, frz, ex, aw, ev, evvs, evbs, evas, evo, evc, evT, vw, bw, slot, rd, setS, PM.R.bind, asgTg, asB, asI, ofO, setTg, setTgs, PM.R.bind_ok, exs, w3, w4]
    · have := dep_lD lk
      simp only [tD, dep, deps] at *
      omega
  | false =>
    refine ⟨t, cs1, mix1, ?_, hok, hc1⟩
    refine run_ret [some (.ref 1), some (kD a b c), some (.int (l : Nat)), some (.bl true), none, none] (fn := Lk02.f28) (d := tD t) (S := ⟨[some (.ref 1), some (kD a b c), some (.int (l : Nat)), some (.bl true), some (tD t), none], Hp cs1 mix1⟩) rfl rfl rfl (exs_nx a0 (exs_nx (S1 := ⟨[some (.ref 1), some (kD a b c), some (.int (l : Nat)), some (.bl true), some (tD t), none], Hp cs1 mix1⟩) ?_ (exs_ret ?_))) (end_Hp _ _ _ _ _ (below_tD _ _))
    · unfold ex
      rw [ht]
      rfl
    · obtain ⟨q, hq⟩ := tD_tup t
      rw [hq]
      generalize kD a b c = KK
      simp [isOwn, tmp, view, frz, ex, aw, ev, evvs, evbs, evas, evo, evc, evT, vw, bw, slot, rd, setS, PM.R.bind, asgTg, asB, asI, ofO, setTg, setTgs, PM.R.bind_ok]
end
def asks (t : T) : List I2 := [.i (sz t : Nat), .i ((rnd t).2 : Nat), .b (!(pre false t).any badM)]
section
variable (F : Fields) (n : Nat) (C : List D) (hb : belows C.length C = true)
include hb
theorem asked_ok (t : T) (hs : sz t < 30000) (hh : hgt t ≤ 20) (hd : dep (tD t) ≤ 45) (v : Bool) : PM.run F Lk02.P (n + 24) 31 [tD t, .bl v] C = .ok (.lst ((asks t).map t2), C) := by
  obtain ⟨al, w1, al1⟩ := allw_ok F (n + 21) C hb t (by omega)
  have w2 := lrounds_ok F C hb t (by omega) (n + 21) (by omega)
  have w3 := lwalk_ok F C hb t (by omega) (n + 21) (by omega) false
  have w4 := hparts_ok F (n + 20) C hb t (by omega) hd
  have w5 := rounds_ok F (n + 20) C hb t (by omega) hd
  have w6 := walk_ok F (n + 20) C hb t (by omega) hd
  have pl : primD .len [.lst (al.map tD)] = some (.int (sz t : Nat)) := by
    show some (D.int (((al.map tD).length : Nat) : Int)) = _
    rw [List.length_map, al1]
  have i1 : idxD (rD2 (rnd t)) (.int 1) = some (.int ((rnd t).2 : Nat)) := tup_idx1 _ _ _
  have zz : ∀ x y z : D, primD .listZip [.lst [x, y, z], .lst [x, y, z]] = some (.nl [.tup [x, x], .tup [y, y], .tup [z, z]]) := fun x y z => by
    have : (3 : Nat) < LIM := by rw [LIM_eq]; decide
    show (if (3 : Nat) < LIM then some _ else none) = _
    rw [if_pos this]
    rfl
  have hr : ∃ x y : Int, rD2 (rnd t) = .tup [.int x, .int y] := ⟨_, _, rfl⟩
  have ha : (asks t).map t2 = [.tup [.int (sz t : Nat), .int (sz t : Nat)], .tup [.int ((rnd t).2 : Nat), .int ((rnd t).2 : Nat)], .tup [.bl (!(pre false t).any badM), .bl (!(pre false t).any badM)]] := rfl
  rw [ha]
  generalize (!(pre false t).any badM) = wk at *
  generalize ((sz t : Nat) : Int) = s at *
  generalize (((rnd t).2 : Nat) : Int) = r2 at *
  generalize rD2 (rnd t) = RR at *
  obtain ⟨x, y, rfl⟩ := hr
  obtain ⟨q, hq⟩ := tD_tup t
  rw [hq] at w1 w2 w3 w4 w5 w6 ⊢
  generalize al.map tD = AL at *
  replace w1 : PM.run F Lk02.P (n + 23) 27 [.tup q] C = .ok (.lst AL, C) := w1
  cases v with
  | false =>
    refine run_ret [some (.tup q), some (.bl false), none, none] (fn := Lk02.f31) (d := .lst [.tup [.int s, .int s], .tup [.int r2, .int r2], .tup [.bl wk, .bl wk]]) (S := ⟨[some (.tup q), some (.bl false), some (.nl [.int s, .int r2, .bl wk]), some (.lst [.int s, .int r2, .bl wk])], C⟩) rfl rfl rfl ?_ (end_ok rfl rfl hb)
    generalize PM.run F Lk02.P (n + 23) = cl at *
    refine exs_nx (S1 := ⟨[some (.tup q), some (.bl false), some (.nl [.int s, .int r2, .bl wk]), none], C⟩) ?_ (exs_nx (S1 := ⟨[some (.tup q), some (.bl false), some (.nl [.int s, .int r2, .bl wk]), some (.nl [.int s, .int r2, .bl wk])], C⟩) ?_ (exs_nx (S1 := ⟨[some (.tup q), some (.bl false), some (.nl [.int s, .int r2, .bl wk]), some (.lst [.int s, .int r2, .bl wk])], C⟩) ?_ (exs_ret ?_)))
    · simp [isOwn, tmp, view, frz, ex, aw, ev, evvs, evbs, evas, evo, evc, evT, vw, bw, slot, rd, setS, PM.R.bind, asgTg, asB, asI, ofO, setTg, setTgs, PM.R.bind_ok, w1, pl, w2, i1, w3]
    · simp [isOwn, tmp, view, frz, ex, aw, ev, evvs, evbs, evas, evo, evc, evT, vw, bw, slot, rd, setS, PM.R.bind, asgTg, asB, asI, ofO, setTg, setTgs, PM.R.bind_ok, w4, w5, w6]
    · simp [isOwn, tmp, view, frz, ex, aw, ev, evvs, evbs, evas, evo, evc, evT, vw, bw, slot, rd, setS, PM.R.bind, asgTg, asB, asI, ofO, setTg, setTgs, PM.R.bind_ok]
    · have z := zz (.int s) (.int r2) (.bl wk)
      generalize [D.int s, .int r2, .bl wk] = ZZ at *
      simp [isOwn, tmp, view, frz, ex, aw, ev, evvs, evbs, evas, evo, evc, evT, vw, bw, slot, rd, setS, PM.R.bind, asgTg, asB, asI, ofO, setTg, setTgs, PM.R.bind_ok, z]
  | true =>
    refine run_ret [some (.tup q), some (.bl true), none, none] (fn := Lk02.f31) (d := .lst [.tup [.int s, .int s], .tup [.int r2, .int r2], .tup [.bl wk, .bl wk]]) (S := ⟨[some (.tup q), some (.bl true), some (.nl [.int s, .int r2, .bl wk]), some (.nl [.int s, .int r2, .bl wk])], C⟩) rfl rfl rfl ?_ (end_ok rfl rfl hb)
    generalize PM.run F Lk02.P (n + 23) = cl at *
    refine exs_nx (S1 := ⟨[some (.tup q), some (.bl true), some (.nl [.int s, .int r2, .bl wk]), none], C⟩) ?_ (exs_nx (S1 := ⟨[some (.tup q), some (.bl true), some (.nl [.int s, .int r2, .bl wk]), some (.nl [.int s, .int r2, .bl wk])], C⟩) ?_ (exs_nx (S1 := ⟨[some (.tup q), some (.bl true), some (.nl [.int s, .int r2, .bl wk]), some (.nl [.int s, .int r2, .bl wk])], C⟩) ?_ (exs_ret ?_)))
    · simp [isOwn, tmp, view, frz, ex, aw, ev, evvs, evbs, evas, evo, evc, evT, vw, bw, slot, rd, setS, PM.R.bind, asgTg, asB, asI, ofO, setTg, setTgs, PM.R.bind_ok, w1, pl, w2, i1, w3]
    · simp [isOwn, tmp, view, frz, ex, aw, ev, evvs, evbs, evas, evo, evc, evT, vw, bw, slot, rd, setS, PM.R.bind, asgTg, asB, asI, ofO, setTg, setTgs, PM.R.bind_ok, w4, w5, w6]
    · simp [isOwn, tmp, view, frz, ex, aw, ev, evvs, evbs, evas, evo, evc, evT, vw, bw, slot, rd, setS, PM.R.bind, asgTg, asB, asI, ofO, setTg, setTgs, PM.R.bind_ok, w4, w5, w6]
    · have z := zz (.int s) (.int r2) (.bl wk)
      generalize [D.int s, .int r2, .bl wk] = ZZ at *
      simp [isOwn, tmp, view, frz, ex, aw, ev, evvs, evbs, evas, evo, evc, evT, vw, bw, slot, rd, setS, PM.R.bind, asgTg, asB, asI, ofO, setTg, setTgs, PM.R.bind_ok, z]
end
end Mk
end

section
set_option Elab.async false
set_option linter.all false
open PySem PM
namespace Mk
theorem max2_nat (a b : Nat) : primD .max2 [.int (a : Nat), .int (b : Nat)] = some (.int ((max a b : Nat) : Int)) := by
  show some (D.int (if ((b : Nat) : Int) > (a : Nat) then ((b : Nat) : Int) else ((a : Nat) : Int))) = _
  congr 2
  split <;> omega
def one : T := .leaf false (.p 1 1)
/-- a row of k hearings -/
def Rowp (k : Nat) (t : T) : Prop := (∀ v, (pre v t).any badM = false) ∧ rnd t = (k, 0) ∧ sz t = k + 1 ∧ hgt t = k ∧ dep (tD t) ≤ k + 2
theorem row_one : Rowp 0 one := ⟨fun v => by simp [one, pre, badM, crowd], rfl, rfl, rfl, by simp [one, tD, aD, dep, deps]⟩
theorem row_hear {k : Nat} {t : T} (lk : List (PySem.Str × PySem.Str)) (h : Rowp k t) : Rowp (k + 1) (.hear lk t) := by
  obtain ⟨h1, h2, h3, h4, h5⟩ := h
  have := dep_lD lk
  refine ⟨fun v => ?_, by rw [rnd, h2], by rw [sz, h3]; omega, by rw [hgt, h4], by simp only [tD, dep, deps]; omega⟩
  rw [pre, List.any_cons, h1 v]
  simp [badM, crowd]
section
variable (F : Fields) (n : Nat)
theorem row_loop (a b c : List PySem.Str) (hbc : b ≠ [] ∨ c ≠ []) (hk : a.length + b.length + c.length < 30) (s0 s2 s3 s5 s6 s7 s8 s10 s11 s13 : Option D) : ∀ (l : List Int) (k : Nat) (t : T) (x9 : Option D) (cs : List Int) (mix : Int), cs.length ≤ 100 → Rowp k t →
    ∃ (t' : T) (y9 : Option D) (cs' : List Int) (mix' : Int), forL (fun S => exs F (PM.run F Lk02.P (n + 24)) [.asg (.v 12) (.tup [.k (.str "hear"), .call 22 [.var 1, .var 4], .var 12])] S) (.v 9) (isD l) ⟨[s0, some (.ref 1), s2, s3, some (kD a b c), s5, s6, s7, s8, x9, s10, s11, some (tD t), s13], Hp cs mix⟩ = .ok (.nx ⟨[s0, some (.ref 1), s2, s3, some (kD a b c), s5, s6, s7, s8, y9, s10, s11, some (tD t'), s13], Hp cs' mix'⟩) ∧ Rowp (k + l.length) t' ∧ cs'.length ≤ 100 := by
  intro l
  induction l with
  | nil => exact fun k t x9 cs mix hc h => ⟨t, x9, cs, mix, rfl, h, hc⟩
  | cons i l ih =>
    intro k t x9 cs mix hc h
    obtain ⟨lk, cs1, mix1, w, hc1⟩ := link_ok F (n + 21) a b c hbc hk cs mix hc
    obtain ⟨t', y9, cs', mix', q, h', hc'⟩ := ih (k + 1) (.hear lk t) (some (.int i)) cs1 mix1 hc1 (row_hear lk h)
    have el : k + (i :: l).length = k + 1 + l.length := by rw [List.length_cons]; omega
    rw [el]
    refine ⟨t', y9, cs', mix', for_step (L := [s0, some (.ref 1), s2, s3, some (kD a b c), s5, s6, s7, s8, some (.int i), s10, s11, some (tD t), s13]) (by simp [setTg]) (exs_nx (S1 := ⟨[s0, some (.ref 1), s2, s3, some (kD a b c), s5, s6, s7, s8, some (.int i), s10, s11, some (tD (.hear lk t)), s13], Hp cs1 mix1⟩) ?_ exs_end) q, h', hc'⟩
    clear q ih
    rw [tD]
    obtain ⟨x, hx⟩ := tD_tup t
    rw [hx]
    simp only [lD_eq] at w ⊢
    generalize lk.map qD = LL at *
    generalize PM.run F Lk02.P (n + 24) = cl at *
    unfold kD at *
    generalize sD a = AA at *
    generalize sD b = BB at *
    generalize sD c = CC at *
    simp [isOwn, tmp, view, frz, ex, aw, ev, evvs, evbs, evas, evo, evc, evT, vw, bw, slot, rd, setS, PM.R.bind, asgTg, asB, asI, ofO, setTg, setTgs, PM.R.bind_ok, w]
theorem turn_ok (s0 x4 x5 x6 x7 x8 x9 x10 x11 x12 x13 : Option D) (tn : Int) (ps : List I2) (hps : ps.length < 1000) (cs : List Int) (mix : Int) (hc : cs.length ≤ 100) :
    ∃ (ps' : List I2) (y4 y5 y6 y7 y8 y9 y10 y11 y12 y13 : Option D) (cs' : List Int) (mix' : Int), exs F (PM.run F Lk02.P (n + 24)) [.asg (.v 4) (.call 17 [.var 1]), .asg (.v 5) (.call 28 [.var 1, .var 4, .bin .add (.k (.int (1))) (.call 10 [.var 1, .k (.int (5))]), .k (.bl true)]), .asg (.v 2) (.bin .add (.var 2) (.call 31 [.var 5, .cmp .eq (.var 3) (.k (.int (0)))])), .par [10, 11] [.call 22 [.var 1, .var 4], .tup [.k (.str "number"), .tup [.k (.int (1)), .k (.int (1))]]], .asg (.v 6) (.tup [.k (.str "hear"), .var 10, .tup [.k (.str "times"), .tup [.tup [.k (.str "whole"), .var 5], .var 11]]]), .asg (.v 7) (.prim .max2 [.k (.int (1)), .idx (.call 29 [.var 5]) (.k (.int (1)))]), .asg (.v 2) (.bin .add (.var 2) (.list [.tup [.call 6 [.tup [.k (.str "total"), .var 6]], .var 7], .tup [.call 6 [.tup [.k (.str "total"), .tup [.k (.str "hear"), .var 10, .var 6]]], .prim .max2 [.k (.int (2)), .var 7]]])), .asg (.v 2) (.bin .add (.var 2) (.list [.tup [.call 3 [.tup [.k (.str "total"), .var 6]], .bin .add (.prim .len [.call 27 [.var 5]]) (.k (.int (5)))]])), .asg (.v 8) (.tup [.k (.str "total"), .tup [.k (.str "times"), .tup [.tup [.k (.str "hear"), .var 10, .var 11], .tup [.k (.str "hear"), .var 10, .var 11]]]]), .asg (.v 2) (.bin .add (.var 2) (.list [.tup [.call 8 [.var 8], .k (.bl false)], .tup [.call 8 [.tup [.k (.str "total"), .tup [.k (.str "whole"), .var 8]]], .k (.bl false)]])), .asg (.v 2) (.bin .add (.var 2) (.list [.tup [.call 8 [.tup [.k (.str "times"), .tup [.tup [.k (.str "total"), .tup [.k (.str "hear"), .var 10, .var 11]], .tup [.k (.str "total"), .tup [.k (.str "hear"), .var 10, .var 11]]]]], .k (.bl true)]])), .par [12, 13] [.var 11, .call 10 [.var 1, .k (.int (9))]], .for_ (.v 9) 1 [.var 13] [.asg (.v 12) (.tup [.k (.str "hear"), .call 22 [.var 1, .var 4], .var 12])], .asg (.v 2) (.bin .add (.bin .add (.var 2) (.list [.tup [.call 6 [.tup [.k (.str "total"), .var 12]], .var 13], .tup [.call 8 [.tup [.k (.str "total"), .var 12]], .k (.bl true)]])) (.call 31 [.tup [.k (.str "plus"), .tup [.tup [.k (.str "total"), .var 12], .var 5]], .k (.bl false)]))] ⟨[s0, some (.ref 1), some (.nl (ps.map t2)), some (.int tn), x4, x5, x6, x7, x8, x9, x10, x11, x12, x13], Hp cs mix⟩ = .ok (.nx ⟨[s0, some (.ref 1), some (.nl (ps'.map t2)), some (.int tn), y4, y5, y6, y7, y8, y9, y10, y11, y12, y13], Hp cs' mix'⟩) ∧ ps'.length = ps.length + 14 ∧ cs'.length ≤ 100 := by
  obtain ⟨a, b, c, cs1, mix1, w0, hbc, hk, hc1⟩ := kind_ok2 F (n + 20) cs mix hc
  obtain ⟨r, cs2, mix2, w1, r0, r1, hc2⟩ := any_ok F (n + 23) 5 (by decide) (by decide) cs1 mix1 hc1
  obtain ⟨r, rfl⟩ : ∃ r' : Nat, r = (r' : Nat) := ⟨r.toNat, by omega⟩
  obtain ⟨p, cs3, mix3, w2, ⟨p1, p2, p3, p4⟩, hc3⟩ := some_ok F (n + 13) a b c hbc hk (1 + r) (by omega) (by omega) cs2 mix2 hc2
  have hb3 := below_Hp cs3 mix3
  have w3 := asked_ok F n (Hp cs3 mix3) hb3 p (by omega) (by omega) (by omega) (decide (tn = 0))
  obtain ⟨lk, cs4, mix4, w4, hc4⟩ := link_ok F (n + 21) a b c hbc hk cs3 mix3 hc3
  have hb4 := below_Hp cs4 mix4
  have dl := dep_lD lk
  have v1 := lrounds_ok F (Hp cs4 mix4) hb4 p (by omega) (n + 22) (by omega)
  have v2 := rounds_ok F (n + 21) (Hp cs4 mix4) hb4 (.total (.hear lk (.times [.whole p, one]))) (by simp [sz, szs, one]; omega) (by simp only [one, tD, tDs, aD, dep, deps]; omega)
  have v3 := rounds_ok F (n + 21) (Hp cs4 mix4) hb4 (.total (.hear lk (.hear lk (.times [.whole p, one])))) (by simp [sz, szs, one]; omega) (by simp only [one, tD, tDs, aD, dep, deps]; omega)
  have v4 := hparts_ok F (n + 21) (Hp cs4 mix4) hb4 (.total (.hear lk (.times [.whole p, one]))) (by simp [sz, szs, one]; omega) (by simp only [one, tD, tDs, aD, dep, deps]; omega)
  obtain ⟨al, v5, al1⟩ := allw_ok F (n + 22) (Hp cs4 mix4) hb4 p (by omega)
  have v6 := walk_ok F (n + 21) (Hp cs4 mix4) hb4 (.total (.times [.hear lk one, .hear lk one])) (by simp [sz, szs, one]) (by simp only [one, tD, tDs, aD, dep, deps]; omega)
  have v7 := walk_ok F (n + 21) (Hp cs4 mix4) hb4 (.total (.whole (.total (.times [.hear lk one, .hear lk one])))) (by simp [sz, szs, one]) (by simp only [one, tD, tDs, aD, dep, deps]; omega)
  have v8 := walk_ok F (n + 21) (Hp cs4 mix4) hb4 (.times [.total (.hear lk one), .total (.hear lk one)]) (by simp [sz, szs, one]) (by simp only [one, tD, tDs, aD, dep, deps]; omega)
  have f6 : (!(pre false (.total (.times [.hear lk one, .hear lk one]))).any badM) = false := by simp [pre, pres, badM, crowd, plainF, one]
  have f7 : (!(pre false (.total (.whole (.total (.times [.hear lk one, .hear lk one]))))).any badM) = false := by simp [pre, pres, badM, crowd, plainF, one]
  have f8 : (!(pre false (.times [.total (.hear lk one), .total (.hear lk one)])).any badM) = true := by simp [pre, pres, badM, crowd, plainF, one]
  rw [f6] at v6
  rw [f7] at v7
  rw [f8] at v8
  obtain ⟨m, cs5, mix5, w5, m0, m1, hc5⟩ := any_ok F (n + 23) 9 (by decide) (by decide) cs4 mix4 hc4
  obtain ⟨m, rfl⟩ : ∃ m' : Nat, m = (m' : Nat) := ⟨m.toNat, by omega⟩
  obtain ⟨ps1, e1⟩ : ∃ x, x = ps ++ asks p := ⟨_, rfl⟩
  obtain ⟨ps2, e2⟩ : ∃ x, x = ps1 ++ [I2.i ((max 1 (rnd p).2 : Nat) : Int), I2.i ((max 2 (rnd p).2 : Nat) : Int)] := ⟨_, rfl⟩
  obtain ⟨ps3, e3⟩ : ∃ x, x = ps2 ++ [I2.i ((sz p + 5 : Nat) : Int)] := ⟨_, rfl⟩
  obtain ⟨ps4, e4⟩ : ∃ x, x = ps3 ++ [I2.b false, I2.b false] := ⟨_, rfl⟩
  obtain ⟨ps5, e5⟩ : ∃ x, x = ps4 ++ [I2.b true] := ⟨_, rfl⟩
  obtain ⟨row, y9, cs6, mix6, w6, hrow, hc6⟩ := row_loop F n a b c hbc hk s0 (some (.nl (ps5.map t2))) (some (.int tn)) (some (tD p)) (some (tD (.hear lk (.times [.whole p, one])))) (some (.int (max 1 (rnd p).2 : Nat))) (some (tD (.total (.times [.hear lk one, .hear lk one])))) (some (lD lk)) (some (tD one)) (some (.int (m : Nat))) (rgI 0 m) 0 one x9 cs5 mix5 hc5 row_one
  rw [length_rgI, Nat.zero_add] at hrow
  obtain ⟨q1, q2, q3, q4, q5⟩ := hrow
  have hb6 := below_Hp cs6 mix6
  have u1 := rounds_ok F (n + 21) (Hp cs6 mix6) hb6 (.total row) (by rw [sz]; omega) (by simp only [tD, dep, deps]; omega)
  have u2 := walk_ok F (n + 21) (Hp cs6 mix6) hb6 (.total row) (by rw [sz]; omega) (by simp only [tD, dep, deps]; omega)
  have u3 := asked_ok F n (Hp cs6 mix6) hb6 (.plus [.total row, p]) (by simp only [sz, szs]; omega) (by simp only [hgt, hgts]; omega) (by simp only [tD, tDs, dep, deps]; omega) false
  have g1 : (rnd (.total row)).2 = m := by rw [rnd, q2]; simp
  have g2 : (!(pre false (.total row)).any badM) = true := by
    rw [pre, List.any_cons, q1 true]
    simp [badM, crowd]
  rw [g1] at u1
  rw [g2] at u2
  have k1 : (rnd (.total (.hear lk (.times [.whole p, one])))).2 = max 1 (rnd p).2 := by
    simp [rnd, rnds, mx1, one, p4]
  have k2 : (rnd (.total (.hear lk (.hear lk (.times [.whole p, one]))))).2 = max 2 (rnd p).2 := by
    simp [rnd, rnds, mx1, one, p4]
  have k3 : sz (.total (.hear lk (.times [.whole p, one]))) = sz p + 5 := by
    simp only [sz, szs, one]
    omega
  rw [k1] at v2
  rw [k2] at v3
  rw [k3] at v4
  obtain ⟨ps6, e6⟩ : ∃ x, x = ps5 ++ [I2.i (m : Nat), I2.b true] := ⟨_, rfl⟩
  obtain ⟨ps7, e7⟩ : ∃ x, x = ps6 ++ asks (.plus [.total row, p]) := ⟨_, rfl⟩
  have lens : ps1.length = ps.length + 3 ∧ ps2.length = ps.length + 5 ∧ ps3.length = ps.length + 6 ∧ ps4.length = ps.length + 8 ∧ ps5.length = ps.length + 9 ∧ ps6.length = ps.length + 11 ∧ ps7.length = ps.length + 14 := by
    subst e7 e6 e5 e4 e3 e2 e1
    simp [asks]
  obtain ⟨n1, n2, n3, n4, n5, n6, n7⟩ := lens
  have d1 := add_lists (ps.map t2) ((asks p).map t2) (by simp [asks]; omega)
  rw [← List.map_append, ← e1] at d1
  have d2 := add_lists (ps1.map t2) [.tup [.int ((max 1 (rnd p).2 : Nat) : Int), .int ((max 1 (rnd p).2 : Nat) : Int)], .tup [.int ((max 2 (rnd p).2 : Nat) : Int), .int ((max 2 (rnd p).2 : Nat) : Int)]] (by simp; omega)
  rw [show ps1.map t2 ++ [.tup [.int ((max 1 (rnd p).2 : Nat) : Int), .int ((max 1 (rnd p).2 : Nat) : Int)], .tup [.int ((max 2 (rnd p).2 : Nat) : Int), .int ((max 2 (rnd p).2 : Nat) : Int)]] = ps2.map t2 by rw [e2, List.map_append]; rfl] at d2
  have d3 := add_lists (ps2.map t2) [.tup [.int ((sz p + 5 : Nat) : Int), .int ((sz p + 5 : Nat) : Int)]] (by simp; omega)
  rw [show ps2.map t2 ++ [.tup [.int ((sz p + 5 : Nat) : Int), .int ((sz p + 5 : Nat) : Int)]] = ps3.map t2 by rw [e3, List.map_append]; rfl] at d3
  have d4 := add_lists (ps3.map t2) [.tup [.bl false, .bl false], .tup [.bl false, .bl false]] (by simp; omega)
  rw [show ps3.map t2 ++ [.tup [.bl false, .bl false], .tup [.bl false, .bl false]] = ps4.map t2 by rw [e4, List.map_append]; rfl] at d4
  have d5 := add_lists (ps4.map t2) [.tup [.bl true, .bl true]] (by simp; omega)
  rw [show ps4.map t2 ++ [.tup [.bl true, .bl true]] = ps5.map t2 by rw [e5, List.map_append]; rfl] at d5
  have d6 := add_lists (ps5.map t2) [.tup [.int (m : Nat), .int (m : Nat)], .tup [.bl true, .bl true]] (by simp; omega)
  rw [show ps5.map t2 ++ [.tup [.int (m : Nat), .int (m : Nat)], .tup [.bl true, .bl true]] = ps6.map t2 by rw [e6, List.map_append]; rfl] at d6
  have d7 := add_lists (ps6.map t2) ((asks (.plus [.total row, p])).map t2) (by simp [asks]; omega)
  rw [← List.map_append, ← e7] at d7
  have mm := max2_nat
  have m1' : primD .max2 [.int 1, .int ((rnd p).2 : Nat)] = some (.int ((max 1 (rnd p).2 : Nat) : Int)) := mm 1 _
  have m2' : primD .max2 [.int 2, .int ((max 1 (rnd p).2 : Nat) : Int)] = some (.int ((max 2 (rnd p).2 : Nat) : Int)) := by
    have h := mm 2 (max 1 (rnd p).2)
    rw [show max 2 (max 1 (rnd p).2) = max 2 (rnd p).2 by omega] at h
    exact h
  have ix : idxD (rD2 (rnd p)) (.int 1) = some (.int ((rnd p).2 : Nat)) := tup_idx1 _ _ _
  have pl : primD .len [.lst (al.map tD)] = some (.int (sz p : Nat)) := by
    show some (D.int (((al.map tD).length : Nat) : Int)) = _
    rw [List.length_map, al1]
  have ad5 : addD (.int (sz p : Nat)) (.int 5) = some (.int ((sz p + 5 : Nat) : Int)) := rfl
  have ad1 : addD (.int 1) (.int (r : Nat)) = some (.int ((1 + r : Nat) : Int)) := by
    show some (D.int _) = _
    congr 2
  have eq0 := eq_ii tn 0
  have a1 : fitI ((m : Nat) : Int) = true := (fitI_is _).mpr (by omega)
  have i1 : itemsD 1 [.int (m : Nat)] = some (isD (rgI 0 m)) := by simp only [itemsD, a1, if_true, rangeD_isD]
  have hr : ∃ x y : Int, rD2 (rnd p) = .tup [.int x, .int y] := ⟨_, _, rfl⟩
  refine ⟨ps7, some (kD a b c), some (tD p), some (tD (.hear lk (.times [.whole p, one]))), some (.int ((max 1 (rnd p).2 : Nat) : Int)), some (tD (.total (.times [.hear lk one, .hear lk one]))), y9, some (lD lk), some (tD one), some (tD row), some (.int (m : Nat)), cs6, mix6, ?_, n7, hc6⟩
  obtain ⟨pq, hpq⟩ := tD_tup p
  obtain ⟨rq, hrq⟩ := tD_tup row
  obtain ⟨xx, yy, hxy⟩ := hr
  generalize decide (tn = 0) = tz at *
  generalize (asks (.plus [.total row, p])).map t2 = Q2 at *
  generalize (asks p).map t2 = Q1 at *
  rw [hxy] at v1 ix
  generalize al.map tD = AL at *
  generalize ((max 1 (rnd p).2 : Nat) : Int) = M1 at *
  generalize ((max 2 (rnd p).2 : Nat) : Int) = M2 at *
  generalize (((rnd p).2 : Nat) : Int) = R2 at *
  generalize ((sz p + 5 : Nat) : Int) = SZ5 at *
  generalize ((sz p : Nat) : Int) = SZ at *
  generalize ((1 + r : Nat) : Int) = R1 at *
  generalize ((r : Nat) : Int) = RR at *
  generalize isD (rgI 0 m) = DS at *
  generalize ((m : Nat) : Int) = MM at *
  generalize ps7.map t2 = A7 at *
  generalize ps6.map t2 = A6 at *
  generalize ps5.map t2 = A5 at *
  generalize ps4.map t2 = A4 at *
  generalize ps3.map t2 = A3 at *
  generalize ps2.map t2 = A2 at *
  generalize ps1.map t2 = A1 at *
  generalize ps.map t2 = A0 at *
  simp only [one, tD, tDs, aD, Bool.false_eq_true, if_false, lD_eq, hpq, hrq] at w2 w3 w4 v1 v2 v3 v4 v5 v6 v7 v8 w6 u1 u2 u3 ⊢
  generalize lk.map qD = LL at *
  simp only [kD] at w0 w2 w4 w6 ⊢
  generalize sD a = AA at *
  generalize sD b = BB at *
  generalize sD c = CC at *
  generalize Hp cs mix = H0 at *
  generalize Hp cs1 mix1 = H1 at *
  generalize Hp cs2 mix2 = H2 at *
  generalize Hp cs3 mix3 = H3 at *
  generalize Hp cs4 mix4 = H4 at *
  generalize Hp cs5 mix5 = H5 at *
  generalize Hp cs6 mix6 = H6 at *
  generalize PM.run F Lk02.P (n + 24) = cl at *
  refine exs_nx (S1 := ⟨[s0, some (.ref 1), some (.nl A0), some (.int tn), some (.tup [.tup AA, .tup BB, .tup CC]), x5, x6, x7, x8, x9, x10, x11, x12, x13], H1⟩) ?_ (exs_nx (S1 := ⟨[s0, some (.ref 1), some (.nl A0), some (.int tn), some (.tup [.tup AA, .tup BB, .tup CC]), some (.tup pq), x6, x7, x8, x9, x10, x11, x12, x13], H3⟩) ?_ (exs_nx (S1 := ⟨[s0, some (.ref 1), some (.nl A1), some (.int tn), some (.tup [.tup AA, .tup BB, .tup CC]), some (.tup pq), x6, x7, x8, x9, x10, x11, x12, x13], H3⟩) ?_ (exs_nx (S1 := ⟨[s0, some (.ref 1), some (.nl A1), some (.int tn), some (.tup [.tup AA, .tup BB, .tup CC]), some (.tup pq), x6, x7, x8, x9, some (.tup LL), some (.tup [.str "number", .tup [.int 1, .int 1]]), x12, x13], H4⟩) ?_ (exs_nx (S1 := ⟨[s0, some (.ref 1), some (.nl A1), some (.int tn), some (.tup [.tup AA, .tup BB, .tup CC]), some (.tup pq), some (.tup [.str "hear", .tup LL, .tup [.str "times", .tup [.tup [.str "whole", .tup pq], .tup [.str "number", .tup [.int 1, .int 1]]]]]), x7, x8, x9, some (.tup LL), some (.tup [.str "number", .tup [.int 1, .int 1]]), x12, x13], H4⟩) ?_ (exs_nx (S1 := ⟨[s0, some (.ref 1), some (.nl A1), some (.int tn), some (.tup [.tup AA, .tup BB, .tup CC]), some (.tup pq), some (.tup [.str "hear", .tup LL, .tup [.str "times", .tup [.tup [.str "whole", .tup pq], .tup [.str "number", .tup [.int 1, .int 1]]]]]), some (.int M1), x8, x9, some (.tup LL), some (.tup [.str "number", .tup [.int 1, .int 1]]), x12, x13], H4⟩) ?_ (exs_nx (S1 := ⟨[s0, some (.ref 1), some (.nl A2), some (.int tn), some (.tup [.tup AA, .tup BB, .tup CC]), some (.tup pq), some (.tup [.str "hear", .tup LL, .tup [.str "times", .tup [.tup [.str "whole", .tup pq], .tup [.str "number", .tup [.int 1, .int 1]]]]]), some (.int M1), x8, x9, some (.tup LL), some (.tup [.str "number", .tup [.int 1, .int 1]]), x12, x13], H4⟩) ?_ (exs_nx (S1 := ⟨[s0, some (.ref 1), some (.nl A3), some (.int tn), some (.tup [.tup AA, .tup BB, .tup CC]), some (.tup pq), some (.tup [.str "hear", .tup LL, .tup [.str "times", .tup [.tup [.str "whole", .tup pq], .tup [.str "number", .tup [.int 1, .int 1]]]]]), some (.int M1), x8, x9, some (.tup LL), some (.tup [.str "number", .tup [.int 1, .int 1]]), x12, x13], H4⟩) ?_ (exs_nx (S1 := ⟨[s0, some (.ref 1), some (.nl A3), some (.int tn), some (.tup [.tup AA, .tup BB, .tup CC]), some (.tup pq), some (.tup [.str "hear", .tup LL, .tup [.str "times", .tup [.tup [.str "whole", .tup pq], .tup [.str "number", .tup [.int 1, .int 1]]]]]), some (.int M1), some (.tup [.str "total", .tup [.str "times", .tup [.tup [.str "hear", .tup LL, .tup [.str "number", .tup [.int 1, .int 1]]], .tup [.str "hear", .tup LL, .tup [.str "number", .tup [.int 1, .int 1]]]]]]), x9, some (.tup LL), some (.tup [.str "number", .tup [.int 1, .int 1]]), x12, x13], H4⟩) ?_ (exs_nx (S1 := ⟨[s0, some (.ref 1), some (.nl A4), some (.int tn), some (.tup [.tup AA, .tup BB, .tup CC]), some (.tup pq), some (.tup [.str "hear", .tup LL, .tup [.str "times", .tup [.tup [.str "whole", .tup pq], .tup [.str "number", .tup [.int 1, .int 1]]]]]), some (.int M1), some (.tup [.str "total", .tup [.str "times", .tup [.tup [.str "hear", .tup LL, .tup [.str "number", .tup [.int 1, .int 1]]], .tup [.str "hear", .tup LL, .tup [.str "number", .tup [.int 1, .int 1]]]]]]), x9, some (.tup LL), some (.tup [.str "number", .tup [.int 1, .int 1]]), x12, x13], H4⟩) ?_ (exs_nx (S1 := ⟨[s0, some (.ref 1), some (.nl A5), some (.int tn), some (.tup [.tup AA, .tup BB, .tup CC]), some (.tup pq), some (.tup [.str "hear", .tup LL, .tup [.str "times", .tup [.tup [.str "whole", .tup pq], .tup [.str "number", .tup [.int 1, .int 1]]]]]), some (.int M1), some (.tup [.str "total", .tup [.str "times", .tup [.tup [.str "hear", .tup LL, .tup [.str "number", .tup [.int 1, .int 1]]], .tup [.str "hear", .tup LL, .tup [.str "number", .tup [.int 1, .int 1]]]]]]), x9, some (.tup LL), some (.tup [.str "number", .tup [.int 1, .int 1]]), x12, x13], H4⟩) ?_ (exs_nx (S1 := ⟨[s0, some (.ref 1), some (.nl A5), some (.int tn), some (.tup [.tup AA, .tup BB, .tup CC]), some (.tup pq), some (.tup [.str "hear", .tup LL, .tup [.str "times", .tup [.tup [.str "whole", .tup pq], .tup [.str "number", .tup [.int 1, .int 1]]]]]), some (.int M1), some (.tup [.str "total", .tup [.str "times", .tup [.tup [.str "hear", .tup LL, .tup [.str "number", .tup [.int 1, .int 1]]], .tup [.str "hear", .tup LL, .tup [.str "number", .tup [.int 1, .int 1]]]]]]), x9, some (.tup LL), some (.tup [.str "number", .tup [.int 1, .int 1]]), some (.tup [.str "number", .tup [.int 1, .int 1]]), some (.int MM)], H5⟩) ?_ (exs_nx (ex_for (S1 := ⟨[s0, some (.ref 1), some (.nl A5), some (.int tn), some (.tup [.tup AA, .tup BB, .tup CC]), some (.tup pq), some (.tup [.str "hear", .tup LL, .tup [.str "times", .tup [.tup [.str "whole", .tup pq], .tup [.str "number", .tup [.int 1, .int 1]]]]]), some (.int M1), some (.tup [.str "total", .tup [.str "times", .tup [.tup [.str "hear", .tup LL, .tup [.str "number", .tup [.int 1, .int 1]]], .tup [.str "hear", .tup LL, .tup [.str "number", .tup [.int 1, .int 1]]]]]]), x9, some (.tup LL), some (.tup [.str "number", .tup [.int 1, .int 1]]), some (.tup [.str "number", .tup [.int 1, .int 1]]), some (.int MM)], H5⟩) (vals := [.int MM]) ?_ i1 w6) (exs_nx (S1 := ⟨[s0, some (.ref 1), some (.nl A7), some (.int tn), some (.tup [.tup AA, .tup BB, .tup CC]), some (.tup pq), some (.tup [.str "hear", .tup LL, .tup [.str "times", .tup [.tup [.str "whole", .tup pq], .tup [.str "number", .tup [.int 1, .int 1]]]]]), some (.int M1), some (.tup [.str "total", .tup [.str "times", .tup [.tup [.str "hear", .tup LL, .tup [.str "number", .tup [.int 1, .int 1]]], .tup [.str "hear", .tup LL, .tup [.str "number", .tup [.int 1, .int 1]]]]]]), y9, some (.tup LL), some (.tup [.str "number", .tup [.int 1, .int 1]]), some (.tup rq), some (.int MM)], H6⟩) ?_ (exs_end))))))))))))))
  · simp [isOwn, tmp, view, frz, ex, aw, ev, evvs, evbs, evas, evo, evc, evT, vw, bw, slot, rd, setS, PM.R.bind, asgTg, asB, asI, ofO, setTg, setTgs, PM.R.bind_ok, w0]
  · simp [isOwn, tmp, view, frz, ex, aw, ev, evvs, evbs, evas, evo, evc, evT, vw, bw, slot, rd, setS, PM.R.bind, asgTg, asB, asI, ofO, setTg, setTgs, PM.R.bind_ok, w1, binD, ad1, w2]
  · simp [isOwn, tmp, view, frz, ex, aw, ev, evvs, evbs, evas, evo, evc, evT, vw, bw, slot, rd, setS, PM.R.bind, asgTg, asB, asI, ofO, setTg, setTgs, PM.R.bind_ok, w3, eq0, binD, d1]
  · simp [isOwn, tmp, view, frz, ex, aw, ev, evvs, evbs, evas, evo, evc, evT, vw, bw, slot, rd, setS, PM.R.bind, asgTg, asB, asI, ofO, setTg, setTgs, PM.R.bind_ok, w4, setMany]
  · simp [isOwn, tmp, view, frz, ex, aw, ev, evvs, evbs, evas, evo, evc, evT, vw, bw, slot, rd, setS, PM.R.bind, asgTg, asB, asI, ofO, setTg, setTgs, PM.R.bind_ok]
  · simp [isOwn, tmp, view, frz, ex, aw, ev, evvs, evbs, evas, evo, evc, evT, vw, bw, slot, rd, setS, PM.R.bind, asgTg, asB, asI, ofO, setTg, setTgs, PM.R.bind_ok, v1, ix, m1']
  · simp [isOwn, tmp, view, frz, ex, aw, ev, evvs, evbs, evas, evo, evc, evT, vw, bw, slot, rd, setS, PM.R.bind, asgTg, asB, asI, ofO, setTg, setTgs, PM.R.bind_ok, v2, v3, m2', binD, d2]
  · simp [isOwn, tmp, view, frz, ex, aw, ev, evvs, evbs, evas, evo, evc, evT, vw, bw, slot, rd, setS, PM.R.bind, asgTg, asB, asI, ofO, setTg, setTgs, PM.R.bind_ok, v4, v5, pl, binD, ad5, d3]
  · simp [isOwn, tmp, view, frz, ex, aw, ev, evvs, evbs, evas, evo, evc, evT, vw, bw, slot, rd, setS, PM.R.bind, asgTg, asB, asI, ofO, setTg, setTgs, PM.R.bind_ok]
  · simp [isOwn, tmp, view, frz, ex, aw, ev, evvs, evbs, evas, evo, evc, evT, vw, bw, slot, rd, setS, PM.R.bind, asgTg, asB, asI, ofO, setTg, setTgs, PM.R.bind_ok, v6, v7, binD, d4]
  · simp [isOwn, tmp, view, frz, ex, aw, ev, evvs, evbs, evas, evo, evc, evT, vw, bw, slot, rd, setS, PM.R.bind, asgTg, asB, asI, ofO, setTg, setTgs, PM.R.bind_ok, v8, binD, d5]
  · simp [isOwn, tmp, view, frz, ex, aw, ev, evvs, evbs, evas, evo, evc, evT, vw, bw, slot, rd, setS, PM.R.bind, asgTg, asB, asI, ofO, setTg, setTgs, PM.R.bind_ok, w5, setMany]
  · simp [isOwn, tmp, view, frz, ex, aw, ev, evvs, evbs, evas, evo, evc, evT, vw, bw, slot, rd, setS, PM.R.bind, asgTg, asB, asI, ofO, setTg, setTgs, PM.R.bind_ok]
  · simp [isOwn, tmp, view, frz, ex, aw, ev, evvs, evbs, evas, evo, evc, evT, vw, bw, slot, rd, setS, PM.R.bind, asgTg, asB, asI, ofO, setTg, setTgs, PM.R.bind_ok, u1, u2, binD, d6, u3, d7]
end
end Mk
end

section
set_option Elab.async false
set_option linter.all false
open PySem PM
namespace Mk
section
variable (F : Fields) (n : Nat)
theorem turns_all (s0 : Option D) : ∀ (l : List Int) (ps : List I2) (x3 x4 x5 x6 x7 x8 x9 x10 x11 x12 x13 : Option D) (cs : List Int) (mix : Int), cs.length ≤ 100 → ps.length + 14 * l.length < 900 →
    ∃ (ps' : List I2) (y3 y4 y5 y6 y7 y8 y9 y10 y11 y12 y13 : Option D) (cs' : List Int) (mix' : Int), forL (fun S => exs F (PM.run F Lk02.P (n + 24)) [.asg (.v 4) (.call 17 [.var 1]), .asg (.v 5) (.call 28 [.var 1, .var 4, .bin .add (.k (.int (1))) (.call 10 [.var 1, .k (.int (5))]), .k (.bl true)]), .asg (.v 2) (.bin .add (.var 2) (.call 31 [.var 5, .cmp .eq (.var 3) (.k (.int (0)))])), .par [10, 11] [.call 22 [.var 1, .var 4], .tup [.k (.str "number"), .tup [.k (.int (1)), .k (.int (1))]]], .asg (.v 6) (.tup [.k (.str "hear"), .var 10, .tup [.k (.str "times"), .tup [.tup [.k (.str "whole"), .var 5], .var 11]]]), .asg (.v 7) (.prim .max2 [.k (.int (1)), .idx (.call 29 [.var 5]) (.k (.int (1)))]), .asg (.v 2) (.bin .add (.var 2) (.list [.tup [.call 6 [.tup [.k (.str "total"), .var 6]], .var 7], .tup [.call 6 [.tup [.k (.str "total"), .tup [.k (.str "hear"), .var 10, .var 6]]], .prim .max2 [.k (.int (2)), .var 7]]])), .asg (.v 2) (.bin .add (.var 2) (.list [.tup [.call 3 [.tup [.k (.str "total"), .var 6]], .bin .add (.prim .len [.call 27 [.var 5]]) (.k (.int (5)))]])), .asg (.v 8) (.tup [.k (.str "total"), .tup [.k (.str "times"), .tup [.tup [.k (.str "hear"), .var 10, .var 11], .tup [.k (.str "hear"), .var 10, .var 11]]]]), .asg (.v 2) (.bin .add (.var 2) (.list [.tup [.call 8 [.var 8], .k (.bl false)], .tup [.call 8 [.tup [.k (.str "total"), .tup [.k (.str "whole"), .var 8]]], .k (.bl false)]])), .asg (.v 2) (.bin .add (.var 2) (.list [.tup [.call 8 [.tup [.k (.str "times"), .tup [.tup [.k (.str "total"), .tup [.k (.str "hear"), .var 10, .var 11]], .tup [.k (.str "total"), .tup [.k (.str "hear"), .var 10, .var 11]]]]], .k (.bl true)]])), .par [12, 13] [.var 11, .call 10 [.var 1, .k (.int (9))]], .for_ (.v 9) 1 [.var 13] [.asg (.v 12) (.tup [.k (.str "hear"), .call 22 [.var 1, .var 4], .var 12])], .asg (.v 2) (.bin .add (.bin .add (.var 2) (.list [.tup [.call 6 [.tup [.k (.str "total"), .var 12]], .var 13], .tup [.call 8 [.tup [.k (.str "total"), .var 12]], .k (.bl true)]])) (.call 31 [.tup [.k (.str "plus"), .tup [.tup [.k (.str "total"), .var 12], .var 5]], .k (.bl false)]))] S) (.v 3) (isD l) ⟨[s0, some (.ref 1), some (.nl (ps.map t2)), x3, x4, x5, x6, x7, x8, x9, x10, x11, x12, x13], Hp cs mix⟩ = .ok (.nx ⟨[s0, some (.ref 1), some (.nl (ps'.map t2)), y3, y4, y5, y6, y7, y8, y9, y10, y11, y12, y13], Hp cs' mix'⟩) ∧ ps'.length < 900 := by
  intro l
  induction l with
  | nil =>
    intro ps x3 x4 x5 x6 x7 x8 x9 x10 x11 x12 x13 cs mix _ hl
    exact ⟨ps, x3, x4, x5, x6, x7, x8, x9, x10, x11, x12, x13, cs, mix, rfl, by simp at hl; omega⟩
  | cons t l ih =>
    intro ps x3 x4 x5 x6 x7 x8 x9 x10 x11 x12 x13 cs mix hc hl
    rw [List.length_cons] at hl
    obtain ⟨ps1, z4, z5, z6, z7, z8, z9, z10, z11, z12, z13, cs1, mix1, w, l1, hc1⟩ := turn_ok F n s0 x4 x5 x6 x7 x8 x9 x10 x11 x12 x13 t ps (by omega) cs mix hc
    obtain ⟨ps', y3, y4, y5, y6, y7, y8, y9, y10, y11, y12, y13, cs', mix', q, ql⟩ := ih ps1 (some (.int t)) z4 z5 z6 z7 z8 z9 z10 z11 z12 z13 cs1 mix1 hc1 (by omega)
    exact ⟨ps', y3, y4, y5, y6, y7, y8, y9, y10, y11, y12, y13, cs', mix', for_step (setTg_v (by simp)) w q, ql⟩
theorem law_ok (xs : List Int) (hx : xs.length ≤ 63) : PM.run F Lk02.P (n + 25) 32 [.lst (isD xs)] [] = .ok (.bl true, []) := by
  obtain ⟨cs, mix, w, hc⟩ := deal_ok F (n + 23) xs hx 602
  obtain ⟨ps, y3, y4, y5, y6, y7, y8, y9, y10, y11, y12, y13, cs', mix', q, ql⟩ := turns_all F n (some (.lst (isD xs))) (rgI 0 10) [] none none none none none none none none none none none cs mix hc (by rw [length_rgI]; simp)
  have hb := below_Hp cs' mix'
  have r1 := rounds_ok F (n + 21) (Hp cs' mix') hb (.leaf false (.p 2 1)) (by simp [sz]) (by simp [tD, aD, dep, deps])
  have r2 := hparts_ok F (n + 21) (Hp cs' mix') hb (.leaf false (.p 2 1)) (by simp [sz]) (by simp [tD, aD, dep, deps])
  have r3 := walk_ok F (n + 21) (Hp cs' mix') hb (.leaf false (.p 2 1)) (by simp [sz]) (by simp [tD, aD, dep, deps])
  have f3 : (!(pre false (.leaf false (.p 2 1))).any badM) = true := by simp [pre, badM, crowd]
  rw [f3] at r3
  have e2 := all_ok F (Hp cs' mix') hb (n + 21) (ps ++ [I2.i 0, I2.i 1, I2.b true]) (by simp; omega)
  have ad := add_lists (ps.map t2) [.tup [.int 0, .int 0], .tup [.int 1, .int 1], .tup [.bl true, .bl true]] (by simp; omega)
  rw [show ps.map t2 ++ [.tup [.int 0, .int 0], .tup [.int 1, .int 1], .tup [.bl true, .bl true]] = (ps ++ [I2.i 0, I2.i 1, I2.b true]).map t2 by rw [List.map_append]; rfl] at ad
  refine run_ret [some (.lst (isD xs)), none, none, none, none, none, none, none, none, none, none, none, none, none] (fn := Lk02.f32) (d := .bl true) (S := ⟨[some (.lst (isD xs)), some (.ref 1), some (.nl (ps.map t2)), y3, y4, y5, y6, y7, y8, y9, y10, y11, y12, y13], Hp cs' mix'⟩) rfl rfl rfl ?_ rfl
  have i1 : itemsD 1 [.int 10] = some (isD (rgI 0 10)) := by
    have a1 : fitI 10 = true := (fitI_is _).mpr (by decide)
    simp only [itemsD, a1, if_true]
    exact congrArg some (rangeD_isD 10)
  refine exs_nx (S1 := ⟨[some (.lst (isD xs)), some (.ref 1), none, none, none, none, none, none, none, none, none, none, none, none], Hp cs mix⟩) ?_ (exs_nx (S1 := ⟨[some (.lst (isD xs)), some (.ref 1), some (.nl (([] : List I2).map t2)), none, none, none, none, none, none, none, none, none, none, none], Hp cs mix⟩) ?_ (exs_nx (ex_for (S1 := ⟨[some (.lst (isD xs)), some (.ref 1), some (.nl (([] : List I2).map t2)), none, none, none, none, none, none, none, none, none, none, none], Hp cs mix⟩) (vals := [.int 10]) ?_ i1 q) (exs_ret ?_)))
  · clear q e2 r1 r2 r3
    generalize PM.run F Lk02.P (n + 24) = cl at *
    simp [isOwn, tmp, view, frz, ex, aw, ev, evvs, evbs, evas, evo, evc, evT, vw, bw, slot, rd, setS, PM.R.bind, asgTg, asB, asI, ofO, setTg, setTgs, PM.R.bind_ok, w]
  · rw [List.map_nil]
    simp [isOwn, tmp, view, frz, ex, aw, ev, evvs, evbs, evas, evo, evc, evT, vw, bw, slot, rd, setS, PM.R.bind, asgTg, asB, asI, ofO, setTg, setTgs, PM.R.bind_ok]
  · simp [isOwn, tmp, view, frz, ex, aw, ev, evvs, evbs, evas, evo, evc, evT, vw, bw, slot, rd, setS, PM.R.bind, asgTg, asB, asI, ofO, setTg, setTgs, PM.R.bind_ok]
  · clear q w
    have k1 : ((rnd (.leaf false (.p 2 1))).2 : Nat) = 0 := rfl
    have k2 : sz (.leaf false (.p 2 1)) = 1 := rfl
    rw [k1] at r1
    rw [k2] at r2
    simp only [tD, aD, Bool.false_eq_true, if_false] at r1 r2 r3
    generalize PM.run F Lk02.P (n + 24) = cl at *
    generalize (ps ++ [I2.i 0, I2.i 1, I2.b true]).map t2 = A2 at *
    generalize ps.map t2 = A at *
    generalize Hp cs' mix' = H at *
    simp [isOwn, tmp, view, frz, ex, aw, ev, evvs, evbs, evas, evo, evc, evT, vw, bw, slot, rd, setS, PM.R.bind, asgTg, asB, asI, ofO, setTg, setTgs, PM.R.bind_ok, r1, r2, r3, binD, ad, e2]
end
end Mk
end

section
set_option Elab.async false
set_option linter.all false
set_option maxRecDepth 1000000
open PySem PySem.W PySem.Calls PyProof.Rows
theorem holds_of_math (math : ∀ xs : List Int, xs.length ≤ 63 → ∃ C, PM.run Lk02.Γ.fields Lk02.P (100 + 1) 32 [.lst (xs.map .int)] [] = .ok (.bl true, C)) : PySem.Challenge.rw_eachtongue_k02_rounds_and_walks_are_told.Holds := by
  w_on; o_law
  refine HandSHeadRun.head_any (r := PySem.W.OpenLaw.row PySem.Challenge.rw_eachtongue_k02_rounds_and_walks_are_told) (q := PySem.W.view (PySem.W.OpenLaw.row PySem.Challenge.rw_eachtongue_k02_rounds_and_walks_are_told).prog [41]) (H := Lk02.hk) (ob := Lk02.ob) (M := 6000) (loose := Lk02.loose) (d := HandSHeadRun.topDef (PySem.W.OpenLaw.row PySem.Challenge.rw_eachtongue_k02_rounds_and_walks_are_told).prog 41) (kwd := []) Lk02.ob_eq
    (by kernel_rfl) (fun s => by kernel_rfl) Lk02.run (by kernel_rfl) (by kernel_rfl) (by kernel_rfl) (by rfl) (by first | assumption | decide +kernel) (by decide +kernel) ⟨rfl, rfl, rfl, rfl, rfl, by decide +kernel⟩ ?hw ?hc
  case hw => w_witness2
  case hc =>
    refine L2.walk_ofE (l := PySem.Challenge.rw_eachtongue_k02_rounds_and_walks_are_told) (n := 63) (k := 2 * (100 + 1)) (x := "script") (CX := L2.CX0) rfl (by decide) (by kernel_rfl) ⟨rfl, by decide, by decide⟩ ?F (fun _ _ _ _ z => z)
    intro w mg fa h Y G hmg0
    have hmg : mg ("law" : PySem.Str) = some (.ref fa) := by
      have e : (HandSHeadRun.topDef (PySem.W.OpenLaw.row PySem.Challenge.rw_eachtongue_k02_rounds_and_walks_are_told).prog 41).name = ("law" : PySem.Str) := by kernel_rfl
      rw [← e]
      exact hmg0
    exact PM.law_end Lk02.allok Lk02.d32 rfl rfl (by decide +kernel) Y G hmg (by decide +kernel) 100 63 math

theorem PySem.Challenge.cw_eachtongue_k02_rounds_and_walks_are_told_holds : PySem.Challenge.rw_eachtongue_k02_rounds_and_walks_are_told.Holds :=
  holds_of_math fun xs hx => ⟨[], Mk.law_ok Lk02.Γ.fields 76 xs hx⟩

end
