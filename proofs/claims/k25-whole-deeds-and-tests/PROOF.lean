import PyProof.Rows.All
import Wide.All
import OpenK.AllK
import Wide.FinOn
import HandS.ForMost
import HandS.SetFor
import KE.GoesEnum
import KE.KSortTupG
import HandS.TryOnly
import HandS.ExcOwn
import HandS.WordsExc
import HandS.Flow
import HandS.Style
import HandS.IsInst
import HandS.Zip
import HandS.Conv
import HandS.Walk
import HandS.Deep
import HandS.TupAny
import HandS.TupMul
import HandS.HeadHook2
import HandS.HeadEnd
import HandS.Head2
import HandS.HeadWalk
import KE.KDictKeyed
import HandS.RaiseMore
import KE.KDictPairs
import HandS.Head0
import HandS.Head1
import PySem.Challenge.RW_branchtalk_k25_whole_deeds_and_tests
set_option Elab.async false
set_option linter.all false
set_option maxRecDepth 100000
set_option maxHeartbeats 0
/-! A small language over plain data, its running, by its own store. -/
namespace BT
open PySem

/-! ### data -/
inductive D where
  | non | bl (b : Bool) | int (i : Int) | str (s : Str) | tup (ds : List D) | ref (n : Nat) | fl (is : List Int)
mutual
def D.beq : D → D → Bool
  | .non, .non => true
  | .bl a, .bl b => a == b
  | .int a, .int b => decide (a = b)
  | .str a, .str b => decide (a = b)
  | .tup a, .tup b => D.beqs a b
  | .ref a, .ref b => decide (a = b)
  | .fl a, .fl b => decide (a = b)
  | _, _ => false
def D.beqs : List D → List D → Bool
  | [], [] => true
  | a :: as, b :: bs => D.beq a b && D.beqs as bs
  | _, _ => false
end
mutual
theorem D.beq_self : ∀ a : D, D.beq a a = true
  | .non => rfl
  | .bl a => by simp [D.beq]
  | .int a => by simp [D.beq]
  | .str a => by simp [D.beq]
  | .tup a => by rw [D.beq]; exact D.beqs_self a
  | .ref a => by simp [D.beq]
  | .fl a => by simp [D.beq]
theorem D.beqs_self : ∀ a : List D, D.beqs a a = true
  | [] => rfl
  | a :: as => by rw [D.beqs, D.beq_self a, D.beqs_self as]; rfl
end
mutual
theorem D.eq_of_beq : ∀ a b : D, D.beq a b = true → a = b
  | .non, b, h => by cases b <;> simp [D.beq] at h; rfl
  | .bl a, b, h => by cases b <;> simp [D.beq] at h; rw [h]
  | .int a, b, h => by cases b <;> simp [D.beq] at h; rw [h]
  | .str a, b, h => by cases b <;> simp [D.beq] at h; rw [h]
  | .tup a, b, h => by
    cases b <;> simp only [D.beq] at h <;> first | cases h | skip
    rw [D.eqs_of_beqs _ _ h]
  | .ref a, b, h => by cases b <;> simp [D.beq] at h; rw [h]
  | .fl a, b, h => by cases b <;> simp [D.beq] at h; rw [h]
theorem D.eqs_of_beqs : ∀ a b : List D, D.beqs a b = true → a = b
  | [], [], _ => rfl
  | [], _ :: _, h => by simp [D.beqs] at h
  | _ :: _, [], h => by simp [D.beqs] at h
  | a :: as, b :: bs, h => by
    simp only [D.beqs, Bool.and_eq_true] at h
    rw [D.eq_of_beq a b h.1, D.eqs_of_beqs as bs h.2]
end
instance : DecidableEq D := fun a b => if h : D.beq a b = true then .isTrue (D.eq_of_beq a b h) else .isFalse fun e => h (e ▸ D.beq_self a)

mutual
/-- no reference into the store from n on -/
def D.bel (n : Nat) : D → Bool
  | .tup ds => D.bels n ds
  | .ref k => decide (k < n)
  | _ => true
def D.bels (n : Nat) : List D → Bool
  | [] => true
  | d :: ds => D.bel n d && D.bels n ds
end
/-- no reference at all -/
abbrev D.pure (d : D) : Bool := d.bel 0

/-- what stands in the store: a list, a dict, a dict while a loop walks it, an instance -/
inductive MO where
  | lst (ds : List D) | dct (kvs : List (D × D)) | dlk (kvs : List (D × D)) | ins (c : Str) (fs : List (Str × D))
  deriving DecidableEq
abbrev Sto := List MO
abbrev Env := List (Option D)

inductive Rs (α : Type) where
  | ok (a : α) (M : Sto) | ex (c : Str) (M : Sto) | st
def Rs.bind {α β : Type} (r : Rs α) (f : α → Sto → Rs β) : Rs β := match r with
  | .ok a M => f a M
  | .ex c M => .ex c M
  | .st => .st
/-- what is left behind by a value without references goes -/
def gc (M : Sto) (r : Rs D) : Rs D := match r with
  | .ok d M' => if d.pure = true ∧ M'.take M.length = M then .ok d M else .ok d M'
  | r => r

/-! ### the language -/
inductive Op where | add | sub | mul | mod | fdiv
inductive Cm where | eq | ne | lt | le | gt | ge | isin | nin | is_ | isn
inductive F1 where | len | list | tuple | dict | int | str | ord | sorted | sum | any | all | max | min | lenset | sortset
inductive F2 where | max | min
inductive Ty where | tuple | str | int | bool | intstr
inductive M0 where | pop | upper
inductive M1 where | append | extend | popat | index | count | join | split | strip | get
inductive M2 where | get
/-- a target: a name's place, or several -/
inductive Tg where
  | nm (i : Nat) | tup (ts : List Tg)
mutual
inductive Ex where
  | var (i : Nat) | cint (i : Int) | cstr (s : Str) | cbl (b : Bool) | cnon | gint (x : Str) (i : Int) | gstr (x : Str) (s : Str)
  | tup (es : List Ex) | lst (es : List Ex) | dct0 | dct1 (k v : Ex)
  | bin (o : Op) (a b : Ex) | neg (a : Ex) | cmp (c : Cm) (a b : Ex) | chn (c c' : Cm) (a b d : Ex)
  | and (a b : Ex) | or (a b : Ex) | not (a : Ex) | ite (c a b : Ex)
  | idx (a b : Ex) | slc (a : Ex) (lo hi : Option Ex) | rev (a : Ex)
  | call (f : Str) (es : List Ex) | f1 (f : F1) (a : Ex) | f2 (f : F2) (a b : Ex) | isi (a : Ex) (t : Ty)
  | m0 (m : M0) (a : Ex) | m1 (m : M1) (a b : Ex) | m2 (m : M2) (a b c : Ex)
  | comp (elt : Ex) (t : Tg) (it : It) (cond : Option Ex) (own : List (Str × Nat))
inductive It where
  | seq (e : Ex) | range (e : Ex) | range2 (a b : Ex) | enum (e : Ex) | zip (a b : Ex)
end
inductive Sm where
  | asg (t : Tg) (e : Ex) | sub (o i e : Ex) | swp (is : List Nat) (es : List Ex) | exp (e : Ex) | ret (e : Ex) | retN
  | iff (c : Ex) (a b : List Sm) | fr (t : Tg) (it : It) (b : List Sm) | wh (c : Ex) (b : List Sm) | brk | cnt | pss
  | rs (c : Str) | tr (b : List Sm) (c : Str) (suite : List Sm) 
structure Fn where
  np : Nat
  ns : Nat
  body : List Sm
abbrev Prog := List (Str × Fn)

/-! ### operations -/
/-- the most that a list or a text may have -/
def lim : Nat := sizeLine
def fits (n : Nat) : Bool := decide (n ≤ lim)
mutual
/-- as data, the references by g -/
def pdD (g : Nat → Option PyData) : D → Option PyData
  | .non => some .none
  | .bl b => some (.bool b)
  | .int i => some (.int i)
  | .str s => some (.str s)
  | .tup ds => (pdDs g ds).map .tuple
  | .ref k => g k
  | .fl _ => none
def pdDs (g : Nat → Option PyData) : List D → Option (List PyData)
  | [] => some []
  | d :: ds => match pdD g d, pdDs g ds with
    | some p, some ps => some (p :: ps)
    | _, _ => none
end
/-- the list at k as data, so deep -/
def pdg (M : Sto) : Nat → Nat → Option PyData
  | 0, _ => none
  | n + 1, k => match M[k]? with
    | some (.lst ds) => (pdDs (pdg M n) ds).map .list
    | _ => none
def pdv (M : Sto) (d : D) : Option PyData := pdD (pdg M 3) d
/-- plain data that are told apart as they stand -/
def scalD : D → D → Bool
  | .non, .non => true | .non, .int _ => true | .int _, .non => true | .non, .bl _ => true | .bl _, .non => true | .non, .str _ => true | .str _, .non => true
  | .int _, .int _ => true | .bl _, .bl _ => true | .str _, .str _ => true
  | .int _, .str _ => true | .str _, .int _ => true | .bl _, .str _ => true | .str _, .bl _ => true
  | _, _ => false
/-- equality -/
def eqD (M : Sto) (a b : D) : Option Bool := if scalD a b = true then some (decide (a = b)) else match pdv M a, pdv M b with
  | some p, some q => if SeqAt.shaped p && SeqAt.shaped q then some (PyData.eqv p q) else none
  | _, _ => none
def flatD : D → Bool
  | .non => true | .bl _ => true | .int _ => true | .str _ => true
  | _ => false
def flatEq : D → D → Bool
  | .non, .non => true
  | .bl a, .bl b => a == b
  | .bl a, .int b => (if a then 1 else 0) == b
  | .int a, .bl b => a == (if b then 1 else 0)
  | .int a, .int b => a == b
  | .str a, .str b => a == b
  | _, _ => false
/-- whether a is among some -/
def inSeq (M : Sto) (a : D) (ds : List D) : Option Bool := if (flatD a && ds.all flatD) = true then some (ds.any fun z => flatEq z a) else match pdv M a, pdDs (pdg M 3) ds with
  | some p, some ps => if SeqAt.shaped p && SeqAt.shaped (.list ps) then some (ps.any fun z => PyData.eqv z p) else none
  | _, _ => none
/-- the items of a list or a tuple -/
def itemsOf (M : Sto) : D → Option (List D)
  | .tup ds => some ds
  | .fl is => some (is.map .int)
  | .ref k => match M[k]? with
    | some (.lst ds) => some ds
    | _ => none
  | _ => none
def kvAt (kvs : List (D × D)) (k : D) : Option D := (kvs.find? fun p => decide (p.1 = k)).map (·.2)
def kvPut (kvs : List (D × D)) (k v : D) : List (D × D) := if kvs.any (fun p => decide (p.1 = k)) then kvs.map (fun p => if p.1 = k then (p.1, v) else p) else kvs ++ [(k, v)]
mutual
/-- what may be a key: texts, whole numbers, None, tuples of such; how deep -/
def keyOk : Nat → D → Bool
  | _, .non => true
  | _, .int _ => true
  | _, .str _ => true
  | n + 1, .tup ds => keysOk n ds
  | _, _ => false
def keysOk : Nat → List D → Bool
  | _, [] => true
  | n, d :: ds => keyOk n d && keysOk n ds
end
def D.isTup : D → Bool
  | .tup _ => true
  | _ => false
/-- a key fits a dict: all tuples, or none -/
def kvFits (kvs : List (D × D)) (k : D) : Bool := keyOk 8 k && kvs.all fun p => p.1.isTup == k.isTup
def inD (M : Sto) (a : D) : D → Option Bool
  | .str t => match a with
    | .str s => if s.length = 1 then some (decide (s.cps.getD 0 0 ∈ t.cps.toList)) else none
    | _ => none
  | .tup ds => inSeq M a ds
  | .ref k => match M[k]? with
    | some (.lst ds) => inSeq M a ds
    | some (.dct kvs) => if kvFits kvs a then some (kvAt kvs a).isSome else none
    | some (.dlk kvs) => if kvFits kvs a then some (kvAt kvs a).isSome else none
    | _ => none
  | _ => none
def isD : D → D → Option Bool
  | a, .non => some (decide (a = .non))
  | .bl x, .bl y => some (decide (x = y))
  | _, _ => none
def ltD : D → D → Option Bool
  | .int x, .int y => some (decide (x < y))
  | .str x, .str y => some (decide (x.cps.toList < y.cps.toList))
  | _, _ => none
def leD : D → D → Option Bool
  | .int x, .int y => some (decide (x ≤ y))
  | .str x, .str y => some (!decide (y.cps.toList < x.cps.toList))
  | _, _ => none
def cmpD (M : Sto) : Cm → D → D → Option Bool
  | .eq, a, b => eqD M a b
  | .ne, a, b => (eqD M a b).map (!·)
  | .lt, a, b => ltD a b
  | .le, a, b => leD a b
  | .gt, a, b => ltD b a
  | .ge, a, b => leD b a
  | .isin, a, b => inD M a b
  | .nin, a, b => (inD M a b).map (!·)
  | .is_, a, b => isD a b
  | .isn, a, b => (isD a b).map (!·)
def truth (M : Sto) : D → Option Bool
  | .non => some false
  | .bl b => some b
  | .int i => some (i != 0)
  | .str s => if fits s.length then some (s.length != 0) else none
  | .tup ds => some (!ds.isEmpty)
  | .fl is => some (!is.isEmpty)
  | .ref k => match M[k]? with
    | some (.lst ds) => some (!ds.isEmpty)
    | _ => none
def Rs.of {α : Type} (M : Sto) : Option α → Rs α
  | some a => .ok a M
  | none => .st
/-- a new object -/
def new (M : Sto) (o : MO) : Rs D := .ok (.ref M.length) (M ++ [o])
def newL (M : Sto) (ds : List D) : Rs D := if fits ds.length then new M (.lst ds) else .st
def rep {α : Type} (k : Nat) (xs : List α) : List α := (List.replicate k xs).flatten
def binD (M : Sto) : Op → D → D → Rs D
  | .add, .int x, .int y => .ok (.int (x + y)) M
  | .add, .str x, .str y => if fits (x.length + y.length) then .ok (.str (x ++ y)) M else .st
  | .add, .tup x, .tup y => if fits (x.length + y.length) then .ok (.tup (x ++ y)) M else .st
  | .add, .ref x, .ref y => match M[x]?, M[y]? with
    | some (.lst a), some (.lst b) => newL M (a ++ b)
    | _, _ => .st
  | .sub, .int x, .int y => .ok (.int (x - y)) M
  | .mul, .int x, .int y => if (-(2 ^ 64) < x ∧ x < 2 ^ 64) ∨ (-(2 ^ 64) < y ∧ y < 2 ^ 64) then .ok (.int (x * y)) M else .st
  | .mul, .ref x, .int k => match M[x]? with
    | some (.lst a) => if -(2 ^ 63) ≤ k ∧ k < 2 ^ 63 ∧ fits (a.length * k.toNat) then newL M (rep k.toNat a) else .st
    | _ => .st
  | .mul, .str a, .int k => if 0 ≤ k ∧ k < 64 ∧ a.length ≤ 1000 then .ok (.str (Txt.mul a k)) M else .st
  | .mod, .int x, .int y => if y ≠ 0 then .ok (.int (x.fmod y)) M else .st
  | .fdiv, .int x, .int y => if y ≠ 0 ∧ y.natAbs < 1073741824 then .ok (.int (x.fdiv y)) M else .st
  | _, _, _ => .st
def idxD (M : Sto) (a b : D) : Option D := match a with
  | .str s => match b with
    | .int i => if fits s.length then (L2.atI s.cps.toList i).map fun c => .str ⟨#[c]⟩ else none
    | _ => none
  | .ref k => match M[k]? with
    | some (.dct kvs) => if kvFits kvs b then kvAt kvs b else none
    | some (.dlk kvs) => if kvFits kvs b then kvAt kvs b else none
    | some (.lst ds) => match b with
      | .int i => L2.atI ds i
      | _ => none
    | _ => none
  | .tup ds => match b with
    | .int i => L2.atI ds i
    | _ => none
  | .fl is => match b with
    | .int i => (L2.atI is i).map .int
    | _ => none
  | _ => none
def cut {α : Type} (xs : List α) (lo hi : Option Int) : List α := (xs.drop (HT.sIx xs.length 0 lo)).take (HT.sIx xs.length xs.length hi - HT.sIx xs.length 0 lo)
def slcD (M : Sto) (a : D) (lo hi : Option Int) : Rs D := match a with
  | .str s => if fits s.length then .ok (.str ⟨(cut s.cps.toList lo hi).toArray⟩) M else .st
  | .tup ds => .ok (.tup (cut ds lo hi)) M
  | .ref k => match M[k]? with
    | some (.lst ds) => new M (.lst (cut ds lo hi))
    | _ => .st
  | _ => .st
def ints? : List D → Option (List Int)
  | [] => some []
  | .int i :: ds => (ints? ds).map (i :: ·)
  | _ => none
def strs? : List D → Option (List Str)
  | [] => some []
  | .str i :: ds => (strs? ds).map (i :: ·)
  | _ => none
def bls? : List D → Option (List Bool)
  | [] => some []
  | .bl i :: ds => (bls? ds).map (i :: ·)
  | _ => none
def prs? : List D → Option (List (Str × Int))
  | [] => some []
  | .tup [.str x, .int i] :: ds => (prs? ds).map ((x, i) :: ·)
  | _ => none
def kvs? : List D → Option (List (D × D))
  | [] => some []
  | .tup [k, v] :: ds => (kvs? ds).map ((k, v) :: ·)
  | _ => none
/-- a sort by insertion -/
def ins {α : Type} (lt : α → α → Bool) (x : α) : List α → List α
  | [] => [x]
  | y :: ys => if lt y x then y :: ins lt x ys else x :: y :: ys
def srt {α : Type} (lt : α → α → Bool) : List α → List α
  | [] => []
  | x :: xs => ins lt x (srt lt xs)
def ltS (x y : Str) : Bool := decide (x.cps.toList < y.cps.toList)
def ltP (x y : Str × Int) : Bool := ltS x.1 y.1 || (decide (x.1 = y.1) && decide (x.2 < y.2))
def sortD (ds : List D) : Option (List D) := match ints? ds with
  | some is => some ((srt (fun a b => decide (a < b)) is).map .int)
  | none => match strs? ds with
    | some ss => some ((srt ltS ss).map .str)
    | none => match prs? ds with
      | some ps => some ((srt ltP ps).map fun p => .tup [.str p.1, .int p.2])
      | none => none
def putAll (kvs : List (D × D)) : List (D × D) → Option (List (D × D))
  | [] => some kvs
  | (k, v) :: r => if kvFits kvs k then putAll (kvPut kvs k v) r else none
/-- a list's, a tuple's items, a dict's keys -/
def walkOf (M : Sto) : D → Option (List D)
  | .tup ds => some ds
  | .fl is => some (is.map .int)
  | .ref k => match M[k]? with
    | some (.lst ds) => some ds
    | some (.dct kvs) => some (kvs.map (·.1))
    | some (.dlk kvs) => some (kvs.map (·.1))
    | _ => none
  | _ => none
def D.notFl : D → Bool
  | .fl _ => false
  | _ => true
def f1D (M : Sto) : F1 → D → Rs D
  | .len, .str s => if fits s.length then .ok (.int s.length) M else .st
  | .len, .tup ds => .ok (.int ds.length) M
  | .len, .fl is => .ok (.int is.length) M
  | .len, .ref k => match M[k]? with
    | some (.lst ds) => .ok (.int ds.length) M
    | some (.dct kvs) => .ok (.int kvs.length) M
    | some (.dlk kvs) => .ok (.int kvs.length) M
    | _ => .st
  | .list, a => match itemsOf M a with
    | some ds => newL M ds
    | none => .st
  | .tuple, a => match itemsOf M a with
    | some ds => if fits ds.length then .ok (.tup ds) M else .st
    | none => .st
  | .dict, a => match a.notFl, (itemsOf M a).bind kvs? with
    | true, some kvs => if fits kvs.length then (match putAll [] kvs with
      | some m => new M (.dct m)
      | none => .st) else .st
    | _, _ => .st
  | .int, .int i => .ok (.int i) M
  | .int, .bl b => .ok (.int (if b then 1 else 0)) M
  | .int, .str s => match PySem.intText? s with
    | some n => if s.length ≤ 640 then .ok (.int n) M else .st
    | none => .st
  | .str, .int i => if i.natAbs.log2 < 1920 then .ok (.str (toString i)) M else .st
  | .str, .str s => .ok (.str s) M
  | .ord, .str s => if s.length = 1 then .ok (.int (s.cps.getD 0 0 : Nat)) M else .st
  | .sum, .ref k => match M[k]? with
    | some (.lst ds) => (match ints? ds with
      | some is => .ok (.int is.sum) M
      | none => .st)
    | _ => .st
  | .any, .ref k => match M[k]? with
    | some (.lst ds) => (match bls? ds with
      | some bs => .ok (.bl (bs.any id)) M
      | none => .st)
    | _ => .st
  | .all, .ref k => match M[k]? with
    | some (.lst ds) => (match bls? ds with
      | some bs => .ok (.bl (bs.all id)) M
      | none => .st)
    | _ => .st
  | .sorted, a => match walkOf M a with
    | some ds => if fits ds.length then (match sortD ds with
      | some r => newL M r
      | none => .st) else .st
    | none => .st
  | _, _ => .st
def f2D : F2 → D → D → Option D
  | .max, .int i, .int j => some (.int (if j > i then j else i))
  | .min, .int i, .int j => some (.int (if j < i then j else i))
  | _, _, _ => none
def isiD : Ty → D → Option Bool
  | _, .ref _ => none
  | _, .fl _ => none
  | .tuple, .tup _ => some true
  | .tuple, _ => some false
  | .str, .str _ => some true
  | .str, _ => some false
  | .int, .int _ => some true
  | .int, .bl _ => some true
  | .int, _ => some false
  | .bool, .bl _ => some true
  | .bool, _ => some false
  | .intstr, .int _ => some true
  | .intstr, .bl _ => some true
  | .intstr, .str _ => some true
  | .intstr, _ => some false
/-- .. of a list too -/
def isiM (M : Sto) (t : Ty) (d : D) : Option Bool := match d with
  | .ref k => match M[k]? with
    | some (.lst _) => some false
    | _ => none
  | _ => isiD t d
def idxIn (M : Sto) (x : D) : List D → Nat → Option Nat
  | [], _ => none
  | d :: ds, n => match eqD M d x with
    | some true => some n
    | some false => idxIn M x ds (n + 1)
    | none => none
/-- whose methods these are: a list's, a dict's, a text's -/
inductive MK where | l | d | s
def m0K : M0 → MK
  | .pop => .l | .upper => .s
def m1K : M1 → MK
  | .append => .l | .extend => .l | .popat => .l | .index => .l | .count => .l | .join => .s | .split => .s | .strip => .s | .get => .d
def m2K : M2 → MK
  | .get => .d
def mkOk (M : Sto) : MK → D → Bool
  | .l, .ref k => match M[k]? with
    | some (.lst _) => true
    | _ => false
  | .d, .ref k => match M[k]? with
    | some (.dct _) => true
    | some (.dlk _) => true
    | _ => false
  | .s, .str _ => true
  | _, _ => false
def m0D (M : Sto) : M0 → D → Rs D
  | .pop, .ref k => match M[k]? with
    | some (.lst ds) => match ds.getLast? with
      | some d => .ok d (M.set k (.lst ds.dropLast))
      | none => .st
    | _ => .st
  | _, _ => .st
def m1D (M : Sto) : M1 → D → D → Rs D
  | .append, .ref k, d => match M[k]? with
    | some (.lst ds) => if ds.length < lim then .ok .non (M.set k (.lst (ds ++ [d]))) else .st
    | _ => .st
  | .extend, .ref k, .ref j => match M[k]?, M[j]? with
    | some (.lst ds), some (.lst es) => if fits (ds.length + es.length) then .ok .non (M.set k (.lst (ds ++ es))) else .st
    | _, _ => .st
  | .popat, .ref k, .int i => match M[k]? with
    | some (.lst ds) => if i = 0 then (match ds with
      | d :: r => .ok d (M.set k (.lst r))
      | [] => .st) else .st
    | _ => .st
  | .count, .ref k, .bl b => match M[k]? with
    | some (.lst ds) => match bls? ds with
      | some bs => .ok (.int (bs.count b)) M
      | none => .st
    | _ => .st
  | _, _, _ => .st
def m2D (M : Sto) : M2 → D → D → D → Rs D
  | .get, .ref k, key, d => match M[k]? with
    | some (.dct kvs) => if kvFits kvs key then .ok ((kvAt kvs key).getD d) M else .st
    | some (.dlk kvs) => if kvFits kvs key then .ok ((kvAt kvs key).getD d) M else .st
    | _ => .st
  | _, _, _, _ => .st
end BT

/-! Running. -/
namespace BT
open PySem

/-- what a statement ends with -/
inductive Rt where
  | nx (e : Env) (M : Sto) | rt (d : D) (M : Sto) | bk (e : Env) (M : Sto) | ct (e : Env) (M : Sto) | ex (c : Str) (e : Env) (M : Sto) | st
mutual
def asg : Tg → D → Env → Option Env
  | .nm i, d, env => some (env.set i (some d))
  | .tup ts, .tup ds, env => asgs ts ds env
  | _, _, _ => none
def asgs : List Tg → List D → Env → Option Env
  | [], [], env => some env
  | t :: ts, d :: ds, env => (asg t d env).bind (asgs ts ds)
  | _, _, _ => none
end
/-- what is walked: the items, and what must stay -/
structure Wk where
  items : List D
  keep : List (Nat × MO)
def Wk.ok (w : Wk) (M : Sto) : Bool := w.keep.all fun p => decide (M[p.1]? = some p.2)
/-- nothing may be raised -/
def Rs.nox {α : Type} : Rs α → Rs α
  | .ex _ _ => .st
  | r => r
/-- the loop of a comprehension -/
def compGo (ok : Sto → Bool) (f : D → Sto → Rs (Option D)) : List D → List D → Sto → Rs (List D)
  | [], acc, M => if ok M then .ok acc M else .st
  | d :: ds, acc, M => if ok M then (f d M).nox.bind fun r M' => (match r with
      | some y => compGo ok f ds (acc ++ [y]) M'
      | none => compGo ok f ds acc M') else .st
def forGo (ok : Sto → Bool) (t : Tg) (b : Env → Sto → Rt) : List D → Env → Sto → Rt
  | [], env, M => if ok M then .nx env M else .st
  | d :: ds, env, M => if ok M then (match asg t d env with
    | none => .st
    | some env' => match b env' M with
      | .nx e M' => forGo ok t b ds e M'
      | .ct e M' => forGo ok t b ds e M'
      | .bk e M' => .nx e M'
      | r => r) else .st
def whN (c : Env → Sto → Rs Bool) (b : Env → Sto → Rt) : Nat → Env → Sto → Rt
  | 0, _, _ => .st
  | n + 1, env, M => match c env M with
    | .ok true M1 => (match b env M1 with
      | .nx e M2 => whN c b n e M2
      | .ct e M2 => whN c b n e M2
      | .bk e M2 => .nx e M2
      | r => r)
    | .ok false M1 => .nx env M1
    | .ex x M1 => .ex x env M1
    | .st => .st
open Classical in
/-- a while, however many turns it takes -/
noncomputable def whGo (c : Env → Sto → Rs Bool) (b : Env → Sto → Rt) (env : Env) (M : Sto) : Rt :=
  if h : ∃ n, whN c b n env M ≠ .st then whN c b (choose h) env M else .st
def wipeE (env : Env) : List Nat → Env
  | [] => env
  | v :: vs => (wipeE env vs).set v none
def pairUp : List D → List D → List D
  | a :: as, b :: bs => .tup [a, b] :: pairUp as bs
  | _, _ => []
def numb : Nat → List D → List D
  | _, [] => []
  | n, d :: ds => .tup [.int (n : Nat), d] :: numb (n + 1) ds
def upto (lo : Int) : Nat → List D
  | 0 => []
  | n + 1 => .int lo :: upto (lo + 1) n
/-- what is walked at a value -/
def seqW (M : Sto) : D → Option Wk
  | .tup ds => some ⟨ds, []⟩
  | .fl is => some ⟨is.map .int, []⟩
  | .str s => some ⟨s.cps.toList.map fun c => .str ⟨#[c]⟩, []⟩
  | .ref k => match M[k]? with
    | some (.lst ds) => some ⟨ds, [(k, .lst ds)]⟩
    | _ => none
  | _ => none
/-- a list or a tuple -/
def seqLT (M : Sto) : D → Option Wk
  | .str _ => none
  | .fl _ => none
  | d => seqW M d
def zipW (M : Sto) : D → D → Option Wk
  | .tup xs, .tup ys => some ⟨pairUp xs ys, []⟩
  | .ref a, .ref b => match M[a]?, M[b]? with
    | some (.lst xs), some (.lst ys) => some ⟨pairUp xs ys, [(a, .lst xs), (b, .lst ys)]⟩
    | _, _ => none
  | _, _ => none
def okR (i : Int) : Bool := decide (-(2 ^ 62) ≤ i) && decide (i < 2 ^ 62)

mutual
def evalE (call : Str → List D → Sto → Rs D) : Ex → Env → Sto → Rs D
  | .var i, env, M => match env[i]? with
    | some (some d) => .ok d M
    | _ => .st
  | .cint i, _, M => .ok (.int i) M
  | .cstr s, _, M => .ok (.str s) M
  | .cbl b, _, M => .ok (.bl b) M
  | .cnon, _, M => .ok .non M
  | .gint _ i, _, M => .ok (.int i) M
  | .gstr _ s, _, M => .ok (.str s) M
  | .tup es, env, M => (evalEs call es env M).bind fun ds M' => if fits ds.length then .ok (.tup ds) M' else .st
  | .lst es, env, M => (evalEs call es env M).bind fun ds M' => newL M' ds
  | .dct0, _, M => new M (.dct [])
  | .dct1 k v, env, M => (evalE call k env M).bind fun d M1 => (evalE call v env M1).bind fun e M2 => if kvFits [] d then new M2 (.dct [(d, e)]) else .st
  | .bin o a b, env, M => gc M ((evalE call a env M).bind fun x M1 => (evalE call b env M1).bind fun y M2 => binD M2 o x y)
  | .neg a, env, M => (evalE call a env M).bind fun x M1 => (match x with
    | .int i => .ok (.int (-i)) M1
    | _ => .st)
  | .cmp c a b, env, M => gc M ((evalE call a env M).bind fun x M1 => (evalE call b env M1).bind fun y M2 => Rs.of M2 ((cmpD M2 c x y).map .bl))
  | .chn c c' a b d, env, M => gc M ((evalE call a env M).bind fun x M1 => (evalE call b env M1).bind fun y M2 => (match cmpD M2 c x y with
    | some true => (evalE call d env M2).bind fun z M3 => Rs.of M3 ((cmpD M3 c' y z).map .bl)
    | some false => .ok (.bl false) M2
    | none => .st))
  | .and a b, env, M => gc M ((evalE call a env M).bind fun x M1 => (match truth M1 x with
    | some true => evalE call b env M1
    | some false => .ok x M1
    | none => .st))
  | .or a b, env, M => gc M ((evalE call a env M).bind fun x M1 => (match truth M1 x with
    | some true => .ok x M1
    | some false => evalE call b env M1
    | none => .st))
  | .not a, env, M => gc M ((evalE call a env M).bind fun x M1 => Rs.of M1 ((truth M1 x).map fun b => .bl (!b)))
  | .ite c a b, env, M => (evalE call c env M).bind fun x M1 => (match truth M1 x with
    | some true => evalE call a env M1
    | some false => evalE call b env M1
    | none => .st)
  | .idx a b, env, M => gc M ((evalE call a env M).bind fun x M1 => (evalE call b env M1).bind fun y M2 => Rs.of M2 (idxD M2 x y))
  | .slc a lo hi, env, M => (evalE call a env M).bind fun x M1 => (evalO call lo env M1).bind fun l M2 => (evalO call hi env M2).bind fun h M3 => slcD M3 x l h
  | .rev a, env, M => (evalE call a env M).bind fun x M1 => (match x with
    | .tup ds => .ok (.tup ds.reverse) M1
    | _ => .st)
  | .call f es, env, M => (evalEs call es env M).bind fun ds M' => call f ds M'
  | .f1 f a, env, M => gc M ((evalE call a env M).bind fun x M1 => f1D M1 f x)
  | .f2 f a b, env, M => gc M ((evalE call a env M).bind fun x M1 => (evalE call b env M1).bind fun y M2 => Rs.of M2 (f2D f x y))
  | .isi a t, env, M => gc M ((evalE call a env M).bind fun x M1 => Rs.of M1 ((isiM M1 t x).map .bl))
  | .m0 m a, env, M => gc M ((evalE call a env M).bind fun x M1 => if mkOk M1 (m0K m) x then m0D M1 m x else .st)
  | .m1 m a b, env, M => gc M ((evalE call a env M).bind fun x M1 => if mkOk M1 (m1K m) x then (evalE call b env M1).bind fun y M2 => m1D M2 m x y else .st)
  | .m2 m a b c, env, M => gc M ((evalE call a env M).bind fun x M1 => if mkOk M1 (m2K m) x then (evalE call b env M1).bind fun y M2 => (evalE call c env M2).bind fun z M3 => m2D M3 m x y z else .st)
  | .comp elt t it cond own, env, M => (evalI call it env M).bind fun w M1 =>
    (compGo w.ok (fun d M => match asg t d (wipeE env (own.map (·.2))) with
      | none => .st
      | some env' => (evalC call cond env' M).bind fun b M' => if b then (evalE call elt env' M').bind fun y M'' => .ok (some y) M'' else .ok none M') w.items [] M1).bind fun ds M2 => newL M2 ds
def evalEs (call : Str → List D → Sto → Rs D) : List Ex → Env → Sto → Rs (List D)
  | [], _, M => .ok [] M
  | e :: es, env, M => (evalE call e env M).bind fun d M1 => (evalEs call es env M1).bind fun ds M2 => .ok (d :: ds) M2
def evalO (call : Str → List D → Sto → Rs D) : Option Ex → Env → Sto → Rs (Option Int)
  | none, _, M => .ok none M
  | some e, env, M => (evalE call e env M).bind fun d M1 => (match d with
    | .int i => .ok (some i) M1
    | _ => .st)
def evalC (call : Str → List D → Sto → Rs D) : Option Ex → Env → Sto → Rs Bool
  | none, _, M => .ok true M
  | some e, env, M => (evalE call e env M).bind fun d M1 => Rs.of M1 (truth M1 d)
def evalI (call : Str → List D → Sto → Rs D) : It → Env → Sto → Rs Wk
  | .seq e, env, M => (evalE call e env M).bind fun d M1 => Rs.of M1 (seqW M1 d)
  | .range e, env, M => (evalE call e env M).bind fun d M1 => (match d with
    | .int n => Rs.of M1 (if okR n then some ⟨upto 0 n.toNat, []⟩ else none)
    | _ => .st)
  | .range2 a b, env, M => (evalE call a env M).bind fun d M1 => (evalE call b env M1).bind fun e M2 => (match d, e with
    | .int m, .int n => Rs.of M2 (if okR m && okR n then some ⟨upto m (n - m).toNat, []⟩ else none)
    | _, _ => .st)
  | .enum e, env, M => (evalE call e env M).bind fun d M1 => Rs.of M1 ((seqLT M1 d).map fun w => ⟨numb 0 w.items, w.keep⟩)
  | .zip a b, env, M => (evalE call a env M).bind fun d M1 => (evalE call b env M1).bind fun e M2 => Rs.of M2 (zipW M2 d e)
end
/-- an expression as a test; what its value left behind goes -/
def gcB (M : Sto) (r : Rs Bool) : Rs Bool := match r with
  | .ok d M' => if M'.take M.length = M then .ok d M else .ok d M'
  | r => r
def evalT (call : Str → List D → Sto → Rs D) (e : Ex) (env : Env) (M : Sto) : Rs Bool :=
  gcB M ((evalE call e env M).bind fun d M1 => Rs.of M1 (truth M1 d))
def setAt (M : Sto) (o i v : D) : Option Sto := match o with
  | .ref k => match M[k]? with
    | some (.dct kvs) => if kvFits kvs i && fits (kvs.length + 1) then some (M.set k (.dct (kvPut kvs i v))) else none
    | _ => none
  | _ => none
def setSlots : List Nat → List D → Env → Env
  | i :: is, d :: ds, env => setSlots is ds (env.set i (some d))
  | _, _, env => env
/-- a result as a statement's end -/
def Rs.thn {α : Type} (r : Rs α) (env : Env) (f : α → Sto → Rt) : Rt := match r with
  | .ok a M => f a M
  | .ex c M => .ex c env M
  | .st => .st
mutual
noncomputable def exec (call : Str → List D → Sto → Rs D) : Sm → Env → Sto → Rt
  | .asg t e, env, M => (evalE call e env M).thn env fun d M1 => (match asg t d env with
    | some env' => .nx env' M1
    | none => .st)
  | .sub o i e, env, M => (evalE call e env M).thn env fun v M1 => (evalE call o env M1).thn env fun x M2 => (evalE call i env M2).thn env fun k M3 => (match setAt M3 x k v with
    | some M4 => .nx env M4
    | none => .st)
  | .swp is es, env, M => (evalEs call es env M).thn env fun ds M1 => if ds.length = is.length then .nx (setSlots is ds env) M1 else .st
  | .exp e, env, M => (evalE call e env M).thn env fun _ M1 => .nx env M1
  | .ret e, env, M => (evalE call e env M).thn env fun d M1 => .rt d M1
  | .retN, _, M => .rt .non M
  | .iff c a b, env, M => (evalT call c env M).thn env fun t M1 => if t then execs call a env M1 else execs call b env M1
  | .fr t it b, env, M => (evalI call it env M).thn env fun w M1 => forGo w.ok t (execs call b) w.items env M1
  | .wh c b, env, M => whGo (evalT call c) (execs call b) env M
  | .brk, env, M => .bk env M
  | .cnt, env, M => .ct env M
  | .pss, env, M => .nx env M
  | .rs c, env, M => .ex c env M
  | .tr b c s, env, M => match execs call b env M with
    | .ex x e M' => if x = c then execs call s e M' else .ex x e M'
    | r => r
noncomputable def execs (call : Str → List D → Sto → Rs D) : List Sm → Env → Sto → Rt
  | [], env, M => .nx env M
  | s :: ss, env, M => match exec call s env M with
    | .nx e M' => execs call ss e M'
    | r => r
end
def gcX (M : Sto) (r : Rs D) : Rs D := match r with
  | .ex c M' => if M'.take M.length = M then .ex c M else .ex c M'
  | r => r
/-- a def, so deep -/
noncomputable def run (P : Prog) : Nat → Str → List D → Sto → Rs D
  | 0, _, _, _ => .st
  | k + 1, f, args, M => match P.lookup f with
    | none => .st
    | some fd => if args.length = fd.np ∧ fd.np ≤ fd.ns then gcX M (gc M (match execs (run P k) fd.body (args.map some ++ List.replicate (fd.ns - fd.np) none) M with
      | .rt d M' => .ok d M'
      | .nx _ M' => .ok .non M'
      | .ex c _ M' => .ex c M'
      | _ => .st)) else .st
end BT

/-! The store stands in the heap. -/
namespace BT
open PySem PySem.Spec PyProof.Rows L2

mutual
/-- a key, as the library has it -/
def keyN : D → NestedKey
  | .int i => .num i
  | .str s => .text s
  | .tup ds => .tup (keyNs ds)
  | _ => .none
def keyNs : List D → List NestedKey
  | [] => []
  | d :: ds => keyN d :: keyNs ds
end

section
variable (K : PySem.W.Frag)
/-- a list that is only read -/
def FL (H : Hp) (a : Addr) (vs : List V) : Prop := (∃ o, H a = some (.frz o (.lst vs))) ∨
  ∃ (o : Obj) (its : Array Value) (n : Nat), K.lookup a = some o ∧ o.cls = .type "list" ∧ o.dict = none ∧ o.data = .seq its n ∧ its.size ≤ sizeLine ∧ Vals vs its.toList
/-- a tuple that stands at a, an object without a dict of its own -/
def TupS (H : Hp) (a : Addr) (vs : List V) : Prop := ∃ o, H a = some (.frz o (.tup vs)) ∧ o.dict = none
mutual
/-- the value v is the datum d; the store's objects stand at ι -/
def Rep (ι : List Addr) (H : Hp) : D → V → Prop
  | .non, v => v = .non
  | .bl b, v => v = .bl b
  | .int i, v => v = .int i
  | .str s, v => v = .str s
  | .tup ds, v => ∃ a vs, v = .ref a ∧ TupS H a vs ∧ Reps ι H ds vs
  | .ref n, v => ∃ a, v = .ref a ∧ ι[n]? = some a
  | .fl is, v => ∃ a, v = .ref a ∧ FL K H a (is.map V.int)
def Reps (ι : List Addr) (H : Hp) : List D → List V → Prop
  | [], vs => vs = []
  | d :: ds, vs => ∃ v r, vs = v :: r ∧ Rep ι H d v ∧ Reps ι H ds r
end
/-- one entry of a dict -/
def EntR (w : World) (ι : List Addr) (H : Hp) (p : D × D) (e : DictEntry) : Prop :=
  e.hash = (keyN p.1).hash w ∧ (∃ v, Rep K ι H p.1 v ∧ RelV v e.key) ∧ ∃ v, Rep K ι H p.2 v ∧ RelV v e.val
/-- the keys of a dict: all tuples, or none; unlike -/
def KvOk (kvs : List (D × D)) : Prop := (kvs.map (·.1)).Nodup ∧ (∀ p ∈ kvs, keyOk 8 p.1 = true) ∧ ∀ p ∈ kvs, ∀ q ∈ kvs, p.1.isTup = q.1.isTup
def DctR (w : World) (ι : List Addr) (H : Hp) (a : Addr) (kvs : List (D × D)) (o : HO) : Prop :=
  ∃ es ep, o = .ext (fun h => h.DictRaw a es ep) ∧ (a == sysModules) = false ∧ kvs.length ≤ sizeLine ∧ KvOk kvs ∧ Paired (EntR K w ι H) kvs es.toList
def ORep (w : World) (ι : List Addr) (H : Hp) (a : Addr) : MO → Prop
  | .lst ds => ∃ vs, H a = some (.lst vs) ∧ Reps K ι H ds vs
  | .dct kvs => ∃ u, H a = some u ∧ DctR K w ι H a kvs u
  | .dlk kvs => ∃ o u, H a = some (.frz o u) ∧ DctR K w ι H a kvs u
  | .ins _ _ => False
/-- the store stands in the heap -/
structure StRep (w : World) (ι : List Addr) (H : Hp) (M : Sto) : Prop where
  len : ι.length = M.length
  nd : ι.Nodup
  at_ : ∀ (n : Nat) (a : Addr) (o : MO), ι[n]? = some a → M[n]? = some o → ORep K w ι H a o
/-- the names' values -/
def ERep (ι : List Addr) (H : Hp) : Env → L2.St → Prop
  | [], [] => True
  | d :: env, v :: σ => (match d, v with
    | some d, some v => Rep K ι H d v
    | some _, none => False
    | none, _ => True) ∧ ERep ι H env σ
  | _, _ => False
end

/-- what grows, and what stays -/
structure Grow (ι : List Addr) (H : Hp) (ι' : List Addr) (H' : Hp) : Prop where
  pre : ι <+: ι'
  fr : ∀ a o, a ∉ ι → H a = some o → H' a = some o
  tup : ∀ a xs, H a = some (.tup xs) → H' a = some (.tup xs)
  frz : ∀ a o u, H a = some (.frz o u) → H' a = some (.frz o u)
  nw : ∀ a ∈ ι', a ∉ ι → H a = none

section
variable {K : PySem.W.Frag} {w : World} {ι ι' ι'' : List Addr} {H H' H'' : Hp} {M M' : Sto}
theorem Grow.refl : Grow ι H ι H := ⟨List.prefix_refl _, fun _ _ _ h => h, fun _ _ h => h, fun _ _ _ h => h, fun _ h n => absurd h n⟩
theorem Grow.trans (a : Grow ι H ι' H') (b : Grow ι' H' ι'' H'') : Grow ι H ι'' H'' := by
  refine ⟨a.pre.trans b.pre, fun x o hx h => ?_, fun x xs h => b.tup x xs (a.tup x xs h), fun x o u h => b.frz x o u (a.frz x o u h), fun x hx hn => ?_⟩
  · have h1 := a.fr x o hx h
    refine b.fr x o (fun hm => ?_) h1
    have := a.nw x hm hx
    rw [h] at this; cases this
  · by_cases hm : x ∈ ι'
    · exact a.nw x hm hn
    · have h2 := b.nw x hx hm
      cases q : H x with
      | none => rfl
      | some o =>
        have := a.fr x o hn q
        rw [h2] at this; cases this
theorem prefix_get {α : Type} {l l' : List α} (h : l <+: l') {n : Nat} {a : α} (e : l[n]? = some a) : l'[n]? = some a := by
  obtain ⟨r, rfl⟩ := h
  have hn : n < l.length := (List.getElem?_eq_some_iff.mp e).1
  rw [List.getElem?_append_left hn]; exact e
theorem TupS.grow (g : Grow ι H ι' H') {a : Addr} {xs : List V} (h : TupS H a xs) : TupS H' a xs := let ⟨o, e, d⟩ := h; ⟨o, g.frz _ _ _ e, d⟩
theorem TupS.sq {a : Addr} {xs : List V} (h : TupS H a xs) : SqT K H a xs := let ⟨o, e, _⟩ := h; .inl (.inr ⟨o, e⟩)
theorem TupS.rd {a : Addr} {xs : List V} (h : TupS H a xs) : Rd H a (.tup xs) := let ⟨o, e, _⟩ := h; .inr ⟨o, e⟩
theorem FL.grow (g : Grow ι H ι' H') {a : Addr} {vs : List V} (h : FL K H a vs) : FL K H' a vs := by
  rcases h with ⟨o, h⟩ | h
  · exact .inl ⟨o, g.frz _ _ _ h⟩
  · exact .inr h
mutual
theorem Rep.grow (g : Grow ι H ι' H') : ∀ (d : D) (v : V), Rep K ι H d v → Rep K ι' H' d v
  | .non, _, h => h
  | .bl _, _, h => h
  | .int _, _, h => h
  | .str _, _, h => h
  | .tup ds, v, h => by
    obtain ⟨a, vs, e, s, r⟩ := h
    exact ⟨a, vs, e, s.grow g, Reps.grow g ds vs r⟩
  | .ref n, v, h => by
    obtain ⟨a, e, q⟩ := h
    exact ⟨a, e, prefix_get g.pre q⟩
  | .fl is, v, h => by
    obtain ⟨a, e, q⟩ := h
    exact ⟨a, e, q.grow g⟩
theorem Reps.grow (g : Grow ι H ι' H') : ∀ (ds : List D) (vs : List V), Reps K ι H ds vs → Reps K ι' H' ds vs
  | [], _, h => h
  | d :: ds, vs, h => by
    obtain ⟨v, r, e, h1, h2⟩ := h
    exact ⟨v, r, e, Rep.grow g d v h1, Reps.grow g ds r h2⟩
end
theorem Reps.length : ∀ {ds : List D} {vs : List V}, Reps K ι H ds vs → ds.length = vs.length
  | [], _, h => by cases h; rfl
  | d :: ds, vs, h => by
    obtain ⟨v, r, rfl, _, h2⟩ := h
    simp [Reps.length h2]
theorem Reps.get : ∀ {ds : List D} {vs : List V} {i : Nat} {d : D}, Reps K ι H ds vs → ds[i]? = some d → ∃ v, vs[i]? = some v ∧ Rep K ι H d v
  | [], _, _, _, _, e => by simp at e
  | d :: ds, vs, 0, d', h, e => by
    obtain ⟨v, r, rfl, h1, h2⟩ := h
    simp at e; subst e
    exact ⟨v, rfl, h1⟩
  | d :: ds, vs, i + 1, d', h, e => by
    obtain ⟨v, r, rfl, h1, h2⟩ := h
    simp at e
    obtain ⟨u, q1, q2⟩ := Reps.get h2 e
    exact ⟨u, by simpa using q1, q2⟩
theorem Reps.append : ∀ {ds es : List D} {vs us : List V}, Reps K ι H ds vs → Reps K ι H es us → Reps K ι H (ds ++ es) (vs ++ us)
  | [], _, _, _, h, h' => by cases h; exact h'
  | d :: ds, es, vs, us, h, h' => by
    obtain ⟨v, r, rfl, h1, h2⟩ := h
    exact ⟨v, r ++ us, rfl, h1, Reps.append h2 h'⟩
theorem Reps.one {d : D} {v : V} (h : Rep K ι H d v) : Reps K ι H [d] [v] := ⟨v, [], rfl, h, rfl⟩
theorem Reps.take : ∀ {ds : List D} {vs : List V} (n : Nat), Reps K ι H ds vs → Reps K ι H (ds.take n) (vs.take n)
  | _, _, 0, _ => by simp [Reps]
  | [], _, n + 1, h => by cases h; simp [Reps]
  | d :: ds, vs, n + 1, h => by
    obtain ⟨v, r, rfl, h1, h2⟩ := h
    exact ⟨v, r.take n, rfl, h1, Reps.take n h2⟩
theorem Reps.drop : ∀ {ds : List D} {vs : List V} (n : Nat), Reps K ι H ds vs → Reps K ι H (ds.drop n) (vs.drop n)
  | _, _, 0, h => h
  | [], _, n + 1, h => by cases h; simp [Reps]
  | d :: ds, vs, n + 1, h => by
    obtain ⟨v, r, rfl, h1, h2⟩ := h
    exact Reps.drop n h2
theorem Reps.reverse : ∀ {ds : List D} {vs : List V}, Reps K ι H ds vs → Reps K ι H ds.reverse vs.reverse
  | [], _, h => by cases h; rfl
  | d :: ds, vs, h => by
    obtain ⟨v, r, rfl, h1, h2⟩ := h
    rw [List.reverse_cons, List.reverse_cons]
    exact Reps.append (Reps.reverse h2) (Reps.one h1)
theorem Reps.dropLast {ds : List D} {vs : List V} (h : Reps K ι H ds vs) : Reps K ι H ds.dropLast vs.dropLast := by
  rw [List.dropLast_eq_take, List.dropLast_eq_take, h.length]
  exact h.take _
theorem Reps.rep {ds : List D} {vs : List V} (h : Reps K ι H ds vs) : ∀ k, Reps K ι H (BT.rep k ds) (BT.rep k vs)
  | 0 => rfl
  | k + 1 => by
    show Reps K ι H (List.replicate (k + 1) ds).flatten (List.replicate (k + 1) vs).flatten
    rw [List.replicate_succ, List.replicate_succ, List.flatten_cons, List.flatten_cons]
    exact Reps.append h (Reps.rep h k)
theorem EntR.grow (g : Grow ι H ι' H') {p : D × D} {e : DictEntry} (h : EntR K w ι H p e) : EntR K w ι' H' p e := by
  obtain ⟨h1, ⟨v, a, b⟩, u, c, d⟩ := h
  exact ⟨h1, ⟨v, Rep.grow g _ _ a, b⟩, u, Rep.grow g _ _ c, d⟩
theorem DctR.grow (g : Grow ι H ι' H') {a : Addr} {kvs : List (D × D)} {o : HO} (h : DctR K w ι H a kvs o) : DctR K w ι' H' a kvs o := by
  obtain ⟨es, ep, h1, h2, h3, h4, h5⟩ := h
  exact ⟨es, ep, h1, h2, h3, h4, Paired.mapP h5 fun _ _ x => EntR.grow g x⟩
theorem ERep.grow (g : Grow ι H ι' H') : ∀ {env : Env} {σ : L2.St}, ERep K ι H env σ → ERep K ι' H' env σ
  | [], [], _ => trivial
  | [], _ :: _, h => h.elim
  | _ :: _, [], h => h.elim
  | d :: env, v :: σ, h => by
    refine ⟨?_, ERep.grow g h.2⟩
    have h1 := h.1
    cases d with
    | none => trivial
    | some d =>
      cases v with
      | none => exact h1
      | some v => exact Rep.grow g _ _ h1
theorem ERep.length : ∀ {env : Env} {σ : L2.St}, ERep K ι H env σ → env.length = σ.length
  | [], [], _ => rfl
  | [], _ :: _, h => h.elim
  | _ :: _, [], h => h.elim
  | d :: env, v :: σ, h => by simp [ERep.length h.2]
theorem ERep.get : ∀ {env : Env} {σ : L2.St} {i : Nat} {d : D}, ERep K ι H env σ → env[i]? = some (some d) → ∃ v, σ[i]? = some (some v) ∧ Rep K ι H d v
  | [], _, _, _, _, e => by simp at e
  | _ :: _, [], _, _, h, _ => h.elim
  | d :: env, v :: σ, 0, d', h, e => by
    simp at e; subst e
    cases v with
    | none => exact h.1.elim
    | some v => exact ⟨v, rfl, h.1⟩
  | d :: env, v :: σ, i + 1, d', h, e => by
    simp at e
    obtain ⟨u, q1, q2⟩ := ERep.get h.2 e
    exact ⟨u, by simpa using q1, q2⟩
theorem ERep.set : ∀ {env : Env} {σ : L2.St} (i : Nat) {d : D} {v : V}, ERep K ι H env σ → Rep K ι H d v → ERep K ι H (env.set i (some d)) (σ.set i (some v))
  | [], [], _, _, _, _, _ => trivial
  | [], _ :: _, _, _, _, h, _ => h.elim
  | _ :: _, [], _, _, _, h, _ => h.elim
  | d :: env, v :: σ, 0, d', v', h, r => ⟨r, h.2⟩
  | d :: env, v :: σ, i + 1, d', v', h, r => ⟨h.1, ERep.set i h.2 r⟩
theorem ERep.unset : ∀ {env : Env} {σ : L2.St} (i : Nat), ERep K ι H env σ → ERep K ι H (env.set i none) (σ.set i none)
  | [], [], _, _ => trivial
  | [], _ :: _, _, h => h.elim
  | _ :: _, [], _, h => h.elim
  | d :: env, v :: σ, 0, h => ⟨trivial, h.2⟩
  | d :: env, v :: σ, i + 1, h => ⟨h.1, ERep.unset i h.2⟩
theorem ERep.wipe {env : Env} {σ : L2.St} : ∀ {vs : List Nat}, ERep K ι H env σ → ERep K ι H (wipeE env vs) (L2.wipe σ vs)
  | [], h => h
  | v :: vs, h => ERep.unset v (ERep.wipe (vs := vs) h)

/-! ### the store -/
theorem StRep.get (S : StRep K w ι H M) {n : Nat} {o : MO} (e : M[n]? = some o) : ∃ a, ι[n]? = some a ∧ ORep K w ι H a o := by
  have hn : n < ι.length := by rw [S.len]; exact (List.getElem?_eq_some_iff.mp e).1
  exact ⟨ι[n], List.getElem?_eq_getElem hn, S.at_ n _ o (List.getElem?_eq_getElem hn) e⟩
theorem ORep.there {a : Addr} {o : MO} (h : ORep K w ι H a o) : ∃ u, H a = some u ∧ (∀ xs, u ≠ .tup xs) := by
  cases o with
  | lst ds => obtain ⟨vs, e, _⟩ := h; exact ⟨_, e, fun xs q => by cases q⟩
  | dct kvs => obtain ⟨u, e, es, ep, q, _⟩ := h; subst q; exact ⟨_, e, fun xs q => by cases q⟩
  | dlk kvs => obtain ⟨o, u, e, _⟩ := h; exact ⟨_, e, fun xs q => by cases q⟩
  | ins _ _ => exact h.elim
end
end BT

/-! The store changes; what follows. -/
namespace BT
open PySem PySem.Spec PyProof.Rows L2

section
variable {K : PySem.W.Frag} {w : World} {ι ι' ι'' ι1 : List Addr} {H H' H'' H1 : Hp} {M M' M1 : Sto}
theorem grow_laid {p : Addr} {o : HO} (hp : H p = none) : Grow ι H ι (upd H p o) :=
  ⟨List.prefix_refl _, fun a u _ h => by rw [upd_ne (ne_of_none h hp)]; exact h, fun a xs h => by rw [upd_ne (ne_of_none h hp)]; exact h, fun a u x h => by rw [upd_ne (ne_of_none h hp)]; exact h, fun _ h n => absurd h n⟩
theorem ORep.grow {a : Addr} {o : MO} (g : Grow ι H ι' H') (e : H' a = H a) (h : ORep K w ι H a o) : ORep K w ι' H' a o := by
  cases o with
  | lst ds => obtain ⟨vs, q, r⟩ := h; exact ⟨vs, e.trans q, Reps.grow g _ _ r⟩
  | dct kvs => obtain ⟨u, q, r⟩ := h; exact ⟨u, e.trans q, r.grow g⟩
  | dlk kvs => obtain ⟨o, u, q, r⟩ := h; exact ⟨o, u, e.trans q, r.grow g⟩
  | ins _ _ => exact h.elim
theorem StRep.obj (S : StRep K w ι H M) {n : Nat} {a : Addr} (e : ι[n]? = some a) : ∃ o, M[n]? = some o ∧ ORep K w ι H a o := by
  have hn : n < M.length := by rw [← S.len]; exact (List.getElem?_eq_some_iff.mp e).1
  exact ⟨M[n], List.getElem?_eq_getElem hn, S.at_ n a _ e (List.getElem?_eq_getElem hn)⟩
theorem StRep.there (S : StRep K w ι H M) {a : Addr} (h : a ∈ ι) : ∃ u, H a = some u ∧ ∀ xs, u ≠ .tup xs := by
  obtain ⟨n, hn, e⟩ := List.mem_iff_getElem.mp h
  obtain ⟨o, _, r⟩ := S.obj (n := n) (a := a) (by rw [List.getElem?_eq_getElem hn, e])
  exact r.there
theorem StRep.out (S : StRep K w ι H M) {p : Addr} (hp : H p = none) : p ∉ ι := fun hm => by
  obtain ⟨u, e, _⟩ := S.there hm
  rw [hp] at e; cases e
theorem StRep.laid {p : Addr} {o : HO} (S : StRep K w ι H M) (hp : H p = none) : StRep K w ι (upd H p o) M :=
  ⟨S.len, S.nd, fun n a u e1 e2 => (S.at_ n a u e1 e2).grow (grow_laid hp) (upd_ne fun z => by
    obtain ⟨x, q, _⟩ := (S.at_ n a u e1 e2).there
    rw [z, hp] at q; cases q)⟩
theorem grow_push {p : Addr} {o : HO} (hp : H p = none) : Grow ι H (ι ++ [p]) (upd H p o) :=
  ⟨List.prefix_append _ _, fun a u _ h => by rw [upd_ne (ne_of_none h hp)]; exact h, fun a xs h => by rw [upd_ne (ne_of_none h hp)]; exact h, fun a u x h => by rw [upd_ne (ne_of_none h hp)]; exact h, fun a h n => by
    rcases List.mem_append.mp h with h | h
    · exact absurd h n
    · rw [List.mem_singleton.mp h]; exact hp⟩
theorem StRep.push {p : Addr} {o : HO} {mo : MO} (S : StRep K w ι H M) (hp : H p = none) (h : ORep K w (ι ++ [p]) (upd H p o) p mo) : StRep K w (ι ++ [p]) (upd H p o) (M ++ [mo]) := by
  refine ⟨by simp [S.len], ?_, fun n a u e1 e2 => ?_⟩
  · rw [List.nodup_append]
    refine ⟨S.nd, by simp, fun a ha b hb => ?_⟩
    rw [List.mem_singleton.mp hb]
    rintro rfl
    exact S.out hp ha
  · by_cases hn : n < ι.length
    · rw [List.getElem?_append_left hn] at e1
      rw [List.getElem?_append_left (by rw [← S.len]; exact hn)] at e2
      refine (S.at_ n a u e1 e2).grow (grow_push hp) (upd_ne fun z => ?_)
      obtain ⟨x, q, _⟩ := (S.at_ n a u e1 e2).there
      rw [z, hp] at q; cases q
    · have e : n = ι.length := by
        have h1 := (List.getElem?_eq_some_iff.mp e1).1
        simp at h1
        omega
      subst e
      rw [List.getElem?_append_right (Nat.le_refl _)] at e1
      rw [S.len, List.getElem?_append_right (Nat.le_refl _)] at e2
      simp at e1 e2
      subst e1 e2
      exact h
theorem nodup_inj {α : Type} {l : List α} (h : l.Nodup) {i j : Nat} {a : α} (e1 : l[i]? = some a) (e2 : l[j]? = some a) : i = j := by
  obtain ⟨h1, q1⟩ := List.getElem?_eq_some_iff.mp e1
  obtain ⟨h2, q2⟩ := List.getElem?_eq_some_iff.mp e2
  exact (List.getElem_inj h).mp (q1.trans q2.symm)
theorem grow_write {a : Addr} {u o : HO} (hm : a ∈ ι) (e : H a = some u) (h1 : ∀ xs, u ≠ .tup xs) (h2 : ∀ x y, u ≠ .frz x y) : Grow ι H ι (upd H a o) :=
  ⟨List.prefix_refl _, fun b x n h => by rw [upd_ne (fun z => n (by rw [z]; exact hm))]; exact h,
    fun b xs h => by rw [upd_ne (fun z => by rw [z, e] at h; exact h1 xs (Option.some.inj h))]; exact h,
    fun b x y h => by rw [upd_ne (fun z => by rw [z, e] at h; exact h2 x y (Option.some.inj h))]; exact h, fun _ h n => absurd h n⟩
theorem StRep.write {n : Nat} {a : Addr} {u o : HO} {mo : MO} (S : StRep K w ι H M) (en : ι[n]? = some a) (e : H a = some u) (h1 : ∀ xs, u ≠ .tup xs) (h2 : ∀ x y, u ≠ .frz x y)
    (h : ORep K w ι (upd H a o) a mo) : StRep K w ι (upd H a o) (M.set n mo) := by
  have hm : a ∈ ι := List.mem_of_getElem? en
  refine ⟨by simp [S.len], S.nd, fun k b x e1 e2 => ?_⟩
  by_cases hk : n = k
  · subst hk
    rw [en] at e1
    have e1 := Option.some.inj e1
    subst e1
    rw [List.getElem?_set_self (by rw [← S.len]; exact (List.getElem?_eq_some_iff.mp en).1)] at e2
    have e2 := Option.some.inj e2
    subst e2
    exact h
  · rw [List.getElem?_set_ne hk] at e2
    exact (S.at_ k b x e1 e2).grow (grow_write hm e h1 h2) (upd_ne fun z => hk (nodup_inj S.nd en (z ▸ e1)))

/-! ### what is left behind goes -/
mutual
theorem Rep.bel : ∀ {d : D} {v : V}, Rep K ι H d v → d.bel ι.length = true
  | .non, _, _ => rfl
  | .bl _, _, _ => rfl
  | .int _, _, _ => rfl
  | .str _, _, _ => rfl
  | .tup ds, v, h => by
    obtain ⟨a, vs, _, _, r⟩ := h
    rw [D.bel]
    exact Reps.bels r
  | .ref n, v, h => by
    obtain ⟨a, _, e⟩ := h
    rw [D.bel]
    exact decide_eq_true (List.getElem?_eq_some_iff.mp e).1
  | .fl _, _, _ => rfl
theorem Reps.bels : ∀ {ds : List D} {vs : List V}, Reps K ι H ds vs → D.bels ι.length ds = true
  | [], _, _ => rfl
  | d :: ds, vs, h => by
    obtain ⟨v, r, _, h1, h2⟩ := h
    rw [D.bels, Rep.bel h1, Reps.bels h2]; rfl
end
mutual
theorem Rep.back (pre : ι <+: ι') : ∀ {d : D} {v : V}, d.bel ι.length = true → Rep K ι' H d v → Rep K ι H d v
  | .non, _, _, h => h
  | .bl _, _, _, h => h
  | .int _, _, _, h => h
  | .str _, _, _, h => h
  | .tup ds, v, b, h => by
    obtain ⟨a, vs, e, s, r⟩ := h
    rw [D.bel] at b
    exact ⟨a, vs, e, s, Reps.back pre b r⟩
  | .ref n, v, b, h => by
    obtain ⟨a, e, q⟩ := h
    rw [D.bel] at b
    have hn := of_decide_eq_true b
    obtain ⟨r, rfl⟩ := pre
    rw [List.getElem?_append_left hn] at q
    exact ⟨a, e, q⟩
  | .fl _, _, _, h => h
theorem Reps.back (pre : ι <+: ι') : ∀ {ds : List D} {vs : List V}, D.bels ι.length ds = true → Reps K ι' H ds vs → Reps K ι H ds vs
  | [], _, _, h => h
  | d :: ds, vs, b, h => by
    obtain ⟨v, r, e, h1, h2⟩ := h
    rw [D.bels, Bool.and_eq_true] at b
    exact ⟨v, r, e, Rep.back pre b.1 h1, Reps.back pre b.2 h2⟩
end
mutual
theorem bel_le {m n : Nat} (h : m ≤ n) : ∀ {d : D}, d.bel m = true → d.bel n = true
  | .non, _ => rfl
  | .bl _, _ => rfl
  | .int _, _ => rfl
  | .str _, _ => rfl
  | .tup ds, b => by rw [D.bel] at b ⊢; exact bels_le h b
  | .ref k, b => by rw [D.bel] at b ⊢; exact decide_eq_true (Nat.lt_of_lt_of_le (of_decide_eq_true b) h)
  | .fl _, _ => rfl
theorem bels_le {m n : Nat} (h : m ≤ n) : ∀ {ds : List D}, D.bels m ds = true → D.bels n ds = true
  | [], _ => rfl
  | d :: ds, b => by
    rw [D.bels, Bool.and_eq_true] at b ⊢
    exact ⟨bel_le h b.1, bels_le h b.2⟩
end
theorem paired_back (pre : ι <+: ι') : ∀ {kvs : List (D × D)} {es es0 : List DictEntry}, Paired (EntR K w ι H) kvs es0 → Paired (EntR K w ι' H') kvs es → Paired (EntR K w ι H') kvs es
  | [], _, _, _, .nil => .nil
  | p :: kvs, _, _, .cons a0 r0, .cons a r => by
    refine .cons ?_ (paired_back pre r0 r)
    obtain ⟨_, ⟨v0, k0, _⟩, u0, l0, _⟩ := a0
    obtain ⟨h1, ⟨v, k, k'⟩, u, l, l'⟩ := a
    exact ⟨h1, ⟨v, Rep.back pre k0.bel k, k'⟩, u, Rep.back pre l0.bel l, l'⟩
theorem ORep.back (pre : ι <+: ι') {a : Addr} {o : MO} (h0 : ORep K w ι H a o) (h : ORep K w ι' H' a o) : ORep K w ι H' a o := by
  cases o with
  | lst ds =>
    obtain ⟨_, _, r0⟩ := h0
    obtain ⟨vs, e, r⟩ := h
    exact ⟨vs, e, Reps.back pre r0.bels r⟩
  | dct kvs =>
    obtain ⟨_, _, es0, _, _, _, _, _, r0⟩ := h0
    obtain ⟨u, e, es, ep, h1, h2, h3, h4, r⟩ := h
    exact ⟨u, e, es, ep, h1, h2, h3, h4, paired_back pre r0 r⟩
  | dlk kvs =>
    obtain ⟨_, _, _, es0, _, _, _, _, _, r0⟩ := h0
    obtain ⟨o, u, e, es, ep, h1, h2, h3, h4, r⟩ := h
    exact ⟨o, u, e, es, ep, h1, h2, h3, h4, paired_back pre r0 r⟩
  | ins _ _ => exact h.elim
theorem Grow.back (g : Grow ι H ι' H') : Grow ι H ι H' := ⟨List.prefix_refl _, g.fr, g.tup, g.frz, fun _ h n => absurd h n⟩
theorem StRep.back (S : StRep K w ι H M) (g : Grow ι H ι' H') (S' : StRep K w ι' H' M') (e : M'.take M.length = M) : StRep K w ι H' M := by
  refine ⟨S.len, S.nd, fun n a o e1 e2 => (S.at_ n a o e1 e2).back g.pre (S'.at_ n a o (prefix_get g.pre e1) ?_)⟩
  have hn : n < M.length := (List.getElem?_eq_some_iff.mp e2).1
  rw [← e, List.getElem?_take_of_lt hn] at e2
  exact e2

/-! ### what follows -/
def RC (K : PySem.W.Frag) (w : World) {α β : Type} (R : List Addr → Hp → α → β → Prop) (X : Str → Hp → Prop) (ι : List Addr) (H : Hp) (r : Rs α) (Q : β → Hp → Prop) : Prop :=
  match r with
  | .ok a M' => ∀ ι' H' b, Grow ι H ι' H' → StRep K w ι' H' M' → R ι' H' a b → Q b H'
  | .ex c M' => ∀ ι' H', Grow ι H ι' H' → StRep K w ι' H' M' → X c H'
  | .st => False
section
variable {α β γ δ : Type} {R : List Addr → Hp → α → β → Prop} {R2 : List Addr → Hp → γ → δ → Prop} {X : Str → Hp → Prop} {r : Rs α} {Q Q' : β → Hp → Prop} {Q2 : δ → Hp → Prop}
theorem RC.mono (g : Grow ι H ι1 H1) (h : RC K w R X ι H r Q) : RC K w R X ι1 H1 r Q := by
  cases r with
  | ok a M' => exact fun ι' H' b g' S' r' => h ι' H' b (g.trans g') S' r'
  | ex c M' => exact fun ι' H' g' S' => h ι' H' (g.trans g') S'
  | st => exact h
theorem RC.imp (h : RC K w R X ι H r Q) (f : ∀ b H', Q b H' → Q' b H') : RC K w R X ι H r Q' := by
  cases r with
  | ok a M' => exact fun ι' H' b g' S' r' => f _ _ (h ι' H' b g' S' r')
  | ex c M' => exact h
  | st => exact h
theorem RC.bind {f : α → Sto → Rs γ} (h : RC K w R2 X ι H (r.bind f) Q2) :
    RC K w R X ι H r fun b H1 => ∃ ι1 M1 a, Grow ι H ι1 H1 ∧ StRep K w ι1 H1 M1 ∧ R ι1 H1 a b ∧ RC K w R2 X ι1 H1 (f a M1) Q2 := by
  cases r with
  | ok a M' => exact fun ι' H' b g' S' r' => ⟨ι', M', a, g', S', r', RC.mono g' h⟩
  | ex c M' => exact h
  | st => exact h
theorem RC.ungc {r : Rs D} {Q : V → Hp → Prop} (S : StRep K w ι H M) (h : RC K w (Rep K) X ι H (gc M r) Q) : RC K w (Rep K) X ι H r Q := by
  cases r with
  | ok d M' =>
    unfold gc at h
    by_cases c : d.pure = true ∧ M'.take M.length = M
    · simp only [if_pos c] at h
      exact fun ι' H' b g' S' r' => h ι H' b g'.back (S.back g' S' c.2) (Rep.back g'.pre (bel_le (Nat.zero_le _) c.1) r')
    · simp only [if_neg c] at h
      exact h
  | ex c M' => exact h
  | st => exact h
theorem RC.ungcX {r : Rs D} {Q : V → Hp → Prop} (S : StRep K w ι H M) (h : RC K w (Rep K) X ι H (gcX M r) Q) : RC K w (Rep K) X ι H r Q := by
  cases r with
  | ok d M' => exact h
  | ex c M' =>
    unfold gcX at h
    by_cases q : M'.take M.length = M
    · simp only [if_pos q] at h
      exact fun ι' H' g' S' => h ι H' g'.back (S.back g' S' q)
    · simp only [if_neg q] at h
      exact h
  | st => exact h
theorem RC.ok {a : α} {M' : Sto} {b : β} (h : RC K w R X ι H (.ok a M') Q) (g : Grow ι H ι' H') (S : StRep K w ι' H' M') (r : R ι' H' a b) : Q b H' := h ι' H' b g S r
theorem RC.here {a : α} {b : β} (h : RC K w R X ι H (.ok a M) Q) (S : StRep K w ι H M) (r : R ι H a b) : Q b H := h ι H b .refl S r
end
/-- for values that need no heap -/
abbrev Rid {α : Type} : List Addr → Hp → α → α → Prop := fun _ _ a b => a = b

section
variable {α β γ δ : Type}
/-- the reading of a run -/
def tR (K : PySem.W.Frag) (w : World) (cv : Str → Value) (R : List Addr → Hp → α → β → Prop) (W : WX) (f : Env → Sto → Rs α) : L2.St → Hp → (β → Hp → Prop) → Prop :=
  fun σ H Q => ∃ ι env M, StRep K w ι H M ∧ ERep K ι H env σ ∧ RC K w R (fun c H' => W (cv c) none σ H') ι H (f env M) Q
end
end
theorem PE.imp {X : Cx} {e : Expr} {t t' : TE} (h : PE X e t) (f : ∀ σ H Q, t' σ H Q → t σ H Q) : PE X e t' := ⟨fun pins s σ H Q I q => h.run pins s σ H Q I (f σ H Q q)⟩
theorem PT.imp {X : Cx} {e : Expr} {t t' : TT} (h : PT X e t) (f : ∀ σ H Q, t' σ H Q → t σ H Q) : PT X e t' := ⟨fun pins s σ H Q I q => h.run pins s σ H Q I (f σ H Q q)⟩
theorem PW.imp {X : Cx} {e : Expr} {t t' : TT} (h : PW X e t) (f : ∀ σ H Q, t' σ H Q → t σ H Q) : PW X e t' := ⟨fun wh pins s σ H Q I q => h.run wh pins s σ H Q I (f σ H Q q)⟩
theorem PA.imp {X : Cx} {e : List Expr} {t t' : TA} (h : PA X e t) (f : ∀ σ H Q, t' σ H Q → t σ H Q) : PA X e t' := ⟨fun pos pins s σ H Q I q => h.run pos pins s σ H Q I (f σ H Q q)⟩
theorem PS.imp {X : Cx} {e : Stmt} {t t' : TS} (h : PS X e t) (f : ∀ D σ H, t' D σ H → t D σ H) : PS X e t' := ⟨fun pins s σ H D I q => h.run pins s σ H D I (f D σ H q)⟩
theorem PSs.imp {X : Cx} {e : List Stmt} {t t' : TS} (h : PSs X e t) (f : ∀ D σ H, t' D σ H → t D σ H) : PSs X e t' := ⟨fun pins s σ H D I q => h.run pins s σ H D I (f D σ H q)⟩
end BT

/-! Operations on values. -/
namespace BT
open PySem PySem.Spec PyProof.Rows L2

section
variable {K : PySem.W.Frag} {w : World} {ι ι' : List Addr} {H H' : Hp} {M M' : Sto} {Xf : Str → Hp → Prop} {Q : V → Hp → Prop}
theorem fits_le {n : Nat} (h : fits n = true) : n ≤ sizeLine := of_decide_eq_true h
theorem RC.newL {ds : List D} {vs : List V} {p : Addr} (h : RC K w (Rep K) Xf ι H (newL M ds) Q) (S : StRep K w ι H M) (hp : H p = none) (r : Reps K ι H ds vs) : Q (.ref p) (upd H p (.lst vs)) := by
  unfold BT.newL at h
  by_cases c : fits ds.length = true
  · rw [if_pos c] at h
    refine h (ι ++ [p]) _ (.ref p) (grow_push hp) (S.push hp ⟨vs, upd_same, Reps.grow (grow_push hp) _ _ r⟩) ⟨p, rfl, ?_⟩
    rw [← S.len, List.getElem?_append_right (Nat.le_refl _)]; simp
  · rw [if_neg c] at h; exact h.elim
theorem newL_fits {ds : List D} (h : RC K w (Rep K) Xf ι H (BT.newL M ds) Q) : ds.length ≤ sizeLine := by
  unfold BT.newL at h
  by_cases c : fits ds.length = true
  · exact fits_le c
  · rw [if_neg c] at h; exact h.elim
theorem RC.newT {ds : List D} {vs : List V} {p : Addr} {o : Obj} (h : RC K w (Rep K) Xf ι H (.ok (.tup ds) M) Q) (S : StRep K w ι H M) (hp : H p = none) (ho : o.dict = none) (r : Reps K ι H ds vs) : Q (.ref p) (upd H p (.frz o (.tup vs))) :=
  h ι _ (.ref p) (grow_laid hp) (S.laid hp) ⟨p, vs, rfl, ⟨o, upd_same, ho⟩, Reps.grow (grow_laid hp) _ _ r⟩
/-- a new tuple, laid -/
theorem Inv.newTup {X : Cx} {pins : List (Addr × Obj)} {s : Shared} {σ : L2.St} {H : Hp} {vs : List V} {its : List Value} {t : Nat} (I : Inv X pins σ H s) (r : Vals vs its) (z : vs.length ≤ sizeLine) :
    Inv X pins σ (upd H s.heap.objs.size (.frz { cls := .type "tuple", data := .seq its.toArray } (.tup vs))) { s with heap := s.heap.push { cls := .type "tuple", data := .seq its.toArray }, toks := t } :=
  I.laid (t' := t) (fun b u e => Heap.get?_push_of_some _ e) (Nat.le_refl _) ⟨Heap.get?_push_size _ rfl, z, its, r, ⟨_, Heap.get?_push_size _ rfl, rfl, _, rfl⟩⟩
/-- the end of what makes a new tuple -/
theorem RC.tupEnd {X : Cx} {pins : List (Addr × Obj)} {s : Shared} {σ : L2.St} {H : Hp} {ι : List Addr} {M : Sto} {ds : List D} {vs : List V} {its : List Value} {Q : VK} (h : RC X.K X.w (Rep X.K) Xf ι H (.ok (.tup ds) M) Q) (S : StRep X.K X.w ι H M) (I : Inv X pins σ H s) (rr : Reps X.K ι H ds vs) (r : Vals vs its) (z : vs.length ≤ sizeLine) :
    EP X pins σ Q (.ref s.heap.objs.size) { s with heap := s.heap.push { cls := .type "tuple", data := .seq its.toArray } } :=
  ⟨.ref _, _, Inv.newTup (t := s.toks) I r z, rfl, h.newT S I.fresh rfl rr⟩
theorem RC.pos {c : Prop} [Decidable c] {r : Rs D} (h : RC K w (Rep K) Xf ι H (if c then r else .st) Q) : c ∧ RC K w (Rep K) Xf ι H r Q := by
  by_cases q : c
  · rw [if_pos q] at h; exact ⟨q, h⟩
  · rw [if_neg q] at h; exact h.elim
theorem Reps.nil_iff {ds : List D} {vs : List V} (h : Reps K ι H ds vs) : vs = [] ↔ ds = [] := by
  cases ds with
  | nil => cases h; simp
  | cons d ds => obtain ⟨v, r, rfl, _⟩ := h; simp
def opO : Op → Operator
  | .add => .Add | .sub => .Sub | .mul => .Mult | .mod => .Mod | .fdiv => .FloorDiv
def rBin (K : PySem.W.Frag) (w : World) (o : Op) : R2 := fun x y H Q => ∃ ι M a b Xf, StRep K w ι H M ∧ Rep K ι H a x ∧ Rep K ι H b y ∧ RC K w (Rep K) Xf ι H (binD M o a b) Q
theorem StRep.lst (S : StRep K w ι H M) {n : Nat} {x : V} {ds : List D} (r : Rep K ι H (.ref n) x) (e : M[n]? = some (.lst ds)) : ∃ a vs, x = .ref a ∧ ι[n]? = some a ∧ H a = some (.lst vs) ∧ Reps K ι H ds vs := by
  obtain ⟨a, rfl, q⟩ := r
  obtain ⟨vs, h1, h2⟩ := S.at_ n a _ q e
  exact ⟨a, vs, rfl, q, h1, h2⟩
theorem mulOk_of {a : Str} {k : Int} (h1 : 0 ≤ k) (h2 : k < 64) (h3 : a.length ≤ 1000) : MulOk a k := by
  refine ⟨by simp; omega, fun h _ => ?_, fun h _ => ?_⟩
  · have : (a.length : Int) ≤ (2 ^ 63 - 1) / k := by
      rw [Int.le_ediv_iff_mul_le (by omega)]
      have : (a.length : Int) * k ≤ 1000 * 64 := Int.mul_le_mul (by omega) (by omega) (by omega) (by omega)
      omega
    omega
  · have : a.length * k.toNat ≤ 1000 * 64 := Nat.mul_le_mul h3 (by omega)
    refine decide_eq_false ?_
    rw [sizeLine_eq]
    omega
theorem bin_ok {X : Cx} (o : Op) : OpR X (binaryOp (opO o)) (rBin X.K X.w o) := by
  intro pins s σ H x y v u Q I rx ry h
  obtain ⟨ι, M, a, b, Xf, S, ra, rb, C⟩ := h
  cases o with
  | add =>
    cases a with
    | int i =>
      cases b with
      | int j =>
        cases ra; cases rb
        exact op_add pins s σ H _ _ v u Q I rx ry ⟨i, j, rfl, rfl, C.here S rfl⟩
      | _ => exact C.elim
    | str i =>
      cases b with
      | str j =>
        cases ra; cases rb
        obtain ⟨c, C⟩ := C.pos
        exact op_add_str pins s σ H _ _ v u Q I rx ry ⟨i, j, rfl, rfl, fits_le c, C.here S rfl⟩
      | _ => exact C.elim
    | tup xs =>
      cases b with
      | tup ys =>
        obtain ⟨p, vs, rfl, hp, r1⟩ := ra
        obtain ⟨q, us, rfl, hq, r2⟩ := rb
        obtain ⟨c, C⟩ := C.pos
        have hz : vs.length + us.length ≤ sizeLine := by rw [← r1.length, ← r2.length]; exact fits_le c
        cases rx; cases ry
        obtain ⟨its, i1, p1, _⟩ := I.tuple hp.sq
        obtain ⟨its2, i2, p2, _⟩ := I.tuple hq.sq
        by_cases hx : vs = []
        · subst hx
          cases i1
          refine cat_tup0 p1 p2 ⟨.ref q, H, I, rfl, C.here S ⟨q, us, rfl, hq, ?_⟩⟩
          rw [(r1.nil_iff.mp rfl)]; exact r2
        · refine HT.cat_tup p1 p2 (fun z => hx (i1.nil_iff.mp z)) (fun z => ⟨.ref p, H, I, rfl, C.here S ⟨p, vs, rfl, hp, ?_⟩⟩) (fun z => C.tupEnd S I (r1.append r2) (i1.append i2) (by rw [List.length_append]; exact hz)) (by rw [← i1.length, ← i2.length]; exact hz)
          rw [(r2.nil_iff.mp (i2.nil_iff.mp z)), List.append_nil]; exact r1
      | _ => exact C.elim
    | ref n =>
      cases b with
      | ref m =>
        simp only [binD] at C
        split at C
        · rename_i xs ys e1 e2
          obtain ⟨p, vs, rfl, _, hp, r1⟩ := S.lst ra e1
          obtain ⟨q, us, rfl, _, hq, r2⟩ := S.lst rb e2
          refine op_cat pins s σ H _ _ v u Q I rx ry ⟨p, q, vs, us, rfl, rfl, hp, hq, ?_, fun l hl => C.newL S hl (r1.append r2)⟩
          have := newL_fits C
          rw [List.length_append] at this
          rw [← r1.length, ← r2.length]; exact this
        · exact C.elim
      | _ => exact C.elim
    | _ => cases b <;> exact C.elim
  | sub =>
    cases a with
    | int i =>
      cases b with
      | int j =>
        cases ra; cases rb
        exact op_sub pins s σ H _ _ v u Q I rx ry ⟨i, j, rfl, rfl, C.here S rfl⟩
      | _ => exact C.elim
    | _ => cases b <;> exact C.elim
  | mul =>
    cases a with
    | int i =>
      cases b with
      | int j =>
        cases ra; cases rb
        obtain ⟨c, C⟩ := C.pos
        exact op_mul pins s σ H _ _ v u Q I rx ry ⟨i, j, rfl, rfl, c, C.here S rfl⟩
      | _ => exact C.elim
    | ref n =>
      cases b with
      | int k =>
        cases rb
        simp only [binD] at C
        split at C
        · rename_i xs e1
          obtain ⟨c, C⟩ := C.pos
          obtain ⟨p, vs, rfl, _, hp, r1⟩ := S.lst ra e1
          exact op_rep pins s σ H _ _ v u Q I rx ry ⟨p, k, vs, rfl, rfl, hp, c.1, c.2.1, by rw [← r1.length]; exact fits_le c.2.2, fun l hl => C.newL S hl (r1.rep _)⟩
        · exact C.elim
      | _ => exact C.elim
    | str z =>
      cases b with
      | int k =>
        cases ra; cases rb
        obtain ⟨c, C⟩ := C.pos
        obtain ⟨t, rfl⟩ := rx
        obtain ⟨t', rfl⟩ := ry
        exact SB.mul (mulOk_of c.1 c.2.1 c.2.2) fun t' k' => ⟨.str _, H, I.tok _, ⟨_, rfl⟩, C.here S rfl⟩
      | _ => exact C.elim
    | _ => cases b <;> exact C.elim
  | mod =>
    cases a with
    | int i =>
      cases b with
      | int j =>
        cases ra; cases rb
        obtain ⟨c, C⟩ := C.pos
        exact op_modN pins s σ H _ _ v u Q I rx ry ⟨i, j, rfl, rfl, c, C.here S rfl⟩
      | _ => exact C.elim
    | _ => cases b <;> exact C.elim
  | fdiv =>
    cases a with
    | int i =>
      cases b with
      | int j =>
        cases ra; cases rb
        obtain ⟨c, C⟩ := C.pos
        exact op_fdivN pins s σ H _ _ v u Q I rx ry ⟨i, j, rfl, rfl, c, C.here S rfl⟩
      | _ => exact C.elim
    | _ => cases b <;> exact C.elim
end
end BT

/-! Dicts: keys that are texts, whole numbers, None; or tuples of such. -/
namespace BT
open PySem PySem.Spec PyProof.Rows L2

def leafOf : D → Leaf
  | .int i => .num i
  | .str s => .text s
  | _ => .none
def notBool : Value → Bool
  | .bool _ => false
  | _ => true
/-- whole numbers (no truths), texts, None -/
def strictKind (P : Program) (w : World) : KeyKind P w Leaf where
  is := fun k v => Leaf.isOf k v && notBool v
  hash := fun k => k.key.hash w
  inj := fun v a b ha hb => (leafKind P w).inj v a b (Bool.and_eq_true_iff.mp ha).1 (Bool.and_eq_true_iff.mp hb).1
  byValue := fun k v h => (leafKind P w).byValue k v (Bool.and_eq_true_iff.mp h).1
  pyHash := fun hv h => (leafKind P w).pyHash (Bool.and_eq_true_iff.mp hv).1 h
  eqBool := fun hu hv h => (leafKind P w).eqBool (Bool.and_eq_true_iff.mp hu).1 (Bool.and_eq_true_iff.mp hv).1 h
  «strs» := fun k x t v h => by
    have h1 := (leafKind P w).strs k x t v (Bool.and_eq_true_iff.mp h).1
    show (Leaf.isOf k v && notBool v) = _
    have h2 : Leaf.isOf k v = v.isStr x := h1
    rw [h2]
    cases v <;> first | rfl | simp [notBool, Value.isStr]

mutual
theorem keyN_inj : ∀ (m n : Nat) (a b : D), keyOk m a = true → keyOk n b = true → keyN a = keyN b → a = b
  | m, n, .non, b, _, hb, e => by cases b <;> first | rfl | (cases n <;> simp [keyOk] at hb; done) | (simp [keyN] at e; done)
  | m, n, .int i, b, _, hb, e => by cases b <;> first | (cases n <;> simp [keyOk] at hb; done) | (simp [keyN] at e; done) | (simp [keyN] at e; rw [e])
  | m, n, .str i, b, _, hb, e => by cases b <;> first | (cases n <;> simp [keyOk] at hb; done) | (simp [keyN] at e; done) | (simp [keyN] at e; rw [e])
  | 0, n, .tup ds, b, ha, _, _ => by simp [keyOk] at ha
  | m + 1, n, .tup ds, b, ha, hb, e => by
    cases b with
    | tup es =>
      cases n with
      | zero => simp [keyOk] at hb
      | succ n =>
        simp only [keyOk] at ha hb
        simp only [keyN, NestedKey.tup.injEq] at e
        rw [keyNs_inj m n ds es ha hb e]
    | _ => first | (cases n <;> simp [keyOk] at hb; done) | (simp [keyN] at e; done)
  | m, n, .bl i, b, ha, _, _ => by cases m <;> simp [keyOk] at ha
  | m, n, .ref i, b, ha, _, _ => by cases m <;> simp [keyOk] at ha
  | m, n, .fl i, b, ha, _, _ => by cases m <;> simp [keyOk] at ha
theorem keyNs_inj : ∀ (m n : Nat) (a b : List D), keysOk m a = true → keysOk n b = true → keyNs a = keyNs b → a = b
  | _, _, [], [], _, _, _ => rfl
  | _, _, [], _ :: _, _, _, e => by simp [keyNs] at e
  | _, _, _ :: _, [], _, _, e => by simp [keyNs] at e
  | m, n, a :: as, b :: bs, ha, hb, e => by
    simp only [keysOk, Bool.and_eq_true] at ha hb
    simp only [keyNs, List.cons.injEq] at e
    rw [keyN_inj m n a b ha.1 hb.1 e.1, keyNs_inj m n as bs ha.2 hb.2 e.2]
end
mutual
theorem keyN_depth : ∀ (n : Nat) (a : D), keyOk n a = true → (keyN a).depth ≤ n
  | n, .non, _ => by simp [keyN, NestedKey.depth]
  | n, .int i, _ => by simp [keyN, NestedKey.depth]
  | n, .str i, _ => by simp [keyN, NestedKey.depth]
  | 0, .tup ds, h => by simp [keyOk] at h
  | n + 1, .tup ds, h => by
    simp only [keyOk] at h
    simp only [keyN, NestedKey.depth]
    have := keyNs_depth n ds h
    omega
  | n, .bl i, h => by cases n <;> simp [keyOk] at h
  | n, .ref i, h => by cases n <;> simp [keyOk] at h
  | n, .fl i, h => by cases n <;> simp [keyOk] at h
theorem keyNs_depth : ∀ (n : Nat) (a : List D), keysOk n a = true → NestedKey.depthAll (keyNs a) ≤ n
  | n, [], _ => by simp [keyNs, NestedKey.depthAll]
  | n, a :: as, h => by
    simp only [keysOk, Bool.and_eq_true] at h
    simp only [keyNs, NestedKey.depthAll]
    have h1 := keyN_depth n a h.1
    have h2 := keyNs_depth n as h.2
    omega
end
theorem leafOf_key {a : D} (h : a.isTup = false) : (leafOf a).key = keyN a := by
  cases a <;> first | rfl | simp [D.isTup] at h

section
variable {X : Cx} {pins : List (Addr × Obj)} {σ : L2.St} {H : Hp} {s : Shared} {ι : List Addr}
mutual
theorem Rep.nested (I : Inv X pins σ H s) : ∀ (n : Nat) (d : D) (v : V) (u : Value), keyOk n d = true → Rep X.K ι H d v → RelV v u → NestedIs s.heap (keyN d) u
  | n, .non, v, u, _, r, q => by cases r; cases q; exact .none
  | n, .int i, v, u, _, r, q => by cases r; obtain ⟨t, rfl⟩ := q; exact .int i t
  | n, .str i, v, u, _, r, q => by cases r; obtain ⟨t, rfl⟩ := q; exact .text i t
  | 0, .tup ds, v, u, h, _, _ => by simp [keyOk] at h
  | n + 1, .tup ds, v, u, h, r, q => by
    simp only [keyOk] at h
    obtain ⟨a, vs, rfl, ht, rs⟩ := r
    cases q
    obtain ⟨its, rv, ⟨o, ho, hc, m, hd⟩, _⟩ := I.tuple ht.sq
    exact .tup ho hc hd (by simpa using Reps.nested I n ds vs its h rs rv)
  | n, .bl i, v, u, h, _, _ => by cases n <;> simp [keyOk] at h
  | n, .ref i, v, u, h, _, _ => by cases n <;> simp [keyOk] at h
  | n, .fl i, v, u, h, _, _ => by cases n <;> simp [keyOk] at h
theorem Reps.nested (I : Inv X pins σ H s) : ∀ (n : Nat) (ds : List D) (vs : List V) (us : List Value), keysOk n ds = true → Reps X.K ι H ds vs → Vals vs us → NestedAll s.heap (keyNs ds) us
  | n, [], vs, us, _, r, q => by cases r; cases q; exact .nil
  | n, d :: ds, vs, us, h, r, q => by
    simp only [keysOk, Bool.and_eq_true] at h
    obtain ⟨v, vr, rfl, r1, r2⟩ := r
    cases q with
    | cons q1 q2 => exact .cons (Rep.nested I n d v _ h.1 r1 q1) (Reps.nested I n ds vr _ h.2 r2 q2)
end
theorem Rep.strict {P : Program} {w : World} {K : PySem.W.Frag} {n : Nat} {d : D} {v : V} {u : Value} (h : keyOk n d = true) (ht : d.isTup = false) (r : Rep K ι H d v) (q : RelV v u) : (strictKind P w).is (leafOf d) u = true := by
  cases d with
  | non => cases r; cases q; rfl
  | int i => cases r; obtain ⟨t, rfl⟩ := q; show (decide (i = i) && true) = true; simp
  | str i => cases r; obtain ⟨t, rfl⟩ := q; show (Value.isStrOf i (.str i t) && true) = true; simp [Value.isStrOf]
  | tup _ => simp [D.isTup] at ht
  | _ => cases n <;> simp [keyOk] at h
theorem Rep.tupRef {K : PySem.W.Frag} {d : D} {v : V} {u : Value} (ht : d.isTup = true) (r : Rep K ι H d v) (q : RelV v u) : ∃ b, v = .ref b ∧ u = .ref b := by
  cases d with
  | tup ds => obtain ⟨a, vs, rfl, _⟩ := r; cases q; exact ⟨a, rfl, rfl⟩
  | _ => simp [D.isTup] at ht
/-- from a key's value back: a strict leaf -/
theorem strict_back {P : Program} {w : World} {K : PySem.W.Frag} {n : Nat} {d : D} {u : Value} (h : keyOk n d = true) (ht : d.isTup = false) (e : (strictKind P w).is (leafOf d) u = true) : ∃ v, Rep K ι H d v ∧ RelV v u := by
  have e1 : Leaf.isOf (leafOf d) u = true := (Bool.and_eq_true_iff.mp e).1
  have e2 : notBool u = true := (Bool.and_eq_true_iff.mp e).2
  cases d with
  | non => cases u <;> first | exact ⟨.non, rfl, rfl⟩ | exact absurd e1 Bool.false_ne_true
  | int i =>
    cases u with
    | int j t =>
      have : j = i := of_decide_eq_true e1
      subst this
      exact ⟨.int j, rfl, t, rfl⟩
    | bool b => exact absurd e2 Bool.false_ne_true
    | _ => exact absurd e1 Bool.false_ne_true
  | str x =>
    obtain ⟨t, rfl⟩ := Value.isStrOf_shape (show Value.isStrOf x u = true from e1)
    exact ⟨.str x, rfl, t, rfl⟩
  | tup _ => simp [D.isTup] at ht
  | _ => cases n <;> simp [keyOk] at h
end

/-! ### entries -/
section
variable {K : PySem.W.Frag} {w : World} {P : Program} {ι : List Addr} {H : Hp}
def XR (K : PySem.W.Frag) (ι : List Addr) (H : Hp) (p : D × D) (x : NestedKey × Addr × Value) : Prop := x.1 = keyN p.1 ∧ Rep K ι H p.1 (.ref x.2.1) ∧ ∃ v, Rep K ι H p.2 v ∧ RelV v x.2.2
def LR (K : PySem.W.Frag) (ι : List Addr) (H : Hp) (p : D × D) (x : Leaf × Value) : Prop := x.1 = leafOf p.1 ∧ ∃ v, Rep K ι H p.2 v ∧ RelV v x.2
theorem ents_tup : ∀ {kvs : List (D × D)} {es : List DictEntry}, (∀ p ∈ kvs, p.1.isTup = true) → Paired (EntR K w ι H) kvs es → ∃ xs, es = xs.map (entryOfKey (nestedKind P w)) ∧ Paired (XR K ι H) kvs xs
  | [], _, _, .nil => ⟨[], rfl, .nil⟩
  | p :: kvs, _, ht, .cons (b := e) (l₂ := es) a r => by
    obtain ⟨xs, q1, q2⟩ := ents_tup (fun p hp => ht p (List.mem_cons_of_mem _ hp)) r
    obtain ⟨h1, ⟨v, k1, k2⟩, u, l1, l2⟩ := a
    obtain ⟨b, rfl, eb⟩ := k1.tupRef (ht p List.mem_cons_self) k2
    refine ⟨(keyN p.1, b, e.val) :: xs, ?_, .cons ⟨rfl, k1, u, l1, l2⟩ q2⟩
    rw [List.map_cons, q1]
    congr 1
    obtain ⟨x, y, z⟩ := e
    simp only at h1 eb
    subst h1 eb
    rfl
theorem ents_leaf : ∀ {kvs : List (D × D)} {es : List DictEntry}, (∀ p ∈ kvs, p.1.isTup = false ∧ keyOk 8 p.1 = true) → Paired (EntR K w ι H) kvs es →
    ∃ vs, (∀ e ∈ es, ∃ k, (strictKind P w).is k e.key = true ∧ e.hash = (strictKind P w).hash k) ∧ Pairs (strictKind P w) es vs ∧ Paired (LR K ι H) kvs vs
  | [], _, _, .nil => ⟨[], (fun _ h => nomatch h), .nil, .nil⟩
  | p :: kvs, _, ht, .cons (b := e) (l₂ := es) a r => by
    obtain ⟨vs, q1, q2, q3⟩ := ents_leaf (fun p hp => ht p (List.mem_cons_of_mem _ hp)) r
    obtain ⟨h1, ⟨v, k1, k2⟩, u, l1, l2⟩ := a
    obtain ⟨t1, t2⟩ := ht p List.mem_cons_self
    have hk : (strictKind P w).is (leafOf p.1) e.key = true := Rep.strict t2 t1 k1 k2
    refine ⟨(leafOf p.1, e.val) :: vs, fun x hx => ?_, .cons hk rfl q2, .cons ⟨rfl, u, l1, l2⟩ q3⟩
    rcases List.mem_cons.mp hx with rfl | hx
    · refine ⟨leafOf p.1, hk, ?_⟩
      rw [h1]
      show _ = (leafOf p.1).key.hash w
      rw [leafOf_key t1]
    · exact q1 x hx
theorem ents_tup_back : ∀ {kvs : List (D × D)} {xs : List (NestedKey × Addr × Value)}, Paired (XR K ι H) kvs xs → Paired (EntR K w ι H) kvs (xs.map (entryOfKey (nestedKind P w)))
  | [], _, .nil => .nil
  | p :: kvs, _, .cons (b := x) a r => by
    obtain ⟨h1, h2, h3⟩ := a
    refine .cons ⟨?_, ⟨_, h2, rfl⟩, h3⟩ (ents_tup_back r)
    show x.1.hash w = _
    rw [h1]
theorem ents_leaf_back : ∀ {kvs : List (D × D)} {es : List DictEntry} {vs : List (Leaf × Value)}, (∀ p ∈ kvs, p.1.isTup = false ∧ keyOk 8 p.1 = true) → (∀ e ∈ es, ∃ k, (strictKind P w).is k e.key = true ∧ e.hash = (strictKind P w).hash k) →
    Pairs (strictKind P w) es vs → Paired (LR K ι H) kvs vs → Paired (EntR K w ι H) kvs es := by
  intro kvs
  induction kvs with
  | nil =>
    intro es vs _ _ pp q
    cases q
    cases pp
    exact .nil
  | cons p kvs ih =>
    intro es vs ht hk pp q
    cases q with
    | cons a r =>
      cases pp with
      | cons k1 k2 k3 =>
        obtain ⟨h1, h2⟩ := a
        obtain ⟨t1, t2⟩ := ht p List.mem_cons_self
        rw [h1] at k1
        refine .cons ⟨?_, strict_back t2 t1 k1, by rw [k2]; exact h2⟩ (ih (fun p hp => ht p (List.mem_cons_of_mem _ hp)) (fun e he => hk e (List.mem_cons_of_mem _ he)) k3 r)
        obtain ⟨k, i1, i2⟩ := hk _ List.mem_cons_self
        have : k = leafOf p.1 := (strictKind P w).inj _ _ _ i1 k1
        subst this
        rw [i2]
        show (leafOf p.1).key.hash w = _
        rw [leafOf_key t1]
theorem paired_app {α β : Type} {F : α → β → Prop} : ∀ {l : List α} {m : List β} {l' : List α} {m' : List β}, Paired F l m → Paired F l' m' → Paired F (l ++ l') (m ++ m')
  | _, _, _, _, .nil, h => h
  | _, _, _, _, .cons a r, h => .cons a (paired_app r h)
theorem xr_at {d : D} (hd : keyOk 8 d = true) : ∀ {kvs : List (D × D)} {xs : List (NestedKey × Addr × Value)}, (∀ p ∈ kvs, keyOk 8 p.1 = true) → Paired (XR K ι H) kvs xs →
    (kvAt kvs d = none ∧ atKey xs (keyN d) = none) ∨ ∃ y q, kvAt kvs d = some y ∧ atKey xs (keyN d) = some q ∧ ∃ v, Rep K ι H y v ∧ RelV v q.2
  | [], _, _, .nil => .inl ⟨rfl, rfl⟩
  | p :: kvs, _, hk, .cons (b := x) a r => by
    obtain ⟨h1, h2, h3⟩ := a
    by_cases e : p.1 = d
    · refine .inr ⟨p.2, x.2, by simp [kvAt, List.find?_cons, e], by simp [atKey, List.find?_cons, h1, e], h3⟩
    · have e2 : ¬ x.1 = keyN d := fun z => e (keyN_inj 8 8 _ _ (hk p List.mem_cons_self) hd (h1.symm.trans z))
      have := xr_at hd (fun p hp => hk p (List.mem_cons_of_mem _ hp)) r
      simpa [kvAt, atKey, List.find?_cons, e, e2] using this
theorem lr_at {d : D} (hd : keyOk 8 d = true) (htd : d.isTup = false) : ∀ {kvs : List (D × D)} {xs : List (Leaf × Value)}, (∀ p ∈ kvs, p.1.isTup = false ∧ keyOk 8 p.1 = true) → Paired (LR K ι H) kvs xs →
    (kvAt kvs d = none ∧ valueAt xs (leafOf d) = none) ∨ ∃ y q, kvAt kvs d = some y ∧ valueAt xs (leafOf d) = some q ∧ ∃ v, Rep K ι H y v ∧ RelV v q
  | [], _, _, .nil => .inl ⟨rfl, rfl⟩
  | p :: kvs, _, hk, .cons (b := x) a r => by
    obtain ⟨h1, h3⟩ := a
    obtain ⟨t1, t2⟩ := hk p List.mem_cons_self
    by_cases e : p.1 = d
    · refine .inr ⟨p.2, x.2, by simp [kvAt, List.find?_cons, e], by simp [valueAt, List.find?_cons, h1, e], h3⟩
    · have e2 : ¬ x.1 = leafOf d := fun z => by
        refine e (keyN_inj 8 8 _ _ t2 hd ?_)
        rw [← leafOf_key t1, ← leafOf_key htd, ← h1, z]
      have := lr_at hd htd (fun p hp => hk p (List.mem_cons_of_mem _ hp)) r
      simpa [kvAt, valueAt, List.find?_cons, e, e2] using this
theorem xr_any {d : D} (hd : keyOk 8 d = true) : ∀ {kvs : List (D × D)} {xs : List (NestedKey × Addr × Value)}, (∀ p ∈ kvs, keyOk 8 p.1 = true) → Paired (XR K ι H) kvs xs →
    (kvs.any fun p => decide (p.1 = d)) = (atKey xs (keyN d)).isSome
  | [], _, _, .nil => rfl
  | p :: kvs, _, hk, .cons (b := x) a r => by
    obtain ⟨h1, h2, h3⟩ := a
    by_cases e : p.1 = d
    · simp [atKey, List.find?_cons, h1, e]
    · have e2 : ¬ x.1 = keyN d := fun z => e (keyN_inj 8 8 _ _ (hk p List.mem_cons_self) hd (h1.symm.trans z))
      have := xr_any hd (fun p hp => hk p (List.mem_cons_of_mem _ hp)) r
      simpa [atKey, List.find?_cons, e, e2] using this
theorem xr_map {d y : D} {u : Value} {v : V} (hd : keyOk 8 d = true) (r1 : Rep K ι H y v) (r2 : RelV v u) : ∀ {kvs : List (D × D)} {xs : List (NestedKey × Addr × Value)}, (∀ p ∈ kvs, keyOk 8 p.1 = true) → Paired (XR K ι H) kvs xs →
    Paired (XR K ι H) (kvs.map fun p => if p.1 = d then (p.1, y) else p) (xs.map (putAt (keyN d) u))
  | [], _, _, .nil => .nil
  | p :: kvs, _, hk, .cons (b := x) a r => by
    refine .cons ?_ (xr_map hd r1 r2 (fun p hp => hk p (List.mem_cons_of_mem _ hp)) r)
    obtain ⟨h1, h2, h3⟩ := a
    by_cases e : p.1 = d
    · show XR K ι H (if p.1 = d then (p.1, y) else p) _
      rw [if_pos e]
      unfold putAt
      rw [if_pos (by rw [h1, e])]
      exact ⟨h1, h2, v, r1, r2⟩
    · have e2 : ¬ x.1 = keyN d := fun z => e (keyN_inj 8 8 _ _ (hk p List.mem_cons_self) hd (h1.symm.trans z))
      show XR K ι H (if p.1 = d then (p.1, y) else p) _
      rw [if_neg e]
      unfold putAt
      rw [if_neg e2]
      exact ⟨h1, h2, h3⟩
theorem xr_put {d y : D} {b : Addr} {u : Value} {v : V} (hd : keyOk 8 d = true) (rk : Rep K ι H d (.ref b)) (r1 : Rep K ι H y v) (r2 : RelV v u) {kvs : List (D × D)} {xs : List (NestedKey × Addr × Value)} (hk : ∀ p ∈ kvs, keyOk 8 p.1 = true) (r : Paired (XR K ι H) kvs xs) :
    Paired (XR K ι H) (kvPut kvs d y) (storedH xs (keyN d) b u) := by
  unfold kvPut storedH
  rw [xr_any hd hk r]
  by_cases c : (atKey xs (keyN d)).isSome = true
  · rw [if_pos c, if_pos c]; exact xr_map hd r1 r2 hk r
  · rw [if_neg c, if_neg c]
    exact paired_app r (.cons ⟨rfl, rk, v, r1, r2⟩ .nil)
theorem lr_any {d : D} (hd : keyOk 8 d = true) (htd : d.isTup = false) : ∀ {kvs : List (D × D)} {xs : List (Leaf × Value)}, (∀ p ∈ kvs, p.1.isTup = false ∧ keyOk 8 p.1 = true) → Paired (LR K ι H) kvs xs →
    (kvs.any fun p => decide (p.1 = d)) = (xs.any fun kv => decide (kv.1 = leafOf d))
  | [], _, _, .nil => rfl
  | p :: kvs, _, hk, .cons (b := x) a r => by
    obtain ⟨h1, h3⟩ := a
    obtain ⟨t1, t2⟩ := hk p List.mem_cons_self
    by_cases e : p.1 = d
    · simp [h1, e]
    · have e2 : ¬ x.1 = leafOf d := fun z => by
        refine e (keyN_inj 8 8 _ _ t2 hd ?_)
        rw [← leafOf_key t1, ← leafOf_key htd, ← h1, z]
      have := lr_any hd htd (fun p hp => hk p (List.mem_cons_of_mem _ hp)) r
      simpa [e, e2] using this
theorem lr_map {d y : D} {u : Value} {v : V} (hd : keyOk 8 d = true) (htd : d.isTup = false) (r1 : Rep K ι H y v) (r2 : RelV v u) : ∀ {kvs : List (D × D)} {xs : List (Leaf × Value)}, (∀ p ∈ kvs, p.1.isTup = false ∧ keyOk 8 p.1 = true) → Paired (LR K ι H) kvs xs →
    Paired (LR K ι H) (kvs.map fun p => if p.1 = d then (p.1, y) else p) (xs.map fun kv => if kv.1 = leafOf d then (kv.1, u) else kv)
  | [], _, _, .nil => .nil
  | p :: kvs, _, hk, .cons (b := x) a r => by
    refine .cons ?_ (lr_map hd htd r1 r2 (fun p hp => hk p (List.mem_cons_of_mem _ hp)) r)
    obtain ⟨h1, h3⟩ := a
    obtain ⟨t1, t2⟩ := hk p List.mem_cons_self
    by_cases e : p.1 = d
    · show LR K ι H (if p.1 = d then (p.1, y) else p) (if x.1 = leafOf d then (x.1, u) else x)
      rw [if_pos e, if_pos (by rw [h1, e])]
      exact ⟨h1, v, r1, r2⟩
    · have e2 : ¬ x.1 = leafOf d := fun z => by
        refine e (keyN_inj 8 8 _ _ t2 hd ?_)
        rw [← leafOf_key t1, ← leafOf_key htd, ← h1, z]
      show LR K ι H (if p.1 = d then (p.1, y) else p) (if x.1 = leafOf d then (x.1, u) else x)
      rw [if_neg e, if_neg e2]
      exact ⟨h1, h3⟩
theorem lr_put {d y : D} {u : Value} {v : V} (hd : keyOk 8 d = true) (htd : d.isTup = false) (r1 : Rep K ι H y v) (r2 : RelV v u) {kvs : List (D × D)} {xs : List (Leaf × Value)} (hk : ∀ p ∈ kvs, p.1.isTup = false ∧ keyOk 8 p.1 = true) (r : Paired (LR K ι H) kvs xs) :
    Paired (LR K ι H) (kvPut kvs d y) (stored xs (leafOf d) u) := by
  unfold kvPut stored
  rw [lr_any hd htd hk r]
  by_cases c : (xs.any fun kv => decide (kv.1 = leafOf d)) = true
  · rw [if_pos c, if_pos c]; exact lr_map hd htd r1 r2 hk r
  · rw [if_neg c, if_neg c]
    exact paired_app r (.cons ⟨rfl, v, r1, r2⟩ .nil)
theorem kvPut_len (kvs : List (D × D)) (k v : D) : (kvPut kvs k v).length ≤ kvs.length + 1 := by
  unfold kvPut
  split <;> simp
theorem kvPut_mem {kvs : List (D × D)} {k v : D} {p : D × D} (h : p ∈ kvPut kvs k v) : p.1 = k ∨ ∃ q ∈ kvs, q.1 = p.1 := by
  unfold kvPut at h
  split at h
  · obtain ⟨q, hq, rfl⟩ := List.mem_map.mp h
    by_cases e : q.1 = k
    · rw [if_pos e]; exact .inl e
    · rw [if_neg e]; exact .inr ⟨q, hq, rfl⟩
  · rcases List.mem_append.mp h with h | h
    · exact .inr ⟨p, h, rfl⟩
    · rw [List.mem_singleton.mp h]; exact .inl rfl
theorem kvPut_nodup {kvs : List (D × D)} {k v : D} (h : (kvs.map (·.1)).Nodup) : ((kvPut kvs k v).map (·.1)).Nodup := by
  unfold kvPut
  split
  · have : (kvs.map fun p => if p.1 = k then (p.1, v) else p).map (·.1) = kvs.map (·.1) := by
      rw [List.map_map]
      refine List.map_congr_left fun p _ => ?_
      by_cases e : p.1 = k <;> simp [e]
    rw [this]; exact h
  · rename_i c
    rw [List.map_append, List.nodup_append]
    refine ⟨h, by simp, fun a ha b hb => ?_⟩
    simp at hb
    subst hb
    rintro rfl
    obtain ⟨p, hp, e⟩ := List.mem_map.mp ha
    exact c (List.any_eq_true.mpr ⟨p, hp, decide_eq_true e⟩)
theorem kvFits_ok {kvs : List (D × D)} {k v : D} (h : KvOk kvs) (f : kvFits kvs k = true) : KvOk (kvPut kvs k v) := by
  unfold kvFits at f
  rw [Bool.and_eq_true, List.all_eq_true] at f
  refine ⟨kvPut_nodup h.1, fun p hp => ?_, fun p hp q hq => ?_⟩
  · rcases kvPut_mem hp with e | ⟨q, hq, e⟩
    · rw [e]; exact f.1
    · rw [← e]; exact h.2.1 q hq
  · have key : ∀ p ∈ kvPut kvs k v, p.1.isTup = k.isTup := fun p hp => by
      rcases kvPut_mem hp with e | ⟨q, hq, e⟩
      · rw [e]
      · rw [← e]; exact eq_of_beq (f.2 q hq)
    rw [key p hp, key q hq]
end
end BT

/-! What is done with dicts. -/
namespace BT
open PySem PySem.Spec PyProof.Rows L2

section
variable {X : Cx} {pins : List (Addr × Obj)} {σ : L2.St} {H : Hp} {s : Shared} {ι : List Addr} {a : Addr} {u : HO} {kvs : List (D × D)} {d : D} {v : V} {uv : Value} {A : Around} {E : Value → Shared → Prop}
theorem dct_raw (I : Inv X pins σ H s) (e : Rd H a u) (r : DctR X.K X.w ι H a kvs u) :
    ∃ es ep, u = .ext (fun h => h.DictRaw a es ep) ∧ s.heap.DictRaw a es ep ∧ (a == sysModules) = false ∧ kvs.length ≤ sizeLine ∧ KvOk kvs ∧ Paired (EntR X.K X.w ι H) kvs es.toList := by
  obtain ⟨es, ep, rfl, h1, h2, h3, h4⟩ := r
  have ok : ObjOk X.prog X.w H s.heap a (.ext fun h => h.DictRaw a es ep) := e.ok I.hok
  exact ⟨es, ep, rfl, ok.1, h1, h2, h3, h4⟩
theorem paired_map_eq {α β γ : Type} {F : α → β → Prop} (f : α → γ) (g : β → γ) (h : ∀ a b, F a b → g b = f a) : ∀ {l : List α} {m : List β}, Paired F l m → m.map g = l.map f
  | _, _, .nil => rfl
  | _, _, .cons a r => by rw [List.map_cons, List.map_cons, h _ _ a, paired_map_eq f g h r]
theorem paired_mem {α β : Type} {F : α → β → Prop} : ∀ {l : List α} {m : List β}, Paired F l m → ∀ b ∈ m, ∃ a ∈ l, F a b
  | _, _, .nil, _, h => nomatch h
  | _, _, .cons a r, b, h => by
    rcases List.mem_cons.mp h with rfl | h
    · exact ⟨_, List.mem_cons_self, a⟩
    · obtain ⟨x, hx, q⟩ := paired_mem r b h
      exact ⟨x, List.mem_cons_of_mem _ hx, q⟩
theorem nodup_of_inj {f : D → NestedKey} (hf : ∀ a b, keyOk 8 a = true → keyOk 8 b = true → f a = f b → a = b) : ∀ {l : List (D × D)}, (∀ p ∈ l, keyOk 8 p.1 = true) → (l.map (·.1)).Nodup → (l.map fun p => f p.1).Nodup
  | [], _, _ => List.nodup_nil
  | p :: l, hk, h => by
    rw [List.map_cons, List.nodup_cons] at h ⊢
    refine ⟨fun hm => h.1 ?_, nodup_of_inj hf (fun q hq => hk q (List.mem_cons_of_mem _ hq)) h.2⟩
    obtain ⟨q, hq, e⟩ := List.mem_map.mp hm
    have := hf _ _ (hk q (List.mem_cons_of_mem _ hq)) (hk p List.mem_cons_self) e
    exact List.mem_map.mpr ⟨q, hq, this⟩
theorem nodup_of_injL {f : D → Leaf} : ∀ {l : List (D × D)}, (∀ p ∈ l, ∀ q ∈ l, f p.1 = f q.1 → p.1 = q.1) → (l.map (·.1)).Nodup → (l.map fun p => f p.1).Nodup
  | [], _, _ => List.nodup_nil
  | p :: l, hk, h => by
    rw [List.map_cons, List.nodup_cons] at h ⊢
    refine ⟨fun hm => h.1 ?_, nodup_of_injL (fun q hq r hr => hk q (List.mem_cons_of_mem _ hq) r (List.mem_cons_of_mem _ hr)) h.2⟩
    obtain ⟨q, hq, e⟩ := List.mem_map.mp hm
    exact List.mem_map.mpr ⟨q, hq, hk q (List.mem_cons_of_mem _ hq) p List.mem_cons_self e⟩
theorem dct_tup (I : Inv X pins σ H s) {es : Array DictEntry} {ep : Nat} (raw : s.heap.DictRaw a es ep) (ok : KvOk kvs) (ht : ∀ p ∈ kvs, p.1.isTup = true) (r : Paired (EntR X.K X.w ι H) kvs es.toList) :
    ∃ xs, s.heap.DictOfH (nestedKind X.prog X.w) a xs ∧ Paired (XR X.K ι H) kvs xs := by
  obtain ⟨xs, q1, q2⟩ := ents_tup (P := X.prog) ht r
  obtain ⟨o, h1, h2, h3⟩ := raw
  refine ⟨xs, ⟨o, es, ep, h1, h2, h3, q1, fun x hx => ?_, ?_⟩, q2⟩
  · obtain ⟨p, hp, e1, e2, _⟩ := paired_mem q2 x hx
    rw [e1]
    exact ⟨Rep.nested I 8 p.1 _ _ (ok.2.1 p hp) e2 rfl, keyN_depth 8 p.1 (ok.2.1 p hp)⟩
  · rw [paired_map_eq (F := XR X.K ι H) (fun p => keyN p.1) (·.1) (fun a b z => z.1) q2]
    exact nodup_of_inj (fun a b ha hb e => keyN_inj 8 8 a b ha hb e) ok.2.1 ok.1
theorem dct_leaf (I : Inv X pins σ H s) {es : Array DictEntry} {ep : Nat} (raw : s.heap.DictRaw a es ep) (ok : KvOk kvs) (ht : ∀ p ∈ kvs, p.1.isTup = false) (r : Paired (EntR X.K X.w ι H) kvs es.toList) :
    ∃ vs, s.heap.DictOf (strictKind X.prog X.w) a vs ∧ Paired (LR X.K ι H) kvs vs := by
  obtain ⟨vs, q1, q2, q3⟩ := ents_leaf (P := X.prog) (fun p hp => ⟨ht p hp, ok.2.1 p hp⟩) r
  obtain ⟨o, h1, h2, h3⟩ := raw
  refine ⟨vs, ⟨o, es, ep, h1, h2, h3, fun e he => q1 e (by simpa using he), q2, ?_⟩, q3⟩
  rw [paired_map_eq (F := LR X.K ι H) (fun p => leafOf p.1) (·.1) (fun a b z => z.1) q3]
  refine nodup_of_injL (fun p hp q hq e => keyN_inj 8 8 _ _ (ok.2.1 p hp) (ok.2.1 q hq) ?_) ok.1
  rw [← leafOf_key (ht p hp), ← leafOf_key (ht q hq), e]
/-- the two kinds of dict, at a key that fits -/
theorem dct_two (I : Inv X pins σ H s) (e : Rd H a u) (r : DctR X.K X.w ι H a kvs u) (f : kvFits kvs d = true) (rd : Rep X.K ι H d v) (rv : RelV v uv) :
    (a == sysModules) = false ∧ kvs.length ≤ sizeLine ∧ KvOk kvs ∧ keyOk 8 d = true ∧
      ((d.isTup = true ∧ (∀ p ∈ kvs, p.1.isTup = true) ∧ ∃ b xs, uv = .ref b ∧ Rep X.K ι H d (.ref b) ∧ (nestedKind X.prog X.w).is s.heap (keyN d) b ∧ s.heap.DictOfH (nestedKind X.prog X.w) a xs ∧ Paired (XR X.K ι H) kvs xs) ∨
       (d.isTup = false ∧ (∀ p ∈ kvs, p.1.isTup = false ∧ keyOk 8 p.1 = true) ∧ (strictKind X.prog X.w).is (leafOf d) uv = true ∧ ∃ vs, s.heap.DictOf (strictKind X.prog X.w) a vs ∧ Paired (LR X.K ι H) kvs vs)) := by
  obtain ⟨es, ep, _, raw, h1, h2, ok, pr⟩ := dct_raw I e r
  unfold kvFits at f
  rw [Bool.and_eq_true, List.all_eq_true] at f
  refine ⟨h1, h2, ok, f.1, ?_⟩
  cases ht : d.isTup with
  | true =>
    have all : ∀ p ∈ kvs, p.1.isTup = true := fun p hp => (eq_of_beq (f.2 p hp)).trans ht
    obtain ⟨b, rfl, rfl⟩ := rd.tupRef ht rv
    obtain ⟨xs, q1, q2⟩ := dct_tup I raw ok all pr
    exact .inl ⟨rfl, all, b, xs, rfl, rd, ⟨Rep.nested I 8 d _ _ f.1 rd rfl, keyN_depth 8 d f.1⟩, q1, q2⟩
  | false =>
    have all : ∀ p ∈ kvs, p.1.isTup = false := fun p hp => (eq_of_beq (f.2 p hp)).trans ht
    obtain ⟨vs, q1, q2⟩ := dct_leaf I raw ok all pr
    exact .inr ⟨rfl, fun p hp => ⟨all p hp, ok.2.1 p hp⟩, Rep.strict f.1 ht rd rv, vs, q1, q2⟩
theorem room_in1 {A : Around} (hu : A.units + 16 < cLine) : (nestedKind X.prog X.w).room A.in1 := by
  show A.units + 1 + 8 < cLine
  omega
theorem some_none {α : Type} {o : Option α} {p : Option α} (h : (o = none ∧ p = none) ∨ ∃ y q, o = some y ∧ p = some q) : o.isSome = p.isSome := by
  rcases h with ⟨rfl, rfl⟩ | ⟨_, _, rfl, rfl⟩ <;> rfl

theorem dct_in {Q : Value → Shared → Prop} (hu : A.units + 16 < cLine) (I : Inv X pins σ H s) (e : Rd H a u) (r : DctR X.K X.w ι H a kvs u) (f : kvFits kvs d = true) (rd : Rep X.K ι H d v) (rv : RelV v uv)
    (h : ∀ s', Inv X pins σ H s' → Q (.bool (kvAt kvs d).isSome) s') : wpAny (model X.prog X.w) A (compareOp .In uv (.ref a)) Q E s := by
  obtain ⟨h1, h2, ok, hk, ⟨_, _, b, xs, rfl, _, is, dd, pr⟩ | ⟨ht, hl, is, vs, dd, pr⟩⟩ := dct_two I e r f rd rv
  · refine wpAny_in_heap (room_in1 hu) is h1 dd ?_
    have q : (kvAt kvs d).isSome = (atKey xs (keyN d)).isSome := by
      rcases xr_at hk ok.2.1 pr with ⟨e1, e2⟩ | ⟨y, q, e1, e2, _⟩ <;> rw [e1, e2] <;> rfl
    rw [← q]
    exact h _ (I.tok _)
  · refine wpAny_in_of is h1 dd.mapOf ?_
    have q : (kvAt kvs d).isSome = (valueAt vs (leafOf d)).isSome := by
      rcases lr_at hk ht hl pr with ⟨e1, e2⟩ | ⟨y, q, e1, e2, _⟩ <;> rw [e1, e2] <;> rfl
    rw [← q]
    exact h _ (I.tok _)
theorem dct_notIn {Q : Value → Shared → Prop} (hu : A.units + 16 < cLine) (I : Inv X pins σ H s) (e : Rd H a u) (r : DctR X.K X.w ι H a kvs u) (f : kvFits kvs d = true) (rd : Rep X.K ι H d v) (rv : RelV v uv)
    (h : ∀ s', Inv X pins σ H s' → Q (.bool (!(kvAt kvs d).isSome)) s') : wpAny (model X.prog X.w) A (compareOp .NotIn uv (.ref a)) Q E s := by
  obtain ⟨h1, h2, ok, hk, ⟨_, _, b, xs, rfl, _, is, dd, pr⟩ | ⟨ht, hl, is, vs, dd, pr⟩⟩ := dct_two I e r f rd rv
  · refine wpAny_notIn_heap (room_in1 hu) is h1 dd ?_
    have q : (kvAt kvs d).isSome = (atKey xs (keyN d)).isSome := by
      rcases xr_at hk ok.2.1 pr with ⟨e1, e2⟩ | ⟨y, q, e1, e2, _⟩ <;> rw [e1, e2] <;> rfl
    rw [← q]
    exact h _ (I.tok _)
  · refine wpAny_notIn_of is h1 dd.mapOf ?_
    have q : (kvAt kvs d).isSome = (valueAt vs (leafOf d)).isSome := by
      rcases lr_at hk ht hl pr with ⟨e1, e2⟩ | ⟨y, q, e1, e2, _⟩ <;> rw [e1, e2] <;> rfl
    rw [← q]
    exact h _ (I.tok _)
theorem dct_getItem {y : D} {Q : Value → Shared → Prop} (hu : A.units + 16 < cLine) (I : Inv X pins σ H s) (e : Rd H a u) (r : DctR X.K X.w ι H a kvs u) (f : kvFits kvs d = true) (rd : Rep X.K ι H d v) (rv : RelV v uv) (hy : kvAt kvs d = some y)
    (h : ∀ v' w' s', Inv X pins σ H s' → Rep X.K ι H y v' → RelV v' w' → Q w' s') : wpAny (model X.prog X.w) A (getItem (.ref a) uv) Q E s := by
  obtain ⟨h1, h2, ok, hk, ⟨_, _, b, xs, rfl, _, is, dd, pr⟩ | ⟨ht, hl, is, vs, dd, pr⟩⟩ := dct_two I e r f rd rv
  · rcases xr_at hk ok.2.1 pr with ⟨e1, e2⟩ | ⟨y', q, e1, e2, v', r1, r2⟩
    · rw [hy] at e1; cases e1
    · rw [hy] at e1; cases e1
      exact wpAny_getItem_heap (room_in1 hu) is dd e2 (h v' _ _ (I.tok _) r1 r2)
  · rcases lr_at hk ht hl pr with ⟨e1, e2⟩ | ⟨y', q, e1, e2, v', r1, r2⟩
    · rw [hy] at e1; cases e1
    · rw [hy] at e1; cases e1
      exact wpAny_getItem_of is dd.mapOf e2 (h v' _ _ (I.tok _) r1 r2)
theorem dct_typeIs (I : Inv X pins σ H s) (e : Rd H a u) (r : DctR X.K X.w ι H a kvs u) : s.TypeIs (.ref a) "dict" ∧ (∀ b, Value.ref a = .ref b → ∃ ob, s.heap.get? b = some ob ∧ ob.dict = none) := by
  obtain ⟨es, ep, _, raw, _⟩ := dct_raw I e r
  refine ⟨raw.typeIs, fun b q => ?_⟩
  cases q
  obtain ⟨o, h1, h2, _⟩ := raw
  exact ⟨o, h1, h2.2.1⟩
theorem dct_get2 {x : D} {xv : V} {xu : Value} {Q : Value → Shared → Prop} (hu : A.units + 16 < cLine) (I : Inv X pins σ H s) (e : Rd H a u) (r : DctR X.K X.w ι H a kvs u) (f : kvFits kvs d = true) (rd : Rep X.K ι H d v) (rv : RelV v uv)
    (rx : Rep X.K ι H x xv) (rxu : RelV xv xu) (h : ∀ v' w' s', Inv X pins σ H s' → Rep X.K ι H ((kvAt kvs d).getD x) v' → RelV v' w' → Q w' s') : wpAny (model X.prog X.w) A (call (.builtin "dict.get") [.ref a, uv, xu]) Q E s := by
  obtain ⟨h1, h2, ok, hk, ⟨_, _, b, xs, rfl, _, is, dd, pr⟩ | ⟨ht, hl, is, vs, dd, pr⟩⟩ := dct_two I e r f rd rv
  · rcases xr_at hk ok.2.1 pr with ⟨e1, e2⟩ | ⟨y', q, e1, e2, v', r1, r2⟩
    · refine call_meetsIn PySem.F.slot_dict_get dd.typeIs PySem.F.entry_dict_get (PySem.F.args_dict_get_3 _ _ _) (meetsH_dict_get_default (nestedKind X.prog X.w) a b h1 xu) ⟨room_in1 hu, keyN d, xs, is, dd, h xv _ _ (I.tok _) (by rw [e1]; exact rx) ?_⟩
      rw [e2]; exact rxu
    · refine call_meetsIn PySem.F.slot_dict_get dd.typeIs PySem.F.entry_dict_get (PySem.F.args_dict_get_3 _ _ _) (meetsH_dict_get_default (nestedKind X.prog X.w) a b h1 xu) ⟨room_in1 hu, keyN d, xs, is, dd, h v' _ _ (I.tok _) (by rw [e1]; exact r1) ?_⟩
      rw [e2]; exact r2
  · rcases lr_at hk ht hl pr with ⟨e1, e2⟩ | ⟨y', q, e1, e2, v', r1, r2⟩
    · refine call_meetsIn PySem.F.slot_dict_get dd.typeIs PySem.F.entry_dict_get (PySem.F.args_dict_get_3 _ _ _) (meets_dict_get_default (strictKind X.prog X.w) a is h1 xu) ⟨_, dd.mapOf, h xv _ _ (I.tok _) (by rw [e1]; exact rx) ?_⟩
      rw [e2]; exact rxu
    · refine call_meetsIn PySem.F.slot_dict_get dd.typeIs PySem.F.entry_dict_get (PySem.F.args_dict_get_3 _ _ _) (meets_dict_get_default (strictKind X.prog X.w) a is h1 xu) ⟨_, dd.mapOf, h v' _ _ (I.tok _) (by rw [e1]; exact r1) ?_⟩
      rw [e2]; exact r2
/-- the reading of a dict that stands raw -/
theorem dct_is {H' : Hp} {h' : Heap} {es : Array DictEntry} {ep : Nat} (raw : h'.DictRaw a es ep) : ObjOk X.prog X.w H' h' a (.ext fun h => h.DictRaw a es ep) :=
  ⟨raw, let ⟨o, q, _⟩ := raw; ⟨o, q⟩, fun _ _ x k => x.at k⟩
theorem entR_other {p : D × D} {en : DictEntry} {o : HO} (hn : ∀ xs, H a ≠ some (.tup xs)) (hf : ∀ x y, H a ≠ some (.frz x y)) (ha : a ∈ ι) (h : EntR X.K X.w ι H p en) : EntR X.K X.w ι (upd H a o) p en :=
  h.grow ⟨List.prefix_refl _, fun b x n q => by rw [upd_ne (fun z => n (by rw [z]; exact ha))]; exact q, fun b xs q => by rw [upd_ne (fun z => hn xs (by rw [← z]; exact q))]; exact q, fun b x y q => by rw [upd_ne (fun z => hf x y (by rw [← z]; exact q))]; exact q, fun _ q n => absurd q n⟩
theorem dct_setItem {y : D} {yv : V} {yu : Value} {Q : Unit → Shared → Prop} (hu : A.units + 16 < cLine) (I : Inv X pins σ H s) (e : H a = some u) (ha : a ∈ ι) (r : DctR X.K X.w ι H a kvs u) (f : kvFits kvs d = true) (hz : kvs.length + 1 ≤ sizeLine) (rd : Rep X.K ι H d v) (rv : RelV v uv)
    (ry : Rep X.K ι H y yv) (ryu : RelV yv yu) (h : ∀ u' s', Inv X pins σ (upd H a u') s' → DctR X.K X.w ι (upd H a u') a (kvPut kvs d y) u' → Q () s') : wpAny (model X.prog X.w) A (setItem (.ref a) uv yu) Q E s := by
  obtain ⟨es0, ep0, eu, _⟩ := dct_raw I (.inl e) r
  have hnt : ∀ xs, H a ≠ some (.tup xs) := fun xs q => by rw [e, eu] at q; cases q
  have hnf : ∀ x z, H a ≠ some (.frz x z) := fun x z q => by rw [e, eu] at q; cases q
  have mu : Mut (H a) := by rw [e, eu]; trivial
  obtain ⟨h1, h2, ok, hk, ⟨ht, hl, b, xs, rfl, rb, is, dd, pr⟩ | ⟨ht, hl, is, vs, dd, pr⟩⟩ := dct_two I (.inl e) r f rd rv
  · refine wpAny_setItem_heap (hsz := by rw [← Paired.length pr]; exact h2) (room_in1 hu) is dd fun h' dd' hs => ?_
    obtain ⟨o, es, ep, q1, q2, q3, q4, q5, q6⟩ := dd'
    refine h (.ext fun h => h.DictRaw a es ep) _ (d_write I mu hs ⟨o, q1⟩ (dct_is ⟨o, q1, q2, q3⟩)) ⟨es, ep, rfl, h1, Nat.le_trans (kvPut_len _ _ _) hz, kvFits_ok ok f, ?_⟩
    rw [q4]
    exact Paired.mapP (ents_tup_back (xr_put hk rb ry ryu ok.2.1 pr)) fun _ _ z => entR_other hnt hnf ha z
  · refine wpAny_setItem_pairs (hsz := by rw [← Paired.length pr]; exact h2) is dd fun h' dd' hs => ?_
    obtain ⟨o, es, ep, q1, q2, q3, q4, q5, q6⟩ := dd'
    refine h (.ext fun h => h.DictRaw a es ep) _ (d_write I mu hs ⟨o, q1⟩ (dct_is ⟨o, q1, q2, q3⟩)) ⟨es, ep, rfl, h1, Nat.le_trans (kvPut_len _ _ _) hz, kvFits_ok ok f, ?_⟩
    have all : ∀ p ∈ kvPut kvs d y, p.1.isTup = false ∧ keyOk 8 p.1 = true := fun p hp => by
      rcases kvPut_mem hp with q | ⟨z, hz, q⟩
      · rw [q]; exact ⟨ht, hk⟩
      · rw [← q]; exact hl z hz
    exact Paired.mapP (ents_leaf_back (P := X.prog) all (fun en he => q4 en (by simpa using he)) q5 (lr_put hk ht ry ryu hl pr)) fun _ _ z => entR_other hnt hnf ha z
theorem dct_len {Q : Value → Shared → Prop} (I : Inv X pins σ H s) (e : Rd H a u) (r : DctR X.K X.w ι H a kvs u) (h : ∀ t s', Inv X pins σ H s' → Q (.int kvs.length t) s') : wpAny (model X.prog X.w) A (call (.builtin "len") [.ref a]) Q E s := by
  obtain ⟨es, ep, _, raw, h1, h2, ok, pr⟩ := dct_raw I e r
  have hl : es.size = kvs.length := by rw [Paired.length pr]; simp
  refine PyProof.Rows.call_len_slot (n := kvs.length) raw.typeIs PySem.F.slot_dict_len (fun Q' hq => call_len_raw h1 raw (by rw [hl]; exact hq)) (by omega) (by rw [sizeLine_eq] at h2; omega) ?_
  exact h _ _ (I.tok _)
end
end BT

/-! Comparisons, truth. -/
namespace BT
open PySem PySem.Spec PyProof.Rows L2

section
variable {K : PySem.W.Frag} {w : World} {ι : List Addr} {H : Hp} {M : Sto} {Xf : Str → Hp → Prop} {Q : V → Hp → Prop}
mutual
theorem pdD_dp {g : Nat → Option PyData} (hg : ∀ k p v, g k = some p → Rep K ι H (.ref k) v → Dp K H v p) : ∀ (d : D) (v : V) (p : PyData), pdD g d = some p → Rep K ι H d v → Dp K H v p
  | .non, _, _, e, r => by cases r; cases e; exact .non
  | .bl b, _, _, e, r => by cases r; cases e; exact .bl b
  | .int i, _, _, e, r => by cases r; cases e; exact .int i
  | .str x, _, _, e, r => by cases r; cases e; exact .str x
  | .tup ds, v, p, e, r => by
    obtain ⟨a, vs, rfl, h, rs⟩ := r
    simp only [pdD, Option.map_eq_some_iff] at e
    obtain ⟨ps, e1, rfl⟩ := e
    exact .tup h.sq (pdDs_dp hg ds vs ps e1 rs)
  | .ref k, v, p, e, r => hg k p v e r
  | .fl _, _, _, e, _ => by simp [pdD] at e
theorem pdDs_dp {g : Nat → Option PyData} (hg : ∀ k p v, g k = some p → Rep K ι H (.ref k) v → Dp K H v p) : ∀ (ds : List D) (vs : List V) (ps : List PyData), pdDs g ds = some ps → Reps K ι H ds vs → DpAll K H vs ps
  | [], _, _, e, r => by cases r; cases e; exact .nil
  | d :: ds, vs, ps, e, r => by
    obtain ⟨v, vr, rfl, r1, r2⟩ := r
    simp only [pdDs] at e
    cases e1 : pdD g d with
    | none => rw [e1] at e; cases e
    | some p =>
      cases e2 : pdDs g ds with
      | none => rw [e1, e2] at e; cases e
      | some qs =>
        rw [e1, e2] at e
        cases e
        exact .cons (pdD_dp hg d v p e1 r1) (pdDs_dp hg ds vr qs e2 r2)
end
theorem pdg_dp (S : StRep K w ι H M) : ∀ (n k : Nat) (p : PyData) (v : V), pdg M n k = some p → Rep K ι H (.ref k) v → Dp K H v p
  | 0, _, _, _, e, _ => by cases e
  | n + 1, k, p, v, e, r => by
    simp only [pdg] at e
    split at e
    · rename_i ds em
      simp only [Option.map_eq_some_iff] at e
      obtain ⟨ps, e1, rfl⟩ := e
      obtain ⟨a, vs, rfl, _, ha, rs⟩ := S.lst r em
      exact .lst (.of ha) (pdDs_dp (fun k p v q r => pdg_dp S n k p v q r) ds vs ps e1 rs)
    · cases e
theorem pdv_dp (S : StRep K w ι H M) {d : D} {v : V} {p : PyData} (e : pdv M d = some p) (r : Rep K ι H d v) : Dp K H v p := pdD_dp (fun k p v q r => pdg_dp S 3 k p v q r) d v p e r
theorem RC.opt {α : Type} {f : α → D} {o : Option α} (h : RC K w (Rep K) Xf ι H (Rs.of M (o.map f)) Q) : ∃ b, o = some b ∧ RC K w (Rep K) Xf ι H (.ok (f b) M) Q := by
  cases o with
  | none => exact h.elim
  | some b => exact ⟨b, rfl, h⟩
theorem RC.bl (S : StRep K w ι H M) {b : Bool} (h : RC K w (Rep K) Xf ι H (.ok (.bl b) M) Q) : Q (.bl b) H := h.here S rfl
def cmO : Cm → CmpOp
  | .eq => .Eq | .ne => .NotEq | .lt => .Lt | .le => .LtE | .gt => .Gt | .ge => .GtE | .isin => .In | .nin => .NotIn | .is_ => .Is | .isn => .IsNot
def rCmp (K : PySem.W.Frag) (w : World) (c : Cm) : R2 := fun x y H Q => ∃ ι M a b Xf, StRep K w ι H M ∧ Rep K ι H a x ∧ Rep K ι H b y ∧ RC K w (Rep K) Xf ι H (Rs.of M ((cmpD M c a b).map .bl)) Q
theorem scal_ok {a b : D} {x y : V} (h : scalD a b = true) (ra : Rep K ι H a x) (rb : Rep K ι H b y) : scal x y = true ∧ decide (a = b) = decide (x = y) := by
  cases a <;> cases b <;> first
    | (simp [scalD] at h; done)
    | (cases ra; cases rb; exact ⟨rfl, by simp⟩)
theorem flat_ok {a : D} {x : V} (h : flatD a = true) (ra : Rep K ι H a x) : flatV x = true := by
  cases a <;> first
    | (simp [flatD] at h; done)
    | (cases ra; rfl)
theorem flatEq_ok {a b : D} {x y : V} (h : flatD a = true) (h' : flatD b = true) (ra : Rep K ι H a x) (rb : Rep K ι H b y) : eqV x y = flatEq a b := by
  cases a <;> cases b <;> first
    | (simp [flatD] at h; done)
    | (simp [flatD] at h'; done)
    | (cases ra; cases rb; rfl)
theorem flats_ok {a : D} {x : V} (fa : flatD a = true) (ra : Rep K ι H a x) : ∀ {ds : List D} {vs : List V}, ds.all flatD = true → Reps K ι H ds vs → vs.all flatV = true ∧ inV x vs = ds.any fun z => flatEq z a
  | [], _, _, r => by cases r; exact ⟨rfl, rfl⟩
  | d :: ds, vs, h, r => by
    obtain ⟨v, vr, rfl, r1, r2⟩ := r
    rw [List.all_cons, Bool.and_eq_true] at h
    obtain ⟨h1, h2⟩ := flats_ok fa ra h.2 r2
    refine ⟨by rw [List.all_cons, flat_ok h.1 r1, h1]; rfl, ?_⟩
    unfold inV at h2 ⊢
    rw [List.any_cons, List.any_cons, h2, flatEq_ok h.1 fa r1 ra]
end
section
variable {X : Cx} {w : World} {ι : List Addr} {M : Sto}
theorem in_seq (hu : X.A.units + 65 < cLine) {pins : List (Addr × Obj)} {s : Shared} {σ : L2.St} {H : Hp} {x y : V} {v u : Value} {Q : Value → Shared → Prop} {a : D} {p : Addr} {ds : List D} {vs : List V} {b : Bool} (I : Inv X pins σ H s) (rx : RelV x v)
    (S : StRep X.K X.w ι H M) (ra : Rep X.K ι H a x) (hs : SqL X.K H p vs ∨ SqT X.K H p vs) (rs : Reps X.K ι H ds vs) (e : inSeq M a ds = some b) :
    (Q (.bool b) s → wpAny (model X.prog X.w) X.A (compareOp .In v (.ref p)) Q X.xe s) ∧ (Q (.bool (!b)) s → wpAny (model X.prog X.w) X.A (compareOp .NotIn v (.ref p)) Q X.xe s) := by
  unfold inSeq at e
  split at e
  · rename_i c
    cases e
    rw [Bool.and_eq_true] at c
    obtain ⟨f1, f2⟩ := flats_ok c.1 ra c.2 rs
    have fx := flat_ok c.1 ra
    rw [← f2]
    rcases hs with hq | hq
    · obtain ⟨its, r, pl, hz⟩ := I.list hq
      refine ⟨fun q => SeqAt.in_listAt (eqU x) pl.isList (fun w hw => mem_eqAt rx fx r f1 w (by simpa using hw)) ?_, fun q => SeqAt.notIn_listAt (eqU x) pl.isList (fun w hw => mem_eqAt rx fx r f1 w (by simpa using hw)) ?_⟩
      · rw [show its.toArray.any (eqU x) = its.any (eqU x) by simp, any_eqU r f1]; exact q
      · rw [show its.toArray.any (eqU x) = its.any (eqU x) by simp, any_eqU r f1]; exact q
    · obtain ⟨its, r, pl, hz⟩ := I.tuple hq
      refine ⟨fun q => SeqAt.in_tupleAt (eqU x) pl (fun w hw => mem_eqAt rx fx r f1 w (by simpa using hw)) ?_, fun q => SeqAt.notIn_tupleAt (eqU x) pl (fun w hw => mem_eqAt rx fx r f1 w (by simpa using hw)) ?_⟩
      · rw [show its.toArray.any (eqU x) = its.any (eqU x) by simp, any_eqU r f1]; exact q
      · rw [show its.toArray.any (eqU x) = its.any (eqU x) by simp, any_eqU r f1]; exact q
  · split at e
    · rename_i pa ps e1 e2
      split at e
      · rename_i c
        cases e
        rw [Bool.and_eq_true] at c
        have da := pdv_dp S e1 ra
        have dl := pdDs_dp (fun k p v q r => pdg_dp S 3 k p v q r) ds vs ps e2 rs
        obtain ⟨bs, r1⟩ := Dp.reads I pa x v da rx
        have sh : SeqAt.shaped (.list ps) = true := c.2
        rcases hs with hq | hq
        · obtain ⟨as, r2⟩ := Dp.reads I (.list ps) (.ref p) (.ref p) (.lst hq dl) rfl
          exact ⟨fun q => SeqAt.in_list_reads r2 r1 (SeqAt.canLay_of_shaped sh) (SeqAt.canLay_of_shaped c.1) (room_in_shaped c.1 hu) q, fun q => SeqAt.notIn_list_reads r2 r1 (SeqAt.canLay_of_shaped sh) (SeqAt.canLay_of_shaped c.1) (room_in_shaped c.1 hu) q⟩
        · obtain ⟨as, r2⟩ := Dp.reads I (.tuple ps) (.ref p) (.ref p) (.tup hq dl) rfl
          exact ⟨fun q => SeqAt.in_tuple_reads r2 r1 (SeqAt.canLay_of_shaped sh) (SeqAt.canLay_of_shaped c.1) (room_in_shaped c.1 hu) q, fun q => SeqAt.notIn_tuple_reads r2 r1 (SeqAt.canLay_of_shaped sh) (SeqAt.canLay_of_shaped c.1) (room_in_shaped c.1 hu) q⟩
      · cases e
    · cases e
end
end BT

/-! Comparisons, truth, subscripts. -/
namespace BT
open PySem PySem.Spec PyProof.Rows L2

theorem FL.seq {K : PySem.W.Frag} {H : Hp} {a : Addr} {vs : List V} (h : FL K H a vs) : SqL K H a vs := by
  rcases h with h | h
  · exact .inl (.inr h)
  · exact .inr h
theorem str_one {s : Str} (h : s.length = 1) : s = ⟨#[s.cps.getD 0 0]⟩ := by
  obtain ⟨⟨l⟩⟩ := s
  have h : l.length = 1 := h
  match l, h with
  | [c], _ => rfl
section
variable {X : Cx} {w : World}
theorem StRep.dct {K : PySem.W.Frag} {w : World} {ι : List Addr} {H : Hp} {M : Sto} (S : StRep K w ι H M) {n : Nat} {x : V} {kvs : List (D × D)} (r : Rep K ι H (.ref n) x) (e : M[n]? = some (.dct kvs) ∨ M[n]? = some (.dlk kvs)) :
    ∃ a u, x = .ref a ∧ ι[n]? = some a ∧ Rd H a u ∧ DctR K w ι H a kvs u := by
  obtain ⟨a, rfl, q⟩ := r
  rcases e with e | e
  · obtain ⟨u, h1, h2⟩ := S.at_ n a _ q e
    exact ⟨a, u, rfl, q, .inl h1, h2⟩
  · obtain ⟨o, u, h1, h2⟩ := S.at_ n a _ q e
    exact ⟨a, u, rfl, q, .inr ⟨o, h1⟩, h2⟩
theorem in_ok (hu : X.A.units + 65 < cLine) {pins : List (Addr × Obj)} {s : Shared} {σ : L2.St} {H : Hp} {x y : V} {v u : Value} {E : Value → Shared → Prop} {a b : D} {ι : List Addr} {M : Sto} {t : Bool} (I : Inv X pins σ H s) (rx : RelV x v) (ry : RelV y u)
    (S : StRep X.K X.w ι H M) (ra : Rep X.K ι H a x) (rb : Rep X.K ι H b y) (e : inD M a b = some t) {Q : VK} :
    (Q (.bl t) H → wpAny (model X.prog X.w) X.A (compareOp .In v u) (EP X pins σ Q) X.xe s) ∧ (Q (.bl (!t)) H → wpAny (model X.prog X.w) X.A (compareOp .NotIn v u) (EP X pins σ Q) X.xe s) := by
  have hu16 : X.A.units + 16 < cLine := by omega
  cases b with
  | str z =>
    cases rb
    cases a with
    | str i =>
      simp only [inD] at e
      split at e
      · rename_i h1
        cases e
        cases ra
        have e1 := str_one h1
        refine ⟨fun q => op_in_sign pins s σ H _ _ v u Q I rx ry ⟨i.cps.getD 0 0, z, by rw [← e1], rfl, q⟩, fun q => op_notIn_sign pins s σ H _ _ v u Q I rx ry ⟨i.cps.getD 0 0, z, by rw [← e1], rfl, q⟩⟩
      · cases e
    | _ => simp [inD] at e
  | tup ds =>
    obtain ⟨p, vs, rfl, hp, rs⟩ := rb
    cases ry
    have := in_seq hu (Q := EP X pins σ Q) I rx S ra (.inr hp.sq) rs (show inSeq M a ds = some t from e) (y := x) (u := v)
    exact ⟨fun q => this.1 ⟨.bl t, H, I, rfl, q⟩, fun q => this.2 ⟨.bl (!t), H, I, rfl, q⟩⟩
  | ref k =>
    simp only [inD] at e
    split at e
    · rename_i ds em
      obtain ⟨p, vs, rfl, _, hp, rs⟩ := S.lst rb em
      cases ry
      have := in_seq hu (Q := EP X pins σ Q) I rx S ra (.inl (.of hp)) rs e (y := x) (u := v)
      exact ⟨fun q => this.1 ⟨.bl t, H, I, rfl, q⟩, fun q => this.2 ⟨.bl (!t), H, I, rfl, q⟩⟩
    · rename_i kvs em
      split at e
      · rename_i f
        cases e
        obtain ⟨p, o, rfl, _, rd, dr⟩ := S.dct rb (.inl em)
        cases ry
        exact ⟨fun q => dct_in hu16 I rd dr f ra rx fun s' I' => ⟨.bl _, H, I', rfl, q⟩, fun q => dct_notIn hu16 I rd dr f ra rx fun s' I' => ⟨.bl _, H, I', rfl, q⟩⟩
      · cases e
    · rename_i kvs em
      split at e
      · rename_i f
        cases e
        obtain ⟨p, o, rfl, _, rd, dr⟩ := S.dct rb (.inr em)
        cases ry
        exact ⟨fun q => dct_in hu16 I rd dr f ra rx fun s' I' => ⟨.bl _, H, I', rfl, q⟩, fun q => dct_notIn hu16 I rd dr f ra rx fun s' I' => ⟨.bl _, H, I', rfl, q⟩⟩
      · cases e
    · cases e
  | _ => simp [inD] at e
theorem eq_ok (hu : X.A.units + 64 < cLine) {pins : List (Addr × Obj)} {s : Shared} {σ : L2.St} {H : Hp} {x y : V} {v u : Value} {a b : D} {ι : List Addr} {M : Sto} {t : Bool} (I : Inv X pins σ H s) (rx : RelV x v) (ry : RelV y u)
    (S : StRep X.K X.w ι H M) (ra : Rep X.K ι H a x) (rb : Rep X.K ι H b y) (e : eqD M a b = some t) {Q : VK} :
    (Q (.bl t) H → wpAny (model X.prog X.w) X.A (compareOp .Eq v u) (EP X pins σ Q) X.xe s) ∧ (Q (.bl (!t)) H → wpAny (model X.prog X.w) X.A (compareOp .NotEq v u) (EP X pins σ Q) X.xe s) := by
  unfold eqD at e
  split at e
  · rename_i c
    cases e
    obtain ⟨c1, c2⟩ := scal_ok c ra rb
    rw [c2]
    exact ⟨fun q => op_eq pins s σ H x y v u Q I rx ry ⟨c1, q⟩, fun q => op_ne pins s σ H x y v u Q I rx ry ⟨c1, q⟩⟩
  · split at e
    · rename_i pa pb e1 e2
      split at e
      · rename_i c
        cases e
        rw [Bool.and_eq_true] at c
        have da := pdv_dp S e1 ra
        have db := pdv_dp S e2 rb
        exact ⟨fun q => op_eqD hu pins s σ H x y v u Q I rx ry ⟨pa, pb, da, db, c.1, c.2, q⟩, fun q => op_neD hu pins s σ H x y v u Q I rx ry ⟨pa, pb, da, db, c.1, c.2, q⟩⟩
      · cases e
    · cases e
theorem lt_ok {pins : List (Addr × Obj)} {s : Shared} {σ : L2.St} {H : Hp} {x y : V} {v u : Value} {a b : D} {ι : List Addr} {t : Bool} (I : Inv X pins σ H s) (rx : RelV x v) (ry : RelV y u) (ra : Rep X.K ι H a x) (rb : Rep X.K ι H b y) (e : ltD a b = some t) {Q : VK} (q : Q (.bl t) H) :
    wpAny (model X.prog X.w) X.A (compareOp .Lt v u) (EP X pins σ Q) X.xe s ∧ wpAny (model X.prog X.w) X.A (compareOp .Gt u v) (EP X pins σ Q) X.xe s := by
  cases a <;> cases b <;> first
    | (simp [ltD] at e; done)
    | (cases ra; cases rb; cases e; exact ⟨op_lt pins s σ H _ _ v u Q I rx ry ⟨_, _, rfl, rfl, q⟩, op_gt pins s σ H _ _ u v Q I ry rx ⟨_, _, rfl, rfl, q⟩⟩)
    | (cases ra; cases rb; cases e; exact ⟨op_lt_str pins s σ H _ _ v u Q I rx ry ⟨_, _, rfl, rfl, q⟩, op_gt_str pins s σ H _ _ u v Q I ry rx ⟨_, _, rfl, rfl, q⟩⟩)
theorem le_ok {pins : List (Addr × Obj)} {s : Shared} {σ : L2.St} {H : Hp} {x y : V} {v u : Value} {a b : D} {ι : List Addr} {t : Bool} (I : Inv X pins σ H s) (rx : RelV x v) (ry : RelV y u) (ra : Rep X.K ι H a x) (rb : Rep X.K ι H b y) (e : leD a b = some t) {Q : VK} (q : Q (.bl t) H) :
    wpAny (model X.prog X.w) X.A (compareOp .LtE v u) (EP X pins σ Q) X.xe s ∧ wpAny (model X.prog X.w) X.A (compareOp .GtE u v) (EP X pins σ Q) X.xe s := by
  cases a <;> cases b <;> first
    | (simp [leD] at e; done)
    | (cases ra; cases rb; cases e; exact ⟨op_le pins s σ H _ _ v u Q I rx ry ⟨_, _, rfl, rfl, q⟩, op_ge pins s σ H _ _ u v Q I ry rx ⟨_, _, rfl, rfl, q⟩⟩)
    | (cases ra; cases rb; cases e; exact ⟨op_le_str pins s σ H _ _ v u Q I rx ry ⟨_, _, rfl, rfl, q⟩, op_ge_str pins s σ H _ _ u v Q I ry rx ⟨_, _, rfl, rfl, q⟩⟩)
theorem is_ok {pins : List (Addr × Obj)} {s : Shared} {σ : L2.St} {H : Hp} {x y : V} {v u : Value} {a b : D} {ι : List Addr} {t : Bool} (I : Inv X pins σ H s) (rx : RelV x v) (ry : RelV y u) (ra : Rep X.K ι H a x) (rb : Rep X.K ι H b y) (e : isD a b = some t) {Q : VK} :
    (Q (.bl t) H → wpAny (model X.prog X.w) X.A (compareOp .Is v u) (EP X pins σ Q) X.xe s) ∧ (Q (.bl (!t)) H → wpAny (model X.prog X.w) X.A (compareOp .IsNot v u) (EP X pins σ Q) X.xe s) := by
  have hn : ∀ {a : D} {x : V}, Rep X.K ι H a x → decide (a = .non) = decide (x = .non) := by
    intro a x r
    cases a with
    | tup _ => obtain ⟨_, _, rfl, _⟩ := r; simp
    | ref _ => obtain ⟨_, rfl, _⟩ := r; simp
    | fl _ => obtain ⟨_, rfl, _⟩ := r; simp
    | _ => cases r; simp
  cases b with
  | non =>
    have e' : decide (a = .non) = t := by cases a <;> simpa [isD] using e
    cases rb
    rw [← e', hn ra]
    exact ⟨fun q => op_isN pins s σ H _ _ v u Q I rx ry ⟨rfl, q⟩, fun q => op_notN pins s σ H _ _ v u Q I rx ry ⟨rfl, q⟩⟩
  | bl c =>
    cases a with
    | bl d =>
      cases ra; cases rb
      cases e
      exact ⟨fun q => op_isBl pins s σ H _ _ v u Q I rx ry ⟨_, _, rfl, rfl, q⟩, fun q => op_notBl pins s σ H _ _ v u Q I rx ry ⟨_, _, rfl, rfl, q⟩⟩
    | _ => simp [isD] at e
  | _ => cases a <;> simp [isD] at e
theorem cmp_ok (hu : X.A.units + 65 < cLine) (c : Cm) : OpR X (compareOp (cmO c)) (rCmp X.K X.w c) := by
  intro pins s σ H x y v u Q I rx ry h
  obtain ⟨ι, M, a, b, Xf, S, ra, rb, C⟩ := h
  obtain ⟨t, e, C⟩ := C.opt
  have q := C.bl S
  cases c with
  | eq => exact (eq_ok (by omega) I rx ry S ra rb e).1 q
  | ne =>
    obtain ⟨t', e', rfl⟩ := Option.map_eq_some_iff.mp e
    exact (eq_ok (by omega) I rx ry S ra rb e').2 q
  | lt => exact (lt_ok I rx ry ra rb e q).1
  | le => exact (le_ok I rx ry ra rb e q).1
  | gt => exact (lt_ok I ry rx rb ra e q).2
  | ge => exact (le_ok I ry rx rb ra e q).2
  | isin => exact (in_ok hu I rx ry S ra rb e (E := X.xe)).1 q
  | nin =>
    obtain ⟨t', e', rfl⟩ := Option.map_eq_some_iff.mp e
    exact (in_ok hu I rx ry S ra rb e' (E := X.xe)).2 q
  | is_ => exact (is_ok I rx ry ra rb e).1 q
  | isn =>
    obtain ⟨t', e', rfl⟩ := Option.map_eq_some_iff.mp e
    exact (is_ok I rx ry ra rb e').2 q

/-! ### truth -/
theorem truth_ok {H : Hp} {x : V} {d : D} {ι : List Addr} {M : Sto} {t : Bool} {K : PySem.W.Frag} {w : World} (S : StRep K w ι H M) (r : Rep K ι H d x) (e : truth M d = some t) : TruV K x H t := by
  cases d with
  | non => cases r; cases e; rfl
  | bl b => cases r; cases e; rfl
  | int i => cases r; cases e; rfl
  | str z =>
    cases r
    simp only [truth] at e
    split at e
    · rename_i c
      cases e
      refine ⟨fits_le c, ?_⟩
      rw [Bool.eq_iff_iff]
      simp
    · cases e
  | tup ds =>
    obtain ⟨a, vs, rfl, h, rs⟩ := r
    cases e
    refine .inr (.inl ⟨vs, h.sq, ?_⟩)
    rw [Bool.eq_iff_iff]
    simp [rs.nil_iff]
  | ref k =>
    simp only [truth] at e
    split at e
    · rename_i ds em
      cases e
      obtain ⟨a, vs, rfl, _, h, rs⟩ := S.lst r em
      refine .inl ⟨vs, .of h, ?_⟩
      rw [Bool.eq_iff_iff]
      simp [rs.nil_iff]
    · cases e
  | fl is =>
    obtain ⟨a, rfl, h⟩ := r
    cases e
    refine .inl ⟨is.map V.int, FL.seq h, ?_⟩
    simp
end
end BT

/-! Subscripts, slices. -/
namespace BT
open PySem PySem.Spec PyProof.Rows L2

theorem atI_map {α β : Type} (f : α → β) (xs : List α) (i : Int) : atI (xs.map f) i = (atI xs i).map f := by
  unfold atI
  rw [List.length_map]
  cases ixN xs.length i with
  | none => rfl
  | some j => simp
theorem Reps.atI {K : PySem.W.Frag} {ι : List Addr} {H : Hp} {ds : List D} {vs : List V} {i : Int} {d : D} (r : Reps K ι H ds vs) (e : L2.atI ds i = some d) : ∃ v, L2.atI vs i = some v ∧ Rep K ι H d v := by
  unfold L2.atI at e ⊢
  rw [← r.length]
  cases h : ixN ds.length i with
  | none => rw [h] at e; cases e
  | some j =>
    rw [h] at e
    exact r.get (show ds[j]? = some d from e)
section
variable {X : Cx}
def rIdx (K : PySem.W.Frag) (w : World) : R2 := fun x y H Q => ∃ ι M a b Xf, StRep K w ι H M ∧ Rep K ι H a x ∧ Rep K ι H b y ∧ RC K w (Rep K) Xf ι H (Rs.of M (idxD M a b)) Q
theorem RC.opt' {K : PySem.W.Frag} {w : World} {ι : List Addr} {H : Hp} {M : Sto} {Xf : Str → Hp → Prop} {Q : V → Hp → Prop} {o : Option D} (h : RC K w (Rep K) Xf ι H (Rs.of M o) Q) : ∃ b, o = some b ∧ RC K w (Rep K) Xf ι H (.ok b M) Q := by
  cases o with
  | none => exact h.elim
  | some b => exact ⟨b, rfl, h⟩
theorem ix_dct (hu : X.A.units + 16 < cLine) {value slice : Expr} {pins : List (Addr × Obj)} {s : Shared} {σ : L2.St} {H : Hp} {v : V} {uv : Value} {Q : VK} {ι : List Addr} {a : Addr} {u : HO} {kvs : List (D × D)} {d y : D} (I : Inv X pins σ H s)
    (e : Rd H a u) (r : DctR X.K X.w ι H a kvs u) (f : kvFits kvs d = true) (rd : Rep X.K ι H d v) (rv : RelV v uv) (hy : kvAt kvs d = some y) (hs : subscripted slice false (.ref a) uv = operate [.ref a, uv] (getItem (.ref a) uv))
    (h : ∀ v', Rep X.K ι H y v' → Q v' H) : wpAny (model X.prog X.w) X.A (subscriptTail value slice (.ref a) uv) (EP X pins σ Q) X.xe s := by
  have ty := (dct_typeIs I e r).1
  have body : wpAny (model X.prog X.w) X.A (subscripted slice false (.ref a) uv) (fun z s3 => wpAny (model X.prog X.w) X.A (do letTemporaryGo value (.ref a) z; pure z) (EP X pins σ Q) X.xe s3) X.xe s := by
    rw [hs]
    refine wpAny_operating (dct_getItem hu I e r f rd rv hy fun v' w' s' I' r1 r2 => ?_)
    exact wpAny_bind (wpAny_letTemporaryGo (wpAny_pure ⟨v', H, I', r2, h v' r1⟩))
  simp only [subscriptTail]
  rw [getitemInPython_of_ne ty.not_modules]
  refine wpAny_bind (wpAny_bind (wpAny_specialOf ty PySem.F.slot_dict_getitem.lookup ?_))
  first | exact wpAny_pure (wpAny_bind body) | exact wpAny_bind (wpAny_pure (wpAny_bind body)) | exact wpAny_bind body
theorem ix_ok (hu : X.A.units + 65 < cLine) : IxR X (rIdx X.K X.w) := by
  intro value slice pins s σ H x y v u Q I rx ry h hs
  obtain ⟨ι, M, a, b, Xf, S, ra, rb, C⟩ := h
  obtain ⟨d, e, C⟩ := C.opt'
  have fin : ∀ {v' : V}, Rep X.K ι H d v' → Q v' H := fun r => C.here S r
  cases a with
  | str z =>
    cases ra
    cases b with
    | int i =>
      cases rb
      simp only [idxD] at e
      split at e
      · rename_i c
        obtain ⟨c', e', rfl⟩ := Option.map_eq_some_iff.mp e
        exact ix_str value slice pins s σ H _ _ v u Q I rx ry ⟨z, i, c', rfl, rfl, fits_le c, e', fin rfl⟩ hs
      · cases e
    | _ => simp [idxD] at e
  | tup ds =>
    cases b with
    | int i =>
      cases rb
      obtain ⟨p, vs, rfl, hp, rs⟩ := ra
      obtain ⟨v', e', r'⟩ := rs.atI (show L2.atI ds i = some d from e)
      exact ix_tup value slice pins s σ H _ _ v u Q I rx ry ⟨p, vs, i, v', rfl, rfl, hp.sq, e', fin r'⟩ hs
    | _ => simp [idxD] at e
  | fl is =>
    cases b with
    | int i =>
      cases rb
      obtain ⟨p, rfl, hp⟩ := ra
      obtain ⟨j, e', rfl⟩ := Option.map_eq_some_iff.mp (show (L2.atI is i).map D.int = some d from e)
      exact ix_list value slice pins s σ H _ _ v u Q I rx ry ⟨p, _, i, .int j, rfl, rfl, hp.seq, by rw [atI_map, e']; rfl, fin rfl⟩ hs
    | _ => simp [idxD] at e
  | ref k =>
    simp only [idxD] at e
    split at e
    · rename_i kvs em
      split at e
      · rename_i f
        obtain ⟨p, o, rfl, _, rd, dr⟩ := S.dct ra (.inl em)
        cases rx
        exact ix_dct (by omega) I rd dr f rb ry e hs fun v' r => fin r
      · cases e
    · rename_i kvs em
      split at e
      · rename_i f
        obtain ⟨p, o, rfl, _, rd, dr⟩ := S.dct ra (.inr em)
        cases rx
        exact ix_dct (by omega) I rd dr f rb ry e hs fun v' r => fin r
      · cases e
    · rename_i ds em
      split at e
      · rename_i i
        cases rb
        obtain ⟨p, vs, rfl, _, hp, rs⟩ := S.lst ra em
        obtain ⟨v', e', r'⟩ := rs.atI e
        exact ix_list value slice pins s σ H _ _ v u Q I rx ry ⟨p, vs, i, v', rfl, rfl, .of hp, e', fin r'⟩ hs
      · cases e
    · cases e
  | _ => simp [idxD] at e

/-! ### slices -/
theorem Reps.cut {K : PySem.W.Frag} {ι : List Addr} {H : Hp} {ds : List D} {vs : List V} (lo hi : Option Int) (r : Reps K ι H ds vs) : Reps K ι H (BT.cut ds lo hi) (cutV vs lo hi) := by
  unfold BT.cut cutV
  rw [r.length]
  exact (r.drop _).take _
def rSlc (K : PySem.W.Frag) (w : World) : V → Option Int → Option Int → Hp → VK → Prop := fun x lo hi H Q => ∃ ι M a Xf, StRep K w ι H M ∧ Rep K ι H a x ∧ RC K w (Rep K) Xf ι H (slcD M a lo hi) Q
theorem RC.new_lst {K : PySem.W.Frag} {w : World} {ι : List Addr} {H : Hp} {M : Sto} {Xf : Str → Hp → Prop} {Q : V → Hp → Prop} {ds : List D} {vs : List V} {p : Addr} (h : RC K w (Rep K) Xf ι H (new M (.lst ds)) Q) (S : StRep K w ι H M) (hp : H p = none) (r : Reps K ι H ds vs) : Q (.ref p) (upd H p (.lst vs)) := by
  refine h (ι ++ [p]) _ (.ref p) (grow_push hp) (S.push hp ⟨vs, upd_same, Reps.grow (grow_push hp) _ _ r⟩) ⟨p, rfl, ?_⟩
  rw [← S.len, List.getElem?_append_right (Nat.le_refl _)]; simp
theorem slc_ok : SlR X (rSlc X.K X.w) := by
  intro pins s σ H x v vl vu lo hi sl Q I rx hs pl pu h
  obtain ⟨ι, M, a, Xf, S, ra, C⟩ := h
  cases a with
  | str z =>
    cases ra
    obtain ⟨c, C⟩ := C.pos
    exact sl_str pins s σ H _ v vl vu lo hi sl Q I rx hs pl pu ⟨z, rfl, fits_le c, C.here S rfl⟩
  | tup ds =>
    obtain ⟨p, vs, rfl, hp, rs⟩ := ra
    cases rx
    obtain ⟨its, iv, ht, hz⟩ := I.tuple hp.sq
    have hlen : its.toArray.size = vs.length := by simp [iv.length]
    refine ⟨"tuple", _, PyProof.Rows.slot_tuple_getitem.lookup, ht.typeIs, ?_⟩
    by_cases whole : HT.sIx vs.length 0 lo = 0 ∧ HT.sIx vs.length vs.length hi = vs.length
    · have e2 : cutV vs lo hi = vs := by
        unfold cutV
        rw [whole.1, whole.2, List.drop_zero, Nat.sub_zero, List.take_length]
      have r2 := rs.cut lo hi
      rw [e2] at r2
      exact getItem_tuple_whole ht hs pl pu (by rw [hlen]; exact whole) ⟨.ref p, H, I, rfl, C.here S ⟨p, vs, rfl, hp, r2⟩⟩
    · refine HT.getItem_tuple_cut ht hs pl pu (by rw [hlen]; exact whole) ?_ (by rw [hlen]; exact hz)
      rw [hlen]
      exact C.tupEnd S I (rs.cut lo hi) ((iv.drop _).take _) (Nat.le_trans (cutV_length vs lo hi) hz)
  | ref k =>
    simp only [slcD] at C
    split at C
    · rename_i ds em
      obtain ⟨p, vs, rfl, _, hp, rs⟩ := S.lst ra em
      exact sl_list pins s σ H _ v vl vu lo hi sl Q I rx hs pl pu ⟨p, vs, rfl, .of hp, fun q hq => C.new_lst S hq (rs.cut lo hi)⟩
    · exact C.elim
  | _ => exact C.elim
end
end BT

/-! dict(pairs). -/
namespace BT
open PySem PySem.Spec PyProof.Rows L2

section
variable {X : Cx} {pins : List (Addr × Obj)} {s : Shared} {σ : L2.St} {H : Hp} {ι : List Addr}
/-- the tuple's object, exactly -/
theorem Inv.strong (I : Inv X pins σ H s) {a : Addr} {vs : List V} (h : TupS H a vs) : ∃ its : List Value, Vals vs its ∧ PlainSeq "tuple" s.heap a its.toArray ∧ vs.length ≤ sizeLine := by
  obtain ⟨o, e, hd⟩ := h
  obtain ⟨g, z, its, r, o', g', hc, n, dat⟩ := I.hok a _ e
  rw [g] at g'; cases g'
  exact ⟨its, r, ⟨o, n, g, hc, hd, dat⟩, z⟩
def PR (K : PySem.W.Frag) (ι : List Addr) (H : Hp) (p : D × D) (q : Value × Value) : Prop := (∃ v, Rep K ι H p.1 v ∧ RelV v q.1) ∧ ∃ v, Rep K ι H p.2 v ∧ RelV v q.2
theorem pairs_are (I : Inv X pins σ H s) : ∀ {ds : List D} {kvs : List (D × D)} {vs : List V} {us : List Value}, kvs? ds = some kvs → Reps X.K ι H ds vs → Vals vs us →
    ∃ (as : List Addr) (ps : List (Value × Value)), us = as.map Value.ref ∧ as.length = ps.length ∧ (∀ (j : Nat) (a : Addr) (k v : Value), as[j]? = some a → ps[j]? = some (k, v) → s.heap.IsTuple a #[k, v]) ∧ Paired (PR X.K ι H) kvs ps
  | [], kvs, vs, us, e, r, q => by
    cases e; cases r; cases q
    exact ⟨[], [], rfl, rfl, (fun j a k v h => by simp at h), .nil⟩
  | d :: ds, kvs, vs, us, e, r, q => by
    obtain ⟨v, vr, rfl, r1, r2⟩ := r
    cases q with
    | cons q1 q2 =>
      cases d with
      | tup xs =>
        match xs, e with
        | [k, y], e =>
          simp only [kvs?, Option.map_eq_some_iff] at e
          obtain ⟨kr, e1, rfl⟩ := e
          obtain ⟨as, ps, h1, h2, h3, h4⟩ := pairs_are I e1 r2 q2
          obtain ⟨a, vs2, rfl, ht, kv, r3, rfl, rk, yv, r4, rfl, ry, rn⟩ := r1
          cases rn
          cases q1
          obtain ⟨its, rv, ⟨o, n, g, hc, _, dat⟩, _⟩ := Inv.strong I ht
          cases rv with
          | cons ku t =>
            cases t with
            | cons yu t2 =>
              cases t2
              rename_i ku' yu'
              refine ⟨a :: as, (ku', yu') :: ps, by rw [h1]; rfl, by simp [h2], fun j b k' v' ea ep => ?_, .cons ⟨⟨_, rk, ku⟩, _, ry, yu⟩ h4⟩
              cases j with
              | zero =>
                simp at ea ep
                obtain ⟨rfl, rfl⟩ := ep
                subst ea
                exact ⟨o, g, hc, n, dat⟩
              | succ j => exact h3 j b k' v' (by simpa using ea) (by simpa using ep)
      | _ => simp [kvs?] at e
theorem merged_cons {K : Type} [DecidableEq K] (acc : List (K × Value)) (p : K × Value) (r : List (K × Value)) : merged acc (p :: r) = merged (stored acc p.1 p.2) r := rfl
theorem storedAllH_cons {K : Type} [DecidableEq K] (acc : List (K × Addr × Value)) (p : K × Addr × Value) (r : List (K × Addr × Value)) : storedAllH acc (p :: r) = storedAllH (storedH acc p.1 p.2.1 p.2.2) r := rfl
/-- all pairs put, leaves -/
theorem putAll_leaf {K : PySem.W.Frag} {P : Program} {w : World} : ∀ {kvs acc m : List (D × D)} {ps : List (Value × Value)} {xs : List (Leaf × Value)}, putAll acc kvs = some m → KvOk acc → (∀ p ∈ acc, p.1.isTup = false) → (∀ p ∈ kvs, p.1.isTup = false) → Paired (PR K ι H) kvs ps → Paired (LR K ι H) acc xs →
    KvOk m ∧ (∀ p ∈ m, p.1.isTup = false) ∧ m.length ≤ acc.length + kvs.length ∧ ∃ ls : List (Leaf × Value), Paired (fun (q : Value × Value) (l : Leaf × Value) => (strictKind P w).is l.1 q.1 = true ∧ l.2 = q.2) ps ls ∧ Paired (LR K ι H) m (merged xs ls)
  | [], acc, m, ps, xs, e, ok, ha, _, pr, ax => by
    cases e; cases pr
    exact ⟨ok, ha, by simp, [], .nil, ax⟩
  | p :: kvs, acc, m, _, xs, e, ok, ha, hk, .cons (b := q) a r, ax => by
    simp only [putAll] at e
    split at e
    · rename_i f
      have f' := f
      unfold kvFits at f'
      rw [Bool.and_eq_true] at f'
      have ht := hk p List.mem_cons_self
      obtain ⟨⟨v, k1, k2⟩, u, l1, l2⟩ := a
      have ok2 : KvOk (kvPut acc p.1 p.2) := kvFits_ok ok f
      have ha2 : ∀ z ∈ kvPut acc p.1 p.2, z.1.isTup = false := fun z hz => by
        rcases kvPut_mem hz with q | ⟨y, hy, q⟩
        · rw [q]; exact ht
        · rw [← q]; exact ha y hy
      obtain ⟨h1, h2, h3, ls, h4, h5⟩ := putAll_leaf (P := P) (w := w) e ok2 ha2 (fun z hz => hk z (List.mem_cons_of_mem _ hz)) r (lr_put f'.1 ht l1 l2 (fun z hz => ⟨ha z hz, ok.2.1 z hz⟩) ax)
      refine ⟨h1, h2, ?_, (leafOf p.1, q.2) :: ls, .cons ⟨Rep.strict f'.1 ht k1 k2, rfl⟩ h4, h5⟩
      have := kvPut_len acc p.1 p.2
      simp only [List.length_cons]
      omega
    · cases e
theorem putAll_tup {K : PySem.W.Frag} : ∀ {kvs acc m : List (D × D)} {ps : List (Value × Value)} {xs : List (NestedKey × Addr × Value)}, putAll acc kvs = some m → KvOk acc → (∀ p ∈ acc, p.1.isTup = true) → (∀ p ∈ kvs, p.1.isTup = true) → Paired (PR K ι H) kvs ps → Paired (XR K ι H) acc xs →
    KvOk m ∧ (∀ p ∈ m, p.1.isTup = true) ∧ m.length ≤ acc.length + kvs.length ∧ ∃ ls : List (NestedKey × Addr × Value), Paired (fun (q : Value × Value) (l : NestedKey × Addr × Value) => q.1 = .ref l.2.1 ∧ l.2.2 = q.2) ps ls ∧ (∀ l ∈ ls, ∃ d, keyOk 8 d = true ∧ l.1 = keyN d ∧ Rep K ι H d (.ref l.2.1)) ∧ Paired (XR K ι H) m (storedAllH xs ls)
  | [], acc, m, ps, xs, e, ok, ha, _, pr, ax => by
    cases e; cases pr
    exact ⟨ok, ha, by simp, [], .nil, (fun _ h => nomatch h), ax⟩
  | p :: kvs, acc, m, _, xs, e, ok, ha, hk, .cons (b := q) a r, ax => by
    simp only [putAll] at e
    split at e
    · rename_i f
      have f' := f
      unfold kvFits at f'
      rw [Bool.and_eq_true] at f'
      have ht := hk p List.mem_cons_self
      obtain ⟨⟨v, k1, k2⟩, u, l1, l2⟩ := a
      obtain ⟨b, rfl, eb⟩ := k1.tupRef ht k2
      have ok2 : KvOk (kvPut acc p.1 p.2) := kvFits_ok ok f
      have ha2 : ∀ z ∈ kvPut acc p.1 p.2, z.1.isTup = true := fun z hz => by
        rcases kvPut_mem hz with q | ⟨y, hy, q⟩
        · rw [q]; exact ht
        · rw [← q]; exact ha y hy
      obtain ⟨h1, h2, h3, ls, h4, h5, h6⟩ := putAll_tup e ok2 ha2 (fun z hz => hk z (List.mem_cons_of_mem _ hz)) r (xr_put f'.1 k1 l1 l2 ok.2.1 ax)
      refine ⟨h1, h2, ?_, (keyN p.1, b, q.2) :: ls, .cons ⟨eb, rfl⟩ h4, fun l hl => ?_, h6⟩
      · have := kvPut_len acc p.1 p.2
        simp only [List.length_cons]
        omega
      · rcases List.mem_cons.mp hl with rfl | hl
        · exact ⟨p.1, f'.1, rfl, k1⟩
        · exact h5 l hl
    · cases e
theorem putAll_kind : ∀ {kvs acc m : List (D × D)} {b : Bool}, putAll acc kvs = some m → acc ≠ [] → (∀ p ∈ acc, p.1.isTup = b) → ∀ p ∈ kvs, p.1.isTup = b
  | [], _, _, _, _, _, _, p, hp => nomatch hp
  | q :: kvs, acc, m, b, e, hne, ha, p, hp => by
    simp only [putAll] at e
    split at e
    · rename_i f
      unfold kvFits at f
      rw [Bool.and_eq_true, List.all_eq_true] at f
      obtain ⟨z, hz⟩ := List.exists_mem_of_ne_nil acc hne
      have hq : q.1.isTup = b := (eq_of_beq (f.2 z hz)).symm.trans (ha z hz)
      rcases List.mem_cons.mp hp with rfl | hp
      · exact hq
      · refine putAll_kind e (fun h => ?_) (fun y hy => ?_) p hp
        · have : q.1 ∈ (kvPut acc q.1 q.2).map (·.1) := by
            unfold kvPut
            split
            · rename_i c
              obtain ⟨y, hy, ey⟩ := List.any_eq_true.mp c
              exact List.mem_map.mpr ⟨_, List.mem_map.mpr ⟨y, hy, rfl⟩, by rw [if_pos (of_decide_eq_true ey)]; exact of_decide_eq_true ey⟩
            · simp
          rw [h] at this; cases this
        · rcases kvPut_mem hy with w | ⟨x, hx, w⟩
          · rw [w]; exact hq
          · rw [← w]; exact ha x hx
    · cases e
theorem putAll_two {kvs m : List (D × D)} (e : putAll [] kvs = some m) : (∀ p ∈ kvs, p.1.isTup = false) ∨ ∀ p ∈ kvs, p.1.isTup = true := by
  cases kvs with
  | nil => exact .inl fun _ h => nomatch h
  | cons q kvs =>
    simp only [putAll] at e
    split at e
    · have hp : kvPut [] q.1 q.2 = [(q.1, q.2)] := rfl
      rw [hp] at e
      cases ht : q.1.isTup with
      | false => exact .inl fun p hp => (List.mem_cons.mp hp).elim (fun z => by rw [z]; exact ht) fun z => putAll_kind e (by simp) (fun y hy => by rw [List.mem_singleton.mp hy]; exact ht) p z
      | true => exact .inr fun p hp => (List.mem_cons.mp hp).elim (fun z => by rw [z]; exact ht) fun z => putAll_kind e (by simp) (fun y hy => by rw [List.mem_singleton.mp hy]; exact ht) p z
    · cases e
theorem big_new (I : Inv X pins σ H s) : (s.heap.objs.size == sysModules) = false := by
  have := Inv.big I
  exact beq_eq_false_iff_ne.mpr (Nat.ne_of_gt this)
theorem paired_at {α β : Type} {F : α → β → Prop} : ∀ {l : List α} {m : List β}, Paired F l m → ∀ {i : Nat} {a : α}, l[i]? = some a → ∃ b, m[i]? = some b ∧ F a b
  | _, _, .nil, i, a, h => by simp at h
  | _, _, .cons x r, 0, a, h => by simp at h; subst h; exact ⟨_, rfl, x⟩
  | _, _, .cons x r, i + 1, a, h => by
    simp at h
    obtain ⟨b, h1, h2⟩ := paired_at r h
    exact ⟨b, by simpa using h1, h2⟩
/-- a new object whose reading is u, its dict told -/
theorem dct_new {h' : Heap} {tk : Nat} {m : List (D × D)} {es : Array DictEntry} {ep : Nat} (I : Inv X pins σ H s) (kp : ∀ b o, s.heap.get? b = some o → h'.get? b = some o) (raw : h'.DictRaw s.heap.objs.size es ep) (ok : KvOk m) (hl : m.length ≤ sizeLine)
    (pr : Paired (EntR X.K X.w ι H) m es.toList) : ∃ u, Inv X pins σ (upd H s.heap.objs.size u) { s with heap := h', toks := tk } ∧ (∀ xs, u ≠ .tup xs) ∧ (∀ x y, u ≠ .frz x y) ∧ DctR X.K X.w ι H s.heap.objs.size m u :=
  ⟨.ext fun h => h.DictRaw s.heap.objs.size es ep, I.laid kp (Nat.le_refl _) (dct_is raw), (fun _ q => nomatch q), (fun _ _ q => nomatch q), es, ep, rfl, big_new I, hl, ok, pr⟩
theorem dict_of (hu : X.A.units + 32 < cLine) (hc : X.calm = true) {p : Addr} {ds : List D} {vs : List V} {kvs m : List (D × D)} {Q : Value → Shared → Prop} (I : Inv X pins σ H s) (hp : SqL X.K H p vs ∨ TupS H p vs) (rs : Reps X.K ι H ds vs) (ek : kvs? ds = some kvs) (em : putAll [] kvs = some m) (hz : kvs.length ≤ sizeLine)
    (h : ∀ u s', Inv X pins σ (upd H s.heap.objs.size u) s' → (∀ xs, u ≠ .tup xs) → (∀ x y, u ≠ .frz x y) → DctR X.K X.w ι H s.heap.objs.size m u → Q (.ref s.heap.objs.size) s') : wpAny (model X.prog X.w) X.A (call (.type "dict") [.ref p]) Q X.xe s := by
  have src : ∃ (as : List Addr) (ps : List (Value × Value)), as.length = ps.length ∧ Paired (PR X.K ι H) kvs ps ∧ ∃ T fp OK, PairArg X.prog X.w T p fp [] ps.length (PairRel ps) OK ∧ OK s.heap := by
    have mk : ∀ {its : List Value}, Vals vs its → ∃ (as : List Addr) (ps : List (Value × Value)), as.length = ps.length ∧ Paired (PR X.K ι H) kvs ps ∧ PairItems s.heap its.toArray (fun j => as.getD j 0) ps := fun {its} rv => by
      obtain ⟨as, ps, h1, h2, h3, h4⟩ := pairs_are I ek rs rv
      refine ⟨as, ps, h2, h4, by rw [h1]; simp [h2], fun j k v ej => ?_⟩
      have hj : j < as.length := by rw [h2]; exact (List.getElem?_eq_some_iff.mp ej).1
      have ea : as[j]? = some as[j] := List.getElem?_eq_getElem hj
      have eg : as.getD j 0 = as[j] := by simp [hj]
      show its.toArray[j]? = some (Value.ref (as.getD j 0)) ∧ PairAt s.heap (as.getD j 0) k v
      rw [eg]
      exact ⟨by rw [h1]; simp [hj], .inl (h3 j _ k v ea ej)⟩
    rcases hp with hp | hp
    · obtain ⟨its, rv, pl, _⟩ := I.list hp
      obtain ⟨as, ps, h1, h2, h3⟩ := mk rv
      exact ⟨as, ps, h1, h2, _, _, _, PairArg.list p its.toArray (fun j => as.getD j 0) ps, pl, h3⟩
    · obtain ⟨its, rv, pl, _⟩ := Inv.strong I hp
      obtain ⟨as, ps, h1, h2, h3⟩ := mk rv
      exact ⟨as, ps, h1, h2, _, _, _, PairArg.tuple p its.toArray (fun j => as.getD j 0) ps, pl, h3⟩
  obtain ⟨as, ps, hlen, pr, T, fp, OK, P, ok⟩ := src
  have hn : ps.length = kvs.length := (Paired.length pr).symm
  have hh := I.ok.hd hc
  rcases putAll_two em with ht | ht
  · obtain ⟨k1, k2, k3, ls, k4, k5⟩ := putAll_leaf (P := X.prog) (w := X.w) (xs := []) em ⟨List.nodup_nil, (fun _ q => nomatch q), (fun _ q => nomatch q)⟩ (fun _ q => nomatch q) ht pr .nil
    refine call_dict_pairs (knd := strictKind X.prog X.w) (kvs := ls) P hh ok ⟨(Paired.length k4).symm, fun i key v hr => ?_⟩ (by omega) fun h' tk dd kp => ?_
    · obtain ⟨l, h1, h2, h3⟩ := paired_at k4 (i := i) (a := (key, v)) hr
      exact ⟨l.1, by rw [h1]; exact congrArg some (Prod.ext rfl h3), h2⟩
    · obtain ⟨o, es, ep, q1, q2, q3, q4, q5, q6⟩ := dd
      obtain ⟨u, I', n1, n2, dr⟩ := dct_new (m := m) (ι := ι) (tk := tk) I (fun b o e => kp b o (fun z => nomatch z) e) ⟨o, q1, q2, q3⟩ k1 (by simp at k3; omega) (ents_leaf_back (P := X.prog) (fun p hp => ⟨k2 p hp, k1.2.1 p hp⟩) (fun e he => q4 e (by simpa using he)) q5 k5)
      exact h u _ I' n1 n2 dr
  · obtain ⟨k1, k2, k3, ls, k4, k5, k6⟩ := putAll_tup (xs := []) em ⟨List.nodup_nil, (fun _ q => nomatch q), (fun _ q => nomatch q)⟩ (fun _ q => nomatch q) ht pr .nil
    have his : ∀ l ∈ ls, (nestedKind X.prog X.w).is s.heap l.1 l.2.1 := fun l hl => by
      obtain ⟨d, e1, e2, e3⟩ := k5 l hl
      rw [e2]
      exact ⟨Rep.nested I 8 d _ _ e1 e3 rfl, keyN_depth 8 d e1⟩
    refine call_dict_pairsH (knd := nestedKind X.prog X.w) (ps := ls) P hh (by show X.A.units + 1 + 1 + 8 < cLine; omega) ok ⟨(Paired.length k4).symm, fun i key v hr => ?_⟩ (fun h' hk x hx => nestedKind_stays.stays (fun b o vs n e _ => hk b o (Nat.ne_of_lt (Heap.lt_size e)) (fun z => nomatch z) e) (his x hx)) (by omega) fun h' tk dd kp => ?_
    · obtain ⟨l, h1, h2, h3⟩ := paired_at k4 (i := i) (a := (key, v)) hr
      exact ⟨l.1, l.2.1, by rw [h1]; exact congrArg some (Prod.ext rfl (Prod.ext rfl h3)), h2⟩
    · obtain ⟨o, es, ep, q1, q2, q3, q4, q5, q6⟩ := dd
      obtain ⟨u, I', n1, n2, dr⟩ := dct_new (m := m) (ι := ι) (tk := tk) I (fun b o e => kp b o (fun z => nomatch z) e) ⟨o, q1, q2, q3⟩ k1 (by simp at k3; omega) (by rw [q4]; exact ents_tup_back k6)
      exact h u _ I' n1 n2 dr
end
end BT

/-! sorted. -/
namespace BT
open PySem PySem.Spec PyProof.Rows L2

/-! ### the sort by insertion -/
section
variable {α : Type} {lt : α → α → Bool}
theorem ins_perm (x : α) : ∀ ys : List α, (ins lt x ys).Perm (x :: ys)
  | [] => .refl _
  | y :: ys => by
    rw [ins]
    split
    · exact ((ins_perm x ys).cons y).trans (.swap x y ys)
    · exact .refl _
theorem srt_perm : ∀ xs : List α, (srt lt xs).Perm xs
  | [] => .refl _
  | x :: xs => (ins_perm x _).trans ((srt_perm xs).cons x)
theorem ins_sorted (as : ∀ a b, lt a b = true → lt b a = false) (tr : ∀ a b c, lt b a = false → lt c b = false → lt c a = false) (x : α) : ∀ ys : List α, ys.Pairwise (fun a b => lt b a = false) → (ins lt x ys).Pairwise (fun a b => lt b a = false)
  | [], _ => by simp [ins]
  | y :: ys, h => by
    rw [List.pairwise_cons] at h
    rw [ins]
    split
    · rename_i c
      rw [List.pairwise_cons]
      refine ⟨fun z hz => ?_, ins_sorted as tr x ys h.2⟩
      rcases List.mem_cons.mp ((ins_perm x ys).subset hz) with rfl | hz
      · exact as _ _ c
      · exact h.1 z hz
    · rename_i c
      have c : lt y x = false := by simpa using c
      rw [List.pairwise_cons, List.pairwise_cons]
      refine ⟨fun z hz => ?_, h⟩
      rcases List.mem_cons.mp hz with rfl | hz
      · exact c
      · exact tr _ _ _ c (h.1 z hz)
theorem srt_sorted (as : ∀ a b, lt a b = true → lt b a = false) (tr : ∀ a b c, lt b a = false → lt c b = false → lt c a = false) : ∀ xs : List α, (srt lt xs).Pairwise (fun a b => lt b a = false)
  | [] => .nil
  | x :: xs => ins_sorted as tr x _ (srt_sorted as tr xs)
/-- sorted by the keys of an order -/
theorem srt_kle {κ : KeyOrd} {kx : α → κ.α} (e : ∀ a b, lt a b = κ.blt (kx a) (kx b)) (xs : List α) : (srt lt xs).Pairwise (fun a b => κ.kle (kx a) (kx b)) := by
  have h := srt_sorted (lt := lt) (fun a b h => by rw [e] at h ⊢; exact KeyOrd.klt_asymm h) (fun a b c h1 h2 => by rw [e] at h1 h2 ⊢; exact KeyOrd.kle_trans (O := κ) (a := kx a) (b := kx b) (c := kx c) h1 h2) xs
  exact h.imp fun {a b} h => by rw [e] at h; exact h
end
theorem ltP_lex (x y : Str × Int) : ltP x y = lexLt itemOrd [Sum.inr x.1.cps.toList, Sum.inl x.2] [Sum.inr y.1.cps.toList, Sum.inl y.2] := by
  obtain ⟨x1, x2⟩ := x
  obtain ⟨y1, y2⟩ := y
  by_cases e : x1 = y1
  · subst e
    rw [lex_self]
    have h0 : ltS x1 x1 = false := by unfold ltS; simp [List.lt_irrefl]
    unfold ltP
    rw [h0]
    simp only [decide_true, Bool.true_and, Bool.false_or]
    by_cases h : x2 = y2
    · subst h; rw [lex_self]; simp; rfl
    · rw [lex_diff (fun z => h (Sum.inl.inj z))]; rfl
  · have hne : (Sum.inr x1.cps.toList : Int ⊕ List Nat) ≠ Sum.inr y1.cps.toList := fun z => e (by
      have := Array.toList_inj.mp (Sum.inr.inj z)
      cases x1; cases y1; simp only [Str.mk.injEq]; exact this)
    rw [lex_diff hne]
    unfold ltP
    simp only [e, decide_false, Bool.false_and, Bool.or_false]
    rfl
/-- the key of a plain thing -/
def kI : D → List Nat
  | .str s => s.cps.toList
  | _ => []
def kN : D → Int
  | .int i => i
  | _ => 0
def kT : D → List (Int ⊕ List Nat)
  | .tup [.str s, .int i] => [Sum.inr s.cps.toList, Sum.inl i]
  | _ => []
def encPr (p : Str × Int) : D := .tup [.str p.1, .int p.2]
theorem ints_map : ∀ {ds : List D} {is : List Int}, ints? ds = some is → ds = is.map .int
  | [], _, e => by cases e; rfl
  | d :: ds, is, e => by
    cases d <;> first | (simp [ints?] at e; done) | skip
    simp only [ints?, Option.map_eq_some_iff] at e
    obtain ⟨js, e1, rfl⟩ := e
    rw [ints_map e1]; rfl
theorem strs_map : ∀ {ds : List D} {is : List Str}, strs? ds = some is → ds = is.map .str
  | [], _, e => by cases e; rfl
  | d :: ds, is, e => by
    cases d <;> first | (simp [strs?] at e; done) | skip
    simp only [strs?, Option.map_eq_some_iff] at e
    obtain ⟨js, e1, rfl⟩ := e
    rw [strs_map e1]; rfl
theorem prs_map : ∀ {ds : List D} {is : List (Str × Int)}, prs? ds = some is → ds = is.map encPr
  | [], _, e => by cases e; rfl
  | d :: ds, is, e => by
    unfold prs? at e
    split at e
    · rename_i e0; cases e0
    · rename_i x i ds' e0
      cases e0
      obtain ⟨js, e1, rfl⟩ := Option.map_eq_some_iff.mp e
      rw [prs_map e1]; rfl
    · cases e
theorem ints_ok' {K : PySem.W.Frag} {ι : List Addr} {H : Hp} : ∀ {ds : List D} {is : List Int} {vs : List V}, ints? ds = some is → Reps K ι H ds vs → vs = is.map V.int
  | [], _, _, e, r => by cases e; cases r; rfl
  | d :: ds, is, vs, e, r => by
    obtain ⟨v, vr, rfl, r1, r2⟩ := r
    cases d <;> first | (simp [ints?] at e; done) | skip
    simp only [ints?, Option.map_eq_some_iff] at e
    obtain ⟨js, e1, rfl⟩ := e
    cases r1
    rw [ints_ok' e1 r2]; rfl
theorem strs_ok' {K : PySem.W.Frag} {ι : List Addr} {H : Hp} : ∀ {ds : List D} {is : List Str} {vs : List V}, strs? ds = some is → Reps K ι H ds vs → vs = is.map V.str
  | [], _, _, e, r => by cases e; cases r; rfl
  | d :: ds, is, vs, e, r => by
    obtain ⟨v, vr, rfl, r1, r2⟩ := r
    cases d <;> first | (simp [strs?] at e; done) | skip
    simp only [strs?, Option.map_eq_some_iff] at e
    obtain ⟨js, e1, rfl⟩ := e
    cases r1
    rw [strs_ok' e1 r2]; rfl
/-- two rows of the same things, both in order, are one -/
theorem sort_uniq {κ : KeyOrd} {kf : D → κ.α} {l r : List D} (hp : l.Perm r) (h1 : l.Pairwise (fun a b => κ.kle (kf a) (kf b))) (h2 : r.Pairwise (fun a b => κ.kle (kf a) (kf b))) (inj : ∀ a ∈ r, ∀ b ∈ r, kf a = kf b → a = b) : l = r :=
  List.Perm.eq_of_pairwise (fun a b ha hb q1 q2 => inj a (hp.subset ha) b hb (KeyOrd.kle_antisymm q1 q2)) h1 h2 hp
section
variable {X : Cx} {pins : List (Addr × Obj)} {s : Shared} {σ : L2.St} {H : Hp} {ι : List Addr}
/-- a row of values put otherwise -/
theorem reps_perm {K : PySem.W.Frag} {us out : List Value} (p : out.Perm us) : ∀ {ds : List D} {vs : List V}, Reps K ι H ds vs → Vals vs us → ∃ ds' vs', ds'.Perm ds ∧ Reps K ι H ds' vs' ∧ Vals vs' out := by
  induction p with
  | nil =>
    intro ds vs r v
    exact ⟨ds, vs, .refl _, r, v⟩
  | @cons u l1 l2 p ih =>
    intro ds vs r v
    cases v with
    | @cons x _ xs _ rx v =>
      cases ds with
      | nil => cases r
      | cons d ds =>
        obtain ⟨y, yr, e, r1, r2⟩ := r
        cases e
        obtain ⟨ds', vs', q1, q2, q3⟩ := ih r2 v
        exact ⟨d :: ds', x :: vs', q1.cons d, ⟨x, vs', rfl, r1, q2⟩, .cons rx q3⟩
  | swap a b l =>
    intro ds vs r v
    cases v with
    | @cons x _ xs _ rx v =>
      cases v with
      | @cons y _ ys _ ry v =>
        cases ds with
        | nil => cases r
        | cons d ds =>
          obtain ⟨_, _, e, r1, r2⟩ := r
          cases e
          cases ds with
          | nil => cases r2
          | cons e ds =>
            obtain ⟨_, _, e2, r3, r4⟩ := r2
            cases e2
            exact ⟨e :: d :: ds, y :: x :: ys, .swap d e ds, ⟨y, _, rfl, r3, x, _, rfl, r1, r4⟩, .cons ry (.cons rx v)⟩
  | trans p1 p2 ih1 ih2 =>
    intro ds vs r v
    obtain ⟨ds1, vs1, q1, q2, q3⟩ := ih2 r v
    obtain ⟨ds2, vs2, q4, q5, q6⟩ := ih1 q2 q3
    exact ⟨ds2, vs2, q4.trans q1, q5, q6⟩
theorem keys_at {κ : KeyKind} {K : PySem.W.Frag} {kf : D → κ.α} {H : Hp} : ∀ {ds : List D} {vs : List V} {us : List Value}, Reps K ι H ds vs → Vals vs us → (∀ d v u, d ∈ ds → Rep K ι H d v → RelV v u → κ.keyOf u = some (kf d)) →
    ∀ (i : Nat) (d : D) (u : Value), ds[i]? = some d → us[i]? = some u → κ.keyOf u = some (kf d) := by
  intro ds vs us r v h i d u e1 e2
  obtain ⟨x, ex, rx⟩ := r.get e1
  obtain ⟨u', eu, ru⟩ := v.get ex
  rw [e2] at eu
  cases eu
  exact h d x u (List.mem_of_getElem? e1) rx ru
/-- what a sort by keys told -/
theorem sort_out {κ : KeyKind} {K : PySem.W.Frag} {kf : D → κ.α} {us : List Value} {ds : List D} {vs : List V} {st' : SortSt} (r : Reps K ι H ds vs) (v : Vals vs us) (hk : ∀ d v u, d ∈ ds → Rep K ι H d v → RelV v u → κ.keyOf u = some (kf d))
    (hp : (arrOf st').Perm (pairsOf us)) (hs : SortedToK κ (arrOf st') (pairsOf us).size) : ∃ ds' vs', ds'.Perm ds ∧ Reps K ι H ds' vs' ∧ Vals vs' ((arrOf st').map (·.2)).toList ∧ ds'.Pairwise (fun a b => κ.kle (kf a) (kf b)) := by
  have hpl : (arrOf st').toList.Perm (us.zip us) := by
    have := Array.perm_iff_toList_perm.mp hp
    rw [pairsOf_toList] at this
    exact this
  have hsame : ∀ p ∈ (arrOf st').toList, p.1 = p.2 := fun p hp => (mem_zip_self (hpl.subset hp)).1
  have h2 : ((arrOf st').map (·.2)).toList.Perm us := by
    rw [Array.toList_map]
    have := hpl.map (·.2)
    rw [show (us.zip us).map (·.2) = us from by rw [List.map_snd_zip (Nat.le_refl _)]] at this
    exact this
  obtain ⟨ds', vs', q1, q2, q3⟩ := reps_perm h2 r v
  refine ⟨ds', vs', q1, q2, q3, ?_⟩
  have hk' : ∀ d v u, d ∈ ds' → Rep K ι H d v → RelV v u → κ.keyOf u = some (kf d) := fun d v u hd => hk d v u (q1.subset hd)
  have hlen : ds'.length = (arrOf st').size := by
    have e := q2.length.trans q3.length
    simpa using e
  have key : ∀ (i : Nat) (d : D), ds'[i]? = some d → KK κ (arrOf st') i = kf d := by
    intro i d e
    have hi : i < (arrOf st').size := by rw [← hlen]; exact (List.getElem?_eq_some_iff.mp e).1
    have e2 : ((arrOf st').map (·.2)).toList[i]? = some (arrOf st')[i].2 := by simp [hi]
    have e3 := keys_at q2 q3 hk' i d _ e e2
    unfold KK
    rw [Array.getElem?_eq_getElem hi]
    simp only
    rw [hsame (arrOf st')[i] (by simp), e3]
    rfl
  rw [List.pairwise_iff_getElem]
  intro i j hi hj hij
  have hsz : (pairsOf us).size = (arrOf st').size := hp.size_eq.symm
  have := hs i j (Nat.le_of_lt hij) (by rw [hsz, ← hlen]; exact hj)
  rw [key i _ (List.getElem?_eq_getElem hi), key j _ (List.getElem?_eq_getElem hj)] at this
  exact this
theorem collect_tup {A : Around} {E : Value → Shared → Prop} {s : Shared} {l : Addr} {vs : List Value} {Q : List Value → Shared → Prop} {prog : Program} {w : World} (hl : s.heap.IsTuple l vs.toArray)
    (h : Q vs { s with heap := (s.heap.push (seqObj "list" #[] 0)).update s.heap.objs.size (Obj.mapSeq (· ++ vs.toArray)) }) (hsz : vs.length ≤ sizeLine) : wpAny (model prog w) A (collect (.ref l)) Q E s := by
  obtain ⟨o, ho, hc, n, hd⟩ := id hl
  unfold collect
  refine wpAny_bind (wpAny_runValue (codeAny_builtin entry_proto_collect' ?_))
  show wpAny _ _ (newList [] >>= fun x => again (.builtin "list.__iadd__" ⟨[x, .ref l], []⟩)) _ _ s
  refine wpAny_bind (wpAny_newList (wpAny_pure ⟨Code.quiet_builtin _ (by decide +kernel), codeAny_builtin entry_list_iadd' ?_⟩))
  show wpAny _ _ (Builtin.List.listExtendWith (.ref s.heap.objs.size) (.ref l) (.ref s.heap.objs.size)) _ _ { s with heap := s.heap.push (seqObj "list" #[] 0) }
  unfold Builtin.List.listExtendWith
  have old : (s.heap.push (seqObj "list" #[] 0)).get? l = some o := Heap.get?_push_of_some _ ho
  refine wpAny_bind (wpAny_typeOf (T := "tuple") ⟨o, old, hc⟩ ?_)
  have ht : (Value.type "tuple" == Value.type "tuple") = true := by rfl
  rw [if_pos (by rw [ht]; simp)]
  refine wpAny_bind (listItems_at old hd ?_)
  refine wpAny_bind (listItems_at (xs := #[]) (n := 0) (Heap.get?_push_size _ rfl) rfl ?_)
  rw [if_neg (by simp)]
  refine wpAny_bind (listUpdate_at (xs := #[]) (n := 0) (Heap.get?_push_size _ rfl) rfl ?_ (Nat.zero_le _) (by show (#[] ++ vs.toArray).size ≤ sizeLine + 1; simp only [Array.size_append, List.size_toArray, List.length_nil]; omega))
  refine wpAny_pure ?_
  show wpAny (model prog w) A (load s.heap.objs.size >>= fun o => (match o.data with
      | .seq xs _ => pure xs.toList
      | _ => unsupported "internal:collect")) Q E { s with heap := (s.heap.push (seqObj "list" #[] 0)).update s.heap.objs.size (Obj.mapSeq (· ++ vs.toArray)) }
  refine wpAny_bind (wpAny_load (get?_update_seq (Heap.get?_push_size _ rfl) _) ?_)
  show wpAny _ _ (pure ((#[] : Array Value) ++ vs.toArray).toList) Q E _
  rw [show ((#[] : Array Value) ++ vs.toArray).toList = vs by simp]
  exact wpAny_pure h
theorem strs_are : ∀ {ss : List Str} {us : List Value}, Vals (ss.map V.str) us → StrsAre us ss
  | [], _, .nil => .nil
  | s :: ss, _, .cons r t => by
    obtain ⟨u, rfl⟩ := r
    exact .cons _ _ (strs_are t)
/-- what is collected, put in order -/
theorem sorted_run {a : Addr} {ds r : List D} {xs : List V} {Q : VK} (I : Inv X pins σ H s) (rs : Reps X.K ι H ds xs) (es : sortD ds = some r) (hz : ds.length ≤ sizeLine)
    (coll : ∀ {R : List Value → Shared → Prop}, (∀ us h' tk, Vals xs us → (∀ b o, s.heap.get? b = some o → h'.get? b = some o) → R us { s with heap := h', toks := tk }) → wpAny (model X.prog X.w) X.A.in1 (collect (.ref a)) R X.xe s)
    (hQ : ∀ p ys, H p = none → Reps X.K ι H r ys → Q (.ref p) (upd H p (.lst ys))) : wpAny (model X.prog X.w) X.A (call (.builtin "sorted") [.ref a]) (EP X pins σ Q) X.xe s := by
  refine Calls.call_function_entry PyProof.Rows.kind_sorted PyProof.Rows.plain_sorted PyProof.Rows.entry_sorted (PyProof.Rows.args_sorted1 _) ?_
  unfold Builtin.«sorted»
  refine wpAny_bind (m := checkCount "sorted" 1 1 _) (wpAny_pure ?_)
  refine wpAny_bind (coll fun us h' tk rv hk => ?_)
  have hul : us.length = ds.length := by rw [rs.length, rv.length]
  have I1 : Inv X pins σ H { s with heap := h', toks := tk } := I.kept hk
  refine wpAny_bind (wpAny_newList ?_ (by rw [hul]; exact hz))
  have hoL : (h'.push (seqObj "list" us.toArray 0)).get? h'.objs.size = some (seqObj "list" us.toArray 0) := Heap.get?_push_size _ rfl
  show wpAny _ _ _ _ _ { s with heap := h'.push (seqObj "list" us.toArray 0), toks := tk }
  have I2 : Inv X pins σ H { s with heap := h'.push (seqObj "list" us.toArray 0), toks := tk } := I1.kept fun b o e => Heap.get?_push_of_some _ e
  have done : ∀ (κ : KeyKind) (kf : D → κ.α), (∀ d v u, d ∈ ds → Rep X.K ι H d v → RelV v u → κ.keyOf u = some (kf d)) → r.Perm ds → r.Pairwise (fun a b => κ.kle (kf a) (kf b)) → (∀ a ∈ r, ∀ b ∈ r, kf a = kf b → a = b) →
      ∀ st' : SortSt, (arrOf st').Perm (pairsOf us) → SortedToK κ (arrOf st') (pairsOf us).size →
      EP X pins σ Q (.ref h'.objs.size) { s with heap := sortedHeap (h'.push (seqObj "list" us.toArray 0)) h'.objs.size us ((arrOf st').map (·.2)), toks := tk } := by
    intro κ kf hkey hperm hsort hinj st' hp hs
    obtain ⟨ds', ys, q1, q2, q3, q4⟩ := sort_out rs rv hkey hp hs
    have e := sort_uniq (q1.trans hperm.symm) q4 hsort hinj
    subst e
    obtain ⟨e', he'⟩ := PyProof.Rows.sortedHeap_at (vs := us) (out := (arrOf st').map (·.2)) hoL
    have hlen : ys.length ≤ sizeLine := by rw [← q2.length, q1.length_eq]; exact hz
    refine ⟨.ref h'.objs.size, _, I1.laid (t' := tk) (fun b u e => ?_) (Nat.le_refl _) (show ObjOk X.prog X.w _ _ _ (.lst ys) from ⟨hlen, ((arrOf st').map (·.2)).toList, e', q3, by rw [Array.toArray_toList]; exact he'⟩), rfl, hQ _ ys I1.fresh q2⟩
    have hb : b < h'.objs.size := Heap.lt_size e
    rw [PyProof.Rows.sortedHeap_old (Nat.ne_of_lt hb) (by rw [size_push']; exact Nat.lt_succ_of_lt hb)]
    exact Heap.get?_push_of_some _ e
  have keysOf : ∀ (κ : KeyKind) (kf : D → κ.α), (∀ d v u, d ∈ ds → Rep X.K ι H d v → RelV v u → κ.keyOf u = some (kf d)) → KeysOf κ (pairsOf us) := by
    intro κ kf hkey p hp
    rw [pairsOf_toList] at hp
    obtain ⟨e, hm⟩ := mem_zip_self hp
    obtain ⟨i, hi, ei⟩ := List.mem_iff_getElem.mp hm
    have hd : i < ds.length := by rw [← hul]; exact hi
    exact ⟨_, keys_at rs rv hkey i _ p.1 (List.getElem?_eq_getElem hd) (by rw [List.getElem?_eq_getElem hi, ei])⟩
  refine wpAny_bind (wpAny_holding (wpAny_call_entry PyProof.Rows.slot_list_sort ⟨_, hoL, rfl⟩ PyProof.Rows.entry_list_sort ?_ (PyProof.Rows.args_list_sort _)))
  unfold sortD at es
  split at es
  · rename_i is ei
    cases es
    have ed := ints_map ei
    have hkey : ∀ d v u, d ∈ ds → Rep X.K ι H d v → RelV v u → intKind.keyOf u = some (kN d) := by
      intro d v u hd rd ru
      rw [ed] at hd
      obtain ⟨i, _, rfl⟩ := List.mem_map.mp hd
      cases rd
      obtain ⟨t, rfl⟩ := ru
      rfl
    have rx : Vals (is.map V.int) us := by rw [← ints_ok' ei rs]; exact rv
    refine list_sort_treeKAny (s := { s with heap := h'.push (seqObj "list" us.toArray 0), toks := tk }) intKind_oneLt hoL (keysOf intKind kN hkey) (fun v₁ v₂ rest e => keyKind_ints (by rw [← e]; exact intsAre_of rx)) (by rw [hul]; exact hz) fun st' hp hs => ⟨_, rfl, wpAny_pure ⟨_, rfl, done intKind kN hkey ?_ ?_ ?_ st' hp hs⟩⟩
    · rw [ed]; exact (srt_perm is).map _
    · rw [List.pairwise_map]; exact srt_kle (κ := intKind.toKeyOrd) (kx := fun i => i) (fun _ _ => rfl) is
    · intro a ha b hb e
      obtain ⟨i, _, rfl⟩ := List.mem_map.mp ha
      obtain ⟨j, _, rfl⟩ := List.mem_map.mp hb
      exact congrArg D.int e
  · split at es
    · rename_i is ei
      cases es
      have ed := strs_map ei
      have hkey : ∀ d v u, d ∈ ds → Rep X.K ι H d v → RelV v u → strKind.keyOf u = some (kI d) := by
        intro d v u hd rd ru
        rw [ed] at hd
        obtain ⟨i, _, rfl⟩ := List.mem_map.mp hd
        cases rd
        obtain ⟨t, rfl⟩ := ru
        rfl
      have rx : Vals (is.map V.str) us := by rw [← strs_ok' ei rs]; exact rv
      refine list_sort_treeKAny (s := { s with heap := h'.push (seqObj "list" us.toArray 0), toks := tk }) strKind_oneLt hoL (keysOf strKind kI hkey) (fun v₁ v₂ rest e => keyKind_strs (by rw [← e]; exact strs_are rx)) (by rw [hul]; exact hz) fun st' hp hs => ⟨_, rfl, wpAny_pure ⟨_, rfl, done strKind kI hkey ?_ ?_ ?_ st' hp hs⟩⟩
      · rw [ed]; exact (srt_perm is).map _
      · rw [List.pairwise_map]; exact srt_kle (κ := strKind.toKeyOrd) (kx := fun s : Str => s.cps.toList) (fun _ _ => rfl) is
      · intro a ha b hb e
        obtain ⟨i, _, rfl⟩ := List.mem_map.mp ha
        obtain ⟨j, _, rfl⟩ := List.mem_map.mp hb
        have e : i.cps.toList = j.cps.toList := e
        have := Array.toList_inj.mp e
        cases i; cases j
        simp only [D.str.injEq, Str.mk.injEq]
        exact this
    · split at es
      · rename_i ps ei
        cases es
        have ed := prs_map ei
        have tupAt : ∀ (p : Str × Int) v u, Rep X.K ι H (encPr p) v → RelV v u → ∃ a o t t' n, u = .ref a ∧ (h'.push (seqObj "list" us.toArray 0)).get? a = some o ∧ o.cls = .type "tuple" ∧ o.data = .seq #[.str p.1 t, .int p.2 t'] n := by
          intro p v u rd ru
          obtain ⟨a, vs, rfl, hp, x, r1, rfl, rx, y, r2, rfl, ry, rfl⟩ := rd
          cases rx; cases ry
          cases ru
          obtain ⟨its, iv, ⟨o, ho, hc, n, hd⟩, _⟩ := I2.tuple hp.sq
          cases iv with
          | cons r1 iv =>
            cases iv with
            | cons r2 iv =>
              cases iv
              obtain ⟨t, rfl⟩ := r1
              obtain ⟨t', rfl⟩ := r2
              exact ⟨a, o, t, t', n, rfl, ho, hc, hd⟩
        have hkey : ∀ d v u, d ∈ ds → Rep X.K ι H d v → RelV v u → (G.tupKindC (h'.push (seqObj "list" us.toArray 0)) fun i => i == 0).keyOf u = some (kT d) := by
          intro d v u hd rd ru
          rw [ed] at hd
          obtain ⟨p, _, rfl⟩ := List.mem_map.mp hd
          obtain ⟨a, o, t, t', n, rfl, ho, hc, hdat⟩ := tupAt p v u rd ru
          show G.tupKeyC _ _ _ = _
          unfold G.tupKeyC
          have e1 : G.isTupObj (h'.push (seqObj "list" us.toArray 0)) (.ref a) = true := by
            simp only [G.isTupObj, ho, hc]
            rfl
          rw [if_pos e1]
          simp only [tupKey, ho, hdat]
          simp [tupItems, encPr, kT]
        have tups : ∀ {ds : List D} {xs : List V} {us' : List Value}, (∀ d ∈ ds, ∃ p, d = encPr p) → Reps X.K ι H ds xs → Vals xs us' → ∃ fs, TupsOf (h'.push (seqObj "list" us.toArray 0)) (fun i => i == 0) us' fs := by
          intro ds
          induction ds with
          | nil =>
            intro xs us' _ r v
            cases r; cases v
            exact ⟨[], .nil⟩
          | cons d ds ih =>
            intro xs us' hd r v
            obtain ⟨x, xr, rfl, r1, r2⟩ := r
            cases v with
            | cons v1 v2 =>
              obtain ⟨p, rfl⟩ := hd d List.mem_cons_self
              obtain ⟨fs, hf⟩ := ih (fun d hd' => hd d (List.mem_cons_of_mem _ hd')) r2 v2
              obtain ⟨a, o, t, t', n, rfl, ho, hc, hdat⟩ := tupAt p _ _ r1 v1
              exact ⟨_ :: fs, .cons ⟨a, o, _, n, rfl, ho, hc, hdat, rfl, (fun z => nomatch (show (true = false) from z)), fun _ => ⟨_, _, rfl⟩⟩ hf⟩
        obtain ⟨fs, hfs⟩ := tups (fun d hd => by rw [ed] at hd; obtain ⟨p, _, rfl⟩ := List.mem_map.mp hd; exact ⟨p, rfl⟩) rs rv
        refine G.list_sort_tups (s := { s with heap := h'.push (seqObj "list" us.toArray 0), toks := tk }) (shape := fun i => i == 0) hoL hfs (fun v hv => ?_) (by rw [hul]; exact hz) fun st' hp hs _ => ⟨_, rfl, wpAny_pure ⟨_, rfl, done _ kT hkey ?_ ?_ ?_ st' hp hs⟩⟩
        · obtain ⟨i, hi, ei⟩ := List.mem_iff_getElem.mp hv
          have hd : i < ds.length := by rw [← hul]; exact hi
          exact ⟨_, keys_at rs rv hkey i _ v (List.getElem?_eq_getElem hd) (by rw [List.getElem?_eq_getElem hi, ei])⟩
        · rw [ed]; exact (srt_perm ps).map _
        · rw [show (srt ltP ps).map (fun p => D.tup [.str p.1, .int p.2]) = (srt ltP ps).map encPr from rfl, List.pairwise_map]
          exact srt_kle (κ := listOrd itemOrd) (kx := fun p : Str × Int => [Sum.inr p.1.cps.toList, Sum.inl p.2]) ltP_lex ps
        · intro a ha b hb e
          obtain ⟨i, _, rfl⟩ := List.mem_map.mp ha
          obtain ⟨j, _, rfl⟩ := List.mem_map.mp hb
          obtain ⟨i1, i2⟩ := i
          obtain ⟨j1, j2⟩ := j
          have e : [Sum.inr i1.cps.toList, Sum.inl i2] = ([Sum.inr j1.cps.toList, Sum.inl j2] : List (Int ⊕ List Nat)) := e
          simp only [List.cons.injEq, Sum.inr.injEq, Sum.inl.injEq, and_true] at e
          have := Array.toList_inj.mp e.1
          cases i1; cases j1
          have := e.2
          simp_all
      · cases es
end
end BT

/-! Built-ins of one and two arguments. -/
namespace BT
open PySem PySem.Spec PyProof.Rows L2

section
variable {K : PySem.W.Frag} {w : World} {ι : List Addr} {H : Hp} {M : Sto}
theorem ints_ok : ∀ {ds : List D} {is : List Int} {vs : List V}, ints? ds = some is → Reps K ι H ds vs → vs = is.map V.int
  | [], _, _, e, r => by cases e; cases r; rfl
  | d :: ds, is, vs, e, r => by
    obtain ⟨v, vr, rfl, r1, r2⟩ := r
    cases d with
    | int i =>
      simp only [ints?, Option.map_eq_some_iff] at e
      obtain ⟨js, e1, rfl⟩ := e
      cases r1
      rw [ints_ok e1 r2]; rfl
    | _ => simp [ints?] at e
theorem bls_ok : ∀ {ds : List D} {is : List Bool} {vs : List V}, bls? ds = some is → Reps K ι H ds vs → vs = is.map V.bl
  | [], _, _, e, r => by cases e; cases r; rfl
  | d :: ds, is, vs, e, r => by
    obtain ⟨v, vr, rfl, r1, r2⟩ := r
    cases d with
    | bl i =>
      simp only [bls?, Option.map_eq_some_iff] at e
      obtain ⟨js, e1, rfl⟩ := e
      cases r1
      rw [bls_ok e1 r2]; rfl
    | _ => simp [bls?] at e
theorem strs_ok : ∀ {ds : List D} {is : List Str} {vs : List V}, strs? ds = some is → Reps K ι H ds vs → vs = is.map V.str
  | [], _, _, e, r => by cases e; cases r; rfl
  | d :: ds, is, vs, e, r => by
    obtain ⟨v, vr, rfl, r1, r2⟩ := r
    cases d with
    | str i =>
      simp only [strs?, Option.map_eq_some_iff] at e
      obtain ⟨js, e1, rfl⟩ := e
      cases r1
      rw [strs_ok e1 r2]; rfl
    | _ => simp [strs?] at e
theorem reps_ints : ∀ is : List Int, Reps K ι H (is.map .int) (is.map V.int)
  | [] => rfl
  | i :: is => ⟨_, _, rfl, rfl, reps_ints is⟩
theorem reps_strs : ∀ is : List Str, Reps K ι H (is.map .str) (is.map V.str)
  | [] => rfl
  | i :: is => ⟨_, _, rfl, rfl, reps_strs is⟩
/-- a list's or a tuple's items -/
theorem items_ok (S : StRep K w ι H M) {d : D} {x : V} {ds : List D} (r : Rep K ι H d x) (e : itemsOf M d = some ds) : ∃ a vs, x = .ref a ∧ (SqL K H a vs ∨ TupS H a vs) ∧ Reps K ι H ds vs := by
  cases d with
  | tup xs =>
    obtain ⟨a, vs, rfl, h, rs⟩ := r
    cases e
    exact ⟨a, vs, rfl, .inr h, rs⟩
  | ref k =>
    simp only [itemsOf] at e
    split at e
    · rename_i xs em
      cases e
      obtain ⟨a, vs, rfl, _, h, rs⟩ := S.lst r em
      exact ⟨a, vs, rfl, .inl (.of h), rs⟩
    · cases e
  | fl is =>
    obtain ⟨a, rfl, h⟩ := r
    cases e
    exact ⟨a, _, rfl, .inl h.seq, reps_ints is⟩
  | _ => simp [itemsOf] at e
end
section
variable {K : PySem.W.Frag} {w : World} {ι : List Addr} {H : Hp} {M : Sto}
/-- a dict's keys, as values -/
theorem dct_keys {kvs : List (D × D)} {es : List DictEntry} (pr : Paired (EntR K w ι H) kvs es) : ∃ vs, Reps K ι H (kvs.map (·.1)) vs ∧ Vals vs (es.map (·.key)) := by
  induction pr with
  | nil => exact ⟨[], rfl, .nil⟩
  | cons h _ ih =>
    obtain ⟨_, ⟨v, r, q⟩, _⟩ := h
    obtain ⟨vs, r2, q2⟩ := ih
    exact ⟨v :: vs, ⟨v, vs, rfl, r, r2⟩, .cons q q2⟩
end
section
variable {X : Cx}
theorem sorted_ok (hc : X.calm = true) {pins : List (Addr × Obj)} {s : Shared} {σ : L2.St} {H : Hp} {ι : List Addr} {M : Sto} {Q : VK} {a : D} {x : V} {u : Value} {ds r : List D} (I : Inv X pins σ H s) (S : StRep X.K X.w ι H M) (ra : Rep X.K ι H a x) (rx : RelV x u) (e : walkOf M a = some ds) (es : sortD ds = some r) (hz : ds.length ≤ sizeLine)
    (hQ : ∀ p ys, H p = none → Reps X.K ι H r ys → Q (.ref p) (upd H p (.lst ys))) : wpAny (model X.prog X.w) X.A (call (.builtin "sorted") [u]) (EP X pins σ Q) X.xe s := by
  have ofL : ∀ {p : Addr} {vs : List V}, SqL X.K H p vs → Reps X.K ι H ds vs → wpAny (model X.prog X.w) X.A (call (.builtin "sorted") [.ref p]) (EP X pins σ Q) X.xe s := fun {p vs} hp rr => by
    obtain ⟨its, iv, pl, hl⟩ := I.list hp
    have hil : its.length ≤ sizeLine := by rw [← iv.length]; exact hl
    refine sorted_run I rr es hz (fun {R} hR => PyProof.Rows.collect_list pl.isList (hR its _ s.toks iv fun b o eb => ?_) hil) hQ
    rw [Heap.get?_update_ne _ _ _ _ (Nat.ne_of_lt (Heap.lt_size eb))]
    exact Heap.get?_push_of_some _ eb
  have ofD : ∀ {k : Nat} {kvs : List (D × D)} {p : Addr} {o : HO}, Rd H p o → DctR X.K X.w ι H p kvs o → ds = kvs.map (·.1) → wpAny (model X.prog X.w) X.A (call (.builtin "sorted") [.ref p]) (EP X pins σ Q) X.xe s := fun {k kvs p o} rd dr ed => by
    obtain ⟨en, ep, _, ⟨o', ho, hx, hd⟩, lo, hl, ok, pr⟩ := dct_raw I rd dr
    obtain ⟨vs, r1, r2⟩ := dct_keys pr
    have hlen : en.size = kvs.length := by rw [Paired.length pr]; simp
    refine sorted_run I (by rw [ed]; exact r1) es hz (fun {R} hR => PySem.W.kdu_collect (kdl_raw (o := o') lo hx hd) (I.ok.hd hc) ho (by rw [hlen]; exact hl) fun h' tk acc hk hacc => ?_) hQ
    have ea : acc.toList = en.toList.map (·.key) := by
      refine List.ext_getElem? fun i => ?_
      by_cases hi : i < acc.size
      · have e1 : acc.toList[i]? = some acc[i] := by simp [hi]
        obtain ⟨en', e2, e3⟩ := hacc.2 i acc[i] (by simp [hi])
        rw [e1, List.getElem?_map]
        have e4 : en.toList[i]? = some en' := by simpa using e2
        rw [e4, e3]; rfl
      · rw [List.getElem?_eq_none (by simpa using hi), List.getElem?_eq_none (by simp; have := hacc.1; omega)]
    rw [ea]
    exact hR _ h' tk r2 hk
  cases a with
  | tup xs =>
    obtain ⟨p, vs, rfl, hp, rr⟩ := ra
    cases e
    cases rx
    obtain ⟨its, iv, pl, hl⟩ := I.tuple hp.sq
    have hil : its.length ≤ sizeLine := by rw [← iv.length]; exact hl
    refine sorted_run I rr es hz (fun {R} hR => collect_tup pl (hR its _ s.toks iv fun b o eb => ?_) hil) hQ
    rw [Heap.get?_update_ne _ _ _ _ (Nat.ne_of_lt (Heap.lt_size eb))]
    exact Heap.get?_push_of_some _ eb
  | fl is =>
    obtain ⟨p, rfl, hp⟩ := ra
    cases e
    cases rx
    exact ofL hp.seq (reps_ints is)
  | ref k =>
    simp only [walkOf] at e
    split at e
    · rename_i xs em
      cases e
      obtain ⟨p, vs, rfl, _, hp, rr⟩ := S.lst ra em
      cases rx
      exact ofL (.of hp) rr
    · rename_i kvs em
      cases e
      obtain ⟨p, o, rfl, _, rd, dr⟩ := S.dct ra (.inl em)
      cases rx
      exact ofD (k := k) rd dr rfl
    · rename_i kvs em
      cases e
      obtain ⟨p, o, rfl, _, rd, dr⟩ := S.dct ra (.inr em)
      cases rx
      exact ofD (k := k) rd dr rfl
    · cases e
  | _ => cases e
def f1V : F1 → Value
  | .len => .builtin "len" | .list => .type "list" | .tuple => .type "tuple" | .dict => .type "dict" | .int => .type "int" | .str => .type "str" | .ord => .builtin "ord"
  | .sorted => .builtin "sorted" | .sum => .builtin "sum" | .any => .builtin "any" | .all => .builtin "all" | .max => .builtin "max" | .min => .builtin "min" | .lenset => .builtin "len" | .sortset => .builtin "sorted"
def rF1 (K : PySem.W.Frag) (w : World) (f : F1) : List V → Hp → VK → Prop := fun xs H Q => ∃ ι M a x Xf, xs = [x] ∧ StRep K w ι H M ∧ Rep K ι H a x ∧ RC K w (Rep K) Xf ι H (f1D M f a) Q
theorem f1_ok (hu : X.A.units + 65 < cLine) (hc : X.calm = true) (f : F1) : CallR X (f1V f) (rF1 X.K X.w f) := by
  intro pins s σ H xs us Q I rs h
  obtain ⟨ι, M, a, x, Xf, rfl, S, ra, C⟩ := h
  obtain ⟨u, rfl, rx⟩ := vals1 rs
  cases f with
  | len =>
    cases a with
    | str z =>
      cases ra
      obtain ⟨c, C⟩ := C.pos
      exact call_len pins s σ H _ _ Q I (.cons rx .nil) ⟨_, _, rfl, ⟨fits_le c, rfl⟩, C.here S rfl⟩
    | tup ds =>
      obtain ⟨p, vs, rfl, hp, rr⟩ := ra
      exact call_len pins s σ H _ _ Q I (.cons rx .nil) ⟨_, vs.length, rfl, .inr ⟨vs, hp.sq, rfl⟩, C.here S (by rw [← rr.length]; rfl)⟩
    | fl is =>
      obtain ⟨p, rfl, hp⟩ := ra
      exact call_len pins s σ H _ _ Q I (.cons rx .nil) ⟨_, (is.map V.int).length, rfl, .inl ⟨_, hp.seq, rfl⟩, C.here S (by rw [List.length_map]; rfl)⟩
    | ref k =>
      simp only [f1D] at C
      split at C
      · rename_i ds em
        obtain ⟨p, vs, rfl, _, hp, rr⟩ := S.lst ra em
        exact call_len pins s σ H _ _ Q I (.cons rx .nil) ⟨_, vs.length, rfl, .inl ⟨vs, .of hp, rfl⟩, C.here S (by rw [← rr.length]; rfl)⟩
      · rename_i kvs em
        obtain ⟨p, o, rfl, _, rd, dr⟩ := S.dct ra (.inl em)
        cases rx
        exact dct_len I rd dr fun t s' I' => ⟨.int _, H, I', ⟨t, rfl⟩, C.here S rfl⟩
      · rename_i kvs em
        obtain ⟨p, o, rfl, _, rd, dr⟩ := S.dct ra (.inr em)
        cases rx
        exact dct_len I rd dr fun t s' I' => ⟨.int _, H, I', ⟨t, rfl⟩, C.here S rfl⟩
      · exact C.elim
    | _ => exact C.elim
  | list =>
    have C' : RC X.K X.w (Rep X.K) Xf ι H (match itemsOf M a with
      | some ds => newL M ds
      | none => .st) Q := by cases a <;> exact C
    split at C'
    · rename_i ds e
      obtain ⟨p, vs, rfl, hp, rr⟩ := items_ok S ra e
      exact call_list_of pins s σ H _ _ Q I (.cons rx .nil) ⟨p, vs, rfl, hp.elim .inl fun z => .inr z.sq, fun l hl => C'.newL S hl rr⟩
    · exact C'.elim
  | tuple =>
    have C' : RC X.K X.w (Rep X.K) Xf ι H (match itemsOf M a with
      | some ds => if fits ds.length then .ok (.tup ds) M else .st
      | none => .st) Q := by cases a <;> exact C
    split at C'
    · rename_i ds e
      obtain ⟨c, C'⟩ := C'.pos
      obtain ⟨p, vs, rfl, hp, rr⟩ := items_ok S ra e
      cases rx
      rcases hp with hp | hp
      · obtain ⟨its, iv, pl, hz⟩ := I.list hp
        have hlen := iv.length
        refine call_tuple_list pl.isList (fun h' kp => ?_) (by simp only [List.size_toArray] <;> omega)
        exact C'.tupEnd S (I.kept (t' := s.toks) kp) rr iv hz
      · obtain ⟨its, iv, pl, hz⟩ := I.tuple hp.sq
        exact call_tuple_same pl ⟨.ref p, H, I, rfl, C'.here S ⟨p, vs, rfl, hp, rr⟩⟩
    · exact C'.elim
  | dict =>
    have C' : RC X.K X.w (Rep X.K) Xf ι H (match a.notFl, (itemsOf M a).bind kvs? with
      | true, some kvs => if fits kvs.length then (match putAll [] kvs with
        | some m => new M (.dct m)
        | none => .st) else .st
      | _, _ => .st) Q := by cases a <;> exact C
    split at C'
    · rename_i kvs nf e
      obtain ⟨c, C'⟩ := C'.pos
      split at C'
      · rename_i m em
        obtain ⟨ds, e1, e2⟩ := Option.bind_eq_some_iff.mp e
        obtain ⟨p, vs, rfl, hp, rr⟩ := items_ok S ra e1
        cases rx
        refine dict_of (by omega) hc I hp rr e2 em (fits_le c) fun u s' I' n1 n2 dr => ⟨.ref _, _, I', rfl, ?_⟩
        have hf := I.fresh
        refine C' (ι ++ [s.heap.objs.size]) _ (.ref _) (grow_push hf) (S.push hf ⟨u, upd_same, dr.grow (grow_push hf)⟩) ⟨_, rfl, ?_⟩
        rw [← S.len, List.getElem?_append_right (Nat.le_refl _)]; simp
      · exact C'.elim
    · exact C'.elim
  | int =>
    cases a with
    | int i => cases ra; exact call_int1 pins s σ H _ _ Q I (.cons rx .nil) (.inl ⟨i, rfl, C.here S rfl⟩)
    | bl b => cases ra; exact call_int1 pins s σ H _ _ Q I (.cons rx .nil) (.inr ⟨b, rfl, C.here S rfl⟩)
    | str z =>
      cases ra
      simp only [f1D] at C
      split at C
      · rename_i n e
        obtain ⟨c, C⟩ := C.pos
        exact call_int_str pins s σ H _ _ Q I (.cons rx .nil) ⟨z, n, rfl, e, c, C.here S rfl⟩
      · exact C.elim
    | _ => exact C.elim
  | str =>
    cases a with
    | int i =>
      cases ra
      obtain ⟨c, C⟩ := C.pos
      exact call_str_int pins s σ H _ _ Q I (.cons rx .nil) ⟨i, rfl, c, C.here S rfl⟩
    | str z => cases ra; exact SkE.call_str_str pins s σ H _ _ Q I (.cons rx .nil) ⟨z, rfl, C.here S rfl⟩
    | _ => exact C.elim
  | ord =>
    cases a with
    | str z =>
      cases ra
      obtain ⟨c, C⟩ := C.pos
      exact call_ord pins s σ H _ _ Q I (.cons rx .nil) ⟨z, rfl, c, C.here S rfl⟩
    | _ => exact C.elim
  | sum =>
    cases a with
    | ref k =>
      simp only [f1D] at C
      split at C
      · rename_i ds em
        split at C
        · rename_i is e
          obtain ⟨p, vs, rfl, _, hp, rr⟩ := S.lst ra em
          have ev := ints_ok e rr
          subst ev
          exact cr_sum hc pins s σ H _ _ Q I (.cons rx .nil) ⟨p, is, rfl, .of hp, C.here S rfl⟩
        · exact C.elim
      · exact C.elim
    | _ => exact C.elim
  | any =>
    cases a with
    | ref k =>
      simp only [f1D] at C
      split at C
      · rename_i ds em
        split at C
        · rename_i is e
          obtain ⟨p, vs, rfl, _, hp, rr⟩ := S.lst ra em
          have ev := bls_ok e rr
          subst ev
          exact cr_any hc pins s σ H _ _ Q I (.cons rx .nil) ⟨p, is, rfl, .of hp, C.here S rfl⟩
        · exact C.elim
      · exact C.elim
    | _ => exact C.elim
  | all =>
    cases a with
    | ref k =>
      simp only [f1D] at C
      split at C
      · rename_i ds em
        split at C
        · rename_i is e
          obtain ⟨p, vs, rfl, _, hp, rr⟩ := S.lst ra em
          have ev := bls_ok e rr
          subst ev
          exact cr_all hc pins s σ H _ _ Q I (.cons rx .nil) ⟨p, is, rfl, .of hp, C.here S rfl⟩
        · exact C.elim
      · exact C.elim
    | _ => exact C.elim
  | sorted =>
    have C' : RC X.K X.w (Rep X.K) Xf ι H (match walkOf M a with
      | some ds => if fits ds.length then (match sortD ds with
        | some r => newL M r
        | none => .st) else .st
      | none => .st) Q := by cases a <;> exact C
    split at C'
    · rename_i ds e
      obtain ⟨c, C'⟩ := C'.pos
      split at C'
      · rename_i r es
        exact sorted_ok hc I S ra rx e es (fits_le c) fun p ys hp rr => C'.newL S hp rr
      · exact C'.elim
    · exact C'.elim
  | _ => cases a <;> exact C.elim
def f2V : F2 → Value
  | .max => .builtin "max" | .min => .builtin "min"
def rF2 (K : PySem.W.Frag) (w : World) (f : F2) : List V → Hp → VK → Prop := fun xs H Q => ∃ ι M a b x y Xf, xs = [x, y] ∧ StRep K w ι H M ∧ Rep K ι H a x ∧ Rep K ι H b y ∧ RC K w (Rep K) Xf ι H (Rs.of M (f2D f a b)) Q
theorem f2_ok (hc : X.calm = true) (f : F2) : CallR X (f2V f) (rF2 X.K X.w f) := by
  intro pins s σ H xs us Q I rs h
  obtain ⟨ι, M, a, b, x, y, Xf, rfl, S, ra, rb, C⟩ := h
  obtain ⟨d, e, C⟩ := C.opt'
  cases f with
  | max =>
    cases a <;> cases b <;> first
      | (simp [f2D] at e; done)
      | (cases ra; cases rb; cases e; exact call_max2 hc pins s σ H _ _ Q I rs ⟨_, _, rfl, C.here S rfl⟩)
  | min =>
    cases a <;> cases b <;> first
      | (simp [f2D] at e; done)
      | (cases ra; cases rb; cases e; exact call_min2 hc pins s σ H _ _ Q I rs ⟨_, _, rfl, C.here S rfl⟩)
end
end BT

/-! isinstance, methods. -/
namespace BT
open PySem PySem.Spec PyProof.Rows L2

section
variable {K : PySem.W.Frag} {w : World} {ι : List Addr} {H : Hp} {M : Sto}
def tyN : D → String
  | .non => "NoneType" | .bl _ => "bool" | .int _ => "int" | .str _ => "str" | .tup _ => "tuple" | .ref _ => "list" | .fl _ => "list"
theorem isi_ty (S : StRep K w ι H M) {t : Ty} {d : D} {x : V} {b : Bool} (r : Rep K ι H d x) (e : isiM M t d = some b) : TyX K H x (.type (tyN d)) := by
  cases d with
  | non => cases r; exact .base .non
  | bl b => cases r; exact .base (.bl b)
  | int i => cases r; exact .base (.int i)
  | str z => cases r; exact .base (.str z)
  | tup ds =>
    obtain ⟨a, vs, rfl, ⟨o, h, _⟩, _⟩ := r
    exact .fTuple h
  | ref k =>
    simp only [isiM] at e
    split at e
    · rename_i em
      obtain ⟨a, vs, rfl, _, h, _⟩ := S.lst r em
      exact .base (.lst h)
    · cases e
  | fl is =>
    cases t <;> simp [isiM, isiD] at e
def tyK : Ty → List String
  | .tuple => ["tuple"] | .str => ["str"] | .int => ["int"] | .bool => ["bool"] | .intstr => ["int", "str"]
theorem isi_one {t : Ty} {n : String} (hn : tyK t = [n]) {d : D} {b : Bool} (e : isiM M t d = some b) : PySem.W.kitOne K (.type (tyN d)) (.type n) = some b := by
  have key : ∀ {d' : D}, (∀ k, d' ≠ .ref k) → isiD t d' = some b → PySem.W.kitOne K (.type (tyN d')) (.type n) = some b := by
    intro d' nr e
    cases t <;> first | (simp [tyK] at hn; done) | skip
    all_goals
      simp only [tyK, List.cons.injEq, and_true] at hn
      subst hn
      cases d' <;> first
        | (exact absurd rfl (nr _))
        | (simp [isiD] at e; done)
        | (simp only [isiD, Option.some.injEq] at e; subst e; refine kit_ty ?_; dsimp only [tyN]; decide +kernel)
  cases d with
  | ref k =>
    simp only [isiM] at e
    split at e
    · cases e
      cases t <;> first | (simp [tyK] at hn; done) | (simp only [tyK, List.cons.injEq, and_true] at hn; subst hn; refine kit_ty ?_; dsimp only [tyN]; decide +kernel)
    · cases e
  | _ => exact key (fun _ q => nomatch q) (by simpa [isiM] using e)
theorem isi_two {d : D} {b : Bool} (e : isiM M .intstr d = some b) : PySem.W.kitAny K (.type (tyN d)) [.type "int", .type "str"] = some b := by
  have step : ∀ {t : String} {b1 b2 : Bool}, kitB t "int" = some b1 → kitB t "str" = some b2 → (b1 = true → b = true) → (b1 = false → b2 = b) → PySem.W.kitAny K (.type t) [.type "int", .type "str"] = some b := by
    intro t b1 b2 h1 h2 h3 h4
    refine kitAny_cons (kit_ty h1) (fun q => ?_) h3
    have := h4 q
    subst this
    refine kitAny_cons (kit_ty h2) (fun q => ?_) (fun q => q)
    rw [q]; exact kitAny_nil
  cases d with
  | ref k =>
    simp only [isiM] at e
    split at e
    · cases e
      exact step (t := "list") (b1 := false) (b2 := false) (by decide +kernel) (by decide +kernel) (fun q => q) (fun _ => rfl)
    · cases e
  | non => cases e; exact step (t := "NoneType") (b1 := false) (b2 := false) (by decide +kernel) (by decide +kernel) (fun q => q) (fun _ => rfl)
  | bl _ => cases e; exact step (t := "bool") (b1 := true) (b2 := false) (by decide +kernel) (by decide +kernel) (fun q => q) (fun q => by cases q)
  | int _ => cases e; exact step (t := "int") (b1 := true) (b2 := false) (by decide +kernel) (by decide +kernel) (fun q => q) (fun q => by cases q)
  | str _ => cases e; exact step (t := "str") (b1 := false) (b2 := true) (by decide +kernel) (by decide +kernel) (fun q => by cases q) (fun _ => rfl)
  | tup _ => cases e; exact step (t := "tuple") (b1 := false) (b2 := false) (by decide +kernel) (by decide +kernel) (fun q => q) (fun _ => rfl)
  | fl _ => simp [isiM, isiD] at e
end

/-! ### methods -/
section
variable {X : Cx} {o e : Expr} {es : List Expr} {to : TE} {t : TA} {name : Str} {apos cpos : Pos} {T id : String} {r : V → List V → Hp → VK → Prop}
/-- o.m(..) of a built-in type T, its being so told by ty -/
theorem pe_bmG {ty : V → Hp → Prop} (pa : PlainAttrs T) (slot : Slot T name id) (hty : typeOf (.builtin id) = pure (.type "method_descriptor"))
    (tyok : ∀ (pins : List (Addr × Obj)) (s : Shared) (σ : L2.St) (H : Hp) (x : V) (v : Value), Inv X pins σ H s → RelV x v → ty x H → s.TypeIs v T ∧ ∀ a, v = .ref a → ∃ ob, s.heap.get? a = some ob ∧ ob.dict = none)
    (hm : MtR X id r) (ho : PE X o to) (ha : PA X (e :: es) t) (hbase : attributeBase o name X.env (eval o X.env) = eval o X.env)
    (hfew : ((backTo cpos (starEach (e :: es) X.env)).all (fun x => !x.1) && (backToKw cpos (keywordEach [] X.env)).all (fun x => x.1.isSome)
      && decide ((e :: es).length + ([] : List Keyword).length + (if ([] : List Keyword).isEmpty then 0 else 1) < 30)) = true)
    (hline : (apos.endLine == cpos.line) = true) (hs : starEach (e :: es) X.env = (false, eval e X.env) :: starEach es X.env) (hplain : (backTo cpos (starEach es X.env)).any (·.1) = false) :
    PE X (.Call (.Attribute o name apos) (e :: es) [] cpos) (fun σ H Q => to σ H fun x H1 => ty x H1 ∧ t σ H1 fun xs H2 => r x xs H2 Q) :=
  ⟨fun pins s σ H Q I h => wpAny_Call_method_late hbase hfew hline rfl (thn (ho.run pins s σ H _ I h) fun v s1 ⟨x, H1, I1, r1, q0, q1⟩ => by
    obtain ⟨h1, h2⟩ := tyok pins s1 σ H1 x v I1 r1 q0
    refine ⟨T, id, pa, slot, hty, h1, h2, ?_⟩
    have run := ha.run cpos pins s1 σ H1 _ I1 q1
    rw [hs] at run ⊢
    have np : ((false, eval e X.env) :: backTo cpos (starEach es X.env)).any (·.1) = false := by rw [List.any_cons, hplain]; rfl
    exact Calls.callWith_builtin np (Calls.evalArgs_plain (thn run fun us s2 ⟨vs, H2, I2, r2, q2⟩ => hm pins s2 σ H2 x vs v us Q I2 r1 r2 q2)))⟩
def rM0 (K : PySem.W.Frag) (w : World) (m : M0) : V → List V → Hp → VK → Prop := fun x xs H Q => ∃ ι M a Xf, xs = [] ∧ StRep K w ι H M ∧ Rep K ι H a x ∧ RC K w (Rep K) Xf ι H (m0D M m a) Q
def rM1 (K : PySem.W.Frag) (w : World) (m : M1) : V → List V → Hp → VK → Prop := fun x xs H Q => ∃ ι M a b y Xf, xs = [y] ∧ StRep K w ι H M ∧ Rep K ι H a x ∧ Rep K ι H b y ∧ RC K w (Rep K) Xf ι H (m1D M m a b) Q
def rM2 (K : PySem.W.Frag) (w : World) (m : M2) : V → List V → Hp → VK → Prop := fun x xs H Q => ∃ ι M a b c y z Xf, xs = [y, z] ∧ StRep K w ι H M ∧ Rep K ι H a x ∧ Rep K ι H b y ∧ Rep K ι H c z ∧ RC K w (Rep K) Xf ι H (m2D M m a b c) Q
/-- a list is changed -/
theorem RC.write {K : PySem.W.Frag} {w : World} {ι : List Addr} {H : Hp} {M : Sto} {Xf : Str → Hp → Prop} {Q : V → Hp → Prop} {k : Nat} {a : Addr} {vs vs' : List V} {ds' : List D} {d : D} {v : V} (C : RC K w (Rep K) Xf ι H (.ok d (M.set k (.lst ds'))) Q) (S : StRep K w ι H M) (ek : ι[k]? = some a) (ha : H a = some (.lst vs))
    (r : Reps K ι H ds' vs') (rd : Rep K ι H d v) : Q v (upd H a (.lst vs')) := by
  have g : Grow ι H ι (upd H a (.lst vs')) := grow_write (List.mem_of_getElem? ek) ha (fun _ q => nomatch q) (fun _ _ q => nomatch q)
  exact C ι _ v g (S.write ek ha (fun _ q => nomatch q) (fun _ _ q => nomatch q) ⟨vs', upd_same, Reps.grow g _ _ r⟩) (Rep.grow g _ _ rd)
theorem append_ok : MtR X "list.append" (rM1 X.K X.w .append) := by
  intro pins s σ H x xs v us Q I rx rs h
  obtain ⟨ι, M, a, b, y, Xf, rfl, S, ra, rb, C⟩ := h
  cases a with
  | ref k =>
    simp only [m1D] at C
    split at C
    · rename_i ds em
      obtain ⟨c, C⟩ := C.pos
      obtain ⟨p, vs, rfl, ek, hp, rr⟩ := S.lst ra em
      exact mt_append pins s σ H _ _ v us Q I rx rs ⟨p, vs, y, rfl, rfl, hp, by rw [← rr.length]; exact c, C.write S ek hp (rr.append (Reps.one rb)) rfl⟩
    · exact C.elim
  | _ => cases b <;> exact C.elim
theorem extend_ok : MtR X "list.extend" (rM1 X.K X.w .extend) := by
  intro pins s σ H x xs v us Q I rx rs h
  obtain ⟨ι, M, a, b, y, Xf, rfl, S, ra, rb, C⟩ := h
  cases a with
  | ref k =>
    cases b with
    | ref j =>
      simp only [m1D] at C
      split at C
      · rename_i ds es e1 e2
        obtain ⟨c, C⟩ := C.pos
        obtain ⟨p, vs, rfl, ek, hp, rr⟩ := S.lst ra e1
        obtain ⟨q, ws, rfl, ej, hq, rr2⟩ := S.lst rb e2
        exact mt_extend pins s σ H _ _ v us Q I rx rs ⟨p, q, vs, ws, rfl, rfl, hp, hq, by rw [← rr.length, ← rr2.length]; exact fits_le c, C.write S ek hp (rr.append rr2) rfl⟩
      · exact C.elim
    | _ => exact C.elim
  | _ => cases b <;> exact C.elim
theorem pop_ok : MtR X "list.pop" (rM0 X.K X.w .pop) := by
  intro pins s σ H x xs v us Q I rx rs h
  obtain ⟨ι, M, a, Xf, rfl, S, ra, C⟩ := h
  cases a with
  | ref k =>
    simp only [m0D] at C
    split at C
    · rename_i ds em
      split at C
      · rename_i d el
        obtain ⟨p, vs, rfl, ek, hp, rr⟩ := S.lst ra em
        have hl : ds[ds.length - 1]? = some d := by rw [← List.getLast?_eq_getElem?]; exact el
        obtain ⟨y, hy, ry⟩ := rr.get hl
        rw [rr.length] at hy
        exact mt_pop pins s σ H _ _ v us Q I rx rs ⟨p, vs, y, rfl, rfl, hp, hy, C.write S ek hp rr.dropLast ry⟩
      · exact C.elim
    · exact C.elim
  | _ => exact C.elim
theorem popat_ok : MtR X "list.pop" (rM1 X.K X.w .popat) := by
  intro pins s σ H x xs v us Q I rx rs h
  obtain ⟨ι, M, a, b, y, Xf, rfl, S, ra, rb, C⟩ := h
  cases a with
  | ref k =>
    cases b with
    | int i =>
      cases rb
      simp only [m1D] at C
      split at C
      · rename_i ds em
        obtain ⟨c, C⟩ := C.pos
        subst c
        cases ds with
        | cons d r =>
          obtain ⟨p, vs, rfl, ek, hp, rr⟩ := S.lst ra em
          obtain ⟨v0, vr, rfl, r1, r2⟩ := rr
          exact mt_popAt pins s σ H _ _ v us Q I rx rs ⟨p, v0 :: vr, 0, 0, v0, rfl, rfl, hp, by decide, by decide, by simp [seqIndex?], rfl, C.write S ek hp r2 r1⟩
        | nil => exact C.elim
      · exact C.elim
    | _ => exact C.elim
  | _ => cases b <;> exact C.elim
theorem get_ok (hu : X.A.units + 16 < cLine) : MtR X "dict.get" (rM2 X.K X.w .get) := by
  intro pins s σ H x xs v us Q I rx rs h
  obtain ⟨ι, M, a, b, c, y, z, Xf, rfl, S, ra, rb, rc, C⟩ := h
  cases rs with
  | cons q1 rs =>
    cases rs with
    | cons q2 rs =>
      cases rs
      cases a with
      | ref k =>
        simp only [m2D] at C
        split at C
        · rename_i kvs em
          obtain ⟨f, C⟩ := C.pos
          obtain ⟨p, u, rfl, _, rd, dr⟩ := S.dct ra (.inl em)
          cases rx
          exact dct_get2 hu I rd dr f rb q1 rc q2 fun v' w' s' I' r1 r2 => ⟨v', H, I', r2, C.here S r1⟩
        · rename_i kvs em
          obtain ⟨f, C⟩ := C.pos
          obtain ⟨p, u, rfl, _, rd, dr⟩ := S.dct ra (.inr em)
          cases rx
          exact dct_get2 hu I rd dr f rb q1 rc q2 fun v' w' s' I' r1 r2 => ⟨v', H, I', r2, C.here S r1⟩
        · exact C.elim
      | _ => exact C.elim
/-- what is a list, a dict -/
def isL (K : PySem.W.Frag) (w : World) (x : V) (H : Hp) : Prop := ∃ ι M k ds, StRep K w ι H M ∧ Rep K ι H (.ref k) x ∧ M[k]? = some (.lst ds)
def isDct (K : PySem.W.Frag) (w : World) (x : V) (H : Hp) : Prop := ∃ ι M k kvs, StRep K w ι H M ∧ Rep K ι H (.ref k) x ∧ (M[k]? = some (.dct kvs) ∨ M[k]? = some (.dlk kvs))
theorem isL_ok (pins : List (Addr × Obj)) (s : Shared) (σ : L2.St) (H : Hp) (x : V) (v : Value) (I : Inv X pins σ H s) (r : RelV x v) (h : isL X.K X.w x H) : s.TypeIs v "list" ∧ ∀ a, v = .ref a → ∃ ob, s.heap.get? a = some ob ∧ ob.dict = none := by
  obtain ⟨ι, M, k, ds, S, ra, em⟩ := h
  obtain ⟨p, vs, rfl, _, hp, _⟩ := S.lst ra em
  exact tyV_is I r (.inl ⟨rfl, vs, .of hp⟩)
theorem isDct_ok (pins : List (Addr × Obj)) (s : Shared) (σ : L2.St) (H : Hp) (x : V) (v : Value) (I : Inv X pins σ H s) (r : RelV x v) (h : isDct X.K X.w x H) : s.TypeIs v "dict" ∧ ∀ a, v = .ref a → ∃ ob, s.heap.get? a = some ob ∧ ob.dict = none := by
  obtain ⟨ι, M, k, kvs, S, ra, em⟩ := h
  obtain ⟨p, u, rfl, _, rd, dr⟩ := S.dct ra em
  cases r
  exact dct_typeIs I rd dr
end
end BT

/-! The program's text against the small language. -/
namespace BT
open PySem PySem.Spec PyProof.Rows L2

/-! ### what holds of most expressions -/
def plainE : Expr → Bool
  | .Starred .. => false | .Slice .. => false | .Set .. => false
  | _ => true
theorem star_plain {e : Expr} {es : List Expr} {env : PySem.Env} (h : plainE e = true) : starEach (e :: es) env = (false, eval e env) :: starEach es env := by
  cases e <;> first | rfl | cases h
theorem star_any {cpos : Pos} {env : PySem.Env} : ∀ {es : List Expr}, es.all plainE = true → (backTo cpos (starEach es env)).any (·.1) = false
  | [], _ => rfl
  | e :: es, h => by
    rw [List.all_cons, Bool.and_eq_true] at h
    rw [star_plain h.1]
    show ((false, _) :: backTo cpos (starEach es env)).any (·.1) = false
    rw [List.any_cons, star_any h.2]; rfl
theorem star_few {cpos : Pos} {env : PySem.Env} : ∀ {es : List Expr}, es.all plainE = true → (backTo cpos (starEach es env)).all (fun x => !x.1) = true
  | [], _ => rfl
  | e :: es, h => by
    rw [List.all_cons, Bool.and_eq_true] at h
    rw [star_plain h.1]
    show ((false, _) :: backTo cpos (starEach es env)).all (fun x => !x.1) = true
    rw [List.all_cons, star_few h.2]; rfl
theorem plain_ix {b : Expr} (h : plainE b = true) : PlainIx b := by
  intro o i
  cases b <;> first | rfl | cases h
theorem plain_fold {iter : Expr} {env : PySem.Env} {x : Value} (h : plainE iter = true) : foldedSetIterable iter env x = pure x := by
  cases iter <;> first | rfl | cases h
theorem plain_mark {op : CmpOp} {b : Expr} (h : plainE b = true) : behindInMarks op b = false := by
  cases b <;> first | rfl | cases h
/-- no call without arguments -/
def plainO : Expr → Bool
  | .Call (.Name _ _) [] [] _ => false
  | _ => true
theorem plain_base {o : Expr} {name : Str} {env : PySem.Env} {t : Sem Value} (h : plainO o = true) : attributeBase o name env t = t := by
  unfold attributeBase
  split
  · rename_i e; cases h
  · rfl
/-- a test is its value's truth -/
def plainT : Expr → Bool
  | .UnaryOp .Not _ _ => false | .BoolOp .. => false | .IfExp .. => false | .Compare .. => false
  | _ => true
theorem plain_true {a : Expr} {env : PySem.Env} (h : plainT a = true) (whole : Sem Value) : isTrue a env whole = (do let v ← whole; standAt a.pos; holding [v] (truthy v)) := by
  cases a with
  | UnaryOp op x p => cases op <;> first | rfl | cases h
  | _ => first | rfl | cases h
def notComp : Expr → Bool
  | .ListComp .. => false | .SetComp .. => false | .DictComp .. => false
  | _ => true
theorem swaps_plain {e : Expr} {tg : Option Expr} {l : Nat} {env : PySem.Env} (h : notComp e = true) : swapsWith e tg l env = pure false := by
  cases e <;> first | rfl | cases h
def notTup : Expr → Bool
  | .Tuple .. => false
  | _ => true
theorem stores_plain {tg e : Expr} {env : PySem.Env} (h : notTup e = true) : swappedStores [tg] e env = pure none := by
  cases e <;> first | (cases tg <;> rfl) | cases h

/-! ### names -/
def visB (sc : Scope) (x : Str) : Bool := match sc.names.lookup x with
  | some .local => true | some .cell => true | some .free => true
  | _ => false
def locB (sc : Scope) (x : Str) : Bool := match sc.names.lookup x with
  | some .local => true | some .cell => true
  | _ => false
def glB (sc : Scope) (x : Str) : Bool := match sc.names.lookup x with
  | some .globalImplicit => true
  | _ => false
theorem visB_ok {sc : Scope} {x : Str} (h : visB sc x = true) : Vis sc x := by
  unfold visB at h
  split at h
  · rename_i e; exact .inl e
  · rename_i e; exact .inr (.inl e)
  · rename_i e; exact .inr (.inr e)
  · cases h
theorem locB_ok {sc : Scope} {x : Str} (h : locB sc x = true) : Loc sc x := by
  unfold locB at h
  split at h
  · rename_i e; exact .inl e
  · rename_i e; exact .inr e
  · cases h
theorem glB_ok {sc : Scope} {x : Str} (h : glB sc x = true) : sc.names.lookup x = some .globalImplicit := by
  unfold glB at h
  split at h
  · rename_i e; exact e
  · cases h
def okN (x : Str) : Bool := decide ((x == ("__debug__" : Str)) = false) && decide ((x == ("__classdict__" : Str)) = false) && decide (x ≠ ("__name__" : Str))

/-- what is known of a def's text: the slots, the scope, the cells of its own, the defs that may be called, the module's constants -/
structure Sta where
  N : List Str
  sc : Scope
  fb : Str → Bool
  fs : List Str
  cs : List (Str × Const)
def Sta.blk (S : Sta) (scope : Scope) : Sta := { S with sc := relS scope S.sc, fb := fun x => scope.names.lookup x == some .cell }
def blkB (S : Sta) (scope : Scope) (own : List (Str × Nat)) : Bool :=
  decide (scope.kind = .function) && (scope.names.all fun y => decide (scope.names.lookup y.1 = some y.2)) && (own.all fun p => decide (S.N[p.2]? = some p.1))
    && (scope.names.all fun y => decide (y.2 ≠ .free) || decide (S.sc.names.lookup y.1 = some .cell) || decide (S.sc.names.lookup y.1 = some .free))
    && (scope.names.all fun y => (decide (y.2 ≠ .local) && decide (y.2 ≠ .cell)) || decide (y.1 ∈ own.map (·.1)) || decide (y.1 ∉ S.N))
theorem blkB_ok {S : Sta} {scope : Scope} {own : List (Str × Nat)} (h : blkB S scope own = true) : BlkOk S.N S.sc scope own := by
  unfold blkB at h
  simp only [Bool.and_eq_true, List.all_eq_true, decide_eq_true_eq, Bool.or_eq_true] at h
  obtain ⟨⟨⟨⟨h1, h2⟩, h3⟩, h4⟩, h5⟩ := h
  refine ⟨h1, h2, h3, fun y hy e => ?_, fun y hy e => ?_⟩
  · rcases h4 y hy with (q | q) | q
    · exact absurd e q
    · exact .inl q
    · exact .inr q
  · rcases h5 y hy with (q | q) | q
    · rcases e with e | e
      · exact absurd e q.1
      · exact absurd e q.2
    · exact .inl q
    · exact .inr q

/-! ### the check -/
def tgIdx : Tg → List Nat
  | .nm i => [i]
  | .tup ts => tgsIdx ts
where tgsIdx : List Tg → List Nat
  | [] => []
  | t :: ts => tgIdx t ++ tgsIdx ts
mutual
def chkTg (S : Sta) : Tg → Expr → Bool
  | .nm i => fun e => match e with
    | .Name x _ => decide (S.N[i]? = some x) && locB S.sc x && (S.fb x || decide (S.sc.names.lookup x = some .local))
    | _ => false
  | .tup ts => fun e => match e with
    | .Tuple es _ _ => chkTgs S ts es
    | _ => false
def chkTgs (S : Sta) : List Tg → List Expr → Bool
  | [] => fun es => match es with
    | [] => true
    | _ => false
  | t :: ts => fun es => match es with
    | e :: es => chkTg S t e && chkTgs S ts es
    | _ => false
end
def f1N : F1 → Option Str
  | .len => some "len" | .list => some "list" | .tuple => some "tuple" | .dict => some "dict" | .int => some "int" | .str => some "str" | .ord => some "ord"
  | .sorted => some "sorted" | .sum => some "sum" | .any => some "any" | .all => some "all" | .max => some "max" | .min => some "min" | .lenset => none | .sortset => none
def f2N : F2 → Str
  | .max => "max" | .min => "min"
def m0N : M0 → Option (Str × String)
  | .pop => some ("pop", "list.pop")
  | .upper => none
def m1N : M1 → Option (Str × String)
  | .append => some ("append", "list.append") | .extend => some ("extend", "list.extend") | .popat => some ("pop", "list.pop") | .count => some ("count", "list.count")
  | _ => none
def bltN : List Str := ["len", "list", "tuple", "dict", "int", "str", "ord", "sorted", "sum", "any", "all", "max", "min", "set", "isinstance", "range", "enumerate", "zip", "bool"]
def isTupE : Expr → Bool
  | .Tuple .. => true
  | _ => false
def tyS : Ty → Str
  | .tuple => "tuple" | .str => "str" | .int => "int" | .bool => "bool" | .intstr => "int"
def nmB (S : Sta) (n : Str) (e : Expr) : Bool := match e with
  | .Name x _ => decide (x = n) && glB S.sc n
  | _ => false
def cmpB (c : Cm) (op : CmpOp) : Bool := decide (op = cmO c)
mutual
def chkE (S : Sta) : Ex → Expr → Bool
  | .var i => fun e => match e with
    | .Name x _ => decide (S.N[i]? = some x) && visB S.sc x && okN x
    | _ => false
  | .cint i => fun e => match e with
    | .Constant (.int j) _ _ => decide (i = j)
    | _ => false
  | .cstr z => fun e => match e with
    | .Constant (.str y) _ _ => decide (z = y)
    | _ => false
  | .cbl b => fun e => match e with
    | .Constant (.bool c) _ _ => decide (b = c)
    | _ => false
  | .cnon => fun e => match e with
    | .Constant .none _ _ => true
    | _ => false
  | .gint x i => fun e => match e with
    | .Name y _ => decide (x = y) && glB S.sc x && okN x && decide (S.cs.lookup x = some (.int i))
    | _ => false
  | .gstr x z => fun e => match e with
    | .Name y _ => decide (x = y) && glB S.sc x && okN x && decide (S.cs.lookup x = some (.str z))
    | _ => false
  | .tup es => fun e => match e with
    | .Tuple xs _ _ => chkEs S es xs
    | _ => false
  | .lst es => fun e => match e with
    | .List xs _ => chkEs S es xs
    | _ => false
  | .dct0 => fun e => match e with
    | .Dict [] [] _ => true
    | _ => false
  | .dct1 _ _ => fun _ => false
  | .bin o a b => fun e => match e with
    | .BinOp x op y _ => decide (op = opO o) && chkE S a x && chkE S b y
    | _ => false
  | .neg a => fun e => match e with
    | .UnaryOp .USub x _ => chkE S a x
    | _ => false
  | .cmp c a b => fun e => match e with
    | .Compare x [op] [y] _ => cmpB c op && plainE y && chkE S a x && chkE S b y
    | _ => false
  | .chn c c' a b d => fun e => match e with
    | .Compare x [op, op'] [y, z] _ => cmpB c op && cmpB c' op' && plainE z && chkE S a x && chkE S b y && chkE S d z
    | _ => false
  | .and a b => fun e => match e with
    | .BoolOp .And [x, y] _ => chkE S a x && chkE S b y
    | .BoolOp .And (x :: y :: z :: r) p => chkE S a x && chkE S b (.BoolOp .And (y :: z :: r) p)
    | _ => false
  | .or a b => fun e => match e with
    | .BoolOp .Or [x, y] _ => chkE S a x && chkE S b y
    | .BoolOp .Or (x :: y :: z :: r) p => chkE S a x && chkE S b (.BoolOp .Or (y :: z :: r) p)
    | _ => false
  | .not a => fun e => match e with
    | .UnaryOp .Not x _ => chkE S a x
    | _ => false
  | .ite c a b => fun e => match e with
    | .IfExp z x y _ => chkE S c z && chkE S a x && chkE S b y
    | _ => false
  | .idx a b => fun e => match e with
    | .Subscript x y _ => plainE y && chkE S a x && chkE S b y
    | _ => false
  | .slc a lo hi => fun e => match e with
    | .Subscript x (.Slice l h none _) _ => chkE S a x && chkO S lo l && chkO S hi h
    | _ => false
  | .rev _ => fun _ => false
  | .call f es => fun e => match e with
    | .Call (.Name x _) (y :: ys) [] _ => decide (x = f) && glB S.sc x && okN x && decide (f ∈ S.fs) && chkEs S es (y :: ys)
    | _ => false
  | .f1 f a => fun e => match e with
    | .Call (.Name x _) [y] [] _ => decide (f1N f = some x) && glB S.sc x && plainE y && chkE S a y
    | _ => false
  | .f2 f a b => fun e => match e with
    | .Call (.Name x _) [y, z] [] _ => decide (f2N f = x) && glB S.sc x && plainE y && plainE z && chkE S a y && chkE S b z
    | _ => false
  | .isi a t => fun e => match e with
    | .Call (.Name x _) [y, c] [] _ => decide (x = ("isinstance" : Str)) && glB S.sc x && plainE y && chkE S a y && (match t with
      | .intstr => (match c with
        | .Tuple [d, d'] _ _ => nmB S "int" d && nmB S "str" d'
        | _ => false)
      | t => nmB S (tyS t) c)
    | _ => false
  | .m0 m a => fun e => match e with
    | .Call (.Attribute x n p) [] [] p' => decide ((m0N m).map (·.1) = some n) && decide (p.endLine = p'.line) && plainO x && chkE S a x
    | _ => false
  | .m1 m a b => fun e => match e with
    | .Call (.Attribute x n p) [y] [] p' => decide ((m1N m).map (·.1) = some n) && decide (p.endLine = p'.line) && plainO x && plainE y && chkE S a x && chkE S b y
    | _ => false
  | .m2 m a b c => fun e => match e with
    | .Call (.Attribute x n p) [y, z] [] p' => decide (n = ("get" : Str)) && decide (p.endLine = p'.line) && plainO x && plainE y && plainE z && chkE S a x && chkE S b y && chkE S c z
    | _ => false
  | .comp elt t it cond own => fun e => match e with
    | .ListComp x [⟨tg, iter, ifs, k⟩] scope _ => decide (k = 0) && blkB S scope own && plainE iter && chkI S it tg iter && chkTg (S.blk scope) t tg && (tgIdx t).all (fun i => decide (i ∈ own.map (·.2))) && chkC (S.blk scope) cond ifs && chkE (S.blk scope) elt x
    | _ => false
def chkEs (S : Sta) : List Ex → List Expr → Bool
  | [] => fun es => match es with
    | [] => true
    | _ => false
  | a :: as => fun es => match es with
    | x :: xs => plainE x && chkE S a x && chkEs S as xs
    | _ => false
def chkO (S : Sta) : Option Ex → Option Expr → Bool
  | none => fun e => match e with
    | none => true
    | _ => false
  | some a => fun e => match e with
    | some x => chkE S a x
    | _ => false
def chkC (S : Sta) : Option Ex → List Expr → Bool
  | none => fun es => match es with
    | [] => true
    | _ => false
  | some a => fun es => match es with
    | [x] => chkE S a x
    | _ => false
def chkI (S : Sta) : It → Expr → Expr → Bool
  | .seq a => fun _ e => plainE e && chkE S a e
  | .range a => fun _ e => match e with
    | .Call (.Name x _) [y] [] _ => decide (x = ("range" : Str)) && glB S.sc x && plainE y && chkE S a y
    | _ => false
  | .range2 a b => fun _ e => match e with
    | .Call (.Name x _) [y, z] [] _ => decide (x = ("range" : Str)) && glB S.sc x && plainE y && plainE z && chkE S a y && chkE S b z
    | _ => false
  | .enum a => fun tg e => isTupE tg && (match e with
    | .Call (.Name x _) [y] [] _ => decide (x = ("enumerate" : Str)) && glB S.sc x && plainE y && chkE S a y
    | _ => false)
  | .zip a b => fun tg e => isTupE tg && (match e with
    | .Call (.Name x _) [y, z] [] _ => decide (x = ("zip" : Str)) && glB S.sc x && plainE y && plainE z && chkE S a y && chkE S b z
    | _ => false)
end
end BT

/-! Expressions, one kind at a time. -/
namespace BT
open PySem PySem.Spec PyProof.Rows L2

def RelC : Const → Value → Prop
  | .int i, u => ∃ t, u = .int i t
  | .str x, u => ∃ t, u = .str x t
  | _, _ => False
/-- what a def promises -/
def spOf (K : PySem.W.Frag) (w : World) (cv : Str → Value) (np : Nat) (call : List D → Sto → Rs D) : Sp := fun vs H Q E => vs.length = np ∧ ∃ ι M ds, StRep K w ι H M ∧ Reps K ι H ds vs ∧ RC K w (Rep K) (fun c H' => E (cv c) none H') ι H (call ds M) Q
structure OkX (S : Sta) (call : Str → List D → Sto → Rs D) (cv : Str → Value) (W : WX) (X : Cx) : Prop where
  nm : X.N = S.N
  nd : S.N.Nodup
  sc : X.env.scope = S.sc
  fb : ∀ x, S.fb x = true → X.fn x = true
  un : X.A.units + 65 < cLine
  calm : X.calm = true
  tk : Takes X W
  blt : ∀ x ∈ bltN, X.mg x = none
  cst : ∀ x c, S.cs.lookup x = some c → ∃ u, X.mg x = some u ∧ RelC c u
  fn : ∀ f ∈ S.fs, ∃ k a d ps np, FnOk X.prog X.w X.K X.mg X.base (L2.CX X.prog X.w) k a d ps (spOf X.K X.w cv np (call f)) ∧ (∀ ds M, ds.length ≠ np → call f ds M = .st) ∧ Room k X.A ∧ X.mg f = some (.ref a) ∧ PySem.W.keepIn X.K (.ref a) = true ∧ Binds X.K d ps []

section
variable {S : Sta} {call : Str → List D → Sto → Rs D} {cv : Str → Value} {W : WX} {X : Cx}
theorem OkX.gl (O : OkX S call cv W X) {x : Str} (h : glB S.sc x = true) : Gl X x := by
  show X.env.scope.names.lookup x = _
  rw [O.sc]; exact glB_ok h
theorem OkX.blk (O : OkX S call cv W X) {scope : Scope} {s : Shared} {H : Hp} {C : Addr} {cl : List (Str × Addr)} {fp : List Addr} : OkX (S.blk scope) call cv (fun _ _ _ _ => False) (X.blk s H scope (compEnvC scope cl C X.env) fp) :=
  ⟨O.nm, O.nd, by show relS scope X.env.scope = relS scope S.sc; rw [O.sc], fun _ h => h, O.un, O.calm, takes0, O.blt, O.cst, O.fn⟩
/-- a value's reading, a test's, some values' -/
abbrev rE (call : Str → List D → Sto → Rs D) (cv : Str → Value) (W : WX) (X : Cx) (f : L2.St → L2.St) (e : Env → Sto → Rs D) : TE := tR X.K X.w cv (Rep X.K) W e
abbrev tE (call : Str → List D → Sto → Rs D) (cv : Str → Value) (W : WX) (X : Cx) (e : Ex) : TE := tR X.K X.w cv (Rep X.K) W (evalE call e)
def trR (r : Rs D) : Rs Bool := r.bind fun d M => Rs.of M (truth M d)
abbrev tT (call : Str → List D → Sto → Rs D) (cv : Str → Value) (W : WX) (X : Cx) (e : Ex) : TT := tR X.K X.w cv (Rid (α := Bool)) W (fun env M => trR (evalE call e env M))
abbrev tEs (call : Str → List D → Sto → Rs D) (cv : Str → Value) (W : WX) (X : Cx) (es : List Ex) : TA := tR X.K X.w cv (Reps X.K) W (evalEs call es)
abbrev tO (call : Str → List D → Sto → Rs D) (cv : Str → Value) (W : WX) (X : Cx) (e : Option Ex) : TO := tR X.K X.w cv (Rid (α := Option Int)) W (evalO call e)
end
section
variable {K : PySem.W.Frag} {w : World} {cv : Str → Value} {W : WX} {σ : L2.St} {H : Hp} {ι : List Addr} {M : Sto} {Xf : Str → Hp → Prop}
/-- one value, then -/
theorem tR.one {f : Env → Sto → Rs D} {g : Env → Sto → D → Rs D} {Q : VK} (h : tR K w cv (Rep K) W (fun env M => gc M ((f env M).bind fun x M1 => g env M1 x)) σ H Q) :
    tR K w cv (Rep K) W f σ H fun x H1 => ∃ ι env M a, StRep K w ι H1 M ∧ ERep K ι H1 env σ ∧ Rep K ι H1 a x ∧ RC K w (Rep K) (fun c H' => W (cv c) none σ H') ι H1 (g env M a) Q := by
  obtain ⟨ι, env, M, S, E, C⟩ := h
  exact ⟨ι, env, M, S, E, (C.ungc S).bind.imp fun x H1 ⟨ι1, M1, a, g1, S1, r1, C1⟩ => ⟨ι1, env, M1, a, S1, E.grow g1, r1, C1⟩⟩
theorem tR.one' {α β : Type} {R : List Addr → Hp → α → β → Prop} {f : Env → Sto → Rs D} {g : Env → Sto → D → Rs α} {Q : β → Hp → Prop} (h : tR K w cv R W (fun env M => (f env M).bind fun x M1 => g env M1 x) σ H Q) :
    tR K w cv (Rep K) W f σ H fun x H1 => ∃ ι env M a, StRep K w ι H1 M ∧ ERep K ι H1 env σ ∧ Rep K ι H1 a x ∧ RC K w R (fun c H' => W (cv c) none σ H') ι H1 (g env M a) Q := by
  obtain ⟨ι, env, M, S, E, C⟩ := h
  exact ⟨ι, env, M, S, E, C.bind.imp fun x H1 ⟨ι1, M1, a, g1, S1, r1, C1⟩ => ⟨ι1, env, M1, a, S1, E.grow g1, r1, C1⟩⟩
/-- .. and another -/
theorem tR.two {α β : Type} {R : List Addr → Hp → α → β → Prop} {f g : Env → Sto → Rs D} {k : Env → Sto → D → D → Rs α} {Q : β → Hp → Prop}
    (h : tR K w cv R W (fun env M => (f env M).bind fun x M1 => (g env M1).bind fun y M2 => k env M2 x y) σ H Q) :
    tR K w cv (Rep K) W f σ H fun x H1 => tR K w cv (Rep K) W g σ H1 fun y H2 => ∃ ι env M a b, StRep K w ι H2 M ∧ ERep K ι H2 env σ ∧ Rep K ι H2 a x ∧ Rep K ι H2 b y ∧ RC K w R (fun c H' => W (cv c) none σ H') ι H2 (k env M a b) Q := by
  obtain ⟨ι, env, M, S, E, C⟩ := h
  exact ⟨ι, env, M, S, E, C.bind.imp fun x H1 ⟨ι1, M1, a, g1, S1, r1, C1⟩ => ⟨ι1, env, M1, S1, E.grow g1, C1.bind.imp fun y H2 ⟨ι2, M2, b, g2, S2, r2, C2⟩ => ⟨ι2, env, M2, a, b, S2, (E.grow g1).grow g2, Rep.grow g2 _ _ r1, r2, C2⟩⟩⟩
theorem tR.three {α β : Type} {R : List Addr → Hp → α → β → Prop} {f g j : Env → Sto → Rs D} {k : Env → Sto → D → D → D → Rs α} {Q : β → Hp → Prop}
    (h : tR K w cv R W (fun env M => (f env M).bind fun x M1 => (g env M1).bind fun y M2 => (j env M2).bind fun z M3 => k env M3 x y z) σ H Q) :
    tR K w cv (Rep K) W f σ H fun x H1 => tR K w cv (Rep K) W g σ H1 fun y H2 => tR K w cv (Rep K) W j σ H2 fun z H3 => ∃ ι env M a b c, StRep K w ι H3 M ∧ ERep K ι H3 env σ ∧ Rep K ι H3 a x ∧ Rep K ι H3 b y ∧ Rep K ι H3 c z ∧ RC K w R (fun c H' => W (cv c) none σ H') ι H3 (k env M a b c) Q := by
  obtain ⟨ι, env, M, S, E, C⟩ := h
  exact ⟨ι, env, M, S, E, C.bind.imp fun x H1 ⟨ι1, M1, a, g1, S1, r1, C1⟩ => ⟨ι1, env, M1, S1, E.grow g1, C1.bind.imp fun y H2 ⟨ι2, M2, b, g2, S2, r2, C2⟩ => ⟨ι2, env, M2, S2, (E.grow g1).grow g2, C2.bind.imp fun z H3 ⟨ι3, M3, c, g3, S3, r3, C3⟩ =>
    ⟨ι3, env, M3, a, b, c, S3, ((E.grow g1).grow g2).grow g3, Rep.grow (g2.trans g3) _ _ r1, Rep.grow g3 _ _ r2, r3, C3⟩⟩⟩⟩
theorem tR.ungc {f : Env → Sto → Rs D} {Q : VK} (h : tR K w cv (Rep K) W (fun env M => gc M (f env M)) σ H Q) : tR K w cv (Rep K) W f σ H Q := by
  obtain ⟨ι, env, M, S, E, C⟩ := h
  exact ⟨ι, env, M, S, E, C.ungc S⟩
theorem tR.imp {α β : Type} {R : List Addr → Hp → α → β → Prop} {f : Env → Sto → Rs α} {Q Q' : β → Hp → Prop} (h : tR K w cv R W f σ H Q) (i : ∀ b H', Q b H' → Q' b H') : tR K w cv R W f σ H Q' := by
  obtain ⟨ι, env, M, S, E, C⟩ := h
  exact ⟨ι, env, M, S, E, C.imp i⟩
theorem truth_pure {d : D} (h : d.pure = true) (M M' : Sto) : truth M d = truth M' d := by
  cases d <;> first | rfl | (simp [D.bel] at h)
theorem RC.ungcT {r : Rs D} {Q : Bool → Hp → Prop} (S : StRep K w ι H M) (h : RC K w (Rid (α := Bool)) Xf ι H (trR (gc M r)) Q) : RC K w (Rid (α := Bool)) Xf ι H (trR r) Q := by
  cases r with
  | ok d M' =>
    unfold gc at h
    by_cases c : d.pure = true ∧ M'.take M.length = M
    · simp only [if_pos c] at h
      show RC K w _ Xf ι H (Rs.of M' (truth M' d)) Q
      have h : RC K w (Rid (α := Bool)) Xf ι H (Rs.of M (truth M d)) Q := h
      rw [truth_pure c.1 M' M]
      cases e : truth M d with
      | none => rw [e] at h; exact h.elim
      | some b =>
        rw [e] at h
        exact fun ι' H' b' g' S' r' => h ι H' b' g'.back (S.back g' S' c.2) r'
    · simp only [if_neg c] at h
      exact h
  | ex c M' => exact h
  | st => exact h
theorem RC.optT {o : Option Bool} {Q : Bool → Hp → Prop} (h : RC K w (Rid (α := Bool)) Xf ι H (Rs.of M o) Q) (S : StRep K w ι H M) : ∃ b, o = some b ∧ Q b H := by
  cases o with
  | none => exact h.elim
  | some b => exact ⟨b, rfl, h ι H b .refl S rfl⟩
/-- a value that is a truth, as a test -/
theorem RC.blT {r : Rs D} {Q : Bool → Hp → Prop} (hb : ∀ d M', r = .ok d M' → ∃ k, d = .bl k) (h : RC K w (Rid (α := Bool)) Xf ι H (trR r) Q) : RC K w (Rep K) Xf ι H r fun x H' => ∃ k, x = .bl k ∧ Q k H' := by
  cases r with
  | ok d M' =>
    obtain ⟨k, rfl⟩ := hb d M' rfl
    exact fun ι' H' b g S r => ⟨k, r, h ι' H' k g S rfl⟩
  | ex c M' => exact h
  | st => exact h
end
/-! ### tuples -/
section
variable {X : Cx}
def tTupF (t : TA) : TE := fun σ H Q => t σ H fun xs H1 => xs.length ≤ sizeLine ∧ ∀ p o, H1 p = none → o.dict = none → Q (.ref p) (upd H1 p (.frz o (.tup xs)))
theorem pe_tupF {es : List Expr} {t : TA} {x1 : Nat} {pos : Pos} (h : PA X es t) : PE X (.Tuple es x1 pos) (tTupF t) := by
  refine ⟨fun pins s σ H Q I hq => ?_⟩
  refine wpAny_Tuple_spliced (thn (h.run pos pins s σ H _ I hq) fun us s1 ⟨xs, H1, I1, r, z, q⟩ => ⟨by rw [← r.length]; exact z, ?_⟩)
  exact ⟨.ref s1.heap.objs.size, _, Inv.newTup (t := s1.toks) I1 r z, rfl, q _ _ I1.fresh rfl⟩
end

/-! ### the kinds -/
section
variable {S : Sta} {call : Str → List D → Sto → Rs D} {cv : Str → Value} {W : WX} {X : Cx} {a b c : Ex} {x y z : Expr} {pos : Pos}
theorem c_bin (o : Op) (ha : PE X x (tE call cv W X a)) (hb : PE X y (tE call cv W X b)) : PE X (.BinOp x (opO o) y pos) (tE call cv W X (.bin o a b)) :=
  PE.imp (pe_op (bin_ok o) ha hb) fun σ H Q h => (tR.two (k := fun _ M a b => binD M o a b) (tR.ungc h)).imp fun _ _ q => q.imp fun _ _ ⟨ι, env, M, a, b, S, _, ra, rb, C⟩ => ⟨ι, M, a, b, _, S, ra, rb, C⟩
theorem c_cmp (un : X.A.units + 65 < cLine) (c : Cm) (hp : plainE y = true) (ha : PE X x (tE call cv W X a)) (hb : PE X y (tE call cv W X b)) : PE X (.Compare x [cmO c] [y] pos) (tE call cv W X (.cmp c a b)) :=
  PE.imp (pe_cmpR (cmp_ok un c) ha hb (plain_mark hp)) fun σ H Q h => (tR.two (k := fun _ M a b => Rs.of M ((cmpD M c a b).map .bl)) (tR.ungc h)).imp fun _ _ q => q.imp fun _ _ ⟨ι, env, M, a, b, S, _, ra, rb, C⟩ => ⟨ι, M, a, b, _, S, ra, rb, C⟩
theorem gc_bl {M : Sto} {r : Rs D} (h : ∀ d M', r = .ok d M' → ∃ k, d = .bl k) : ∀ d M', gc M r = .ok d M' → ∃ k, d = .bl k := by
  intro d M' e
  cases r with
  | ok d' M2 =>
    obtain ⟨k, rfl⟩ := h d' M2 rfl
    unfold gc at e
    simp only at e
    split at e <;> (cases e; exact ⟨k, rfl⟩)
  | ex c M2 => cases e
  | st => cases e
theorem bind_bl {α : Type} {r : Rs α} {f : α → Sto → Rs D} (h : ∀ a M1 d M', f a M1 = .ok d M' → ∃ k, d = .bl k) : ∀ d M', r.bind f = .ok d M' → ∃ k, d = .bl k := by
  intro d M' e
  cases r with
  | ok a M1 => exact h a M1 d M' e
  | ex c M2 => cases e
  | st => cases e
theorem of_bl {M : Sto} {o : Option Bool} : ∀ d M', Rs.of M (o.map D.bl) = .ok d M' → ∃ k, d = .bl k := by
  intro d M' e
  cases o with
  | none => cases e
  | some b => cases e; exact ⟨b, rfl⟩
theorem cmp_bl {c : Cm} {env : Env} {M : Sto} : ∀ d M', evalE call (.cmp c a b) env M = .ok d M' → ∃ k, d = .bl k := by
  rw [evalE]
  exact gc_bl (bind_bl fun _ _ => bind_bl fun _ _ => of_bl)
/-- a test whose value is a truth -/
theorem tT.bl {e : Ex} (hb : ∀ env M d M', evalE call e env M = .ok d M' → ∃ k, d = .bl k) {σ : L2.St} {H : Hp} {Q : Bool → Hp → Prop} (h : tT call cv W X e σ H Q) : tE call cv W X e σ H fun x H' => ∃ k, x = .bl k ∧ Q k H' := by
  obtain ⟨ι, env, M, S, E, C⟩ := h
  exact ⟨ι, env, M, S, E, C.blT (hb env M)⟩
theorem d_cmp (un : X.A.units + 65 < cLine) (c : Cm) (hp : plainE y = true) (ha : PE X x (tE call cv W X a)) (hb : PE X y (tE call cv W X b)) : PT X (.Compare x [cmO c] [y] pos) (tT call cv W X (.cmp c a b)) :=
  PT.imp (pt_cmpR (cmp_ok un c) ha hb (plain_mark hp)) fun σ H Q h => (tR.two (k := fun _ M a b => Rs.of M ((cmpD M c a b).map .bl)) (tR.ungc (tT.bl (fun _ _ => cmp_bl) h))).imp fun _ _ q => q.imp fun _ _ ⟨ι, env, M, a, b, S, _, ra, rb, C⟩ => ⟨ι, M, a, b, _, S, ra, rb, C⟩
/-- any other test -/
theorem d_any {e : Ex} (hp : plainT x = true) (ha : PE X x (tE call cv W X e)) : PT X x (tT call cv W X e) :=
  PT.imp (pt_truth ha (plain_true hp)) fun σ H Q h => (tR.one' (g := fun _ M d => Rs.of M (truth M d)) h).imp fun x H1 ⟨ι, env, M, d, S, _, r, C⟩ =>
    let ⟨k, e, q⟩ := C.optT S
    ⟨k, truth_ok S r e, q⟩
theorem c_not (ha : PE X x (tE call cv W X a)) : PE X (.UnaryOp .Not x pos) (tE call cv W X (.not a)) :=
  PE.imp (pe_notT ha) fun σ H Q h => (tR.one (g := fun _ M d => Rs.of M ((truth M d).map fun b => .bl (!b))) h).imp fun x H1 ⟨ι, env, M, d, S, _, r, C⟩ =>
    let ⟨k, e, q⟩ := C.opt
    ⟨k, truth_ok S r e, q.here S rfl⟩
theorem not_bl {env : Env} {M : Sto} : ∀ d M', evalE call (.not a) env M = .ok d M' → ∃ k, d = .bl k := by
  rw [evalE]
  refine gc_bl (bind_bl fun x M1 => ?_)
  intro d M' e
  cases q : truth M1 x with
  | none => rw [q] at e; cases e
  | some b => rw [q] at e; cases e; exact ⟨_, rfl⟩
theorem d_not (ha : PT X x (tT call cv W X a)) : PT X (.UnaryOp .Not x pos) (tT call cv W X (.not a)) :=
  PT.imp (pt_not ha) fun σ H Q h => by
    obtain ⟨ι, env, M, S, E, C⟩ := tR.ungc (tT.bl (fun _ _ => not_bl) h)
    refine ⟨ι, env, M, S, E, ?_⟩
    dsimp only at C ⊢
    cases r : evalE call a env M with
    | ok d M1 =>
      rw [r] at C
      have C : RC X.K X.w (Rep X.K) _ ι H (Rs.of M1 ((truth M1 d).map fun b => .bl (!b))) _ := C
      obtain ⟨k, e, C⟩ := C.opt
      show RC _ _ _ _ ι H (Rs.of M1 (truth M1 d)) _
      rw [e]
      intro ι' H' b g S' rb
      cases rb
      obtain ⟨k', e', q⟩ := C ι' H' (.bl (!k)) g S' rfl
      cases e'
      exact q
    | ex c M1 => rw [r] at C; exact C
    | st => rw [r] at C; exact C
end
end BT

/-! Expressions, one kind at a time: the rest. -/
namespace BT
open PySem PySem.Spec PyProof.Rows L2
section
variable {S : Sta} {call : Str → List D → Sto → Rs D} {cv : Str → Value} {W : WX} {X : Cx} {a b c d : Ex} {x y z : Expr} {es : List Ex} {xs : List Expr} {pos : Pos}
theorem c_int {i : Int} {j : Nat} : PE X (.Constant (.int i) j pos) (tE call cv W X (.cint i)) := PE.imp pe_int fun _ _ _ ⟨_, _, _, S, _, C⟩ => C.here S rfl
theorem c_bl {i : Bool} {j : Nat} : PE X (.Constant (.bool i) j pos) (tE call cv W X (.cbl i)) := PE.imp pe_bl fun _ _ _ ⟨_, _, _, S, _, C⟩ => C.here S rfl
theorem c_str {i : Str} {j : Nat} : PE X (.Constant (.str i) j pos) (tE call cv W X (.cstr i)) := PE.imp pe_str fun _ _ _ ⟨_, _, _, S, _, C⟩ => C.here S rfl
theorem c_non {j : Nat} : PE X (.Constant .none j pos) (tE call cv W X .cnon) := PE.imp pe_non fun _ _ _ ⟨_, _, _, S, _, C⟩ => C.here S rfl
theorem okN_1 {n : Str} (h : okN n = true) : (n == ("__debug__" : Str)) = false := by
  unfold okN at h
  simp only [Bool.and_eq_true, decide_eq_true_eq] at h
  exact h.1.1
theorem okN_2 {n : Str} (h : okN n = true) : (n == ("__classdict__" : Str)) = false := by
  unfold okN at h
  simp only [Bool.and_eq_true, decide_eq_true_eq] at h
  exact h.1.2
theorem okN_3 {n : Str} (h : okN n = true) : n ≠ "__name__" := by
  unfold okN at h
  simp only [Bool.and_eq_true, decide_eq_true_eq] at h
  exact h.2
theorem c_var (O : OkX S call cv W X) {i : Nat} {n : Str} (h1 : S.N[i]? = some n) (h2 : visB S.sc n = true) (h3 : okN n = true) : PE X (.Name n pos) (tE call cv W X (.var i)) :=
  PE.imp (pe_var (by rw [O.nm]; exact h1) (by rw [O.sc]; exact visB_ok h2) (okN_1 h3) (okN_2 h3)) fun σ H Q ⟨ι, env, M, S, E, C⟩ => by
    simp only [evalE] at C
    split at C
    · rename_i d e
      obtain ⟨v, e1, r⟩ := E.get e
      exact ⟨v, e1, C.here S r⟩
    · exact C.elim
theorem c_gint (O : OkX S call cv W X) {i : Int} {n : Str} (h1 : glB S.sc n = true) (h2 : okN n = true) (h3 : S.cs.lookup n = some (.int i)) : PE X (.Name n pos) (tE call cv W X (.gint n i)) := by
  obtain ⟨u, e, t, rfl⟩ := O.cst n _ h3
  exact PE.imp (pe_glob (v := .int i) (O.gl h1) e ⟨t, rfl⟩ (okN_1 h2)) fun _ _ _ ⟨_, _, _, S, _, C⟩ => C.here S rfl
theorem c_gstr (O : OkX S call cv W X) {i : Str} {n : Str} (h1 : glB S.sc n = true) (h2 : okN n = true) (h3 : S.cs.lookup n = some (.str i)) : PE X (.Name n pos) (tE call cv W X (.gstr n i)) := by
  obtain ⟨u, e, t, rfl⟩ := O.cst n _ h3
  exact PE.imp (pe_glob (v := .str i) (O.gl h1) e ⟨t, rfl⟩ (okN_1 h2)) fun _ _ _ ⟨_, _, _, S, _, C⟩ => C.here S rfl
/-! some arguments -/
theorem a_nil : PA X [] (tEs call cv W X []) := PA.imp pa_nil fun σ H Q ⟨ι, env, M, S, E, C⟩ => C.here (R := Reps X.K) S rfl
theorem a_cons (hp : plainE x = true) (ha : PE X x (tE call cv W X a)) (hr : PA X xs (tEs call cv W X es)) : PA X (x :: xs) (tEs call cv W X (a :: es)) :=
  PA.imp (pa_cons ha hr (star_plain hp)) fun σ H Q ⟨ι, env, M, S, E, C⟩ => ⟨ι, env, M, S, E, C.bind.imp fun x H1 ⟨ι1, M1, d, g1, S1, r1, C1⟩ => ⟨ι1, env, M1, S1, E.grow g1, C1.bind.imp fun ys H2 ⟨ι2, M2, ds, g2, S2, r2, C2⟩ => C2.here (R := Reps X.K) S2 ⟨x, ys, rfl, Rep.grow g2 _ _ r1, r2⟩⟩⟩
theorem c_tup {k : Nat} (ha : PA X xs (tEs call cv W X es)) : PE X (.Tuple xs k pos) (tE call cv W X (.tup es)) :=
  PE.imp (pe_tupF ha) fun σ H Q ⟨ι, env, M, S, E, C⟩ => ⟨ι, env, M, S, E, C.bind.imp fun ys H1 ⟨ι1, M1, ds, g1, S1, r1, C1⟩ =>
    let ⟨c, C2⟩ := RC.pos C1
    ⟨by rw [← r1.length]; exact fits_le c, fun p o hp ho => C2.newT S1 hp ho r1⟩⟩
theorem c_lst (ha : PA X xs (tEs call cv W X es)) : PE X (.List xs pos) (tE call cv W X (.lst es)) :=
  PE.imp (pe_lst ha) fun σ H Q ⟨ι, env, M, S, E, C⟩ => ⟨ι, env, M, S, E, C.bind.imp fun ys H1 ⟨ι1, M1, ds, g1, S1, r1, C1⟩ =>
    ⟨by rw [← r1.length]; exact newL_fits C1, fun p hp => C1.newL S1 hp r1⟩⟩
/-! and, or -/
theorem c_and2 (ha : PE X x (tE call cv W X a)) {rest : List Expr} (hb : PE X (.BoolOp .And (y :: rest) pos) (tE call cv W X b)) : PE X (.BoolOp .And (x :: y :: rest) pos) (tE call cv W X (.and a b)) :=
  PE.imp (pe_andT ha hb) fun σ H Q h => (tR.one (g := fun env M1 x => match truth M1 x with
    | some true => evalE call b env M1
    | some false => .ok x M1
    | none => .st) h).imp fun x H1 ⟨ι, env, M, d, S, E, r, C⟩ => by
      split at C
      · rename_i e
        exact ⟨true, truth_ok S r e, by rw [if_pos rfl]; exact ⟨ι, env, M, S, E, C⟩⟩
      · rename_i e
        exact ⟨false, truth_ok S r e, by rw [if_neg (by decide)]; exact C.here S r⟩
      · exact C.elim
theorem c_or2 (ha : PE X x (tE call cv W X a)) {rest : List Expr} (hb : PE X (.BoolOp .Or (y :: rest) pos) (tE call cv W X b)) : PE X (.BoolOp .Or (x :: y :: rest) pos) (tE call cv W X (.or a b)) :=
  PE.imp (pe_orT ha hb) fun σ H Q h => (tR.one (g := fun env M1 x => match truth M1 x with
    | some true => .ok x M1
    | some false => evalE call b env M1
    | none => .st) h).imp fun x H1 ⟨ι, env, M, d, S, E, r, C⟩ => by
      split at C
      · rename_i e
        exact ⟨true, truth_ok S r e, by rw [if_pos rfl]; exact C.here S r⟩
      · rename_i e
        exact ⟨false, truth_ok S r e, by rw [if_neg (by decide)]; exact ⟨ι, env, M, S, E, C⟩⟩
      · exact C.elim
theorem trR_split {K : PySem.W.Frag} {w : World} {ι : List Addr} {H : Hp} {Xf : Str → Hp → Prop} {Q : Bool → Hp → Prop} {r : Rs D} {f : D → Sto → Rs D} (C : RC K w (Rid (α := Bool)) Xf ι H (trR (r.bind f)) Q) :
    RC K w (Rep K) Xf ι H r fun _ H1 => ∃ ι1 M1 d, Grow ι H ι1 H1 ∧ StRep K w ι1 H1 M1 ∧ RC K w (Rid (α := Bool)) Xf ι1 H1 (trR (f d M1)) Q := by
  cases r with
  | ok d M' => exact fun ι' H' b g S _ => ⟨ι', M', d, g, S, RC.mono g C⟩
  | ex c M' => exact C
  | st => exact C
theorem d_and2 (ha : PT X x (tT call cv W X a)) {rest : List Expr} (hb : PW X (.BoolOp .And (y :: rest) pos) (tT call cv W X b)) : PW X (.BoolOp .And (x :: y :: rest) pos) (tT call cv W X (.and a b)) :=
  PW.imp (pw_and ha hb) fun σ H Q ⟨ι, env, M, S, E, C⟩ => ⟨ι, env, M, S, E, by
    have C := RC.ungcT S C
    dsimp only
    cases q : evalE call a env M with
    | ok d M1 =>
      rw [q] at C
      have C : RC X.K X.w (Rid (α := Bool)) _ ι H (trR (match truth M1 d with
        | some true => evalE call b env M1
        | some false => .ok d M1
        | none => .st)) Q := C
      show RC _ _ _ _ _ _ (Rs.of M1 (truth M1 d)) _
      split at C
      · rename_i e
        rw [e]
        intro ι' H' t g S' rt
        cases rt
        exact ⟨ι', env, M1, S', E.grow g, RC.mono g C⟩
      · rename_i e
        have C : RC X.K X.w (Rid (α := Bool)) _ ι H (Rs.of M1 (truth M1 d)) Q := C
        rw [e] at C ⊢
        intro ι' H' t g S' rt
        cases rt
        exact C ι' H' false g S' rfl
      · exact C.elim
    | ex c M1 => rw [q] at C; exact C
    | st => rw [q] at C; exact C⟩
theorem d_or2 (ha : PT X x (tT call cv W X a)) {rest : List Expr} (hb : PW X (.BoolOp .Or (y :: rest) pos) (tT call cv W X b)) : PW X (.BoolOp .Or (x :: y :: rest) pos) (tT call cv W X (.or a b)) :=
  PW.imp (pw_or ha hb) fun σ H Q ⟨ι, env, M, S, E, C⟩ => ⟨ι, env, M, S, E, by
    have C := RC.ungcT S C
    dsimp only
    cases q : evalE call a env M with
    | ok d M1 =>
      rw [q] at C
      have C : RC X.K X.w (Rid (α := Bool)) _ ι H (trR (match truth M1 d with
        | some true => .ok d M1
        | some false => evalE call b env M1
        | none => .st)) Q := C
      show RC _ _ _ _ _ _ (Rs.of M1 (truth M1 d)) _
      split at C
      · rename_i e
        have C : RC X.K X.w (Rid (α := Bool)) _ ι H (Rs.of M1 (truth M1 d)) Q := C
        rw [e] at C ⊢
        intro ι' H' t g S' rt
        cases rt
        exact C ι' H' true g S' rfl
      · rename_i e
        rw [e]
        intro ι' H' t g S' rt
        cases rt
        exact ⟨ι', env, M1, S', E.grow g, RC.mono g C⟩
      · exact C.elim
    | ex c M1 => rw [q] at C; exact C
    | st => rw [q] at C; exact C⟩
/-! a if t else b -/
theorem c_ite (hc : PT X z (tT call cv W X c)) (ha : PE X x (tE call cv W X a)) (hb : PE X y (tE call cv W X b)) : PE X (.IfExp z x y pos) (tE call cv W X (.ite c a b)) :=
  PE.imp (pe_ifExp hc ha hb) fun σ H Q ⟨ι, env, M, S, E, C⟩ => ⟨ι, env, M, S, E, by
    dsimp only [evalE] at C ⊢
    cases q : evalE call c env M with
    | ok d M1 =>
      rw [q] at C
      have C : RC X.K X.w (Rep X.K) _ ι H (match truth M1 d with
        | some true => evalE call a env M1
        | some false => evalE call b env M1
        | none => .st) Q := C
      show RC _ _ _ _ _ _ (Rs.of M1 (truth M1 d)) _
      split at C
      · rename_i e
        rw [e]
        intro ι' H' t g S' rt
        cases rt
        exact ⟨ι', env, M1, S', E.grow g, RC.mono g C⟩
      · rename_i e
        rw [e]
        intro ι' H' t g S' rt
        cases rt
        exact ⟨ι', env, M1, S', E.grow g, RC.mono g C⟩
      · exact C.elim
    | ex c M1 => rw [q] at C; exact C
    | st => rw [q] at C; exact C⟩
theorem pw_ifExp {c : Expr} {tA ta tb : TT} (hc : PT X c tA) (ha : PT X x ta) (hb : PT X y tb) : PW X (.IfExp c x y pos) (fun σ H Q => tA σ H fun k H1 => if k = true then ta σ H1 Q else tb σ H1 Q) := by
  refine ⟨fun wh pins s σ H Q I h => ?_⟩
  show wpAny _ _ (do if ← isTrue c X.env (eval c X.env) then isTrue x X.env (eval x X.env) else isTrue y X.env (eval y X.env)) _ _ _
  refine wpAny_bind (thn (hc.run pins s σ H _ I h) fun d s1 ⟨H1, I1, q1⟩ => ?_)
  cases d with
  | true => exact ha.run pins s1 σ H1 Q I1 q1
  | false => exact hb.run pins s1 σ H1 Q I1 q1
theorem d_ite (hc : PT X z (tT call cv W X c)) (ha : PT X x (tT call cv W X a)) (hb : PT X y (tT call cv W X b)) : PT X (.IfExp z x y pos) (tT call cv W X (.ite c a b)) :=
  PT.imp (pw_ifExp hc ha hb).pt fun σ H Q ⟨ι, env, M, S, E, C⟩ => ⟨ι, env, M, S, E, by
    dsimp only [evalE] at C ⊢
    cases q : evalE call c env M with
    | ok d M1 =>
      rw [q] at C
      have C : RC X.K X.w (Rid (α := Bool)) _ ι H (trR (match truth M1 d with
        | some true => evalE call a env M1
        | some false => evalE call b env M1
        | none => .st)) Q := C
      show RC _ _ _ _ _ _ (Rs.of M1 (truth M1 d)) _
      split at C
      · rename_i e
        rw [e]
        intro ι' H' t g S' rt
        cases rt
        exact ⟨ι', env, M1, S', E.grow g, RC.mono g C⟩
      · rename_i e
        rw [e]
        intro ι' H' t g S' rt
        cases rt
        exact ⟨ι', env, M1, S', E.grow g, RC.mono g C⟩
      · exact C.elim
    | ex c M1 => rw [q] at C; exact C
    | st => rw [q] at C; exact C⟩
/-! a < b < c -/
theorem chn_red (c1 c2 : Cm) {σ : L2.St} {H : Hp} {Q : VK} (h : tE call cv W X (.chn c1 c2 a b d) σ H Q) : tChain (rCmp X.K X.w c1) (rCmp X.K X.w c2) (tE call cv W X a) (tE call cv W X b) (tE call cv W X d) σ H Q :=
  (tR.two (k := fun env M2 x y => match cmpD M2 c1 x y with
    | some true => (evalE call d env M2).bind fun z M3 => Rs.of M3 ((cmpD M3 c2 y z).map .bl)
    | some false => .ok (.bl false) M2
    | none => .st) (tR.ungc h)).imp fun _ _ q => q.imp fun x2 H2 ⟨ι, env, M, a', b', S, E, ra, rb, C⟩ => by
    refine ⟨ι, M, a', b', fun _ _ => True, S, ra, rb, ?_⟩
    split at C
    · rename_i e
      rw [e]
      intro ι' H' t g S' rt
      refine ⟨true, rt, ?_⟩
      rw [if_pos rfl]
      exact ⟨ι', env, M, S', E.grow g, (RC.mono g C).bind.imp fun w' H4 ⟨ι4, M4, c4, g4, S4, r4, C4⟩ => ⟨ι4, M4, b', c4, _, S4, Rep.grow (g.trans g4) _ _ rb, r4, C4⟩⟩
    · rename_i e
      rw [e]
      intro ι' H' t g S' rt
      refine ⟨false, rt, ?_⟩
      rw [if_neg (by decide)]
      exact C ι' H' (.bl false) g S' rfl
    · exact C.elim
theorem plain_last {op op' : CmpOp} {u v : Expr} (h : plainE v = true) : lastMarks [op, op'] [u, v] = false := plain_mark h
theorem c_chn (un : X.A.units + 65 < cLine) (c1 c2 : Cm) (hp : plainE z = true) (ha : PE X x (tE call cv W X a)) (hb : PE X y (tE call cv W X b)) (hd : PE X z (tE call cv W X d)) : PE X (.Compare x [cmO c1, cmO c2] [y, z] pos) (tE call cv W X (.chn c1 c2 a b d)) :=
  PE.imp (pe_chain (cmp_ok un c1) (cmp_ok un c2) ha hb hd (plain_last hp)) fun σ H Q h => chn_red c1 c2 h
theorem chn_bl {c1 c2 : Cm} {env : Env} {M : Sto} : ∀ d' M', evalE call (.chn c1 c2 a b d) env M = .ok d' M' → ∃ k, d' = .bl k := by
  rw [evalE]
  refine gc_bl (bind_bl fun x M1 => bind_bl fun y M2 => ?_)
  intro d' M' e
  split at e
  · exact bind_bl (fun _ _ => of_bl) d' M' e
  · cases e; exact ⟨_, rfl⟩
  · cases e
theorem d_chn (un : X.A.units + 65 < cLine) (c1 c2 : Cm) (hp : plainE z = true) (ha : PE X x (tE call cv W X a)) (hb : PE X y (tE call cv W X b)) (hd : PE X z (tE call cv W X d)) : PT X (.Compare x [cmO c1, cmO c2] [y, z] pos) (tT call cv W X (.chn c1 c2 a b d)) :=
  PT.imp (pt_chain (cmp_ok un c1) (cmp_ok un c2) ha hb hd (plain_last hp)) fun σ H Q h => chn_red c1 c2 (tT.bl (fun _ _ => chn_bl) h)
/-! subscripts -/
theorem c_idx (un : X.A.units + 65 < cLine) (hp : plainE y = true) (ha : PE X x (tE call cv W X a)) (hb : PE X y (tE call cv W X b)) : PE X (.Subscript x y pos) (tE call cv W X (.idx a b)) :=
  PE.imp (pe_ix (ix_ok un) ha hb (plain_ix hp)) fun σ H Q h => (tR.two (k := fun _ M a b => Rs.of M (idxD M a b)) (tR.ungc h)).imp fun _ _ q => q.imp fun _ _ ⟨ι, env, M, a, b, S, _, ra, rb, C⟩ => ⟨ι, M, a, b, _, S, ra, rb, C⟩
theorem o_none : PO X none (tO call cv W X none) := ⟨fun pins s σ H Q I ⟨ι, env, M, S, E, C⟩ => po_none.run pins s σ H Q I (C.here (R := Rid) S rfl)⟩
theorem o_some (ha : PE X x (tE call cv W X a)) : PO X (some x) (tO call cv W X (some a)) := ⟨fun pins s σ H Q I h => (po_some ha).run pins s σ H Q I ((tR.one' (R := Rid) (g := fun _ M1 d => match d with
    | .int i => .ok (some i) M1
    | _ => .st) h).imp fun x H1 ⟨ι, env, M, d, S, E, r, C⟩ => by
      split at C
      · cases r
        exact ⟨_, rfl, C.here (R := Rid) S rfl⟩
      · exact C.elim)⟩
theorem c_slc {lo hi : Option Ex} {l h : Option Expr} {p2 : Pos} (ha : PE X x (tE call cv W X a)) (hl : PO X l (tO call cv W X lo)) (hh : PO X h (tO call cv W X hi)) : PE X (.Subscript x (.Slice l h none p2) pos) (tE call cv W X (.slc a lo hi)) :=
  PE.imp (pe_slice slc_ok ha hl hh) fun σ H Q ⟨ι, env, M, S, E, C⟩ => ⟨ι, env, M, S, E, C.bind.imp fun x H1 ⟨ι1, M1, d, g1, S1, r1, C1⟩ => ⟨ι1, env, M1, S1, E.grow g1, C1.bind.imp fun y H2 ⟨ι2, M2, b, g2, S2, r2, C2⟩ =>
    ⟨ι2, env, M2, S2, (E.grow g1).grow g2, C2.bind.imp fun z H3 ⟨ι3, M3, c, g3, S3, r3, C3⟩ => by
      cases r2; cases r3
      exact ⟨ι3, M3, d, _, S3, Rep.grow (g2.trans g3) _ _ r1, C3⟩⟩⟩⟩
/-! calls -/
theorem c_call (O : OkX S call cv W X) {f : Str} {p : Pos} (h1 : glB S.sc f = true) (h2 : okN f = true) (h3 : f ∈ S.fs) (h4 : (x :: xs).all plainE = true) (ha : PA X (x :: xs) (tEs call cv W X es)) : PE X (.Call (.Name f p) (x :: xs) [] pos) (tE call cv W X (.call f es)) := by
  obtain ⟨k, ad, fd, ps, np, F, hnp, hr, hm, hk, hb⟩ := O.fn f h3
  rw [List.all_cons, Bool.and_eq_true] at h4
  refine PE.imp (pe_callS (E := WE W) F hr (O.gl h1) hm hk hb (passAt O.tk) ha (okN_1 h2) (star_plain h4.1) (star_any h4.2)) fun σ H Q ⟨ι, env, M, S, E, C⟩ => ⟨ι, env, M, S, E, C.bind.imp fun vs H1 ⟨ι1, M1, ds, g1, S1, r1, C1⟩ => ?_⟩
  have hl : ds.length = np := Decidable.byContradiction fun n => by rw [hnp _ _ n] at C1; exact C1
  exact ⟨by rw [← r1.length]; exact hl, ι1, M1, ds, S1, r1, C1⟩
end
end BT

/-! Expressions, one kind at a time: built-ins and methods. -/
namespace BT
open PySem PySem.Spec PyProof.Rows L2
/-! a list of truths counted -/
theorem blEq_at {b : Bool} : ∀ {bs : List Bool} {its : List Value}, Vals (bs.map V.bl) its → its.map (fun y => decide (y = Value.bool b)) = bs.map (fun c => decide (c = b))
  | [], _, .nil => rfl
  | c :: bs, _, .cons r t => by
    cases r
    rw [List.map_cons, List.map_cons, blEq_at t]
    congr 1
    exact decide_eq_decide.mpr ⟨fun e => by cases e; rfl, fun e => by rw [e]⟩
theorem bl_mem : ∀ {bs : List Bool} {its : List Value} {y : Value}, Vals (bs.map V.bl) its → y ∈ its → ∃ c, y = .bool c
  | [], _, _, .nil, h => absurd h (by simp)
  | _ :: _, _, _, .cons r t, h => by
    rcases List.mem_cons.mp h with e | h
    · cases r; exact ⟨_, e⟩
    · exact bl_mem t h
theorem bl_count {b : Bool} {bs : List Bool} {its : List Value} (r : Vals (bs.map V.bl) its) : its.countP (fun y => decide (y = Value.bool b)) = bs.count b := by
  have h := blEq_at (b := b) r
  have e1 : its.countP (fun y => decide (y = Value.bool b)) = (its.map fun y => decide (y = Value.bool b)).count true := by
    rw [List.count, List.countP_map]; congr 1; funext y; simp
  have e2 : bs.count b = (bs.map fun c => decide (c = b)).count true := by
    rw [List.count, List.count, List.countP_map]; congr 1; funext y; simp
    cases y <;> cases b <;> rfl
  rw [e1, e2, h]
theorem count_ok {X : Cx} : MtR X "list.count" (rM1 X.K X.w .count) := by
  intro pins s σ H x xs v us Q I rx rs h
  obtain ⟨ι, M, a, b, y, Xf, rfl, S, ra, rb, C⟩ := h
  cases a with
  | ref k =>
    cases b with
    | bl b =>
      cases rb
      simp only [m1D] at C
      split at C
      · rename_i ds em
        split at C
        · rename_i bs eb
          obtain ⟨p, vs, rfl, ek, hp, rr⟩ := S.lst ra em
          have ev := bls_ok eb rr
          subst ev
          cases rx
          obtain ⟨u, rfl, ru⟩ := rs.one
          cases ru
          obtain ⟨its, rv, ⟨⟨cls, dd, data, sl⟩, n, ho, hc, hdn, hd⟩, hlen⟩ := I.list (SqL.of hp)
          simp only at hc hd
          subst hc hd
          refine call_meets PySem.F.slot_list_count ⟨_, ho, rfl⟩ PySem.F.entry_list_count (PySem.F.args_list_count_2 _ _)
            (SeqAt.list_countAt p its.toArray n dd sl (.bool b) fun y => decide (y = Value.bool b)) ⟨ho, fun y hy => ?_, ?_⟩
          · obtain ⟨c, rfl⟩ := bl_mem rv (by simpa using hy)
            have := SeqAt.EqAt.bool_bool (A := X.A.in1) (s := s) c b
            have e : (c == b) = decide (Value.bool c = Value.bool b) := by
              cases c <;> cases b <;> rfl
            rw [e] at this
            exact this
          · have ec := bl_count (b := b) rv
            refine ⟨.int (bs.count b : Nat), H, I.tok _, ⟨s.toks, ?_⟩, C.here S rfl⟩
            show Value.int ((its.toArray.toList.countP _ : Nat) : Int) s.toks = Value.int ((bs.count b : Nat) : Int) s.toks
            rw [← ec]
        · exact C.elim
      · exact C.elim
    | _ => exact C.elim
  | _ => cases b <;> exact C.elim

/-! methods: whose they are -/
def tyMK (K : PySem.W.Frag) (w : World) : MK → V → Hp → Prop
  | .l => isL K w
  | .d => isDct K w
  | .s => fun x _ => ∃ z, x = .str z
theorem tyMK_ok {X : Cx} (k : MK) {T : String} (hT : T = (match k with | .l => "list" | .d => "dict" | .s => "str")) (pins : List (Addr × Obj)) (s : Shared) (σ : L2.St) (H : Hp) (x : V) (v : Value) (I : Inv X pins σ H s) (r : RelV x v) (h : tyMK X.K X.w k x H) : s.TypeIs v T ∧ ∀ a, v = .ref a → ∃ ob, s.heap.get? a = some ob ∧ ob.dict = none := by
  subst hT
  cases k with
  | l => exact isL_ok pins s σ H x v I r h
  | d => exact isDct_ok pins s σ H x v I r h
  | s =>
    obtain ⟨z, rfl⟩ := h
    exact tyV_is (T := "str") I r rfl
theorem mkOk_ty {K : PySem.W.Frag} {w : World} {ι : List Addr} {H : Hp} {M : Sto} {d : D} {x : V} (S : StRep K w ι H M) (r : Rep K ι H d x) {k : MK} (h : mkOk M k d = true) : tyMK K w k x H := by
  cases k with
  | l =>
    cases d <;> simp only [mkOk] at h <;> first | cases h | skip
    split at h
    · rename_i e; exact ⟨ι, M, _, _, S, r, e⟩
    · cases h
  | d =>
    cases d <;> simp only [mkOk] at h <;> first | cases h | skip
    split at h
    · rename_i e; exact ⟨ι, M, _, _, S, r, .inl e⟩
    · rename_i e; exact ⟨ι, M, _, _, S, r, .inr e⟩
    · cases h
  | s =>
    cases d <;> simp only [mkOk] at h <;> first | cases h | skip
    cases r
    exact ⟨_, rfl⟩
section
variable {S : Sta} {call : Str → List D → Sto → Rs D} {cv : Str → Value} {W : WX} {X : Cx} {a b c d : Ex} {x y z : Expr} {es : List Ex} {xs : List Expr} {pos : Pos}
theorem pe_bmG0 {o : Expr} {to : TE} {name : Str} {apos cpos : Pos} {T id : String} {r : V → List V → Hp → VK → Prop} {ty : V → Hp → Prop} (pa : PlainAttrs T) (slot : Slot T name id) (hty : typeOf (.builtin id) = pure (.type "method_descriptor"))
    (tyok : ∀ (pins : List (Addr × Obj)) (s : Shared) (σ : L2.St) (H : Hp) (x : V) (v : Value), Inv X pins σ H s → RelV x v → ty x H → s.TypeIs v T ∧ ∀ a, v = .ref a → ∃ ob, s.heap.get? a = some ob ∧ ob.dict = none)
    (hm : MtR X id r) (ho : PE X o to) (hbase : attributeBase o name X.env (eval o X.env) = eval o X.env) (hline : (apos.endLine == cpos.line) = true) :
    PE X (.Call (.Attribute o name apos) [] [] cpos) (fun σ H Q => to σ H fun x H1 => ty x H1 ∧ r x [] H1 Q) :=
  ⟨fun pins s σ H Q I h => wpAny_Call_method0_late hbase hline (thn (ho.run pins s σ H _ I h) fun v s1 ⟨x, H1, I1, r1, q0, q1⟩ => by
    obtain ⟨h1, h2⟩ := tyok pins s1 σ H1 x v I1 r1 q0
    exact ⟨T, id, pa, slot, hty, h1, h2, Calls.callWith_builtin rfl (PySem.evalArgs_none (hm pins s1 σ H1 x [] v [] Q I1 r1 .nil q1))⟩)⟩
theorem few_ok {cpos : Pos} {env : PySem.Env} {es : List Expr} (h : es.all plainE = true) (hl : es.length < 29) : ((backTo cpos (starEach es env)).all (fun x => !x.1) && (backToKw cpos (keywordEach [] env)).all (fun x => x.1.isSome)
      && decide (es.length + ([] : List Keyword).length + (if ([] : List Keyword).isEmpty then 0 else 1) < 30)) = true := by
  rw [star_few h]
  have : decide (es.length + ([] : List Keyword).length + (if ([] : List Keyword).isEmpty then 0 else 1) < 30) = true := by
    refine decide_eq_true ?_
    simp
    omega
  rw [this]
  rfl
/-- a method of one argument -/
theorem c_m1G {m : M1} {T id : String} {name : Str} {p p' : Pos} (hT : T = (match m1K m with | .l => "list" | .d => "dict" | .s => "str")) (pa : PlainAttrs T) (slot : Slot T name id) (hty : typeOf (.builtin id) = pure (.type "method_descriptor"))
    (hm : MtR X id (rM1 X.K X.w m)) (h1 : p.endLine = p'.line) (h2 : plainO x = true) (h3 : plainE y = true) (ha : PE X x (tE call cv W X a)) (hb : PE X y (tE call cv W X b)) :
    PE X (.Call (.Attribute x name p) [y] [] p') (tE call cv W X (.m1 m a b)) := by
  refine PE.imp (pe_bmG (ty := tyMK X.K X.w (m1K m)) pa slot hty (tyMK_ok (m1K m) hT) hm ha (pa_cons hb pa_nil (star_plain h3)) (plain_base h2) (few_ok (by simp [h3]) (by simp)) (by simp [h1]) (star_plain h3) rfl) fun σ H Q h => ?_
  exact (tR.one (g := fun env M1 x => if mkOk M1 (m1K m) x then (evalE call b env M1).bind fun y M2 => m1D M2 m x y else .st) h).imp fun x H1 ⟨ι, env, M, d, S, E, r, C⟩ => by
    obtain ⟨c, C⟩ := RC.pos C
    exact ⟨mkOk_ty S r c, ι, env, M, S, E, C.bind.imp fun y H2 ⟨ι2, M2, e, g2, S2, r2, C2⟩ => ⟨ι2, M2, d, e, y, _, rfl, S2, Rep.grow g2 _ _ r, r2, C2⟩⟩
theorem c_m2G {m : M2} {T id : String} {name : Str} {p p' : Pos} (hT : T = (match m2K m with | .l => "list" | .d => "dict" | .s => "str")) (pa : PlainAttrs T) (slot : Slot T name id) (hty : typeOf (.builtin id) = pure (.type "method_descriptor"))
    (hm : MtR X id (rM2 X.K X.w m)) (h1 : p.endLine = p'.line) (h2 : plainO x = true) (h3 : plainE y = true) (h4 : plainE z = true) (ha : PE X x (tE call cv W X a)) (hb : PE X y (tE call cv W X b)) (hc : PE X z (tE call cv W X c)) :
    PE X (.Call (.Attribute x name p) [y, z] [] p') (tE call cv W X (.m2 m a b c)) := by
  refine PE.imp (pe_bmG (ty := tyMK X.K X.w (m2K m)) pa slot hty (tyMK_ok (m2K m) hT) hm ha (pa_cons hb (pa_cons hc pa_nil (star_plain h4)) (star_plain h3)) (plain_base h2) (few_ok (by simp [h3, h4]) (by simp)) (by simp [h1]) (star_plain h3) (star_any (by simp [h4]))) fun σ H Q h => ?_
  exact (tR.one (g := fun env M1 x => if mkOk M1 (m2K m) x then (evalE call b env M1).bind fun y M2 => (evalE call c env M2).bind fun z M3 => m2D M3 m x y z else .st) h).imp fun x H1 ⟨ι, env, M, d, S, E, r, C⟩ => by
    obtain ⟨c, C⟩ := RC.pos C
    exact ⟨mkOk_ty S r c, ι, env, M, S, E, C.bind.imp fun y H2 ⟨ι2, M2, e, g2, S2, r2, C2⟩ => ⟨ι2, env, M2, S2, E.grow g2, C2.bind.imp fun z H3 ⟨ι3, M3, f, g3, S3, r3, C3⟩ =>
      ⟨ι3, M3, d, e, f, y, z, _, rfl, S3, Rep.grow (g2.trans g3) _ _ r, Rep.grow g3 _ _ r2, r3, C3⟩⟩⟩
theorem c_m0G {m : M0} {T id : String} {name : Str} {p p' : Pos} (hT : T = (match m0K m with | .l => "list" | .d => "dict" | .s => "str")) (pa : PlainAttrs T) (slot : Slot T name id) (hty : typeOf (.builtin id) = pure (.type "method_descriptor"))
    (hm : MtR X id (rM0 X.K X.w m)) (h1 : p.endLine = p'.line) (h2 : plainO x = true) (ha : PE X x (tE call cv W X a)) : PE X (.Call (.Attribute x name p) [] [] p') (tE call cv W X (.m0 m a)) := by
  refine PE.imp (pe_bmG0 (ty := tyMK X.K X.w (m0K m)) pa slot hty (tyMK_ok (m0K m) hT) hm ha (plain_base h2) (by simp [h1])) fun σ H Q h => ?_
  exact (tR.one (g := fun env M1 x => if mkOk M1 (m0K m) x then m0D M1 m x else .st) h).imp fun x H1 ⟨ι, env, M, d, S, E, r, C⟩ => by
    obtain ⟨c, C⟩ := RC.pos C
    exact ⟨mkOk_ty S r c, ι, M, d, _, rfl, S, r, C⟩
theorem c_m1 {m : M1} {name : Str} {p p' : Pos} (hn : (m1N m).map (·.1) = some name) (h1 : p.endLine = p'.line) (h2 : plainO x = true) (h3 : plainE y = true) (ha : PE X x (tE call cv W X a)) (hb : PE X y (tE call cv W X b)) :
    PE X (.Call (.Attribute x name p) [y] [] p') (tE call cv W X (.m1 m a b)) := by
  cases m with
  | append => cases hn; exact c_m1G rfl PySem.F.plainAttrs_list PySem.F.slot_list_append PySem.F.type_list_append append_ok h1 h2 h3 ha hb
  | extend => cases hn; exact c_m1G rfl PySem.F.plainAttrs_list PySem.F.slot_list_extend PySem.F.type_list_extend extend_ok h1 h2 h3 ha hb
  | popat => cases hn; exact c_m1G rfl PySem.F.plainAttrs_list PySem.F.slot_list_pop PySem.F.type_list_pop popat_ok h1 h2 h3 ha hb
  | count => cases hn; exact c_m1G rfl PySem.F.plainAttrs_list PySem.F.slot_list_count PySem.F.type_list_count count_ok h1 h2 h3 ha hb
  | _ => cases hn
theorem c_m0 {m : M0} {name : Str} {p p' : Pos} (hn : (m0N m).map (·.1) = some name) (h1 : p.endLine = p'.line) (h2 : plainO x = true) (ha : PE X x (tE call cv W X a)) : PE X (.Call (.Attribute x name p) [] [] p') (tE call cv W X (.m0 m a)) := by
  cases m with
  | pop => cases hn; exact c_m0G rfl PySem.F.plainAttrs_list PySem.F.slot_list_pop PySem.F.type_list_pop pop_ok h1 h2 ha
  | _ => cases hn
theorem c_m2 (un : X.A.units + 65 < cLine) {m : M2} {p p' : Pos} (h1 : p.endLine = p'.line) (h2 : plainO x = true) (h3 : plainE y = true) (h4 : plainE z = true) (ha : PE X x (tE call cv W X a)) (hb : PE X y (tE call cv W X b)) (hc : PE X z (tE call cv W X c)) :
    PE X (.Call (.Attribute x "get" p) [y, z] [] p') (tE call cv W X (.m2 m a b c)) := by
  cases m with
  | get => exact c_m2G rfl PySem.F.plainAttrs_dict PySem.F.slot_dict_get PySem.F.type_dict_get (get_ok (by omega)) h1 h2 h3 h4 ha hb hc
theorem c_neg (ha : PE X x (tE call cv W X a)) : PE X (.UnaryOp .USub x pos) (tE call cv W X (.neg a)) :=
  PE.imp (pe_un un_neg ha) fun σ H Q h => (tR.one' (R := Rep X.K) (g := fun _ M1 x => match x with
    | .int i => .ok (.int (-i)) M1
    | _ => .st) h).imp fun x H1 ⟨ι, env, M, d, S, E, r, C⟩ => by
      split at C
      · cases r; exact ⟨_, rfl, C.here S rfl⟩
      · exact C.elim
/-- a new dict -/
theorem RC.newD {K : PySem.W.Frag} {w : World} {ι : List Addr} {H : Hp} {M : Sto} {Xf : Str → Hp → Prop} {Q : V → Hp → Prop} {m : List (D × D)} {u : HO} {p : Addr} (C : RC K w (Rep K) Xf ι H (new M (.dct m)) Q) (S : StRep K w ι H M) (hf : H p = none) (dr : DctR K w ι H p m u) : Q (.ref p) (upd H p u) := by
  refine C (ι ++ [p]) _ (.ref p) (grow_push hf) (S.push hf ⟨u, upd_same, dr.grow (grow_push hf)⟩) ⟨_, rfl, ?_⟩
  rw [← S.len, List.getElem?_append_right (Nat.le_refl _)]; simp
theorem c_dct0 : PE X (.Dict [] [] pos) (tE call cv W X .dct0) := ⟨fun pins s σ H Q I ⟨ι, env, M, S, E, C⟩ => by
  refine wpAny_Dict_empty ?_
  have hf := I.fresh
  obtain ⟨u, I', _, _, dr⟩ := dct_new (tk := s.toks) (m := []) (ι := ι) (h' := s.heap.push { cls := .type "dict", data := .dict #[] }) (es := #[]) (ep := 0) I (fun b o e => Heap.get?_push_of_some _ e) ⟨_, Heap.get?_push_size _ rfl, ⟨rfl, rfl, rfl⟩, rfl⟩ ⟨List.nodup_nil, (fun _ q => nomatch q), (fun _ q => nomatch q)⟩ (Nat.zero_le _) .nil
  exact ⟨.ref s.heap.objs.size, _, I', rfl, RC.newD C S hf dr⟩⟩
end
end BT

/-! Built-ins; targets. -/
namespace BT
open PySem PySem.Spec PyProof.Rows L2
section
variable {S : Sta} {call : Str → List D → Sto → Rs D} {cv : Str → Value} {W : WX} {X : Cx} {a b c d : Ex} {x y z : Expr} {es : List Ex} {xs : List Expr} {pos : Pos}
theorem f1_boot : ∀ {f : F1} {n : Str}, f1N f = some n → bootBuiltins n = some (f1V f) ∧ n ∈ bltN ∧ n ≠ "__name__" ∧ (n == ("__debug__" : Str)) = false
  | .len, _, e => by cases e; exact ⟨by decide +kernel, by decide, by decide, by decide⟩
  | .list, _, e => by cases e; exact ⟨by decide +kernel, by decide, by decide, by decide⟩
  | .tuple, _, e => by cases e; exact ⟨by decide +kernel, by decide, by decide, by decide⟩
  | .dict, _, e => by cases e; exact ⟨by decide +kernel, by decide, by decide, by decide⟩
  | .int, _, e => by cases e; exact ⟨by decide +kernel, by decide, by decide, by decide⟩
  | .str, _, e => by cases e; exact ⟨by decide +kernel, by decide, by decide, by decide⟩
  | .ord, _, e => by cases e; exact ⟨by decide +kernel, by decide, by decide, by decide⟩
  | .sorted, _, e => by cases e; exact ⟨by decide +kernel, by decide, by decide, by decide⟩
  | .sum, _, e => by cases e; exact ⟨by decide +kernel, by decide, by decide, by decide⟩
  | .any, _, e => by cases e; exact ⟨by decide +kernel, by decide, by decide, by decide⟩
  | .all, _, e => by cases e; exact ⟨by decide +kernel, by decide, by decide, by decide⟩
  | .max, _, e => by cases e; exact ⟨by decide +kernel, by decide, by decide, by decide⟩
  | .min, _, e => by cases e; exact ⟨by decide +kernel, by decide, by decide, by decide⟩
  | .lenset, _, e => by cases e
  | .sortset, _, e => by cases e
theorem f1_kind : ∀ f : F1, (∃ i, f1V f = .builtin i) ∨ ∃ t, f1V f = .type t
  | .len => .inl ⟨_, rfl⟩ | .list => .inr ⟨_, rfl⟩ | .tuple => .inr ⟨_, rfl⟩ | .dict => .inr ⟨_, rfl⟩ | .int => .inr ⟨_, rfl⟩ | .str => .inr ⟨_, rfl⟩ | .ord => .inl ⟨_, rfl⟩ | .sorted => .inl ⟨_, rfl⟩
  | .sum => .inl ⟨_, rfl⟩ | .any => .inl ⟨_, rfl⟩ | .all => .inl ⟨_, rfl⟩ | .max => .inl ⟨_, rfl⟩ | .min => .inl ⟨_, rfl⟩ | .lenset => .inl ⟨_, rfl⟩ | .sortset => .inl ⟨_, rfl⟩
theorem c_f1 (O : OkX S call cv W X) {f : F1} {n : Str} {p : Pos} (h1 : f1N f = some n) (h2 : glB S.sc n = true) (h3 : plainE x = true) (ha : PE X x (tE call cv W X a)) : PE X (.Call (.Name n p) [x] [] pos) (tE call cv W X (.f1 f a)) := by
  obtain ⟨q1, q2, q3, q4⟩ := f1_boot h1
  have rule := f1_ok (X := X) O.un O.calm f
  have red : ∀ σ H Q, tE call cv W X (.f1 f a) σ H Q → tCB (rF1 X.K X.w f) (tCons (tE call cv W X a) tNil) σ H Q := fun σ H Q h => (tR.one (g := fun _ M1 x => f1D M1 f x) h).imp fun x H1 ⟨ι, env, M, d, S, E, r, C⟩ => ⟨ι, M, d, x, _, rfl, S, r, C⟩
  rcases f1_kind f with ⟨i, e⟩ | ⟨t, e⟩
  · rw [e] at rule q1
    exact PE.imp (pe_callB rule (O.gl h2) (O.blt n q2) q1 (pa_cons ha pa_nil (star_plain h3)) q3 q4 (star_plain h3) rfl) red
  · rw [e] at rule q1
    exact PE.imp (pe_callTy rule (O.gl h2) (O.blt n q2) q1 (pa_cons ha pa_nil (star_plain h3)) q3 q4 (star_plain h3) rfl) red
theorem c_f2 (O : OkX S call cv W X) {f : F2} {p : Pos} (h2 : glB S.sc (f2N f) = true) (h3 : plainE x = true) (h4 : plainE y = true) (ha : PE X x (tE call cv W X a)) (hb : PE X y (tE call cv W X b)) : PE X (.Call (.Name (f2N f) p) [x, y] [] pos) (tE call cv W X (.f2 f a b)) := by
  have rule := f2_ok (X := X) O.calm f
  have red : ∀ σ H Q, tE call cv W X (.f2 f a b) σ H Q → tCB (rF2 X.K X.w f) (tCons (tE call cv W X a) (tCons (tE call cv W X b) tNil)) σ H Q := fun σ H Q h =>
    (tR.two (k := fun _ M x y => Rs.of M (f2D f x y)) (tR.ungc h)).imp fun x H1 q => q.imp fun y H2 ⟨ι, env, M, d, e, S, E, r, r2, C⟩ => ⟨ι, M, d, e, x, y, _, rfl, S, r, r2, C⟩
  cases f with
  | max => exact PE.imp (pe_callB (id := "max") rule (O.gl h2) (O.blt "max" (by decide)) PyProof.Rows.boot_max (pa_cons ha (pa_cons hb pa_nil (star_plain h4)) (star_plain h3)) (by decide) (by decide) (star_plain h3) (star_any (by simp [h4]))) red
  | min => exact PE.imp (pe_callB (id := "min") rule (O.gl h2) (O.blt "min" (by decide)) PyProof.Rows.boot_min (pa_cons ha (pa_cons hb pa_nil (star_plain h4)) (star_plain h3)) (by decide) (by decide) (star_plain h3) (star_any (by simp [h4]))) red
/-! isinstance -/
theorem ty_boot : ∀ {t : Ty} {n : String}, tyK t = [n] → bootBuiltins (tyS t) = some (.type n) ∧ tyS t ∈ bltN ∧ tyS t ≠ "__name__" ∧ ((tyS t) == ("__debug__" : Str)) = false
  | .tuple, _, e => by cases e; exact ⟨by decide +kernel, by decide, by decide, by decide⟩
  | .str, _, e => by cases e; exact ⟨by decide +kernel, by decide, by decide, by decide⟩
  | .int, _, e => by cases e; exact ⟨by decide +kernel, by decide, by decide, by decide⟩
  | .bool, _, e => by cases e; exact ⟨by decide +kernel, by decide, by decide, by decide⟩
  | .intstr, _, e => by cases e
theorem isi_one_ok (O : OkX S call cv W X) {t : Ty} {n : String} {p p2 : Pos} (hn : tyK t = [n]) (h1 : glB S.sc "isinstance" = true) (h2 : plainE x = true) (h3 : glB S.sc (tyS t) = true) (ha : PE X x (tE call cv W X a)) :
    PE X (.Call (.Name "isinstance" p) [x, .Name (tyS t) p2] [] pos) (tE call cv W X (.isi a t)) := by
  obtain ⟨q1, q2, q3, q4⟩ := ty_boot hn
  refine PE.imp (pe_callB (id := "isinstance") call_isi (O.gl h1) (O.blt "isinstance" (by decide)) PyProof.Rows.boot_isinstance (pa_cons ha (pa_cons (pe_bltn (v := .ty n) (O.gl h3) (O.blt _ q2) q1 rfl q3 q4) pa_nil rfl) (star_plain h2)) (by decide) (by decide) (star_plain h2) rfl) fun σ H Q h => ?_
  exact (tR.one (g := fun _ M1 x => Rs.of M1 ((isiM M1 t x).map .bl)) h).imp fun x H1 ⟨ι, env, M, d, S, E, r, C⟩ => by
    obtain ⟨k, e, C⟩ := RC.opt C
    exact ⟨x, .ty n, _, _, k, rfl, .ty n, isi_ty S r e, isi_one hn e, C.here S rfl⟩
theorem isi_two_ok (O : OkX S call cv W X) {p p2 p3 p4 : Pos} {k2 : Nat} (h1 : glB S.sc "isinstance" = true) (h2 : plainE x = true) (h3 : glB S.sc "int" = true) (h4 : glB S.sc "str" = true) (ha : PE X x (tE call cv W X a)) :
    PE X (.Call (.Name "isinstance" p) [x, .Tuple [.Name "int" p2, .Name "str" p3] k2 p4] [] pos) (tE call cv W X (.isi a .intstr)) := by
  refine PE.imp (pe_callB (id := "isinstance") call_isiT (O.gl h1) (O.blt "isinstance" (by decide)) PyProof.Rows.boot_isinstance
    (pa_cons ha (pa_cons (pe_tup (pa_cons (pe_bltn (v := .ty "int") (O.gl h3) (O.blt "int" (by decide)) PyProof.Rows.boot_int rfl) (pa_cons (pe_bltn (v := .ty "str") (O.gl h4) (O.blt "str" (by decide)) PyProof.Rows.boot_str rfl) pa_nil rfl) rfl)) pa_nil rfl) (star_plain h2)) (by decide) (by decide) (star_plain h2) rfl) fun σ H Q h => ?_
  exact (tR.one (g := fun _ M1 x => Rs.of M1 ((isiM M1 .intstr x).map .bl)) h).imp fun x H1 ⟨ι, env, M, d, S, E, r, C⟩ => by
    obtain ⟨k, e, C⟩ := RC.opt C
    refine ⟨by rw [sizeLine_eq]; decide, fun q hq => ⟨x, q, [.ty "int", .ty "str"], _, [.type "int", .type "str"], k, rfl, upd_same, .cons (.ty _) (.cons (.ty _) .nil), ?_, isi_two e, ?_⟩⟩
    · exact isi_ty (S.laid hq) (Rep.grow (grow_laid hq) _ _ r) e
    · exact C ι _ (.bl k) (grow_laid hq) (S.laid hq) rfl
end

/-! ### targets -/
/-- an item of a walk: a value, or a pair just made -/
def RI (K : PySem.W.Frag) (ι : List Addr) (H : Hp) (pr : Bool) (d : D) (v : V) : Prop := if pr = true then ∃ a x y dx dy, v = .ref a ∧ d = .tup [dx, dy] ∧ SqT K H a [x, y] ∧ Rep K ι H dx x ∧ Rep K ι H dy y else Rep K ι H d v
/-- what is stored -/
def gR (K : PySem.W.Frag) (w : World) (pr : Bool) (t : Tg) : TG := fun v σ H Q => ∃ ι M env d env', StRep K w ι H M ∧ ERep K ι H env σ ∧ RI K ι H pr d v ∧ asg t d env = some env' ∧
  ∀ σ', ERep K ι H env' σ' → σ'.length = σ.length → (∀ j, j ∉ tgIdx t → σ'[j]? = σ[j]?) → Q σ' H
def gRs (K : PySem.W.Frag) (w : World) (ts : List Tg) : TGs := fun vs σ H Q => ∃ ι M env ds env', StRep K w ι H M ∧ ERep K ι H env σ ∧ Reps K ι H ds vs ∧ asgs ts ds env = some env' ∧
  ∀ σ', ERep K ι H env' σ' → σ'.length = σ.length → (∀ j, j ∉ tgIdx.tgsIdx ts → σ'[j]? = σ[j]?) → Q σ' H
theorem PG.imp {X : Cx} {e : Expr} {t t' : TG} (h : PG X e t) (f : ∀ v σ H Q, t' v σ H Q → t v σ H Q) : PG X e t' := ⟨fun pins s σ H v u Q I r q => h.run pins s σ H v u Q I r (f v σ H Q q)⟩
theorem PGs.imp {X : Cx} {e : List Expr} {t t' : TGs} (h : PGs X e t) (f : ∀ v σ H Q, t' v σ H Q → t v σ H Q) : PGs X e t' := ⟨fun pins s σ H v u Q I r q => h.run pins s σ H v u Q I r (f v σ H Q q)⟩
def isTg : Expr → Bool
  | .Name .. => true | .Tuple .. => true
  | _ => false
theorem tg_each {e : Expr} {es : List Expr} {env : PySem.Env} (h : isTg e = true) : assignEach (e :: es) env = (false, assign e env) :: assignEach es env := by
  cases e <;> first | rfl | cases h
theorem each_len {env : PySem.Env} : ∀ {es : List Expr}, es.all isTg = true → (assignEach es env).length = es.length ∧ (assignEach es env).findIdx? (·.1) = none
  | [], _ => ⟨rfl, rfl⟩
  | e :: es, h => by
    rw [List.all_cons, Bool.and_eq_true] at h
    rw [tg_each h.1]
    obtain ⟨h1, h2⟩ := each_len (env := env) h.2
    refine ⟨by rw [List.length_cons, h1, List.length_cons], ?_⟩
    rw [List.findIdx?_cons]
    simp [h2]
theorem asgs_len : ∀ {ts : List Tg} {ds : List D} {env env' : Env}, asgs ts ds env = some env' → ds.length = ts.length
  | [], [], _, _, _ => rfl
  | [], _ :: _, _, _, e => by simp [asgs] at e
  | _ :: _, [], _, _, e => by simp [asgs] at e
  | t :: ts, d :: ds, env, env', e => by
    rw [asgs] at e
    obtain ⟨e1, _, h2⟩ := Option.bind_eq_some_iff.mp e
    rw [List.length_cons, List.length_cons, asgs_len h2]
theorem chkTg_is {S : Sta} : ∀ {t : Tg} {e : Expr}, chkTg S t e = true → isTg e = true
  | .nm i, e, h => by cases e <;> first | rfl | cases h
  | .tup ts, e, h => by cases e <;> first | rfl | cases h
theorem chkTgs_is {S : Sta} : ∀ {ts : List Tg} {es : List Expr}, chkTgs S ts es = true → es.all isTg = true ∧ es.length = ts.length
  | [], [], _ => ⟨rfl, rfl⟩
  | [], _ :: _, h => by cases h
  | t :: ts, [], h => by cases h
  | t :: ts, e :: es, h => by
    rw [chkTgs, Bool.and_eq_true] at h
    obtain ⟨h1, h2⟩ := chkTgs_is h.2
    exact ⟨by rw [List.all_cons, chkTg_is h.1, h1]; rfl, by rw [List.length_cons, List.length_cons, h2]⟩
section
variable {S : Sta} {call : Str → List D → Sto → Rs D} {cv : Str → Value} {W : WX} {X : Cx}
mutual
theorem tg_ok (O : OkX S call cv W X) : ∀ (t : Tg) (e : Expr), chkTg S t e = true → PG X e (gR X.K X.w false t)
  | .nm i, e, h => by
    cases e <;> first | cases h | skip
    rename_i x p
    simp only [chkTg, Bool.and_eq_true, decide_eq_true_eq, Bool.or_eq_true] at h
    obtain ⟨⟨h1, h2⟩, h3⟩ := h
    refine PG.imp (pg_name (by rw [O.nm]; exact O.nd) (by rw [O.nm]; exact h1) (by rw [O.sc]; exact locB_ok h2) (by rw [O.sc]; exact h3.elim (fun q => .inl (O.fb x q)) .inr)) fun v σ H Q ⟨ι, M, env, d, env', S, E, r, e, q⟩ => ?_
    cases e
    have r : Rep X.K ι H d v := r
    exact q _ (E.set i r) (by simp) fun j hj => by
      have hj : j ∉ [i] := hj
      rw [List.mem_singleton] at hj
      rw [List.getElem?_set_ne (Ne.symm hj)]
  | .tup ts, e, h => by
    cases e <;> first | cases h | skip
    rename_i es k p
    simp only [chkTg] at h
    obtain ⟨h1, h2⟩ := chkTgs_is h
    obtain ⟨h3, h4⟩ := each_len (env := X.env) h1
    refine PG.imp (pg_tup O.calm (tgs_ok O ts es h) h3 h4) fun v σ H Q ⟨ι, M, env, d, env', S, E, r, e, q⟩ => ?_
    have r : Rep X.K ι H d v := r
    cases d with
    | tup ds =>
      obtain ⟨a, vs, rfl, hp, rs⟩ := r
      have e : asgs ts ds env = some env' := e
      exact ⟨a, vs, rfl, hp.sq, by rw [← rs.length, asgs_len e, h2], ι, M, env, ds, env', S, E, rs, e, q⟩
    | _ => cases e
theorem tgs_ok (O : OkX S call cv W X) : ∀ (ts : List Tg) (es : List Expr), chkTgs S ts es = true → PGs X es (gRs X.K X.w ts)
  | [], es, h => by
    cases es with
    | nil =>
      refine PGs.imp pgs_nil fun vs σ H Q ⟨ι, M, env, ds, env', S, E, r, e, q⟩ => ?_
      cases ds with
      | nil => cases r; cases e; exact ⟨rfl, q σ E rfl fun _ _ => rfl⟩
      | cons d ds => cases e
    | cons e es => cases h
  | t :: ts, es, h => by
    cases es with
    | nil => cases h
    | cons x es =>
      simp only [chkTgs, Bool.and_eq_true] at h
      refine PGs.imp (pgs_cons (tg_ok O t x h.1) (tgs_ok O ts es h.2) (by rw [tg_each (chkTg_is h.1)]; rfl)) fun vs σ H Q ⟨ι, M, env, ds, env', S, E, r, e, q⟩ => ?_
      cases ds with
      | nil => cases e
      | cons d ds =>
        obtain ⟨v, vr, rfl, r1, r2⟩ := r
        rw [asgs] at e
        obtain ⟨env1, e1, e2⟩ := Option.bind_eq_some_iff.mp e
        refine ⟨v, vr, rfl, ι, M, env, d, env1, S, E, r1, e1, fun σ1 E1 l1 k1 => ⟨ι, M, env1, ds, env', S, E1, r2, e2, fun σ2 E2 l2 k2 => q σ2 E2 (l2.trans l1) fun j hj => ?_⟩⟩
        have hj : j ∉ tgIdx t ++ tgIdx.tgsIdx ts := hj
        rw [List.mem_append, not_or] at hj
        exact (k2 j hj.2).trans (k1 j hj.1)
end
/-- .. of a pair just made -/
theorem tg_okP (O : OkX S call cv W X) {t : Tg} {e : Expr} (hp : isTupE e = true) (h : chkTg S t e = true) : PG X e (gR X.K X.w true t) := by
  cases e <;> first | cases hp | skip
  rename_i es k p
  cases t with
  | nm i => cases h
  | tup ts =>
    simp only [chkTg] at h
    obtain ⟨h1, h2⟩ := chkTgs_is h
    obtain ⟨h3, h4⟩ := each_len (env := X.env) h1
    refine PG.imp (pg_tup O.calm (tgs_ok O ts es h) h3 h4) fun v σ H Q ⟨ι, M, env, d, env', S, E, r, e, q⟩ => ?_
    obtain ⟨a, x, y, dx, dy, rfl, rfl, hq, r1, r2⟩ := (show ∃ a x y dx dy, v = .ref a ∧ d = .tup [dx, dy] ∧ SqT X.K H a [x, y] ∧ Rep X.K ι H dx x ∧ Rep X.K ι H dy y from r)
    have e : asgs ts [dx, dy] env = some env' := e
    refine ⟨a, [x, y], rfl, hq, ?_, ι, M, env, [dx, dy], env', S, E, ⟨x, [y], rfl, r1, y, [], rfl, r2, rfl⟩, e, q⟩
    have := asgs_len e
    simp at this
    simp [h2, ← this]
end
end BT

/-! Walks. -/
namespace BT
open PySem PySem.Spec PyProof.Rows L2

/-! ### enumerate of a tuple -/
section
open Sem (wp)
theorem enumTup_new (l : Addr) (items : Array Value) :
    Meets (Builtin.«enumerate.__new__» ⟨[.type "enumerate", .ref l], []⟩) (fun _ R s => s.heap.IsTuple l items ∧
      R (.ok (.ret (.ref (s.heap.objs.size + 1)))) { s with heap := (s.heap.push { cls := .type "tuple_iterator", data := .fields #[.ref l, .int 0 0] }).push { cls := .type "enumerate", data := .fields #[.none, .bool false, .ref s.heap.objs.size, rawInt 0, .none, .none] } }) :=
  .of_wp fun prog w A R s h => by
    obtain ⟨hp, g, d, tk, os⟩ := s; obtain ⟨hl, h⟩ := h
    have e1 : (hp.push { cls := .type "tuple_iterator", data := .fields #[.ref l, .int 0 0] }).objs.size = hp.objs.size + 1 := Heap.size_push ..
    rw [← e1] at h
    have hsub := sub_enumerate
    have go : ∀ {A' : Around} {E : Value → Shared → Prop} {Q : Value → Shared → Prop}, Q (.ref hp.objs.size) ⟨hp.push { cls := .type "tuple_iterator", data := .fields #[.ref l, .int 0 0] }, g, d, tk, os⟩ → wpAny (model prog w) A' (pyIter (.ref l)) Q E ⟨hp, g, d, tk, os⟩ :=
      fun q => wpAny_pyIter_tuple (s := ⟨hp, g, d, tk, os⟩) hl q
    wp_walk using go
    refine wpAny_stack_any fun st => wpAny_pure ?_
    split
    · rename_i c _ _ _ _ _
      cases (c == Value.type "enumerate") <;> (wp_walk using go; exact ⟨_, rfl, h⟩)
    · wp_walk using go
      exact ⟨_, rfl, h⟩
theorem enumTup_call {prog : Program} {w : World} {A : Around} {E : Value → Shared → Prop} {s : Shared} {l : Addr} {items : Array Value} {Q : Value → Shared → Prop} (hL : s.heap.IsTuple l items)
    (h : ∀ h', IsEnum h' (s.heap.objs.size + 1) s.heap.objs.size 0 .none → h'.IsTupleIter s.heap.objs.size l 0 → (∀ b o, s.heap.get? b = some o → h'.get? b = some o) → Q (.ref (s.heap.objs.size + 1)) { s with heap := h' }) :
    wpAny (model prog w) A (call (.type "enumerate") [.ref l]) Q E s := by
  refine callType_new F.called_enumerate (by decide) (F.typeCall_enumerate_1 _) (F.newCall_enumerate_1 _) (fun obj => F.args_object_init_2 obj _) F.entry_enumerate_new (enumTup_new l items) ⟨hL, ?_⟩
  have e1 : (s.heap.push { cls := .type "tuple_iterator", data := .fields #[.ref l, .int 0 0] }).objs.size = s.heap.objs.size + 1 := Heap.size_push ..
  have e2 := Heap.get?_push_size (s.heap.push { cls := .type "tuple_iterator", data := .fields #[.ref l, .int 0 0] }) (o := { cls := .type "enumerate", data := .fields #[.none, .bool false, .ref s.heap.objs.size, rawInt 0, .none, .none] }) rfl
  rw [e1] at e2
  exact ⟨⟨_, e2, rfl⟩, h _ e2 ⟨_, Heap.get?_push_of_some _ (Heap.get?_push_size _ rfl), rfl, rfl⟩ fun b o x => Heap.get?_push_of_some _ (Heap.get?_push_of_some _ x)⟩
end
/-- the tuple at a, numbered -/
def IteT (K : PySem.W.Frag) (a : Addr) : L2.It :=
  ⟨fun i H => ∃ (xs : List V) (x : V), SqT K H a xs ∧ xs[i]? = some x, fun i H v H' => ∃ T x, v = .ref T ∧ H T = none ∧ H' = upd H T (.tup [.int (i : Nat), x]) ∧ ∀ xs, SqT K H a xs → xs[i]? = some x, fun i H => ∃ xs : List V, SqT K H a xs ∧ xs.length ≤ i⟩
theorem turn_enumT {P : Program} {w : World} {K : PySem.W.Frag} {elts : List Expr} {kk : Nat} {tpos : Pos} (a e it : Addr) :
    Turn P w K (.Tuple elts kk tpos) (IteT K a) [e, it] e (fun i h => (∃ old, IsEnum h e it ((i : Nat) : Int) old) ∧ h.IsTupleIter it a i ∧ e ≠ it ∧ e ≠ a ∧ a ≠ it) where
  mem := by simp
  obj := fun i h st b hb => by
    obtain ⟨⟨old, he⟩, ⟨o, ho, hc, hd⟩, _⟩ := st
    rcases List.mem_cons.mp hb with z | z
    · rw [z]; exact ⟨_, he, fun v q => nomatch q⟩
    · rw [List.mem_singleton.mp z]; exact ⟨o, ho, fun v q => by rw [hd] at q; cases q⟩
  keep := fun i h h' st k => let ⟨⟨old, he⟩, hi, hne⟩ := st; ⟨⟨old, k e (by simp) _ he⟩, hi.at fun o q => k it (by simp) o q, hne⟩
  item := by
    intro X hP hw hK hc i pins s σ H E I hf st hg
    subst hP hw hK
    obtain ⟨⟨old, he⟩, hit, hne, hea, hai⟩ := st
    obtain ⟨xs, x, hq, hx⟩ := hg
    obtain ⟨its, rv, p, hz⟩ := I.tuple hq
    obtain ⟨u, hu, ru⟩ := rv.get hx
    have hel : e < s.heap.objs.size := Heap.lt_size he
    have hil : it < s.heap.objs.size := by obtain ⟨_, q, _⟩ := hit; exact Heap.lt_size q
    have hul : i < its.toArray.size := by
      have := (List.getElem?_eq_some_iff.mp hu).1
      simpa using this
    refine wpAny_pyNext_enum_itemD (Draws.tuple (prog := X.prog) (w := X.w) (A := X.A.in1) (I.ok.hd hc) it a hai its.toArray) he ⟨hit, p⟩ hul hne (by simp [hne, hea]) fun y h' tk hy ho hst hT hsz hk => ?_
    obtain ⟨hit', _⟩ := hst
    have ey : y = u := by
      have : its.toArray[i]? = some u := by simpa using hu
      rw [this] at hy; exact (Option.some.inj hy).symm
    subst ey
    refine ⟨_, rfl, wpAny_letOwnedTupleGo_enum (s := { s with heap := h', toks := tk + 1 }) ho fun h'' he' sb => ?_⟩
    have hT2 : h''.get? s.heap.objs.size = some { cls := .type "tuple", data := .seq #[.int i tk, y] } := (sb.2 _ (Nat.ne_of_gt hel)).trans hT
    have new : ObjOk X.prog X.w (upd H s.heap.objs.size (.tup [.int (i : Nat), x])) h'' s.heap.objs.size (.tup [.int (i : Nat), x]) :=
      ⟨by show 2 ≤ sizeLine; decide, [.int i tk, y], .cons ⟨_, rfl⟩ (.cons ru .nil), ⟨_, hT2, rfl, _, rfl⟩⟩
    have I1 : Inv X pins σ (upd H s.heap.objs.size (.tup [.int (i : Nat), x])) { s with heap := h'', toks := tk + 1 } :=
      I.turnedNew (ch := [e, it]) (fun b ob hb q => (sb.2 b (fun z => hb (by simp [z]))).trans (hk b ob (fun z => hb (by simp [z])) (fun z => hb (by simp [z])) q)) hf (Nat.le_refl _) new
    refine ⟨.ref s.heap.objs.size, _, I1, rfl, ⟨_, x, rfl, I.fresh, rfl, fun ys hy => by rw [I.tuple_inj hy hq]; exact hx⟩, ⟨⟨y, ?_⟩, hit'.at fun o q => (sb.2 it (Ne.symm hne)).trans q, hne, hea, hai⟩, fun b hb => ?_⟩
    · rw [show ((i + 1 : Nat) : Int) = (i : Int) + 1 by omega]; exact he'
    · have hb' : b < s.heap.objs.size := by
        rcases List.mem_cons.mp hb with z | z
        · rw [z]; exact hel
        · rw [List.mem_singleton.mp z]; exact hil
      rw [upd_ne (Nat.ne_of_lt hb')]
      exact (hf b hb).1
  done := by
    intro X hP hw hK hc i pins s σ H E I hf st hg
    subst hP hw hK
    obtain ⟨⟨old, he⟩, hit, hne, hea, hai⟩ := st
    obtain ⟨xs, hq, hx⟩ := hg
    obtain ⟨its, rv, p, hz⟩ := I.tuple hq
    obtain ⟨f0, f1, f2, f3, f4, f5⟩ := hf it (by simp)
    have hl := rv.length
    have D : Draws X.prog X.w X.A.in1 it [it, a] i (fun _ _ => False) (fun j h => j = i ∧ h.IsTupleIter it a i ∧ h.IsTuple a its.toArray) := {
      live := fun _ _ st => let ⟨_, ⟨o, ho, _⟩, _⟩ := st; ⟨o, ho⟩
      frame := fun _ _ _ st hk => ⟨st.1, st.2.1.at fun o e => hk it (by simp) o e, st.2.2.at fun o e => hk a (by simp) o e⟩
      item := fun j s Q E hj st hQ => absurd hj (by rw [st.1]; exact Nat.lt_irrefl _)
      done := fun s Q E st hE => wpAny_nextOf_tuple_end (I.ok.hd hc) st.2.1 st.2.2 (by simp; omega) hE }
    exact wpAny_pyNext_enum_endD D he ⟨rfl, hit, p⟩ fun h' eb => ⟨rfl, I.turned (t' := s.toks) (fun b o hb q => eb b o hb q) f0 f1 f3 f4 f5⟩
  self := fun A i s Q E st h => let ⟨⟨_, he⟩, _⟩ := st; wpAny_pyIter_enum he h
section
variable {X : Cx} {tg : Expr} {e : Expr}
/-- enumerate of a list or a tuple -/
theorem pi_enumA {te : TE} {p pos tpos : Pos} {elts : List Expr} {kk : Nat} (hg : Gl X "enumerate") (hm : X.mg "enumerate" = none) (he : PE X e te) (hp : plainE e = true) :
    PI X (.Tuple elts kk tpos) (.Call (.Name "enumerate" p) [e] [] pos) (fun σ H R => te σ H fun x H1 => ∃ a, x = .ref a ∧ ((∃ xs, SqL X.K H1 a xs ∧ R (Ite X.K a) H1) ∨ ∃ xs, SqT X.K H1 a xs ∧ R (IteT X.K a) H1)) := by
  refine ⟨fun pins s σ H R I h => ?_⟩
  have ha : PA X [e] (tCons te tNil) := pa_cons he pa_nil (star_plain hp)
  refine Call_ (ld_blt I hg hm boot_enumerate (PyProof.Rows.callWith_type1 (thn (ha.run pos pins s σ H (fun vs H1 => match vs with
    | [x] => ∃ a, x = .ref a ∧ ((∃ xs, SqL X.K H1 a xs ∧ R (Ite X.K a) H1) ∨ ∃ xs, SqT X.K H1 a xs ∧ R (IteT X.K a) H1)
    | _ => False) I h) fun us s1 ⟨vs, H1, I1, r1, q⟩ => ?_) (star_plain hp) rfl))
  · dsimp only at q
    split at q
    rotate_left
    · exact q.elim
    obtain ⟨a, ea, q⟩ := q
    subst ea
    obtain ⟨u, rfl, ru⟩ := vals1 r1
    cases ru
    have fresh2 : ∀ b, b ∈ [s1.heap.objs.size + 1, s1.heap.objs.size] → FpOk X pins H1 b := fun b hb => by
      have hle : s1.heap.objs.size ≤ b := by
        rcases List.mem_cons.mp hb with z | z
        · rw [z]; exact Nat.le_add_right _ _
        · rw [List.mem_singleton.mp z]; exact Nat.le_refl _
      exact I1.fpOk hle (I1.hok.fresh hle)
    rcases q with ⟨xs, hq, q⟩ | ⟨xs, hq, q⟩
    · obtain ⟨its, rv, pl, _⟩ := I1.list hq
      refine call_enumerate_list pl.isList fun h' he' hit _ hk => wpAny_pyIter_enum he' ?_
      exact ⟨_, [s1.heap.objs.size + 1, s1.heap.objs.size], _, _, H1, rfl, I1.kept (t' := s1.toks) hk, turn_enum a _ _, ⟨⟨.none, he'⟩, hit, Nat.succ_ne_self _⟩, fresh2, q⟩
    · obtain ⟨its, rv, pl, _⟩ := I1.tuple hq
      have hal := pl.lt
      refine enumTup_call pl fun h' he' hit hk => wpAny_pyIter_enum he' ?_
      exact ⟨_, [s1.heap.objs.size + 1, s1.heap.objs.size], _, _, H1, rfl, I1.kept (t' := s1.toks) hk, turn_enumT a _ _, ⟨⟨.none, he'⟩, hit, Nat.succ_ne_self _, Nat.ne_of_gt (Nat.lt_succ_of_lt hal), Nat.ne_of_lt hal⟩, fresh2, q⟩
/-- a list, a tuple, a text -/
def AnyIt (K : PySem.W.Frag) (x : V) (H : Hp) (J : L2.It) : Prop := (∃ a, x = .ref a ∧ (∃ xs, SqL K H a xs) ∧ J = Itl K a) ∨ (∃ a, x = .ref a ∧ (∃ xs, SqT K H a xs) ∧ J = Itt K a) ∨ ∃ z, x = .str z ∧ J = Its z
theorem pi_any {te : TE} (he : PE X e te) : PI X tg e (fun σ H R => te σ H fun x H1 => ∃ J, AnyIt X.K x H1 J ∧ R J H1) := by
  refine ⟨fun pins s σ H R I h => ?_⟩
  refine thn (he.run pins s σ H _ I h) fun v s1 ⟨x, H1, I1, r1, J, k, q⟩ => ?_
  rcases k with ⟨a, ea, ⟨xs, hq⟩, eJ⟩ | ⟨a, ea, ⟨xs, hq⟩, eJ⟩ | ⟨z, ea, eJ⟩
  · subst ea eJ
    cases r1
    obtain ⟨its, rv, p, _⟩ := I1.list hq
    exact wpAny_pyIter_list p.isList (pi_one (tk := s1.toks) I1 _ (turn_list a _) ⟨_, Heap.get?_push_size _ rfl, rfl, rfl⟩ q)
  · subst ea eJ
    cases r1
    obtain ⟨its, rv, p, _⟩ := I1.tuple hq
    exact wpAny_pyIter_tuple (show s1.heap.IsTuple a its.toArray from p) (pi_one (tk := s1.toks) I1 _ (turn_tuple a _) ⟨_, Heap.get?_push_size _ rfl, rfl, rfl⟩ q)
  · subst ea eJ
    obtain ⟨t, rfl⟩ := r1
    cases ha : z.cps.all (· < 128)
    · exact wpAny_pyIter_wide ha (pi_one (tk := s1.toks) I1 _ (turn_str _ z t "str_iterator" (.inr rfl)) ⟨_, Heap.get?_push_size _ rfl, rfl, rfl⟩ q)
    · exact wpAny_pyIter_ascii ha (pi_one (tk := s1.toks) I1 _ (turn_str _ z t "str_ascii_iterator" (.inl rfl)) ⟨_, Heap.get?_push_size _ rfl, rfl, rfl⟩ q)
end
end BT

/-! What is walked. -/
namespace BT
open PySem PySem.Spec PyProof.Rows L2
/-- J walks the items of wk, from a state on -/
def RW (K : PySem.W.Frag) (w : World) (pr : Bool) (ι : List Addr) (H : Hp) (wk : Wk) (J : L2.It) : Prop :=
  L2.Walk J wk.items.length (fun H' => ∃ ι' M', Grow ι H ι' H' ∧ StRep K w ι' H' M' ∧ wk.ok M' = true)
    (fun i H1 x H2 => ∀ ι' M', Grow ι H ι' H1 → StRep K w ι' H1 M' → wk.ok M' = true → ∃ d, wk.items[i]? = some d ∧ Grow ι' H1 ι' H2 ∧ StRep K w ι' H2 M' ∧ RI K ι' H2 pr d x)
section
variable {K : PySem.W.Frag} {w : World} {ι : List Addr} {H : Hp} {M : Sto}
theorem at_of_reps {ds : List D} {vs : List V} {i : Nat} {x : V} (r : Reps K ι H ds vs) (e : vs[i]? = some x) : ∃ d, ds[i]? = some d ∧ Rep K ι H d x := by
  have hi : i < ds.length := by rw [r.length]; exact (List.getElem?_eq_some_iff.mp e).1
  obtain ⟨v, e1, r1⟩ := r.get (List.getElem?_eq_getElem hi)
  rw [e] at e1; cases e1
  exact ⟨ds[i], List.getElem?_eq_getElem hi, r1⟩
theorem lt_reps {ds : List D} {vs : List V} {i : Nat} (r : Reps K ι H ds vs) (h : i < ds.length) : ∃ x, vs[i]? = some x := ⟨vs[i]'(by rw [← r.length]; exact h), List.getElem?_eq_getElem _⟩
theorem one_keep {k : Nat} {o : MO} {xs : List D} {M' : Sto} : (Wk.mk xs [(k, o)]).ok M' = true ↔ M'[k]? = some o := by
  simp [Wk.ok]
theorem two_keep {k j : Nat} {o u : MO} {xs : List D} {M' : Sto} : (Wk.mk xs [(k, o), (j, u)]).ok M' = true ↔ M'[k]? = some o ∧ M'[j]? = some u := by
  simp [Wk.ok]
theorem rw_tup {ds : List D} {a : Addr} {vs : List V} (h : TupS H a vs) (r : Reps K ι H ds vs) : RW K w false ι H ⟨ds, []⟩ (Itt K a) where
  goes := fun i H' hi ⟨ι', M', g, S, _⟩ => by
    obtain ⟨x, e⟩ := lt_reps r hi
    exact ⟨vs, x, (h.grow g).sq, e⟩
  stops := fun H' ⟨ι', M', g, S, _⟩ => ⟨vs, (h.grow g).sq, Nat.le_of_eq r.length.symm⟩
  yields := fun i H1 x H2 hi _ y ι' M' g S _ => by
    obtain ⟨rfl, y⟩ := y
    have e := y vs (h.grow g).sq
    obtain ⟨d, e1, r1⟩ := at_of_reps (Reps.grow g _ _ r) e
    exact ⟨d, e1, .refl, S, r1⟩
theorem rw_lst {k : Nat} {ds : List D} {a : Addr} (ek : ι[k]? = some a) : RW K w false ι H ⟨ds, [(k, .lst ds)]⟩ (Itl K a) where
  goes := fun i H' hi ⟨ι', M', g, S, o⟩ => by
    obtain ⟨vs, hv, r⟩ := S.at_ k a _ (prefix_get g.pre ek) (one_keep.mp o)
    obtain ⟨x, e⟩ := lt_reps r hi
    exact ⟨vs, x, .of hv, e⟩
  stops := fun H' ⟨ι', M', g, S, o⟩ => by
    obtain ⟨vs, hv, r⟩ := S.at_ k a _ (prefix_get g.pre ek) (one_keep.mp o)
    exact ⟨vs, .of hv, Nat.le_of_eq r.length.symm⟩
  yields := fun i H1 x H2 hi _ y ι' M' g S o => by
    obtain ⟨rfl, y⟩ := y
    obtain ⟨vs, hv, r⟩ := S.at_ k a _ (prefix_get g.pre ek) (one_keep.mp o)
    obtain ⟨d, e1, r1⟩ := at_of_reps r (y vs (.of hv))
    exact ⟨d, e1, .refl, S, r1⟩
theorem rw_fl {is : List Int} {a : Addr} (h : FL K H a (is.map V.int)) : RW K w false ι H ⟨is.map .int, []⟩ (Itl K a) where
  goes := fun i H' hi ⟨ι', M', g, S, o⟩ => by
    obtain ⟨x, e⟩ := lt_reps (reps_ints (K := K) (ι := ι) (H := H) is) hi
    exact ⟨_, x, (h.grow g).seq, e⟩
  stops := fun H' ⟨ι', M', g, S, o⟩ => ⟨_, (h.grow g).seq, by simp⟩
  yields := fun i H1 x H2 hi _ y ι' M' g S o => by
    obtain ⟨rfl, y⟩ := y
    obtain ⟨d, e1, r1⟩ := at_of_reps (reps_ints (K := K) (ι := ι') (H := H2) is) (y _ (h.grow g).seq)
    exact ⟨d, e1, .refl, S, r1⟩
theorem rw_str {z : Str} : RW K w false ι H ⟨z.cps.toList.map fun c => .str ⟨#[c]⟩, []⟩ (Its z) where
  goes := fun i H' hi _ => by
    have hi : i < (z.cps.toList.map fun c => D.str ⟨#[c]⟩).length := hi
    simp at hi
    exact hi
  stops := fun H' _ => by show z.cps.size ≤ _; simp
  yields := fun i H1 x H2 hi _ y ι' M' g S o => by
    obtain ⟨rfl, c, e, rfl⟩ := y
    refine ⟨.str ⟨#[c]⟩, ?_, .refl, S, rfl⟩
    simp [e]
theorem seq_ok (S : StRep K w ι H M) {d : D} {x : V} {wk : Wk} (r : Rep K ι H d x) (e : seqW M d = some wk) : ∃ J, AnyIt K x H J ∧ RW K w false ι H wk J := by
  cases d with
  | tup ds =>
    obtain ⟨a, vs, rfl, h, rs⟩ := r
    cases e
    exact ⟨_, .inr (.inl ⟨a, rfl, ⟨vs, h.sq⟩, rfl⟩), rw_tup h rs⟩
  | fl is =>
    obtain ⟨a, rfl, h⟩ := r
    cases e
    exact ⟨_, .inl ⟨a, rfl, ⟨_, h.seq⟩, rfl⟩, rw_fl h⟩
  | str z =>
    cases r; cases e
    exact ⟨_, .inr (.inr ⟨z, rfl, rfl⟩), rw_str⟩
  | ref k =>
    simp only [seqW] at e
    split at e
    · rename_i ds em
      cases e
      obtain ⟨a, vs, rfl, ek, h, rs⟩ := S.lst r em
      exact ⟨_, .inl ⟨a, rfl, ⟨vs, .of h⟩, rfl⟩, rw_lst ek⟩
    · cases e
  | _ => cases e
theorem upto_at : ∀ (n : Nat) (lo : Int) (i : Nat), i < n → (upto lo n)[i]? = some (.int (lo + i))
  | 0, _, _, h => absurd h (Nat.not_lt_zero _)
  | n + 1, lo, 0, _ => by simp [upto]
  | n + 1, lo, i + 1, h => by
    rw [upto, List.getElem?_cons_succ, upto_at n (lo + 1) i (by omega)]
    congr 2
    omega
theorem upto_len : ∀ (n : Nat) (lo : Int), (upto lo n).length = n
  | 0, _ => rfl
  | n + 1, lo => by rw [upto, List.length_cons, upto_len n]
theorem rw_rng {lo : Int} {n : Nat} : RW K w false ι H ⟨upto lo n, []⟩ (Itr lo n) where
  goes := fun i H' hi _ => by rw [show (Wk.mk (upto lo n) []).items.length = n from upto_len n lo] at hi; exact hi
  stops := fun H' _ => Nat.le_of_eq (upto_len n lo).symm
  yields := fun i H1 x H2 hi _ y ι' M' g S o => by
    rw [show (Wk.mk (upto lo n) []).items.length = n from upto_len n lo] at hi
    obtain ⟨rfl, rfl⟩ := y
    exact ⟨_, upto_at n lo i hi, .refl, S, rfl⟩
theorem okR_ok {i : Int} (h : okR i = true) : -(2 ^ 62) ≤ i ∧ i < 2 ^ 62 := by
  unfold okR at h
  rw [Bool.and_eq_true, decide_eq_true_eq, decide_eq_true_eq] at h
  exact h
theorem numb_at : ∀ (ds : List D) (n i : Nat) (d : D), ds[i]? = some d → (numb n ds)[i]? = some (.tup [.int ((n + i : Nat) : Int), d])
  | [], _, _, _, e => by simp at e
  | x :: ds, n, 0, d, e => by simp at e; subst e; simp [numb]
  | x :: ds, n, i + 1, d, e => by
    simp at e
    rw [numb, List.getElem?_cons_succ, numb_at ds (n + 1) i d e]
    congr 5
    omega
theorem numb_len : ∀ (ds : List D) (n : Nat), (numb n ds).length = ds.length
  | [], _ => rfl
  | x :: ds, n => by rw [numb, List.length_cons, numb_len ds, List.length_cons]
/-- a pair just laid -/
theorem pair_laid {H1 H2 : Hp} {ι' : List Addr} {M' : Sto} {T : Addr} {x y : V} {dx dy : D} (S : StRep K w ι' H1 M') (hT : H1 T = none) (e : H2 = upd H1 T (.tup [x, y])) (rx : Rep K ι' H1 dx x) (ry : Rep K ι' H1 dy y) :
    Grow ι' H1 ι' H2 ∧ StRep K w ι' H2 M' ∧ RI K ι' H2 true (.tup [dx, dy]) (.ref T) := by
  subst e
  exact ⟨grow_laid hT, S.laid hT, T, x, y, dx, dy, rfl, rfl, .of upd_same, Rep.grow (grow_laid hT) _ _ rx, Rep.grow (grow_laid hT) _ _ ry⟩
theorem rw_enumL {k : Nat} {ds : List D} {a : Addr} (ek : ι[k]? = some a) : RW K w true ι H ⟨numb 0 ds, [(k, .lst ds)]⟩ (Ite K a) where
  goes := fun i H' hi ⟨ι', M', g, S, o⟩ => by
    rw [show (Wk.mk (numb 0 ds) [(k, .lst ds)]).items.length = ds.length from numb_len ds 0] at hi
    obtain ⟨vs, hv, r⟩ := S.at_ k a _ (prefix_get g.pre ek) (one_keep.mp o)
    obtain ⟨x, e⟩ := lt_reps r hi
    exact ⟨vs, x, .of hv, e⟩
  stops := fun H' ⟨ι', M', g, S, o⟩ => by
    obtain ⟨vs, hv, r⟩ := S.at_ k a _ (prefix_get g.pre ek) (one_keep.mp o)
    exact ⟨vs, .of hv, by rw [show (Wk.mk (numb 0 ds) [(k, .lst ds)]).items.length = ds.length from numb_len ds 0]; exact Nat.le_of_eq r.length.symm⟩
  yields := fun i H1 x H2 hi _ y ι' M' g S o => by
    obtain ⟨T, x, rfl, hT, e, y⟩ := y
    obtain ⟨vs, hv, r⟩ := S.at_ k a _ (prefix_get g.pre ek) (one_keep.mp o)
    obtain ⟨d, e1, r1⟩ := at_of_reps r (y vs (.of hv))
    obtain ⟨q1, q2, q3⟩ := pair_laid (dx := .int (i : Nat)) S hT e rfl r1
    exact ⟨_, (numb_at ds 0 i d e1).trans (by rw [Nat.zero_add]), q1, q2, q3⟩
theorem rw_enumT {ds : List D} {a : Addr} {vs : List V} (h : TupS H a vs) (r : Reps K ι H ds vs) : RW K w true ι H ⟨numb 0 ds, []⟩ (IteT K a) where
  goes := fun i H' hi ⟨ι', M', g, S, o⟩ => by
    rw [show (Wk.mk (numb 0 ds) []).items.length = ds.length from numb_len ds 0] at hi
    obtain ⟨x, e⟩ := lt_reps r hi
    exact ⟨vs, x, (h.grow g).sq, e⟩
  stops := fun H' ⟨ι', M', g, S, o⟩ => ⟨vs, (h.grow g).sq, by rw [show (Wk.mk (numb 0 ds) []).items.length = ds.length from numb_len ds 0]; exact Nat.le_of_eq r.length.symm⟩
  yields := fun i H1 x H2 hi _ y ι' M' g S o => by
    obtain ⟨T, x, rfl, hT, e, y⟩ := y
    obtain ⟨d, e1, r1⟩ := at_of_reps (Reps.grow g _ _ r) (y vs (h.grow g).sq)
    obtain ⟨q1, q2, q3⟩ := pair_laid (dx := .int (i : Nat)) S hT e rfl r1
    exact ⟨_, (numb_at ds 0 i d e1).trans (by rw [Nat.zero_add]), q1, q2, q3⟩
theorem pairUp_at : ∀ (xs ys : List D) (i : Nat) (x y : D), xs[i]? = some x → ys[i]? = some y → (pairUp xs ys)[i]? = some (.tup [x, y])
  | [], _, _, _, _, e, _ => by simp at e
  | _ :: _, [], _, _, _, _, e => by simp at e
  | a :: xs, b :: ys, 0, x, y, e, e' => by simp at e e'; subst e e'; simp [pairUp]
  | a :: xs, b :: ys, i + 1, x, y, e, e' => by
    simp at e e'
    rw [pairUp, List.getElem?_cons_succ]
    exact pairUp_at xs ys i x y e e'
theorem pairUp_len : ∀ (xs ys : List D), (pairUp xs ys).length = min xs.length ys.length
  | [], _ => by simp [pairUp]
  | _ :: _, [] => by simp [pairUp]
  | a :: xs, b :: ys => by rw [pairUp, List.length_cons, pairUp_len xs ys, List.length_cons, List.length_cons]; omega
theorem rw_zipT {xs ys : List D} {a b : Addr} {vs us : List V} (h : TupS H a vs) (r : Reps K ι H xs vs) (h' : TupS H b us) (r' : Reps K ι H ys us) : RW K w true ι H ⟨pairUp xs ys, []⟩ (RZ.ItzT K a b) where
  goes := fun i H' hi ⟨ι', M', g, S, o⟩ => by
    rw [show (Wk.mk (pairUp xs ys) []).items.length = _ from pairUp_len xs ys] at hi
    obtain ⟨x, e⟩ := lt_reps r (i := i) (by omega)
    obtain ⟨y, e'⟩ := lt_reps r' (i := i) (by omega)
    exact ⟨vs, us, x, y, (h.grow g).sq, (h'.grow g).sq, e, e'⟩
  stops := fun H' ⟨ι', M', g, S, o⟩ => ⟨vs, us, (h.grow g).sq, (h'.grow g).sq, by
    rw [show (Wk.mk (pairUp xs ys) []).items.length = _ from pairUp_len xs ys, r.length, r'.length]; omega⟩
  yields := fun i H1 x H2 hi _ y ι' M' g S o => by
    obtain ⟨T, x, y', rfl, hT, e, y, z⟩ := y
    obtain ⟨d, e1, r1⟩ := at_of_reps (Reps.grow g _ _ r) (y vs (h.grow g).sq)
    obtain ⟨d', e2, r2⟩ := at_of_reps (Reps.grow g _ _ r') (z us (h'.grow g).sq)
    obtain ⟨q1, q2, q3⟩ := pair_laid S hT e r1 r2
    exact ⟨_, pairUp_at xs ys i d d' e1 e2, q1, q2, q3⟩
theorem rw_zipL {xs ys : List D} {j k : Nat} {a b : Addr} (ek : ι[j]? = some a) (ek' : ι[k]? = some b) : RW K w true ι H ⟨pairUp xs ys, [(j, .lst xs), (k, .lst ys)]⟩ (Itz K a b) where
  goes := fun i H' hi ⟨ι', M', g, S, o⟩ => by
    rw [show (Wk.mk (pairUp xs ys) [(j, .lst xs), (k, .lst ys)]).items.length = _ from pairUp_len xs ys] at hi
    obtain ⟨o1, o2⟩ := two_keep.mp o
    obtain ⟨vs, hv, r⟩ := S.at_ j a _ (prefix_get g.pre ek) o1
    obtain ⟨us, hu, r'⟩ := S.at_ k b _ (prefix_get g.pre ek') o2
    obtain ⟨x, e⟩ := lt_reps r (i := i) (by omega)
    obtain ⟨y, e'⟩ := lt_reps r' (i := i) (by omega)
    exact ⟨vs, us, x, y, .of hv, .of hu, e, e'⟩
  stops := fun H' ⟨ι', M', g, S, o⟩ => by
    obtain ⟨o1, o2⟩ := two_keep.mp o
    obtain ⟨vs, hv, r⟩ := S.at_ j a _ (prefix_get g.pre ek) o1
    obtain ⟨us, hu, r'⟩ := S.at_ k b _ (prefix_get g.pre ek') o2
    refine ⟨vs, us, .of hv, .of hu, ?_⟩
    rw [show (Wk.mk (pairUp xs ys) [(j, .lst xs), (k, .lst ys)]).items.length = _ from pairUp_len xs ys, r.length, r'.length]; omega
  yields := fun i H1 x H2 hi _ y ι' M' g S o => by
    obtain ⟨T, x, y', rfl, hT, e, y, z⟩ := y
    obtain ⟨o1, o2⟩ := two_keep.mp o
    obtain ⟨vs, hv, r⟩ := S.at_ j a _ (prefix_get g.pre ek) o1
    obtain ⟨us, hu, r'⟩ := S.at_ k b _ (prefix_get g.pre ek') o2
    obtain ⟨d, e1, r1⟩ := at_of_reps r (y vs (.of hv))
    obtain ⟨d', e2, r2⟩ := at_of_reps r' (z us (.of hu))
    obtain ⟨q1, q2, q3⟩ := pair_laid S hT e r1 r2
    exact ⟨_, pairUp_at xs ys i d d' e1 e2, q1, q2, q3⟩
end
theorem PI.imp {X : Cx} {tg e : Expr} {t t' : TI} (h : PI X tg e t) (f : ∀ σ H R, t' σ H R → t σ H R) : PI X tg e t' := ⟨fun pins s σ H R I q => h.run pins s σ H R I (f σ H R q)⟩
section
variable {S : Sta} {call : Str → List D → Sto → Rs D} {cv : Str → Value} {W : WX} {X : Cx} {a b : Ex} {x y tg : Expr} {pos : Pos}
def isPr : It → Bool
  | .enum _ => true | .zip _ _ => true
  | _ => false
abbrev iR (call : Str → List D → Sto → Rs D) (cv : Str → Value) (W : WX) (X : Cx) (it : It) : TI := tR X.K X.w cv (RW X.K X.w (isPr it)) W (evalI call it)
theorem RC.optW {K : PySem.W.Frag} {w : World} {ι : List Addr} {H : Hp} {M : Sto} {Xf : Str → Hp → Prop} {pr : Bool} {R : L2.It → Hp → Prop} {o : Option Wk} (h : RC K w (RW K w pr) Xf ι H (Rs.of M o) R) : ∃ wk, o = some wk ∧ ∀ ι' H' b, Grow ι H ι' H' → StRep K w ι' H' M → RW K w pr ι' H' wk b → R b H' := by
  cases o with
  | none => exact h.elim
  | some wk => exact ⟨wk, rfl, h⟩
theorem i_seq (ha : PE X x (tE call cv W X a)) : PI X tg x (iR call cv W X (.seq a)) :=
  PI.imp (pi_any ha) fun σ H R h => (tR.one' (g := fun _ M1 d => Rs.of M1 (seqW M1 d)) h).imp fun x H1 ⟨ι, env, M, d, S, E, r, C⟩ => by
    obtain ⟨wk, e, q⟩ := RC.optW C
    obtain ⟨J, k, rw⟩ := seq_ok S r e
    exact ⟨J, k, q ι H1 J .refl S rw⟩
theorem i_range (O : OkX S call cv W X) {p : Pos} (h1 : glB S.sc "range" = true) (hp : plainE x = true) (ha : PE X x (tE call cv W X a)) : PI X tg (.Call (.Name "range" p) [x] [] pos) (iR call cv W X (.range a)) :=
  PI.imp (pi_range1 (O.gl h1) (O.blt "range" (by decide)) (pa_cons ha pa_nil (star_plain hp)) (star_plain hp)) fun σ H R h => (tR.one' (g := fun _ M1 d => match d with
    | .int n => Rs.of M1 (if okR n then some (Wk.mk (upto 0 n.toNat) []) else none)
    | _ => .st) h).imp fun x H1 ⟨ι, env, M, d, S, E, r, C⟩ => by
      split at C
      · obtain ⟨wk, e, q⟩ := RC.optW C
        split at e
        · rename_i c
          cases e
          cases r
          obtain ⟨q1, q2⟩ := okR_ok c
          exact ⟨_, rfl, q1, q2, q ι H1 _ .refl S rw_rng⟩
        · cases e
      · exact C.elim
theorem i_range2 (O : OkX S call cv W X) {p : Pos} (h1 : glB S.sc "range" = true) (hp : plainE x = true) (hq : plainE y = true) (ha : PE X x (tE call cv W X a)) (hb : PE X y (tE call cv W X b)) : PI X tg (.Call (.Name "range" p) [x, y] [] pos) (iR call cv W X (.range2 a b)) :=
  PI.imp (pi_range2 (O.gl h1) (O.blt "range" (by decide)) (pa_cons ha (pa_cons hb pa_nil (star_plain hq)) (star_plain hp)) (by rw [star_plain hp, star_plain hq]; rfl) (star_plain hq)) fun σ H R h => (tR.two (k := fun _ M2 d e => match d, e with
    | .int m, .int n => Rs.of M2 (if okR m && okR n then some (Wk.mk (upto m (n - m).toNat) []) else none)
    | _, _ => .st) h).imp fun x H1 q0 => q0.imp fun y H2 ⟨ι, env, M, d, e, S, E, r, r2, C⟩ => by
      split at C
      · obtain ⟨wk, e, qq⟩ := RC.optW C
        split at e
        · rename_i c
          cases e
          cases r; cases r2
          rw [Bool.and_eq_true] at c
          obtain ⟨q1, q2⟩ := okR_ok c.1
          obtain ⟨q3, q4⟩ := okR_ok c.2
          exact ⟨_, _, rfl, ⟨q1, q2, q3, q4⟩, qq ι H2 _ .refl S rw_rng⟩
        · cases e
      · exact C.elim
theorem i_enum (O : OkX S call cv W X) {p : Pos} (ht : isTupE tg = true) (h1 : glB S.sc "enumerate" = true) (hp : plainE x = true) (ha : PE X x (tE call cv W X a)) : PI X tg (.Call (.Name "enumerate" p) [x] [] pos) (iR call cv W X (.enum a)) := by
  cases tg <;> first | cases ht | skip
  refine PI.imp (pi_enumA (O.gl h1) (O.blt "enumerate" (by decide)) ha hp) fun σ H R h => (tR.one' (g := fun _ M1 d => Rs.of M1 ((seqLT M1 d).map fun w => Wk.mk (numb 0 w.items) w.keep)) h).imp fun x H1 ⟨ι, env, M, d, S, E, r, C⟩ => ?_
  obtain ⟨wk, e, qq⟩ := RC.optW C
  obtain ⟨w0, e0, rfl⟩ := Option.map_eq_some_iff.mp e
  cases d with
  | tup ds =>
    obtain ⟨p, vs, rfl, hp, rs⟩ := r
    cases e0
    exact ⟨p, rfl, .inr ⟨vs, hp.sq, qq ι H1 _ .refl S (rw_enumT hp rs)⟩⟩
  | ref k =>
    simp only [seqLT, seqW] at e0
    split at e0
    · rename_i ds em
      cases e0
      obtain ⟨p, vs, rfl, ek, hp, rs⟩ := S.lst r em
      exact ⟨p, rfl, .inl ⟨vs, .of hp, qq ι H1 _ .refl S (rw_enumL ek)⟩⟩
    · cases e0
  | str z => cases e0
  | _ => simp [seqLT, seqW] at e0
theorem i_zip (O : OkX S call cv W X) {p : Pos} (ht : isTupE tg = true) (h1 : glB S.sc "zip" = true) (hp : plainE x = true) (hq : plainE y = true) (ha : PE X x (tE call cv W X a)) (hb : PE X y (tE call cv W X b)) : PI X tg (.Call (.Name "zip" p) [x, y] [] pos) (iR call cv W X (.zip a b)) := by
  cases tg <;> first | cases ht | skip
  refine PI.imp (RZ.pi_zipA (O.gl h1) (O.blt "zip" (by decide)) (pa_cons ha (pa_cons hb pa_nil (star_plain hq)) (star_plain hp)) (star_plain hp) (star_any (by simp [hq]))) fun σ H R h => (tR.two (k := fun _ M2 d e => Rs.of M2 (zipW M2 d e)) h).imp fun x H1 q0 => q0.imp fun y H2 ⟨ι, env, M, d, e, S, E, r, r2, C⟩ => ?_
  obtain ⟨wk, ew, qq⟩ := RC.optW C
  cases d with
  | tup ds =>
    cases e with
    | tup es =>
      obtain ⟨p, vs, rfl, hp, rs⟩ := r
      obtain ⟨p', us, rfl, hp', rs'⟩ := r2
      cases ew
      exact ⟨p, p', vs, us, rfl, .inr ⟨hp.sq, hp'.sq, qq ι H2 _ .refl S (rw_zipT hp rs hp' rs')⟩⟩
    | _ => cases ew
  | ref j =>
    cases e with
    | ref k =>
      simp only [zipW] at ew
      split at ew
      · rename_i ds es e1 e2
        cases ew
        obtain ⟨p, vs, rfl, ek, hp, rs⟩ := S.lst r e1
        obtain ⟨p', us, rfl, ek', hp', rs'⟩ := S.lst r2 e2
        exact ⟨p, p', vs, us, rfl, .inl ⟨.of hp, .of hp', qq ι H2 _ .refl S (rw_zipL ek ek')⟩⟩
      · cases ew
    | _ => cases ew
  | _ => cases e <;> cases ew
end
end BT

/-! List comprehensions. -/
namespace BT
open PySem PySem.Spec PyProof.Rows L2

/-- what a value's reading leans on -/
structure Sub (ι : List Addr) (H : Hp) (ι' : List Addr) (H' : Hp) : Prop where
  pre : ι <+: ι'
  frz : ∀ a o u, H a = some (.frz o u) → H' a = some (.frz o u)
section
variable {K : PySem.W.Frag} {w : World} {ι ι' ι1 : List Addr} {H H' H1 : Hp} {M : Sto}
mutual
theorem Rep.sub (g : Sub ι H ι' H') : ∀ (d : D) (v : V), Rep K ι H d v → Rep K ι' H' d v
  | .non, _, h => h
  | .bl _, _, h => h
  | .int _, _, h => h
  | .str _, _, h => h
  | .tup ds, v, ⟨a, vs, e, ⟨o, s, n⟩, r⟩ => ⟨a, vs, e, ⟨o, g.frz _ _ _ s, n⟩, Reps.sub g ds vs r⟩
  | .ref n, v, ⟨a, e, q⟩ => ⟨a, e, prefix_get g.pre q⟩
  | .fl is, v, ⟨a, e, q⟩ => ⟨a, e, q.elim (fun ⟨o, z⟩ => .inl ⟨o, g.frz _ _ _ z⟩) .inr⟩
theorem Reps.sub (g : Sub ι H ι' H') : ∀ (ds : List D) (vs : List V), Reps K ι H ds vs → Reps K ι' H' ds vs
  | [], _, h => h
  | d :: ds, vs, ⟨v, r, e, h1, h2⟩ => ⟨v, r, e, Rep.sub g d v h1, Reps.sub g ds r h2⟩
end
theorem DctR.sub (g : Sub ι H ι' H') {a : Addr} {kvs : List (D × D)} {o : HO} (h : DctR K w ι H a kvs o) : DctR K w ι' H' a kvs o := by
  obtain ⟨es, ep, h1, h2, h3, h4, h5⟩ := h
  exact ⟨es, ep, h1, h2, h3, h4, Paired.mapP h5 fun p e ⟨q1, ⟨v, a, b⟩, u, c, d⟩ => ⟨q1, ⟨v, Rep.sub g _ _ a, b⟩, u, Rep.sub g _ _ c, d⟩⟩
theorem ORep.sub {a : Addr} {o : MO} (g : Sub ι H ι' H') (e : H' a = H a) (h : ORep K w ι H a o) : ORep K w ι' H' a o := by
  cases o with
  | lst ds => obtain ⟨vs, q, r⟩ := h; exact ⟨vs, e.trans q, Reps.sub g _ _ r⟩
  | dct kvs => obtain ⟨u, q, r⟩ := h; exact ⟨u, e.trans q, r.sub g⟩
  | dlk kvs => obtain ⟨o, u, q, r⟩ := h; exact ⟨o, u, e.trans q, r.sub g⟩
  | ins _ _ => exact h.elim
theorem sub_upd {a : Addr} {u o : HO} (e : H a = some u) (h2 : ∀ x y, u ≠ .frz x y) : Sub ι H ι (upd H a o) :=
  ⟨List.prefix_refl _, fun b x y h => by rw [upd_ne (fun z => by rw [z, e] at h; exact h2 x y (Option.some.inj h))]; exact h⟩
/-- an object apart is changed -/
theorem StRep.apart {a : Addr} {u o : HO} (S : StRep K w ι H M) (na : a ∉ ι) (e : H a = some u) (h2 : ∀ x y, u ≠ .frz x y) : StRep K w ι (upd H a o) M :=
  ⟨S.len, S.nd, fun n b x e1 e2 => (S.at_ n b x e1 e2).sub (sub_upd e h2) (upd_ne fun z => na (z ▸ List.mem_of_getElem? e1))⟩
/-- .. is taken in -/
theorem StRep.adopt {a : Addr} {mo : MO} (S : StRep K w ι H M) (na : a ∉ ι) (h : ORep K w (ι ++ [a]) H a mo) : StRep K w (ι ++ [a]) H (M ++ [mo]) := by
  refine ⟨by simp [S.len], ?_, fun n b x e1 e2 => ?_⟩
  · rw [List.nodup_append]
    refine ⟨S.nd, by simp, fun c hc b hb z => ?_⟩
    rw [List.mem_singleton.mp hb] at z
    exact na (z ▸ hc)
  · by_cases hn : n < ι.length
    · rw [List.getElem?_append_left hn] at e1
      rw [List.getElem?_append_left (by rw [← S.len]; exact hn)] at e2
      exact (S.at_ n b x e1 e2).sub ⟨List.prefix_append _ _, fun _ _ _ q => q⟩ rfl
    · have e : n = ι.length := by
        have h1 := (List.getElem?_eq_some_iff.mp e1).1
        simp at h1
        omega
      subst e
      rw [List.getElem?_append_right (Nat.le_refl _)] at e1
      rw [S.len, List.getElem?_append_right (Nat.le_refl _)] at e2
      simp at e1 e2
      subst e1 e2
      exact h
theorem Grow.stay (g : Grow ι H ι' H') {a : Addr} {o : HO} (na : a ∉ ι) (e : H a = some o) : H' a = some o ∧ a ∉ ι' :=
  ⟨g.fr a o na e, fun hm => by have := g.nw a hm na; rw [e] at this; cases this⟩
theorem Grow.over {a : Addr} {o : HO} (g : Grow ι1 H1 ι H) (e : H1 a = none) : Grow ι1 H1 ι (upd H a o) :=
  ⟨g.pre, fun b x n h => by rw [upd_ne (ne_of_none h e)]; exact g.fr b x n h, fun b xs h => by rw [upd_ne (ne_of_none h e)]; exact g.tup b xs h, fun b x y h => by rw [upd_ne (ne_of_none h e)]; exact g.frz b x y h, g.nw⟩
theorem Grow.take {a : Addr} (g : Grow ι1 H1 ι H) (e : H1 a = none) : Grow ι1 H1 (ι ++ [a]) H :=
  ⟨g.pre.trans (List.prefix_append _ _), g.fr, g.tup, g.frz, fun b hb n => by
    rcases List.mem_append.mp hb with h | h
    · exact g.nw b h n
    · rw [List.mem_singleton.mp h]; exact e⟩
end
theorem wipe_out {σ : L2.St} {j : Nat} : ∀ {vs : List Nat}, j ∉ vs → (wipe σ vs)[j]? = σ[j]?
  | [], _ => rfl
  | v :: vs, h => by
    rw [List.mem_cons, not_or] at h
    unfold wipe
    rw [List.getElem?_set_ne (Ne.symm h.1)]
    exact wipe_out h.2
theorem wipe_in {σ : L2.St} {j : Nat} : ∀ {vs : List Nat}, j ∈ vs → (wipe σ vs)[j]? = if j < σ.length then some none else none
  | [], h => nomatch h
  | v :: vs, h => by
    unfold wipe
    by_cases e : v = j
    · subst e
      rw [List.getElem?_set]
      simp [wipe_length]
    · rw [List.getElem?_set_ne e]
      exact wipe_in ((List.mem_cons.mp h).resolve_left (Ne.symm e))
theorem wipe_eq {σ σ2 : L2.St} {vs : List Nat} (hl : σ2.length = σ.length) (h : ∀ j, j ∉ vs → σ2[j]? = σ[j]?) : wipe σ2 vs = wipe σ vs := by
  refine List.ext_getElem? fun j => ?_
  by_cases hj : j ∈ vs
  · rw [wipe_in hj, wipe_in hj, hl]
  · rw [wipe_out hj, wipe_out hj, h j hj]
theorem comp_len {ok : Sto → Bool} {f : D → Sto → Rs (Option D)} : ∀ (ds acc : List D) (M : Sto), match compGo ok f ds acc M with
    | .ok r _ => acc.length ≤ r.length
    | .ex _ _ => False
    | .st => True
  | [], acc, M => by
    rw [compGo]
    by_cases c : ok M = true
    · rw [if_pos c]; exact Nat.le_refl _
    · rw [if_neg c]; trivial
  | d :: ds, acc, M => by
    rw [compGo]
    by_cases c : ok M = true
    · rw [if_pos c]
      cases f d M with
      | ok r M' =>
        cases r with
        | none => exact comp_len ds acc M'
        | some y =>
          have := comp_len (ok := ok) (f := f) ds (acc ++ [y]) M'
          show match compGo ok f ds (acc ++ [y]) M' with
            | .ok r _ => acc.length ≤ r.length
            | .ex _ _ => False
            | .st => True
          split at this
          · simp at this; omega
          · exact this.elim
          · trivial
      | ex c M' => trivial
      | st => trivial
    · rw [if_neg c]; trivial
section
variable {K : PySem.W.Frag} {w : World} {ι ι1 : List Addr} {H H1 : Hp} {Xf : Str → Hp → Prop}
theorem RC.peel {α β γ δ ε ζ : Type} {R : List Addr → Hp → α → β → Prop} {R2 : List Addr → Hp → ε → ζ → Prop} {a : Rs α} {f : α → Sto → Rs γ} {k1 : γ → Sto → Rs δ} {k2 : δ → Sto → Rs ε} {Q : ζ → Hp → Prop} (g : Grow ι1 H1 ι H) (C : RC K w R2 Xf ι1 H1 (((a.bind f).nox.bind k1).bind k2) Q) :
    RC K w R (fun _ _ => False) ι H a fun b H2 => ∃ ι2 M2 c, Grow ι H ι2 H2 ∧ StRep K w ι2 H2 M2 ∧ R ι2 H2 c b ∧ RC K w R2 Xf ι1 H1 (((f c M2).nox.bind k1).bind k2) Q := by
  cases a with
  | ok c M2 => exact fun ι2 H2 b g2 S2 r2 => ⟨ι2, M2, c, g2, S2, r2, C⟩
  | ex c M2 => exact C.elim
  | st => exact C.elim
end
section
variable {S : Sta} {call : Str → List D → Sto → Rs D} {cv : Str → Value} {W : WX} {X : Cx} {a elt : Ex} {cond : Option Ex} {t : Tg} {it : It} {own : List (Str × Nat)} {x y tg iter : Expr} {pos : Pos} {scope : Scope} {ifs : List Expr}
abbrev W0 : WX := fun _ _ _ _ => False
abbrev tC (K : PySem.W.Frag) (w : World) (call : Str → List D → Sto → Rs D) (cv : Str → Value) (cond : Option Ex) : TT := tR K w cv (Rid (α := Bool)) W0 (evalC call cond)
theorem comp_red (hidx : ∀ i ∈ tgIdx t, i ∈ own.map (·.2)) {σ : L2.St} {H : Hp} {Q : VK} (h : tE call cv W X (.comp elt t it cond own) σ H Q) :
    tLc (iR call cv W X it) (gR X.K X.w (isPr it) t) (tC X.K X.w call cv cond) (tR X.K X.w cv (Rep X.K) W0 (evalE call elt)) (own.map (·.2)) σ H Q := by
  obtain ⟨ι, env, M, S, E, C⟩ := h
  refine ⟨ι, env, M, S, E, C.bind.imp fun J H1 ⟨ι1, M1, wk, g1, S1, rw, C1⟩ => fun L hL => ?_⟩
  generalize hF : (fun d M => match asg t d (wipeE env (own.map (·.2))) with
      | none => Rs.st
      | some env' => (evalC call cond env' M).bind fun b M' => if b then (evalE call elt env' M').bind fun y M'' => .ok (some y) M'' else .ok none M') = F at C1
  refine lc_it rw (fun i H' => ∃ ι' M' acc accV, Grow ι1 H1 ι' H' ∧ StRep X.K X.w ι' H' M' ∧ L ∉ ι' ∧ H' L = some (.lst accV) ∧ Reps X.K ι' H' acc accV ∧
    RC X.K X.w (Rep X.K) (fun c H' => W (cv c) none σ H') ι1 H1 ((compGo wk.ok F (wk.items.drop i) acc M').bind fun ds M2 => newL M2 ds) Q) ?_ ?_ ?_ ?_
  · exact ⟨ι1, M1, [], [], grow_laid hL, S1.laid hL, S1.out hL, upd_same, rfl, C1⟩
  · rintro i H' hi ⟨ι', M', acc, accV, g, S', nL, hl, ra, C'⟩
    refine ⟨ι', M', g, S', Decidable.byContradiction fun n => ?_⟩
    have : compGo wk.ok F (wk.items.drop i) acc M' = .st := by
      cases wk.items.drop i <;> rw [compGo, if_neg n]
    rw [this] at C'
    exact C'
  · rintro i v Hx H' hi ⟨ι', M', acc, accV, g, S', nL, hl, ra, C'⟩ y
    have okM : wk.ok M' = true := Decidable.byContradiction fun n => by
      have : compGo wk.ok F (wk.items.drop i) acc M' = .st := by
        cases wk.items.drop i <;> rw [compGo, if_neg n]
      rw [this] at C'
      exact C'
    obtain ⟨d, ed, gy, Sy, ri⟩ := y ι' M' g S' okM
    have edr : wk.items.drop i = d :: wk.items.drop (i + 1) := by
      have hi2 : i < wk.items.length := hi
      rw [List.drop_eq_getElem_cons hi2]
      rw [List.getElem?_eq_getElem hi2] at ed
      rw [Option.some.inj ed]
    rw [edr, compGo, if_pos okM] at C'
    obtain ⟨env', ea, C'⟩ : ∃ env', asg t d (wipeE env (own.map (·.2))) = some env' ∧ RC X.K X.w (Rep X.K) (fun c H' => W (cv c) none σ H') ι1 H1 (((((evalC call cond env' M').bind fun b M' => if b then (evalE call elt env' M').bind fun y M'' => .ok (some y) M'' else .ok none M').nox).bind fun r M' => (match r with
      | some y => compGo wk.ok F (wk.items.drop (i + 1)) (acc ++ [y]) M'
      | none => compGo wk.ok F (wk.items.drop (i + 1)) acc M')).bind fun ds M2 => newL M2 ds) Q := by
      rw [← hF] at C' ⊢
      dsimp only at C'
      cases ea : asg t d (wipeE env (own.map (·.2))) with
      | none => rw [ea] at C'; exact C'.elim
      | some env' => rw [ea] at C'; exact ⟨env', rfl, C'⟩
    have gall : Grow ι1 H1 ι' H' := g.trans gy
    have nL' := (gy.stay nL hl)
    refine ⟨ι', M', _, d, env', Sy, (((E.grow g1).grow g).grow gy).wipe, ri, ea, fun σ2 E2 l2 k2 => ⟨?_, ι', env', M', Sy, E2, (RC.peel gall C').imp ?_⟩⟩
    · refine wipe_eq (l2.trans (wipe_length _ _)) fun j hj => ?_
      rw [k2 j fun z => hj (hidx j z), wipe_out hj]
    · rintro b H3 ⟨ι2, M2, c, g2, S2, rb, C2⟩
      have rb : c = b := rb
      subst rb
      have st2 := g2.stay nL'.2 nL'.1
      cases c with
      | false => exact ⟨ι2, M2, acc, accV, gall.trans g2, S2, st2.2, st2.1, Reps.grow g2 _ _ (Reps.grow gy _ _ ra), C2⟩
      | true =>
        simp only [if_true] at C2 ⊢
        refine ⟨ι2, env', M2, S2, E2.grow g2, (RC.peel (gall.trans g2) C2).imp ?_⟩
        rintro y4 H4 ⟨ι4, M4, dy, g4, S4, ry, C4⟩
        have st4 := g4.stay st2.2 st2.1
        have C4 : RC X.K X.w (Rep X.K) (fun c H' => W (cv c) none σ H') ι1 H1 ((compGo wk.ok F (wk.items.drop (i + 1)) (acc ++ [dy]) M4).bind fun ds M2 => newL M2 ds) Q := C4
        have ra4 := Reps.grow g4 _ _ (Reps.grow g2 _ _ (Reps.grow gy _ _ ra))
        refine ⟨accV, st4.1, ?_, ι4, M4, acc ++ [dy], accV ++ [y4], ((gall.trans g2).trans g4).over hL, S4.apart st4.2 st4.1 (fun _ _ q => nomatch q), st4.2, upd_same, Reps.sub (sub_upd st4.1 (fun _ _ q => nomatch q)) _ _ (ra4.append (Reps.one ry)), C4⟩
        have hlen := comp_len (ok := wk.ok) (f := F) (wk.items.drop (i + 1)) (acc ++ [dy]) M4
        cases q : compGo wk.ok F (wk.items.drop (i + 1)) (acc ++ [dy]) M4 with
        | ok r M5 =>
          rw [q] at C4 hlen
          have hf := newL_fits (M := M5) (ds := r) C4
          have hlen : (acc ++ [dy]).length ≤ r.length := hlen
          rw [← ra4.length]
          simp at hlen
          omega
        | ex c M5 => rw [q] at hlen; exact hlen.elim
        | st => rw [q] at C4; exact C4.elim
  · rintro H' ⟨ι', M', acc, accV, g, S', nL, hl, ra, C'⟩
    rw [List.drop_length, compGo] at C'
    by_cases c : wk.ok M' = true
    · rw [if_pos c] at C'
      have C' : RC X.K X.w (Rep X.K) (fun c H' => W (cv c) none σ H') ι1 H1 (newL M' acc) Q := C'
      unfold newL at C'
      obtain ⟨_, C'⟩ := RC.pos C'
      have pre : Sub ι' H' (ι' ++ [L]) H' := ⟨List.prefix_append _ _, fun _ _ _ q => q⟩
      refine C' (ι' ++ [L]) H' (.ref L) (g.take hL) (S'.adopt nL ⟨accV, hl, Reps.sub pre _ _ ra⟩) ⟨L, rfl, ?_⟩
      rw [← S'.len, List.getElem?_append_right (Nat.le_refl _)]; simp
    · rw [if_neg c] at C'; exact C'.elim
end
end BT

/-! Every expression that the check takes runs as the small language says. -/
namespace BT
open PySem PySem.Spec PyProof.Rows L2
section
variable {call : Str → List D → Sto → Rs D} {cv : Str → Value}
/-- a test, whatever its whole is, where it is an and or an or -/
def PTW (X : Cx) (e : Expr) (t : TT) : Prop := PT X e t ∧ ∀ op vs p, e = .BoolOp op vs p → PW X e t
theorem PTW.bool {X : Cx} {op : BoolOp} {vs : List Expr} {p : Pos} {t : TT} (h : PTW X (.BoolOp op vs p) t) : PW X (.BoolOp op vs p) t := h.2 op vs p rfl
theorem PTW.of {X : Cx} {e : Expr} {t : TT} (h : PT X e t) (n : ∀ op vs p, e ≠ .BoolOp op vs p) : PTW X e t := ⟨h, fun op vs p z => absurd z (n op vs p)⟩
theorem PTW.w {X : Cx} {e : Expr} {t : TT} (h : PW X e t) : PTW X e t := ⟨h.pt, fun _ _ _ _ => h⟩
theorem both {X : Cx} {W : WX} {e : Expr} {a : Ex} (hp : plainT e = true) (n : ∀ op vs p, e ≠ .BoolOp op vs p) (p : PE X e (tE call cv W X a)) : PE X e (tE call cv W X a) ∧ PTW X e (tT call cv W X a) := ⟨p, .of (d_any hp p) n⟩
theorem pts_ok {X : Cx} {cond : Option Ex} {ifs : List Expr} (h : match cond, ifs with
    | none, [] => True
    | some c, [z] => PT X z (tT call cv W0 X c)
    | _, _ => False) : PTs X ifs (tC X.K X.w call cv cond) := by
  cases cond with
  | none =>
    cases ifs with
    | nil => exact ⟨fun pins s σ H Q I ⟨ι, env, M, S, E, C⟩ => pts_nil.run pins s σ H Q I (C.here (R := Rid) S rfl)⟩
    | cons z zs => exact h.elim
  | some c =>
    cases ifs with
    | nil => exact h.elim
    | cons z zs =>
      cases zs with
      | nil => exact pts_one h
      | cons _ _ => exact h.elim
/-- what a comprehension needs -/
structure CompOk (S : Sta) (call : Str → List D → Sto → Rs D) (cv : Str → Value) (W : WX) (X : Cx) (elt : Ex) (t : Tg) (it : It) (cond : Option Ex) (own : List (Str × Nat)) (x tg iter : Expr) (ifs : List Expr) (scope : Scope) : Prop where
  pi : PI X tg iter (iR call cv W X it)
  blk : BlkOk X.N X.env.scope scope own
  idx : ∀ i ∈ tgIdx t, i ∈ own.map (·.2)
  g : ∀ (s : Shared) (H : Hp) (C : Addr) (cl : List (Str × Addr)) (fp : List Addr), PG (X.blk s H scope (compEnvC scope cl C X.env) fp) tg (gR X.K X.w (isPr it) t)
  c : ∀ (s : Shared) (H : Hp) (C : Addr) (cl : List (Str × Addr)) (fp : List Addr), PTs (X.blk s H scope (compEnvC scope cl C X.env) fp) ifs (tC X.K X.w call cv cond)
  e : ∀ (s : Shared) (H : Hp) (C : Addr) (cl : List (Str × Addr)) (fp : List Addr), PE (X.blk s H scope (compEnvC scope cl C X.env) fp) x (tR X.K X.w cv (Rep X.K) W0 (evalE call elt))
  s : ∀ v, foldedSetIterable iter X.env v = pure v
section
variable {S : Sta} {W : WX} {X : Cx} {elt : Ex} {t : Tg} {it : It} {cond : Option Ex} {own : List (Str × Nat)} {x tg iter : Expr} {ifs : List Expr} {scope : Scope} {pos : Pos}
theorem c_comp (O : OkX S call cv W X) (h : CompOk S call cv W X elt t it cond own x tg iter ifs scope) : PE X (.ListComp x [⟨tg, iter, ifs, 0⟩] scope pos) (tE call cv W X (.comp elt t it cond own)) :=
  PE.imp (pe_lc O.calm (by rw [O.nm]; exact O.nd) h.pi h.blk h.g h.c h.e h.s) fun σ H Q q => comp_red h.idx q
/-- name = [..] on one line -/
theorem s_comp (O : OkX S call cv W X) (h : CompOk S call cv W X elt t it cond own x tg iter ifs scope) {i : Nat} {y : Str} {py spos : Pos} (hy : S.N[i]? = some y) (hyl : S.sc.names.lookup y = some .local)
    (hsw : swapsWith (.ListComp x [⟨tg, iter, ifs, 0⟩] scope pos) (some (.Name y py)) spos.line X.env = pure true) :
    PS X (.Assign [.Name y py] (.ListComp x [⟨tg, iter, ifs, 0⟩] scope pos) spos) (tAsg (tE call cv W X (.comp elt t it cond own)) (gName i)) :=
  PS.imp (ps_setLc O.calm (by rw [O.nm]; exact O.nd) (by rw [O.nm]; exact hy) (by rw [O.sc]; exact hyl) hsw h.pi h.blk h.g h.c h.e h.s) fun D σ H q => comp_red h.idx q
end
theorem isPr_tup {S : Sta} : ∀ {it : It} {tg e : Expr}, isPr it = true → chkI S it tg e = true → isTupE tg = true
  | .enum _, _, _, _, h => by simp only [chkI, Bool.and_eq_true] at h; exact h.1
  | .zip _ _, _, _, _, h => by simp only [chkI, Bool.and_eq_true] at h; exact h.1
  | .seq _, _, _, h, _ => by cases h
  | .range _, _, _, h, _ => by cases h
  | .range2 _ _, _, _, h, _ => by cases h
theorem chkEs_plain {S : Sta} : ∀ {es : List Ex} {xs : List Expr}, chkEs S es xs = true → xs.all plainE = true
  | [], [], _ => rfl
  | [], _ :: _, h => by simp [chkEs] at h
  | _ :: _, [], h => by simp [chkEs] at h
  | e :: es, x :: xs, h => by
    simp only [chkEs, Bool.and_eq_true] at h
    rw [List.all_cons, h.1.1, chkEs_plain h.2]; rfl
mutual
theorem eE : ∀ (a : Ex) (x : Expr) {S : Sta} {W : WX} {X : Cx}, OkX S call cv W X → chkE S a x = true → PE X x (tE call cv W X a) ∧ PTW X x (tT call cv W X a)
  | .var i, x, S, W, X, O, h => by
    cases x <;> first | cases h | skip
    simp only [chkE, Bool.and_eq_true, decide_eq_true_eq] at h
    exact both rfl (fun _ _ _ z => nomatch z) (c_var O h.1.1 h.1.2 h.2)
  | .cint i, x, S, W, X, O, h => by
    cases x with
    | Constant v j p =>
      cases v <;> first | cases h | skip
      simp only [chkE, decide_eq_true_eq] at h
      subst h
      exact ⟨c_int, .of (d_any rfl c_int) (fun _ _ _ z => nomatch z)⟩
    | _ => cases h
  | .cstr i, x, S, W, X, O, h => by
    cases x with
    | Constant v j p =>
      cases v <;> first | cases h | skip
      simp only [chkE, decide_eq_true_eq] at h
      subst h
      exact ⟨c_str, .of (d_any rfl c_str) (fun _ _ _ z => nomatch z)⟩
    | _ => cases h
  | .cbl i, x, S, W, X, O, h => by
    cases x with
    | Constant v j p =>
      cases v <;> first | cases h | skip
      simp only [chkE, decide_eq_true_eq] at h
      subst h
      exact ⟨c_bl, .of (d_any rfl c_bl) (fun _ _ _ z => nomatch z)⟩
    | _ => cases h
  | .cnon, x, S, W, X, O, h => by
    cases x with
    | Constant v j p =>
      cases v <;> first | cases h | skip
      exact ⟨c_non, .of (d_any rfl c_non) (fun _ _ _ z => nomatch z)⟩
    | _ => cases h
  | .gint n i, x, S, W, X, O, h => by
    cases x <;> first | cases h | skip
    simp only [chkE, Bool.and_eq_true, decide_eq_true_eq] at h
    obtain ⟨⟨⟨rfl, h1⟩, h2⟩, h3⟩ := h
    exact both rfl (fun _ _ _ z => nomatch z) (c_gint O h1 h2 h3)
  | .gstr n i, x, S, W, X, O, h => by
    cases x <;> first | cases h | skip
    simp only [chkE, Bool.and_eq_true, decide_eq_true_eq] at h
    obtain ⟨⟨⟨rfl, h1⟩, h2⟩, h3⟩ := h
    exact both rfl (fun _ _ _ z => nomatch z) (c_gstr O h1 h2 h3)
  | .tup es, x, S, W, X, O, h => by
    cases x <;> first | cases h | skip
    simp only [chkE] at h
    exact both rfl (fun _ _ _ z => nomatch z) (c_tup (eEs es _ O h))
  | .lst es, x, S, W, X, O, h => by
    cases x <;> first | cases h | skip
    simp only [chkE] at h
    exact both rfl (fun _ _ _ z => nomatch z) (c_lst (eEs es _ O h))
  | .dct0, x, S, W, X, O, h => by
    cases x with
    | Dict ks vs p =>
      cases ks <;> cases vs <;> first | cases h | skip
      exact ⟨c_dct0, .of (d_any rfl c_dct0) (fun _ _ _ z => nomatch z)⟩
    | _ => cases h
  | .dct1 _ _, x, S, W, X, O, h => by simp [chkE] at h
  | .bin o a b, x, S, W, X, O, h => by
    cases x <;> first | cases h | skip
    simp only [chkE, Bool.and_eq_true, decide_eq_true_eq] at h
    obtain ⟨⟨rfl, h1⟩, h2⟩ := h
    exact both rfl (fun _ _ _ z => nomatch z) (c_bin o (eE a _ O h1).1 (eE b _ O h2).1)
  | .neg a, x, S, W, X, O, h => by
    cases x with
    | UnaryOp op y p =>
      cases op <;> first | (simp [chkE] at h; done) | skip
      simp only [chkE] at h
      exact both rfl (fun _ _ _ z => nomatch z) (c_neg (pos := p) (eE a _ O h).1)
    | _ => cases h
  | .cmp c a b, x, S, W, X, O, h => by
    unfold chkE at h
    split at h
    · simp only [cmpB, Bool.and_eq_true, decide_eq_true_eq] at h
      obtain ⟨⟨⟨rfl, h1⟩, h2⟩, h3⟩ := h
      exact ⟨c_cmp O.un c h1 (eE a _ O h2).1 (eE b _ O h3).1, .of (d_cmp O.un c h1 (eE a _ O h2).1 (eE b _ O h3).1) (fun _ _ _ z => nomatch z)⟩
    · cases h
  | .chn c c' a b d, x, S, W, X, O, h => by
    unfold chkE at h
    split at h
    · simp only [cmpB, Bool.and_eq_true, decide_eq_true_eq] at h
      obtain ⟨⟨⟨⟨⟨rfl, rfl⟩, h1⟩, h2⟩, h3⟩, h4⟩ := h
      exact ⟨c_chn O.un c c' h1 (eE a _ O h2).1 (eE b _ O h3).1 (eE d _ O h4).1, .of (d_chn O.un c c' h1 (eE a _ O h2).1 (eE b _ O h3).1 (eE d _ O h4).1) (fun _ _ _ z => nomatch z)⟩
    · cases h
  | .and a b, x, S, W, X, O, h => by
    unfold chkE at h
    split at h
    · simp only [Bool.and_eq_true] at h
      have pa := eE a _ O h.1
      have pb := eE b _ O h.2
      exact ⟨c_and2 pa.1 (pe_one pb.1), .w (d_and2 pa.2.1 (pw_and1 pb.2.1))⟩
    · simp only [Bool.and_eq_true] at h
      have pa := eE a _ O h.1
      have pb := eE b _ O h.2
      exact ⟨c_and2 pa.1 pb.1, .w (d_and2 pa.2.1 pb.2.bool)⟩
    · cases h
  | .or a b, x, S, W, X, O, h => by
    unfold chkE at h
    split at h
    · simp only [Bool.and_eq_true] at h
      have pa := eE a _ O h.1
      have pb := eE b _ O h.2
      exact ⟨c_or2 pa.1 (pe_one pb.1), .w (d_or2 pa.2.1 (pw_or1 pb.2.1))⟩
    · simp only [Bool.and_eq_true] at h
      have pa := eE a _ O h.1
      have pb := eE b _ O h.2
      exact ⟨c_or2 pa.1 pb.1, .w (d_or2 pa.2.1 pb.2.bool)⟩
    · cases h
  | .not a, x, S, W, X, O, h => by
    cases x with
    | UnaryOp op y p =>
      cases op <;> first | (simp [chkE] at h; done) | skip
      simp only [chkE] at h
      have pa := eE a _ O h
      exact ⟨c_not pa.1, .of (d_not pa.2.1) (fun _ _ _ z => nomatch z)⟩
    | _ => cases h
  | .ite c a b, x, S, W, X, O, h => by
    cases x <;> first | cases h | skip
    simp only [chkE, Bool.and_eq_true] at h
    have pc := eE c _ O h.1.1
    have pa := eE a _ O h.1.2
    have pb := eE b _ O h.2
    exact ⟨c_ite pc.2.1 pa.1 pb.1, .of (d_ite pc.2.1 pa.2.1 pb.2.1) (fun _ _ _ z => nomatch z)⟩
  | .idx a b, x, S, W, X, O, h => by
    cases x <;> first | cases h | skip
    simp only [chkE, Bool.and_eq_true] at h
    exact both rfl (fun _ _ _ z => nomatch z) (c_idx O.un h.1.1 (eE a _ O h.1.2).1 (eE b _ O h.2).1)
  | .slc a lo hi, x, S, W, X, O, h => by
    unfold chkE at h
    split at h
    · simp only [Bool.and_eq_true] at h
      exact both rfl (fun _ _ _ z => nomatch z) (c_slc (eE a _ O h.1.1).1 (eO lo _ O h.1.2) (eO hi _ O h.2))
    · cases h
  | .rev _, x, S, W, X, O, h => by simp [chkE] at h
  | .call f es, x, S, W, X, O, h => by
    unfold chkE at h
    split at h
    · simp only [Bool.and_eq_true, decide_eq_true_eq] at h
      obtain ⟨⟨⟨⟨rfl, h1⟩, h2⟩, h3⟩, h4⟩ := h
      exact both rfl (fun _ _ _ z => nomatch z) (c_call O h1 h2 h3 (chkEs_plain h4) (eEs es _ O h4))
    · cases h
  | .f1 f a, x, S, W, X, O, h => by
    unfold chkE at h
    split at h
    · simp only [Bool.and_eq_true, decide_eq_true_eq] at h
      obtain ⟨⟨⟨h1, h2⟩, h3⟩, h4⟩ := h
      exact both rfl (fun _ _ _ z => nomatch z) (c_f1 O h1 h2 h3 (eE a _ O h4).1)
    · cases h
  | .f2 f a b, x, S, W, X, O, h => by
    unfold chkE at h
    split at h
    · simp only [Bool.and_eq_true, decide_eq_true_eq] at h
      obtain ⟨⟨⟨⟨⟨rfl, h2⟩, h3⟩, h4⟩, h5⟩, h6⟩ := h
      exact both rfl (fun _ _ _ z => nomatch z) (c_f2 O h2 h3 h4 (eE a _ O h5).1 (eE b _ O h6).1)
    · cases h
  | .isi a t, x, S, W, X, O, h => by
    unfold chkE at h
    split at h
    · simp only [Bool.and_eq_true, decide_eq_true_eq] at h
      obtain ⟨⟨⟨⟨rfl, h1⟩, h2⟩, h3⟩, h4⟩ := h
      have pa := (eE a _ O h3).1
      have one : ∀ {t' : Ty} {n : String} {e : Expr}, tyK t' = [n] → nmB S (tyS t') e = true → ∃ p2, e = .Name (tyS t') p2 ∧ glB S.sc (tyS t') = true := by
        intro t' n e _ q
        cases e <;> first | cases q | skip
        simp only [nmB, Bool.and_eq_true, decide_eq_true_eq] at q
        exact ⟨_, by rw [q.1], q.2⟩
      have two : ∀ {n : Str} {e : Expr}, nmB S n e = true → ∃ p2, e = .Name n p2 ∧ glB S.sc n = true := by
        intro n e q
        cases e <;> first | cases q | skip
        simp only [nmB, Bool.and_eq_true, decide_eq_true_eq] at q
        exact ⟨_, by rw [q.1], q.2⟩
      split at h4
      · split at h4
        · simp only [Bool.and_eq_true] at h4
          obtain ⟨p2, rfl, g1⟩ := two h4.1
          obtain ⟨p3, rfl, g2⟩ := two h4.2
          exact both rfl (fun _ _ _ z => nomatch z) (isi_two_ok O h1 h2 g1 g2 pa)
        · cases h4
      · rename_i hne
        cases t with
        | intstr => exact absurd rfl hne
        | tuple =>
          obtain ⟨p2, rfl, g1⟩ := one (t' := .tuple) rfl h4
          exact both rfl (fun _ _ _ z => nomatch z) (isi_one_ok (t := .tuple) O rfl h1 h2 g1 pa)
        | str =>
          obtain ⟨p2, rfl, g1⟩ := one (t' := .str) rfl h4
          exact both rfl (fun _ _ _ z => nomatch z) (isi_one_ok (t := .str) O rfl h1 h2 g1 pa)
        | int =>
          obtain ⟨p2, rfl, g1⟩ := one (t' := .int) rfl h4
          exact both rfl (fun _ _ _ z => nomatch z) (isi_one_ok (t := .int) O rfl h1 h2 g1 pa)
        | bool =>
          obtain ⟨p2, rfl, g1⟩ := one (t' := .bool) rfl h4
          exact both rfl (fun _ _ _ z => nomatch z) (isi_one_ok (t := .bool) O rfl h1 h2 g1 pa)
    · cases h
  | .m0 m a, x, S, W, X, O, h => by
    unfold chkE at h
    split at h
    · simp only [Bool.and_eq_true, decide_eq_true_eq] at h
      obtain ⟨⟨⟨h1, h2⟩, h3⟩, h4⟩ := h
      exact both rfl (fun _ _ _ z => nomatch z) (c_m0 h1 h2 h3 (eE a _ O h4).1)
    · cases h
  | .m1 m a b, x, S, W, X, O, h => by
    unfold chkE at h
    split at h
    · simp only [Bool.and_eq_true, decide_eq_true_eq] at h
      obtain ⟨⟨⟨⟨⟨h1, h2⟩, h3⟩, h4⟩, h5⟩, h6⟩ := h
      exact both rfl (fun _ _ _ z => nomatch z) (c_m1 h1 h2 h3 h4 (eE a _ O h5).1 (eE b _ O h6).1)
    · cases h
  | .m2 m a b c, x, S, W, X, O, h => by
    unfold chkE at h
    split at h
    · simp only [Bool.and_eq_true, decide_eq_true_eq] at h
      obtain ⟨⟨⟨⟨⟨⟨⟨rfl, h2⟩, h3⟩, h4⟩, h5⟩, h6⟩, h7⟩, h8⟩ := h
      exact both rfl (fun _ _ _ z => nomatch z) (c_m2 (m := m) O.un h2 h3 h4 h5 (eE a _ O h6).1 (eE b _ O h7).1 (eE c _ O h8).1)
    · cases h
  | .comp elt t it cond own, x, S, W, X, O, h => by
    unfold chkE at h
    split at h
    · simp only [Bool.and_eq_true, decide_eq_true_eq] at h
      obtain ⟨⟨⟨⟨⟨⟨⟨rfl, h1⟩, h2⟩, h3⟩, h4⟩, h5⟩, h6⟩, h7⟩ := h
      refine both rfl (fun _ _ _ z => nomatch z) (c_comp O ({
        pi := eI it _ _ O h3
        blk := by rw [O.nm, O.sc]; exact blkB_ok h1
        idx := fun i hi => of_decide_eq_true (List.all_eq_true.mp h5 i hi)
        g := fun s H C cl fp => by
          have := (O.blk (scope := by assumption) (s := s) (H := H) (C := C) (cl := cl) (fp := fp))
          cases e : isPr it with
          | true => exact tg_okP this (isPr_tup e h3) h4
          | false => exact tg_ok this t _ h4
        c := fun s H C cl fp => eC cond _ O.blk h6
        e := fun s H C cl fp => (eE elt _ O.blk h7).1
        s := fun v => plain_fold h2 } : CompOk S call cv W X elt t it cond own _ _ _ _ _))
    · cases h
theorem eEs : ∀ (es : List Ex) (xs : List Expr) {S : Sta} {W : WX} {X : Cx}, OkX S call cv W X → chkEs S es xs = true → PA X xs (tEs call cv W X es)
  | [], [], S, W, X, O, h => a_nil
  | [], _ :: _, S, W, X, O, h => by simp [chkEs] at h
  | _ :: _, [], S, W, X, O, h => by simp [chkEs] at h
  | a :: as, x :: xs, S, W, X, O, h => by
    simp only [chkEs, Bool.and_eq_true] at h
    exact a_cons h.1.1 (eE a x O h.1.2).1 (eEs as xs O h.2)
theorem eO : ∀ (a : Option Ex) (x : Option Expr) {S : Sta} {W : WX} {X : Cx}, OkX S call cv W X → chkO S a x = true → PO X x (tO call cv W X a)
  | none, none, S, W, X, O, h => o_none
  | none, some _, S, W, X, O, h => by simp [chkO] at h
  | some _, none, S, W, X, O, h => by simp [chkO] at h
  | some a, some x, S, W, X, O, h => by
    simp only [chkO] at h
    exact o_some (eE a x O h).1
theorem eC : ∀ (a : Option Ex) (xs : List Expr) {S : Sta} {X : Cx}, OkX S call cv W0 X → chkC S a xs = true → PTs X xs (tC X.K X.w call cv a)
  | none, [], S, X, O, h => pts_ok trivial
  | none, _ :: _, S, X, O, h => by simp [chkC] at h
  | some a, [x], S, X, O, h => by
    simp only [chkC] at h
    exact pts_ok (eE a x O h).2.1
  | some _, [], S, X, O, h => by simp [chkC] at h
  | some _, _ :: _ :: _, S, X, O, h => by simp [chkC] at h
theorem eI : ∀ (it : It) (tg x : Expr) {S : Sta} {W : WX} {X : Cx}, OkX S call cv W X → chkI S it tg x = true → PI X tg x (iR call cv W X it)
  | .seq a, tg, x, S, W, X, O, h => by
    simp only [chkI, Bool.and_eq_true] at h
    exact i_seq (eE a x O h.2).1
  | .range a, tg, x, S, W, X, O, h => by
    unfold chkI at h
    split at h
    · simp only [Bool.and_eq_true, decide_eq_true_eq] at h
      obtain ⟨⟨⟨rfl, h1⟩, h2⟩, h3⟩ := h
      exact i_range O h1 h2 (eE a _ O h3).1
    · cases h
  | .range2 a b, tg, x, S, W, X, O, h => by
    unfold chkI at h
    split at h
    · simp only [Bool.and_eq_true, decide_eq_true_eq] at h
      obtain ⟨⟨⟨⟨⟨rfl, h1⟩, h2⟩, h3⟩, h4⟩, h5⟩ := h
      exact i_range2 O h1 h2 h3 (eE a _ O h4).1 (eE b _ O h5).1
    · cases h
  | .enum a, tg, x, S, W, X, O, h => by
    unfold chkI at h
    rw [Bool.and_eq_true] at h
    obtain ⟨h0, h⟩ := h
    split at h
    · simp only [Bool.and_eq_true, decide_eq_true_eq] at h
      obtain ⟨⟨⟨rfl, h1⟩, h2⟩, h3⟩ := h
      exact i_enum O h0 h1 h2 (eE a _ O h3).1
    · cases h
  | .zip a b, tg, x, S, W, X, O, h => by
    unfold chkI at h
    rw [Bool.and_eq_true] at h
    obtain ⟨h0, h⟩ := h
    split at h
    · simp only [Bool.and_eq_true, decide_eq_true_eq] at h
      obtain ⟨⟨⟨⟨⟨rfl, h1⟩, h2⟩, h3⟩, h4⟩, h5⟩ := h
      exact i_zip O h0 h1 h2 h3 (eE a _ O h4).1 (eE b _ O h5).1
    · cases h
end
end
end BT

/-! Statements, one kind at a time. -/
namespace BT
open PySem PySem.Spec PyProof.Rows L2

/-- what follows a statement's end -/
def RtC (K : PySem.W.Frag) (w : World) (cv : Str → Value) (W : WX) (ι : List Addr) (H : Hp) (r : Rt) (D : Ends) : Prop :=
  match r with
  | .nx e M' => ∀ ι' H' σ', Grow ι H ι' H' → StRep K w ι' H' M' → ERep K ι' H' e σ' → D.nx σ' H'
  | .rt d M' => ∀ ι' H' v, Grow ι H ι' H' → StRep K w ι' H' M' → Rep K ι' H' d v → D.rt v H'
  | .bk e M' => ∀ ι' H' σ', Grow ι H ι' H' → StRep K w ι' H' M' → ERep K ι' H' e σ' → D.bk σ' H'
  | .ct e M' => ∀ ι' H' σ', Grow ι H ι' H' → StRep K w ι' H' M' → ERep K ι' H' e σ' → D.ct σ' H'
  | .ex c e M' => ∀ ι' H' σ', Grow ι H ι' H' → StRep K w ι' H' M' → ERep K ι' H' e σ' → W (cv c) none σ' H'
  | .st => False
section
variable {K : PySem.W.Frag} {w : World} {cv : Str → Value} {W : WX} {ι ι1 : List Addr} {H H1 : Hp} {M : Sto} {D : Ends} {r : Rt} {env : Env} {σ : L2.St}
theorem RtC.mono (g : Grow ι H ι1 H1) (C : RtC K w cv W ι H r D) : RtC K w cv W ι1 H1 r D := by
  cases r with
  | nx e M' => exact fun ι' H' σ' g' S E => C ι' H' σ' (g.trans g') S E
  | rt d M' => exact fun ι' H' σ' g' S E => C ι' H' σ' (g.trans g') S E
  | bk e M' => exact fun ι' H' σ' g' S E => C ι' H' σ' (g.trans g') S E
  | ct e M' => exact fun ι' H' σ' g' S E => C ι' H' σ' (g.trans g') S E
  | ex c e M' => exact fun ι' H' σ' g' S E => C ι' H' σ' (g.trans g') S E
  | st => exact C
theorem RtC.thn {α β : Type} {R : List Addr → Hp → α → β → Prop} {r : Rs α} {f : α → Sto → Rt} (E : ERep K ι H env σ) (C : RtC K w cv W ι H (r.thn env f) D) :
    RC K w R (fun c H' => W (cv c) none σ H') ι H r fun b H1 => ∃ ι1 M1 a, Grow ι H ι1 H1 ∧ StRep K w ι1 H1 M1 ∧ R ι1 H1 a b ∧ RtC K w cv W ι1 H1 (f a M1) D := by
  cases r with
  | ok a M' => exact fun ι' H' b g S r => ⟨ι', M', a, g, S, r, RtC.mono g C⟩
  | ex c M' => exact fun ι' H' g S => C ι' H' σ g S (E.grow g)
  | st => exact C
/-- a statement's reading -/
def tS (K : PySem.W.Frag) (w : World) (cv : Str → Value) (W : WX) (f : Env → Sto → Rt) : TS := fun D σ H => ∃ ι env M, StRep K w ι H M ∧ ERep K ι H env σ ∧ RtC K w cv W ι H (f env M) D
theorem RC.ungcB {Xf : Str → Hp → Prop} {r : Rs Bool} {Q : Bool → Hp → Prop} (S : StRep K w ι H M) (h : RC K w (Rid (α := Bool)) Xf ι H (gcB M r) Q) : RC K w (Rid (α := Bool)) Xf ι H r Q := by
  cases r with
  | ok d M' =>
    unfold gcB at h
    by_cases c : M'.take M.length = M
    · simp only [if_pos c] at h
      exact fun ι' H' b g' S' r' => h ι H' b g'.back (S.back g' S' c) r'
    · simp only [if_neg c] at h
      exact h
  | ex c M' => exact h
  | st => exact h
end
section
variable {S : Sta} {call : Str → List D → Sto → Rs D} {cv : Str → Value} {W : WX} {X : Cx} {a b c d : Ex} {x y z tg : Expr} {es : List Ex} {xs : List Expr} {pos : Pos} {t : Tg} {it : It} {ss : List Sm} {sts : List Stmt}
abbrev tX (call : Str → List D → Sto → Rs D) (cv : Str → Value) (W : WX) (X : Cx) (s : Sm) : TS := tS X.K X.w cv W (exec call s)
abbrev tXs (call : Str → List D → Sto → Rs D) (cv : Str → Value) (W : WX) (X : Cx) (s : List Sm) : TS := tS X.K X.w cv W (execs call s)
/-- a value, then -/
theorem tS.one {K : PySem.W.Frag} {w : World} {α β : Type} {R : List Addr → Hp → α → β → Prop} {f : Env → Sto → Rs α} {g : Env → α → Sto → Rt} {D : Ends} {σ : L2.St} {H : Hp} (h : tS K w cv W (fun env M => (f env M).thn env (g env)) D σ H) :
    tR K w cv R W f σ H fun x H1 => ∃ ι env M a, StRep K w ι H1 M ∧ ERep K ι H1 env σ ∧ R ι H1 a x ∧ RtC K w cv W ι H1 (g env a M) D := by
  obtain ⟨ι, env, M, S, E, C⟩ := h
  exact ⟨ι, env, M, S, E, (C.thn E).imp fun x H1 ⟨ι1, M1, a, g1, S1, r1, C1⟩ => ⟨ι1, env, M1, a, S1, E.grow g1, r1, C1⟩⟩
def asgR (t : Tg) (env : Env) (d : D) (M1 : Sto) : Rt := match asg t d env with
    | some env' => .nx env' M1
    | none => .st
theorem asg_red {σ : L2.St} {H : Hp} {D : Ends} (h : tX call cv W X (.asg t a) D σ H) : tAsg (tE call cv W X a) (gR X.K X.w false t) D σ H :=
  (tS.one (R := Rep X.K) (g := asgR t) h).imp fun x H1 ⟨ι, env, M, d, S, E, r, C⟩ => by
    unfold asgR at C
    cases e : asg t d env with
    | none => rw [e] at C; exact C.elim
    | some env' => rw [e] at C; exact ⟨ι, M, env, d, env', S, E, r, e, fun σ' E' _ _ => C ι H1 σ' .refl S E'⟩
theorem s_asg (hs : swapsWithSole [tg] x pos.line X.env = pure false) (hw : swappedStores [tg] x X.env = pure none) (hi : isTg tg = true) (ha : PE X x (tE call cv W X a)) (hg : PG X tg (gR X.K X.w false t)) : PS X (.Assign [tg] x pos) (tX call cv W X (.asg t a)) :=
  PS.imp (ps_asg ha hg hs hw (by rw [tg_each hi]; rfl)) fun D σ H h => asg_red h
theorem s_asgC (O : OkX S call cv W X) {elt : Ex} {it : It} {cond : Option Ex} {own : List (Str × Nat)} {iter tg : Expr} {ifs : List Expr} {scope : Scope} (h : CompOk S call cv W X elt t it cond own x tg iter ifs scope) {i : Nat} {y : Str} {py spos : Pos} (hy : S.N[i]? = some y) (hyl : S.sc.names.lookup y = some .local)
    (hsw : swapsWith (.ListComp x [⟨tg, iter, ifs, 0⟩] scope pos) (some (.Name y py)) spos.line X.env = pure true) :
    PS X (.Assign [.Name y py] (.ListComp x [⟨tg, iter, ifs, 0⟩] scope pos) spos) (tX call cv W X (.asg (.nm i) (.comp elt t it cond own))) :=
  PS.imp (s_comp O h hy hyl hsw) fun D σ H q => (tS.one (R := Rep X.K) (g := asgR (.nm i)) q).imp fun x H1 ⟨ι, env, M, d, S, E, r, C⟩ => C ι H1 _ .refl S (E.set i r)
theorem s_exp (hp : notComp x = true) (ha : PE X x (tE call cv W X a)) : PS X (.Expr x pos) (tX call cv W X (.exp a)) :=
  PS.imp (ps_expr ha (swaps_plain hp)) fun D σ H h => (tS.one (R := Rep X.K) (g := fun env _ M1 => .nx env M1) h).imp fun x H1 ⟨ι, env, M, d, S, E, r, C⟩ => C ι H1 σ .refl S E
theorem s_ret (ha : PE X x (tE call cv W X a)) : PS X (.Return (some x) pos) (tX call cv W X (.ret a)) :=
  PS.imp (ps_ret ha) fun D σ H h => (tS.one (R := Rep X.K) (g := fun _ d M1 => .rt d M1) h).imp fun x H1 ⟨ι, env, M, d, S, E, r, C⟩ => C ι H1 x .refl S r
theorem s_retN : PS X (.Return none pos) (tX call cv W X .retN) := PS.imp ps_retN fun D σ H ⟨ι, env, M, S, E, C⟩ => C ι H .non .refl S rfl
theorem s_pss : PS X (.Pass pos) (tX call cv W X .pss) := PS.imp ps_pass fun D σ H ⟨ι, env, M, S, E, C⟩ => C ι H σ .refl S E
theorem s_brk : PS X (.Break pos) (tX call cv W X .brk) := PS.imp ps_break fun D σ H ⟨ι, env, M, S, E, C⟩ => C ι H σ .refl S E
theorem s_cnt : PS X (.Continue pos) (tX call cv W X .cnt) := PS.imp ps_continue fun D σ H ⟨ι, env, M, S, E, C⟩ => C ι H σ .refl S E
theorem s_if {ss' : List Sm} {sts' : List Stmt} (hc : PT X x (tT call cv W X c)) (ha : PSs X sts (tXs call cv W X ss)) (hb : PSs X sts' (tXs call cv W X ss')) : PS X (.If x sts sts' pos) (tX call cv W X (.iff c ss ss')) :=
  PS.imp (ps_if hc ha hb) fun D σ H ⟨ι, env, M, S, E, C⟩ => ⟨ι, env, M, S, E, (RC.ungcB S (RtC.thn (R := Rid) E C)).imp fun k H1 ⟨ι1, M1, k', g1, S1, r1, C1⟩ => by
    cases r1
    cases k with
    | true => exact ⟨ι1, env, M1, S1, E.grow g1, C1⟩
    | false => exact ⟨ι1, env, M1, S1, E.grow g1, C1⟩⟩
theorem ss_nil : PSs X [] (tXs call cv W X []) := PSs.imp pss_nil fun D σ H ⟨ι, env, M, S, E, C⟩ => C ι H σ .refl S E
theorem ss_cons {s : Sm} {st : Stmt} (h1 : PS X st (tX call cv W X s)) (h2 : PSs X sts (tXs call cv W X ss)) : PSs X (st :: sts) (tXs call cv W X (s :: ss)) :=
  PSs.imp (pss_cons h1 h2) fun D σ H ⟨ι, env, M, S, E, C⟩ => ⟨ι, env, M, S, E, by
    rw [execs] at C
    cases e : exec call s env M with
    | nx e' M' => rw [e] at C; exact fun ι' H' σ' g S' E' => ⟨ι', e', M', S', E', RtC.mono g C⟩
    | rt d M' => rw [e] at C; exact C
    | bk e' M' => rw [e] at C; exact C
    | ct e' M' => rw [e] at C; exact C
    | ex c e' M' => rw [e] at C; exact C
    | st => rw [e] at C; exact C⟩
/-- for -/
theorem s_for (O : OkX S call cv W X) (hp : PassesOwn (model X.prog X.w) X.A X.env X.xe) (hf : plainE y = true) (hi : PI X tg y (iR call cv W X it)) (hg : PG X tg (gR X.K X.w (isPr it) t)) (hb : PSs X sts (tXs call cv W X ss)) : PS X (.For tg y sts [] pos) (tX call cv W X (.fr t it ss)) :=
  PS.imp (ps_for hp O.calm hi hg hb fun v => plain_fold hf) fun D σ H ⟨ι, env, M, S, E, C⟩ => ⟨ι, env, M, S, E, (RtC.thn E C).imp fun J H1 ⟨ι1, M1, wk, g1, S1, rw, C1⟩ => by
    refine for_it rw (fun i σ H => ∃ ι' M' env', Grow ι1 H1 ι' H ∧ StRep X.K X.w ι' H M' ∧ ERep X.K ι' H env' σ ∧ RtC X.K X.w cv W ι1 H1 (forGo wk.ok t (execs call ss) (wk.items.drop i) env' M') D) ?_ ?_ ?_ ?_
    · exact ⟨ι1, M1, env, .refl, S1, E.grow g1, C1⟩
    · rintro i σ' H' hi ⟨ι', M', env', g, S', E', C'⟩
      refine ⟨ι', M', g, S', Decidable.byContradiction fun n => ?_⟩
      have : forGo wk.ok t (execs call ss) (wk.items.drop i) env' M' = .st := by
        cases wk.items.drop i <;> rw [forGo, if_neg n]
      rw [this] at C'
      exact C'
    · rintro i v σ' Hx H' hi ⟨ι', M', env', g, S', E', C'⟩ y
      have okM : wk.ok M' = true := Decidable.byContradiction fun n => by
        have : forGo wk.ok t (execs call ss) (wk.items.drop i) env' M' = .st := by
          cases wk.items.drop i <;> rw [forGo, if_neg n]
        rw [this] at C'
        exact C'
      obtain ⟨d, ed, gy, Sy, ri⟩ := y ι' M' g S' okM
      have edr : wk.items.drop i = d :: wk.items.drop (i + 1) := by
        have hi2 : i < wk.items.length := hi
        rw [List.drop_eq_getElem_cons hi2]
        rw [List.getElem?_eq_getElem hi2] at ed
        rw [Option.some.inj ed]
      rw [edr, forGo, if_pos okM] at C'
      cases ea : asg t d env' with
      | none => rw [ea] at C'; exact C'.elim
      | some env2 =>
        rw [ea] at C'
        dsimp only at C'
        refine ⟨ι', M', env', d, env2, Sy, E'.grow gy, ri, ea, fun σ2 E2 _ _ => ⟨ι', env2, M', Sy, E2, ?_⟩⟩
        have gall : Grow ι1 H1 ι' H' := g.trans gy
        cases r : execs call ss env2 M' with
        | nx e M2 => rw [r] at C'; exact fun ι2 H2 σ2 g2 S2 E2 => ⟨ι2, M2, e, gall.trans g2, S2, E2, C'⟩
        | ct e M2 => rw [r] at C'; exact fun ι2 H2 σ2 g2 S2 E2 => ⟨ι2, M2, e, gall.trans g2, S2, E2, C'⟩
        | bk e M2 => rw [r] at C'; exact RtC.mono (r := .nx e M2) gall C'
        | rt d M2 => rw [r] at C'; exact RtC.mono (r := .rt d M2) gall C'
        | ex c e M2 => rw [r] at C'; exact RtC.mono (r := .ex c e M2) gall C'
        | st => rw [r] at C'; exact C'
    · rintro σ' H' ⟨ι', M', env', g, S', E', C'⟩
      rw [List.drop_length, forGo] at C'
      by_cases c : wk.ok M' = true
      · rw [if_pos c] at C'; exact C' ι' H' σ' g S' E'
      · rw [if_neg c] at C'; exact C'.elim⟩
/-- while -/
theorem s_while (hp : PassesOwn (model X.prog X.w) X.A X.env X.xe) (hc : PT X x (tT call cv W X c)) (hb : PSs X sts (tXs call cv W X ss)) : PS X (.While x sts [] pos) (tX call cv W X (.wh c ss)) :=
  PS.imp (ps_while hp hc hb) fun D σ H ⟨ι, env, M, S, E, C⟩ => by
    rw [exec, whGo] at C
    split at C
    rotate_left
    · exact C.elim
    rename_i hN
    refine ⟨fun m σ' H' => ∃ ι' M' env', Grow ι H ι' H' ∧ StRep X.K X.w ι' H' M' ∧ ERep X.K ι' H' env' σ' ∧ RtC X.K X.w cv W ι H (whN (evalT call c) (execs call ss) m env' M') D, ⟨_, ι, M, env, .refl, S, E, C⟩, ?_⟩
    rintro m σ' H' ⟨ι', M', env', g, S', E', C'⟩
    cases m with
    | zero => exact C'.elim
    | succ m =>
      rw [whN] at C'
      refine ⟨ι', env', M', S', E', RC.ungcB S' ?_⟩
      show RC _ _ _ _ ι' H' (evalT call c env' M') _
      cases r : evalT call c env' M' with
      | ok k M1 =>
        rw [r] at C'
        intro ι2 H2 k' g2 S2 rk
        cases rk
        cases k with
        | true =>
          simp only [if_true]
          refine ⟨fun σ3 H3 => ∃ ι' M' env', Grow ι H ι' H3 ∧ StRep X.K X.w ι' H3 M' ∧ ERep X.K ι' H3 env' σ3 ∧ RtC X.K X.w cv W ι H (whN (evalT call c) (execs call ss) m env' M') D, fun σ3 H3 h3 => ⟨m, Nat.lt_succ_self m, h3⟩, ι2, env', M1, S2, E'.grow g2, ?_⟩
          dsimp only at C'
          have gall := g.trans g2
          cases q : execs call ss env' M1 with
          | nx e M2 => rw [q] at C'; exact fun ι3 H3 σ3 g3 S3 E3 => ⟨ι3, M2, e, gall.trans g3, S3, E3, C'⟩
          | ct e M2 => rw [q] at C'; exact fun ι3 H3 σ3 g3 S3 E3 => ⟨ι3, M2, e, gall.trans g3, S3, E3, C'⟩
          | bk e M2 => rw [q] at C'; exact RtC.mono (r := .nx e M2) gall C'
          | rt d M2 => rw [q] at C'; exact RtC.mono (r := .rt d M2) gall C'
          | ex c e M2 => rw [q] at C'; exact RtC.mono (r := .ex c e M2) gall C'
          | st => rw [q] at C'; exact C'
        | false =>
          simp only [Bool.false_eq_true, if_false]
          exact C' ι2 H2 σ' (g.trans g2) S2 (E'.grow g2)
      | ex x1 M1 =>
        rw [r] at C'
        exact fun ι2 H2 g2 S2 => C' ι2 H2 σ' (g.trans g2) S2 (E'.grow g2)
      | st => rw [r] at C'; exact C'
end
end BT

/-! Statements that the check takes. -/
namespace BT
open PySem PySem.Spec PyProof.Rows L2
section
variable {S : Sta} {call : Str → List D → Sto → Rs D} {cv : Str → Value} {W : WX} {X : Cx} {a b c d : Ex} {x y z tg : Expr} {es : List Ex} {xs : List Expr} {pos : Pos} {t : Tg} {it : It} {ss : List Sm} {sts : List Stmt}
/-- d[k] = v -/
def rSet (K : PySem.W.Frag) (w : World) : TSet := fun o i v H Q => ∃ ι M x k y, StRep K w ι H M ∧ Rep K ι H x o ∧ Rep K ι H k i ∧ Rep K ι H y v ∧ ∃ M', setAt M x k y = some M' ∧ ∀ H', Grow ι H ι H' → StRep K w ι H' M' → Q H'
theorem set_ok (hu : X.A.units + 16 < cLine) : PSet X (rSet X.K X.w) := by
  intro pins s σ H o i v ov iv u Q I ro ri rv h
  obtain ⟨ι, M, x, k, y, S, rx, rk, ry, M', e, q⟩ := h
  cases x with
  | ref n =>
    simp only [setAt] at e
    split at e
    · rename_i kvs em
      split at e
      · rename_i c
        cases e
        rw [Bool.and_eq_true] at c
        obtain ⟨p, u0, rfl, ep, rd, dr⟩ := S.dct rx (.inl em)
        cases ro
        obtain ⟨u1, hu1, dr1⟩ : ∃ u1, H p = some u1 ∧ DctR X.K X.w ι H p kvs u1 := by
          obtain ⟨p2, e2, q2⟩ := rx
          cases e2
          exact S.at_ n p _ q2 em
        have hnt : ∀ xs, u1 ≠ .tup xs := fun xs z => by obtain ⟨_, _, e1, _⟩ := dr1; rw [e1] at z; cases z
        have hnf : ∀ a b, u1 ≠ .frz a b := fun a b z => by obtain ⟨_, _, e1, _⟩ := dr1; rw [e1] at z; cases z
        refine dct_setItem hu I hu1 (List.mem_of_getElem? ep) dr1 c.1 (fits_le c.2) rk ri ry rv fun u' s' I' dr' => ⟨_, I', q _ (grow_write (List.mem_of_getElem? ep) hu1 hnt hnf) (S.write ep hu1 hnt hnf ⟨u', upd_same, dr'⟩)⟩
      · cases e
    · cases e
  | _ => cases e
theorem s_sub (hu : X.A.units + 16 < cLine) (hp : plainE y = true) {p2 : Pos} (ha : PE X x (tE call cv W X a)) (hb : PE X y (tE call cv W X b)) (hc : PE X z (tE call cv W X c)) : PS X (.Assign [.Subscript x y p2] z pos) (tX call cv W X (.sub a b c)) := by
  refine PS.imp (ps_asg hc (pg_sub ha hb (set_ok hu) (fun v => by cases y <;> first | rfl | cases hp)) (by cases z <;> rfl) (by cases z <;> rfl) rfl) fun D σ H h => ?_
  refine (tS.one (R := Rep X.K) (g := fun env v M1 => (evalE call a env M1).thn env fun x M2 => (evalE call b env M2).thn env fun k M3 => (match setAt M3 x k v with
    | some M4 => .nx env M4
    | none => .st)) h).imp fun v H1 ⟨ι, env, M, dv, S, E, rv, C⟩ => ⟨ι, env, M, S, E, (RtC.thn (R := Rep X.K) E C).imp fun o H2 ⟨ι2, M2, do_, g2, S2, r2, C2⟩ => ⟨ι2, env, M2, S2, E.grow g2, (RtC.thn (R := Rep X.K) (E.grow g2) C2).imp fun i H3 ⟨ι3, M3, di, g3, S3, r3, C3⟩ => ?_⟩⟩
  cases e : setAt M3 do_ di dv with
  | none => rw [e] at C3; exact C3.elim
  | some M4 =>
    rw [e] at C3
    exact ⟨ι3, M3, do_, di, dv, S3, Rep.grow g3 _ _ r2, r3, Rep.grow (g2.trans g3) _ _ rv, M4, e, fun H' g4 S4 => C3 ι3 H' σ g4 S4 (((E.grow g2).grow g3).grow g4)⟩
/-! a, b = x, y -/
theorem swp2 {env : PySem.Env} {n m : Str} {px py pt pt2 : Pos} {kt k2 : Nat} (hk : env.scope.kind = .function) (hx : env.scope.names.lookup n = some .local) (hy : env.scope.names.lookup m = some .local) (hl : py.line = px.line) (hne : n ≠ m) (ha : plainE x = true) (hb : plainE y = true)
    (hc1 : (foldedForSure 8 x && foldedForSure 8 y) = false) (hc2 : (constantsAlone 8 x && constantsAlone 8 y) = false) : swappedStores [.Tuple [.Name n px, .Name m py] kt pt] (.Tuple [x, y] k2 pt2) env = pure (some [n, m]) := by
  have hb' : env.blockKind = .function := by unfold Env.blockKind; rw [hk]; rfl
  have kx : env.kindOf n = some .local := hx
  have ky : env.kindOf m = some .local := hy
  have two : ∀ {f : Expr → Bool}, f x = false → f y = false → ¬ ([x, y].any f = true) := by
    intro f h1 h2
    rw [List.any_cons, List.any_cons, List.any_nil, h1, h2]; decide
  have ed : ∀ l : List Str, l = [n, m] → ¬ ((l.length != 2 || l.eraseDups.length != l.length) = true) := by
    intro l e
    subst e
    have : [n, m].eraseDups = [n, m] := by
      rw [List.eraseDups_cons]
      have : (List.filter (fun b => !b == n) [m]) = [m] := by simp [Ne.symm hne]
      rw [this]
      simp [List.eraseDups_cons]
    rw [this]; simp
  have fm : ∀ {f : Expr → Option Str}, f (.Name n px) = some n → f (.Name m py) = some m → [Expr.Name n px, Expr.Name m py].filterMap f = [n, m] := by
    intro f q1 q2
    rw [List.filterMap_cons, q1, List.filterMap_cons, q2, List.filterMap_nil]
  have h1 : [x, y].all (foldedForSure 8) = false := by rw [List.all_cons, List.all_cons, List.all_nil, Bool.and_true]; exact hc1
  have h2 : [x, y].all (constantsAlone 8) = false := by rw [List.all_cons, List.all_cons, List.all_nil, Bool.and_true]; exact hc2
  unfold swappedStores
  dsimp only
  simp only [hb', h1, h2]
  refine (if_neg (by simp)).trans ?_
  refine (if_neg (two (by cases x <;> first | rfl | cases ha) (by cases y <;> first | rfl | cases hb))).trans ?_
  refine (if_neg (ed _ (fm (by simp [kx, Expr.pos]) (by simp [ky, hl, Expr.pos])))).trans ?_
  refine (if_neg Bool.false_ne_true).trans ?_
  rw [fm (by simp [kx, Expr.pos]) (by simp [ky, hl, Expr.pos])]
  rfl
def swB (S : Sta) (i j : Nat) (n m : Str) (px py : Pos) (x y : Expr) : Bool :=
  decide (S.N[i]? = some n) && decide (S.N[j]? = some m) && decide (i ≠ j) && decide (n ≠ m) && decide (S.sc.kind = .function) && decide (S.sc.names.lookup n = some .local) && decide (S.sc.names.lookup m = some .local) && decide (py.line = px.line)
    && !(foldedForSure 8 x && foldedForSure 8 y) && !(constantsAlone 8 x && constantsAlone 8 y)
theorem s_swp {n m : Str} {px py pt pt2 : Pos} {kt k2 i j : Nat} (O : OkX S call cv W X) (h : swB S i j n m px py x y = true) (ha : plainE x = true) (hb : plainE y = true) (hp : PA X [x, y] (tEs call cv W X es)) :
    PS X (.Assign [.Tuple [.Name n px, .Name m py] kt pt] (.Tuple [x, y] k2 pt2) pos) (tX call cv W X (.swp [i, j] es)) := by
  unfold swB at h
  simp only [Bool.and_eq_true, decide_eq_true_eq, Bool.not_eq_true'] at h
  obtain ⟨⟨⟨⟨⟨⟨⟨⟨⟨h1, h2⟩, h3⟩, h4⟩, h5⟩, h6⟩, h7⟩, h8⟩, h9⟩, h10⟩ := h
  have e := O.sc
  refine PS.imp (ps_par O.calm (by rw [O.nm]; exact O.nd) (by rw [O.nm]; exact h1) (by rw [O.nm]; exact h2) h3 (by rw [e]; exact h6) (by rw [e]; exact h7) hp (swp2 (by rw [e]; exact h5) (by rw [e]; exact h6) (by rw [e]; exact h7) h8 h4 ha hb h9 h10) rfl) fun D σ H q =>
    (tS.one (R := Reps X.K) (g := fun env ds M1 => if ds.length = 2 then .nx (setSlots [i, j] ds env) M1 else .st) q).imp fun vs H1 ⟨ι, env, M, ds, S, E, r, C⟩ => ?_
  by_cases c : ds.length = 2
  · rw [if_pos c] at C
    match ds, c, r, C with
    | [d1, d2], _, r, C =>
      obtain ⟨v1, vr, e1, r1, v2, vr2, e2, r2, e3⟩ := r
      subst e3 e2 e1
      exact ⟨v1, v2, rfl, C ι H1 _ .refl S ((E.set i r1).set j r2)⟩
  · rw [if_neg c] at C; exact C.elim
end
end BT

/-! Every statement that the check takes runs as the small language says; defs. -/
namespace BT
open PySem PySem.Spec PyProof.Rows L2
def isNm : Expr → Bool
  | .Name .. => true
  | _ => false
mutual
def chkS (S : Sta) : Sm → Stmt → Bool
  | .asg t e => fun s => match s with
    | .Assign [tg] x _ => chkTg S t tg && chkE S e x && (notTup x || isNm tg) && decide (S.sc.kind = .function)
    | _ => false
  | .sub o i e => fun s => match s with
    | .Assign [.Subscript x y _] z _ => plainE y && chkE S o x && chkE S i y && chkE S e z
    | _ => false
  | .swp is es => fun s => match s with
    | .Assign [.Tuple [.Name n px, .Name m py] _ _] (.Tuple [x, y] _ _) _ => (match is with
      | [i, j] => swB S i j n m px py x y && plainE x && plainE y && chkEs S es [x, y]
      | _ => false)
    | _ => false
  | .exp e => fun s => match s with
    | .Expr x _ => notComp x && chkE S e x
    | _ => false
  | .ret e => fun s => match s with
    | .Return (some x) _ => chkE S e x
    | _ => false
  | .retN => fun s => match s with
    | .Return none _ => true
    | _ => false
  | .iff c a b => fun s => match s with
    | .If x p q _ => chkE S c x && chkSs S a p && chkSs S b q
    | _ => false
  | .fr t it b => fun s => match s with
    | .For tg x p [] _ => plainE x && chkI S it tg x && chkTg S t tg && chkSs S b p
    | _ => false
  | .wh c b => fun s => match s with
    | .While x p [] _ => chkE S c x && chkSs S b p
    | _ => false
  | .brk => fun s => match s with
    | .Break _ => true
    | _ => false
  | .cnt => fun s => match s with
    | .Continue _ => true
    | _ => false
  | .pss => fun s => match s with
    | .Pass _ => true
    | _ => false
  | .rs _ => fun _ => false
  | .tr _ _ _ => fun _ => false
def chkSs (S : Sta) : List Sm → List Stmt → Bool
  | [] => fun ss => match ss with
    | [] => true
    | _ => false
  | a :: as => fun ss => match ss with
    | x :: xs => chkS S a x && chkSs S as xs
    | _ => false
end
section
variable {call : Str → List D → Sto → Rs D} {cv : Str → Value}
/-- the parts of a comprehension -/
theorem compOk {S : Sta} {W : WX} {X : Cx} (O : OkX S call cv W X) {elt : Ex} {t : Tg} {it : It} {cond : Option Ex} {own : List (Str × Nat)} {x tg iter : Expr} {ifs : List Expr} {k : Int} {scope : Scope} {p : Pos} (h : chkE S (.comp elt t it cond own) (.ListComp x [⟨tg, iter, ifs, k⟩] scope p) = true) :
    k = 0 ∧ CompOk S call cv W X elt t it cond own x tg iter ifs scope := by
  simp only [chkE, Bool.and_eq_true, decide_eq_true_eq] at h
  obtain ⟨⟨⟨⟨⟨⟨⟨h0, h1⟩, h2⟩, h3⟩, h4⟩, h5⟩, h6⟩, h7⟩ := h
  exact ⟨h0, {
    pi := eI it _ _ O h3
    blk := by rw [O.nm, O.sc]; exact blkB_ok h1
    idx := fun i hi => of_decide_eq_true (List.all_eq_true.mp h5 i hi)
    g := fun s H C cl fp => by
      have := (O.blk (scope := scope) (s := s) (H := H) (C := C) (cl := cl) (fp := fp))
      cases e : isPr it with
      | true => exact tg_okP this (isPr_tup e h3) h4
      | false => exact tg_ok this t _ h4
    c := fun s H C cl fp => eC cond _ O.blk h6
    e := fun s H C cl fp => (eE elt _ O.blk h7).1
    s := fun v => plain_fold h2 }⟩
theorem comp_form {S : Sta} {e : Ex} {x : Expr} (h : chkE S e x = true) (hn : notComp x = false) : ∃ elt t it cond own y tg iter ifs k scope p, e = .comp elt t it cond own ∧ x = .ListComp y [⟨tg, iter, ifs, k⟩] scope p := by
  cases x <;> first | cases hn | skip
  · rename_i y gs scope p
    cases e <;> first | (unfold chkE at h; cases h; done) | skip
    rename_i elt t it cond own
    cases gs with
    | nil => simp [chkE] at h
    | cons g gs =>
      cases gs with
      | nil => obtain ⟨a, b, c, d⟩ := g; exact ⟨_, _, _, _, _, _, _, _, _, _, _, _, rfl, rfl⟩
      | cons _ _ => simp [chkE] at h
  · cases e <;> (unfold chkE at h; cases h)
  · cases e <;> (unfold chkE at h; cases h)
theorem asg_ok {S : Sta} {W : WX} {X : Cx} (O : OkX S call cv W X) {t : Tg} {e : Ex} {tg x : Expr} {pos : Pos} (h1 : chkTg S t tg = true) (h2 : chkE S e x = true) (h3 : notTup x = true ∨ isNm tg = true) (hk : S.sc.kind = .function) : PS X (.Assign [tg] x pos) (tX call cv W X (.asg t e)) := by
  have hi := chkTg_is h1
  have hg := tg_ok O t tg h1
  have hw : swappedStores [tg] x X.env = pure none := by
    rcases h3 with q | q
    · exact stores_plain q
    · cases tg <;> first | cases q | skip
      cases x <;> rfl
  cases hc : notComp x with
  | true => exact s_asg (swaps_plain hc) hw hi (eE e x O h2).1 hg
  | false =>
    obtain ⟨elt, t2, it, cond, own, y, tg2, iter, ifs, k, scope, p, rfl, rfl⟩ := comp_form h2 hc
    cases tg with
    | Name n py =>
      have hb : X.env.blockKind = .function := by unfold Env.blockKind; rw [O.sc, hk]; rfl
      have sw : ∀ b, (X.env.blockKind == .function && X.env.kindOf n == some .local && py.line == p.line && !(scope.names.any fun (m, k) => m == n && (k == .local || k == .cell))) = b → swapsWith (.ListComp y [⟨tg2, iter, ifs, k⟩] scope p) (some (.Name n py)) pos.line X.env = pure b := by
        intro b e
        rw [← e]
        rfl
      cases t with
      | tup ts => cases h1
      | nm i =>
        obtain ⟨rfl, ok⟩ := compOk O h2
        cases q : (X.env.blockKind == .function && X.env.kindOf n == some .local && py.line == p.line && !(scope.names.any fun (m, k) => m == n && (k == .local || k == .cell))) with
        | true =>
          have hl : S.sc.names.lookup n = some .local := by
            rw [Bool.and_eq_true, Bool.and_eq_true, Bool.and_eq_true] at q
            rw [← O.sc]
            exact eq_of_beq q.1.1.2
          simp only [chkTg, Bool.and_eq_true, decide_eq_true_eq] at h1
          exact s_asgC O ok h1.1.1 hl (sw _ q)
        | false => exact s_asg (sw _ q) hw hi (eE _ _ O h2).1 hg
    | Tuple es k2 p2 => exact s_asg rfl hw hi (eE _ _ O h2).1 hg
    | _ => cases hi
mutual
theorem sS {S : Sta} {W : WX} {X : Cx} (O : OkX S call cv W X) (hp : PassesOwn (model X.prog X.w) X.A X.env X.xe) : ∀ (a : Sm) (x : Stmt), chkS S a x = true → PS X x (tX call cv W X a)
  | .asg t e, x, h => by
    unfold chkS at h
    split at h
    · simp only [Bool.and_eq_true, Bool.or_eq_true, decide_eq_true_eq] at h
      obtain ⟨⟨⟨h1, h2⟩, h3⟩, h4⟩ := h
      exact asg_ok O h1 h2 h3 h4
    · cases h
  | .sub o i e, x, h => by
    unfold chkS at h
    split at h
    · simp only [Bool.and_eq_true] at h
      obtain ⟨⟨⟨h1, h2⟩, h3⟩, h4⟩ := h
      have := O.un
      exact s_sub (by omega) h1 (eE o _ O h2).1 (eE i _ O h3).1 (eE e _ O h4).1
    · cases h
  | .swp is es, x, h => by
    unfold chkS at h
    split at h
    · split at h
      · simp only [Bool.and_eq_true] at h
        obtain ⟨⟨⟨h1, h2⟩, h3⟩, h4⟩ := h
        exact s_swp O h1 h2 h3 (eEs es _ O h4)
      · cases h
    · cases h
  | .exp e, x, h => by
    unfold chkS at h
    split at h
    · rw [Bool.and_eq_true] at h
      exact s_exp h.1 (eE e _ O h.2).1
    · cases h
  | .ret e, x, h => by
    unfold chkS at h
    split at h
    · exact s_ret (eE e _ O h).1
    · cases h
  | .retN, x, h => by
    unfold chkS at h
    split at h
    · exact s_retN
    · cases h
  | .iff c a b, x, h => by
    unfold chkS at h
    split at h
    · simp only [Bool.and_eq_true] at h
      exact s_if (eE c _ O h.1.1).2.1 (sSs O hp a _ h.1.2) (sSs O hp b _ h.2)
    · cases h
  | .fr t it b, x, h => by
    unfold chkS at h
    split at h
    · simp only [Bool.and_eq_true] at h
      obtain ⟨⟨⟨h1, h2⟩, h3⟩, h4⟩ := h
      refine s_for O hp h1 (eI it _ _ O h2) ?_ (sSs O hp b _ h4)
      cases e : isPr it with
      | true => exact tg_okP O (isPr_tup e h2) h3
      | false => exact tg_ok O t _ h3
    · cases h
  | .wh c b, x, h => by
    unfold chkS at h
    split at h
    · simp only [Bool.and_eq_true] at h
      exact s_while hp (eE c _ O h.1).2.1 (sSs O hp b _ h.2)
    · cases h
  | .brk, x, h => by
    unfold chkS at h
    split at h
    · exact s_brk
    · cases h
  | .cnt, x, h => by
    unfold chkS at h
    split at h
    · exact s_cnt
    · cases h
  | .pss, x, h => by
    unfold chkS at h
    split at h
    · exact s_pss
    · cases h
  | .rs _, x, h => by simp [chkS] at h
  | .tr _ _ _, x, h => by simp [chkS] at h
theorem sSs {S : Sta} {W : WX} {X : Cx} (O : OkX S call cv W X) (hp : PassesOwn (model X.prog X.w) X.A X.env X.xe) : ∀ (a : List Sm) (x : List Stmt), chkSs S a x = true → PSs X x (tXs call cv W X a)
  | [], [], h => ss_nil
  | [], _ :: _, h => by simp [chkSs] at h
  | _ :: _, [], h => by simp [chkSs] at h
  | a :: as, x :: xs, h => by
    simp only [chkSs, Bool.and_eq_true] at h
    exact ss_cons (sS O hp a x h.1) (sSs O hp as xs h.2)
end
end
end BT

/-! Defs; a law's end. -/
namespace BT
open PySem PySem.Spec PyProof.Rows L2
/-- the plain body of a def: without its first text -/
def noDoc : List Stmt → List Stmt
  | .Expr (.Constant (.str _) _ _) _ :: r => r
  | b => b
theorem noDoc_ok {X : Cx} {b : List Stmt} {t : TS} (h : PSs X (noDoc b) t) : PSs X b t := by
  unfold noDoc at h
  split at h
  · exact PSs.imp (pss_cons ps_doc h) fun D σ H q => q
  · exact h
/-- what is told of a def: its place in the top, its slots, its parameters -/
structure DC where
  d : He.DefD
  N : List Str
  ps : List Str
def scopeB (N ps : List Str) (sc : Scope) : Bool := decide (sc.kind = .function) && !sc.isCoroutine && !sc.isGenerator && decide N.Nodup && decide (N.take ps.length = ps)
  && (ps.all fun x => decide (sc.names.lookup x = some .local) || decide (sc.names.lookup x = some .cell)) && (sc.names.all fun y => decide (y.2 ≠ .free))
theorem scopeB_ok {N ps : List Str} {sc : Scope} (h : scopeB N ps sc = true) : FnScope N ps sc := by
  unfold scopeB at h
  simp only [Bool.and_eq_true, decide_eq_true_eq, Bool.not_eq_true', List.all_eq_true, Bool.or_eq_true] at h
  obtain ⟨⟨⟨⟨⟨⟨h1, h2⟩, h3⟩, h4⟩, h5⟩, h6⟩, h7⟩ := h
  exact ⟨h1, h2, h3, h4, h5, h6, h7⟩
def staOf (P : Prog) (cs : List (Str × Const)) (c : DC) : Sta := { N := c.N, sc := c.d.scope, fb := fun _ => true, fs := P.map (·.1), cs := cs }
def dcB (P : Prog) (cs : List (Str × Const)) (f : Str) (fn : Fn) (c : DC) : Bool := scopeB c.N c.ps c.d.scope && decide (c.N.length = fn.ns) && decide (c.ps.length = fn.np) && decide (fn.np ≤ fn.ns) && chkSs (staOf P cs c) fn.body (noDoc c.d.body)
  && decide (c.d.at_ = (f, none)) && c.d.dfl.isEmpty && c.d.kwd.isEmpty
/-- how its arguments bind -/
def BindsD (c : DC) : Prop := ∀ (kV doc pm : Value) (an : Option Addr) (cdv ct : Value) (us : List Value), us.length = c.ps.length → bindArgs (PySem.W.fnOf c.d.name c.d.qual c.d.params c.d.body c.d.scope .none kV doc pm an cdv ct) ⟨us, []⟩ = pure (c.ps.zip us)
/-- a row of defs, checked -/
def allB (P : Prog) (cs : List (Str × Const)) : Prog → List DC → Bool
  | [], [] => true
  | p :: ps, c :: tb => dcB P cs p.1 p.2 c && allB P cs ps tb
  | _, _ => false
theorem allB_at {P : Prog} {cs : List (Str × Const)} {f : Str} {fn : Fn} : ∀ {ps : Prog} {tb : List DC}, allB P cs ps tb = true → ps.lookup f = some fn → ∃ c ∈ tb, dcB P cs f fn c = true
  | [], [], _, h => by simp at h
  | [], _ :: _, h, _ => by simp [allB] at h
  | _ :: _, [], h, _ => by simp [allB] at h
  | p :: ps, c :: tb, h, e => by
    simp only [allB, Bool.and_eq_true] at h
    obtain ⟨g, fn'⟩ := p
    rw [List.lookup_cons] at e
    cases q : f == g with
    | true =>
      rw [q] at e
      cases e
      rw [eq_of_beq q]
      exact ⟨c, List.mem_cons_self, h.1⟩
    | false =>
      rw [q] at e
      obtain ⟨c', h1, h2⟩ := allB_at h.2 e
      exact ⟨c', List.mem_cons_of_mem _ h1, h2⟩
/-- what is known of the module: its defs, its constants, that the built-ins are its own nowhere -/
structure ModIs (K : PySem.W.Frag) (mg : Str → Option Value) (P : Prog) (cs : List (Str × Const)) (tb : List DC) : Prop where
  df : ∀ f fn, P.lookup f = some fn → ∃ (c : DC) (fd : FuncData), c ∈ tb ∧ dcB P cs f fn c = true ∧ BindsD c ∧ FunD K c.d.name c.d.qual c.d.params c.d.body c.d.scope [] [] (He.ga K f) fd ∧ mg f = some (.ref (He.ga K f))
  blt : ∀ x ∈ bltN, mg x = none
  cst : ∀ x c, cs.lookup x = some c → ∃ u, mg x = some u ∧ RelC c u
theorem lookup_mem {P : Prog} {f : Str} : f ∈ P.map (·.1) → ∃ fn, P.lookup f = some fn := by
  intro h
  cases e : P.lookup f with
  | some fn => exact ⟨fn, rfl⟩
  | none =>
    rw [List.lookup_eq_none_iff] at e
    obtain ⟨p, hp, rfl⟩ := List.mem_map.mp h
    have := e p hp
    simp at this
section
variable {Pr : Program} {w : World} {K : PySem.W.Frag} {mg : Str → Option Value} {base : Heap} {P : Prog} {cs : List (Str × Const)} {tb : List DC} {cv : Str → Value}
/-- every def keeps its promise, to every depth -/
theorem fn_lvl (Md : ModIs K mg P cs tb) : ∀ (n : Nat) (f : Str) (fn : Fn), P.lookup f = some fn → ∀ (c : DC) (fd : FuncData), dcB P cs f fn c = true → FunD K c.d.name c.d.qual c.d.params c.d.body c.d.scope [] [] (He.ga K f) fd →
    FnOk Pr w K mg base (L2.CX Pr w) n (He.ga K f) fd c.ps (spOf K w cv fn.np (run P n f))
  | 0, f, fn, e, c, fd, hc, F => by
    have hl : c.ps.length = fn.np := by
      unfold dcB at hc
      simp only [Bool.and_eq_true, decide_eq_true_eq] at hc
      exact hc.1.1.1.1.1.2
    exact ⟨fun vs H Q E h => by rw [hl]; exact h.1, fun A outer s H args us vs Q E hr he hb hv ⟨_, ι, M, ds, S, r, C⟩ => C.elim⟩
  | n + 1, f, fn, e, c, fd, hc, F => by
    unfold dcB at hc
    simp only [Bool.and_eq_true, decide_eq_true_eq] at hc
    obtain ⟨⟨⟨⟨⟨⟨⟨h1, h2⟩, h3⟩, h4⟩, h5⟩, h6⟩, h7⟩, h8⟩ := hc
    refine F.ok (scopeB_ok h1) (fun vs H Q E h => by rw [h3]; exact h.1) fun cdv A outer s H vs Q E hr ⟨hl, ι, M, ds, S, r, C⟩ => ?_
    have O : OkX (staOf P cs c) (run P n) cv (fun cls d _ H => E cls d H) (cxOf (L2.CX Pr w) Pr w K mg base c.N c.d.qual c.d.scope (He.ga K f) cdv A outer s H E) := {
      nm := rfl
      nd := (scopeB_ok h1).nd
      sc := rfl
      fb := fun _ _ => rfl
      un := by have := hr.un; show (A.deeper (envOfC c.d.qual c.d.scope s.heap.objs.size (He.ga K f) cdv)).units + 65 < cLine; omega
      calm := rfl
      tk := takes_of rfl rfl rfl rfl
      blt := Md.blt
      cst := Md.cst
      fn := fun g hg => by
        obtain ⟨gn, eg⟩ := lookup_mem hg
        obtain ⟨c', fd', _, q1, q2, q3, q4⟩ := Md.df g gn eg
        refine ⟨n, He.ga K g, fd', c'.ps, gn.np, fn_lvl Md n g gn eg c' fd' q1 q3, fun ds M hn => ?_, hr, q4, q3.kp, q3.bindsN q2⟩
        cases n with
        | zero => rfl
        | succ n =>
          rw [run]
          simp only [eg]
          rw [if_neg (fun z => hn z.1)] }
    refine ⟨tXs (run P n) cv _ _ fn.body, noDoc_ok (sSs O (passes_of rfl) fn.body _ h5), ?_⟩
    have hd : ds.length = fn.np := r.length.trans hl
    rw [run] at C
    simp only [e] at C
    rw [if_pos ⟨hd, h4⟩] at C
    have C := RC.ungc S (RC.ungcX S C)
    refine ⟨ι, ds.map some ++ List.replicate (fn.ns - fn.np) none, M, S, ?_, ?_⟩
    · unfold L2.start
      rw [h2, hl]
      have go : ∀ {ds : List D} {vs : List V} (k : Nat), Reps K ι H ds vs → ERep K ι H (ds.map some ++ List.replicate k none) (vs.map some ++ List.replicate k none) := by
        intro ds
        induction ds with
        | nil =>
          intro vs k r
          cases r
          induction k with
          | zero => trivial
          | succ k ih => exact ⟨trivial, ih⟩
        | cons d ds ih =>
          intro vs k r
          obtain ⟨v, vr, rfl, r1, r2⟩ := r
          exact ⟨r1, ih k r2⟩
      exact go _ r
    · cases q : execs (run P n) fn.body (ds.map some ++ List.replicate (fn.ns - fn.np) none) M with
      | rt d M' => rw [q] at C; exact C
      | nx e' M' => rw [q] at C; exact fun ι' H' σ' g S' E' => C ι' H' .non g S' rfl
      | ex x e' M' => rw [q] at C; exact fun ι' H' σ' g S' E' => C ι' H' g S'
      | bk e' M' => rw [q] at C; exact C.elim
      | ct e' M' => rw [q] at C; exact C.elim
      | st => rw [q] at C; exact C.elim
end
end BT

/-! A law's end. -/
namespace BT
open PySem PySem.Spec PyProof.Rows L2
def faC : Str × Const → He.Fa
  | (x, .int i) => .int x i
  | (x, .str z) => .str x z
  | (x, _) => .keep x
def faOf (P : Prog) (cs : List (Str × Const)) : List He.Fa := P.map (fun p => .glo p.1) ++ bltN.map .free ++ cs.map faC
theorem saysFact {fa : List He.Fa} {fn : List He.DefD} {K : PySem.W.Frag} (c : He.SaysD fa fn K) {f : He.Fa} (h : f ∈ fa) : f.ok K = true := by
  obtain ⟨i, hi, e⟩ := List.mem_iff_getElem.mp h
  exact c.fact i (by rw [List.getElem?_eq_getElem hi, e])
theorem saysDef {fa : List He.Fa} {fn : List He.DefD} {K : PySem.W.Frag} (c : He.SaysD fa fn K) {d : He.DefD} (h : d ∈ fn) : ∃ fd, FunD K d.name d.qual d.params d.body d.scope (d.dvs K) (d.kws K) (He.fAd K d.at_) fd := by
  obtain ⟨i, hi, e⟩ := List.mem_iff_getElem.mp h
  exact c.def_ i (by rw [List.getElem?_eq_getElem hi, e])
def okC : Const → Bool
  | .int _ => true | .str _ => true
  | _ => false
theorem modIs {P : Prog} {cs : List (Str × Const)} {tb : List DC} {K : PySem.W.Frag} {h : Heap} {mg : Str → Option Value} (X : K.In h) (G : h.Ns mainGlobals mg) (c : He.SaysD (faOf P cs) (tb.map (·.d)) K) (hall : allB P cs P tb = true) (hb : ∀ c ∈ tb, BindsD c) (hcs : cs.all (fun p => okC p.2) = true) : ModIs K mg P cs tb where
  df := fun f fn e => by
    obtain ⟨dc, hm, hd⟩ := allB_at hall e
    obtain ⟨fd, F⟩ := saysDef c (List.mem_map_of_mem (f := DC.d) hm)
    have hd' := hd
    unfold dcB at hd'
    simp only [Bool.and_eq_true, decide_eq_true_eq, List.isEmpty_iff] at hd'
    obtain ⟨⟨⟨_, h6⟩, h7⟩, h8⟩ := hd'
    have e7 : dc.d.dvs K = [] := by unfold He.DefD.dvs; rw [h7]; rfl
    have e8 : dc.d.kws K = [] := by unfold He.DefD.kws; rw [h8]; rfl
    rw [e7, e8, h6] at F
    have hf : ∃ p ∈ P, p.1 = f := by
      obtain ⟨l1, l2, e1, _⟩ := List.lookup_eq_some_iff.mp e
      exact ⟨(f, fn), by rw [e1]; simp, rfl⟩
    obtain ⟨p, hp, ep⟩ := hf
    have hg := saysFact c (List.mem_append_left _ (List.mem_append_left _ (List.mem_map_of_mem (f := fun p : Str × Fn => He.Fa.glo p.1) hp)))
    rw [ep] at hg
    exact ⟨dc, fd, hm, hd, hb dc hm, F, He.glo_ok X G hg⟩
  blt := fun x hx => He.free_ok X G (saysFact c (List.mem_append_left _ (List.mem_append_right _ (List.mem_map.mpr ⟨x, hx, rfl⟩))))
  cst := fun x k e => by
    have hm : (x, k) ∈ cs := by
      obtain ⟨l1, l2, e1, _⟩ := List.lookup_eq_some_iff.mp e
      rw [e1]; simp
    have hf := saysFact c (List.mem_append_right _ (List.mem_map.mpr ⟨_, hm, rfl⟩))
    have ho := List.all_eq_true.mp hcs _ hm
    cases k with
    | int i => obtain ⟨t, q⟩ := He.int_ok X G hf; exact ⟨_, q, t, rfl⟩
    | str z => obtain ⟨t, q⟩ := He.str_ok X G hf; exact ⟨_, q, t, rfl⟩
    | _ => cases ho
/-- A LAW: its defs checked, its running told -/
theorem law_end {l : PySem.W.OpenLaw} {n k : Nat} {q : Program} {loose : List Str} {XP : (Str → Option Value) → Heap → Prop} {d : DefRec} {P : Prog} {cs : List (Str × Const)} {tb : List DC} {x : Str} {fn0 : Fn}
    (hn : l.most = some n) (hn2 : n ≤ sizeLine) (hdf : d.params.defaults = []) (hr : Room k callerA) (hall : allB P cs P tb = true) (hb : ∀ c ∈ tb, BindsD c) (hcs : cs.all (fun p => okC p.2) = true)
    (h1 : P.lookup d.name = some fn0) (h2 : ∀ c ∈ tb, c.d.at_ = (d.name, none) → c.ps = [x]) (hrun : ∀ is : List Int, is.length ≤ n → ∃ M', run P k d.name [.fl is] [] = .ok (.bl true) M') :
    PySem.W.WalkO q loose XP (fun _ h => ∃ K : PySem.W.Frag, K.In h ∧ He.SaysD (faOf P cs) (tb.map (·.d)) K) l.row.toRowW d [] (fun f vs => PySem.call f vs) := by
  refine Att.attach_call hn hdf fun w s₀ s₁ mg mb fa o pm cd doc a vs ns G Y ho hd hcd hmg hobj hints hlen hg => ?_
  obtain ⟨K, KX, c⟩ := Y
  have Md := modIs KX G.T.g c hall hb hcs
  obtain ⟨c', fd, q0, q1, q2, q3, q4⟩ := Md.df _ fn0 h1
  have e := hmg.symm.trans q4
  have e : fa = He.ga K d.name := by injection (Option.some.inj e)
  subst e
  have q1' := q1
  unfold dcB at q1'
  simp only [Bool.and_eq_true, decide_eq_true_eq] at q1'
  have hps : c'.ps = [x] := h2 c' q0 q1'.1.1.2
  have hnp : 1 = fn0.np := by have := q1'.1.1.1.1.1.2; rw [hps] at this; exact this
  have bnd : ∀ (s : Shared) (u : Value), BindsTo s fd ⟨[u], []⟩ [(x, u)] := fun s u => by
    have := FunD.bindsA (ps := c'.ps) q3 q2 s [u] (by rw [hps]; rfl)
    rw [hps] at this
    exact this
  refine law_call (sp := spOf K w (fun c => .ref (He.ga K c)) fn0.np (run P k d.name)) (CX := L2.CX l.prog w) KX G.T.g G.T.b G.T.builtins G.T.nolimit hg hobj hints (Nat.le_trans hlen hn2) hr (fun base _ _ => ?_) bnd (fun H hO hS => ⟨hnp, [], [], [.fl ns], ⟨rfl, List.nodup_nil, fun n a o e => nomatch (by simpa using e : False)⟩, ?_, ?_⟩) fun H e s' z => ?_
  · have F := fn_lvl (Pr := l.prog) (w := w) (base := base) (cv := fun c => .ref (He.ga K c)) Md k d.name fn0 h1 c' fd q1 q3
    rw [hps] at F
    exact F
  · refine ⟨.ref a, [], rfl, ⟨a, rfl, ?_⟩, rfl⟩
    rcases hS with hS | hS
    · rcases hS with hS | hS
      · rcases hO a with z | ⟨o, xs, z⟩
        · rw [z] at hS; cases hS
        · rw [z] at hS; cases hS
      · exact .inl hS
    · exact .inr hS
  · obtain ⟨M', er⟩ := hrun ns hlen
    rw [er]
    exact fun ι' H' b g S r => r
  · obtain ⟨_, _, _, _, _, _, _, _, _, _, _, _, z⟩ := z
    exact z
end BT

/-! How the small language runs, step by step. -/
namespace BT
open PySem

/-! ### texts -/
theorem ofString_inj {a b : String} : Str.ofString a = Str.ofString b ↔ a = b := by
  constructor
  · intro h
    rw [Str.ofString_eq_toList, Str.ofString_eq_toList, Str.mk.injEq] at h
    have h := congrArg Array.toList h
    have inj : ∀ {l l' : List Char}, l.map Char.toNat = l'.map Char.toNat → l = l' := by
      intro l
      induction l with
      | nil => intro l' e; cases l' with
        | nil => rfl
        | cons _ _ => cases e
      | cons c l ih =>
        intro l' e
        cases l' with
        | nil => cases e
        | cons d l' =>
          rw [List.map_cons, List.map_cons] at e
          injection e with e1 e2
          rw [ih e2]
          have : c = d := by
            apply Char.ext
            apply UInt32.toNat_inj.mp
            exact e1
          rw [this]
    exact String.toList_inj.mp (inj (by simpa using h))
  · rintro rfl; rfl
@[simp] theorem str_eq {a b : String} : (Str.ofString a = Str.ofString b) = (a = b) := propext ofString_inj

/-! ### results -/
section
variable {α β : Type} {M M' N : Sto} {a : α} {f : α → Sto → Rs β} {d : D} {c : Str} {env : Env}
@[simp] theorem bind_ok : (Rs.ok a M).bind f = f a M := rfl
@[simp] theorem bind_st : (Rs.st : Rs α).bind f = .st := rfl
@[simp] theorem bind_ex : (Rs.ex c M : Rs α).bind f = .ex c M := rfl
@[simp] theorem nox_ok : (Rs.ok a M).nox = .ok a M := rfl
@[simp] theorem of_some : Rs.of M (some a) = .ok a M := rfl
@[simp] theorem of_none : Rs.of M (none : Option α) = .st := rfl
theorem bind_bind {γ : Type} {r : Rs α} {f : α → Sto → Rs β} {g : β → Sto → Rs γ} : (r.bind f).bind g = r.bind fun a M => (f a M).bind g := by
  cases r <;> rfl
@[simp] theorem gc_same : gc M (.ok d M) = .ok d M := by unfold gc; simp only; split <;> rfl
theorem gc_drop (h : d.pure = true) (h' : M'.take M.length = M) : gc M (.ok d M') = .ok d M := by unfold gc; simp only; rw [if_pos ⟨h, h'⟩]
@[simp] theorem gc_int {i : Int} : gc M (.ok (.int i) (M ++ N)) = .ok (.int i) M := gc_drop rfl (by simp)
@[simp] theorem gc_blb {i : Bool} : gc M (.ok (.bl i) (M ++ N)) = .ok (.bl i) M := gc_drop rfl (by simp)
@[simp] theorem gc_str {i : Str} : gc M (.ok (.str i) (M ++ N)) = .ok (.str i) M := gc_drop rfl (by simp)
@[simp] theorem gc_non : gc M (.ok .non (M ++ N)) = .ok .non M := gc_drop rfl (by simp)
theorem take_app {M A B : Sto} (h : B.take A.length = A) : (M ++ B).take (M ++ A).length = M ++ A := by
  rw [List.length_append, List.take_append, List.take_of_length_le (by omega)]
  rw [show M.length + A.length - M.length = A.length by omega, h]
@[simp] theorem gc_int2 {A B : Sto} {i : Int} (h : B.take A.length = A) : gc (M ++ A) (.ok (.int i) (M ++ B)) = .ok (.int i) (M ++ A) := gc_drop rfl (take_app h)
@[simp] theorem gc_blb2 {A B : Sto} {i : Bool} (h : B.take A.length = A) : gc (M ++ A) (.ok (.bl i) (M ++ B)) = .ok (.bl i) (M ++ A) := gc_drop rfl (take_app h)
@[simp] theorem gc_str2 {A B : Sto} {i : Str} (h : B.take A.length = A) : gc (M ++ A) (.ok (.str i) (M ++ B)) = .ok (.str i) (M ++ A) := gc_drop rfl (take_app h)
theorem take_app2 {M A B : Sto} : (M ++ B).take (M ++ A).length = M ++ A ↔ B.take A.length = A := by
  refine ⟨fun h => ?_, take_app⟩
  rw [List.length_append, List.take_append, List.take_of_length_le (by omega), show M.length + A.length - M.length = A.length by omega] at h
  exact List.append_cancel_left h
@[simp] theorem gc_non2 {A B : Sto} : gc (M ++ A) (.ok .non (M ++ B)) = .ok .non (if B.take A.length = A then M ++ A else M ++ B) := by
  unfold gc
  simp only
  by_cases h : B.take A.length = A
  · rw [if_pos ⟨rfl, take_app h⟩, if_pos h]
  · rw [if_neg (fun z => h (take_app2.mp z.2)), if_neg h]
@[simp] theorem gcB_drop2 {A B : Sto} {i : Bool} (h : B.take A.length = A) : gcB (M ++ A) (.ok i (M ++ B)) = .ok i (M ++ A) := by
  unfold gcB
  simp only
  rw [if_pos (take_app h)]
theorem gc_tup {ds : List D} (h : D.bels 0 ds = true) : gc M (.ok (.tup ds) (M ++ N)) = .ok (.tup ds) M := gc_drop h (by simp)
@[simp] theorem gc_ref {k : Nat} : gc M (.ok (.ref k) M') = .ok (.ref k) M' := by
  unfold gc
  simp only
  rw [if_neg (fun z => by have := z.1; simp [D.bel] at this)]
@[simp] theorem gcX_ok : gcX M (.ok d M') = .ok d M' := rfl
@[simp] theorem gcB_same {b : Bool} : gcB M (.ok b M) = .ok b M := by unfold gcB; simp only; split <;> rfl
@[simp] theorem gcB_drop {b : Bool} : gcB M (.ok b (M ++ N)) = .ok b M := by unfold gcB; simp
@[simp] theorem thn_ok {f : α → Sto → Rt} : (Rs.ok a M).thn env f = f a M := rfl
@[simp] theorem thn_ex {f : α → Sto → Rt} : (Rs.ex c M : Rs α).thn env f = .ex c env M := rfl
@[simp] theorem newL_ok {ds : List D} : newL M ds = if fits ds.length then .ok (.ref M.length) (M ++ [.lst ds]) else .st := rfl
end

/-- by a truth -/
def brB {α : Type} (o : Option Bool) (a b : Rs α) : Rs α := match o with
  | some true => a
  | some false => b
  | none => .st
section
variable {α : Type} {a b : Rs α} {k m : Bool} {M : Sto}
@[simp] theorem br_true : brB (some true) a b = a := rfl
@[simp] theorem br_false : brB (some false) a b = b := rfl
@[simp] theorem br_none : brB none a b = .st := rfl
theorem br_some : brB (some k) a b = if k = true then a else b := by cases k <;> rfl
@[simp] theorem br_and : brB (some k) (.ok (D.bl m) M) (.ok (D.bl k) M) = .ok (D.bl (k && m)) M := by cases k <;> rfl
@[simp] theorem br_chn : brB (some k) (.ok (D.bl m) M) (.ok (D.bl false) M) = .ok (D.bl (k && m)) M := by cases k <;> rfl
@[simp] theorem br_or : brB (some k) (.ok (D.bl k) M) (.ok (D.bl m) M) = .ok (D.bl (k || m)) M := by cases k <;> rfl
end
/-! ### expressions -/
section
variable {call : Str → List D → Sto → Rs D} {env : Env} {M : Sto} {a b c d : Ex} {es : List Ex}
@[simp] theorem e_var {i : Nat} : evalE call (.var i) env M = (match env[i]? with
    | some (some d) => .ok d M
    | _ => .st) := by rw [evalE] <;> rfl
@[simp] theorem e_int {i : Int} : evalE call (.cint i) env M = .ok (.int i) M := by rw [evalE] <;> rfl
@[simp] theorem e_str {i : Str} : evalE call (.cstr i) env M = .ok (.str i) M := by rw [evalE] <;> rfl
@[simp] theorem e_bl {i : Bool} : evalE call (.cbl i) env M = .ok (.bl i) M := by rw [evalE] <;> rfl
@[simp] theorem e_non : evalE call .cnon env M = .ok .non M := by rw [evalE] <;> rfl
@[simp] theorem e_gint {x : Str} {i : Int} : evalE call (.gint x i) env M = .ok (.int i) M := by rw [evalE] <;> rfl
@[simp] theorem e_gstr {x : Str} {i : Str} : evalE call (.gstr x i) env M = .ok (.str i) M := by rw [evalE] <;> rfl
@[simp] theorem e_tup : evalE call (.tup es) env M = (evalEs call es env M).bind fun ds M' => if fits ds.length then .ok (.tup ds) M' else .st := by rw [evalE] <;> rfl
@[simp] theorem e_lst : evalE call (.lst es) env M = (evalEs call es env M).bind fun ds M' => newL M' ds := by rw [evalE] <;> rfl
@[simp] theorem e_dct0 : evalE call .dct0 env M = .ok (.ref M.length) (M ++ [.dct []]) := by rw [evalE]; rfl
@[simp] theorem e_bin {o : Op} : evalE call (.bin o a b) env M = gc M ((evalE call a env M).bind fun x M1 => (evalE call b env M1).bind fun y M2 => binD M2 o x y) := by rw [evalE] <;> rfl
@[simp] theorem e_neg : evalE call (.neg a) env M = (evalE call a env M).bind fun x M1 => (match x with
    | .int i => .ok (.int (-i)) M1
    | _ => .st) := by rw [evalE] <;> rfl
@[simp] theorem e_cmp {o : Cm} : evalE call (.cmp o a b) env M = gc M ((evalE call a env M).bind fun x M1 => (evalE call b env M1).bind fun y M2 => Rs.of M2 ((cmpD M2 o x y).map .bl)) := by rw [evalE] <;> rfl
@[simp] theorem e_chn {o o' : Cm} : evalE call (.chn o o' a b d) env M = gc M ((evalE call a env M).bind fun x M1 => (evalE call b env M1).bind fun y M2 => brB (cmpD M2 o x y) ((evalE call d env M2).bind fun z M3 => Rs.of M3 ((cmpD M3 o' y z).map .bl)) (.ok (.bl false) M2)) := by rw [evalE] <;> rfl
@[simp] theorem e_and : evalE call (.and a b) env M = gc M ((evalE call a env M).bind fun x M1 => brB (truth M1 x) (evalE call b env M1) (.ok x M1)) := by rw [evalE] <;> rfl
@[simp] theorem e_or : evalE call (.or a b) env M = gc M ((evalE call a env M).bind fun x M1 => brB (truth M1 x) (.ok x M1) (evalE call b env M1)) := by rw [evalE] <;> rfl
@[simp] theorem e_not : evalE call (.not a) env M = gc M ((evalE call a env M).bind fun x M1 => Rs.of M1 ((truth M1 x).map fun b => .bl (!b))) := by rw [evalE] <;> rfl
@[simp] theorem e_ite : evalE call (.ite c a b) env M = (evalE call c env M).bind fun x M1 => brB (truth M1 x) (evalE call a env M1) (evalE call b env M1) := by rw [evalE] <;> rfl
@[simp] theorem e_idx : evalE call (.idx a b) env M = gc M ((evalE call a env M).bind fun x M1 => (evalE call b env M1).bind fun y M2 => Rs.of M2 (idxD M2 x y)) := by rw [evalE] <;> rfl
@[simp] theorem e_slc {lo hi : Option Ex} : evalE call (.slc a lo hi) env M = (evalE call a env M).bind fun x M1 => (evalO call lo env M1).bind fun l M2 => (evalO call hi env M2).bind fun h M3 => slcD M3 x l h := by rw [evalE] <;> rfl
@[simp] theorem e_call {f : Str} : evalE call (.call f es) env M = (evalEs call es env M).bind fun ds M' => call f ds M' := by rw [evalE] <;> rfl
@[simp] theorem e_f1 {f : F1} : evalE call (.f1 f a) env M = gc M ((evalE call a env M).bind fun x M1 => f1D M1 f x) := by rw [evalE] <;> rfl
@[simp] theorem e_f2 {f : F2} : evalE call (.f2 f a b) env M = gc M ((evalE call a env M).bind fun x M1 => (evalE call b env M1).bind fun y M2 => Rs.of M2 (f2D f x y)) := by rw [evalE] <;> rfl
@[simp] theorem e_isi {t : Ty} : evalE call (.isi a t) env M = gc M ((evalE call a env M).bind fun x M1 => Rs.of M1 ((isiM M1 t x).map .bl)) := by rw [evalE] <;> rfl
@[simp] theorem e_m0 {m : M0} : evalE call (.m0 m a) env M = gc M ((evalE call a env M).bind fun x M1 => if mkOk M1 (m0K m) x then m0D M1 m x else .st) := by rw [evalE] <;> rfl
@[simp] theorem e_m1 {m : M1} : evalE call (.m1 m a b) env M = gc M ((evalE call a env M).bind fun x M1 => if mkOk M1 (m1K m) x then (evalE call b env M1).bind fun y M2 => m1D M2 m x y else .st) := by rw [evalE] <;> rfl
@[simp] theorem e_m2 {m : M2} : evalE call (.m2 m a b c) env M = gc M ((evalE call a env M).bind fun x M1 => if mkOk M1 (m2K m) x then (evalE call b env M1).bind fun y M2 => (evalE call c env M2).bind fun z M3 => m2D M3 m x y z else .st) := by rw [evalE] <;> rfl
@[simp] theorem es_nil : evalEs call [] env M = .ok [] M := by rw [evalEs] <;> rfl
@[simp] theorem es_cons : evalEs call (a :: es) env M = (evalE call a env M).bind fun d M1 => (evalEs call es env M1).bind fun ds M2 => .ok (d :: ds) M2 := by rw [evalEs] <;> rfl
@[simp] theorem eo_none : evalO call none env M = .ok none M := by rw [evalO] <;> rfl
@[simp] theorem eo_some : evalO call (some a) env M = (evalE call a env M).bind fun d M1 => (match d with
    | .int i => .ok (some i) M1
    | _ => .st) := by rw [evalO] <;> rfl
@[simp] theorem ec_none : evalC call none env M = .ok true M := by rw [evalC] <;> rfl
@[simp] theorem ec_some : evalC call (some a) env M = (evalE call a env M).bind fun d M1 => Rs.of M1 (truth M1 d) := by rw [evalC] <;> rfl
@[simp] theorem ei_seq : evalI call (.seq a) env M = (evalE call a env M).bind fun d M1 => Rs.of M1 (seqW M1 d) := by rw [evalI] <;> rfl
@[simp] theorem ei_range : evalI call (.range a) env M = (evalE call a env M).bind fun d M1 => (match d with
    | .int n => Rs.of M1 (if okR n then some ⟨upto 0 n.toNat, []⟩ else none)
    | _ => .st) := by rw [evalI] <;> rfl
@[simp] theorem ei_range2 : evalI call (.range2 a b) env M = (evalE call a env M).bind fun d M1 => (evalE call b env M1).bind fun e M2 => (match d, e with
    | .int m, .int n => Rs.of M2 (if okR m && okR n then some ⟨upto m (n - m).toNat, []⟩ else none)
    | _, _ => .st) := by rw [evalI] <;> rfl
@[simp] theorem ei_enum : evalI call (.enum a) env M = (evalE call a env M).bind fun d M1 => Rs.of M1 ((seqLT M1 d).map fun w => ⟨numb 0 w.items, w.keep⟩) := by rw [evalI] <;> rfl
@[simp] theorem ei_zip : evalI call (.zip a b) env M = (evalE call a env M).bind fun d M1 => (evalE call b env M1).bind fun e M2 => Rs.of M2 (zipW M2 d e) := by rw [evalI] <;> rfl
/-- a comprehension's one turn -/
def compB (call : Str → List D → Sto → Rs D) (elt : Ex) (t : Tg) (cond : Option Ex) (own : List (Str × Nat)) (env : Env) (d : D) (M : Sto) : Rs (Option D) := match asg t d (wipeE env (own.map (·.2))) with
      | none => .st
      | some env' => (evalC call cond env' M).bind fun b M' => if b then (evalE call elt env' M').bind fun y M'' => .ok (some y) M'' else .ok none M'
/-- a comprehension -/
theorem e_comp {elt : Ex} {t : Tg} {it : It} {cond : Option Ex} {own : List (Str × Nat)} : evalE call (.comp elt t it cond own) env M = (evalI call it env M).bind fun w M1 =>
    (compGo w.ok (compB call elt t cond own env) w.items [] M1).bind fun ds M2 => newL M2 ds := by rw [evalE] <;> rfl
theorem comp_pure {ok : Sto → Bool} {f : D → Sto → Rs (Option D)} {g : D → Option D} {M : Sto} (hok : ok M = true) : ∀ {ds : List D} (acc : List D), (∀ d ∈ ds, f d M = .ok (g d) M) → compGo ok f ds acc M = .ok (acc ++ ds.filterMap g) M
  | [], acc, _ => by rw [compGo, if_pos hok]; simp
  | d :: ds, acc, h => by
    rw [compGo, if_pos hok, h d List.mem_cons_self]
    show (match g d with
      | some y => compGo ok f ds (acc ++ [y]) M
      | none => compGo ok f ds acc M) = _
    have ih := fun acc => comp_pure (f := f) (g := g) hok (ds := ds) acc fun e he => h e (List.mem_cons_of_mem _ he)
    cases e : g d with
    | none => simp only; rw [ih, List.filterMap_cons, e]
    | some y => simp only; rw [ih, List.filterMap_cons, e]; simp
end

/-! ### statements -/
/-- one, then the others -/
def Rt.seq (r : Rt) (f : Env → Sto → Rt) : Rt := match r with
  | .nx e M => f e M
  | r => r
section
variable {call : Str → List D → Sto → Rs D} {env : Env} {M : Sto} {a b c : Ex} {t : Tg} {ss : List Sm} {s : Sm}
@[simp] theorem seq_nx {f : Env → Sto → Rt} : (Rt.nx env M).seq f = f env M := rfl
@[simp] theorem seq_rt {d : D} {f : Env → Sto → Rt} : (Rt.rt d M).seq f = .rt d M := rfl
@[simp] theorem seq_ct {f : Env → Sto → Rt} : (Rt.ct env M).seq f = .ct env M := rfl
@[simp] theorem seq_bk {f : Env → Sto → Rt} : (Rt.bk env M).seq f = .bk env M := rfl
@[simp] theorem seq_ex {x : Str} {f : Env → Sto → Rt} : (Rt.ex x env M).seq f = .ex x env M := rfl
@[simp] theorem xs_nil : execs call [] env M = .nx env M := by rw [execs] <;> rfl
@[simp] theorem xs_cons : execs call (s :: ss) env M = (exec call s env M).seq (execs call ss) := by
  rw [execs]
  cases exec call s env M <;> rfl
@[simp] theorem x_asg : exec call (.asg t a) env M = (evalE call a env M).thn env fun d M1 => (match asg t d env with
    | some env' => .nx env' M1
    | none => .st) := by rw [exec] <;> rfl
@[simp] theorem x_sub : exec call (.sub a b c) env M = (evalE call c env M).thn env fun v M1 => (evalE call a env M1).thn env fun x M2 => (evalE call b env M2).thn env fun k M3 => (match setAt M3 x k v with
    | some M4 => .nx env M4
    | none => .st) := by rw [exec] <;> rfl
@[simp] theorem x_swp {is : List Nat} {es : List Ex} : exec call (.swp is es) env M = (evalEs call es env M).thn env fun ds M1 => if ds.length = is.length then .nx (setSlots is ds env) M1 else .st := by rw [exec] <;> rfl
@[simp] theorem x_exp : exec call (.exp a) env M = (evalE call a env M).thn env fun _ M1 => .nx env M1 := by rw [exec] <;> rfl
@[simp] theorem x_ret : exec call (.ret a) env M = (evalE call a env M).thn env fun d M1 => .rt d M1 := by rw [exec] <;> rfl
@[simp] theorem x_retN : exec call .retN env M = .rt .non M := by rw [exec] <;> rfl
@[simp] theorem x_pss : exec call .pss env M = .nx env M := by rw [exec] <;> rfl
@[simp] theorem x_brk : exec call .brk env M = .bk env M := by rw [exec] <;> rfl
@[simp] theorem x_cnt : exec call .cnt env M = .ct env M := by rw [exec] <;> rfl
@[simp] theorem x_iff {p q : List Sm} : exec call (.iff c p q) env M = (gcB M ((evalE call c env M).bind fun d M1 => Rs.of M1 (truth M1 d))).thn env fun t M1 => if t then execs call p env M1 else execs call q env M1 := by rw [exec] <;> rfl
theorem x_fr {it : It} : exec call (.fr t it ss) env M = (evalI call it env M).thn env fun w M1 => forGo w.ok t (execs call ss) w.items env M1 := by rw [exec] <;> rfl
@[simp] theorem asg_nm {i : Nat} {d : D} : asg (.nm i) d env = some (env.set i (some d)) := by rw [asg]
@[simp] theorem set_nil : setSlots [] [] env = env := rfl
@[simp] theorem set_cons {i : Nat} {is : List Nat} {d : D} {ds : List D} : setSlots (i :: is) (d :: ds) env = setSlots is ds (env.set i (some d)) := rfl
@[simp] theorem asg_tup {ts : List Tg} {ds : List D} : asg (.tup ts) (.tup ds) env = asgs ts ds env := by rw [asg]
@[simp] theorem asgs_nil : asgs [] [] env = some env := by rw [asgs]
@[simp] theorem asgs_cons {ts : List Tg} {d : D} {ds : List D} : asgs (t :: ts) (d :: ds) env = (asg t d env).bind (asgs ts ds) := by rw [asgs]
end
@[simp] theorem wipe_nil {env : Env} : wipeE env [] = env := rfl
@[simp] theorem wipe_cons {env : Env} {v : Nat} {vs : List Nat} : wipeE env (v :: vs) = (wipeE env vs).set v none := rfl

/-! ### values -/
section
variable {M : Sto} {a b : D}
@[simp] theorem truth_bl {b : Bool} : truth M (.bl b) = some b := rfl
@[simp] theorem truth_int {i : Int} : truth M (.int i) = some (i != 0) := rfl
@[simp] theorem truth_non : truth M .non = some false := rfl
@[simp] theorem truth_tup {ds : List D} : truth M (.tup ds) = some (!ds.isEmpty) := rfl
@[simp] theorem eq_ii {i j : Int} : eqD M (.int i) (.int j) = some (decide (i = j)) := by simp [eqD, scalD]
@[simp] theorem eq_ss {i j : Str} : eqD M (.str i) (.str j) = some (decide (i = j)) := by simp [eqD, scalD]
@[simp] theorem eq_bb {i j : Bool} : eqD M (.bl i) (.bl j) = some (decide (i = j)) := by simp [eqD, scalD]
@[simp] theorem eq_ns {j : Str} : eqD M .non (.str j) = some false := by simp [eqD, scalD]
@[simp] theorem eq_sn {j : Str} : eqD M (.str j) .non = some false := by simp [eqD, scalD]
@[simp] theorem eq_nn : eqD M .non .non = some true := by simp [eqD, scalD]
@[simp] theorem c_eq : cmpD M .eq a b = eqD M a b := rfl
@[simp] theorem c_ne : cmpD M .ne a b = (eqD M a b).map (!·) := rfl
@[simp] theorem c_lt {i j : Int} : cmpD M .lt (.int i) (.int j) = some (decide (i < j)) := rfl
@[simp] theorem c_le {i j : Int} : cmpD M .le (.int i) (.int j) = some (decide (i ≤ j)) := rfl
@[simp] theorem c_gt {i j : Int} : cmpD M .gt (.int i) (.int j) = some (decide (j < i)) := rfl
@[simp] theorem c_ge {i j : Int} : cmpD M .ge (.int i) (.int j) = some (decide (j ≤ i)) := rfl
@[simp] theorem c_isin : cmpD M .isin a b = inD M a b := rfl
@[simp] theorem c_nin : cmpD M .nin a b = (inD M a b).map (!·) := rfl
@[simp] theorem c_is_bb {i j : Bool} : cmpD M .is_ (.bl i) (.bl j) = some (decide (i = j)) := rfl
@[simp] theorem c_isn_bb {i j : Bool} : cmpD M .isn (.bl i) (.bl j) = some (!decide (i = j)) := rfl
@[simp] theorem c_is_n : cmpD M .is_ a .non = some (decide (a = .non)) := by cases a <;> rfl
@[simp] theorem c_isn_n : cmpD M .isn a .non = some (!decide (a = .non)) := by cases a <;> rfl
@[simp] theorem idx_tup {ds : List D} {i : Int} : idxD M (.tup ds) (.int i) = L2.atI ds i := rfl
@[simp] theorem idx_fl {is : List Int} {i : Int} : idxD M (.fl is) (.int i) = (L2.atI is i).map .int := rfl
@[simp] theorem b_add {i j : Int} : binD M .add (.int i) (.int j) = .ok (.int (i + j)) M := rfl
@[simp] theorem b_sub {i j : Int} : binD M .sub (.int i) (.int j) = .ok (.int (i - j)) M := rfl
@[simp] theorem b_mul {i j : Int} : binD M .mul (.int i) (.int j) = if (-(2 ^ 64) < i ∧ i < 2 ^ 64) ∨ (-(2 ^ 64) < j ∧ j < 2 ^ 64) then .ok (.int (i * j)) M else .st := rfl
@[simp] theorem b_mod {i j : Int} : binD M .mod (.int i) (.int j) = if j ≠ 0 then .ok (.int (i.fmod j)) M else .st := rfl
@[simp] theorem b_addtt {x y : List D} : binD M .add (.tup x) (.tup y) = if fits (x.length + y.length) then .ok (.tup (x ++ y)) M else .st := rfl
@[simp] theorem len_tup {ds : List D} : f1D M .len (.tup ds) = .ok (.int ds.length) M := rfl
@[simp] theorem len_fl {ds : List Int} : f1D M .len (.fl ds) = .ok (.int ds.length) M := rfl
@[simp] theorem int_bl {b : Bool} : f1D M .int (.bl b) = .ok (.int (if b then 1 else 0)) M := rfl
@[simp] theorem int_int {i : Int} : f1D M .int (.int i) = .ok (.int i) M := rfl
theorem fits_of {n : Nat} (h : n ≤ 16777216) : fits n = true := by unfold fits lim; rw [sizeLine_eq]; exact decide_eq_true h
@[simp] theorem fits_0 : fits 0 = true := fits_of (by decide)
@[simp] theorem fits_1 : fits 1 = true := fits_of (by decide)
@[simp] theorem fits_2 : fits 2 = true := fits_of (by decide)
@[simp] theorem fits_3 : fits 3 = true := fits_of (by decide)
@[simp] theorem fits_4 : fits 4 = true := fits_of (by decide)
@[simp] theorem fits_5 : fits 5 = true := fits_of (by decide)
@[simp] theorem fits_6 : fits 6 = true := fits_of (by decide)
@[simp] theorem fits_7 : fits 7 = true := fits_of (by decide)
@[simp] theorem fits_8 : fits 8 = true := fits_of (by decide)
@[simp] theorem fits_9 : fits 9 = true := fits_of (by decide)
@[simp] theorem fits_10 : fits 10 = true := fits_of (by decide)
@[simp] theorem fits_11 : fits 11 = true := fits_of (by decide)
@[simp] theorem fits_12 : fits 12 = true := fits_of (by decide)
@[simp] theorem fits_13 : fits 13 = true := fits_of (by decide)
@[simp] theorem fits_14 : fits 14 = true := fits_of (by decide)
@[simp] theorem fits_15 : fits 15 = true := fits_of (by decide)
@[simp] theorem fits_16 : fits 16 = true := fits_of (by decide)
end

theorem pick {xs : List Str} {i : Int} (h : 0 ≤ i ∧ i < xs.length) : ∃ x ∈ xs, L2.atI (xs.map D.str) i = some (D.str x) := by
  obtain ⟨j, rfl⟩ := Int.eq_ofNat_of_zero_le h.1
  have hj : j < xs.length := by omega
  refine ⟨xs[j], List.getElem_mem hj, ?_⟩
  simp [L2.atI, L2.ixN, hj]
@[simp] theorem at_0 {α : Type} {x : α} {xs : List α} : L2.atI (x :: xs) 0 = some x := by simp [L2.atI, L2.ixN]
@[simp] theorem at_1 {α : Type} {x y : α} {xs : List α} : L2.atI (x :: y :: xs) 1 = some y := by
  have : (1 : Int) < (xs.length : Int) + 1 + 1 := by omega
  simp [L2.atI, L2.ixN, this]
@[simp] theorem at_2 {α : Type} {x y z : α} {xs : List α} : L2.atI (x :: y :: z :: xs) 2 = some z := by
  have : (2 : Int) < (xs.length : Int) + 1 + 1 + 1 := by omega
  simp [L2.atI, L2.ixN, this]
/-! ### defs -/
/-- a def's end -/
def fin : Rt → Rs D
  | .rt d M => .ok d M
  | .nx _ M => .ok .non M
  | .ex c _ M => .ex c M
  | _ => .st
theorem run_at {P : Prog} {f : Str} {fn : Fn} {args : List D} {M : Sto} {n : Nat} (h : P.lookup f = some fn) (hl : args.length = fn.np) (hs : fn.np ≤ fn.ns) :
    run P (n + 1) f args M = gcX M (gc M (fin (execs (run P n) fn.body (args.map some ++ List.replicate (fn.ns - fn.np) none) M))) := by
  rw [run]
  simp only [h]
  rw [if_pos ⟨hl, hs⟩]
  congr 2
/-- a def that tells a value -/
theorem run_rt {P : Prog} {f : Str} {fn : Fn} {args : List D} {M M' : Sto} {n : Nat} {d : D} (h : P.lookup f = some fn) (hl : args.length = fn.np) (hs : fn.np ≤ fn.ns)
    (hb : execs (run P n) fn.body (args.map some ++ List.replicate (fn.ns - fn.np) none) M = .rt d M') (hp : d.pure = true) (hM : M'.take M.length = M) : run P (n + 1) f args M = .ok d M := by
  rw [run_at h hl hs, hb]
  show gcX M (gc M (.ok d M')) = _
  rw [gc_drop hp hM]
  rfl
end BT

/-! Comprehensions, books. -/
namespace BT
open PySem
theorem comp_map {α : Type} {ok : Sto → Bool} {f : D → Sto → Rs (Option D)} {en : α → D} {g : α → Option D} {M : Sto} {xs : List α} (acc : List D) (hok : ok M = true) (h : ∀ x ∈ xs, f (en x) M = .ok (g x) M) :
    compGo ok f (xs.map en) acc M = .ok (acc ++ xs.filterMap g) M := by
  induction xs generalizing acc with
  | nil => rw [List.map_nil, compGo, if_pos hok]; simp
  | cons x xs ih =>
    rw [List.map_cons, compGo, if_pos hok, h x List.mem_cons_self]
    have ih := fun acc => ih acc fun y hy => h y (List.mem_cons_of_mem _ hy)
    show (match g x with
      | some y => compGo ok f (xs.map en) (acc ++ [y]) M
      | none => compGo ok f (xs.map en) acc M) = _
    cases e : g x with
    | none => simp only; rw [ih, List.filterMap_cons, e]
    | some y => simp only; rw [ih, List.filterMap_cons, e]; simp
/-- a comprehension whose turns leave nothing behind -/
theorem comp_val {call : Str → List D → Sto → Rs D} {elt : Ex} {t : Tg} {it : It} {cond : Option Ex} {own : List (Str × Nat)} {env : Env} {M M1 : Sto} {α : Type} {en : α → D} {xs : List α} {kp : List (Nat × MO)} (g : α → Option D) (hi : evalI call it env M = .ok ⟨xs.map en, kp⟩ M1) (hk : (Wk.mk (xs.map en) kp).ok M1 = true)
    (h : ∀ x ∈ xs, compB call elt t cond own env (en x) M1 = .ok (g x) M1) : evalE call (.comp elt t it cond own) env M = newL M1 (xs.filterMap g) := by
  rw [e_comp, hi]
  show (compGo _ _ (xs.map en) [] M1).bind _ = _
  rw [comp_map [] hk h]
  rfl
@[simp] theorem ok_nil {xs : List D} {M : Sto} : (Wk.mk xs []).ok M = true := rfl
@[simp] theorem fm_none {α β : Type} (xs : List α) : xs.filterMap (fun _ => (none : Option β)) = [] := by
  induction xs with
  | nil => rfl
  | cons x xs ih => rw [List.filterMap_cons]; exact ih
theorem filterMap_ite {α β : Type} {p : α → Prop} [DecidablePred p] {f : α → β} (xs : List α) : xs.filterMap (fun x => if p x then some (f x) else none) = (xs.filter fun x => decide (p x)).map f := by
  induction xs with
  | nil => rfl
  | cons x xs ih =>
    rw [List.filterMap_cons, List.filter_cons]
    by_cases h : p x
    · simp [h, ih]
    · simp [h, ih]
/-- a loop that keeps something -/
theorem for_inv {ok : Sto → Bool} {t : Tg} {b : Env → Sto → Rt} (I : Env → Sto → Prop) (hk : ∀ env M, I env M → ok M = true) : ∀ {ds : List D} {env : Env} {M : Sto}, I env M →
    (∀ d ∈ ds, ∀ env M, I env M → ∃ env1, asg t d env = some env1 ∧ ∃ env2 M2, (b env1 M = .nx env2 M2 ∨ b env1 M = .ct env2 M2) ∧ I env2 M2) → ∃ env' M', forGo ok t b ds env M = .nx env' M' ∧ I env' M'
  | [], env, M, h0, _ => ⟨env, M, by rw [forGo, if_pos (hk env M h0)], h0⟩
  | d :: ds, env, M, h0, hs => by
    obtain ⟨env1, e1, env2, M2, e2, h2⟩ := hs d List.mem_cons_self env M h0
    obtain ⟨env', M', e3, h3⟩ := for_inv I hk h2 fun d hd => hs d (List.mem_cons_of_mem _ hd)
    refine ⟨env', M', ?_, h3⟩
    rw [forGo, if_pos (hk env M h0), e1]
    rcases e2 with e2 | e2
    · simp only [e2]; exact e3
    · simp only [e2]; exact e3
/-! texts one behind the other -/
def encS (s : List Str) : D := .tup (s.map D.str)
theorem in_strs {M : Sto} {a : Str} {s : List Str} : inD M (.str a) (encS s) = some (decide (a ∈ s)) := by
  show inSeq M (.str a) (s.map D.str) = _
  have h : ∀ s : List Str, (s.map D.str).all flatD = true := by
    intro s; induction s with
    | nil => rfl
    | cons x s ih => rw [List.map_cons, List.all_cons, ih]; rfl
  have k : ∀ s : List Str, ((s.map D.str).any fun z => flatEq z (.str a)) = decide (a ∈ s) := by
    intro s; induction s with
    | nil => rfl
    | cons x s ih =>
      rw [List.map_cons, List.any_cons, ih]
      simp only [flatEq, List.mem_cons]
      by_cases e : a = x
      · subst e; simp
      · have : (x == a) = false := by simp; exact fun z => e z.symm
        simp [this, e]
  unfold inSeq
  rw [if_pos (by rw [h]; rfl), k]
theorem bels_map {α : Type} {f : α → D} (h : ∀ a, (f a).pure = true) : ∀ xs : List α, D.bels 0 (xs.map f) = true
  | [] => rfl
  | x :: xs => by
    rw [List.map_cons, D.bels, bels_map h xs]
    have := h x
    simp [this]
@[simp] theorem encS_pure (s : List Str) : (encS s).pure = true := bels_map (fun _ => rfl) s
@[simp] theorem gc_strs {M N : Sto} {s : List Str} : gc M (.ok (.tup (s.map D.str)) (M ++ N)) = .ok (encS s) M := gc_drop (encS_pure s) (by simp)
/-! a book: pairs of a name and a number -/
abbrev Book := List (Str × Int)
def encP (p : Str × Int) : D := .tup [.str p.1, .int p.2]
def encB (b : Book) : D := .tup (b.map encP)
def kvB (b : Book) : List (D × D) := b.map fun p => (.str p.1, .int p.2)
def putB (b : Book) (x : Str) (v : Int) : Book := if b.any (fun p => decide (p.1 = x)) then b.map (fun p => if p.1 = x then (p.1, v) else p) else b ++ [(x, v)]
theorem kvs_book : ∀ b : Book, kvs? (b.map encP) = some (kvB b)
  | [] => rfl
  | p :: b => by
    rw [List.map_cons]
    show (kvs? (b.map encP)).map _ = _
    rw [kvs_book b]; rfl
@[simp] theorem fits_book {b : Book} {x : Str} : kvFits (kvB b) (.str x) = true := by
  unfold kvFits kvB
  rw [List.all_map]
  simp [keyOk, D.isTup]
@[simp] theorem put_book {b : Book} {x : Str} {v : Int} : kvPut (kvB b) (.str x) (.int v) = kvB (putB b x v) := by
  unfold kvPut putB kvB
  rw [List.any_map]
  have e : ((fun p : D × D => decide (p.1 = .str x)) ∘ fun p : Str × Int => (D.str p.1, D.int p.2)) = fun p => decide (p.1 = x) := by
    funext p; simp
  rw [e]
  split
  · rw [List.map_map, List.map_map]
    refine List.map_congr_left fun p _ => ?_
    simp only [Function.comp, D.str.injEq]
    split <;> rfl
  · rw [List.map_append]; rfl
@[simp] theorem at_book {b : Book} {x : Str} : kvAt (kvB b) (.str x) = (b.lookup x).map .int := by
  unfold kvAt kvB
  induction b with
  | nil => rfl
  | cons p b ih =>
    rw [List.map_cons, List.find?_cons, List.lookup_cons]
    by_cases h : p.1 = x
    · subst h; simp
    · have h2 : (x == p.1) = false := by simp; exact fun z => h z.symm
      have h3 : decide (D.str p.1 = D.str x) = false := by simp [h]
      rw [h2]
      simp only [h3]
      exact ih
theorem putAll_book : ∀ (b a : Book), putAll (kvB a) (kvB b) = some (kvB (b.foldl (fun a p => putB a p.1 p.2) a))
  | [], a => rfl
  | p :: b, a => by
    have : kvB (p :: b) = (.str p.1, .int p.2) :: kvB b := rfl
    rw [this, putAll, if_pos fits_book, put_book, putAll_book b]
    rfl
theorem fold_book {b : Book} : ∀ {a : Book}, ((a ++ b).map (·.1)).Nodup → b.foldl (fun a p => putB a p.1 p.2) a = a ++ b := by
  induction b with
  | nil => intro a _; simp
  | cons p b ih =>
    intro a h
    have hp : a.any (fun q => decide (q.1 = p.1)) = false := by
      rw [List.any_eq_false]
      intro q hq z
      have z : q.1 = p.1 := of_decide_eq_true z
      rw [List.map_append, List.nodup_append] at h
      exact h.2.2 q.1 (List.mem_map_of_mem hq) p.1 (by simp) z
    rw [List.foldl_cons]
    have e : putB a p.1 p.2 = a ++ [p] := by unfold putB; rw [hp]; rfl
    rw [e, ih (by simpa using h)]
    simp
/-- dict of a book -/
theorem dict_book {b : Book} {M : Sto} (hl : b.length ≤ 1000) : f1D M .dict (encB b) = .ok (.ref M.length) (M ++ [.dct (kvB (b.foldl (fun a p => putB a p.1 p.2) []))]) := by
  have h1 : (itemsOf M (encB b)).bind kvs? = some (kvB b) := by
    show kvs? (b.map encP) = _
    exact kvs_book b
  have h2 : fits (kvB b).length = true := fits_of (by unfold kvB; rw [List.length_map]; omega)
  show (match (encB b).notFl, (itemsOf M (encB b)).bind kvs? with
    | true, some kvs => if fits kvs.length then (match putAll [] kvs with
      | some m => new M (.dct m)
      | none => .st) else .st
    | _, _ => .st) = _
  rw [h1]
  show (if fits (kvB b).length then (match putAll (kvB []) (kvB b) with
      | some m => new M (.dct m)
      | none => .st) else .st) = _
  rw [if_pos h2, putAll_book]
  rfl
theorem dict_bookN {b : Book} {M : Sto} (hl : b.length ≤ 1000) (hn : (b.map (·.1)).Nodup) : f1D M .dict (encB b) = .ok (.ref M.length) (M ++ [.dct (kvB b)]) := by
  rw [dict_book hl, fold_book (by simpa using hn)]; rfl
@[simp] theorem encB_pure (b : Book) : (encB b).pure = true := bels_map (fun p => rfl) b
@[simp] theorem seq_tup {M : Sto} {ds : List D} : seqW M (.tup ds) = some ⟨ds, []⟩ := rfl
@[simp] theorem seq_encB {M : Sto} {b : Book} : seqW M (encB b) = some ⟨b.map encP, []⟩ := rfl
/-! the store behind -/
section
variable {M N : Sto} {o : MO} {i : Nat}
@[simp] theorem at_end : (M ++ o :: N)[M.length]? = some o := by simp
@[simp high] theorem at_endk {M N : Sto} {k : Nat} : (M ++ N)[M.length + k]? = N[k]? := by
  rw [List.getElem?_append_right (by omega)]
  congr 1; omega
@[simp high] theorem at_end11 {M N : Sto} : (M ++ N)[M.length + 1 + 1]? = N[2]? := at_endk (k := 2)
@[simp high] theorem at_end111 {M N : Sto} : (M ++ N)[M.length + 1 + 1 + 1]? = N[3]? := at_endk (k := 3)
@[simp] theorem set_end {u : MO} : (M ++ o :: N).set M.length u = M ++ u :: N := by simp
end
@[simp] theorem m_append {M : Sto} {k : Nat} {d : D} : m1D M .append (.ref k) d = (match M[k]? with
    | some (.lst ds) => if ds.length < lim then .ok .non (M.set k (.lst (ds ++ [d]))) else .st
    | _ => .st) := rfl
@[simp] theorem m_get {M : Sto} {k : Nat} {key d : D} : m2D M .get (.ref k) key d = (match M[k]? with
    | some (.dct kvs) => if kvFits kvs key then .ok ((kvAt kvs key).getD d) M else .st
    | some (.dlk kvs) => if kvFits kvs key then .ok ((kvAt kvs key).getD d) M else .st
    | _ => .st) := rfl
@[simp] theorem mk_l {M : Sto} {k : Nat} : mkOk M .l (.ref k) = (match M[k]? with
    | some (.lst _) => true
    | _ => false) := rfl
@[simp] theorem mk_d {M : Sto} {k : Nat} : mkOk M .d (.ref k) = (match M[k]? with
    | some (.dct _) => true
    | some (.dlk _) => true
    | _ => false) := rfl
@[simp] theorem b_addrr {M : Sto} {x y : Nat} : binD M .add (.ref x) (.ref y) = (match M[x]?, M[y]? with
    | some (.lst a), some (.lst b) => newL M (a ++ b)
    | _, _ => .st) := rfl
@[simp] theorem b_mulr {M : Sto} {x : Nat} {k : Int} : binD M .mul (.ref x) (.int k) = (match M[x]? with
    | some (.lst a) => if -(2 ^ 63) ≤ k ∧ k < 2 ^ 63 ∧ fits (a.length * k.toNat) then newL M (rep k.toNat a) else .st
    | _ => .st) := rfl
@[simp] theorem idx_ref {M : Sto} {k : Nat} {b : D} : idxD M (.ref k) b = (match M[k]? with
    | some (.dct kvs) => if kvFits kvs b then kvAt kvs b else none
    | some (.dlk kvs) => if kvFits kvs b then kvAt kvs b else none
    | some (.lst ds) => (match b with
      | .int i => L2.atI ds i
      | _ => none)
    | _ => none) := rfl
theorem lt_lim {n : Nat} (h : n < 16777216) : n < lim := by unfold lim; rw [sizeLine_eq]; exact h
@[simp] theorem lt_lim_0 : 0 < lim := lt_lim (by decide)
@[simp] theorem lt_lim_1 : 1 < lim := lt_lim (by decide)
@[simp] theorem lt_lim_2 : 2 < lim := lt_lim (by decide)
@[simp] theorem lt_lim_3 : 3 < lim := lt_lim (by decide)
@[simp] theorem lt_lim_4 : 4 < lim := lt_lim (by decide)
@[simp] theorem lt_lim_5 : 5 < lim := lt_lim (by decide)
@[simp] theorem lt_lim_6 : 6 < lim := lt_lim (by decide)
@[simp] theorem lt_lim_7 : 7 < lim := lt_lim (by decide)
@[simp] theorem lt_lim_8 : 8 < lim := lt_lim (by decide)
@[simp] theorem len_ref {M : Sto} {k : Nat} : f1D M .len (.ref k) = (match M[k]? with
    | some (.lst ds) => .ok (.int ds.length) M
    | some (.dct kvs) => .ok (.int kvs.length) M
    | some (.dlk kvs) => .ok (.int kvs.length) M
    | _ => .st) := rfl
@[simp] theorem tuple_ref {M : Sto} {k : Nat} : f1D M .tuple (.ref k) = (match itemsOf M (.ref k) with
    | some ds => if fits ds.length then .ok (.tup ds) M else .st
    | none => .st) := rfl
@[simp] theorem tuple_tup {M : Sto} {ds : List D} : f1D M .tuple (.tup ds) = if fits ds.length then .ok (.tup ds) M else .st := rfl
@[simp] theorem items_ref {M : Sto} {k : Nat} : itemsOf M (.ref k) = (match M[k]? with
    | some (.lst ds) => some ds
    | _ => none) := rfl
/-- a list of whole numbers is none -/
theorem eq_nil {M : Sto} {j k : Nat} {is : List Int} (h1 : M[j]? = some (.lst (is.map .int))) (h2 : M[k]? = some (.lst [])) : eqD M (.ref j) (.ref k) = some is.isEmpty := by
  have pd : ∀ {g : Nat → Option PyData} (is : List Int), pdDs g (is.map .int) = some (is.map PyData.int) := by
    intro g is
    induction is with
    | nil => rfl
    | cons i is ih => rw [List.map_cons, pdDs, pdD, ih]; rfl
  have e1 : pdv M (.ref j) = some (.list (is.map PyData.int)) := by
    unfold pdv
    rw [pdD, pdg, h1]
    simp only
    rw [pd]; rfl
  have e2 : pdv M (.ref k) = some (.list []) := by
    unfold pdv
    rw [pdD, pdg, h2]
    rfl
  have s1 : SeqAt.shaped (.list (is.map PyData.int)) = true := by
    have c : ∀ is : List Int, PyData.canLayAll0 (is.map PyData.int) = true ∧ PyData.depthAll (is.map PyData.int) = 0 := by
      intro is
      induction is with
      | nil => exact ⟨rfl, rfl⟩
      | cons i is ih =>
        rw [List.map_cons, PyData.canLayAll0, PyData.depthAll]
        exact ⟨by rw [ih.1]; rfl, by rw [ih.2]; rfl⟩
    unfold SeqAt.shaped
    rw [PyData.canLay0, PyData.depth, (c is).1, (c is).2]
    rfl
  unfold eqD
  rw [if_neg (by simp [scalD]), e1, e2]
  simp only [s1]
  rw [if_pos (by decide)]
  cases is <;> rfl
end BT

/-! Defs that several laws share. -/
namespace BT
open PySem
def cf_done : Fn := ⟨2, 6, [
    .asg (.nm 2) (.f1 .dict (.var 0)),
    .fr (.tup [.nm 3, .nm 4, .nm 5]) (.seq (.var 1)) [.iff (.cmp .eq (.var 3) (.cstr ("add" : Str))) [.asg (.nm 5) (.f2 .max (.cint 0) (.f2 .min (.gint ("MOST" : Str) (3)) (.bin .add (.m2 .get (.var 2) (.var 4) (.cint 0)) (.var 5))))] [], .sub (.var 2) (.var 4) (.var 5)],
    .ret (.f1 .tuple (.comp (.tup [.var 4, .idx (.var 2) (.var 4)]) (.nm 4) (.seq (.f1 .sorted (.var 2))) (some (.cmp .gt (.idx (.var 2) (.var 4)) (.cint 0))) [(("name" : Str), 4)]))]⟩
def cf__law_cell : Fn := ⟨2, 2, [
    .iff (.cmp .lt (.var 1) (.f1 .len (.var 0))) [.ret (.idx (.var 0) (.var 1))] [],
    .ret (.cint 0)]⟩
def cf__law_mix : Fn := ⟨3, 4, [
    .asg (.nm 3) (.bin .mod (.bin .mul (.var 0) (.cint 48271)) (.var 1)),
    .ret (.bin .mod (.bin .mod (.bin .mul (.var 3) (.bin .add (.var 3) (.cint 7))) (.var 1)) (.var 2))]⟩
def cf__law_same : Fn := ⟨2, 4, [
    .iff (.isi (.var 1) .tuple) [.iff (.or (.not (.isi (.var 0) .tuple)) (.cmp .ne (.f1 .len (.var 0)) (.f1 .len (.var 1)))) [.ret (.cbl false)] [], .ret (.f1 .all (.comp (.call ("_law_same" : Str) [.var 2, .var 3]) (.tup [.nm 2, .nm 3]) (.zip (.var 0) (.var 1)) none [(("_law_one" : Str), 2), (("_law_other" : Str), 3)]))] [],
    .iff (.cmp .is_ (.var 1) .cnon) [.ret (.cmp .is_ (.var 0) .cnon)] [],
    .iff (.or (.isi (.var 1) .bool) (.isi (.var 0) .bool)) [.ret (.and (.isi (.var 1) .bool) (.and (.isi (.var 0) .bool) (.cmp .eq (.var 0) (.var 1))))] [],
    .ret (.and (.isi (.var 0) .intstr) (.cmp .eq (.var 0) (.var 1)))]⟩
def cf__law_test : Fn := ⟨2, 3, [
    .asg (.nm 2) (.call ("_law_mix" : Str) [.var 0, .cint 9973, .cint 7]),
    .iff (.or (.cmp .lt (.var 2) (.cint 3)) (.cmp .lt (.var 1) (.cint 2))) [.iff (.cmp .eq (.bin .mod (.var 2) (.cint 2)) (.cint 0)) [.ret (.tup [.cstr ("has" : Str), .idx (.tup [.cstr ("x" : Str), .cstr ("y" : Str)]) (.call ("_law_mix" : Str) [.var 0, .cint 9967, .cint 2]), .bin .add (.cint 1) (.call ("_law_mix" : Str) [.var 0, .cint 9949, .cint 3])])] [], .ret (.tup [.cstr ("been" : Str), .idx (.tup [.cstr ("a" : Str), .cstr ("b" : Str), .cstr ("c" : Str), .cstr ("d" : Str)]) (.call ("_law_mix" : Str) [.var 0, .cint 9941, .cint 4])])] [],
    .iff (.cmp .eq (.var 2) (.cint 3)) [.ret (.tup [.cstr ("not" : Str), .call ("_law_test" : Str) [.bin .add (.var 0) (.cint 1), .bin .sub (.var 1) (.cint 1)]])] [],
    .ret (.tup [.idx (.tup [.cstr ("and" : Str), .cstr ("or" : Str)]) (.bin .mod (.var 2) (.cint 2)), .call ("_law_test" : Str) [.bin .add (.var 0) (.cint 2), .bin .sub (.var 1) (.cint 1)], .call ("_law_test" : Str) [.bin .add (.var 0) (.cint 5), .bin .sub (.var 1) (.cint 1)]])]⟩
def cf__law_places_of : Fn := ⟨1, 3, [
    .iff (.cmp .isin (.idx (.var 0) (.cint 0)) (.tup [.cstr ("has" : Str), .cstr ("been" : Str)])) [.ret (.ite (.cmp .eq (.idx (.var 0) (.cint 0)) (.cstr ("been" : Str))) (.lst [.idx (.var 0) (.cint 1)]) (.lst []))] [],
    .asg (.nm 1) (.lst []),
    .fr (.nm 2) (.seq (.slc (.var 0) (some (.cint 1)) none)) [.asg (.nm 1) (.bin .add (.var 1) (.call ("_law_places_of" : Str) [.var 2]))],
    .ret (.var 1)]⟩
def cf__law_deeds : Fn := ⟨1, 5, [
    .asg (.nm 1) (.lst []),
    .fr (.nm 2) (.range (.call ("_law_mix" : Str) [.var 0, .cint 9931, .cint 3])) [.asg (.nm 3) (.bin .add (.var 0) (.bin .mul (.cint 7) (.var 2))), .asg (.nm 4) (.idx (.tup [.cstr ("x" : Str), .cstr ("y" : Str)]) (.call ("_law_mix" : Str) [.var 3, .cint 9929, .cint 2])), .iff (.cmp .eq (.call ("_law_mix" : Str) [.var 3, .cint 9923, .cint 3]) (.cint 0)) [.exp (.m1 .append (.var 1) (.tup [.cstr ("set" : Str), .var 4, .call ("_law_mix" : Str) [.var 3, .cint 9907, .cint 4]]))] [.exp (.m1 .append (.var 1) (.tup [.cstr ("add" : Str), .var 4, .bin .sub (.call ("_law_mix" : Str) [.var 3, .cint 9901, .cint 5]) (.cint 2)]))]],
    .ret (.f1 .tuple (.var 1))]⟩
def cf__law_book : Fn := ⟨1, 4, [
    .asg (.nm 1) (.lst []),
    .fr (.nm 2) (.seq (.tup [.cstr ("x" : Str), .cstr ("y" : Str)])) [.asg (.nm 3) (.call ("_law_mix" : Str) [.bin .add (.bin .add (.var 0) (.bin .mul (.f1 .len (.var 1)) (.cint 3))) (.f1 .int (.cmp .eq (.var 2) (.cstr ("y" : Str)))), .cint 9887, .cint 4]), .iff (.cmp .gt (.var 3) (.cint 0)) [.exp (.m1 .append (.var 1) (.tup [.var 2, .var 3]))] []],
    .ret (.f1 .tuple (.var 1))]⟩
def cf__law_holds : Fn := ⟨3, 7, [
    .iff (.cmp .eq (.idx (.var 0) (.cint 0)) (.cstr ("has" : Str))) [.ret (.cmp .ne (.comp (.cint 1) (.tup [.nm 5, .nm 6]) (.seq (.var 1)) (some (.and (.cmp .eq (.var 5) (.idx (.var 0) (.cint 1))) (.cmp .ge (.var 6) (.idx (.var 0) (.cint 2))))) [(("_law_name" : Str), 5), (("_law_number" : Str), 6)]) (.lst []))] [],
    .iff (.cmp .eq (.idx (.var 0) (.cint 0)) (.cstr ("been" : Str))) [.ret (.cmp .isin (.idx (.var 0) (.cint 1)) (.var 2))] [],
    .asg (.nm 3) (.comp (.call ("_law_holds" : Str) [.var 4, .var 1, .var 2]) (.nm 4) (.seq (.slc (.var 0) (some (.cint 1)) none)) none [(("_law_part" : Str), 4)]),
    .iff (.cmp .eq (.idx (.var 0) (.cint 0)) (.cstr ("not" : Str))) [.ret (.not (.idx (.var 3) (.cint 0)))] [],
    .ret (.idx (.lst [.cbl false, .cbl true]) (.f1 .int (.cmp .gt (.m1 .count (.var 3) (.cbl true)) (.f1 .int (.cmp .eq (.idx (.var 0) (.cint 0)) (.cstr ("and" : Str)))))))]⟩
def cf__law_done : Fn := ⟨2, 7, [
    .fr (.tup [.nm 2, .nm 3, .nm 4]) (.seq (.var 1)) [.asg (.nm 5) (.idx (.bin .add (.comp (.idx (.var 6) (.cint 1)) (.nm 6) (.seq (.var 0)) (some (.cmp .eq (.idx (.var 6) (.cint 0)) (.var 3))) [(("_law_one" : Str), 6)]) (.lst [.cint 0])) (.cint 0)), .iff (.cmp .eq (.var 2) (.cstr ("add" : Str))) [.asg (.nm 4) (.idx (.f1 .sorted (.lst [.cint 0, .bin .add (.var 5) (.var 4), .cint 3])) (.cint 1))] [], .asg (.nm 0) (.bin .add (.comp (.var 6) (.nm 6) (.seq (.var 0)) (some (.cmp .ne (.idx (.var 6) (.cint 0)) (.var 3))) [(("_law_one" : Str), 6)]) (.bin .mul (.lst [.tup [.var 3, .var 4]]) (.f1 .int (.cmp .gt (.var 4) (.cint 0)))))],
    .ret (.f1 .tuple (.f1 .sorted (.var 0)))]⟩
def cf_is_name : Fn := ⟨1, 2, [
    .ret (.and (.isi (.var 0) .str) (.and (.chn .le .le (.cint 1) (.f1 .len (.var 0)) (.cint 5)) (.f1 .all (.comp (.cmp .isin (.var 1) (.gstr ("LETTERS" : Str) ("abcdefghijklmnopqrstuvwxyz" : Str))) (.nm 1) (.seq (.var 0)) none [(("sign" : Str), 1)]))))]⟩
def cf_is_number : Fn := ⟨2, 2, [
    .ret (.and (.isi (.var 0) .int) (.and (.not (.isi (.var 0) .bool)) (.chn .le .le (.var 1) (.var 0) (.gint ("MOST" : Str) (3)))))]⟩
def cf_is_test_in : Fn := ⟨2, 3, [
    .iff (.or (.not (.isi (.var 0) .tuple)) (.or (.cmp .lt (.f1 .len (.var 0)) (.cint 2)) (.or (.not (.isi (.idx (.var 0) (.cint 0)) .str)) (.cmp .eq (.var 1) (.cint 0))))) [.ret (.cbl false)] [],
    .iff (.cmp .eq (.idx (.var 0) (.cint 0)) (.cstr ("has" : Str))) [.ret (.and (.cmp .eq (.f1 .len (.var 0)) (.cint 3)) (.and (.call ("is_name" : Str) [.idx (.var 0) (.cint 1)]) (.call ("is_number" : Str) [.idx (.var 0) (.cint 2), .cint 1])))] [],
    .iff (.cmp .eq (.idx (.var 0) (.cint 0)) (.cstr ("been" : Str))) [.ret (.and (.cmp .eq (.f1 .len (.var 0)) (.cint 2)) (.call ("is_name" : Str) [.idx (.var 0) (.cint 1)]))] [],
    .iff (.or (.cmp .nin (.idx (.var 0) (.cint 0)) (.tup [.cstr ("not" : Str), .cstr ("and" : Str), .cstr ("or" : Str)])) (.cmp .ne (.f1 .len (.var 0)) (.bin .sub (.cint 3) (.f1 .int (.cmp .eq (.idx (.var 0) (.cint 0)) (.cstr ("not" : Str))))))) [.ret (.cbl false)] [],
    .ret (.f1 .all (.comp (.call ("is_test_in" : Str) [.var 2, .bin .sub (.var 1) (.cint 1)]) (.nm 2) (.seq (.slc (.var 0) (some (.cint 1)) none)) none [(("part" : Str), 2)]))]⟩
def cf_is_test : Fn := ⟨1, 1, [
    .ret (.call ("is_test_in" : Str) [.var 0, .gint ("DEEPEST" : Str) (3)])]⟩
def cf__law_odd : Fn := ⟨2, 4, [
    .iff (.and (.isi (.var 0) .tuple) (.and (.cmp .ne (.var 0) (.tup [])) (.cmp .gt (.call ("_law_mix" : Str) [.var 1, .cint 9781, .cint 5]) (.cint 0)))) [.asg (.nm 3) (.call ("_law_mix" : Str) [.var 1, .cint 9769, .f1 .len (.var 0)]), .ret (.bin .add (.bin .add (.slc (.var 0) none (some (.var 3))) (.tup [.call ("_law_odd" : Str) [.idx (.var 0) (.var 3), .bin .add (.bin .add (.var 1) (.bin .mul (.cint 31) (.var 3))) (.cint 7)]])) (.slc (.var 0) (some (.bin .add (.var 3) (.cint 1))) none))] [],
    .asg (.nm 2) (.lst [.cnon, .cbl true, .cbl false, .cint 0, .cint 1, .neg (.cint 1), .cint 2, .cint 7, .cint 10, .cint 1000, .cstr ("" : Str), .cstr ("a" : Str), .cstr ("A" : Str), .tup [], .tup [.cstr ("a" : Str)], .lst [.cint 1]]),
    .iff (.isi (.var 0) .tuple) [.asg (.nm 2) (.bin .add (.var 2) (.bin .mul (.lst [.f1 .list (.var 0), .bin .add (.var 0) (.slc (.var 0) (some (.neg (.cint 1))) none), .slc (.var 0) none (some (.neg (.cint 1))), .rev (.var 0), .slc (.var 0) (some (.cint 1)) none, .tup [.var 0]]) (.cint 2)))] [.iff (.isi (.var 0) .str) [.asg (.nm 2) (.bin .add (.var 2) (.bin .mul (.lst [.bin .add (.var 0) (.cstr ("a" : Str)), .slc (.var 0) none (some (.neg (.cint 1))), .m0 .upper (.var 0), .bin .add (.var 0) (.cstr (" " : Str)), .bin .mul (.var 0) (.cint 2), .lst [.var 0], .bin .add (.var 0) (.slc (.var 0) none (some (.cint 1)))]) (.cint 2)))] [.iff (.isi (.var 0) .int) [.asg (.nm 2) (.bin .add (.var 2) (.bin .mul (.lst [.bin .add (.var 0) (.cint 1), .bin .sub (.var 0) (.cint 1), .bin .sub (.cint 0) (.var 0), .tup [.var 0], .bin .add (.var 0) (.cint 2), .bin .mul (.var 0) (.cint 2)]) (.cint 2)))] []]],
    .ret (.idx (.var 2) (.call ("_law_mix" : Str) [.var 1, .cint 9749, .f1 .len (.var 2)]))]⟩
def cf__law_is_name : Fn := ⟨1, 2, [
    .ret (.and (.isi (.var 0) .str) (.and (.chn .lt .lt (.cint 0) (.f1 .len (.var 0)) (.cint 6)) (.cmp .eq (.comp (.var 1) (.nm 1) (.seq (.var 0)) (some (.not (.chn .le .le (.cstr ("a" : Str)) (.var 1) (.cstr ("z" : Str))))) [(("_law_sign" : Str), 1)]) (.lst []))))]⟩
def cf__law_is_number : Fn := ⟨3, 3, [
    .ret (.and (.isi (.var 0) .int) (.and (.not (.isi (.var 0) .bool)) (.chn .le .le (.var 1) (.var 0) (.var 2))))]⟩
def cf__law_is_test : Fn := ⟨2, 5, [
    .iff (.or (.not (.isi (.var 0) .tuple)) (.or (.cmp .lt (.f1 .len (.var 0)) (.cint 2)) (.or (.not (.isi (.idx (.var 0) (.cint 0)) .str)) (.cmp .gt (.var 1) (.cint 3))))) [.ret (.cbl false)] [],
    .swp [2, 3] [.idx (.var 0) (.cint 0), .slc (.var 0) (some (.cint 1)) none],
    .iff (.cmp .eq (.var 2) (.cstr ("has" : Str))) [.ret (.and (.cmp .eq (.f1 .len (.var 3)) (.cint 2)) (.and (.call ("_law_is_name" : Str) [.idx (.var 3) (.cint 0)]) (.call ("_law_is_number" : Str) [.idx (.var 3) (.cint 1), .cint 1, .cint 3])))] [],
    .iff (.cmp .eq (.var 2) (.cstr ("been" : Str))) [.ret (.and (.cmp .eq (.f1 .len (.var 3)) (.cint 1)) (.call ("_law_is_name" : Str) [.idx (.var 3) (.cint 0)]))] [],
    .iff (.or (.cmp .nin (.var 2) (.tup [.cstr ("not" : Str), .cstr ("and" : Str), .cstr ("or" : Str)])) (.cmp .ne (.f1 .len (.var 3)) (.bin .sub (.cint 2) (.f1 .int (.cmp .eq (.var 2) (.cstr ("not" : Str))))))) [.ret (.cbl false)] [],
    .ret (.cmp .eq (.comp (.var 4) (.nm 4) (.seq (.var 3)) (some (.not (.call ("_law_is_test" : Str) [.var 4, .bin .add (.var 1) (.cint 1)]))) [(("_law_part" : Str), 4)]) (.lst []))]⟩
def cf_is_deed : Fn := ⟨1, 1, [
    .iff (.or (.not (.isi (.var 0) .tuple)) (.or (.cmp .ne (.f1 .len (.var 0)) (.cint 3)) (.or (.not (.isi (.idx (.var 0) (.cint 0)) .str)) (.not (.call ("is_name" : Str) [.idx (.var 0) (.cint 1)]))))) [.ret (.cbl false)] [],
    .ret (.or (.and (.cmp .eq (.idx (.var 0) (.cint 0)) (.cstr ("set" : Str))) (.call ("is_number" : Str) [.idx (.var 0) (.cint 2), .cint 0])) (.and (.cmp .eq (.idx (.var 0) (.cint 0)) (.cstr ("add" : Str))) (.call ("is_number" : Str) [.idx (.var 0) (.cint 2), .neg (.gint ("MOST" : Str) (3))])))]⟩
def cf_names_been : Fn := ⟨1, 3, [
    .iff (.or (.cmp .is_ (.var 0) .cnon) (.cmp .eq (.idx (.var 0) (.cint 0)) (.cstr ("has" : Str)))) [.ret (.lst [])] [],
    .iff (.cmp .eq (.idx (.var 0) (.cint 0)) (.cstr ("been" : Str))) [.ret (.lst [.idx (.var 0) (.cint 1)])] [],
    .asg (.nm 1) (.lst []),
    .fr (.nm 2) (.seq (.slc (.var 0) (some (.cint 1)) none)) [.exp (.m1 .extend (.var 1) (.call ("names_been" : Str) [.var 2]))],
    .ret (.var 1)]⟩
def cf_is_line : Fn := ⟨1, 2, [
    .iff (.or (.not (.isi (.var 0) .str)) (.not (.chn .le .le (.cint 1) (.f1 .len (.var 0)) (.cint 30)))) [.ret (.cbl false)] [],
    .ret (.and (.f1 .all (.comp (.chn .le .le (.cstr (" " : Str)) (.var 1) (.cstr ("~" : Str))) (.nm 1) (.seq (.var 0)) none [(("sign" : Str), 1)])) (.cmp .eq (.var 0) (.m1 .strip (.var 0) (.cstr (" " : Str)))))]⟩
def cf_is_choice : Fn := ⟨2, 9, [
    .iff (.or (.not (.isi (.var 0) .tuple)) (.or (.cmp .ne (.f1 .len (.var 0)) (.cint 5)) (.or (.not (.call ("is_line" : Str) [.idx (.var 0) (.cint 0)])) (.not (.isi (.idx (.var 0) (.cint 4)) .bool))))) [.ret (.cbl false)] [],
    .asg (.tup [.nm 2, .nm 3, .nm 4, .nm 5, .nm 6]) (.var 0),
    .iff (.or (.and (.cmp .isn (.var 3) .cnon) (.not (.call ("is_test" : Str) [.var 3]))) (.not (.f1 .all (.comp (.cmp .isin (.var 7) (.var 1)) (.nm 7) (.seq (.call ("names_been" : Str) [.var 3])) none [(("name" : Str), 7)])))) [.ret (.cbl false)] [],
    .iff (.or (.not (.isi (.var 4) .tuple)) (.or (.cmp .gt (.f1 .len (.var 4)) (.cint 3)) (.not (.f1 .all (.comp (.call ("is_deed" : Str) [.var 8]) (.nm 8) (.seq (.var 4)) none [(("deed" : Str), 8)]))))) [.ret (.cbl false)] [],
    .ret (.or (.cmp .is_ (.var 5) .cnon) (.and (.isi (.var 5) .str) (.cmp .isin (.var 5) (.var 1))))]⟩
def cf_is_place : Fn := ⟨1, 1, [
    .iff (.or (.not (.isi (.var 0) .tuple)) (.or (.cmp .ne (.f1 .len (.var 0)) (.cint 3)) (.or (.not (.call ("is_name" : Str) [.idx (.var 0) (.cint 0)])) (.not (.call ("is_line" : Str) [.idx (.var 0) (.cint 1)]))))) [.ret (.cbl false)] [],
    .ret (.and (.isi (.idx (.var 0) (.cint 2)) .tuple) (.cmp .le (.f1 .len (.idx (.var 0) (.cint 2))) (.cint 4)))]⟩
def cf_is_talk : Fn := ⟨1, 4, [
    .iff (.or (.not (.isi (.var 0) .tuple)) (.or (.not (.chn .le .le (.cint 1) (.f1 .len (.var 0)) (.cint 6))) (.not (.f1 .all (.comp (.call ("is_place" : Str) [.var 2]) (.nm 2) (.seq (.var 0)) none [(("one" : Str), 2)]))))) [.ret (.cbl false)] [],
    .asg (.nm 1) (.comp (.idx (.var 2) (.cint 0)) (.nm 2) (.seq (.var 0)) none [(("one" : Str), 2)]),
    .iff (.cmp .ne (.f1 .lenset (.var 1)) (.f1 .len (.var 1))) [.ret (.cbl false)] [],
    .ret (.f1 .all (.comp (.f1 .all (.comp (.call ("is_choice" : Str) [.var 3, .var 1]) (.nm 3) (.seq (.idx (.var 2) (.cint 2))) none [(("choice" : Str), 3)])) (.nm 2) (.seq (.var 0)) none [(("one" : Str), 2)]))]⟩
def cf__law_choice : Fn := ⟨2, 7, [
    .asg (.nm 2) .cnon,
    .iff (.cmp .eq (.call ("_law_mix" : Str) [.var 0, .cint 9883, .cint 3]) (.cint 0)) [.asg (.nm 2) (.call ("_law_test" : Str) [.bin .add (.var 0) (.cint 1), .cint 2]), .iff (.comp (.var 6) (.nm 6) (.seq (.call ("_law_places_of" : Str) [.var 2])) (some (.cmp .nin (.var 6) (.var 1))) [(("_law_name" : Str), 6)]) [.asg (.nm 2) (.tup [.cstr ("not" : Str), .tup [.cstr ("has" : Str), .cstr ("x" : Str), .cint 1]])] []] [],
    .asg (.nm 3) (.idx (.bin .add (.var 1) (.lst [.cnon])) (.call ("_law_mix" : Str) [.var 0, .cint 9871, .bin .add (.f1 .len (.var 1)) (.cint 1)])),
    .asg (.nm 4) (.idx (.tup [.cstr ("yes" : Str), .cstr ("no" : Str), .cstr ("why?" : Str), .cstr ("go on" : Str)]) (.call ("_law_mix" : Str) [.var 0, .cint 9859, .cint 4])),
    .asg (.nm 5) (.tup []),
    .iff (.cmp .eq (.call ("_law_mix" : Str) [.var 0, .cint 9857, .cint 3]) (.cint 0)) [.asg (.nm 5) (.call ("_law_deeds" : Str) [.bin .add (.var 0) (.cint 2)])] [],
    .ret (.tup [.var 4, .var 2, .var 5, .var 3, .cmp .eq (.call ("_law_mix" : Str) [.var 0, .cint 9851, .cint 3]) (.cint 0)])]⟩
def cf__law_talk : Fn := ⟨2, 9, [
    .asg (.nm 2) (.slc (.lst [.cstr ("a" : Str), .cstr ("b" : Str), .cstr ("c" : Str), .cstr ("d" : Str)]) none (some (.bin .add (.cint 1) (.call ("_law_mix" : Str) [.var 0, .cint 9839, .var 1])))),
    .asg (.nm 3) (.lst []),
    .fr (.tup [.nm 4, .nm 5]) (.enum (.var 2)) [.asg (.nm 6) (.bin .add (.var 0) (.bin .mul (.cint 31) (.var 4))), .asg (.nm 7) (.comp (.call ("_law_choice" : Str) [.bin .add (.bin .add (.var 6) (.bin .mul (.cint 11) (.var 8))) (.cint 3), .var 2]) (.nm 8) (.range (.call ("_law_mix" : Str) [.var 6, .cint 9833, .cint 4])) none [(("_law_j" : Str), 8)]), .exp (.m1 .append (.var 3) (.tup [.var 5, .idx (.tup [.cstr ("hello" : Str), .cstr ("well" : Str), .cstr ("so be it" : Str)]) (.call ("_law_mix" : Str) [.var 6, .cint 9829, .cint 3]), .f1 .tuple (.var 7)]))],
    .ret (.f1 .tuple (.var 3))]⟩
def cf__law_bad_choices : Fn := ⟨1, 7, [
    .asg (.tup [.nm 2, .nm 3, .nm 4, .nm 5, .nm 6]) (.var 0),
    .asg (.nm 1) (.lst [.slc (.var 0) none (some (.cint 4)), .bin .add (.var 0) (.tup [.cint 1]), .f1 .list (.var 0), .cnon]),
    .asg (.nm 1) (.bin .add (.var 1) (.lst [.bin .add (.tup [.cnon]) (.slc (.var 0) (some (.cint 1)) none), .bin .add (.tup [.cstr ("" : Str)]) (.slc (.var 0) (some (.cint 1)) none), .bin .add (.tup [.cstr (" a" : Str)]) (.slc (.var 0) (some (.cint 1)) none)])),
    .asg (.nm 1) (.bin .add (.var 1) (.lst [.bin .add (.tup [.cstr ("a " : Str)]) (.slc (.var 0) (some (.cint 1)) none), .bin .add (.tup [.bin .mul (.cstr ("x" : Str)) (.cint 31)]) (.slc (.var 0) (some (.cint 1)) none)])),
    .asg (.nm 1) (.bin .add (.var 1) (.lst [.tup [.var 2, .tup [], .var 4, .var 5, .var 6], .tup [.var 2, .cstr ("a" : Str), .var 4, .var 5, .var 6]])),
    .asg (.nm 1) (.bin .add (.var 1) (.lst [.tup [.var 2, .tup [.cstr ("been" : Str), .cstr ("zz" : Str)], .var 4, .var 5, .var 6]])),
    .asg (.nm 1) (.bin .add (.var 1) (.lst [.tup [.var 2, .tup [.cstr ("not" : Str), .tup [.cstr ("been" : Str), .cstr ("zz" : Str)]], .var 4, .var 5, .var 6]])),
    .asg (.nm 1) (.bin .add (.var 1) (.lst [.tup [.var 2, .var 3, .tup [.tup [.cstr ("set" : Str), .cstr ("x" : Str), .cint 4]], .var 5, .var 6]])),
    .asg (.nm 1) (.bin .add (.var 1) (.lst [.tup [.var 2, .var 3, .tup [.tup [.cstr ("set" : Str), .cstr ("x" : Str), .neg (.cint 1)]], .var 5, .var 6]])),
    .asg (.nm 1) (.bin .add (.var 1) (.lst [.tup [.var 2, .var 3, .tup [.tup [.cstr ("add" : Str), .cstr ("x" : Str), .cint 4]], .var 5, .var 6]])),
    .asg (.nm 1) (.bin .add (.var 1) (.lst [.tup [.var 2, .var 3, .tup [.tup [.cstr ("put" : Str), .cstr ("x" : Str), .cint 1]], .var 5, .var 6]])),
    .asg (.nm 1) (.bin .add (.var 1) (.lst [.tup [.var 2, .var 3, .tup [.tup [.cstr ("add" : Str), .cstr ("X" : Str), .cint 1]], .var 5, .var 6]])),
    .asg (.nm 1) (.bin .add (.var 1) (.lst [.tup [.var 2, .var 3, .tup [.tup [.cstr ("add" : Str), .cstr ("x" : Str)]], .var 5, .var 6]])),
    .asg (.nm 1) (.bin .add (.var 1) (.lst [.tup [.var 2, .var 3, .bin .mul (.tup [.tup [.cstr ("add" : Str), .cstr ("x" : Str), .cint 1]]) (.cint 4), .var 5, .var 6]])),
    .asg (.nm 1) (.bin .add (.var 1) (.lst [.tup [.var 2, .var 3, .lst [.tup [.cstr ("add" : Str), .cstr ("x" : Str), .cint 1]], .var 5, .var 6]])),
    .ret (.bin .add (.var 1) (.lst [.tup [.var 2, .var 3, .var 4, .cstr ("zz" : Str), .var 6], .tup [.var 2, .var 3, .var 4, .cint 0, .var 6], .tup [.var 2, .var 3, .var 4, .var 5, .cint 1]]))]⟩
def cf__law_is_line : Fn := ⟨1, 2, [
    .iff (.or (.not (.isi (.var 0) .str)) (.or (.not (.chn .lt .lt (.cint 0) (.f1 .len (.var 0)) (.cint 31))) (.or (.cmp .eq (.idx (.var 0) (.cint 0)) (.cstr (" " : Str))) (.cmp .eq (.idx (.var 0) (.neg (.cint 1))) (.cstr (" " : Str)))))) [.ret (.cbl false)] [],
    .ret (.cmp .eq (.comp (.var 1) (.nm 1) (.seq (.var 0)) (some (.not (.chn .le .le (.cstr (" " : Str)) (.var 1) (.cstr ("~" : Str))))) [(("_law_sign" : Str), 1)]) (.lst []))]⟩
def cf__law_been : Fn := ⟨1, 3, [
    .iff (.cmp .isin (.idx (.var 0) (.cint 0)) (.tup [.cstr ("has" : Str), .cstr ("been" : Str)])) [.ret (.bin .mul (.lst [.idx (.var 0) (.cint 1)]) (.f1 .int (.cmp .eq (.idx (.var 0) (.cint 0)) (.cstr ("been" : Str)))))] [],
    .asg (.nm 1) (.lst []),
    .fr (.nm 2) (.seq (.slc (.var 0) (some (.cint 1)) none)) [.exp (.m1 .extend (.var 1) (.call ("_law_been" : Str) [.var 2]))],
    .ret (.var 1)]⟩
def cf__law_is_deed : Fn := ⟨1, 1, [
    .iff (.or (.not (.isi (.var 0) .tuple)) (.or (.cmp .ne (.f1 .len (.var 0)) (.cint 3)) (.or (.not (.isi (.idx (.var 0) (.cint 0)) .str)) (.not (.call ("_law_is_name" : Str) [.idx (.var 0) (.cint 1)]))))) [.ret (.cbl false)] [],
    .ret (.and (.cmp .isin (.idx (.var 0) (.cint 0)) (.tup [.cstr ("set" : Str), .cstr ("add" : Str)])) (.call ("_law_is_number" : Str) [.idx (.var 0) (.cint 2), .ite (.cmp .eq (.idx (.var 0) (.cint 0)) (.cstr ("set" : Str))) (.cint 0) (.neg (.cint 3)), .cint 3]))]⟩
def cf__law_is_choice : Fn := ⟨2, 9, [
    .iff (.or (.not (.isi (.var 0) .tuple)) (.or (.cmp .ne (.f1 .len (.var 0)) (.cint 5)) (.not (.call ("_law_is_line" : Str) [.idx (.var 0) (.cint 0)])))) [.ret (.cbl false)] [],
    .asg (.tup [.nm 2, .nm 3, .nm 4, .nm 5, .nm 6]) (.var 0),
    .iff (.and (.cmp .isn (.var 3) .cnon) (.not (.call ("_law_is_test" : Str) [.var 3, .cint 1]))) [.ret (.cbl false)] [],
    .iff (.and (.cmp .isn (.var 3) .cnon) (.cmp .ne (.comp (.var 7) (.nm 7) (.seq (.call ("_law_been" : Str) [.var 3])) (some (.cmp .nin (.var 7) (.var 1))) [(("_law_one" : Str), 7)]) (.lst []))) [.ret (.cbl false)] [],
    .iff (.or (.not (.isi (.var 4) .tuple)) (.or (.cmp .gt (.f1 .len (.var 4)) (.cint 3)) (.cmp .ne (.comp (.var 8) (.nm 8) (.seq (.var 4)) (some (.not (.call ("_law_is_deed" : Str) [.var 8]))) [(("_law_deed" : Str), 8)]) (.lst [])))) [.ret (.cbl false)] [],
    .ret (.and (.or (.cmp .is_ (.var 5) .cnon) (.cmp .isin (.var 5) (.var 1))) (.isi (.var 6) .bool))]⟩
def cf__law_is_talk : Fn := ⟨1, 4, [
    .iff (.or (.not (.isi (.var 0) .tuple)) (.not (.chn .lt .lt (.cint 0) (.f1 .len (.var 0)) (.cint 7)))) [.ret (.cbl false)] [],
    .fr (.nm 1) (.seq (.var 0)) [.iff (.or (.not (.isi (.var 1) .tuple)) (.or (.cmp .ne (.f1 .len (.var 1)) (.cint 3)) (.or (.not (.call ("_law_is_name" : Str) [.idx (.var 1) (.cint 0)])) (.not (.call ("_law_is_line" : Str) [.idx (.var 1) (.cint 1)]))))) [.ret (.cbl false)] [], .iff (.or (.not (.isi (.idx (.var 1) (.cint 2)) .tuple)) (.cmp .gt (.f1 .len (.idx (.var 1) (.cint 2))) (.cint 4))) [.ret (.cbl false)] []],
    .asg (.nm 2) (.comp (.idx (.var 1) (.cint 0)) (.nm 1) (.seq (.var 0)) none [(("_law_place" : Str), 1)]),
    .iff (.cmp .ne (.f1 .lenset (.var 2)) (.f1 .len (.var 2))) [.ret (.cbl false)] [],
    .fr (.nm 1) (.seq (.var 0)) [.iff (.cmp .ne (.comp (.var 3) (.nm 3) (.seq (.idx (.var 1) (.cint 2))) (some (.not (.call ("_law_is_choice" : Str) [.var 3, .var 2]))) [(("_law_choice_here" : Str), 3)]) (.lst [])) [.ret (.cbl false)] []],
    .ret (.cbl true)]⟩
def cf_holds : Fn := ⟨3, 3, [
    .iff (.cmp .eq (.idx (.var 0) (.cint 0)) (.cstr ("has" : Str))) [.ret (.cmp .ge (.m2 .get (.f1 .dict (.var 1)) (.idx (.var 0) (.cint 1)) (.cint 0)) (.idx (.var 0) (.cint 2)))] [],
    .iff (.cmp .eq (.idx (.var 0) (.cint 0)) (.cstr ("been" : Str))) [.ret (.cmp .isin (.idx (.var 0) (.cint 1)) (.var 2))] [],
    .iff (.cmp .eq (.idx (.var 0) (.cint 0)) (.cstr ("not" : Str))) [.ret (.not (.call ("holds" : Str) [.idx (.var 0) (.cint 1), .var 1, .var 2]))] [],
    .iff (.cmp .eq (.idx (.var 0) (.cint 0)) (.cstr ("and" : Str))) [.ret (.and (.call ("holds" : Str) [.idx (.var 0) (.cint 1), .var 1, .var 2]) (.call ("holds" : Str) [.idx (.var 0) (.cint 2), .var 1, .var 2]))] [],
    .ret (.or (.call ("holds" : Str) [.idx (.var 0) (.cint 1), .var 1, .var 2]) (.call ("holds" : Str) [.idx (.var 0) (.cint 2), .var 1, .var 2]))]⟩
def cf_begun : Fn := ⟨1, 1, [
    .ret (.tup [.idx (.idx (.var 0) (.cint 0)) (.cint 0), .tup [], .tup [.idx (.idx (.var 0) (.cint 0)) (.cint 0)], .tup []])]⟩
def cf_place_of : Fn := ⟨2, 3, [
    .ret (.idx (.comp (.slc (.var 2) (some (.cint 1)) none) (.nm 2) (.seq (.var 0)) (some (.cmp .eq (.idx (.var 2) (.cint 0)) (.var 1))) [(("place" : Str), 2)]) (.cint 0))]⟩
def cf_choices_at : Fn := ⟨2, 2, [
    .iff (.cmp .is_ (.idx (.var 1) (.cint 0)) .cnon) [.ret (.tup [])] [],
    .ret (.idx (.call ("place_of" : Str) [.var 0, .idx (.var 1) (.cint 0)]) (.cint 1))]⟩
def cf_is_open : Fn := ⟨3, 12, [
    .asg (.tup [.nm 3, .nm 4, .nm 5, .nm 6, .nm 7]) (.var 2),
    .asg (.tup [.nm 8, .nm 9, .nm 10, .nm 11]) (.var 0),
    .iff (.and (.var 7) (.cmp .isin (.tup [.var 8, .var 1]) (.var 11))) [.ret (.cbl false)] [],
    .ret (.or (.cmp .is_ (.var 4) .cnon) (.call ("holds" : Str) [.var 4, .var 9, .var 10]))]⟩
def cf_open_at : Fn := ⟨2, 4, [
    .ret (.f1 .tuple (.comp (.var 2) (.tup [.nm 2, .nm 3]) (.enum (.call ("choices_at" : Str) [.var 0, .var 1])) (some (.call ("is_open" : Str) [.var 1, .var 2, .var 3])) [(("k" : Str), 2), (("choice" : Str), 3)]))]⟩
def cf_shown : Fn := ⟨2, 5, [
    .iff (.cmp .is_ (.idx (.var 1) (.cint 0)) .cnon) [.ret .cnon] [],
    .asg (.tup [.nm 2, .nm 3]) (.call ("place_of" : Str) [.var 0, .idx (.var 1) (.cint 0)]),
    .ret (.tup [.var 2, .f1 .tuple (.comp (.idx (.idx (.var 3) (.var 4)) (.cint 0)) (.nm 4) (.seq (.call ("open_at" : Str) [.var 0, .var 1])) none [(("k" : Str), 4)])])]⟩
def cf__law_talk2 : Fn := ⟨2, 9, [
    .asg (.nm 2) (.slc (.lst [.cstr ("a" : Str), .cstr ("b" : Str), .cstr ("c" : Str), .cstr ("d" : Str)]) none (some (.bin .add (.cint 1) (.call ("_law_mix" : Str) [.var 0, .cint 9839, .var 1])))),
    .asg (.nm 3) (.lst []),
    .fr (.tup [.nm 4, .nm 5]) (.enum (.var 2)) [.asg (.nm 6) (.bin .add (.var 0) (.bin .mul (.cint 31) (.var 4))), .asg (.nm 7) (.comp (.call ("_law_choice" : Str) [.bin .add (.bin .add (.var 6) (.bin .mul (.cint 11) (.var 8))) (.cint 3), .var 2]) (.nm 8) (.range (.call ("_law_mix" : Str) [.var 6, .cint 9833, .cint 4])) none [(("_law_j" : Str), 8)]), .exp (.m1 .append (.var 3) (.tup [.var 5, .idx (.tup [.cstr ("hello" : Str), .cstr ("well" : Str), .cstr ("so be it" : Str)]) (.call ("_law_mix" : Str) [.var 6, .cint 9829, .cint 3]), .f1 .tuple (.var 7)]))],
    .ret (.f1 .tuple (.var 3))]⟩
def cf__law_holds2 : Fn := ⟨3, 7, [
    .iff (.cmp .eq (.idx (.var 0) (.cint 0)) (.cstr ("has" : Str))) [.ret (.cmp .ne (.comp (.cint 1) (.tup [.nm 5, .nm 6]) (.seq (.var 1)) (some (.and (.cmp .eq (.var 5) (.idx (.var 0) (.cint 1))) (.cmp .ge (.var 6) (.idx (.var 0) (.cint 2))))) [(("_law_name" : Str), 5), (("_law_number" : Str), 6)]) (.lst []))] [],
    .iff (.cmp .eq (.idx (.var 0) (.cint 0)) (.cstr ("been" : Str))) [.ret (.cmp .isin (.idx (.var 0) (.cint 1)) (.var 2))] [],
    .asg (.nm 3) (.comp (.call ("_law_holds" : Str) [.var 4, .var 1, .var 2]) (.nm 4) (.seq (.slc (.var 0) (some (.cint 1)) none)) none [(("_law_part" : Str), 4)]),
    .iff (.cmp .eq (.idx (.var 0) (.cint 0)) (.cstr ("not" : Str))) [.ret (.not (.idx (.var 3) (.cint 0)))] [],
    .ret (.idx (.lst [.cbl false, .cbl true]) (.f1 .int (.cmp .gt (.m1 .count (.var 3) (.cbl true)) (.f1 .int (.cmp .eq (.idx (.var 0) (.cint 0)) (.cstr ("and" : Str)))))))]⟩
def cf__law_choices : Fn := ⟨2, 5, [
    .fr (.tup [.nm 2, .nm 3, .nm 4]) (.seq (.var 0)) [.iff (.cmp .eq (.var 2) (.idx (.var 1) (.cint 0))) [.ret (.var 4)] []],
    .ret (.tup [])]⟩
def cf__law_open : Fn := ⟨2, 9, [
    .asg (.nm 2) (.lst []),
    .fr (.tup [.nm 3, .tup [.nm 4, .nm 5, .nm 6, .nm 7, .nm 8]]) (.enum (.call ("_law_choices" : Str) [.var 0, .var 1])) [.iff (.and (.or (.cmp .is_ (.var 5) .cnon) (.call ("_law_holds" : Str) [.var 5, .idx (.var 1) (.cint 1), .idx (.var 1) (.cint 2)])) (.or (.not (.var 8)) (.cmp .nin (.tup [.idx (.var 1) (.cint 0), .var 3]) (.idx (.var 1) (.cint 3))))) [.exp (.m1 .append (.var 2) (.var 3))] []],
    .ret (.f1 .tuple (.var 2))]⟩
def cf__law_begun : Fn := ⟨1, 1, [
    .ret (.tup [.idx (.idx (.var 0) (.cint 0)) (.cint 0), .tup [], .tup [.idx (.idx (.var 0) (.cint 0)) (.cint 0)], .tup []])]⟩
def cf_led : Fn := ⟨2, 4, [
    .asg (.nm 2) (.call ("begun" : Str) [.var 0]),
    .fr (.nm 3) (.seq (.var 1)) [.asg (.nm 2) (.call ("after" : Str) [.var 0, .var 2, .var 3])],
    .ret (.var 2)]⟩
def cf__law_done2 : Fn := ⟨2, 7, [
    .fr (.tup [.nm 2, .nm 3, .nm 4]) (.seq (.var 1)) [.asg (.nm 5) (.idx (.bin .add (.comp (.idx (.var 6) (.cint 1)) (.nm 6) (.seq (.var 0)) (some (.cmp .eq (.idx (.var 6) (.cint 0)) (.var 3))) [(("_law_one" : Str), 6)]) (.lst [.cint 0])) (.cint 0)), .iff (.cmp .eq (.var 2) (.cstr ("add" : Str))) [.asg (.nm 4) (.idx (.f1 .sorted (.lst [.cint 0, .bin .add (.var 5) (.var 4), .cint 3])) (.cint 1))] [], .asg (.nm 0) (.bin .add (.comp (.var 6) (.nm 6) (.seq (.var 0)) (some (.cmp .ne (.idx (.var 6) (.cint 0)) (.var 3))) [(("_law_one" : Str), 6)]) (.bin .mul (.lst [.tup [.var 3, .var 4]]) (.f1 .int (.cmp .gt (.var 4) (.cint 0)))))],
    .ret (.f1 .tuple (.f1 .sorted (.var 0)))]⟩
def cf__law_after : Fn := ⟨3, 10, [
    .asg (.tup [.nm 5, .nm 6, .nm 7, .nm 8, .nm 9]) (.idx (.call ("_law_choices" : Str) [.var 0, .var 1]) (.var 2)),
    .asg (.nm 3) (.f1 .sortset (.bin .add (.f1 .list (.idx (.var 1) (.cint 2))) (.bin .mul (.lst [.var 8]) (.f1 .int (.cmp .isn (.var 8) .cnon))))),
    .asg (.nm 4) (.f1 .sorted (.bin .add (.f1 .list (.idx (.var 1) (.cint 3))) (.bin .mul (.lst [.tup [.idx (.var 1) (.cint 0), .var 2]]) (.f1 .int (.var 9))))),
    .ret (.tup [.var 8, .call ("_law_done" : Str) [.idx (.var 1) (.cint 1), .var 7], .f1 .tuple (.var 3), .f1 .tuple (.var 4)])]⟩
def cf_ways_from : Fn := ⟨1, 7, [
    .asg (.nm 1) (.dct1 (.call ("begun" : Str) [.var 0]) (.tup [])),
    .asg (.nm 2) (.f1 .list (.var 1)),
    .wh (.var 2) [.asg (.nm 3) (.lst []), .fr (.nm 4) (.seq (.var 2)) [.fr (.nm 5) (.seq (.call ("open_at" : Str) [.var 0, .var 4])) [.asg (.nm 6) (.call ("after" : Str) [.var 0, .var 4, .var 5]), .iff (.cmp .nin (.var 6) (.var 1)) [.sub (.var 1) (.var 6) (.bin .add (.idx (.var 1) (.var 4)) (.tup [.var 5])), .exp (.m1 .append (.var 3) (.var 6))] []]], .asg (.nm 2) (.var 3)],
    .ret (.var 1)]⟩
def cf_reach : Fn := ⟨1, 1, [
    .ret (.f1 .tuple (.call ("ways_from" : Str) [.var 0]))]⟩
def cf__law_reach : Fn := ⟨1, 6, [
    .asg (.nm 1) (.dct1 (.call ("_law_begun" : Str) [.var 0]) (.tup [])),
    .asg (.nm 2) (.f1 .list (.var 1)),
    .wh (.var 2) [.asg (.nm 3) (.m1 .popat (.var 2) (.cint 0)), .fr (.nm 4) (.seq (.call ("_law_open" : Str) [.var 0, .var 3])) [.asg (.nm 5) (.call ("_law_after" : Str) [.var 0, .var 3, .var 4]), .iff (.cmp .nin (.var 5) (.var 1)) [.sub (.var 1) (.var 5) (.bin .add (.idx (.var 1) (.var 3)) (.tup [.var 4])), .exp (.m1 .append (.var 2) (.var 5))] []]],
    .ret (.var 1)]⟩
def cf_unreached : Fn := ⟨1, 4, [
    .asg (.nm 1) (.comp (.idx (.var 2) (.cint 0)) (.nm 2) (.seq (.call ("reach" : Str) [.var 0])) none [(("stand" : Str), 2)]),
    .ret (.f1 .tuple (.comp (.idx (.var 3) (.cint 0)) (.nm 3) (.seq (.var 0)) (some (.cmp .nin (.idx (.var 3) (.cint 0)) (.var 1))) [(("place" : Str), 3)]))]⟩
def cf_never_open : Fn := ⟨1, 8, [
    .asg (.nm 1) .dct0,
    .fr (.nm 2) (.seq (.call ("reach" : Str) [.var 0])) [.fr (.nm 5) (.seq (.call ("open_at" : Str) [.var 0, .var 2])) [.sub (.var 1) (.tup [.idx (.var 2) (.cint 0), .var 5]) (.cbl true)]],
    .asg (.nm 3) (.lst []),
    .fr (.nm 4) (.seq (.var 0)) [.exp (.m1 .extend (.var 3) (.comp (.tup [.idx (.var 4) (.cint 0), .var 7]) (.nm 7) (.range (.f1 .len (.idx (.var 4) (.cint 2)))) none [(("k" : Str), 7)]))],
    .ret (.f1 .tuple (.comp (.var 6) (.nm 6) (.seq (.var 3)) (some (.cmp .nin (.var 6) (.var 1))) [(("one" : Str), 6)]))]⟩
def cf_next_stands : Fn := ⟨2, 3, [
    .ret (.comp (.call ("after" : Str) [.var 0, .var 1, .var 2]) (.nm 2) (.seq (.call ("open_at" : Str) [.var 0, .var 1])) none [(("number" : Str), 2)])]⟩
def cf_stuck : Fn := ⟨1, 2, [
    .ret (.f1 .tuple (.comp (.var 1) (.nm 1) (.seq (.call ("reach" : Str) [.var 0])) (some (.and (.cmp .isn (.idx (.var 1) (.cint 0)) .cnon) (.not (.call ("open_at" : Str) [.var 0, .var 1])))) [(("stand" : Str), 1)]))]⟩
def cf_nexts_of : Fn := ⟨1, 2, [
    .ret (.f1 .dict (.comp (.tup [.var 1, .call ("next_stands" : Str) [.var 0, .var 1]]) (.nm 1) (.seq (.call ("reach" : Str) [.var 0])) none [(("stand" : Str), 1)]))]⟩
def cf_ending : Fn := ⟨1, 5, [
    .asg (.nm 1) (.f1 .dict (.comp (.tup [.var 3, .cbl true]) (.nm 3) (.seq (.var 0)) (some (.cmp .is_ (.idx (.var 3) (.cint 0)) .cnon)) [(("stand" : Str), 3)])),
    .asg (.nm 2) (.cint 0),
    .wh (.cmp .ne (.f1 .len (.var 1)) (.var 2)) [.asg (.nm 2) (.f1 .len (.var 1)), .fr (.nm 3) (.seq (.var 0)) [.iff (.f1 .any (.comp (.cmp .isin (.var 4) (.var 1)) (.nm 4) (.seq (.idx (.var 0) (.var 3))) none [(("one" : Str), 4)])) [.sub (.var 1) (.var 3) (.cbl true)] []]],
    .ret (.var 1)]⟩
def cf_all_from : Fn := ⟨2, 5, [
    .asg (.nm 2) .dct0,
    .asg (.nm 3) (.lst [.var 1]),
    .wh (.var 3) [.asg (.nm 4) (.m0 .pop (.var 3)), .iff (.cmp .nin (.var 4) (.var 2)) [.sub (.var 2) (.var 4) (.call ("next_stands" : Str) [.var 0, .var 4]), .exp (.m1 .extend (.var 3) (.idx (.var 2) (.var 4)))] []],
    .ret (.var 2)]⟩
def cf_can_end : Fn := ⟨2, 2, [
    .ret (.cmp .isin (.var 1) (.call ("ending" : Str) [.call ("all_from" : Str) [.var 0, .var 1]]))]⟩
def cf_lost : Fn := ⟨1, 4, [
    .asg (.nm 1) (.call ("nexts_of" : Str) [.var 0]),
    .asg (.nm 2) (.call ("ending" : Str) [.var 1]),
    .ret (.f1 .tuple (.comp (.var 3) (.nm 3) (.seq (.var 1)) (some (.cmp .nin (.var 3) (.var 2))) [(("stand" : Str), 3)]))]⟩
def cf__law_nexts : Fn := ⟨1, 4, [
    .asg (.nm 1) .dct0,
    .fr (.nm 2) (.seq (.call ("_law_reach" : Str) [.var 0])) [.sub (.var 1) (.var 2) (.comp (.call ("_law_after" : Str) [.var 0, .var 2, .var 3]) (.nm 3) (.seq (.call ("_law_open" : Str) [.var 0, .var 2])) none [(("_law_k" : Str), 3)])],
    .ret (.var 1)]⟩
def cf__law_ending : Fn := ⟨1, 6, [
    .asg (.nm 1) .dct0,
    .fr (.nm 2) (.seq (.var 0)) [.fr (.nm 5) (.seq (.idx (.var 0) (.var 2))) [.sub (.var 1) (.var 5) (.bin .add (.m2 .get (.var 1) (.var 5) (.lst [])) (.lst [.var 2]))]],
    .asg (.nm 3) (.comp (.var 2) (.nm 2) (.seq (.var 0)) (some (.cmp .is_ (.idx (.var 2) (.cint 0)) .cnon)) [(("_law_stand" : Str), 2)]),
    .asg (.nm 4) (.f1 .dict (.comp (.tup [.var 2, .cbl true]) (.nm 2) (.seq (.var 3)) none [(("_law_stand" : Str), 2)])),
    .wh (.var 3) [.asg (.nm 5) (.m0 .pop (.var 3)), .fr (.nm 2) (.seq (.m2 .get (.var 1) (.var 5) (.lst []))) [.iff (.cmp .nin (.var 2) (.var 4)) [.sub (.var 4) (.var 2) (.cbl true), .exp (.m1 .append (.var 3) (.var 2))] []]],
    .ret (.var 4)]⟩
def cf__law_counts : Fn := ⟨3, 7, [
    .iff (.cmp .isin (.var 1) (.var 2)) [.ret .cnon] [],
    .asg (.nm 3) (.f1 .int (.cmp .is_ (.idx (.var 1) (.cint 0)) .cnon)),
    .asg (.nm 4) (.cint 0),
    .fr (.nm 5) (.seq (.idx (.var 0) (.var 1))) [.asg (.nm 6) (.call ("_law_counts" : Str) [.var 0, .var 5, .bin .add (.var 2) (.tup [.var 1])]), .iff (.cmp .is_ (.var 6) .cnon) [.ret .cnon] [], .asg (.nm 3) (.bin .add (.var 3) (.idx (.var 6) (.cint 0))), .asg (.nm 4) (.f2 .max (.var 4) (.bin .add (.cint 1) (.idx (.var 6) (.cint 1))))],
    .ret (.tup [.var 3, .var 4])]⟩
def cf_must_pass : Fn := ⟨2, 3, [
    .ret (.f1 .all (.comp (.cmp .isin (.var 1) (.idx (.var 2) (.cint 2))) (.nm 2) (.seq (.call ("ends" : Str) [.var 0])) none [(("stand" : Str), 2)]))]⟩
def cf_passed : Fn := ⟨1, 4, [
    .asg (.nm 1) (.call ("ends" : Str) [.var 0]),
    .ret (.f1 .tuple (.comp (.idx (.var 2) (.cint 0)) (.nm 2) (.seq (.var 0)) (some (.f1 .all (.comp (.cmp .isin (.idx (.var 2) (.cint 0)) (.idx (.var 3) (.cint 2))) (.nm 3) (.seq (.var 1)) none [(("stand" : Str), 3)]))) [(("place" : Str), 2)]))]⟩
def cf__law_counts2 : Fn := ⟨3, 7, [
    .iff (.cmp .isin (.var 1) (.var 2)) [.ret .cnon] [],
    .asg (.nm 3) (.f1 .int (.cmp .is_ (.idx (.var 1) (.cint 0)) .cnon)),
    .asg (.nm 4) (.cint 0),
    .fr (.nm 5) (.seq (.idx (.var 0) (.var 1))) [.asg (.nm 6) (.call ("_law_counts" : Str) [.var 0, .var 5, .bin .add (.var 2) (.tup [.var 1])]), .iff (.cmp .is_ (.var 6) .cnon) [.ret .cnon] [], .asg (.nm 3) (.bin .add (.var 3) (.idx (.var 6) (.cint 0))), .asg (.nm 4) (.f2 .max (.var 4) (.bin .add (.cint 1) (.idx (.var 6) (.cint 1))))],
    .ret (.tup [.var 3, .var 4])]⟩
def cf__law_ends_without : Fn := ⟨2, 6, [
    .iff (.cmp .eq (.idx (.idx (.var 0) (.cint 0)) (.cint 0)) (.var 1)) [.ret (.cbl false)] [],
    .asg (.nm 2) (.lst [.call ("_law_begun" : Str) [.var 0]]),
    .asg (.nm 3) .dct0,
    .wh (.var 2) [.asg (.nm 4) (.m0 .pop (.var 2)), .iff (.cmp .is_ (.idx (.var 4) (.cint 0)) .cnon) [.ret (.cbl true)] [], .iff (.and (.cmp .nin (.var 4) (.var 3)) (.cmp .ne (.idx (.var 4) (.cint 0)) (.var 1))) [.sub (.var 3) (.var 4) (.cbl true), .exp (.m1 .extend (.var 2) (.comp (.call ("_law_after" : Str) [.var 0, .var 4, .var 5]) (.nm 5) (.seq (.call ("_law_open" : Str) [.var 0, .var 4])) none [(("_law_k" : Str), 5)]))] []],
    .ret (.cbl false)]⟩
def cf_in_order : Fn := ⟨1, 5, [
    .asg (.nm 1) .dct0,
    .asg (.nm 2) (.neg (.cint 1)),
    .wh (.cmp .ne (.f1 .len (.var 1)) (.var 2)) [.asg (.nm 2) (.f1 .len (.var 1)), .fr (.nm 3) (.seq (.var 0)) [.iff (.and (.cmp .nin (.var 3) (.var 1)) (.f1 .all (.comp (.cmp .isin (.var 4) (.var 1)) (.nm 4) (.seq (.idx (.var 0) (.var 3))) none [(("one" : Str), 4)]))) [.sub (.var 1) (.var 3) (.cbl true)] []]],
    .ret (.f1 .list (.var 1))]⟩
def cf_is_endless : Fn := ⟨1, 2, [
    .asg (.nm 1) (.call ("nexts_of" : Str) [.var 0]),
    .ret (.cmp .lt (.f1 .len (.call ("in_order" : Str) [.var 1])) (.f1 .len (.var 1)))]⟩
def cf_many_ways : Fn := ⟨1, 2, [
    .asg (.nm 1) (.call ("counted" : Str) [.var 0]),
    .iff (.cmp .is_ (.var 1) .cnon) [.ret .cnon] [],
    .ret (.idx (.var 1) (.cint 0))]⟩
def cf_longest : Fn := ⟨1, 2, [
    .asg (.nm 1) (.call ("counted" : Str) [.var 0]),
    .iff (.cmp .is_ (.var 1) .cnon) [.ret .cnon] [],
    .ret (.idx (.var 1) (.cint 1))]⟩
def cf_words_of : Fn := ⟨1, 3, [
    .asg (.nm 1) (.lst []),
    .fr (.nm 2) (.seq (.var 0)) [.iff (.isi (.var 2) .tuple) [.exp (.m1 .extend (.var 1) (.call ("words_of" : Str) [.var 2]))] [.exp (.m1 .append (.var 1) (.f1 .str (.var 2)))]],
    .ret (.var 1)]⟩
def cf_choice_rows : Fn := ⟨1, 8, [
    .asg (.tup [.nm 2, .nm 3, .nm 4, .nm 5, .nm 6]) (.var 0),
    .asg (.nm 1) (.lst [.bin .add (.cstr ("+ " : Str)) (.var 2)]),
    .iff (.var 6) [.asg (.nm 1) (.lst [.bin .add (.cstr ("* " : Str)) (.var 2)])] [],
    .iff (.cmp .isn (.var 3) .cnon) [.exp (.m1 .append (.var 1) (.bin .add (.cstr ("? " : Str)) (.m1 .join (.cstr (" " : Str)) (.call ("words_of" : Str) [.var 3]))))] [],
    .exp (.m1 .extend (.var 1) (.comp (.bin .add (.cstr ("! " : Str)) (.m1 .join (.cstr (" " : Str)) (.call ("words_of" : Str) [.var 7]))) (.nm 7) (.seq (.var 4)) none [(("deed" : Str), 7)])),
    .iff (.cmp .is_ (.var 5) .cnon) [.asg (.nm 5) (.cstr ("." : Str))] [],
    .ret (.bin .add (.var 1) (.lst [.bin .add (.cstr ("> " : Str)) (.var 5)]))]⟩
def cf_written : Fn := ⟨1, 7, [
    .asg (.nm 1) (.lst []),
    .fr (.tup [.nm 2, .nm 3, .nm 4]) (.seq (.var 0)) [.exp (.m1 .extend (.var 1) (.lst [.bin .add (.cstr ("= " : Str)) (.var 2), .bin .add (.cstr (": " : Str)) (.var 3)])), .fr (.nm 5) (.seq (.var 4)) [.exp (.m1 .extend (.var 1) (.call ("choice_rows" : Str) [.var 5]))]],
    .ret (.m1 .join (.cstr ("" : Str)) (.comp (.bin .add (.var 6) (.cstr ("\n" : Str))) (.nm 6) (.seq (.var 1)) none [(("row" : Str), 6)]))]⟩
def cf_number_in : Fn := ⟨1, 1, [
    .iff (.cmp .isin (.var 0) (.tup [.cstr ("-3" : Str), .cstr ("-2" : Str), .cstr ("-1" : Str), .cstr ("0" : Str), .cstr ("1" : Str), .cstr ("2" : Str), .cstr ("3" : Str)])) [.ret (.f1 .int (.var 0))] [],
    .ret (.var 0)]⟩
def cf_deed_of : Fn := ⟨1, 2, [
    .ret (.f1 .tuple (.comp (.call ("number_in" : Str) [.var 1]) (.nm 1) (.seq (.m1 .split (.var 0) (.cstr (" " : Str)))) none [(("word" : Str), 1)]))]⟩
def cf__law_words : Fn := ⟨1, 2, [
    .iff (.isi (.var 0) .tuple) [.ret (.m1 .join (.cstr (" " : Str)) (.comp (.call ("_law_words" : Str) [.var 1]) (.nm 1) (.seq (.var 0)) none [(("_law_part" : Str), 1)]))] [],
    .ret (.f1 .str (.var 0))]⟩
def cf__law_written : Fn := ⟨1, 11, [
    .asg (.nm 1) (.lst []),
    .fr (.tup [.nm 2, .nm 3, .nm 4]) (.seq (.var 0)) [.asg (.nm 1) (.bin .add (.var 1) (.lst [.bin .add (.cstr ("= " : Str)) (.var 2), .bin .add (.cstr (": " : Str)) (.var 3)])), .fr (.tup [.nm 5, .nm 6, .nm 7, .nm 8, .nm 9]) (.seq (.var 4)) [.exp (.m1 .append (.var 1) (.bin .add (.bin .add (.idx (.cstr ("+*" : Str)) (.f1 .int (.var 9))) (.cstr (" " : Str))) (.var 5))), .iff (.cmp .isn (.var 6) .cnon) [.exp (.m1 .append (.var 1) (.bin .add (.cstr ("? " : Str)) (.call ("_law_words" : Str) [.var 6])))] [], .asg (.nm 1) (.bin .add (.var 1) (.comp (.bin .add (.cstr ("! " : Str)) (.call ("_law_words" : Str) [.var 10])) (.nm 10) (.seq (.var 7)) none [(("_law_deed" : Str), 10)])), .exp (.m1 .append (.var 1) (.bin .add (.cstr ("> " : Str)) (.or (.var 8) (.cstr ("." : Str)))))]],
    .ret (.m1 .join (.cstr ("\n" : Str)) (.bin .add (.var 1) (.lst [.cstr ("" : Str)])))]⟩
def cf_test_with : Fn := ⟨3, 4, [
    .iff (.cmp .is_ (.var 0) .cnon) [.ret .cnon] [],
    .iff (.cmp .eq (.idx (.var 0) (.cint 0)) (.var 1)) [.ret (.bin .add (.tup [.var 1, .m2 .get (.var 2) (.idx (.var 0) (.cint 1)) (.idx (.var 0) (.cint 1))]) (.slc (.var 0) (some (.cint 2)) none))] [],
    .ret (.f1 .tuple (.comp (.ite (.isi (.var 3) .tuple) (.call ("test_with" : Str) [.var 3, .var 1, .var 2]) (.var 3)) (.nm 3) (.seq (.var 0)) none [(("part" : Str), 3)]))]⟩
def cf__law_with : Fn := ⟨3, 4, [
    .iff (.and (.isi (.var 0) .tuple) (.cmp .eq (.slc (.var 0) none (some (.cint 1))) (.tup [.var 1]))) [.ret (.bin .add (.tup [.var 1, .m2 .get (.var 2) (.idx (.var 0) (.cint 1)) (.idx (.var 0) (.cint 1))]) (.slc (.var 0) (some (.cint 2)) none))] [],
    .iff (.isi (.var 0) .tuple) [.ret (.f1 .tuple (.comp (.call ("_law_with" : Str) [.var 3, .var 1, .var 2]) (.nm 3) (.seq (.var 0)) none [(("_law_part" : Str), 3)]))] [],
    .ret (.var 0)]⟩
def cf__law_renamed : Fn := ⟨2, 12, [
    .asg (.nm 2) (.lst []),
    .fr (.tup [.nm 3, .nm 4, .nm 5]) (.seq (.var 0)) [.asg (.nm 6) (.lst []), .fr (.tup [.nm 7, .nm 8, .nm 9, .nm 10, .nm 11]) (.seq (.var 5)) [.exp (.m1 .append (.var 6) (.tup [.var 7, .call ("_law_with" : Str) [.var 8, .cstr ("been" : Str), .var 1], .var 9, .m2 .get (.var 1) (.var 10) (.var 10), .var 11]))], .exp (.m1 .append (.var 2) (.tup [.m2 .get (.var 1) (.var 3) (.var 3), .var 4, .f1 .tuple (.var 6)]))],
    .ret (.f1 .tuple (.var 2))]⟩
def cf__law_swapped : Fn := ⟨2, 16, [
    .asg (.nm 2) (.lst []),
    .fr (.tup [.nm 3, .nm 4, .nm 5]) (.seq (.var 0)) [.asg (.nm 6) (.lst []), .fr (.tup [.nm 7, .nm 8, .nm 9, .nm 10, .nm 11]) (.seq (.var 5)) [.asg (.nm 12) (.f1 .tuple (.comp (.tup [.var 13, .m2 .get (.var 1) (.var 14) (.var 14), .var 15]) (.tup [.nm 13, .nm 14, .nm 15]) (.seq (.var 9)) none [(("_law_word" : Str), 13), (("_law_key" : Str), 14), (("_law_number" : Str), 15)])), .exp (.m1 .append (.var 6) (.tup [.var 7, .call ("_law_with" : Str) [.var 8, .cstr ("has" : Str), .var 1], .var 12, .var 10, .var 11]))], .exp (.m1 .append (.var 2) (.tup [.var 3, .var 4, .f1 .tuple (.var 6)]))],
    .ret (.f1 .tuple (.var 2))]⟩
def cf_folded : Fn := ⟨2, 6, [
    .iff (.cmp .eq (.idx (.var 0) (.cint 0)) (.cstr ("has" : Str))) [.ret (.var 0)] [],
    .iff (.cmp .eq (.idx (.var 0) (.cint 0)) (.cstr ("been" : Str))) [.ret (.ite (.cmp .isin (.idx (.var 0) (.cint 1)) (.var 1)) (.cbl false) (.var 0))] [],
    .asg (.nm 2) (.comp (.call ("folded" : Str) [.var 5, .var 1]) (.nm 5) (.seq (.slc (.var 0) (some (.cint 1)) none)) none [(("part" : Str), 5)]),
    .asg (.nm 3) (.comp (.var 5) (.nm 5) (.seq (.var 2)) (some (.not (.isi (.var 5) .bool))) [(("part" : Str), 5)]),
    .iff (.cmp .eq (.idx (.var 0) (.cint 0)) (.cstr ("not" : Str))) [.ret (.ite (.var 3) (.tup [.cstr ("not" : Str), .idx (.var 2) (.cint 0)]) (.not (.idx (.var 2) (.cint 0))))] [],
    .iff (.not (.var 3)) [.ret (.ite (.cmp .eq (.idx (.var 0) (.cint 0)) (.cstr ("and" : Str))) (.f1 .all (.var 2)) (.f1 .any (.var 2)))] [],
    .iff (.cmp .eq (.f1 .len (.var 3)) (.cint 2)) [.ret (.bin .add (.tup [.idx (.var 0) (.cint 0)]) (.f1 .tuple (.var 3)))] [],
    .asg (.nm 4) (.idx (.comp (.var 5) (.nm 5) (.seq (.var 2)) (some (.isi (.var 5) .bool)) [(("part" : Str), 5)]) (.cint 0)),
    .ret (.ite (.cmp .eq (.var 4) (.cmp .eq (.idx (.var 0) (.cint 0)) (.cstr ("and" : Str)))) (.idx (.var 3) (.cint 0)) (.var 4))]⟩
def cf_cut : Fn := ⟨1, 12, [
    .asg (.nm 1) (.call ("unreached" : Str) [.var 0]),
    .asg (.nm 2) (.call ("never_open" : Str) [.var 0]),
    .asg (.nm 3) (.lst []),
    .fr (.tup [.nm 4, .nm 5, .nm 6]) (.seq (.var 0)) [.asg (.nm 7) (.lst []), .fr (.tup [.nm 8, .nm 9]) (.enum (.var 6)) [.iff (.cmp .nin (.tup [.var 4, .var 8]) (.var 2)) [.asg (.nm 10) (.idx (.var 9) (.cint 1)), .iff (.comp (.var 11) (.nm 11) (.seq (.call ("names_been" : Str) [.var 10])) (some (.cmp .isin (.var 11) (.var 1))) [(("one" : Str), 11)]) [.asg (.nm 10) (.call ("folded" : Str) [.var 10, .var 1]), .iff (.cmp .is_ (.var 10) (.cbl true)) [.asg (.nm 10) .cnon] []] [], .exp (.m1 .append (.var 7) (.bin .add (.tup [.idx (.var 9) (.cint 0), .var 10]) (.slc (.var 9) (some (.cint 2)) none)))] []], .iff (.cmp .nin (.var 4) (.var 1)) [.exp (.m1 .append (.var 3) (.tup [.var 4, .var 5, .f1 .tuple (.var 7)]))] []],
    .ret (.f1 .tuple (.var 3))]⟩
def cf_is_so : Fn := ⟨2, 2, [
    .ret (.call ("holds" : Str) [.var 1, .idx (.var 0) (.cint 1), .idx (.var 0) (.cint 2)])]⟩
def cf_ever : Fn := ⟨2, 3, [
    .ret (.f1 .any (.comp (.call ("is_so" : Str) [.var 2, .var 1]) (.nm 2) (.seq (.call ("reach" : Str) [.var 0])) none [(("stand" : Str), 2)]))]⟩
def cf_always : Fn := ⟨2, 3, [
    .ret (.f1 .all (.comp (.call ("is_so" : Str) [.var 2, .var 1]) (.nm 2) (.seq (.call ("reach" : Str) [.var 0])) none [(("stand" : Str), 2)]))]⟩
def cf__law_test2 : Fn := ⟨2, 3, [
    .asg (.nm 2) (.call ("_law_mix" : Str) [.var 0, .cint 9973, .cint 7]),
    .iff (.or (.cmp .lt (.var 2) (.cint 3)) (.cmp .lt (.var 1) (.cint 2))) [.iff (.cmp .eq (.bin .mod (.var 2) (.cint 2)) (.cint 0)) [.ret (.tup [.cstr ("has" : Str), .idx (.tup [.cstr ("x" : Str), .cstr ("y" : Str)]) (.call ("_law_mix" : Str) [.var 0, .cint 9967, .cint 2]), .bin .add (.cint 1) (.call ("_law_mix" : Str) [.var 0, .cint 9949, .cint 3])])] [], .ret (.tup [.cstr ("been" : Str), .idx (.tup [.cstr ("a" : Str), .cstr ("b" : Str), .cstr ("c" : Str), .cstr ("d" : Str)]) (.call ("_law_mix" : Str) [.var 0, .cint 9941, .cint 4])])] [],
    .iff (.cmp .eq (.var 2) (.cint 3)) [.ret (.tup [.cstr ("not" : Str), .call ("_law_test" : Str) [.bin .add (.var 0) (.cint 1), .bin .sub (.var 1) (.cint 1)]])] [],
    .ret (.tup [.idx (.tup [.cstr ("and" : Str), .cstr ("or" : Str)]) (.bin .mod (.var 2) (.cint 2)), .call ("_law_test" : Str) [.bin .add (.var 0) (.cint 2), .bin .sub (.var 1) (.cint 1)], .call ("_law_test" : Str) [.bin .add (.var 0) (.cint 5), .bin .sub (.var 1) (.cint 1)]])]⟩
def cf__law_of_talk : Fn := ⟨3, 7, [
    .asg (.nm 3) (.call ("_law_test" : Str) [.var 0, .var 2]),
    .asg (.nm 4) (.comp (.idx (.var 5) (.cint 0)) (.nm 5) (.seq (.var 1)) none [(("_law_place" : Str), 5)]),
    .iff (.cmp .ne (.comp (.var 6) (.nm 6) (.seq (.call ("_law_places_of" : Str) [.var 3])) (some (.cmp .nin (.var 6) (.var 4))) [(("_law_name" : Str), 6)]) (.lst [])) [.ret (.tup [.cstr ("has" : Str), .idx (.tup [.cstr ("x" : Str), .cstr ("y" : Str)]) (.call ("_law_mix" : Str) [.var 0, .cint 9433, .cint 2]), .bin .add (.cint 1) (.call ("_law_mix" : Str) [.var 0, .cint 9431, .cint 2])])] [],
    .ret (.var 3)]⟩
def cf__law_is_so : Fn := ⟨2, 2, [
    .ret (.call ("_law_holds" : Str) [.var 1, .idx (.var 0) (.cint 1), .idx (.var 0) (.cint 2)])]⟩
def cf_missing : Fn := ⟨2, 6, [
    .asg (.nm 2) (.f1 .dict (.comp (.tup [.var 4, .cbl true]) (.nm 4) (.seq (.var 0)) (some (.not (.call ("is_so" : Str) [.var 4, .var 1]))) [(("stand" : Str), 4)])),
    .asg (.nm 3) (.neg (.cint 1)),
    .wh (.cmp .ne (.f1 .len (.var 2)) (.var 3)) [.asg (.nm 3) (.f1 .len (.var 2)), .fr (.nm 4) (.seq (.f1 .list (.var 2))) [.iff (.and (.idx (.var 0) (.var 4)) (.not (.f1 .any (.comp (.cmp .isin (.var 5) (.var 2)) (.nm 5) (.seq (.idx (.var 0) (.var 4))) none [(("one" : Str), 5)])))) [.exp (.m1 .popat (.var 2) (.var 4))] []]],
    .ret (.var 2)]⟩
def cf_comes : Fn := ⟨2, 2, [
    .ret (.cmp .nin (.call ("begun" : Str) [.var 0]) (.call ("missing" : Str) [.call ("nexts_of" : Str) [.var 0], .var 1]))]⟩
def cf_miss : Fn := ⟨2, 9, [
    .asg (.nm 2) (.call ("missing" : Str) [.call ("nexts_of" : Str) [.var 0], .var 1]),
    .asg (.nm 3) (.call ("begun" : Str) [.var 0]),
    .iff (.cmp .nin (.var 3) (.var 2)) [.ret .cnon] [],
    .asg (.nm 4) (.lst [.var 3]),
    .asg (.nm 5) (.tup []),
    .wh (.call ("open_at" : Str) [.var 0, .var 3]) [.asg (.nm 6) (.comp (.var 8) (.nm 8) (.seq (.call ("open_at" : Str) [.var 0, .var 3])) (some (.cmp .isin (.call ("after" : Str) [.var 0, .var 3, .var 8]) (.var 2))) [(("number" : Str), 8)]), .asg (.nm 5) (.bin .add (.var 5) (.tup [.idx (.var 6) (.cint 0)])), .asg (.nm 3) (.call ("after" : Str) [.var 0, .var 3, .idx (.var 6) (.cint 0)]), .iff (.cmp .isin (.var 3) (.var 4)) [.asg (.nm 7) (.m1 .index (.var 4) (.var 3)), .ret (.tup [.slc (.var 5) none (some (.var 7)), .slc (.var 5) (some (.var 7)) none])] [], .exp (.m1 .append (.var 4) (.var 3))],
    .ret (.tup [.var 5, .tup []])]⟩
def cf_is_whole : Fn := ⟨1, 1, [
    .ret (.and (.isi (.var 0) .int) (.and (.not (.isi (.var 0) .bool)) (.cmp .ge (.var 0) (.cint 0))))]⟩
def cf_stands_on : Fn := ⟨3, 5, [
    .asg (.nm 3) (.lst []),
    .fr (.nm 4) (.seq (.var 2)) [.iff (.cmp .nin (.var 4) (.call ("open_at" : Str) [.var 0, .var 1])) [.ret .cnon] [], .asg (.nm 1) (.call ("after" : Str) [.var 0, .var 1, .var 4]), .exp (.m1 .append (.var 3) (.var 1))],
    .ret (.var 3)]⟩
def cf_is_miss : Fn := ⟨3, 7, [
    .iff (.or (.not (.isi (.var 2) .tuple)) (.or (.cmp .ne (.f1 .len (.var 2)) (.cint 2)) (.not (.f1 .all (.comp (.isi (.var 6) .tuple) (.nm 6) (.seq (.var 2)) none [(("part" : Str), 6)]))))) [.ret (.cbl false)] [],
    .iff (.not (.f1 .all (.comp (.call ("is_whole" : Str) [.var 5]) (.nm 5) (.seq (.bin .add (.idx (.var 2) (.cint 0)) (.idx (.var 2) (.cint 1)))) none [(("number" : Str), 5)]))) [.ret (.cbl false)] [],
    .asg (.nm 3) (.call ("stands_on" : Str) [.var 0, .call ("begun" : Str) [.var 0], .bin .add (.idx (.var 2) (.cint 0)) (.idx (.var 2) (.cint 1))]),
    .iff (.cmp .is_ (.var 3) .cnon) [.ret (.cbl false)] [],
    .asg (.nm 3) (.bin .add (.lst [.call ("begun" : Str) [.var 0]]) (.var 3)),
    .iff (.f1 .any (.comp (.call ("is_so" : Str) [.var 4, .var 1]) (.nm 4) (.seq (.var 3)) none [(("stand" : Str), 4)])) [.ret (.cbl false)] [],
    .iff (.not (.idx (.var 2) (.cint 1))) [.ret (.not (.call ("open_at" : Str) [.var 0, .idx (.var 3) (.neg (.cint 1))]))] [],
    .ret (.cmp .eq (.idx (.var 3) (.neg (.cint 1))) (.idx (.var 3) (.f1 .len (.idx (.var 2) (.cint 0)))))]⟩
def cf_leads : Fn := ⟨3, 6, [
    .asg (.nm 3) (.call ("nexts_of" : Str) [.var 0]),
    .asg (.nm 4) (.call ("missing" : Str) [.var 3, .var 2]),
    .ret (.not (.f1 .any (.comp (.and (.call ("is_so" : Str) [.var 5, .var 1]) (.cmp .isin (.var 5) (.var 4))) (.nm 5) (.seq (.var 3)) none [(("stand" : Str), 5)])))]⟩
def cf__law_sure : Fn := ⟨2, 6, [
    .asg (.nm 2) (.f1 .dict (.comp (.tup [.var 4, .cbl true]) (.nm 4) (.seq (.var 0)) (some (.call ("_law_is_so" : Str) [.var 4, .var 1])) [(("_law_stand" : Str), 4)])),
    .asg (.nm 3) (.neg (.cint 1)),
    .wh (.cmp .ne (.f1 .len (.var 2)) (.var 3)) [.asg (.nm 3) (.f1 .len (.var 2)), .fr (.nm 4) (.seq (.var 0)) [.iff (.and (.cmp .nin (.var 4) (.var 2)) (.and (.cmp .ne (.idx (.var 0) (.var 4)) (.lst [])) (.cmp .eq (.comp (.var 5) (.nm 5) (.seq (.idx (.var 0) (.var 4))) (some (.cmp .nin (.var 5) (.var 2))) [(("_law_one" : Str), 5)]) (.lst [])))) [.sub (.var 2) (.var 4) (.cbl true)] []]],
    .ret (.var 2)]⟩
def cf__law_is_miss : Fn := ⟨3, 7, [
    .asg (.nm 3) (.call ("_law_begun" : Str) [.var 0]),
    .asg (.nm 4) (.lst [.var 3]),
    .fr (.nm 5) (.seq (.bin .add (.idx (.var 2) (.cint 0)) (.idx (.var 2) (.cint 1)))) [.iff (.cmp .nin (.var 5) (.call ("_law_open" : Str) [.var 0, .var 3])) [.ret (.cbl false)] [], .asg (.nm 3) (.call ("_law_after" : Str) [.var 0, .var 3, .var 5]), .exp (.m1 .append (.var 4) (.var 3))],
    .iff (.cmp .ne (.comp (.var 6) (.nm 6) (.seq (.var 4)) (some (.call ("_law_is_so" : Str) [.var 6, .var 1])) [(("_law_one" : Str), 6)]) (.lst [])) [.ret (.cbl false)] [],
    .iff (.cmp .eq (.idx (.var 2) (.cint 1)) (.tup [])) [.ret (.cmp .eq (.call ("_law_open" : Str) [.var 0, .var 3]) (.tup []))] [],
    .ret (.cmp .eq (.var 3) (.idx (.var 4) (.f1 .len (.idx (.var 2) (.cint 0)))))]⟩
def cf_common : Fn := ⟨2, 2, [
    .wh (.var 1) [.swp [0, 1] [.var 1, .bin .mod (.var 0) (.var 1)]],
    .ret (.var 0)]⟩
def cf_fraction : Fn := ⟨2, 3, [
    .asg (.nm 2) (.call ("common" : Str) [.var 0, .var 1]),
    .ret (.tup [.bin .fdiv (.var 0) (.var 2), .bin .fdiv (.var 1) (.var 2)])]⟩
def cf_plus : Fn := ⟨2, 2, [
    .ret (.call ("fraction" : Str) [.bin .add (.bin .mul (.idx (.var 0) (.cint 0)) (.idx (.var 1) (.cint 1))) (.bin .mul (.idx (.var 1) (.cint 0)) (.idx (.var 0) (.cint 1))), .bin .mul (.idx (.var 0) (.cint 1)) (.idx (.var 1) (.cint 1))])]⟩
def cf_total : Fn := ⟨1, 3, [
    .asg (.nm 1) (.tup [.cint 0, .cint 1]),
    .fr (.nm 2) (.seq (.var 0)) [.asg (.nm 1) (.call ("plus" : Str) [.var 1, .var 2])],
    .ret (.var 1)]⟩
def cf_spread : Fn := ⟨2, 9, [
    .asg (.nm 2) (.dct1 (.call ("begun" : Str) [.var 0]) (.tup [.cint 1, .cint 1])),
    .fr (.nm 3) (.range (.var 1)) [.asg (.nm 4) .dct0, .fr (.nm 5) (.seq (.var 2)) [.asg (.nm 6) (.or (.call ("next_stands" : Str) [.var 0, .var 5]) (.lst [.var 5])), .fr (.nm 7) (.seq (.var 6)) [.asg (.nm 8) (.call ("fraction" : Str) [.idx (.idx (.var 2) (.var 5)) (.cint 0), .bin .mul (.idx (.idx (.var 2) (.var 5)) (.cint 1)) (.f1 .len (.var 6))]), .sub (.var 4) (.var 7) (.call ("plus" : Str) [.m2 .get (.var 4) (.var 7) (.tup [.cint 0, .cint 1]), .var 8])]], .asg (.nm 2) (.var 4)],
    .ret (.var 2)]⟩
def cf_chances : Fn := ⟨2, 4, [
    .asg (.nm 2) (.call ("spread" : Str) [.var 0, .var 1]),
    .ret (.f1 .tuple (.comp (.tup [.var 3, .idx (.var 2) (.var 3)]) (.nm 3) (.seq (.call ("reach" : Str) [.var 0])) (some (.cmp .isin (.var 3) (.var 2))) [(("stand" : Str), 3)]))]⟩
def cf_chance_at : Fn := ⟨3, 5, [
    .ret (.call ("total" : Str) [.comp (.var 4) (.tup [.nm 3, .nm 4]) (.seq (.call ("chances" : Str) [.var 0, .var 2])) (some (.cmp .eq (.idx (.var 3) (.cint 0)) (.var 1))) [(("stand" : Str), 3), (("one" : Str), 4)]])]⟩
def cf_chance_been : Fn := ⟨3, 5, [
    .ret (.call ("total" : Str) [.comp (.var 4) (.tup [.nm 3, .nm 4]) (.seq (.call ("chances" : Str) [.var 0, .var 2])) (some (.cmp .isin (.var 1) (.idx (.var 3) (.cint 2)))) [(("stand" : Str), 3), (("one" : Str), 4)]])]⟩
def cf__law_done3 : Fn := ⟨2, 7, [
    .fr (.tup [.nm 2, .nm 3, .nm 4]) (.seq (.var 1)) [.asg (.nm 5) (.idx (.bin .add (.comp (.idx (.var 6) (.cint 1)) (.nm 6) (.seq (.var 0)) (some (.cmp .eq (.idx (.var 6) (.cint 0)) (.var 3))) [(("_law_one_here" : Str), 6)]) (.lst [.cint 0])) (.cint 0)), .iff (.cmp .eq (.var 2) (.cstr ("add" : Str))) [.asg (.nm 4) (.idx (.f1 .sorted (.lst [.cint 0, .bin .add (.var 5) (.var 4), .cint 3])) (.cint 1))] [], .asg (.nm 0) (.bin .add (.comp (.var 6) (.nm 6) (.seq (.var 0)) (some (.cmp .ne (.idx (.var 6) (.cint 0)) (.var 3))) [(("_law_one_here" : Str), 6)]) (.bin .mul (.lst [.tup [.var 3, .var 4]]) (.f1 .int (.cmp .gt (.var 4) (.cint 0)))))],
    .ret (.f1 .tuple (.f1 .sorted (.var 0)))]⟩
def cf__law_one : Fn := ⟨2, 4, [
    .swp [2, 3] [.var 0, .var 1],
    .wh (.cmp .gt (.var 3) (.cint 0)) [.swp [2, 3] [.var 3, .bin .mod (.var 2) (.var 3)]],
    .ret (.tup [.bin .fdiv (.var 0) (.var 2), .bin .fdiv (.var 1) (.var 2)])]⟩
def cf__law_plus : Fn := ⟨1, 4, [
    .swp [2, 3] [.cint 0, .cint 1],
    .fr (.nm 1) (.seq (.var 0)) [.asg (.nm 2) (.bin .add (.bin .mul (.var 2) (.idx (.var 1) (.cint 1))) (.bin .mul (.idx (.var 1) (.cint 0)) (.var 3))), .asg (.nm 3) (.bin .mul (.var 3) (.idx (.var 1) (.cint 1)))],
    .ret (.call ("_law_one" : Str) [.var 2, .var 3])]⟩
def cf__law_spread : Fn := ⟨2, 10, [
    .asg (.nm 2) (.dct1 (.call ("_law_begun" : Str) [.var 0]) (.tup [.cint 1, .cint 1])),
    .fr (.nm 3) (.range (.var 1)) [.asg (.nm 4) .dct0, .fr (.nm 5) (.seq (.var 2)) [.asg (.nm 6) (.comp (.call ("_law_after" : Str) [.var 0, .var 5, .var 9]) (.nm 9) (.seq (.call ("_law_open" : Str) [.var 0, .var 5])) none [(("_law_k" : Str), 9)]), .iff (.cmp .eq (.var 6) (.lst [])) [.asg (.nm 6) (.lst [.var 5])] [], .fr (.nm 7) (.seq (.var 6)) [.asg (.nm 8) (.tup [.idx (.idx (.var 2) (.var 5)) (.cint 0), .bin .mul (.idx (.idx (.var 2) (.var 5)) (.cint 1)) (.f1 .len (.var 6))]), .sub (.var 4) (.var 7) (.call ("_law_plus" : Str) [.lst [.m2 .get (.var 4) (.var 7) (.tup [.cint 0, .cint 1]), .var 8]])]], .asg (.nm 2) (.var 4)],
    .ret (.var 2)]⟩
end BT

/-! Shared defs: what they tell. -/
namespace BT
open PySem
def mix (c p m : Int) : Int := (((c * 48271).fmod p * ((c * 48271).fmod p + 7)).fmod p).fmod m
theorem mix_run {P : Prog} (lk_mix : P.lookup (Str.ofString "_law_mix") = some cf__law_mix) {n : Nat} {M : Sto} {c p m : Int} (hp : 0 < p) (hp2 : p < 100000) (hm : m ≠ 0) : run P (n + 1) (Str.ofString "_law_mix") [.int c, .int p, .int m] M = .ok (.int (mix c p m)) M := by
  refine run_rt lk_mix rfl (by decide) (M' := M) ?_ rfl (by simp)
  have h1 : 0 ≤ (c * 48271).fmod p := Int.fmod_nonneg_of_pos _ hp
  have h2 : (c * 48271).fmod p < p := Int.fmod_lt_of_pos _ hp
  have h3 : -18446744073709551616 < (c * 48271).fmod p ∧ (c * 48271).fmod p < 18446744073709551616 := ⟨by omega, by omega⟩
  have h4 : p ≠ 0 := by omega
  simp [cf__law_mix, h3, h4, hm, mix]
theorem mix_range {c p m : Int} (hm : 0 < m) : 0 ≤ mix c p m ∧ mix c p m < m := ⟨Int.fmod_nonneg_of_pos _ hm, Int.fmod_lt_of_pos _ hm⟩

inductive Tst where
  | has (x : Str) (n : Int) | been (a : Str) | nt (t : Tst) | an (a b : Tst) | orr (a b : Tst)
def encT : Tst → D
  | .has x n => .tup [.str (Str.ofString "has"), .str x, .int n]
  | .been a => .tup [.str (Str.ofString "been"), .str a]
  | .nt t => .tup [.str (Str.ofString "not"), encT t]
  | .an a b => .tup [.str (Str.ofString "and"), encT a, encT b]
  | .orr a b => .tup [.str (Str.ofString "or"), encT a, encT b]
def Tst.ht : Tst → Nat
  | .has _ _ => 1 | .been _ => 1
  | .nt t => t.ht + 1
  | .an a b => max a.ht b.ht + 1
  | .orr a b => max a.ht b.ht + 1
def Tst.wf : Tst → Prop
  | .has _ n => 1 ≤ n
  | .been _ => True
  | .nt t => t.wf
  | .an a b => a.wf ∧ b.wf
  | .orr a b => a.wf ∧ b.wf
theorem encT_pure : ∀ t, (encT t).pure = true
  | .has _ _ => rfl
  | .been _ => rfl
  | .nt t => by simp [encT, D.bel, D.bels, encT_pure t]
  | .an a b => by simp [encT, D.bel, D.bels, encT_pure a, encT_pure b]
  | .orr a b => by simp [encT, D.bel, D.bels, encT_pure a, encT_pure b]
theorem test_run {P : Prog} (lk_mix : P.lookup (Str.ofString "_law_mix") = some cf__law_mix) (lk_test : P.lookup (Str.ofString "_law_test") = some cf__law_test) : ∀ (deep : Nat) (c : Int) (n : Nat) (M : Sto), deep + 2 ≤ n → 1 ≤ deep → ∃ t : Tst, t.wf ∧ t.ht ≤ deep ∧ run P n (Str.ofString "_law_test") [.int c, .int deep] M = .ok (encT t) M := by
  intro deep
  induction deep with
  | zero => intro c n M _ h; omega
  | succ deep ih =>
    intro c n M hn h1
    obtain ⟨n, rfl⟩ : ∃ k, n = k + 2 := ⟨n - 2, by omega⟩
    obtain ⟨x, hx, ex⟩ := pick (xs := [Str.ofString "x", Str.ofString "y"]) (mix_range (c := c) (p := 9967) (m := 2) (by decide))
    obtain ⟨y, hy, ey⟩ := pick (xs := [Str.ofString "a", Str.ofString "b", Str.ofString "c", Str.ofString "d"]) (mix_range (c := c) (p := 9941) (m := 4) (by decide))
    have r3 := mix_range (c := c) (p := 9949) (m := 3) (by decide)
    have f0 : ∀ k, k ≤ 5 → fits k = true := fun k hk => fits_of (by omega)
    simp only [List.map_cons, List.map_nil] at ex ey
    by_cases w3 : mix c 9973 7 < 3 ∨ (deep : Int) + 1 < 2
    · by_cases w0 : (mix c 9973 7).fmod 2 = 0
      · refine ⟨.has x (1 + mix c 9949 3), by simp only [Tst.wf]; omega, by simp [Tst.ht], run_rt lk_test rfl (by decide) (M' := M) ?_ (encT_pure _) (by simp)⟩
        simp [cf__law_test, mix_run lk_mix, w0, w3, ex, f0, encT]
      · refine ⟨.been y, trivial, by simp [Tst.ht], run_rt lk_test rfl (by decide) (M' := M) ?_ (encT_pure _) (by simp)⟩
        simp [cf__law_test, mix_run lk_mix, w0, w3, ey, f0, encT]
    · have d1 : 1 ≤ deep := by omega
      have d2 : ¬ ((deep : Int) + 1 < 2) := by omega
      obtain ⟨t1, q1, q2, q3⟩ := ih (c + 1) (n + 1) M (by omega) d1
      obtain ⟨t2, u1, u2, u3⟩ := ih (c + 2) (n + 1) M (by omega) d1
      obtain ⟨t5, v1, v2, v3⟩ := ih (c + 5) (n + 1) M (by omega) d1
      by_cases w0 : mix c 9973 7 = 3
      · refine ⟨.nt t1, q1, by simp only [Tst.ht]; omega, run_rt lk_test rfl (by decide) (M' := M) ?_ (encT_pure _) (by simp)⟩
        simp [cf__law_test, mix_run lk_mix, w0, d2, f0, encT, q3]
      · have r2 : 0 ≤ (mix c 9973 7).fmod 2 ∧ (mix c 9973 7).fmod 2 < 2 := ⟨Int.fmod_nonneg_of_pos _ (by decide), Int.fmod_lt_of_pos _ (by decide)⟩
        by_cases w2 : (mix c 9973 7).fmod 2 = 0
        · refine ⟨.an t2 t5, ⟨u1, v1⟩, by simp only [Tst.ht]; omega, run_rt lk_test rfl (by decide) (M' := M) ?_ (encT_pure _) (by simp)⟩
          simp [cf__law_test, mix_run lk_mix, w0, w3, w2, f0, encT, u3, v3]
        · have w2 : (mix c 9973 7).fmod 2 = 1 := by omega
          refine ⟨.orr t2 t5, ⟨u1, v1⟩, by simp only [Tst.ht]; omega, run_rt lk_test rfl (by decide) (M' := M) ?_ (encT_pure _) (by simp)⟩
          simp [cf__law_test, mix_run lk_mix, w0, w3, w2, f0, encT, u3, v3]
/-! ### whether it holds -/
def hold (b : Book) (s : List Str) : Tst → Bool
  | .has x n => decide (n ≤ (b.lookup x).getD 0)
  | .been a => decide (a ∈ s)
  | .nt t => !hold b s t
  | .an p q => hold b s p && hold b s q
  | .orr p q => hold b s p || hold b s q
theorem holds_run {P : Prog} (lk_holds : P.lookup (Str.ofString "holds") = some cf_holds) {b : Book} {s : List Str} (hb : b.length ≤ 1000) (hn : (b.map (·.1)).Nodup) : ∀ (t : Tst) (n : Nat) (M : Sto), t.ht ≤ n → run P n (Str.ofString "holds") [encT t, encB b, encS s] M = .ok (.bl (hold b s t)) M
  | .has x k, n, M, h => by
    simp only [Tst.ht] at h
    obtain ⟨n, rfl⟩ : ∃ k, n = k + 1 := ⟨n - 1, by omega⟩
    refine run_rt lk_holds rfl (by decide) (M' := M) ?_ rfl (by simp)
    have e : (Option.map D.int (b.lookup x)).getD (.int 0) = .int ((b.lookup x).getD 0) := by cases b.lookup x <;> rfl
    simp [cf_holds, encT, dict_bookN hb hn, m2K, e, hold]
  | .been a, n, M, h => by
    simp only [Tst.ht] at h
    obtain ⟨n, rfl⟩ : ∃ k, n = k + 1 := ⟨n - 1, by omega⟩
    refine run_rt lk_holds rfl (by decide) (M' := M) ?_ rfl (by simp)
    simp [cf_holds, encT, in_strs, hold]
  | .nt t, n, M, h => by
    simp only [Tst.ht] at h
    obtain ⟨n, rfl⟩ : ∃ k, n = k + 1 := ⟨n - 1, by omega⟩
    refine run_rt lk_holds rfl (by decide) (M' := M) ?_ rfl (by simp)
    simp [cf_holds, encT, holds_run lk_holds hb hn t n M (by omega), hold]
  | .an p q, n, M, h => by
    simp only [Tst.ht] at h
    obtain ⟨n, rfl⟩ : ∃ k, n = k + 1 := ⟨n - 1, by omega⟩
    refine run_rt lk_holds rfl (by decide) (M' := M) ?_ rfl (by simp)
    simp [cf_holds, encT, holds_run lk_holds hb hn p n M (by omega), holds_run lk_holds hb hn q n M (by omega), hold]
  | .orr p q, n, M, h => by
    simp only [Tst.ht] at h
    obtain ⟨n, rfl⟩ : ∃ k, n = k + 1 := ⟨n - 1, by omega⟩
    refine run_rt lk_holds rfl (by decide) (M' := M) ?_ rfl (by simp)
    simp [cf_holds, encT, holds_run lk_holds hb hn p n M (by omega), holds_run lk_holds hb hn q n M (by omega), hold]
theorem hit_has {b : Book} (hn : (b.map (·.1)).Nodup) {x : Str} {k : Int} (hk : 1 ≤ k) : (b.filterMap fun p => if p.1 = x ∧ k ≤ p.2 then some (1 : Int) else none).isEmpty = !decide (k ≤ (b.lookup x).getD 0) := by
  induction b with
  | nil =>
    have : ¬ k ≤ 0 := by omega
    simp [this]
  | cons p b ih =>
    rw [List.map_cons, List.nodup_cons] at hn
    rw [List.filterMap_cons, List.lookup_cons]
    by_cases h : p.1 = x
    · have e : b.lookup x = none := List.lookup_eq_none_iff.mpr fun q hq => by
        have : x ≠ q.1 := fun z => hn.1 (by rw [h, z]; exact List.mem_map_of_mem hq)
        simpa using this
      have ih := ih hn.2
      rw [e] at ih
      have hk0 : ¬ k ≤ 0 := by omega
      have hb : (x == p.1) = true := by simp [h]
      rw [hb]
      by_cases h2 : k ≤ p.2
      · simp [h, h2]
      · simp only [h, h2, and_false, if_false]
        rw [ih]
        simp [h2, hk0]
    · have hb : (x == p.1) = false := by simp; exact fun z => h z.symm
      rw [hb]
      simp only [h, false_and, if_false]
      exact ih hn.2
theorem lholds_run {P : Prog} (lk_lholds : P.lookup (Str.ofString "_law_holds") = some cf__law_holds) {b : Book} {s : List Str} (hb : b.length ≤ 1000) (hn : (b.map (·.1)).Nodup) : ∀ (t : Tst) (n : Nat) (M : Sto), t.wf → t.ht ≤ n → run P n (Str.ofString "_law_holds") [encT t, encB b, encS s] M = .ok (.bl (hold b s t)) M
  | .has x k, n, M, w, h => by
    simp only [Tst.ht] at h
    obtain ⟨n, rfl⟩ : ∃ k, n = k + 1 := ⟨n - 1, by omega⟩
    refine run_rt lk_lholds rfl (by decide) (M' := M) ?_ rfl (by simp)
    simp [cf__law_holds, encT]
    rw [comp_val (M1 := M) (xs := b) (en := encP) (kp := []) (fun p => (if p.1 = x ∧ k ≤ p.2 then some (1 : Int) else none).map .int) (by simp) rfl (by intro p hp; simp [compB, encP]; split <;> rfl)]
    rw [← List.map_filterMap]
    have hl : fits (b.filterMap fun p => if p.1 = x ∧ k ≤ p.2 then some (1 : Int) else none).length = true := fits_of (by have := List.length_filterMap_le (fun p : Str × Int => if p.1 = x ∧ k ≤ p.2 then some (1 : Int) else none) b; omega)
    have h0 : fits 0 = true := fits_of (by decide)
    have e := hit_has hn (x := x) (k := k) w
    generalize (b.filterMap fun p => if p.1 = x ∧ k ≤ p.2 then some (1 : Int) else none) = is at hl e
    have eq := eq_nil (M := M ++ [.lst (is.map .int), .lst []]) (j := M.length) (k := M.length + 1) (is := is) (by simp) (by simp)
    simp [hl, h0, eq, e, hold]
  | .been a, n, M, w, h => by
    simp only [Tst.ht] at h
    obtain ⟨n, rfl⟩ : ∃ k, n = k + 1 := ⟨n - 1, by omega⟩
    refine run_rt lk_lholds rfl (by decide) (M' := M) ?_ rfl (by simp)
    simp [cf__law_holds, encT, in_strs, hold]
  | .nt t, n, M, w, h => by
    simp only [Tst.ht] at h
    obtain ⟨n, rfl⟩ : ∃ k, n = k + 1 := ⟨n - 1, by omega⟩
    refine run_rt lk_lholds rfl (by decide) (M' := M ++ [.lst [.bl (hold b s t)]]) ?_ rfl (by simp)
    have ih := lholds_run lk_lholds (s := s) hb hn t n M w (by omega)
    have h1 : fits 1 = true := fits_of (by decide)
    simp [cf__law_holds, encT]
    rw [comp_val (M1 := M) (xs := [t]) (en := encT) (kp := []) (fun p => some (.bl (hold b s p))) (by simp [slcD, cut, HT.sIx]) rfl (by intro p hp; simp at hp; subst hp; simp [compB, ih])]
    simp [h1, hold, idxD]
  | .an p q, n, M, w, h => by
    simp only [Tst.ht] at h
    obtain ⟨n, rfl⟩ : ∃ k, n = k + 1 := ⟨n - 1, by omega⟩
    refine run_rt lk_lholds rfl (by decide) (M' := M ++ [.lst [.bl (hold b s p), .bl (hold b s q)]]) ?_ rfl (by simp)
    have ih := lholds_run lk_lholds (s := s) hb hn p n M w.1 (by omega)
    have ih2 := lholds_run lk_lholds (s := s) hb hn q n M w.2 (by omega)
    have h1 : fits 2 = true := fits_of (by decide)
    simp [cf__law_holds, encT]
    rw [comp_val (M1 := M) (xs := [p, q]) (en := encT) (kp := []) (fun p => some (.bl (hold b s p))) (by simp [slcD, cut, HT.sIx]) rfl (by
      intro t ht
      simp at ht
      rcases ht with rfl | rfl <;> simp [compB, ih, ih2])]
    simp [h1, hold, idxD, m1K, m1D, bls?]
    cases hold b s p <;> cases hold b s q <;> simp
  | .orr p q, n, M, w, h => by
    simp only [Tst.ht] at h
    obtain ⟨n, rfl⟩ : ∃ k, n = k + 1 := ⟨n - 1, by omega⟩
    refine run_rt lk_lholds rfl (by decide) (M' := M ++ [.lst [.bl (hold b s p), .bl (hold b s q)]]) ?_ rfl (by simp)
    have ih := lholds_run lk_lholds (s := s) hb hn p n M w.1 (by omega)
    have ih2 := lholds_run lk_lholds (s := s) hb hn q n M w.2 (by omega)
    have h1 : fits 2 = true := fits_of (by decide)
    simp [cf__law_holds, encT]
    rw [comp_val (M1 := M) (xs := [p, q]) (en := encT) (kp := []) (fun p => some (.bl (hold b s p))) (by simp [slcD, cut, HT.sIx]) rfl (by
      intro t ht
      simp at ht
      rcases ht with rfl | rfl <;> simp [compB, ih, ih2])]
    simp [h1, hold, idxD, m1K, m1D, bls?]
    cases hold b s p <;> cases hold b s q <;> simp
theorem cell_run {P : Prog} (lk_cell : P.lookup (Str.ofString "_law_cell") = some cf__law_cell) {is : List Int} {k : Int} (h : 0 ≤ k) {n : Nat} {M : Sto} : ∃ c : Int, run P (n + 1) (Str.ofString "_law_cell") [.fl is, .int k] M = .ok (.int c) M := by
  by_cases hk : k < is.length
  · obtain ⟨j, rfl⟩ := Int.eq_ofNat_of_zero_le h
    have hj : j < is.length := by omega
    refine ⟨is[j], run_rt lk_cell rfl (by decide) (M' := M) ?_ rfl (by simp)⟩
    simp [cf__law_cell, hk, hj, L2.atI, L2.ixN]
  · refine ⟨0, run_rt lk_cell rfl (by decide) (M' := M) ?_ rfl (by simp)⟩
    simp [cf__law_cell, hk]
/-- a drawn book -/
structure GB (b : Book) : Prop where
  len : b.length ≤ 2
  asc : b.Pairwise (fun p q => ltS p.1 q.1 = true)
  nm : ∀ p ∈ b, p.1 = Str.ofString "x" ∨ p.1 = Str.ofString "y"
  rng : ∀ p ∈ b, 1 ≤ p.2 ∧ p.2 ≤ 3
theorem gb0 : GB [] := ⟨by simp, .nil, by simp, by simp⟩
theorem gb1 {x : Str} (hx : x = Str.ofString "x" ∨ x = Str.ofString "y") {v : Int} (h1 : 0 < v) (h2 : v < 4) : GB [(x, v)] := ⟨by simp, by simp, by simpa using hx, by simp; omega⟩
theorem gb2 {v u : Int} (h1 : 0 < v) (h2 : v < 4) (g1 : 0 < u) (g2 : u < 4) : GB [(Str.ofString "x", v), (Str.ofString "y", u)] := ⟨by simp, by simp; decide, by simp, by simp; omega⟩
theorem book_run {P : Prog} (lk_mix : P.lookup (Str.ofString "_law_mix") = some cf__law_mix) (lk_book : P.lookup (Str.ofString "_law_book") = some cf__law_book) {c : Int} {n : Nat} {M : Sto} : ∃ b : Book, GB b ∧ run P (n + 2) (Str.ofString "_law_book") [.int c] M = .ok (encB b) M := by
  have r1 := (mix_range (c := c) (p := 9887) (m := 4) (by decide)).2
  have r2 := (mix_range (c := c + 3 + 1) (p := 9887) (m := 4) (by decide)).2
  have r3 := (mix_range (c := c + 1) (p := 9887) (m := 4) (by decide)).2
  by_cases h1 : 0 < mix c 9887 4
  · by_cases h2 : 0 < mix (c + 3 + 1) 9887 4
    · refine ⟨[(Str.ofString "x", mix c 9887 4), (Str.ofString "y", mix (c + 3 + 1) 9887 4)], gb2 h1 r1 h2 r2, run_rt lk_book rfl (by decide) (M' := M ++ [.lst [encP (Str.ofString "x", mix c 9887 4), encP (Str.ofString "y", mix (c + 3 + 1) 9887 4)]]) ?_ (encB_pure _) (by simp)⟩
      simp [cf__law_book, x_fr, forGo, mix_run lk_mix, h1, h2, encB, encP, m1K]
    · refine ⟨[(Str.ofString "x", mix c 9887 4)], gb1 (.inl rfl) h1 r1, run_rt lk_book rfl (by decide) (M' := M ++ [.lst [encP (Str.ofString "x", mix c 9887 4)]]) ?_ (encB_pure _) (by simp)⟩
      simp [cf__law_book, x_fr, forGo, mix_run lk_mix, h1, h2, encB, encP, m1K]
  · by_cases h2 : 0 < mix (c + 1) 9887 4
    · refine ⟨[(Str.ofString "y", mix (c + 1) 9887 4)], gb1 (.inr rfl) h2 r3, run_rt lk_book rfl (by decide) (M' := M ++ [.lst [encP (Str.ofString "y", mix (c + 1) 9887 4)]]) ?_ (encB_pure _) (by simp)⟩
      simp [cf__law_book, x_fr, forGo, mix_run lk_mix, h1, h2, encB, encP, m1K]
    · refine ⟨[], gb0, run_rt lk_book rfl (by decide) (M' := M ++ [.lst []]) ?_ (encB_pure _) (by simp)⟩
      simp [cf__law_book, x_fr, forGo, mix_run lk_mix, h1, h2, encB, encP, m1K]
end BT

/-! Equality of plain things; deeds. -/
namespace BT
open PySem
theorem for_ix {ok : Sto → Bool} {t : Tg} {b : Env → Sto → Rt} (I : Nat → Env → Sto → Prop) (hk : ∀ i env M, I i env M → ok M = true) {ds : List D} {env : Env} {M : Sto} (h0 : I 0 env M)
    (hs : ∀ i d, ds[i]? = some d → ∀ env M, I i env M → ∃ env1, asg t d env = some env1 ∧ ∃ env2 M2, (b env1 M = .nx env2 M2 ∨ b env1 M = .ct env2 M2) ∧ I (i + 1) env2 M2) : ∃ env' M', forGo ok t b ds env M = .nx env' M' ∧ I ds.length env' M' := by
  induction ds generalizing I env M with
  | nil => exact ⟨env, M, by rw [forGo, if_pos (hk 0 env M h0)], h0⟩
  | cons d ds ih =>
    obtain ⟨env1, e1, env2, M2, e2, h2⟩ := hs 0 d rfl env M h0
    obtain ⟨env', M', e3, h3⟩ := ih (fun i => I (i + 1)) (fun i => hk (i + 1)) h2 fun i d' hd => hs (i + 1) d' (by simpa using hd)
    refine ⟨env', M', ?_, by simpa using h3⟩
    rw [forGo, if_pos (hk 0 env M h0), e1]
    rcases e2 with e2 | e2
    · simp only [e2]; exact e3
    · simp only [e2]; exact e3
theorem upto_get : ∀ {k : Nat} {lo : Int} {i : Nat} {d : D}, (upto lo k)[i]? = some d → d = .int (lo + i) ∧ i < k
  | 0, _, _, _, h => by simp [upto] at h
  | k + 1, lo, 0, d, h => by simp [upto] at h; exact ⟨by rw [← h]; simp, by omega⟩
  | k + 1, lo, i + 1, d, h => by
    rw [upto, List.getElem?_cons_succ] at h
    obtain ⟨e, l⟩ := upto_get h
    exact ⟨by rw [e]; congr 1; omega, by omega⟩
@[simp] theorem upto_lens {k : Nat} {lo : Int} : (upto lo k).length = k := upto_len k lo
theorem upto_mem {k : Nat} {lo : Int} {d : D} (h : d ∈ upto lo k) : ∃ i : Nat, d = .int (lo + i) ∧ i < k := by
  obtain ⟨i, hi⟩ := List.getElem?_of_mem h
  exact ⟨i, upto_get hi⟩
/-! ### plain things -/
mutual
/-- no truth, no reference; so deep -/
def plB : Nat → D → Bool
  | _, .non => true
  | _, .int _ => true
  | _, .str s => PyData.strOk s
  | n + 1, .tup ds => plBs n ds
  | _, _ => false
def plBs : Nat → List D → Bool
  | _, [] => true
  | n, d :: ds => plB n d && plBs n ds
end
mutual
def pdP : D → PyData
  | .non => .none
  | .bl b => .bool b
  | .int i => .int i
  | .str s => .str s
  | .tup ds => .tuple (pdPs ds)
  | _ => .none
def pdPs : List D → List PyData
  | [] => []
  | d :: ds => pdP d :: pdPs ds
end
mutual
theorem pd_plain {g : Nat → Option PyData} : ∀ (n : Nat) (d : D), plB n d = true → pdD g d = some (pdP d) ∧ (pdP d).canLay0 = true ∧ (pdP d).depth ≤ n
  | _, .non, _ => ⟨rfl, rfl, Nat.zero_le _⟩
  | _, .int _, _ => ⟨rfl, rfl, Nat.zero_le _⟩
  | n, .str s, h => ⟨rfl, by cases n <;> exact h, Nat.zero_le _⟩
  | 0, .tup ds, h => by cases h
  | n + 1, .tup ds, h => by
    obtain ⟨h1, h2, h3⟩ := pd_plains n ds h
    refine ⟨by rw [pdD, h1]; rfl, by rw [pdP, PyData.canLay0]; exact h2, ?_⟩
    rw [pdP, PyData.depth]
    omega
  | n, .bl _, h => by cases n <;> cases h
  | n, .ref _, h => by cases n <;> cases h
  | n, .fl _, h => by cases n <;> cases h
theorem pd_plains {g : Nat → Option PyData} : ∀ (n : Nat) (ds : List D), plBs n ds = true → pdDs g ds = some (pdPs ds) ∧ PyData.canLayAll0 (pdPs ds) = true ∧ PyData.depthAll (pdPs ds) ≤ n
  | n, [], _ => ⟨by rw [pdDs]; rfl, rfl, Nat.zero_le _⟩
  | n, d :: ds, h => by
    have h : (plB n d && plBs n ds) = true := by cases n <;> exact h
    rw [Bool.and_eq_true] at h
    obtain ⟨a1, a2, a3⟩ := pd_plain n d h.1
    obtain ⟨b1, b2, b3⟩ := pd_plains n ds h.2
    refine ⟨by rw [pdDs, a1, b1]; rfl, by rw [pdPs, PyData.canLayAll0, a2, b2]; rfl, ?_⟩
    rw [pdPs, PyData.depthAll]
    omega
end
mutual
theorem eqv_plain : ∀ (n m : Nat) (a b : D), plB n a = true → plB m b = true → PyData.eqv (pdP a) (pdP b) = decide (a = b)
  | n, m, .non, b, _, h => by
    cases b <;> first | (cases m <;> cases h; done) | skip
    all_goals simp [pdP, PyData.eqv]
  | n, m, .int i, b, _, h => by
    cases b <;> first | (cases m <;> cases h; done) | skip
    all_goals simp [pdP, PyData.eqv]
    rfl
  | n, m, .str i, b, _, h => by
    cases b <;> first | (cases m <;> cases h; done) | skip
    all_goals simp [pdP, PyData.eqv]
    rfl
  | 0, m, .tup as, b, h, _ => by cases h
  | n + 1, m, .tup as, b, h, h' => by
    cases b with
    | tup bs =>
      cases m with
      | zero => cases h'
      | succ m =>
        rw [pdP, pdP, PyData.eqv, eqvs_plain n m as bs h h']
        simp
    | _ => first | (cases m <;> cases h'; done) | simp [pdP, PyData.eqv]
  | n, m, .bl _, b, h, _ => by cases n <;> cases h
  | n, m, .ref _, b, h, _ => by cases n <;> cases h
  | n, m, .fl _, b, h, _ => by cases n <;> cases h
theorem eqvs_plain : ∀ (n m : Nat) (a b : List D), plBs n a = true → plBs m b = true → PyData.eqvAll (pdPs a) (pdPs b) = decide (a = b)
  | n, m, [], [], _, _ => rfl
  | n, m, [], _ :: _, _, _ => by simp [pdPs, PyData.eqvAll]
  | n, m, _ :: _, [], _, _ => by simp [pdPs, PyData.eqvAll]
  | n, m, a :: as, b :: bs, h, h' => by
    have h : (plB n a && plBs n as) = true := by cases n <;> exact h
    have h' : (plB m b && plBs m bs) = true := by cases m <;> exact h'
    rw [Bool.and_eq_true] at h h'
    rw [pdPs, pdPs, PyData.eqvAll, eqv_plain n m a b h.1 h'.1, eqvs_plain n m as bs h.2 h'.2]
    simp
end
theorem eq_plain {M : Sto} {n : Nat} {a b : D} (ha : plB n a = true) (hb : plB n b = true) (hn : n ≤ 64) : eqD M a b = some (decide (a = b)) := by
  unfold eqD
  split
  · rfl
  · obtain ⟨a1, a2, a3⟩ := pd_plain (g := pdg M 3) n a ha
    obtain ⟨b1, b2, b3⟩ := pd_plain (g := pdg M 3) n b hb
    unfold pdv
    rw [a1, b1]
    have s1 : SeqAt.shaped (pdP a) = true := by unfold SeqAt.shaped; rw [a2]; simp; omega
    have s2 : SeqAt.shaped (pdP b) = true := by unfold SeqAt.shaped; rw [b2]; simp; omega
    simp only [s1, s2]
    rw [if_pos (by decide), eqv_plain n n a b ha hb]
end BT

/-! Books behind deeds. -/
namespace BT
open PySem
structure Deed where
  w : Str
  x : Str
  n : Int
def encDd (d : Deed) : D := .tup [.str d.w, .str d.x, .int d.n]
def encDs (ds : List Deed) : D := .tup (ds.map encDd)
@[simp] theorem encDs_pure (ds : List Deed) : (encDs ds).pure = true := bels_map (fun _ => rfl) ds
def val (b : Book) (x : Str) : Int := (b.lookup x).getD 0
def newN (o : Int) (d : Deed) : Int := if d.w = Str.ofString "add" then max 0 (min 3 (o + d.n)) else d.n
def stepD (b : Book) (d : Deed) : Book := putB b d.x (newN (val b d.x) d)
def outB (h : Book) : Book := (srt ltS (h.map (·.1))).filterMap fun x => if 0 < val h x then some (x, val h x) else none
def doneB (b : Book) (ds : List Deed) : Book := outB (ds.foldl stepD (b.foldl (fun a p => putB a p.1 p.2) []))
theorem putB_len (b : Book) (x : Str) (v : Int) : (putB b x v).length ≤ b.length + 1 := by
  unfold putB; split <;> simp
theorem lookup_map {b : Book} {x y : Str} {v : Int} : (b.map fun p => if p.1 = x then (p.1, v) else p).lookup y = if y = x then (b.lookup y).map fun _ => v else b.lookup y := by
  induction b with
  | nil => simp
  | cons p b ih =>
    rw [List.map_cons, List.lookup_cons, List.lookup_cons]
    by_cases hp : p.1 = x
    · rw [if_pos hp]
      by_cases hy : y = x
      · subst hy
        rw [if_pos rfl]
        have : (y == p.1) = true := by simp [hp]
        simp [this]
      · rw [if_neg hy] at ih ⊢
        have : (y == p.1) = false := by simp; rw [hp]; exact hy
        simp only [this]
        exact ih
    · rw [if_neg hp]
      by_cases hy : y = p.1
      · have h1 : (y == p.1) = true := by simp [hy]
        have h2 : ¬ y = x := fun z => hp (hy ▸ z)
        simp [h1, h2]
      · have h1 : (y == p.1) = false := by simp [hy]
        simp only [h1]
        exact ih
theorem val_put (b : Book) (x y : Str) (v : Int) : val (putB b x v) y = if y = x then v else val b y := by
  unfold putB val
  split
  · rename_i h
    rw [lookup_map]
    split
    · rename_i hy
      subst hy
      have : ∃ u, b.lookup y = some u := by
        cases e : b.lookup y with
        | some u => exact ⟨u, rfl⟩
        | none =>
          rw [List.lookup_eq_none_iff] at e
          rw [List.any_eq_true] at h
          obtain ⟨p, hp, hq⟩ := h
          have := e p hp
          simp at this hq
          exact absurd hq.symm this
      obtain ⟨u, e⟩ := this
      rw [e]; rfl
    · rfl
  · rename_i h
    have hn : b.lookup x = none := by
      rw [List.lookup_eq_none_iff]
      intro p hp
      simp only [Bool.not_eq_true, List.any_eq_false, decide_eq_true_eq] at h
      simpa using fun z => h p hp z.symm
    rw [List.lookup_append]
    by_cases hy : y = x
    · subst hy
      rw [hn]; simp
    · have h2 : (y == x) = false := by simp [hy]
      cases b.lookup y <;> simp [List.lookup_cons, h2, hy]
theorem keys_put {b : Book} {x : Str} {v : Int} (h : (b.map (·.1)).Nodup) : ((putB b x v).map (·.1)).Nodup := by
  unfold putB
  split
  · rw [List.map_map]
    have : ((fun p : Str × Int => p.1) ∘ fun p => if p.1 = x then (p.1, v) else p) = fun p => p.1 := by
      funext p; simp only [Function.comp]; split <;> rfl
    rw [this]; exact h
  · rename_i hn
    rw [List.map_append, List.nodup_append]
    refine ⟨h, by simp, fun a ha c hc e => ?_⟩
    simp at hc
    subst hc
    subst e
    obtain ⟨p, hp, rfl⟩ := List.mem_map.mp ha
    simp only [Bool.not_eq_true, List.any_eq_false, decide_eq_true_eq] at hn
    exact hn p hp rfl
/-- R tells f: its names rise, it has what is above 0 -/
def IsBook (R : Book) (f : Str → Int) : Prop := R.Pairwise (fun a b => ltS a.1 b.1 = true) ∧ ∀ x v, (x, v) ∈ R ↔ v = f x ∧ 0 < v
theorem ltS_irrefl (x : Str) : ltS x x = false := by unfold ltS; simp [List.lt_irrefl]
theorem ltS_asymm {x y : Str} (h : ltS x y = true) : ltS y x = false := by
  unfold ltS at *
  simp only [decide_eq_true_eq, decide_eq_false_iff_not] at *
  exact fun z => List.lt_irrefl _ (List.lt_trans h z)
theorem ltS_total {x y : Str} (h1 : ltS x y = false) (h2 : ltS y x = false) : x = y := by
  unfold ltS at *
  simp only [decide_eq_false_iff_not] at *
  have := List.le_antisymm (List.not_lt.mp h2) (List.not_lt.mp h1)
  have := Array.toList_inj.mp this
  cases x; cases y; simp only [Str.mk.injEq]; exact this
theorem IsBook.nodup {R : Book} {f : Str → Int} (h : IsBook R f) : R.Nodup := h.1.imp fun {a b} hab e => by
  rw [e, ltS_irrefl] at hab; cases hab
theorem IsBook.keys {R : Book} {f : Str → Int} (h : IsBook R f) : (R.map (·.1)).Nodup := by
  rw [List.Nodup, List.pairwise_map]
  exact h.1.imp fun {a b} hab e => by rw [e, ltS_irrefl] at hab; cases hab
theorem IsBook.uniq {R R' : Book} {f : Str → Int} (h : IsBook R f) (h' : IsBook R' f) : R = R' := by
  have p : R.Perm R' := (List.perm_ext_iff_of_nodup h.nodup h'.nodup).mpr fun ⟨x, v⟩ => by rw [h.2, h'.2]
  exact List.Perm.eq_of_pairwise (le := fun a b : Str × Int => ltS a.1 b.1 = true) (fun a b _ _ q1 q2 => by rw [ltS_asymm q1] at q2; cases q2) h.1 h'.1 p
theorem val_mem {R : Book} (hn : (R.map (·.1)).Nodup) {x : Str} {v : Int} (h : (x, v) ∈ R) : val R x = v := by
  induction R with
  | nil => cases h
  | cons p R ih =>
    rw [List.map_cons, List.nodup_cons] at hn
    unfold val
    rw [List.lookup_cons]
    rcases List.mem_cons.mp h with rfl | h
    · simp
    · have : (x == p.1) = false := by
        simp only [beq_eq_false_iff_ne, ne_eq]
        intro e
        have := List.mem_map_of_mem (f := fun p : Str × Int => p.1) h
        exact hn.1 (e ▸ this)
      rw [this]
      exact ih hn.2 h
theorem val_out {R : Book} {x : Str} (h : ∀ v, (x, v) ∉ R) : val R x = 0 := by
  unfold val
  have : R.lookup x = none := List.lookup_eq_none_iff.mpr fun p hp => by
    have : x ≠ p.1 := fun e => h p.2 (by rw [e]; exact hp)
    simpa using this
  rw [this]; rfl
theorem IsBook.val {R : Book} {f : Str → Int} (h : IsBook R f) (hf : ∀ x, 0 ≤ f x) (x : Str) : BT.val R x = f x := by
  by_cases h0 : 0 < f x
  · exact val_mem h.keys ((h.2 x (f x)).mpr ⟨rfl, h0⟩)
  · rw [val_out fun v hv => by
      obtain ⟨e1, e2⟩ := (h.2 x v).mp hv
      exact h0 (e1 ▸ e2)]
    have := hf x
    omega
theorem srt_strict {xs : List Str} (h : xs.Nodup) : (srt ltS xs).Pairwise (fun a b => ltS a b = true) := by
  have p := srt_perm (lt := ltS) xs
  have nd : (srt ltS xs).Nodup := p.nodup_iff.mpr h
  have so := srt_sorted (lt := ltS) (fun a b h => ltS_asymm h) (fun a b c h1 h2 => by
    unfold ltS at *
    simp only [decide_eq_false_iff_not] at *
    exact fun z => h1 (List.lt_of_le_of_lt (List.not_lt.mp h2) z)) xs
  refine List.Pairwise.imp ?_ (List.Pairwise.and so nd)
  rintro a b ⟨h1, h2⟩
  cases q : ltS a b with
  | true => rfl
  | false => exact absurd (ltS_total q h1) h2
theorem outB_is {h : Book} (hn : (h.map (·.1)).Nodup) : IsBook (outB h) (fun x => val h x) := by
  refine ⟨?_, fun x v => ?_⟩
  · unfold outB
    rw [List.pairwise_filterMap]
    refine (srt_strict hn).imp ?_
    intro a b hab p hp q hq
    split at hp <;> cases hp
    split at hq <;> cases hq
    exact hab
  · unfold outB
    rw [List.mem_filterMap]
    constructor
    · rintro ⟨y, hy, e⟩
      split at e
      · rename_i h0
        cases e
        exact ⟨rfl, h0⟩
      · cases e
    · rintro ⟨rfl, h0⟩
      refine ⟨x, ?_, by rw [if_pos h0]⟩
      rw [(srt_perm (lt := ltS) (h.map (·.1))).mem_iff]
      refine Decidable.byContradiction fun hx => ?_
      simp only at h0
      rw [val_out fun v hv => hx (List.mem_map_of_mem (f := fun p : Str × Int => p.1) hv)] at h0
      omega
/-- what deeds make of numbers -/
def doneV (f : Str → Int) (ds : List Deed) : Str → Int := ds.foldl (fun f d => fun x => if x = d.x then newN (f d.x) d else f x) f
theorem fold_val (ds : List Deed) : ∀ h : Book, (fun x => val (ds.foldl stepD h) x) = doneV (fun x => val h x) ds := by
  induction ds with
  | nil => intro h; rfl
  | cons d ds ih =>
    intro h
    rw [List.foldl_cons, ih]
    unfold doneV
    rw [List.foldl_cons]
    congr 1
    funext x
    exact val_put h d.x x _
theorem fold_keys (ds : List Deed) : ∀ h : Book, (h.map (·.1)).Nodup → ((ds.foldl stepD h).map (·.1)).Nodup := by
  induction ds with
  | nil => intro h hn; exact hn
  | cons d ds ih => intro h hn; exact ih _ (keys_put hn)
theorem fold_len (ds : List Deed) : ∀ h : Book, (ds.foldl stepD h).length ≤ h.length + ds.length := by
  induction ds with
  | nil => intro h; simp
  | cons d ds ih =>
    intro h
    rw [List.foldl_cons]
    have := ih (stepD h d)
    have := putB_len h d.x (newN (val h d.x) d)
    unfold stepD at *
    rw [List.length_cons]
    omega
theorem done_is {b : Book} (hn : (b.map (·.1)).Nodup) (ds : List Deed) : IsBook (doneB b ds) (doneV (fun x => val b x) ds) := by
  unfold doneB
  rw [fold_book (by simpa using hn), ← fold_val]
  exact outB_is (fold_keys ds b (by simpa using hn))
/-- no number below 0 -/
def Deed.ok (d : Deed) : Prop := d.w ≠ Str.ofString "add" → 0 ≤ d.n
theorem newN_pos {o : Int} {d : Deed} (h : d.ok) : 0 ≤ newN o d := by
  unfold newN
  split
  · omega
  · rename_i c; exact h c
theorem doneV_pos {ds : List Deed} (hd : ∀ d ∈ ds, d.ok) : ∀ {f : Str → Int}, (∀ x, 0 ≤ f x) → ∀ x, 0 ≤ doneV f ds x := by
  induction ds with
  | nil => intro f hf x; exact hf x
  | cons d ds ih =>
    intro f hf x
    unfold doneV
    rw [List.foldl_cons]
    refine ih (fun e he => hd e (List.mem_cons_of_mem _ he)) (f := fun x => if x = d.x then newN (f d.x) d else f x) (fun y => ?_) x
    split
    · exact newN_pos (hd d List.mem_cons_self)
    · exact hf y
/-! ### the defs -/
theorem sort_strs (xs : List Str) : sortD (xs.map D.str) = some ((srt ltS xs).map D.str) := by
  cases xs with
  | nil => rfl
  | cons x xs =>
    have s : ∀ ys : List Str, strs? (ys.map D.str) = some ys := by
      intro ys
      induction ys with
      | nil => rfl
      | cons y ys ih => rw [List.map_cons, strs?, ih]; rfl
    unfold sortD
    have i : ints? ((x :: xs).map D.str) = none := rfl
    rw [i, s]
@[simp] theorem set_book {M : Sto} {h : Book} {x : Str} {v : Int} : setAt (M ++ [.dct (kvB h)]) (.ref M.length) (.str x) (.int v) = if fits ((kvB h).length + 1) then some (M ++ [.dct (kvB (putB h x v))]) else none := by
  unfold setAt
  simp
@[simp] theorem f2_min {i j : Int} : f2D .min (.int i) (.int j) = some (.int (if j < i then j else i)) := rfl
@[simp] theorem f2_max {i j : Int} : f2D .max (.int i) (.int j) = some (.int (if j > i then j else i)) := rfl
@[simp] theorem seq_encDs {M : Sto} {ds : List Deed} : seqW M (encDs ds) = some ⟨ds.map encDd, []⟩ := rfl
@[simp] theorem gc_books {M N : Sto} {b : Book} : gc M (.ok (.tup (b.map encP)) (M ++ N)) = .ok (encB b) M := gc_drop (encB_pure b) (by simp)
theorem sorted_strs {M : Sto} {a : D} {xs : List Str} (h : walkOf M a = some (xs.map D.str)) (hl : xs.length ≤ 10000) : f1D M .sorted a = .ok (.ref M.length) (M ++ [.lst ((srt ltS xs).map D.str)]) := by
  have f1 : fits (xs.map D.str).length = true := fits_of (by rw [List.length_map]; omega)
  have f2 : fits ((srt ltS xs).map D.str).length = true := fits_of (by rw [List.length_map, (srt_perm (lt := ltS) xs).length_eq]; omega)
  show (match walkOf M a with
    | some ds => if fits ds.length then (match sortD ds with
      | some r => newL M r
      | none => .st) else .st
    | none => .st) = _
  rw [h]
  simp only [f1, if_true, sort_strs, newL_ok, f2]
theorem max_min {b : Int} : (if (0 : Int) < (if b < 3 then b else 3) then (if b < 3 then b else 3) else 0) = max 0 (min 3 b) := by
  split <;> split <;> omega
theorem done_run {P : Prog} (lk : P.lookup (Str.ofString "done") = some cf_done) {b : Book} {ds : List Deed} (hb : b.length ≤ 500) (hd : ds.length ≤ 400) {n : Nat} {M : Sto} : run P (n + 1) (Str.ofString "done") [encB b, encDs ds] M = .ok (encB (doneB b ds)) M := by
  have hb0 : (b.foldl (fun a p => putB a p.1 p.2) []).length ≤ b.length := by
    have : ∀ (b a : Book), (b.foldl (fun a p => putB a p.1 p.2) a).length ≤ a.length + b.length := by
      intro b
      induction b with
      | nil => intro a; simp
      | cons p b ih => intro a; rw [List.foldl_cons]; have := ih (putB a p.1 p.2); have := putB_len a p.1 p.2; rw [List.length_cons]; omega
    have := this b []
    simpa using this
  unfold doneB
  generalize hh0 : b.foldl (fun a p => putB a p.1 p.2) [] = h0 at hb0
  obtain ⟨env, M', e, w, x, v, rfl, rfl⟩ := for_ix (ok := (Wk.mk (ds.map encDd) []).ok) (t := .tup [.nm 3, .nm 4, .nm 5]) (b := execs (run P n) (match cf_done.body with
    | _ :: .fr _ _ b :: _ => b
    | _ => [])) (ds := ds.map encDd) (env := [some (encB b), some (encDs ds), some (.ref M.length), none, none, none]) (M := M ++ [.dct (kvB h0)])
    (fun i env M' => ∃ w x v, env = [some (encB b), some (encDs ds), some (.ref M.length), w, x, v] ∧ M' = M ++ [.dct (kvB ((ds.take i).foldl stepD h0))]) (fun _ _ _ _ => rfl) ⟨_, _, _, rfl, by simp⟩ (by
      rintro i d hd' env M' ⟨w, x, v, rfl, rfl⟩
      rw [List.getElem?_map, Option.map_eq_some_iff] at hd'
      obtain ⟨dd, e, rfl⟩ := hd'
      have et : (ds.take (i + 1)).foldl stepD h0 = stepD ((ds.take i).foldl stepD h0) dd := by rw [List.take_add_one, e, List.foldl_append]; rfl
      have hl : ((ds.take i).foldl stepD h0).length ≤ 1000 := by
        have := fold_len (ds.take i) h0
        have : (ds.take i).length ≤ ds.length := by rw [List.length_take]; omega
        omega
      rw [et]
      generalize (ds.take i).foldl stepD h0 = h at hl
      have hf : fits ((kvB h).length + 1) = true := fits_of (by unfold kvB; rw [List.length_map]; omega)
      refine ⟨[some (encB b), some (encDs ds), some (.ref M.length), some (.str dd.w), some (.str dd.x), some (.int dd.n)], by simp [encDd], [some (encB b), some (encDs ds), some (.ref M.length), some (.str dd.w), some (.str dd.x), some (.int (newN (val h dd.x) dd))], M ++ [.dct (kvB (stepD h dd))], .inl ?_, _, _, _, rfl, rfl⟩
      have ev : (Option.map D.int (h.lookup dd.x)).getD (.int 0) = .int (val h dd.x) := by unfold val; cases h.lookup dd.x <;> rfl
      by_cases hw : dd.w = Str.ofString "add"
      · simp [cf_done, hw, m2K, hf, ev, stepD, newN, max_min]
      · simp [cf_done, hw, m2K, hf, ev, stepD, newN])
  rw [List.length_map, List.take_length] at e
  generalize hh : ds.foldl stepD h0 = h at *
  have hl : h.length ≤ 1000 := by have := fold_len ds h0; rw [hh] at this; omega
  have hk : (h.map (·.1)).Nodup := by
    rw [← hh]
    refine fold_keys ds h0 ?_
    rw [← hh0]
    have : ∀ (b a : Book), (a.map (·.1)).Nodup → ((b.foldl (fun a p => putB a p.1 p.2) a).map (·.1)).Nodup := by
      intro b
      induction b with
      | nil => intro a ha; exact ha
      | cons p b ih => intro a ha; exact ih _ (keys_put ha)
    exact this b [] (by simp)
  have hs : walkOf (M ++ [.dct (kvB h)]) (.ref M.length) = some ((h.map (·.1)).map D.str) := by
    simp [walkOf, kvB]
  have hf : fits (h.map (·.1)).length = true := fits_of (by rw [List.length_map]; omega)
  refine run_rt lk rfl (by decide) (M' := M ++ [.dct (kvB h)]) ?_ (encB_pure _) (by simp)
  simp [cf_done, x_fr, dict_book (show b.length ≤ 1000 by omega), hh0]
  simp [cf_done] at e
  simp only [e]
  rw [seq_nx]
  have so := sorted_strs hs (by rw [List.length_map]; omega)
  have at1 : ∀ x ∈ srt ltS (h.map (·.1)), ∃ v, h.lookup x = some v := by
    intro x hx
    rw [(srt_perm (lt := ltS) (h.map (·.1))).mem_iff] at hx
    cases e : h.lookup x with
    | some v => exact ⟨v, rfl⟩
    | none =>
      rw [List.lookup_eq_none_iff] at e
      obtain ⟨p, hp, rfl⟩ := List.mem_map.mp hx
      simpa using e p hp
  rw [xs_cons, x_ret, e_f1, comp_val (M1 := M ++ [.dct (kvB h), .lst ((srt ltS (h.map (·.1))).map D.str)]) (xs := srt ltS (h.map (·.1))) (en := D.str) (kp := [(M.length + 1, .lst ((srt ltS (h.map (·.1))).map D.str))]) (fun x => (if 0 < val h x then some (x, val h x) else none).map encP) (by simp [so, seqW]) (by simp [Wk.ok]) (by
    intro x hx
    obtain ⟨v, hv⟩ := at1 x hx
    have ev : val h x = v := by unfold val; rw [hv]; rfl
    by_cases hp : 0 < v
    · simp [compB, idxD, hv, ev, hp, encP]
    · simp [compB, idxD, hv, ev, hp, encP])]
  rw [← List.map_filterMap]
  have hl2 : fits (outB h).length = true := fits_of (by
    have := List.length_filterMap_le (fun x => if 0 < val h x then some (x, val h x) else none) (srt ltS (h.map (·.1)))
    have e2 := (srt_perm (lt := ltS) (h.map (·.1))).length_eq
    rw [List.length_map] at e2
    unfold outB
    omega)
  change ((gc _ ((newL _ ((outB h).map encP)).bind _)).thn _ _).seq _ = _
  rw [newL_ok, List.length_map, if_pos hl2]
  simp [tuple_ref, hl2]
  rw [show D.tup (List.map encP (outB h)) = encB (outB h) from rfl, gc_drop (encB_pure (outB h)) (take_app rfl)]
  simp
end BT

/-! Drawn deeds; the law's own books. -/
namespace BT
open PySem
theorem look_mem {b : Book} {x : Str} {u : Int} (q : b.lookup x = some u) : (x, u) ∈ b := by
  induction b with
  | nil => cases q
  | cons p b ih =>
    rw [List.lookup_cons] at q
    by_cases hx : x = p.1
    · subst hx
      simp at q
      subst q
      exact List.mem_cons_self
    · rw [show (x == p.1) = false by simpa using hx] at q
      exact List.mem_cons_of_mem _ (ih q)
theorem book_is {b : Book} (h : b.Pairwise (fun p q => ltS p.1 q.1 = true)) (hp : ∀ p ∈ b, 0 < p.2) : IsBook b (fun x => val b x) := by
  have hk : (b.map (·.1)).Nodup := by
    rw [List.Nodup, List.pairwise_map]
    exact h.imp fun {a b} hab e => by rw [e, ltS_irrefl] at hab; cases hab
  refine ⟨h, fun x v => ⟨fun hm => ⟨(val_mem hk hm).symm, hp _ hm⟩, fun ⟨e, h0⟩ => ?_⟩⟩
  have h2 : v = (b.lookup x).getD 0 := e
  clear e hp h hk
  cases q : b.lookup x with
  | none => rw [q] at h2; simp at h2; omega
  | some u =>
    rw [q] at h2
    simp at h2
    subst h2
    clear h0
    exact look_mem q
theorem IsBook.congr {R : Book} {f g : Str → Int} (h : IsBook R f) (e : ∀ x, f x = g x) : IsBook R g := (funext e : f = g) ▸ h
theorem GB.is {b : Book} (h : GB b) : IsBook b (fun x => val b x) := book_is h.asc fun p hp => by have := h.rng p hp; omega
theorem GB.keys {b : Book} (h : GB b) : (b.map (·.1)).Nodup := h.is.keys
theorem val_nonneg {b : Book} (h : ∀ p ∈ b, 0 ≤ p.2) (x : Str) : 0 ≤ val b x := by
  unfold val
  cases e : b.lookup x with
  | none => simp
  | some v =>
    have : (x, v) ∈ b := by
      clear h
      induction b with
      | nil => cases e
      | cons p b ih =>
        rw [List.lookup_cons] at e
        by_cases hx : x = p.1
        · subst hx; simp at e; subst e; exact List.mem_cons_self
        · rw [show (x == p.1) = false by simpa using hx] at e; exact List.mem_cons_of_mem _ (ih e)
    simpa using h _ this
theorem GB.nonneg {b : Book} (h : GB b) (x : Str) : 0 ≤ val b x := val_nonneg (fun p hp => by have := h.rng p hp; omega) x
theorem doneV_app {f : Str → Int} {ds es : List Deed} : doneV f (ds ++ es) = doneV (doneV f ds) es := by unfold doneV; rw [List.foldl_append]
theorem done_val {b : Book} (hn : (b.map (·.1)).Nodup) (h0 : ∀ x, 0 ≤ val b x) {ds : List Deed} (hd : ∀ d ∈ ds, d.ok) (x : Str) : val (doneB b ds) x = doneV (fun x => val b x) ds x := (done_is hn ds).val (fun x => doneV_pos hd h0 x) x
theorem done_done {b : Book} (hn : (b.map (·.1)).Nodup) (h0 : ∀ x, 0 ≤ val b x) {ds es : List Deed} (hd : ∀ d ∈ ds, d.ok) : doneB (doneB b ds) es = doneB b (ds ++ es) := by
  refine IsBook.uniq (done_is (done_is hn ds).keys es) ?_
  have := done_is hn (ds ++ es)
  rw [doneV_app] at this
  rw [show (fun x => val (doneB b ds) x) = doneV (fun x => val b x) ds from funext (done_val hn h0 hd)]
  exact this
theorem done_nil {b : Book} (h : b.Pairwise (fun p q => ltS p.1 q.1 = true)) (hp : ∀ p ∈ b, 0 < p.2) : doneB b [] = b := (done_is (book_is h hp).keys []).uniq (book_is h hp)
theorem done_len {b : Book} (ds : List Deed) : (doneB b ds).length ≤ b.length + ds.length := by
  have h0 : ∀ (b a : Book), (b.foldl (fun a p => putB a p.1 p.2) a).length ≤ a.length + b.length := by
    intro b
    induction b with
    | nil => intro a; simp
    | cons p b ih => intro a; rw [List.foldl_cons]; have := ih (putB a p.1 p.2); have := putB_len a p.1 p.2; rw [List.length_cons]; omega
  have h1 := h0 b []
  have h2 := fold_len ds (b.foldl (fun a p => putB a p.1 p.2) [])
  unfold doneB
  generalize ds.foldl stepD (b.foldl (fun a p => putB a p.1 p.2) []) = h at *
  unfold outB
  have := List.length_filterMap_le (fun x => if 0 < val h x then some (x, val h x) else none) (srt ltS (h.map (·.1)))
  have e2 := (srt_perm (lt := ltS) (h.map (·.1))).length_eq
  rw [List.length_map] at e2
  simp at h1
  omega
/-! ### deeds drawn -/
/-- a drawn deed -/
structure GD (d : Deed) : Prop where
  w : d.w = Str.ofString "set" ∧ 0 ≤ d.n ∧ d.n ≤ 3 ∨ d.w = Str.ofString "add" ∧ -2 ≤ d.n ∧ d.n ≤ 2
  x : d.x = Str.ofString "x" ∨ d.x = Str.ofString "y"
theorem GD.ok {d : Deed} (h : GD d) : d.ok := fun hw => by
  rcases h.w with ⟨_, h, _⟩ | ⟨h, _⟩
  · exact h
  · exact absurd h hw
theorem deeds_run {P : Prog} (lk_mix : P.lookup (Str.ofString "_law_mix") = some cf__law_mix) (lk : P.lookup (Str.ofString "_law_deeds") = some cf__law_deeds) {c : Int} {n : Nat} {M : Sto} : ∃ ds : List Deed, ds.length ≤ 2 ∧ (∀ d ∈ ds, GD d) ∧ run P (n + 2) (Str.ofString "_law_deeds") [.int c] M = .ok (encDs ds) M := by
  have r0 := mix_range (c := c) (p := 9931) (m := 3) (by decide)
  have hk : okR (mix c 9931 3) = true := by unfold okR; simp; omega
  obtain ⟨env, M', e, s, x, sd, ds, rfl, rfl, hl, hd⟩ := for_ix (ok := (Wk.mk (upto 0 (mix c 9931 3).toNat) []).ok) (t := .nm 2) (b := execs (run P (n + 1)) (match cf__law_deeds.body with
    | _ :: .fr _ _ b :: _ => b
    | _ => [])) (ds := upto 0 (mix c 9931 3).toNat) (env := [some (.int c), some (.ref M.length), none, none, none]) (M := M ++ [.lst []])
    (fun i env M' => ∃ s x sd ds, env = [some (.int c), some (.ref M.length), s, x, sd] ∧ M' = M ++ [.lst (ds.map encDd)] ∧ ds.length = i ∧ ∀ d ∈ ds, GD d) (fun _ _ _ _ => rfl) ⟨none, none, none, [], rfl, by simp, rfl, by simp⟩ (by
      rintro i d hd' env M' ⟨s, x, sd, ds, rfl, rfl, rfl, hd⟩
      obtain ⟨rfl, hi⟩ := upto_get hd'
      have hll : (ds.map encDd).length < lim := lt_lim (by rw [List.length_map]; omega)
      rw [List.length_map] at hll
      generalize hc : c + 7 * (ds.length : Int) = c2
      obtain ⟨y, hy, ey⟩ := pick (xs := [Str.ofString "x", Str.ofString "y"]) (mix_range (c := c2) (p := 9929) (m := 2) (by decide))
      simp only [List.map_cons, List.map_nil] at ey
      have hy : y = Str.ofString "x" ∨ y = Str.ofString "y" := by simpa using hy
      have q4 := mix_range (c := c2) (p := 9907) (m := 4) (by decide)
      have q5 := mix_range (c := c2) (p := 9901) (m := 5) (by decide)
      refine ⟨[some (.int c), some (.ref M.length), some (.int (0 + (ds.length : Int))), x, sd], by simp, [some (.int c), some (.ref M.length), some (.int (0 + (ds.length : Int))), some (.int c2), some (.str y)], ?_⟩
      by_cases hm : mix c2 9923 3 = 0
      · refine ⟨M ++ [.lst ((ds ++ [Deed.mk (Str.ofString "set") y (mix c2 9907 4)]).map encDd)], .inl ?_, _, _, _, _, rfl, rfl, by simp, ?_⟩
        · simp [cf__law_deeds, mix_run lk_mix, hc, ey, hm, hll, encDd, m1K]
        · intro d h
          rcases List.mem_append.mp h with h | h
          · exact hd d h
          · cases List.mem_singleton.mp h
            exact ⟨.inl ⟨rfl, q4.1, by simp only; omega⟩, hy⟩
      · refine ⟨M ++ [.lst ((ds ++ [Deed.mk (Str.ofString "add") y (mix c2 9901 5 - 2)]).map encDd)], .inl ?_, _, _, _, _, rfl, rfl, by simp, ?_⟩
        · simp [cf__law_deeds, mix_run lk_mix, hc, ey, hm, hll, encDd, m1K]
        · intro d h
          rcases List.mem_append.mp h with h | h
          · exact hd d h
          · cases List.mem_singleton.mp h
            exact ⟨.inr ⟨rfl, by simp only; omega, by simp only; omega⟩, hy⟩)
  rw [upto_len] at hl
  refine ⟨ds, by omega, hd, run_rt lk rfl (by decide) (M' := M ++ [.lst (ds.map encDd)]) ?_ (encDs_pure ds) (by simp)⟩
  have hf : fits ds.length = true := fits_of (by omega)
  simp [cf__law_deeds] at e
  simp [cf__law_deeds, x_fr, mix_run lk_mix, hk, e, hf, encDs]
end BT

/-! The same; the law's own books behind deeds. -/
namespace BT
open PySem
mutual
/-- plain, with truths -/
def saB : Nat → D → Bool
  | _, .non => true
  | _, .bl _ => true
  | _, .int _ => true
  | _, .str s => PyData.strOk s
  | n + 1, .tup ds => decide (ds.length ≤ 1000) && saBs n ds
  | _, _ => false
def saBs : Nat → List D → Bool
  | _, [] => true
  | n, d :: ds => saB n d && saBs n ds
end
theorem saBs_mem : ∀ {n : Nat} {ds : List D}, saBs n ds = true → ∀ d ∈ ds, saB n d = true
  | n, [], _, _, h => by cases h
  | n, d :: ds, h, e, he => by
    rw [saBs, Bool.and_eq_true] at h
    rcases List.mem_cons.mp he with rfl | he
    · exact h.1
    · exact saBs_mem h.2 e he
theorem saBs_of : ∀ {n : Nat} {ds : List D}, (∀ d ∈ ds, saB n d = true) → saBs n ds = true
  | n, [], _ => by cases n <;> rfl
  | n, d :: ds, h => by rw [saBs, h d List.mem_cons_self, saBs_of fun e he => h e (List.mem_cons_of_mem _ he)]; rfl
theorem pairUp_self (ds : List D) : pairUp ds ds = ds.map fun d => .tup [d, d] := by
  induction ds with
  | nil => rfl
  | cons d ds ih => rw [List.map_cons, pairUp, ih]
@[simp] theorem zip_tt {M : Sto} {xs ys : List D} : zipW M (.tup xs) (.tup ys) = some ⟨pairUp xs ys, []⟩ := rfl
theorem bls_map (bs : List Bool) : bls? (bs.map D.bl) = some bs := by
  induction bs with
  | nil => rfl
  | cons b bs ih => rw [List.map_cons, bls?, ih]; rfl
theorem all_bls {M : Sto} {k : Nat} {bs : List Bool} (h : M[k]? = some (.lst (bs.map D.bl))) : f1D M .all (.ref k) = .ok (D.bl (bs.all id)) M := by
  show (match M[k]? with
    | some (.lst ds) => (match bls? ds with
      | some bs => Rs.ok (D.bl (bs.all id)) M
      | none => .st)
    | _ => .st) = _
  rw [h]
  simp only [bls_map]
theorem any_bls {M : Sto} {k : Nat} {bs : List Bool} (h : M[k]? = some (.lst (bs.map D.bl))) : f1D M .any (.ref k) = .ok (D.bl (bs.any id)) M := by
  show (match M[k]? with
    | some (.lst ds) => (match bls? ds with
      | some bs => Rs.ok (D.bl (bs.any id)) M
      | none => .st)
    | _ => .st) = _
  rw [h]
  simp only [bls_map]
theorem len_same {xs ys : List D} (h : xs = ys) : xs.length = ys.length := by rw [h]
/-- what is the very same is the same -/
theorem same_run {P : Prog} (lk : P.lookup (Str.ofString "_law_same") = some cf__law_same) : ∀ (k : Nat) (d : D) (n : Nat) (M : Sto), saB k d = true → k + 1 ≤ n → run P n (Str.ofString "_law_same") [d, d] M = .ok (.bl true) M := by
  intro k
  induction k with
  | zero =>
    intro d n M h hn
    obtain ⟨n, rfl⟩ : ∃ k, n = k + 1 := ⟨n - 1, by omega⟩
    refine run_rt lk rfl (by decide) (M' := M) ?_ rfl (by simp)
    cases d <;> first | (simp [saB] at h; done) | skip
    all_goals simp [cf__law_same, isiM, isiD]
  | succ k ih =>
    intro d n M h hn
    obtain ⟨n, rfl⟩ : ∃ k, n = k + 1 := ⟨n - 1, by omega⟩
    cases d <;> first | (simp [saB] at h; done) | skip
    case tup ds =>
      rw [saB, Bool.and_eq_true, decide_eq_true_eq] at h
      have hf : fits ds.length = true := fits_of (by omega)
      refine run_rt lk rfl (by decide) (M' := M) ?_ rfl (by simp)
      simp [cf__law_same, isiM, isiD]
      rw [comp_val (M1 := M) (xs := ds) (en := fun d => .tup [d, d]) (kp := []) (fun _ => some (.bl true)) (by simp [pairUp_self]) rfl (by
        intro x hx
        simp [compB, ih x n M (saBs_mem h.2 x hx) (by omega)])]
      have e : ds.filterMap (fun _ => some (D.bl true)) = (List.replicate ds.length true).map D.bl := by
        clear hf h
        induction ds with
        | nil => rfl
        | cons d ds ih => rw [List.filterMap_cons, ih]; rfl
      rw [e]
      simp [hf]
      rw [all_bls (bs := List.replicate ds.length true) (by simp)]
      simp
    all_goals refine run_rt lk rfl (by decide) (M' := M) ?_ rfl (by simp)
    all_goals simp [cf__law_same, isiM, isiD]
/-! ### the law's own -/
/-- a row of pairs, somewhere -/
def BkAt (M : Sto) (d : D) (R : Book) : Prop := d = encB R ∨ ∃ k, d = .ref k ∧ M[k]? = some (.lst (R.map encP))
theorem BkAt.seq {M : Sto} {d : D} {R : Book} (h : BkAt M d R) : ∃ kp, seqW M d = some ⟨R.map encP, kp⟩ ∧ (Wk.mk (R.map encP) kp).ok M = true := by
  rcases h with rfl | ⟨k, rfl, h⟩
  · exact ⟨[], rfl, rfl⟩
  · exact ⟨[(k, .lst (R.map encP))], by simp [seqW, h], by simp [Wk.ok, h]⟩
theorem BkAt.walk {M : Sto} {d : D} {R : Book} (h : BkAt M d R) : walkOf M d = some (R.map encP) := by
  rcases h with rfl | ⟨k, rfl, h⟩
  · rfl
  · simp [walkOf, h]
theorem sort_prs (xs : Book) : sortD (xs.map encP) = some ((srt ltP xs).map encP) := by
  cases xs with
  | nil => rfl
  | cons x xs =>
    have s : ∀ ys : Book, prs? (ys.map encP) = some ys := by
      intro ys
      induction ys with
      | nil => rfl
      | cons y ys ih => rw [List.map_cons, encP, prs?, ih]; rfl
    unfold sortD
    have i : ints? ((x :: xs).map encP) = none := rfl
    have j : strs? ((x :: xs).map encP) = none := rfl
    rw [i, j, s]
    rfl
theorem sorted_prs {M : Sto} {a : D} {xs : Book} (h : walkOf M a = some (xs.map encP)) (hl : xs.length ≤ 10000) : f1D M .sorted a = .ok (.ref M.length) (M ++ [.lst ((srt ltP xs).map encP)]) := by
  have f1 : fits (xs.map encP).length = true := fits_of (by rw [List.length_map]; omega)
  have f2 : fits ((srt ltP xs).map encP).length = true := fits_of (by rw [List.length_map, (srt_perm (lt := ltP) xs).length_eq]; omega)
  show (match walkOf M a with
    | some ds => if fits ds.length then (match sortD ds with
      | some r => newL M r
      | none => .st) else .st
    | none => .st) = _
  rw [h]
  simp only [f1, if_true, sort_prs, newL_ok, f2]
/-- the middle of three -/
theorem sort_mid {a : Int} : L2.atI ((srt (fun a b => decide (a < b)) [0, a, 3]).map D.int) 1 = some (.int (max 0 (min 3 a))) := by
  by_cases h1 : (3 : Int) < a
  · have e : max 0 (min 3 a) = 3 := by omega
    have : srt (fun a b => decide (a < b)) [0, a, 3] = [0, 3, a] := by simp [srt, ins, h1]
    rw [e, this]
    simp
  · by_cases h2 : a < 0
    · have e : max 0 (min 3 a) = 0 := by omega
      have : srt (fun a b => decide (a < b)) [0, a, 3] = [a, 0, 3] := by simp [srt, ins, h1, h2]
      rw [e, this]
      simp
    · have e : max 0 (min 3 a) = a := by omega
      have : srt (fun a b => decide (a < b)) [0, a, 3] = [0, a, 3] := by simp [srt, ins, h1, h2]
      rw [e, this]
      simp
theorem ltP_of {a b : Str × Int} (h : ltP a b = false) : ltS a.1 b.1 = false := by
  unfold ltP at h
  rw [Bool.or_eq_false_iff] at h
  exact h.1
theorem srtP_is {R : Book} {f : Str → Int} (hn : (R.map (·.1)).Nodup) (h : ∀ x v, (x, v) ∈ R ↔ v = f x ∧ 0 < v) : IsBook (srt ltP R) f := by
  have as : ∀ a b : Str × Int, ltP a b = true → ltP b a = false := by
    intro a b h
    unfold ltP at *
    simp only [Bool.or_eq_true, Bool.and_eq_true, decide_eq_true_eq, Bool.or_eq_false_iff, Bool.and_eq_false_imp, decide_eq_false_iff_not] at *
    rcases h with h | ⟨h1, h2⟩
    · exact ⟨ltS_asymm h, fun e => by rw [e, ltS_irrefl] at h; cases h⟩
    · exact ⟨by rw [h1]; exact ltS_irrefl _, fun _ => by omega⟩
  have tr : ∀ a b c : Str × Int, ltP b a = false → ltP c b = false → ltP c a = false := by
    intro a b c h1 h2
    unfold ltP at *
    simp only [Bool.or_eq_false_iff, Bool.and_eq_false_imp, decide_eq_true_eq, decide_eq_false_iff_not] at *
    have nt : ∀ a b c : Str, ltS b a = false → ltS c b = false → ltS c a = false := fun a b c h1 h2 => by
      unfold ltS at *
      simp only [decide_eq_false_iff_not] at *
      exact fun z => h1 (List.lt_of_le_of_lt (List.not_lt.mp h2) z)
    refine ⟨nt _ _ _ h1.1 h2.1, fun e => ?_⟩
    have q1 : b.1 = a.1 := ltS_total h1.1 (e ▸ h2.1)
    have := h1.2 q1
    have := h2.2 (by rw [e, q1])
    omega
  have so := srt_sorted as tr R
  have nd : (srt ltP R).Pairwise (fun a b => a.1 ≠ b.1) := by
    have := ((srt_perm (lt := ltP) R).map (·.1)).nodup_iff.mpr hn
    rwa [List.Nodup, List.pairwise_map] at this
  refine ⟨(so.and nd).imp ?_, fun x v => by rw [(srt_perm (lt := ltP) R).mem_iff]; exact h x v⟩
  rintro a b ⟨h1, h2⟩
  cases q : ltS a.1 b.1 with
  | true => rfl
  | false => exact absurd (ltS_total q (ltP_of h1)) h2
def ldB (R : Book) (d : Deed) : Book := (R.filter fun p => decide (p.1 ≠ d.x)) ++ (if 0 < newN (val R d.x) d then [(d.x, newN (val R d.x) d)] else [])
/-- what a row tells -/
def Tells (R : Book) (f : Str → Int) : Prop := (R.map (·.1)).Nodup ∧ ∀ x v, (x, v) ∈ R ↔ v = f x ∧ 0 < v
theorem Tells.val {R : Book} {f : Str → Int} (h : Tells R f) (hf : ∀ x, 0 ≤ f x) (x : Str) : BT.val R x = f x := by
  by_cases h0 : 0 < f x
  · exact val_mem h.1 ((h.2 x (f x)).mpr ⟨rfl, h0⟩)
  · rw [val_out fun v hv => by
      obtain ⟨e1, e2⟩ := (h.2 x v).mp hv
      exact h0 (e1 ▸ e2)]
    have := hf x
    omega
theorem IsBook.tells {R : Book} {f : Str → Int} (h : IsBook R f) : Tells R f := ⟨h.keys, h.2⟩
theorem ldB_tells {R : Book} {f : Str → Int} (h : Tells R f) (hf : ∀ x, 0 ≤ f x) (d : Deed) : Tells (ldB R d) (fun x => if x = d.x then newN (f d.x) d else f x) := by
  have ev := h.val hf d.x
  unfold ldB
  rw [ev]
  constructor
  · rw [List.map_append, List.nodup_append]
    refine ⟨(List.filter_sublist.map _).nodup h.1, by split <;> simp, ?_⟩
    rintro a ha b hb rfl
    obtain ⟨p, hp, rfl⟩ := List.mem_map.mp ha
    rw [List.mem_filter] at hp
    split at hb
    · simp at hb; simp [hb] at hp
    · simp at hb
  · intro x v
    rw [List.mem_append, List.mem_filter, h.2]
    by_cases hx : x = d.x
    · subst hx
      simp only [ne_eq, not_true, decide_false, and_false, false_or, if_true, Bool.false_eq_true]
      split
      · simp; omega
      · simp; omega
    · simp only [ne_eq, hx, not_false_eq_true, decide_true, and_true, if_false]
      constructor
      · rintro (q | q)
        · exact q
        · split at q
          · simp [hx] at q
          · simp at q
      · exact .inl
theorem ldB_len (R : Book) (d : Deed) : (ldB R d).length ≤ R.length + 1 := by
  unfold ldB
  rw [List.length_append]
  have := List.length_filter_le (fun p : Str × Int => decide (p.1 ≠ d.x)) R
  split
  · rw [List.length_singleton]; omega
  · rw [List.length_nil]; omega
theorem doneV_ok {ds : List Deed} : ∀ {R : Book} {f : Str → Int}, Tells R f → (∀ x, 0 ≤ f x) → (∀ d ∈ ds, d.ok) → Tells (ds.foldl ldB R) (doneV f ds) := by
  induction ds with
  | nil => intro R f h _ _; exact h
  | cons d ds ih =>
    intro R f h hf hd
    rw [List.foldl_cons]
    unfold doneV
    rw [List.foldl_cons]
    refine ih (ldB_tells h hf d) (fun x => ?_) fun e he => hd e (List.mem_cons_of_mem _ he)
    split
    · exact newN_pos (hd d List.mem_cons_self)
    · exact hf x
theorem old_is {R : Book} {x : Str} (hn : (R.map (·.1)).Nodup) : L2.atI ((R.filterMap fun p => if p.1 = x then some p.2 else none) ++ [0]) 0 = some (val R x) := by
  induction R with
  | nil => simp [val]
  | cons p R ih =>
    rw [List.map_cons, List.nodup_cons] at hn
    rw [List.filterMap_cons]
    by_cases h : p.1 = x
    · subst h
      obtain ⟨a, b⟩ := p
      simp [val, List.lookup_cons]
    · rw [if_neg h]
      have hb : (x == p.1) = false := by simp; exact fun z => h z.symm
      unfold val
      rw [List.lookup_cons, hb]
      exact ih hn.2
theorem upd_run {call : Str → List D → Sto → Rs D} {M : Sto} {d0 : D} {R : Book} {ds : List Deed} {dd : Deed} {o : Option D} (hb : BkAt M d0 R) (hn : (R.map (·.1)).Nodup) (hl : R.length ≤ 1000) : ∃ M', M' = M ++ M'.drop M.length ∧ ∃ k, M'[k]? = some (.lst ((ldB R dd).map encP)) ∧ 
    execs call (match cf__law_done.body with
    | .fr _ _ b :: _ => b
    | _ => []) [some d0, some (encDs ds), some (.str dd.w), some (.str dd.x), some (.int dd.n), o, none] M = .nx [some (.ref k), some (encDs ds), some (.str dd.w), some (.str dd.x), some (.int (newN (val R dd.x) dd)), some (.int (val R dd.x)), none] M' := by
  obtain ⟨kp, hs, hk⟩ := hb.seq
  have hf : ∀ k, k ≤ 1005 → fits k = true := fun k hk => fits_of (by omega)
  simp [cf__law_done]
  rw [comp_val (M1 := M) (xs := R) (en := encP) (kp := kp) (fun p => (if p.1 = dd.x then some p.2 else none).map .int) (by simp [hs]) hk (by
    intro p hp
    by_cases h : p.1 = dd.x
    · simp [compB, encP, h]
    · simp [compB, encP, h])]
  rw [← List.map_filterMap]
  have hfl := hf (R.filterMap fun p => if p.1 = dd.x then some p.2 else none).length (by have := List.length_filterMap_le (fun p : Str × Int => if p.1 = dd.x then some p.2 else none) R; omega)
  have hfl1 := hf ((R.filterMap fun p => if p.1 = dd.x then some p.2 else none).length + 1) (by have := List.length_filterMap_le (fun p : Str × Int => if p.1 = dd.x then some p.2 else none) R; omega)
  have old : L2.atI ((R.filterMap fun p => if p.1 = dd.x then some p.2 else none).map D.int ++ [D.int 0]) 0 = some (D.int (val R dd.x)) := by
    have := congrArg (Option.map D.int) (old_is (x := dd.x) hn)
    rw [show (R.filterMap fun p => if p.1 = dd.x then some p.2 else none).map D.int ++ [D.int 0] = ((R.filterMap fun p : Str × Int => if p.1 = dd.x then some p.2 else none) ++ [0]).map D.int by simp, atI_map]
    exact this
  simp [hfl, hfl1, old]
  obtain ⟨F, hF⟩ : ∃ F, F = R.filter fun p => decide (p.1 ≠ dd.x) := ⟨_, rfl⟩
  have hFl : F.length ≤ R.length := by rw [hF]; exact List.length_filter_le _ _
  have two : ∀ (N : Int), execs call [Sm.asg (Tg.nm 0)
                    (Ex.bin Op.add
                      ((Ex.var 6).comp (Tg.nm 6) (It.seq (Ex.var 0))
                        (some (Ex.cmp Cm.ne ((Ex.var 6).idx (Ex.cint 0)) (Ex.var 3))) [(Str.ofString "_law_one", 6)])
                      (Ex.bin Op.mul (Ex.lst [Ex.tup [Ex.var 3, Ex.var 4]])
                        (Ex.f1 F1.int (Ex.cmp Cm.gt (Ex.var 4) (Ex.cint 0)))))] [some d0, some (encDs ds), some (.str dd.w), some (.str dd.x), some (.int N), some (.int (val R dd.x)), none] M =
     .nx [some (.ref (M.length + 3)), some (encDs ds), some (.str dd.w), some (.str dd.x), some (.int N), some (.int (val R dd.x)), none] (M ++ [.lst (F.map encP), .lst [encP (dd.x, N)], .lst (if 0 < N then [encP (dd.x, N)] else []), .lst (F.map encP ++ (if 0 < N then [encP (dd.x, N)] else []))]) := by
    intro N
    rw [xs_cons, x_asg, e_bin]
    rw [comp_val (M1 := M) (xs := R) (en := encP) (kp := kp) (fun p => if p.1 ≠ dd.x then some (encP p) else none) (by simp [hs]) hk (by
      intro p hp
      by_cases h : p.1 = dd.x
      · simp [compB, encP, h]
      · simp [compB, encP, h])]
    rw [filterMap_ite, ← hF]
    have hl1 := hf F.length (by omega)
    have hl2 := hf (F.length + 1) (by omega)
    by_cases hN : 0 < N
    · simp [hl1, hl2, hN, rep, encP]
    · simp [hl1, hl2, hN, rep, encP]
  have fin : ∀ N, N = newN (val R dd.x) dd → ∃ M', M' = M ++ M'.drop M.length ∧ ∃ k, M'[k]? = some (.lst ((ldB R dd).map encP)) ∧ Rt.nx [some (.ref (M.length + 3)), some (encDs ds), some (.str dd.w), some (.str dd.x), some (.int N), some (.int (val R dd.x)), none] (M ++ [.lst (F.map encP), .lst [encP (dd.x, N)], .lst (if 0 < N then [encP (dd.x, N)] else []), .lst (F.map encP ++ (if 0 < N then [encP (dd.x, N)] else []))]) = Rt.nx [some (.ref k), some (encDs ds), some (.str dd.w), some (.str dd.x), some (.int (newN (val R dd.x) dd)), some (.int (val R dd.x)), none] M' := by
    rintro N rfl
    refine ⟨_, by simp, M.length + 3, ?_, rfl⟩
    rw [at_endk]
    show some (MO.lst _) = _
    congr 2
    unfold ldB
    rw [← hF, List.map_append]
    congr 1
    split <;> rfl
  by_cases hw : dd.w = Str.ofString "add"
  · have q := two (max 0 (min 3 (val R dd.x + dd.n)))
    have e3 : sortD [D.int 0, D.int (val R dd.x + dd.n), D.int 3] = some ((srt (fun a b => decide (a < b)) [0, val R dd.x + dd.n, 3]).map D.int) := rfl
    have e4 : ((srt (fun a b => decide (a < b)) [0, val R dd.x + dd.n, 3]).map D.int).length = 3 := by rw [List.length_map, (srt_perm _).length_eq]; rfl
    have e5 : f1D (M ++ [MO.lst [D.int 0, D.int (val R dd.x + dd.n), D.int 3]]) .sorted (.ref M.length) = .ok (.ref (M.length + 1)) (M ++ [.lst [D.int 0, D.int (val R dd.x + dd.n), D.int 3], .lst ((srt (fun a b => decide (a < b)) [0, val R dd.x + dd.n, 3]).map D.int)]) := by
      show (match walkOf (M ++ [MO.lst [D.int 0, D.int (val R dd.x + dd.n), D.int 3]]) (.ref M.length) with
        | some ds => if fits ds.length then (match sortD ds with
          | some r => newL (M ++ [MO.lst [D.int 0, D.int (val R dd.x + dd.n), D.int 3]]) r
          | none => .st) else .st
        | none => .st) = _
      simp only [walkOf, at_end, e3, newL_ok, e4]
      simp
    have nn : max 0 (min 3 (val R dd.x + dd.n)) = newN (val R dd.x) dd := by unfold newN; rw [if_pos hw]
    have e6 : L2.atI (srt (fun a b => decide (a < b)) [0, val R dd.x + dd.n, 3] |>.map D.int) 1 = _ := sort_mid
    rw [if_pos hw]
    simp only [e5, gc_ref, bind_ok, idx_ref, at_endk, gc_same, List.length_append, List.getElem?_cons_succ, List.getElem?_cons_zero, e6, of_some, gc_int, thn_ok, xs_nil, seq_nx, q]
    exact fin _ nn
  · have q := two dd.n
    have nn : dd.n = newN (val R dd.x) dd := by unfold newN; rw [if_neg hw]
    rw [if_neg hw, seq_nx, q]
    exact fin _ nn
/-- the law's own deeds -/
theorem ldone_run {P : Prog} (lk : P.lookup (Str.ofString "_law_done") = some cf__law_done) {b : Book} {ds : List Deed} (hb : b.length ≤ 400) (hd : ds.length ≤ 400) {f : Str → Int} (ht : Tells b f) (hf : ∀ x, 0 ≤ f x) (ho : ∀ d ∈ ds, d.ok) {n : Nat} {M : Sto} : ∃ R : Book, IsBook R (doneV f ds) ∧ R.length ≤ b.length + ds.length ∧ run P (n + 1) (Str.ofString "_law_done") [encB b, encDs ds] M = .ok (encB R) M := by
  obtain ⟨env, M', e, d0, w, x, v, o, rfl, hM, hB, hl⟩ := for_ix (ok := (Wk.mk (ds.map encDd) []).ok) (t := .tup [.nm 2, .nm 3, .nm 4]) (b := execs (run P n) (match cf__law_done.body with
    | .fr _ _ b :: _ => b
    | _ => [])) (ds := ds.map encDd) (env := [some (encB b), some (encDs ds), none, none, none, none, none]) (M := M)
    (fun i env M' => ∃ d0 w x v o, env = [some d0, some (encDs ds), w, x, v, o, none] ∧ M' = M ++ M'.drop M.length ∧ BkAt M' d0 ((ds.take i).foldl ldB b) ∧ ((ds.take i).foldl ldB b).length ≤ b.length + i) (fun _ _ _ _ => rfl) ⟨_, none, none, none, none, rfl, by simp, .inl rfl, by simp⟩ (by
      rintro i d hd' env M' ⟨d0, w, x, v, o, rfl, hM, hB, hl⟩
      rw [List.getElem?_map, Option.map_eq_some_iff] at hd'
      obtain ⟨dd, e, rfl⟩ := hd'
      have hi : i < ds.length := (List.getElem?_eq_some_iff.mp e).1
      have et : (ds.take (i + 1)).foldl ldB b = ldB ((ds.take i).foldl ldB b) dd := by rw [List.take_add_one, e, List.foldl_append]; rfl
      have tl := doneV_ok (ds := ds.take i) ht hf fun d h => ho d (List.mem_of_mem_take h)
      obtain ⟨M2, h1, k, h2, h3⟩ := upd_run (call := run P n) (ds := ds) (dd := dd) (o := o) hB tl.1 (by omega)
      refine ⟨[some d0, some (encDs ds), some (.str dd.w), some (.str dd.x), some (.int dd.n), o, none], by simp [encDd], _, _, .inl h3, _, _, _, _, _, rfl, ?_, ?_, ?_⟩
      · rw [h1, hM]; simp
      · rw [et]; exact .inr ⟨k, rfl, h2⟩
      · rw [et]; have := ldB_len ((ds.take i).foldl ldB b) dd; omega)
  rw [List.length_map, List.take_length] at hB hl
  have tl := doneV_ok (ds := ds) ht hf ho
  generalize ds.foldl ldB b = R at *
  have hR : (srt ltP R).length = R.length := (srt_perm (lt := ltP) R).length_eq
  refine ⟨srt ltP R, srtP_is tl.1 tl.2, by omega, run_rt lk rfl (by decide) (M' := M' ++ []) ?_ (encB_pure _) (by rw [hM]; simp)⟩
  have so := sorted_prs hB.walk (by omega)
  have hfit : fits (srt ltP R).length = true := fits_of (by omega)
  simp [cf__law_done] at e
  simp [cf__law_done, x_fr, e, so, hfit]
end BT

/-! Books that are told the same. -/
namespace BT
open PySem
/-- its names can be told -/
def NmOk (b : Book) : Prop := ∀ p ∈ b, PyData.strOk p.1 = true
theorem plBs_of : ∀ {n : Nat} {ds : List D}, (∀ d ∈ ds, plB n d = true) → plBs n ds = true
  | n, [], _ => by cases n <;> rfl
  | n, d :: ds, h => by rw [plBs, h d List.mem_cons_self, plBs_of fun e he => h e (List.mem_cons_of_mem _ he)]; rfl
theorem plB_book {b : Book} (h : NmOk b) : plB 2 (encB b) = true := by
  rw [encB, plB]
  refine plBs_of fun d hd => ?_
  obtain ⟨p, hp, rfl⟩ := List.mem_map.mp hd
  simp [encP, plB, plBs, h p hp]
theorem saB_book {b : Book} (h : NmOk b) (hl : b.length ≤ 1000) : saB 2 (encB b) = true := by
  rw [encB, saB, Bool.and_eq_true, decide_eq_true_eq, List.length_map]
  refine ⟨hl, saBs_of fun d hd => ?_⟩
  obtain ⟨p, hp, rfl⟩ := List.mem_map.mp hd
  simp [encP, saB, saBs, h p hp]
theorem eq_self {M : Sto} {n : Nat} {a : D} (ha : plB n a = true) (hn : n ≤ 64 := by decide) : eqD M a a = some true := by rw [eq_plain ha ha hn]; simp
theorem doneV_out {ds : List Deed} {x : Str} (h : ∀ d ∈ ds, d.x ≠ x) : ∀ {f : Str → Int}, doneV f ds x = f x := by
  induction ds with
  | nil => intro f; rfl
  | cons d ds ih =>
    intro f
    unfold doneV
    rw [List.foldl_cons]
    have := ih (fun e he => h e (List.mem_cons_of_mem _ he)) (f := fun x => if x = d.x then newN (f d.x) d else f x)
    unfold doneV at this
    rw [this, if_neg (fun e => h d List.mem_cons_self e.symm)]
/-- names of a book behind deeds -/
theorem done_nm {b : Book} {Q : Str → Prop} (hn : (b.map (·.1)).Nodup) {ds : List Deed} (h1 : ∀ p ∈ b, Q p.1) (h2 : ∀ d ∈ ds, Q d.x) : ∀ p ∈ doneB b ds, Q p.1 := by
  rintro ⟨x, v⟩ hp
  obtain ⟨e, h0⟩ := ((done_is hn ds).2 x v).mp hp
  by_cases hx : ∃ d ∈ ds, d.x = x
  · obtain ⟨d, hd, rfl⟩ := hx; exact h2 d hd
  · rw [doneV_out (fun d hd z => hx ⟨d, hd, z⟩)] at e
    have : ∃ u, b.lookup x = some u := by
      cases q : b.lookup x with
      | some u => exact ⟨u, rfl⟩
      | none => unfold val at e; rw [q] at e; simp at e; omega
    obtain ⟨u, hu⟩ := this
    exact h1 (x, u) (look_mem hu)
theorem xy_ok {x : Str} (h : x = Str.ofString "x" ∨ x = Str.ofString "y") : PyData.strOk x = true := by rcases h with rfl | rfl <;> decide +kernel
@[simp] theorem encDs_add {M : Sto} {a b : List Deed} : binD M .add (encDs a) (encDs b) = if fits (a.length + b.length) then .ok (encDs (a ++ b)) M else .st := by
  unfold encDs
  rw [b_addtt, List.length_map, List.length_map, List.map_append]
@[simp] theorem len_encDs {M : Sto} {a : List Deed} : f1D M .len (encDs a) = .ok (.int a.length) M := by
  unfold encDs
  rw [len_tup, List.length_map]
theorem cut_hd {α : Type} {xs : List α} {j : Nat} (h1 : j ≤ xs.length) : cut xs none (some (j : Int)) = xs.take j := by
  unfold cut
  rw [HT.sIx_nat, HT.sIx_none, Nat.min_eq_left h1]
  simp
theorem cut_tl {α : Type} {xs : List α} {j : Nat} (h1 : j ≤ xs.length) : cut xs (some (j : Int)) none = xs.drop j := by
  unfold cut
  rw [HT.sIx_nat, HT.sIx_none, Nat.min_eq_left h1]
  rw [List.take_of_length_le (by rw [List.length_drop]; omega)]
theorem encDs_hd {M : Sto} {ds : List Deed} {j : Nat} (h : j ≤ ds.length) : slcD M (encDs ds) none (some (j : Int)) = .ok (encDs (ds.take j)) M := by
  show Rs.ok (D.tup (cut (ds.map encDd) none (some (j : Int)))) M = _
  rw [cut_hd (by simpa using h), ← List.map_take]; rfl
theorem encDs_tl {M : Sto} {ds : List Deed} {j : Nat} (h : j ≤ ds.length) : slcD M (encDs ds) (some (j : Int)) none = .ok (encDs (ds.drop j)) M := by
  show Rs.ok (D.tup (cut (ds.map encDd) (some (j : Int)) none)) M = _
  rw [cut_tl (by simpa using h), ← List.map_drop]; rfl
/-! ### equal lists -/
mutual
theorem pd_sa {g : Nat → Option PyData} : ∀ (n : Nat) (d : D), saB n d = true → pdD g d = some (pdP d) ∧ (pdP d).canLay0 = true ∧ (pdP d).depth ≤ n ∧ PyData.eqv (pdP d) (pdP d) = true
  | n, .non, _ => ⟨rfl, rfl, Nat.zero_le _, rfl⟩
  | n, .int _, _ => ⟨rfl, rfl, Nat.zero_le _, by simp [pdP, PyData.eqv]⟩
  | n, .bl b, _ => ⟨rfl, rfl, Nat.zero_le _, by cases b <;> rfl⟩
  | n, .str s, h => ⟨rfl, by cases n <;> exact h, Nat.zero_le _, by simp [pdP, PyData.eqv]⟩
  | 0, .tup ds, h => by cases h
  | n + 1, .tup ds, h => by
    rw [saB, Bool.and_eq_true] at h
    obtain ⟨h1, h2, h3, h4⟩ := pd_sas n ds h.2
    refine ⟨by rw [pdD, h1]; rfl, by rw [pdP, PyData.canLay0]; exact h2, ?_, by rw [pdP, PyData.eqv]; exact h4⟩
    rw [pdP, PyData.depth]
    omega
  | n, .ref _, h => by cases n <;> cases h
  | n, .fl _, h => by cases n <;> cases h
theorem pd_sas {g : Nat → Option PyData} : ∀ (n : Nat) (ds : List D), saBs n ds = true → pdDs g ds = some (pdPs ds) ∧ PyData.canLayAll0 (pdPs ds) = true ∧ PyData.depthAll (pdPs ds) ≤ n ∧ PyData.eqvAll (pdPs ds) (pdPs ds) = true
  | n, [], _ => ⟨by rw [pdDs]; rfl, rfl, Nat.zero_le _, rfl⟩
  | n, d :: ds, h => by
    have h : (saB n d && saBs n ds) = true := by cases n <;> exact h
    rw [Bool.and_eq_true] at h
    obtain ⟨a1, a2, a3, a4⟩ := pd_sa n d h.1
    obtain ⟨b1, b2, b3, b4⟩ := pd_sas n ds h.2
    refine ⟨by rw [pdDs, a1, b1]; rfl, by rw [pdPs, PyData.canLayAll0, a2, b2]; rfl, ?_, by rw [pdPs, PyData.eqvAll, a4, b4]; rfl⟩
    rw [pdPs, PyData.depthAll]
    omega
end
theorem eq_sas {M : Sto} {n : Nat} {d : D} (h : saB n d = true) (hn : n ≤ 60 := by decide) : eqD M d d = some true := by
  unfold eqD
  split
  · simp
  · obtain ⟨a1, a2, a3, a4⟩ := pd_sa (g := pdg M 3) n d h
    unfold pdv
    rw [a1]
    have s1 : SeqAt.shaped (pdP d) = true := by unfold SeqAt.shaped; rw [a2]; simp; omega
    simp only [s1]
    rw [if_pos (by decide), a4]
/-- two lists of the same -/
theorem eq_lsts {M : Sto} {j k n : Nat} {ds : List D} (hj : M[j]? = some (.lst ds)) (hk : M[k]? = some (.lst ds)) (h : saBs n ds = true) (hn : n ≤ 60 := by decide) : eqD M (.ref j) (.ref k) = some true := by
  have key : ∀ i, M[i]? = some (.lst ds) → pdv M (.ref i) = some (.list (pdPs ds)) := by
    intro i hi
    unfold pdv
    rw [pdD, pdg, hi]
    simp only
    rw [(pd_sas n ds h).1]; rfl
  obtain ⟨_, a2, a3, a4⟩ := pd_sas (g := pdg M 2) n ds h
  have s1 : SeqAt.shaped (.list (pdPs ds)) = true := by
    unfold SeqAt.shaped
    rw [PyData.canLay0, PyData.depth, a2]
    simp; omega
  unfold eqD
  rw [if_neg (by simp [scalD]), key j hj, key k hk]
  simp only [s1]
  rw [if_pos (by decide), PyData.eqv, a4]
theorem srt_id {α : Type} {lt : α → α → Bool} : ∀ {xs : List α}, xs.Pairwise (fun a b => lt b a = false) → srt lt xs = xs
  | [], _ => rfl
  | [x], _ => rfl
  | x :: y :: ys, h => by
    rw [List.pairwise_cons] at h
    rw [srt, srt_id h.2, ins, if_neg (by rw [h.1 y List.mem_cons_self]; decide)]
theorem IsBook.srt {R : Book} {f : Str → Int} (h : IsBook R f) : srt ltP R = R := srt_id (h.1.imp fun {a b} q => by
  unfold ltP
  rw [ltS_asymm q]
  have : ¬ b.1 = a.1 := fun e => by rw [e, ltS_irrefl] at q; cases q
  simp [this])
theorem doneV_le {ds : List Deed} (hd : ∀ d ∈ ds, d.n ≤ 3) : ∀ {f : Str → Int}, (∀ x, f x ≤ 3) → ∀ x, doneV f ds x ≤ 3 := by
  induction ds with
  | nil => intro f hf x; exact hf x
  | cons d ds ih =>
    intro f hf x
    unfold doneV
    rw [List.foldl_cons]
    refine ih (fun e he => hd e (List.mem_cons_of_mem _ he)) (f := fun x => if x = d.x then newN (f d.x) d else f x) (fun y => ?_) x
    split
    · unfold newN
      have := hd d List.mem_cons_self
      split <;> omega
    · exact hf y
theorem GD.le {d : Deed} (h : GD d) : d.n ≤ 3 := by rcases h.w with h | h <;> omega
theorem GB.le {b : Book} (h : GB b) (x : Str) : val b x ≤ 3 := by
  unfold val
  cases e : b.lookup x with
  | none => simp
  | some v => exact (h.rng _ (look_mem e)).2
/-- a book that can be told -/
structure OB (R : Book) (f : Str → Int) : Prop where
  is : IsBook R f
  lo : ∀ x, 0 ≤ f x
  hi : ∀ x, f x ≤ 3
  nm : NmOk R
theorem GB.ob {b : Book} (h : GB b) : OB b (fun x => val b x) := ⟨h.is, h.nonneg, h.le, fun p hp => xy_ok (h.nm p hp)⟩
theorem OB.val {R : Book} {f : Str → Int} (h : OB R f) (x : Str) : BT.val R x = f x := h.is.val h.lo x
theorem OB.done {R : Book} {f : Str → Int} (h : OB R f) {ds : List Deed} (h1 : ∀ d ∈ ds, d.ok ∧ d.n ≤ 3 ∧ PyData.strOk d.x = true) : OB (doneB R ds) (doneV f ds) := by
  have e : (fun x => BT.val R x) = f := funext h.val
  refine ⟨?_, doneV_pos (fun d hd => (h1 d hd).1) h.lo, doneV_le (fun d hd => (h1 d hd).2.1) h.hi, done_nm (Q := fun x => PyData.strOk x = true) h.is.keys h.nm fun d hd => (h1 d hd).2.2⟩
  have := done_is h.is.keys ds
  rw [e] at this
  exact this
theorem GD.can {d : Deed} (h : GD d) : d.ok ∧ d.n ≤ 3 ∧ PyData.strOk d.x = true := ⟨h.ok, h.le, xy_ok h.x⟩
theorem OB.same {R R' : Book} {f g : Str → Int} (h : OB R f) (h' : OB R' g) (e : ∀ x, f x = g x) : R = R' := h.is.uniq (h'.is.congr fun x => (e x).symm)
def abcd : List Str := [Str.ofString "a", Str.ofString "b", Str.ofString "c", Str.ofString "d"]
@[simp] theorem seq_abcd {M : Sto} : seqW M (.str (Str.ofString "abcd")) = some ⟨abcd.map D.str, []⟩ := by
  show some (Wk.mk _ _) = _
  congr 2
@[simp] theorem list_encB {M : Sto} {b : Book} : f1D M .list (encB b) = if fits b.length then .ok (.ref M.length) (M ++ [.lst (b.map encP)]) else .st := by
  show (match itemsOf M (encB b) with
    | some ds => newL M ds
    | none => .st) = _
  rw [show itemsOf M (encB b) = some (b.map encP) from rfl]
  simp
abbrev Deed.can (d : Deed) : Prop := d.ok ∧ d.n ≤ 3 ∧ PyData.strOk d.x = true
theorem can_set {x : Str} {n : Int} (h0 : 0 ≤ n) (h3 : n ≤ 3) (hx : PyData.strOk x = true) : (Deed.mk (Str.ofString "set") x n).can := ⟨fun _ => h0, h3, hx⟩
theorem can_add {x : Str} {n : Int} (h3 : n ≤ 3) (hx : PyData.strOk x = true) : (Deed.mk (Str.ofString "add") x n).can := ⟨fun z => absurd rfl z, h3, hx⟩
theorem can_nil : ∀ d ∈ ([] : List Deed), d.can := fun _ h => nomatch h
theorem can_cons {d : Deed} {ds : List Deed} (h : d.can) (h' : ∀ d ∈ ds, d.can) : ∀ e ∈ d :: ds, e.can := List.forall_mem_cons.mpr ⟨h, h'⟩
theorem ok_x : PyData.strOk (Str.ofString "x") = true := by decide +kernel
theorem ok_y : PyData.strOk (Str.ofString "y") = true := by decide +kernel
theorem saBs_book {b : Book} (h : NmOk b) : saBs 2 (b.map encP) = true := by
  refine saBs_of fun d hd => ?_
  obtain ⟨p, hp, rfl⟩ := List.mem_map.mp hd
  simp [encP, saB, saBs, h p hp]
end BT

namespace LawText
open PySem PySem.Spec PyProof.Rows L2 BT
def fn_holds : Fn := ⟨3, 3, [
    .iff (.cmp .eq (.idx (.var 0) (.cint 0)) (.cstr ("has" : Str))) [.ret (.cmp .ge (.m2 .get (.f1 .dict (.var 1)) (.idx (.var 0) (.cint 1)) (.cint 0)) (.idx (.var 0) (.cint 2)))] [],
    .iff (.cmp .eq (.idx (.var 0) (.cint 0)) (.cstr ("been" : Str))) [.ret (.cmp .isin (.idx (.var 0) (.cint 1)) (.var 2))] [],
    .iff (.cmp .eq (.idx (.var 0) (.cint 0)) (.cstr ("not" : Str))) [.ret (.not (.call ("holds" : Str) [.idx (.var 0) (.cint 1), .var 1, .var 2]))] [],
    .iff (.cmp .eq (.idx (.var 0) (.cint 0)) (.cstr ("and" : Str))) [.ret (.and (.call ("holds" : Str) [.idx (.var 0) (.cint 1), .var 1, .var 2]) (.call ("holds" : Str) [.idx (.var 0) (.cint 2), .var 1, .var 2]))] [],
    .ret (.or (.call ("holds" : Str) [.idx (.var 0) (.cint 1), .var 1, .var 2]) (.call ("holds" : Str) [.idx (.var 0) (.cint 2), .var 1, .var 2]))]⟩
def fn_done : Fn := ⟨2, 6, [
    .asg (.nm 2) (.f1 .dict (.var 0)),
    .fr (.tup [.nm 3, .nm 4, .nm 5]) (.seq (.var 1)) [.iff (.cmp .eq (.var 3) (.cstr ("add" : Str))) [.asg (.nm 5) (.f2 .max (.cint 0) (.f2 .min (.gint ("MOST" : Str) (3)) (.bin .add (.m2 .get (.var 2) (.var 4) (.cint 0)) (.var 5))))] [], .sub (.var 2) (.var 4) (.var 5)],
    .ret (.f1 .tuple (.comp (.tup [.var 4, .idx (.var 2) (.var 4)]) (.nm 4) (.seq (.f1 .sorted (.var 2))) (some (.cmp .gt (.idx (.var 2) (.var 4)) (.cint 0))) [(("name" : Str), 4)]))]⟩
def fn__law_cell : Fn := ⟨2, 2, [
    .iff (.cmp .lt (.var 1) (.f1 .len (.var 0))) [.ret (.idx (.var 0) (.var 1))] [],
    .ret (.cint 0)]⟩
def fn__law_mix : Fn := ⟨3, 4, [
    .asg (.nm 3) (.bin .mod (.bin .mul (.var 0) (.cint 48271)) (.var 1)),
    .ret (.bin .mod (.bin .mod (.bin .mul (.var 3) (.bin .add (.var 3) (.cint 7))) (.var 1)) (.var 2))]⟩
def fn__law_book : Fn := ⟨1, 4, [
    .asg (.nm 1) (.lst []),
    .fr (.nm 2) (.seq (.tup [.cstr ("x" : Str), .cstr ("y" : Str)])) [.asg (.nm 3) (.call ("_law_mix" : Str) [.bin .add (.bin .add (.var 0) (.bin .mul (.f1 .len (.var 1)) (.cint 3))) (.f1 .int (.cmp .eq (.var 2) (.cstr ("y" : Str)))), .cint 9887, .cint 4]), .iff (.cmp .gt (.var 3) (.cint 0)) [.exp (.m1 .append (.var 1) (.tup [.var 2, .var 3]))] []],
    .ret (.f1 .tuple (.var 1))]⟩
def fn__law_deeds : Fn := ⟨1, 5, [
    .asg (.nm 1) (.lst []),
    .fr (.nm 2) (.range (.call ("_law_mix" : Str) [.var 0, .cint 9931, .cint 3])) [.asg (.nm 3) (.bin .add (.var 0) (.bin .mul (.cint 7) (.var 2))), .asg (.nm 4) (.idx (.tup [.cstr ("x" : Str), .cstr ("y" : Str)]) (.call ("_law_mix" : Str) [.var 3, .cint 9929, .cint 2])), .iff (.cmp .eq (.call ("_law_mix" : Str) [.var 3, .cint 9923, .cint 3]) (.cint 0)) [.exp (.m1 .append (.var 1) (.tup [.cstr ("set" : Str), .var 4, .call ("_law_mix" : Str) [.var 3, .cint 9907, .cint 4]]))] [.exp (.m1 .append (.var 1) (.tup [.cstr ("add" : Str), .var 4, .bin .sub (.call ("_law_mix" : Str) [.var 3, .cint 9901, .cint 5]) (.cint 2)]))]],
    .ret (.f1 .tuple (.var 1))]⟩
def fn__law_test : Fn := ⟨2, 3, [
    .asg (.nm 2) (.call ("_law_mix" : Str) [.var 0, .cint 9973, .cint 7]),
    .iff (.or (.cmp .lt (.var 2) (.cint 3)) (.cmp .lt (.var 1) (.cint 2))) [.iff (.cmp .eq (.bin .mod (.var 2) (.cint 2)) (.cint 0)) [.ret (.tup [.cstr ("has" : Str), .idx (.tup [.cstr ("x" : Str), .cstr ("y" : Str)]) (.call ("_law_mix" : Str) [.var 0, .cint 9967, .cint 2]), .bin .add (.cint 1) (.call ("_law_mix" : Str) [.var 0, .cint 9949, .cint 3])])] [], .ret (.tup [.cstr ("been" : Str), .idx (.tup [.cstr ("a" : Str), .cstr ("b" : Str), .cstr ("c" : Str), .cstr ("d" : Str)]) (.call ("_law_mix" : Str) [.var 0, .cint 9941, .cint 4])])] [],
    .iff (.cmp .eq (.var 2) (.cint 3)) [.ret (.tup [.cstr ("not" : Str), .call ("_law_test" : Str) [.bin .add (.var 0) (.cint 1), .bin .sub (.var 1) (.cint 1)]])] [],
    .ret (.tup [.idx (.tup [.cstr ("and" : Str), .cstr ("or" : Str)]) (.bin .mod (.var 2) (.cint 2)), .call ("_law_test" : Str) [.bin .add (.var 0) (.cint 2), .bin .sub (.var 1) (.cint 1)], .call ("_law_test" : Str) [.bin .add (.var 0) (.cint 5), .bin .sub (.var 1) (.cint 1)]])]⟩
def fn_law : Fn := ⟨1, 17, [
    .fr (.nm 1) (.range (.cint 16)) [.asg (.nm 2) (.bin .add (.call ("_law_cell" : Str) [.var 0, .bin .mod (.var 1) (.cint 9)]) (.bin .mul (.cint 31) (.var 1))), .swp [9, 10] [.call ("_law_book" : Str) [.var 2], .call ("_law_deeds" : Str) [.bin .add (.var 2) (.cint 3)]], .asg (.nm 3) (.call ("_law_deeds" : Str) [.bin .add (.var 2) (.cint 7)]), .asg (.nm 4) (.call ("done" : Str) [.var 9, .var 10]), .iff (.or (.cmp .ne (.call ("done" : Str) [.var 4, .var 3]) (.call ("done" : Str) [.var 9, .bin .add (.var 10) (.var 3)])) (.cmp .ne (.call ("done" : Str) [.var 9, .tup []]) (.var 9))) [.ret (.cbl false)] [], .iff (.or (.cmp .ne (.f1 .list (.var 4)) (.f1 .sorted (.var 4))) (.cmp .ne (.comp (.cint 1) (.tup [.nm 16, .nm 5]) (.seq (.var 4)) (some (.not (.chn .le .le (.cint 1) (.var 5) (.cint 3)))) [(("_law_name" : Str), 16), (("_law_number" : Str), 5)]) (.lst []))) [.ret (.cbl false)] [], .asg (.nm 5) (.call ("_law_mix" : Str) [.var 2, .cint 9697, .cint 4]), .asg (.nm 6) (.f1 .dict (.call ("done" : Str) [.var 4, .tup [.tup [.cstr ("add" : Str), .cstr ("x" : Str), .cint 2], .tup [.cstr ("set" : Str), .cstr ("x" : Str), .var 5]]])), .iff (.cmp .ne (.m2 .get (.var 6) (.cstr ("x" : Str)) (.cint 0)) (.var 5)) [.ret (.cbl false)] [], .iff (.cmp .ne (.call ("done" : Str) [.var 4, .tup [.tup [.cstr ("add" : Str), .cstr ("x" : Str), .cint 3], .tup [.cstr ("add" : Str), .cstr ("x" : Str), .neg (.cint 3)]]]) (.call ("done" : Str) [.var 4, .tup [.tup [.cstr ("set" : Str), .cstr ("x" : Str), .cint 0]]])) [.ret (.cbl false)] [], .iff (.cmp .ne (.call ("done" : Str) [.call ("done" : Str) [.var 4, .tup [.tup [.cstr ("add" : Str), .cstr ("y" : Str), .cint 3]]], .tup [.tup [.cstr ("add" : Str), .cstr ("y" : Str), .neg (.cint 1)]]]) (.call ("done" : Str) [.var 4, .tup [.tup [.cstr ("set" : Str), .cstr ("y" : Str), .cint 2]]])) [.ret (.cbl false)] [], .asg (.nm 7) (.f1 .tuple (.comp (.var 16) (.nm 16) (.seq (.cstr ("abcd" : Str))) (some (.cmp .eq (.call ("_law_mix" : Str) [.bin .add (.var 2) (.f1 .ord (.var 16)), .cint 9689, .cint 2]) (.cint 0))) [(("_law_name" : Str), 16)])), .swp [11, 12] [.call ("_law_test" : Str) [.bin .add (.var 2) (.cint 5), .cint 2], .call ("_law_test" : Str) [.bin .add (.var 2) (.cint 9), .cint 2]], .swp [13, 14] [.call ("holds" : Str) [.var 11, .var 4, .var 7], .call ("holds" : Str) [.var 12, .var 4, .var 7]], .iff (.cmp .ne (.lst [.call ("holds" : Str) [.tup [.cstr ("not" : Str), .var 11], .var 4, .var 7], .call ("holds" : Str) [.tup [.cstr ("and" : Str), .var 11, .var 12], .var 4, .var 7]]) (.lst [.not (.var 13), .and (.var 13) (.var 14)])) [.ret (.cbl false)] [], .iff (.cmp .ne (.call ("holds" : Str) [.tup [.cstr ("or" : Str), .var 11, .var 12], .var 4, .var 7]) (.or (.var 13) (.var 14))) [.ret (.cbl false)] [], .iff (.cmp .ne (.call ("holds" : Str) [.tup [.cstr ("not" : Str), .tup [.cstr ("not" : Str), .var 12]], .var 4, .var 7]) (.var 14)) [.ret (.cbl false)] [], .asg (.nm 8) (.comp (.call ("holds" : Str) [.tup [.cstr ("has" : Str), .cstr ("x" : Str), .var 15], .var 4, .var 7]) (.nm 15) (.seq (.tup [.cint 1, .cint 2, .cint 3])) none [(("_law_n" : Str), 15)]), .iff (.cmp .ne (.var 8) (.comp (.cmp .ge (.m2 .get (.f1 .dict (.var 4)) (.cstr ("x" : Str)) (.cint 0)) (.var 15)) (.nm 15) (.seq (.tup [.cint 1, .cint 2, .cint 3])) none [(("_law_n" : Str), 15)])) [.ret (.cbl false)] [], .iff (.cmp .ne (.comp (.call ("holds" : Str) [.tup [.cstr ("been" : Str), .var 16], .var 4, .var 7]) (.nm 16) (.seq (.cstr ("abcd" : Str))) none [(("_law_name" : Str), 16)]) (.comp (.cmp .isin (.var 16) (.var 7)) (.nm 16) (.seq (.cstr ("abcd" : Str))) none [(("_law_name" : Str), 16)])) [.ret (.cbl false)] []],
    .ret (.cbl true)]⟩
def P : Prog := [(("holds" : Str), fn_holds), (("done" : Str), fn_done), (("_law_cell" : Str), fn__law_cell), (("_law_mix" : Str), fn__law_mix), (("_law_book" : Str), fn__law_book), (("_law_deeds" : Str), fn__law_deeds), (("_law_test" : Str), fn__law_test), (("law" : Str), fn_law)]
def cs : List (Str × Const) := [(("MOST" : Str), .int (3))]
def top (i : Nat) : Stmt := PySem.Challenge.pw_branchtalk_k25_whole_deeds_and_tests.main.body.getD i (.Pass ⟨0, 0, 0, 0⟩)
def dc_holds : DC := ⟨⟨(("holds" : Str), none), ("holds" : Str), ("holds" : Str), defArgs (top 2), defBody (top 2), defScope (top 2), [], []⟩, [("test" : Str), ("book" : Str), ("been" : Str)], [("test" : Str), ("book" : Str), ("been" : Str)]⟩
def dc_done : DC := ⟨⟨(("done" : Str), none), ("done" : Str), ("done" : Str), defArgs (top 3), defBody (top 3), defScope (top 3), [], []⟩, [("book" : Str), ("deeds" : Str), ("held" : Str), ("word" : Str), ("name" : Str), ("number" : Str)], [("book" : Str), ("deeds" : Str)]⟩
def dc__law_cell : DC := ⟨⟨(("_law_cell" : Str), none), ("_law_cell" : Str), ("_law_cell" : Str), defArgs (top 5), defBody (top 5), defScope (top 5), [], []⟩, [("_law_script" : Str), ("_law_k" : Str)], [("_law_script" : Str), ("_law_k" : Str)]⟩
def dc__law_mix : DC := ⟨⟨(("_law_mix" : Str), none), ("_law_mix" : Str), ("_law_mix" : Str), defArgs (top 6), defBody (top 6), defScope (top 6), [], []⟩, [("_law_cell_here" : Str), ("_law_prime" : Str), ("_law_many" : Str), ("_law_blend" : Str)], [("_law_cell_here" : Str), ("_law_prime" : Str), ("_law_many" : Str)]⟩
def dc__law_book : DC := ⟨⟨(("_law_book" : Str), none), ("_law_book" : Str), ("_law_book" : Str), defArgs (top 7), defBody (top 7), defScope (top 7), [], []⟩, [("_law_cell_here" : Str), ("_law_found" : Str), ("_law_name" : Str), ("_law_number" : Str)], [("_law_cell_here" : Str)]⟩
def dc__law_deeds : DC := ⟨⟨(("_law_deeds" : Str), none), ("_law_deeds" : Str), ("_law_deeds" : Str), defArgs (top 8), defBody (top 8), defScope (top 8), [], []⟩, [("_law_cell_here" : Str), ("_law_found" : Str), ("_law_k" : Str), ("_law_seed" : Str), ("_law_name" : Str)], [("_law_cell_here" : Str)]⟩
def dc__law_test : DC := ⟨⟨(("_law_test" : Str), none), ("_law_test" : Str), ("_law_test" : Str), defArgs (top 9), defBody (top 9), defScope (top 9), [], []⟩, [("_law_cell_here" : Str), ("_law_deep" : Str), ("_law_way" : Str)], [("_law_cell_here" : Str), ("_law_deep" : Str)]⟩
def dc_law : DC := ⟨⟨(("law" : Str), none), ("law" : Str), ("law" : Str), defArgs (top 10), defBody (top 10), defScope (top 10), [], []⟩, [("_law_script" : Str), ("_law_k" : Str), ("_law_cell_here" : Str), ("_law_second" : Str), ("_law_new" : Str), ("_law_number" : Str), ("_law_held" : Str), ("_law_been" : Str), ("_law_least" : Str), ("_law_book_here" : Str), ("_law_first" : Str), ("_law_one" : Str), ("_law_other" : Str), ("_law_mine" : Str), ("_law_yours" : Str), ("_law_n" : Str), ("_law_name" : Str)], [("_law_script" : Str)]⟩
def tb : List DC := [dc_holds, dc_done, dc__law_cell, dc__law_mix, dc__law_book, dc__law_deeds, dc__law_test, dc_law]
theorem all_ok : allB P cs P tb = true := by decide +kernel
theorem b_holds : BindsD dc_holds := fun _ _ _ _ _ _ us hl => match us, hl with | [_, _, _], _ => rfl
theorem b_done : BindsD dc_done := fun _ _ _ _ _ _ us hl => match us, hl with | [_, _], _ => rfl
theorem b__law_cell : BindsD dc__law_cell := fun _ _ _ _ _ _ us hl => match us, hl with | [_, _], _ => rfl
theorem b__law_mix : BindsD dc__law_mix := fun _ _ _ _ _ _ us hl => match us, hl with | [_, _, _], _ => rfl
theorem b__law_book : BindsD dc__law_book := fun _ _ _ _ _ _ us hl => match us, hl with | [_], _ => rfl
theorem b__law_deeds : BindsD dc__law_deeds := fun _ _ _ _ _ _ us hl => match us, hl with | [_], _ => rfl
theorem b__law_test : BindsD dc__law_test := fun _ _ _ _ _ _ us hl => match us, hl with | [_, _], _ => rfl
theorem b_law : BindsD dc_law := fun _ _ _ _ _ _ us hl => match us, hl with | [_], _ => rfl
theorem binds : ∀ c ∈ tb, BindsD c := (List.forall_mem_cons.mpr ⟨b_holds, (List.forall_mem_cons.mpr ⟨b_done, (List.forall_mem_cons.mpr ⟨b__law_cell, (List.forall_mem_cons.mpr ⟨b__law_mix, (List.forall_mem_cons.mpr ⟨b__law_book, (List.forall_mem_cons.mpr ⟨b__law_deeds, (List.forall_mem_cons.mpr ⟨b__law_test, (List.forall_mem_cons.mpr ⟨b_law, (fun _ h => nomatch h)⟩)⟩)⟩)⟩)⟩)⟩)⟩)⟩)
abbrev R : PySem.W.OpenRow := PySem.W.OpenLaw.row PySem.Challenge.rw_branchtalk_k25_whole_deeds_and_tests
abbrev hk : PySem.W.Hook := He.hookD 4 (faOf P cs) (tb.map (·.d))
def ob (s : PySem.W.SharedT) : He.AlD := He.obsDG 4 (faOf P cs) (tb.map (·.d)) (HandSHeadRun.getT s)
theorem ob_eq (s : PySem.W.SharedT) : ob s = hk.obs s.abs := He.obsDG_eq (HandSHeadRun.getT_eq s)
def names0 : List Str := [("MOST" : Str), ("holds" : Str), ("done" : Str), ("_law_cell" : Str), ("_law_mix" : Str), ("_law_book" : Str), ("_law_deeds" : Str), ("_law_test" : Str)]
def names : List Str := names0
theorem runs (w : World) : HandSHeadRun.RunEq R (PySem.W.view R.prog [10]) hk ob 4000 names w := by
  intro os
  kernel_rfl
end LawText

namespace LawText
open PySem BT
theorem lk_mix : P.lookup (Str.ofString "_law_mix") = some cf__law_mix := by kernel_rfl
theorem lk_cell : P.lookup (Str.ofString "_law_cell") = some cf__law_cell := by kernel_rfl
theorem lk_book : P.lookup (Str.ofString "_law_book") = some cf__law_book := by kernel_rfl
theorem lk_deeds : P.lookup (Str.ofString "_law_deeds") = some cf__law_deeds := by kernel_rfl
theorem lk_done : P.lookup (Str.ofString "done") = some cf_done := by kernel_rfl
theorem lk_test : P.lookup (Str.ofString "_law_test") = some cf__law_test := by kernel_rfl
theorem lk_holds : P.lookup (Str.ofString "holds") = some cf_holds := by kernel_rfl
theorem lk_law : P.lookup (Str.ofString "law") = some fn_law := by kernel_rfl
def depth : Nat := 9
def turnB : List Sm := match fn_law.body with
  | .fr _ _ b :: _ => b
  | _ => []
/-- a turn of the law's row -/
theorem turn_run {is : List Int} {k : Int} (hk : 0 ≤ k) (M : Sto) (e2 e3 e4 e5 e6 e7 e8 e9 e10 e11 e12 e13 e14 e15 e16 : Option D) : ∃ e2' e3' e4' e5' e6' e7' e8' e9' e10' e11' e12' e13' e14' e15' e16' M',
    execs (run P 8) turnB [some (.fl is), some (.int k), e2, e3, e4, e5, e6, e7, e8, e9, e10, e11, e12, e13, e14, e15, e16] M = .nx [some (.fl is), some (.int k), e2', e3', e4', e5', e6', e7', e8', e9', e10', e11', e12', e13', e14', e15', e16'] (M ++ M') := by
  obtain ⟨c0, hc⟩ := cell_run lk_cell (is := is) (k := k.fmod 9) (Int.fmod_nonneg_of_pos _ (by decide)) (n := 7) (M := M)
  obtain ⟨b, gb, eb⟩ := book_run lk_mix lk_book (c := c0 + 31 * k) (n := 6) (M := M)
  obtain ⟨ds, l1, g1, r1⟩ := deeds_run lk_mix lk_deeds (c := c0 + 31 * k + 3) (n := 6) (M := M)
  obtain ⟨es, l2, g2, r2⟩ := deeds_run lk_mix lk_deeds (c := c0 + 31 * k + 7) (n := 6) (M := M)
  have gl := gb.len
  have f1 : fits (ds.length + es.length) = true := fits_of (by omega)
  have f2 : okR 16 = true := by decide
  have ho : ∀ d ∈ ds, d.ok := fun d h => (g1 d h).ok
  have q1 := done_run lk_done (b := b) (ds := ds) (by omega) (by omega) (n := 7) (M := M)
  have q2 := done_run lk_done (b := b) (ds := ds ++ es) (by omega) (by simp; omega) (n := 7) (M := M)
  have ob : OB (doneB b ds) _ := gb.ob.done fun d h => (g1 d h).can
  have obe : OB (doneB b (ds ++ es)) _ := gb.ob.done (ds := ds ++ es) fun d h => by
    rcases List.mem_append.mp h with h | h
    · exact (g1 d h).can
    · exact (g2 d h).can
  rw [← done_done gb.keys gb.nonneg ho] at q2 obe
  have lR := done_len (b := b) ds
  have q0 := done_run lk_done (b := b) (ds := []) (by omega) (by simp) (n := 7) (M := M)
  rw [done_nil gb.asc (fun p hp => by have := gb.rng p hp; omega)] at q0
  have q0 : run P 8 (Str.ofString "done") [encB b, .tup []] M = _ := q0
  have s0 := eq_self (M := M) (plB_book gb.ob.nm)
  generalize hf : doneV (fun x => val b x) ds = f at ob
  generalize doneB b ds = R at *
  have q3 := done_run lk_done (b := R) (ds := es) (by omega) (by omega) (n := 7) (M := M)
  have s1 := eq_self (M := M) (plB_book obe.nm)
  have dn : ∀ (N : Sto) (ds : List Deed), ds.length ≤ 5 → run P 8 (Str.ofString "done") [encB R, encDs ds] N = .ok (encB (doneB R ds)) N := fun N ds h => done_run lk_done (by omega) (by omega) (n := 7) (M := N)
  obtain ⟨n, hn⟩ : ∃ n, mix (c0 + 31 * k) 9697 4 = n := ⟨_, rfl⟩
  have nr := mix_range (c := c0 + 31 * k) (p := 9697) (m := 4) (by decide)
  rw [hn] at nr
  have fR : fits R.length = true := fits_of (by omega)
  have so : ∀ N : Sto, f1D N .sorted (encB R) = .ok (.ref N.length) (N ++ [.lst (R.map encP)]) := fun N => by
    have := sorted_prs (M := N) (a := encB R) (xs := R) rfl (by omega)
    rw [ob.is.srt] at this
    exact this
  have sl := saBs_book ob.nm
  have el : eqD (M ++ [.lst (R.map encP), .lst (R.map encP)]) (.ref M.length) (.ref (M.length + 1)) = some true := eq_lsts (n := 2) (ds := R.map encP) (by simp) (by simp) sl
  simp [turnB, fn_law, hc, eb, r1, r2, f1, q1, q2, q3, q0, s0, s1, fR, so, el]
  rw [comp_val (M1 := M) (xs := R) (en := encP) (kp := []) (fun _ => none) (by simp) rfl (by
    rintro ⟨x, v⟩ hp
    have h1 : v ≤ 3 := by have := (ob.is.2 x v).mp hp; have := ob.hi x; omega
    have h2 : 1 ≤ v := by have := (ob.is.2 x v).mp hp; omega
    simp [compB, encP, h1, h2])]
  have e0 : eqD (M ++ [.lst [], .lst []]) (.ref M.length) (.ref (M.length + 1)) = some true := eq_lsts (n := 2) (ds := []) (by simp) (by simp) rfl
  have dx := dn M [⟨Str.ofString "add", Str.ofString "x", 2⟩, ⟨Str.ofString "set", Str.ofString "x", n⟩] (by simp)
  simp only [encDs, List.map_cons, List.map_nil, encDd] at dx
  have obx := ob.done (ds := [⟨Str.ofString "add", Str.ofString "x", 2⟩, ⟨Str.ofString "set", Str.ofString "x", n⟩]) (can_cons (can_add (by decide) ok_x) (can_cons (can_set nr.1 (by omega) ok_x) can_nil))
  have lx := done_len (b := R) [⟨Str.ofString "add", Str.ofString "x", 2⟩, ⟨Str.ofString "set", Str.ofString "x", n⟩]
  have vx := obx.val (Str.ofString "x")
  have vx : val (doneB R [⟨Str.ofString "add", Str.ofString "x", 2⟩, ⟨Str.ofString "set", Str.ofString "x", n⟩]) (Str.ofString "x") = n := by
    rw [vx]
    simp [doneV, newN]
  generalize doneB R [⟨Str.ofString "add", Str.ofString "x", 2⟩, ⟨Str.ofString "set", Str.ofString "x", n⟩] = X at *
  have vx : (Option.map D.int (X.lookup (Str.ofString "x"))).getD (.int 0) = .int n := by
    rw [← vx]; unfold val; cases X.lookup (Str.ofString "x") <;> rfl
  have hn' := mix_run lk_mix (c := c0 + 31 * k) (p := 9697) (m := 4) (n := 7) (M := M) (by decide) (by decide) (by decide)
  rw [hn] at hn'
  have xadd : doneB R [⟨Str.ofString "add", Str.ofString "x", 3⟩, ⟨Str.ofString "add", Str.ofString "x", -3⟩] = doneB R [⟨Str.ofString "set", Str.ofString "x", 0⟩] := by
    refine OB.same (ob.done (can_cons (can_add (by decide) ok_x) (can_cons (can_add (by decide) ok_x) can_nil))) (ob.done (can_cons (can_set (by decide) (by decide) ok_x) can_nil)) fun y => ?_
    have h1 := ob.lo (Str.ofString "x")
    have h2 := ob.hi (Str.ofString "x")
    simp [doneV, newN]
    split
    · omega
    · rfl
  have yadd : doneB (doneB R [⟨Str.ofString "add", Str.ofString "y", 3⟩]) [⟨Str.ofString "add", Str.ofString "y", -1⟩] = doneB R [⟨Str.ofString "set", Str.ofString "y", 2⟩] := by
    refine OB.same ((ob.done (can_cons (can_add (by decide) ok_y) can_nil)).done (can_cons (can_add (by decide) ok_y) can_nil)) (ob.done (can_cons (can_set (by decide) (by decide) ok_y) can_nil)) fun y => ?_
    have h1 := ob.lo (Str.ofString "y")
    have h2 := ob.hi (Str.ofString "y")
    simp [doneV, newN]
    split
    · omega
    · rfl
  have oset := ob.done (can_cons (can_set (x := Str.ofString "x") (n := 0) (by decide) (by decide) ok_x) can_nil)
  have oset2 := ob.done (can_cons (can_set (x := Str.ofString "y") (n := 2) (by decide) (by decide) ok_y) can_nil)
  have ly := done_len (b := R) [⟨Str.ofString "add", Str.ofString "y", 3⟩]
  have d1 := fun N => dn N [⟨Str.ofString "add", Str.ofString "x", 3⟩, ⟨Str.ofString "add", Str.ofString "x", -3⟩] (by simp)
  have d2 := fun N => dn N [⟨Str.ofString "set", Str.ofString "x", 0⟩] (by simp)
  have d3 := fun N => dn N [⟨Str.ofString "add", Str.ofString "y", 3⟩] (by simp)
  have d4 := fun N => done_run lk_done (b := doneB R [⟨Str.ofString "add", Str.ofString "y", 3⟩]) (ds := [⟨Str.ofString "add", Str.ofString "y", -1⟩]) (by simp at ly; omega) (by simp) (n := 7) (M := N)
  have d5 := fun N => dn N [⟨Str.ofString "set", Str.ofString "y", 2⟩] (by simp)
  rw [xadd] at d1
  rw [yadd] at d4
  have sx := fun N => eq_self (M := N) (plB_book oset.nm)
  have sy := fun N => eq_self (M := N) (plB_book oset2.nm)
  generalize doneB R [⟨Str.ofString "set", Str.ofString "x", 0⟩] = X0 at *
  generalize doneB R [⟨Str.ofString "set", Str.ofString "y", 2⟩] = Y2 at *
  generalize doneB R [⟨Str.ofString "add", Str.ofString "y", 3⟩] = Y3 at *
  simp only [encDs, List.map_cons, List.map_nil, encDd, Nat.reduceAdd] at d1 d2 d3 d4 d5
  simp [e0, hn', dx, dict_bookN (show X.length ≤ 1000 by simp at lx; omega) obx.is.keys, m2K, vx, d1, d2, d3, d4, d5, sx, sy]
  obtain ⟨M1, hM1⟩ : ∃ M1, M ++ [MO.dct (kvB X)] = M1 := ⟨_, rfl⟩
  rw [hM1]
  rw [comp_val (M1 := M1) (xs := abcd) (en := D.str) (kp := []) (fun x => if mix (c0 + 31 * k + (x.cps.getD 0 0 : Nat)) 9689 2 = 0 then some (.str x) else none) (by simp) rfl (by
    intro x hx
    have hl : x.length = 1 := by
      simp [abcd] at hx
      rcases hx with rfl | rfl | rfl | rfl <;> decide +kernel
    simp [compB, f1D, hl, mix_run lk_mix]
    split <;> rfl)]
  rw [filterMap_ite]
  have hs : fits (abcd.filter fun x => decide (mix (c0 + 31 * k + (x.cps.getD 0 0 : Nat)) 9689 2 = 0)).length = true := fits_of (Nat.le_trans (List.length_filter_le _ _) (by simp [abcd]))
  generalize (abcd.filter fun x => decide (mix (c0 + 31 * k + (x.cps.getD 0 0 : Nat)) 9689 2 = 0)) = s at hs
  obtain ⟨t1, w1, ht1, et1⟩ := test_run lk_mix lk_test 2 (c0 + 31 * k + 5) 8 M1 (by decide) (by decide)
  obtain ⟨t2, w2, ht2, et2⟩ := test_run lk_mix lk_test 2 (c0 + 31 * k + 9) 8 M1 (by decide) (by decide)
  have et1 : run P 8 (Str.ofString "_law_test") [.int (c0 + 31 * k + 5), .int 2] M1 = .ok (encT t1) M1 := et1
  have et2 : run P 8 (Str.ofString "_law_test") [.int (c0 + 31 * k + 9), .int 2] M1 = .ok (encT t2) M1 := et2
  have hR : R.length ≤ 1000 := by omega
  have hn := ob.is.keys
  have hol : ∀ (t : Tst) (N : Sto), t.ht ≤ 8 → run P 8 (Str.ofString "holds") [encT t, encB R, encS s] N = .ok (.bl (hold R s t)) N := fun t N h => holds_run lk_holds (s := s) hR hn t 8 N h
  have h1 := fun N => hol t1 N (by omega)
  have h2 := fun N => hol t2 N (by omega)
  have h3 := fun N => hol (.nt t1) N (by simp only [Tst.ht]; omega)
  have h4 := fun N => hol (.an t1 t2) N (by simp only [Tst.ht]; omega)
  have h5 := fun N => hol (.orr t1 t2) N (by simp only [Tst.ht]; omega)
  have h6 := fun N => hol (.nt (.nt t2)) N (by simp only [Tst.ht]; omega)
  simp only [encT, hold] at h3 h4 h5 h6
  have g : gc M1 (.ok (.tup (s.map D.str)) (M1 ++ [.lst (s.map D.str)])) = .ok (encS s) M1 := gc_strs
  have el2 : ∀ a b : Bool, eqD (M1 ++ [MO.lst [D.bl a, D.bl b], MO.lst [D.bl a, D.bl b]]) (.ref M1.length) (.ref (M1.length + 1)) = some true := fun a b => eq_lsts (n := 2) (ds := [D.bl a, D.bl b]) (by simp) (by simp) rfl
  simp [hs, g, et1, et2, h1, h2, h3, h4, h5, h6, el2]
  have h7 := fun (i : Int) N => hol (.has (Str.ofString "x") i) N (by simp [Tst.ht])
  have h8 := fun (y : Str) N => hol (.been y) N (by simp [Tst.ht])
  simp only [encT, hold] at h7 h8
  rw [comp_val (M1 := M1) (xs := [1, 2, 3]) (en := D.int) (kp := []) (fun i => some (.bl (decide (i ≤ (R.lookup (Str.ofString "x")).getD 0)))) (by simp) rfl (by
    intro i hi
    simp [compB, h7])]
  obtain ⟨L3, hL3⟩ : ∃ L3, L3 = ([1, 2, 3] : List Int).map fun i => D.bl (decide (i ≤ (R.lookup (Str.ofString "x")).getD 0)) := ⟨_, rfl⟩
  have sL3 : saBs 2 L3 = true := by rw [hL3]; rfl
  have fL3 : fits L3.length = true := by rw [hL3]; simp
  rw [List.filterMap_eq_map', ← hL3]
  obtain ⟨M2, hM2⟩ : ∃ M2, M1 ++ [MO.lst L3] = M2 := ⟨_, rfl⟩
  have c1 : M2[M1.length]? = some (MO.lst L3) := by rw [← hM2]; simp
  rw [newL_ok, if_pos fL3, hM2]
  have gt : ∀ i : Int, (Option.map D.int (R.lookup (Str.ofString "x"))).getD (.int 0) = .int ((R.lookup (Str.ofString "x")).getD 0) := by
    intro i; cases R.lookup (Str.ofString "x") <;> rfl
  have el3 : eqD (M2 ++ [MO.lst L3]) (.ref M1.length) (.ref M2.length) = some true := by
    have lt : M1.length < M2.length := by rw [← hM2]; simp
    exact eq_lsts (n := 2) (ds := L3) (by rw [List.getElem?_append_left lt]; exact c1) (by simp) sL3
  obtain ⟨L4, hL4⟩ : ∃ L4, L4 = abcd.map fun y => D.bl (decide (y ∈ s)) := ⟨_, rfl⟩
  have sL4 : saBs 2 L4 = true := by rw [hL4]; rfl
  have fL4 : fits L4.length = true := by rw [hL4]; simp [abcd]
  have el4 : eqD (M2 ++ [MO.lst L4, MO.lst L4]) (.ref M2.length) (.ref (M2.length + 1)) = some true := eq_lsts (n := 2) (ds := L4) (by simp) (by simp) sL4
  have hz : M2 = M ++ M2.drop M.length := by rw [← hM2, ← hM1]; simp
  simp
  rw [comp_val (M1 := M2) (xs := [1, 2, 3]) (en := D.int) (kp := []) (fun i => some (.bl (decide (i ≤ (R.lookup (Str.ofString "x")).getD 0)))) (by simp) rfl (by
    intro i hi
    simp [compB, dict_bookN hR hn, m2K, gt i])]
  rw [List.filterMap_eq_map', ← hL3]
  simp [el3, fL3]
  rw [comp_val (M1 := M2) (xs := abcd) (en := D.str) (kp := []) (fun y => some (.bl (decide (y ∈ s)))) (by simp) rfl (by
    intro i hi
    simp [compB, h8])]
  rw [List.filterMap_eq_map', ← hL4]
  simp [fL4]
  rw [comp_val (M1 := M2 ++ [MO.lst L4]) (xs := abcd) (en := D.str) (kp := []) (fun y => some (.bl (decide (y ∈ s)))) (by simp) rfl (by
    intro i hi
    simp [compB, in_strs])]
  rw [List.filterMap_eq_map', ← hL4]
  simp [fL4, el4]
  exact ⟨_, hz⟩
theorem law_true (is : List Int) (_ : is.length ≤ 63) : ∃ M', run P depth (Str.ofString "law") [.fl is] [] = .ok (.bl true) M' := by
  obtain ⟨env, M, e, e1, e2, e3, e4, e5, e6, e7, e8, e9, e10, e11, e12, e13, e14, e15, e16, rfl⟩ := for_inv (ok := (Wk.mk (upto 0 16) []).ok) (t := .nm 1) (b := execs (run P 8) turnB) (ds := upto 0 16) (env := [some (.fl is), none, none, none, none, none, none, none, none, none, none, none, none, none, none, none, none]) (M := [])
    (fun env M => ∃ e1 e2 e3 e4 e5 e6 e7 e8 e9 e10 e11 e12 e13 e14 e15 e16, env = [some (.fl is), e1, e2, e3, e4, e5, e6, e7, e8, e9, e10, e11, e12, e13, e14, e15, e16]) (fun _ _ _ => rfl) ⟨_, _, _, _, _, _, _, _, _, _, _, _, _, _, _, _, rfl⟩ (by
      rintro d hd env M ⟨e1, e2, e3, e4, e5, e6, e7, e8, e9, e10, e11, e12, e13, e14, e15, e16, rfl⟩
      obtain ⟨k, rfl, hk⟩ := upto_mem hd
      obtain ⟨a2, a3, a4, a5, a6, a7, a8, a9, a10, a11, a12, a13, a14, a15, a16, M', q⟩ := turn_run (is := is) (k := 0 + (k : Int)) (by omega) M e2 e3 e4 e5 e6 e7 e8 e9 e10 e11 e12 e13 e14 e15 e16
      exact ⟨_, rfl, _, _, .inl q, _, _, _, _, _, _, _, _, _, _, _, _, _, _, _, _, rfl⟩)
  refine ⟨[], run_rt lk_law rfl (by decide) (M' := M) ?_ rfl (by simp)⟩
  have r : okR 16 = true := by decide
  show execs (run P 8) (.fr (.nm 1) (.range (.cint 16)) turnB :: fn_law.body.tail) _ _ = _
  rw [xs_cons, x_fr]
  simp [r, fn_law]
  rw [e]
  simp
end LawText

namespace LawText
open PySem BT
theorem law_name : (HandSHeadRun.topDef (PySem.W.OpenLaw.row PySem.Challenge.rw_branchtalk_k25_whole_deeds_and_tests).prog 10).name = Str.ofString "law" := by kernel_rfl
theorem law_ps : ∀ c ∈ tb, c.d.at_ = ((HandSHeadRun.topDef (PySem.W.OpenLaw.row PySem.Challenge.rw_branchtalk_k25_whole_deeds_and_tests).prog 10).name, none) → c.ps = [("_law_script" : PySem.Str)] := by
  rw [law_name]
  decide +kernel
theorem law_run : ∀ is : List Int, is.length ≤ 63 → ∃ M', run P depth (HandSHeadRun.topDef (PySem.W.OpenLaw.row PySem.Challenge.rw_branchtalk_k25_whole_deeds_and_tests).prog 10).name [.fl is] [] = .ok (.bl true) M' := by
  rw [law_name]
  exact fun is h => law_true is h
theorem law_is : P.lookup (HandSHeadRun.topDef (PySem.W.OpenLaw.row PySem.Challenge.rw_branchtalk_k25_whole_deeds_and_tests).prog 10).name = some fn_law := by
  rw [law_name]
  kernel_rfl
end LawText
open PySem PySem.W PySem.Calls PyProof.Rows
theorem PySem.Challenge.cw_branchtalk_k25_whole_deeds_and_tests_holds : PySem.Challenge.rw_branchtalk_k25_whole_deeds_and_tests.Holds := by
  w_on; o_law
  refine HandSHeadRun.head_any (r := OpenLaw.row PySem.Challenge.rw_branchtalk_k25_whole_deeds_and_tests) (q := view (OpenLaw.row PySem.Challenge.rw_branchtalk_k25_whole_deeds_and_tests).prog [10]) (H := LawText.hk) (ob := LawText.ob) (M := 4000) (loose := LawText.names) (d := HandSHeadRun.topDef (OpenLaw.row PySem.Challenge.rw_branchtalk_k25_whole_deeds_and_tests).prog 10) (kwd := []) LawText.ob_eq
    (by kernel_rfl) (fun s => by kernel_rfl) LawText.runs (by kernel_rfl) (by kernel_rfl) (by kernel_rfl) (by rfl) (by first | assumption | decide +kernel) (by decide +kernel) ⟨rfl, rfl, rfl, rfl, rfl, by decide +kernel⟩ ?hw ?hc
  case hw => w_witness2
  case hc => exact BT.law_end (n := 63) (k := LawText.depth) (x := ("_law_script" : PySem.Str)) (fn0 := LawText.fn_law) rfl (by decide) (by kernel_rfl) ⟨rfl, by decide, by decide⟩ LawText.all_ok LawText.binds (by decide +kernel) LawText.law_is LawText.law_ps LawText.law_run

