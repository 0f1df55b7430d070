import PyProof.Rows.All
import Wide.All
import OpenK.AllK
import Wide.FinOn
import KE.KStateDown
import KE.KDictKeyed
import KE.KDictWalk
import HandS.Base
import HandS.Call
import HandS.List
import HandS.Comp
import HandS.Ends
import HandS.Dict
import HandS.Iter
import HandS.Text
import HandS.Walk
import HandS.Exc
import HandS.TryOnly
import HandS.TryMany
import HandS.ExcOwn
import HandS.ExcInit
import HandS.ExcField
import HandS.Words
import HandS.WordsList
import HandS.WordsDict
import HandS.WordsExc
import HandS.Defaults
import HandS.Deep
import HandS.TupAny
import HandS.TupMul
import HandS.Wide
import HandS.Style
import HandS.Codes
import HandS.Conv
import HandS.IsInst
import HandS.Property
import HandS.SortOrd
import KE.GoesEnum
import KE.GoesZip
import KE.GoesMore
import HandS.CallSlots
import HandS.RaiseMore
import HandS.Head0
import HandS.Head1
import HandS.Head2
import HandS.HeadEnd
import HandS.HeadHook1
import HandS.HeadHook2
import HandS.TupLen
import KE.SortData
import HandS.DictComp
import KE.KDictZip
import KE.KExcInit
import HandS.SlotsOwn
import KE.KDictList
import KE.KDictCopyH
import HandS.SetBool
import HandS.Strs
import KE.DataCmp
import PyProof.ExcBaseAll.ValueError
import KE.KDictPairs
import PySem.Challenge.RW_graftrules_k19_known_great_numbers
noncomputable section
set_option linter.all false
/-! a small machine: values, store, codes -/
namespace G
inductive Val where
  | none | bool (b : Bool) | int (i : Int) | str (s : List Nat) | tup (vs : List Val) | ref (n : Nat) | scr (ns : List Int) | err
  deriving Inhabited
inductive Obj where
  | lst (xs : List Val) | dct (kvs : List (Val × Val)) | set (xs : List Int) | ins (c : Nat) (fs : List (Nat × Val)) | fz (kvs : List (Val × Val))
/-! the store: a tree by the binary digits of the number -/
inductive Tr where
  | nil | node (o : Option Obj) (l r : Tr)
def Tr.geto : Tr → Nat → Option Obj
  | .nil, _ => .none
  | .node o l r, n => match Nat.beq n 0 with
    | true => o
    | false => match Nat.beq (n % 2) 1 with
      | true => l.geto (n / 2)
      | false => r.geto (n / 2 - 1)
def Tr.seto : Nat → Tr → Nat → Obj → Tr
  | 0, t, _, _ => t
  | k + 1, .nil, n, x => match Nat.beq n 0 with
    | true => .node (some x) .nil .nil
    | false => match Nat.beq (n % 2) 1 with
      | true => .node .none (Tr.seto k .nil (n / 2) x) .nil
      | false => .node .none .nil (Tr.seto k .nil (n / 2 - 1) x)
  | k + 1, .node o l r, n, x => match Nat.beq n 0 with
    | true => .node (some x) l r
    | false => match Nat.beq (n % 2) 1 with
      | true => .node o (Tr.seto k l (n / 2) x) r
      | false => .node o l (Tr.seto k r (n / 2 - 1) x)
theorem Tr.seto_fuel : ∀ (k : Nat) (t : Tr) (n : Nat) (x : Obj), n < 2 ^ k → (Tr.seto (k + 1) t n x).geto n = some x
  | k, t, n, x, h => by
    cases e : Nat.beq n 0 with
    | true => cases t <;> simp [Tr.seto, Tr.geto, e]
    | false =>
      have hn : n ≠ 0 := fun q => by rw [q] at e; cases e
      cases k with
      | zero => omega
      | succ k =>
        have hk : 2 ^ (k + 1) = 2 * 2 ^ k := by rw [Nat.pow_succ, Nat.mul_comm]
        cases e2 : Nat.beq (n % 2) 1 with
        | true =>
          have h2 : n / 2 < 2 ^ k := by omega
          cases t with
          | nil =>
            have a : Tr.seto (k + 1 + 1) .nil n x = .node .none (Tr.seto (k + 1) .nil (n / 2) x) .nil := by rw [Tr.seto]; simp only [e, e2]
            rw [a, Tr.geto]; simp only [e, e2]; exact Tr.seto_fuel k _ _ _ h2
          | node o l r =>
            have a : Tr.seto (k + 1 + 1) (.node o l r) n x = .node o (Tr.seto (k + 1) l (n / 2) x) r := by rw [Tr.seto]; simp only [e, e2]
            rw [a, Tr.geto]; simp only [e, e2]; exact Tr.seto_fuel k _ _ _ h2
        | false =>
          have h2 : n / 2 - 1 < 2 ^ k := by omega
          cases t with
          | nil =>
            have a : Tr.seto (k + 1 + 1) .nil n x = .node .none .nil (Tr.seto (k + 1) .nil (n / 2 - 1) x) := by rw [Tr.seto]; simp only [e, e2]
            rw [a, Tr.geto]; simp only [e, e2]; exact Tr.seto_fuel k _ _ _ h2
          | node o l r =>
            have a : Tr.seto (k + 1 + 1) (.node o l r) n x = .node o l (Tr.seto (k + 1) r (n / 2 - 1) x) := by rw [Tr.seto]; simp only [e, e2]
            rw [a, Tr.geto]; simp only [e, e2]; exact Tr.seto_fuel k _ _ _ h2
theorem Tr.geto_nil (n : Nat) : Tr.nil.geto n = .none := rfl
theorem Tr.seto_other : ∀ (k : Nat) (t : Tr) (n m : Nat) (x : Obj), m ≠ n → (Tr.seto k t n x).geto m = t.geto m
  | 0, _, _, _, _, _ => rfl
  | k + 1, t, n, m, x, h => by
    have ih := Tr.seto_other k
    cases e : Nat.beq n 0 with
    | true =>
      have hn : n = 0 := Nat.eq_of_beq_eq_true e
      have hm : Nat.beq m 0 = false := by
        cases q : Nat.beq m 0 with
        | true => exact absurd ((Nat.eq_of_beq_eq_true q).trans hn.symm) h
        | false => rfl
      cases t with
      | nil => simp only [Tr.seto, Tr.geto, e, hm]; split <;> rfl
      | node o l r => simp only [Tr.seto, Tr.geto, e, hm]
    | false =>
      have hn : n ≠ 0 := fun q => by rw [q] at e; cases e
      cases f : Nat.beq m 0 with
      | true => cases t <;> simp only [Tr.seto, Tr.geto, e, f] <;> cases Nat.beq (n % 2) 1 <;> simp [Tr.geto, f]
      | false =>
        have hm : m ≠ 0 := fun q => by rw [q] at f; cases f
        cases e2 : Nat.beq (n % 2) 1 with
        | true =>
          have n2 : n % 2 = 1 := Nat.eq_of_beq_eq_true e2
          cases f2 : Nat.beq (m % 2) 1 with
          | true =>
            have m2 : m % 2 = 1 := Nat.eq_of_beq_eq_true f2
            cases t <;> simp only [Tr.seto, Tr.geto, e, f, e2, f2] <;> rw [ih _ _ _ _ (by omega)] <;> rfl
          | false => cases t <;> simp only [Tr.seto, Tr.geto, e, f, e2, f2]
        | false =>
          have n2 : n % 2 ≠ 1 := fun q => by rw [q] at e2; cases e2
          cases f2 : Nat.beq (m % 2) 1 with
          | true => cases t <;> simp only [Tr.seto, Tr.geto, e, f, e2, f2]
          | false =>
            have m2 : m % 2 ≠ 1 := fun q => by rw [q] at f2; cases f2
            cases t <;> simp only [Tr.seto, Tr.geto, e, f, e2, f2] <;> rw [ih _ _ _ _ (by omega)] <;> rfl
/-! the same by the recursors, for the kernel -/
def Tr.getF (n : Nat) (t : Tr) : Option Obj := t.geto n
def Tr.setF (k : Nat) (t : Tr) (n : Nat) (x : Obj) : Tr := Tr.seto k t n x
def Tr.getR (n : Nat) (t : Tr) : Option Obj := Tr.rec (motive := fun _ => Nat → Option Obj) (fun _ => .none) (fun o _ _ gl gr n => Bool.rec (motive := fun _ => Option Obj) (Bool.rec (motive := fun _ => Option Obj) (gr (Nat.pred (Nat.div n (nat_lit 2)))) (gl (Nat.div n (nat_lit 2))) (Nat.beq (Nat.mod n (nat_lit 2)) (nat_lit 1))) o (Nat.beq n (nat_lit 0))) t n
def Tr.get (t : Tr) (n : Nat) : Option Obj := Tr.getR n t
def Tr.set (k : Nat) (t : Tr) (n : Nat) (x : Obj) : Tr := Nat.rec (motive := fun _ => Tr → Nat → Tr) (fun t _ => t)
  (fun _ ih t n => Tr.rec (motive := fun _ => Tr)
    (Bool.rec (motive := fun _ => Tr) (Bool.rec (motive := fun _ => Tr) (.node .none .nil (ih .nil (Nat.pred (Nat.div n (nat_lit 2))))) (.node .none (ih .nil (Nat.div n (nat_lit 2))) .nil) (Nat.beq (Nat.mod n (nat_lit 2)) (nat_lit 1))) (.node (some x) .nil .nil) (Nat.beq n (nat_lit 0)))
    (fun o l r _ _ => Bool.rec (motive := fun _ => Tr) (Bool.rec (motive := fun _ => Tr) (.node o l (ih r (Nat.pred (Nat.div n (nat_lit 2))))) (.node o (ih l (Nat.div n (nat_lit 2))) r) (Nat.beq (Nat.mod n (nat_lit 2)) (nat_lit 1))) (.node (some x) l r) (Nat.beq n (nat_lit 0))) t) k t n
theorem Tr.get_eq : ∀ (t : Tr) (n : Nat), t.get n = t.geto n
  | .nil, _ => rfl
  | .node o l r, n => by
    show Bool.rec (motive := fun _ => Option Obj) (Bool.rec (motive := fun _ => Option Obj) (r.get (n / 2 - 1)) (l.get (n / 2)) (Nat.beq (n % 2) 1)) o (Nat.beq n 0) = _
    rw [Tr.geto, Tr.get_eq r, Tr.get_eq l]
    cases Nat.beq n 0 <;> cases Nat.beq (n % 2) 1 <;> rfl
theorem Tr.set_eq : ∀ (k : Nat) (t : Tr) (n : Nat) (x : Obj), Tr.set k t n x = Tr.seto k t n x
  | 0, _, _, _ => by rw [Tr.seto]; rfl
  | k + 1, .nil, n, x => by
    show Bool.rec (motive := fun _ => Tr) (Bool.rec (motive := fun _ => Tr) (.node .none .nil (Tr.set k .nil (n / 2 - 1) x)) (.node .none (Tr.set k .nil (n / 2) x) .nil) (Nat.beq (n % 2) 1)) (.node (some x) .nil .nil) (Nat.beq n 0) = _
    rw [Tr.seto, Tr.set_eq k, Tr.set_eq k]
    cases Nat.beq n 0 <;> cases Nat.beq (n % 2) 1 <;> rfl
  | k + 1, .node o l r, n, x => by
    show Bool.rec (motive := fun _ => Tr) (Bool.rec (motive := fun _ => Tr) (.node o l (Tr.set k r (n / 2 - 1) x)) (.node o (Tr.set k l (n / 2) x) r) (Nat.beq (n % 2) 1)) (.node (some x) l r) (Nat.beq n 0) = _
    rw [Tr.seto, Tr.set_eq k, Tr.set_eq k]
    cases Nat.beq n 0 <;> cases Nat.beq (n % 2) 1 <;> rfl
theorem Tr.set_fuel (k : Nat) (t : Tr) (n : Nat) (x : Obj) (h : n < 2 ^ k) : (Tr.set (k + 1) t n x).get n = some x := by
  rw [Tr.get_eq, Tr.set_eq]; exact Tr.seto_fuel k t n x h
theorem Tr.get_nil (n : Nat) : Tr.nil.get n = .none := rfl
theorem Tr.set_other (k : Nat) (t : Tr) (n m : Nat) (x : Obj) (h : m ≠ n) : (Tr.set k t n x).get m = t.get m := by
  rw [Tr.get_eq, Tr.set_eq, Tr.get_eq]; exact Tr.seto_other k t n m x h
structure Store where
  nx : Nat
  t : Tr
def Store.get (S : Store) (n : Nat) : Option Obj := S.t.get n
def Store.put (S : Store) (n : Nat) (o : Obj) : Store := ⟨S.nx, S.t.set 65 n o⟩
def Store.new (S : Store) (o : Obj) : Store := ⟨S.nx + 1, S.t.set 65 S.nx o⟩
def big : Nat := 2 ^ 64
theorem Store.get_put (S : Store) (n m : Nat) (o : Obj) (h : n < big) : (S.put n o).get m = if m = n then some o else S.get m := by
  by_cases e : m = n
  · subst e; rw [if_pos rfl]; exact Tr.set_fuel 64 S.t m o h
  · rw [if_neg e]; exact Tr.set_other 65 S.t n m o e
theorem Store.get_new (S : Store) (m : Nat) (o : Obj) (h : S.nx < big) : (S.new o).get m = if m = S.nx then some o else S.get m := Store.get_put S S.nx m o h
inductive R (α : Type) where
  | ok (a : α) (S : Store)
  | exc (c : Nat) (fs : List (Nat × Val)) (S : Store)
  | stuck (why : Nat)
/-- what a code may ask: a call by number, a method's and a property's number, whether a class's instances have a field, the handled exception's fields -/
structure Orc where
  call : Nat → List Val → Store → R Val
  meth : Nat → Nat → Option Nat
  prop : Nat → Nat → Option Nat
  fld : Nat → Nat → Bool
  err : Option (List (Nat × Val)) := .none
abbrev Env := List (Option Val)
abbrev E := Orc → Env → Store → R Val
abbrev EL := Orc → Env → Store → R (List Val)
def R.bindF {α β} (m : R α) (k : α → Store → R β) : R β := match m with
  | .ok a S => k a S
  | .exc c fs S => .exc c fs S
  | .stuck w => .stuck w
def R.kExc {β : Type} (c : Nat) (fs : List (Nat × Val)) (S : Store) : R β := .exc c fs S
def R.kStk {β : Type} (w : Nat) : R β := .stuck w
def R.bind {α β} (m : R α) (k : α → Store → R β) : R β := R.rec (motive := fun _ => R β) k R.kExc R.kStk m
def getEF (i : Nat) (l : Env) : Option (Option Val) := l[i]?
def tlEF (l : Env) : Env := l.tail
def tlE (l : Env) : Env := List.rec (motive := fun _ => Env) [] (fun _ t _ => t) l
def hdEF (l : Env) : Option (Option Val) := l.head?
def hdE (l : Env) : Option (Option Val) := List.rec (motive := fun _ => Option (Option Val)) .none (fun a _ _ => some a) l
def getE (i : Nat) (l : Env) : Option (Option Val) := Nat.rec (motive := fun _ => Env → Option (Option Val)) hdE (fun _ ih l => List.rec (motive := fun _ => Option (Option Val)) .none (fun _ t _ => ih t) l) i l
theorem getE_eq : ∀ (i : Nat) (l : Env), getE i l = l[i]?
  | 0, [] => rfl
  | 0, _ :: _ => rfl
  | _ + 1, [] => rfl
  | i + 1, _ :: t => by rw [List.getElem?_cons_succ, ← getE_eq i t]; rfl
def setEF (i : Nat) (v : Option Val) (l : Env) : Env := l.set i v
def setE (i : Nat) (v : Option Val) (l : Env) : Env := Nat.rec (motive := fun _ => Env → Env) (fun l => List.rec (motive := fun _ => Env) [] (fun _ t _ => v :: t) l) (fun _ ih l => List.rec (motive := fun _ => Env) [] (fun a t _ => a :: ih t) l) i l
theorem setE_eq : ∀ (i : Nat) (v : Option Val) (l : Env), setE i v l = l.set i v
  | 0, _, [] => rfl
  | 0, _, _ :: _ => rfl
  | _ + 1, _, [] => rfl
  | i + 1, v, a :: t => by rw [List.set_cons_succ, ← setE_eq i v t]; rfl
/-- what raises is stuck -/
def noExcF {α : Type} (r : R α) : R α := match r with
  | .exc _ _ _ => .stuck 94
  | r => r
def noExc {α : Type} (r : R α) : R α := R.rec (motive := fun _ => R α) (fun a S => .ok a S) (fun _ _ _ => .stuck 94) (fun w => .stuck w) r
def maxLen : Nat := 16777216
/-! equality, order -/
def intEq : Int → Int → Bool
  | .ofNat m, .ofNat n => Nat.beq m n
  | .negSucc m, .negSucc n => Nat.beq m n
  | _, _ => false
def intLt : Int → Int → Bool
  | .ofNat m, .ofNat n => Nat.blt m n
  | .negSucc m, .negSucc n => Nat.blt n m
  | .negSucc _, .ofNat _ => true
  | .ofNat _, .negSucc _ => false
def strEq : List Nat → List Nat → Bool
  | [], [] => true
  | a :: r, b :: s => match Nat.beq a b with | true => strEq r s | false => false
  | _, _ => false
def strLt : List Nat → List Nat → Bool
  | [], [] => false
  | [], _ :: _ => true
  | _ :: _, [] => false
  | a :: r, b :: s => match Nat.beq a b with | true => strLt r s | false => Nat.blt a b
def boolEq : Bool → Bool → Bool
  | true, b => b
  | false, true => false
  | false, false => true
def b2i : Bool → Int
  | true => 1
  | false => 0
/-- == of two lists of values, item by item -/
def eqL (f : Val → Val → Option Bool) : List Val → List Val → Option Bool
  | [], [] => some true
  | a :: r, b :: s => match f a b with
    | some true => eqL f r s
    | some false => some false
    | .none => .none
  | _, _ => some false
def isListF : Option Obj → Option (List Val)
  | some (.lst xs) => some xs
  | _ => .none
def isList (x : Option Obj) : Option (List Val) := Option.rec (motive := fun _ => Option (List Val)) .none (fun y => Obj.rec (motive := fun _ => Option (List Val)) (fun xs => some xs) (fun _ => .none) (fun _ => .none) (fun _ _ => .none) (fun _ => .none) y) x
/-- ==, to a depth -/
def eqF (S : Store) : Nat → Val → Val → Option Bool
  | 0, _, _ => .none
  | k + 1, x, y => match x, y with
    | .none, .none => some true
    | .bool a, .bool b => some (boolEq a b)
    | .bool a, .int j => some (intEq (b2i a) j)
    | .int i, .bool b => some (intEq i (b2i b))
    | .int i, .int j => some (intEq i j)
    | .str a, .str b => some (strEq a b)
    | .tup a, .tup b => eqL (eqF S k) a b
    | .ref a, .ref b => match isList (S.get a), isList (S.get b) with
      | some xs, some ys => eqL (eqF S k) xs ys
      | _, _ => .none
    | .scr _, _ => .none
    | _, .scr _ => .none
    | .ref a, _ => match isList (S.get a) with
      | some _ => some false
      | .none => .none
    | _, .ref b => match isList (S.get b) with
      | some _ => some false
      | .none => .none
    | _, _ => some false
/-- data to a depth: no dict, no instance -/
def dOk (S : Store) : Nat → Val → Bool
  | 0, _ => false
  | k + 1, x => match x with
    | .tup a => a.all (dOk S k)
    | .ref a => match isList (S.get a) with
      | some xs => xs.all (dOk S k)
      | .none => false
    | .scr _ => false
    | .err => false
    | _ => true
def eqSo (S : Store) (x y : Val) : Option Bool := match dOk S 60 x && dOk S 60 y with
  | true => eqF S 60 x y
  | false => .none
/-! a number for a value: equal ones have the same; closed terms, so that they are worked out once -/
def hshI : Int → Nat
  | .ofNat n => n * 2 + 5
  | .negSucc n => n * 2 + 6
def hshS : List Nat → Nat
  | [] => 7
  | c :: r => (c * 1000003 + 31 * hshS r) % 4294967296
def hshL (f : Val → Nat) : List Val → Nat
  | [] => 3
  | v :: r => (f v * 1000003 + 31 * hshL f r) % 4294967296
def hsh : Nat → Val → Nat
  | 0, _ => 0
  | k + 1, v => match v with
    | .none => 1
    | .bool b => hshI (b2i b)
    | .int i => hshI i
    | .str s => hshS s
    | .tup vs => hshL (hsh k) vs
    | _ => 2
/-- no object of the store in it, to a depth -/
def pur : Nat → Val → Bool
  | 0, _ => false
  | k + 1, v => match v with
    | .none => true
    | .bool _ => true
    | .int _ => true
    | .str _ => true
    | .tup vs => vs.all (pur k)
    | _ => false
def isSo : Option Bool → Bool
  | some b => b
  | .none => false
def nilS : Store := ⟨0, .nil⟩
/-- == of two values without objects -/
def eqQ (x y : Val) : Bool := match Nat.beq (hsh 12 x) (hsh 12 y) with
  | true => isSo (eqF nilS 60 x y)
  | false => false
def eqS (S : Store) (x y : Val) : Option Bool := match pur 20 x && pur 20 y with
  | true => some (eqQ x y)
  | false => eqSo S x y
/-- a dict's key that is a tuple (of ints, texts, None, tuples), to depth 8 -/
def keyIn : Nat → Val → Bool
  | 0, _ => false
  | k + 1, x => match x with
    | .none => true
    | .int _ => true
    | .str _ => true
    | .tup a => a.all (keyIn k)
    | _ => false
/-- == of keys -/
def eqKo : Val → Val → Bool := fun x y => match eqF nilS 10 x y with
  | some b => b
  | .none => false
def eqKF : Val → Val → Bool := fun x y => match Nat.beq (hsh 12 x) (hsh 12 y) with
  | true => eqKo x y
  | false => false
def eqK : Val → Val → Bool := fun x y => Bool.rec (motive := fun _ => Bool) false (eqKo x y) (Nat.beq (hsh 12 x) (hsh 12 y))
def lookF (k : Val) : List (Val × Val) → Option Val
  | [] => .none
  | (a, v) :: r => match eqK a k with
    | true => some v
    | false => lookF k r
def dputF (k v : Val) : List (Val × Val) → List (Val × Val)
  | [] => [(k, v)]
  | (a, x) :: r => match eqK a k with
    | true => (a, v) :: r
    | false => (a, x) :: dputF k v r
def look (k : Val) (l : List (Val × Val)) : Option Val := List.rec (motive := fun _ => Option Val) .none (fun p _ ih => Prod.rec (motive := fun _ => Option Val) (fun a v => Bool.rec (motive := fun _ => Option Val) ih (Bool.rec (motive := fun _ => Option Val) ih (some v) (eqKo a k)) (Nat.beq (hsh 12 a) (hsh 12 k))) p) l
def dput (k v : Val) (l : List (Val × Val)) : List (Val × Val) := List.rec (motive := fun _ => List (Val × Val)) [(k, v)] (fun p r ih => Prod.rec (motive := fun _ => List (Val × Val)) (fun a x => Bool.rec (motive := fun _ => List (Val × Val)) ((a, x) :: ih) (Bool.rec (motive := fun _ => List (Val × Val)) ((a, x) :: ih) ((a, v) :: r) (eqKo a k)) (Nat.beq (hsh 12 a) (hsh 12 k))) p) l
theorem look_cons (k a v : Val) (r : List (Val × Val)) : look k ((a, v) :: r) = match eqK a k with
    | true => some v
    | false => look k r := by
  show Bool.rec (motive := fun _ => Option Val) (look k r) (Bool.rec (motive := fun _ => Option Val) (look k r) (some v) (eqKo a k)) (Nat.beq (hsh 12 a) (hsh 12 k)) = _
  unfold eqK
  cases Nat.beq (hsh 12 a) (hsh 12 k) <;> cases eqKo a k <;> rfl
theorem dput_cons (k v a x : Val) (r : List (Val × Val)) : dput k v ((a, x) :: r) = match eqK a k with
    | true => (a, v) :: r
    | false => (a, x) :: dput k v r := by
  show Bool.rec (motive := fun _ => List (Val × Val)) ((a, x) :: dput k v r) (Bool.rec (motive := fun _ => List (Val × Val)) ((a, x) :: dput k v r) ((a, v) :: r) (eqKo a k)) (Nat.beq (hsh 12 a) (hsh 12 k)) = _
  unfold eqK
  cases Nat.beq (hsh 12 a) (hsh 12 k) <;> cases eqKo a k <;> rfl
/-- the kinds of dicts: keys all tuples, or all ints and texts -/
def isT : Val → Bool
  | .tup _ => true
  | _ => false
def isA : Val → Bool
  | .int _ => true
  | .str _ => true
  | _ => false
/-- the first key's kind -/
def hdK (f : Val → Bool) : List (Val × Val) → Bool
  | [] => true
  | (a, _) :: _ => f a
/-- may this key be asked of a dict with these entries -/
def keyFor (k : Val) (kvs : List (Val × Val)) : Bool := match isT k with
  | true => keyIn 8 k && hdK isT kvs
  | false => isA k && hdK isA kvs
/-- < -/
def ltL (eq lt : Val → Val → Option Bool) : List Val → List Val → Option Bool
  | [], [] => some false
  | [], _ :: _ => some true
  | _ :: _, [] => some false
  | a :: r, b :: s => match eq a b with
    | some true => ltL eq lt r s
    | some false => lt a b
    | .none => .none
def ltF : Nat → Val → Val → Option Bool
  | 0, _, _ => .none
  | k + 1, x, y => match x, y with
    | .int i, .int j => some (intLt i j)
    | .str a, .str b => some (strLt a b)
    | .tup a, .tup b => ltL (eqF nilS k) (ltF k) a b
    | _, _ => .none
def ltV (x y : Val) : Option Bool := match dOk nilS 50 x && dOk nilS 50 y with
  | true => ltF 50 x y
  | false => .none
def nonE {α : Type} : List α → Bool
  | [] => false
  | _ :: _ => true
def truthy (S : Store) : Val → Option Bool
  | .none => some false
  | .bool b => some b
  | .int i => some (!intEq i 0)
  | .str s => some (nonE s)
  | .tup s => some (nonE s)
  | .ref n => match isList (S.get n) with
    | some s => some (nonE s)
    | .none => .none
  | .scr ns => some (nonE ns)
  | .err => .none
def ofOptF (o : Option Val) (S : Store) (w : Nat) : R Val := match o with
  | some v => .ok v S
  | .none => .stuck w
def ofOpt (o : Option Val) (S : Store) (w : Nat) : R Val := Option.rec (motive := fun _ => R Val) (.stuck w) (fun v => .ok v S) o
def ofBF (o : Option Bool) (S : Store) (w : Nat) : R Val := match o with
  | some v => .ok (.bool v) S
  | .none => .stuck w
def ofB (o : Option Bool) (S : Store) (w : Nat) : R Val := Option.rec (motive := fun _ => R Val) (.stuck w) (fun v => .ok (.bool v) S) o
/-- a new object; the numbers stay below 2 ^ 64 -/
def alloc (o : Obj) (S : Store) : R Val := match Nat.blt S.nx big with
  | true => .ok (.ref S.nx) (S.new o)
  | false => .stuck 0
/-! expressions -/
def isErrF : Val → Bool
  | .err => true
  | _ => false
def isErr (v : Val) : Bool := Val.rec (motive_1 := fun _ => Bool) (motive_2 := fun _ => PUnit) false (fun _ => false) (fun _ => false) (fun _ => false) (fun _ _ => false) (fun _ => false) (fun _ => false) true ⟨⟩ (fun _ _ _ _ => ⟨⟩) v
def okVF (v : Val) (S : Store) : R Val := match isErr v with
  | true => .stuck 1
  | false => .ok v S
def okV (v : Val) (S : Store) : R Val := Bool.rec (motive := fun _ => R Val) (.ok v S) (.stuck 1) (isErr v)
def noV (_ : Store) : R Val := .stuck 1
def eVarF (i : Nat) : E := fun _ ρ S => match getE i ρ with
  | some (some v) => okV v S
  | _ => .stuck 1
noncomputable def okW (v : Val) : Store → R Val := Val.rec (motive_1 := fun _ => Store → R Val) (motive_2 := fun _ => PUnit) (fun S => .ok .none S) (fun b S => .ok (.bool b) S) (fun i S => .ok (.int i) S) (fun s S => .ok (.str s) S) (fun vs _ S => .ok (.tup vs) S) (fun n S => .ok (.ref n) S) (fun ns S => .ok (.scr ns) S) noV ⟨⟩ (fun _ _ _ _ => ⟨⟩) v
theorem okW_eq (v : Val) (S : Store) : okW v S = okV v S := by cases v <;> rfl
def eVar (i : Nat) : E := fun _ ρ => Option.rec (motive := fun _ => Store → R Val) noV (fun w => Option.rec (motive := fun _ => Store → R Val) noV okW w) (getE i ρ)
theorem eVar_eq (i : Nat) (o : Orc) (ρ : Env) (S : Store) : eVar i o ρ S = match ρ[i]? with
  | some (some v) => match v with
    | .err => .stuck 1
    | v => .ok v S
  | _ => .stuck 1 := by
  rw [← getE_eq i ρ]
  show Option.rec (motive := fun _ => Store → R Val) noV (fun w => Option.rec (motive := fun _ => Store → R Val) noV okW w) (getE i ρ) S = _
  cases getE i ρ with
  | none => rfl
  | some w => cases w with
    | none => rfl
    | some v => cases v <;> rfl
def eC (v : Val) : E := fun _ _ S => .ok v S
def elNil : EL := fun _ _ S => .ok [] S
def elCons (a : E) (r : EL) : EL := fun o ρ S => (a o ρ S).bind fun v S => (r o ρ S).bind fun vs S => .ok (v :: vs) S
def few (vs : List Val) : Bool := Nat.ble vs.length 4096
def eTup (es : EL) : E := fun o ρ S => (es o ρ S).bind fun vs S => match few vs with
  | true => .ok (.tup vs) S
  | false => .stuck 2
def eLst (es : EL) : E := fun o ρ S => (es o ρ S).bind fun vs S => match few vs with
  | true => alloc (.lst vs) S
  | false => .stuck 2
abbrev Op2 := Orc → Val → Val → Store → R Val
def eOp (f : Op2) (a b : E) : E := fun o ρ S => (a o ρ S).bind fun x S => (b o ρ S).bind fun y S => f o x y S
def eNot (a : E) : E := fun o ρ S => (a o ρ S).bind fun x S => match truthy S x with
  | some b => .ok (.bool (!b)) S
  | .none => .stuck 2
def eNeg (a : E) : E := fun o ρ S => (a o ρ S).bind fun x S => match x with
  | .int i => .ok (.int (-i)) S
  | _ => .stuck 3
def eAnd (a b : E) : E := fun o ρ S => (a o ρ S).bind fun x S => match x with
  | .bool true => b o ρ S
  | .bool false => .ok x S
  | _ => .stuck 4
def eOr (a b : E) : E := fun o ρ S => (a o ρ S).bind fun x S => match x with
  | .bool false => b o ρ S
  | .bool true => .ok x S
  | _ => .stuck 5
def eIf (c a b : E) : E := fun o ρ S => (c o ρ S).bind fun x S => match truthy S x with
  | some true => a o ρ S
  | some false => b o ρ S
  | .none => .stuck 6
def eChain (f g : Op2) (a b c : E) : E := fun o ρ S => (a o ρ S).bind fun x S => (b o ρ S).bind fun y S => (f o x y S).bind fun z S => match z with
  | .bool true => (c o ρ S).bind fun w S => g o y w S
  | .bool false => .ok z S
  | _ => .stuck 7
def eCall (f : Nat) (as : EL) : E := fun o ρ S => (as o ρ S).bind fun vs S => o.call f vs S
abbrev Bi := Orc → List Val → Store → R Val
def eB (f : Bi) (as : EL) : E := fun o ρ S => (as o ρ S).bind fun vs S => f o vs S
def eNew (c init : Nat) (as : EL) : E := fun o ρ S => (as o ρ S).bind fun vs S => match Nat.blt S.nx big with
  | true => (o.call init (.ref S.nx :: vs) (S.new (.ins c []))).bind fun v S' => match v with
    | .none => .ok (.ref S.nx) S'
    | _ => .stuck 8
  | false => .stuck 8
def fldGet (f : Nat) : List (Nat × Val) → Option Val
  | [] => .none
  | (g, v) :: r => match Nat.beq f g with
    | true => some v
    | false => fldGet f r
def fldPut (f : Nat) (x : Val) : List (Nat × Val) → List (Nat × Val)
  | [] => [(f, x)]
  | (g, v) :: r => match Nat.beq f g with
    | true => (g, x) :: r
    | false => (g, v) :: fldPut f x r
noncomputable def fldGetR (f : Nat) (l : List (Nat × Val)) : Option Val := List.rec (motive := fun _ => Option Val) .none (fun p _ ih => Prod.rec (motive := fun _ => Option Val) (fun g v => Bool.rec (motive := fun _ => Option Val) ih (some v) (Nat.beq f g)) p) l
theorem fldGetR_eq (f : Nat) : ∀ l : List (Nat × Val), fldGetR f l = fldGet f l
  | [] => rfl
  | (g, v) :: r => by
    show Bool.rec (motive := fun _ => Option Val) (fldGetR f r) (some v) (Nat.beq f g) = _
    rw [fldGet, fldGetR_eq f r]
    cases Nat.beq f g <;> rfl
def attrF (f : Nat) (x : Val) (S : Store) : R Val := match x with
  | .ref n => match S.get n with
    | some (.ins _ fs) => ofOpt (fldGet f fs) S 9
    | _ => .stuck 10
  | _ => .stuck 11
noncomputable def attrO (f : Nat) (S : Store) (x : Option Obj) : R Val := Option.rec (motive := fun _ => R Val) (.stuck 10) (fun ob => Obj.rec (motive := fun _ => R Val) (fun _ => .stuck 10) (fun _ => .stuck 10) (fun _ => .stuck 10) (fun _ fs => ofOpt (fldGetR f fs) S 9) (fun _ => .stuck 10) ob) x
def attrK (f : Nat) (x : Val) (S : Store) : R Val := Val.rec (motive_1 := fun _ => R Val) (motive_2 := fun _ => PUnit) (.stuck 11) (fun _ => .stuck 11) (fun _ => .stuck 11) (fun _ => .stuck 11) (fun _ _ => .stuck 11) (fun n => attrO f S (S.get n)) (fun _ => .stuck 11) (.stuck 11) ⟨⟩ (fun _ _ _ _ => ⟨⟩) x
theorem attrK_eq (f : Nat) (x : Val) (S : Store) : attrK f x S = attrF f x S := by
  cases x with
  | ref n =>
    show attrO f S (S.get n) = (match S.get n with | some (.ins _ fs) => ofOpt (fldGet f fs) S 9 | _ => .stuck 10)
    unfold attrO
    cases S.get n with
    | none => rfl
    | some ob => cases ob <;> first | rfl | (simp only [fldGetR_eq])
  | _ => rfl
def eAttr (a : E) (f : Nat) : E := fun o ρ S => (a o ρ S).bind (attrK f)
theorem eAttr_eq (a : E) (f : Nat) (o : Orc) (ρ : Env) (S : Store) : eAttr a f o ρ S = (a o ρ S).bind (attrF f) := by
  show (a o ρ S).bind (attrK f) = _
  rw [show attrK f = attrF f from funext fun x => funext fun S => attrK_eq f x S]
/-- a field of the exception that is handled -/
def eErr (i f : Nat) : E := fun o ρ S => match ρ[i]? with
  | some (some .err) => match o.err with
    | some fs => ofOpt (fldGet f fs) S 13
    | .none => .stuck 14
  | _ => .stuck 14
def callM (m : Nat) (o : Orc) (x : Val) (vs : List Val) (S : Store) : R Val := match x with
  | .ref n => match S.get n with
    | some (.ins c _) => match o.meth c m with
      | some f => o.call f (x :: vs) S
      | .none => .stuck 15
    | _ => .stuck 16
  | _ => .stuck 17
def mthOf (m : Nat) (o : Orc) (x : Val) (S : Store) : Option Nat := match x with
  | .ref n => match S.get n with
    | some (.ins c _) => o.meth c m
    | _ => .none
  | _ => .none
def eMeth (a : E) (m : Nat) (as : EL) : E := fun o ρ S => (a o ρ S).bind fun x S => match mthOf m o x S with
  | some f => (as o ρ S).bind fun vs S => o.call f (x :: vs) S
  | .none => .stuck 15
/-- a method of a built-in type -/
abbrev Bm := Orc → Val → List Val → Store → R Val
inductive Knd where
  | lst | dct | str
def hasK (S : Store) (k : Knd) : Val → Bool
  | .str _ => match k with | .str => true | _ => false
  | .ref n => match S.get n with
    | some (.lst _) => match k with | .lst => true | _ => false
    | some (.dct _) => match k with | .dct => true | _ => false
    | _ => false
  | _ => false
def eBm (k : Knd) (f : Bm) (a : E) (as : EL) : E := fun o ρ S => (a o ρ S).bind fun x S => match hasK S k x with
  | true => (as o ρ S).bind fun vs S => f o x vs S
  | false => .stuck 18
/-! operators -/
def mEq : Nat := 0
def mIn : Nat := 1
def mLen : Nat := 2
def mAdd : Nat := 3
def room2 {α : Type} (xs ys : List α) : Bool := Nat.ble (xs.length + ys.length) maxLen
def oAdd : Op2 := fun o x y S => match x, y with
  | .int i, .int j => .ok (.int (i + j)) S
  | .str a, .str b => match room2 a b with | true => .ok (.str (a ++ b)) S | false => .stuck 20
  | .tup a, .tup b => match room2 a b with | true => .ok (.tup (a ++ b)) S | false => .stuck 20
  | .ref a, .ref b => match S.get a, S.get b with
    | some (.lst xs), some (.lst ys) => match room2 xs ys with | true => alloc (.lst (xs ++ ys)) S | false => .stuck 20
    | _, _ => .stuck 21
  | _, _ => .stuck 21
/-- an own class's + == in -/
def oAddI : Op2 := fun o x y S => callM mAdd o x [y] S
def oEqI : Op2 := fun o x y S => callM mEq o x [y] S
def oInI : Op2 := fun o x y S => callM mIn o y [x] S
def oAddN : Op2 := fun _ x y S => match x, y with
  | .int i, .int j => .ok (.int (i + j)) S
  | _, _ => .stuck 22
def oSub : Op2 := fun _ x y S => match x, y with
  | .int i, .int j => .ok (.int (i - j)) S
  | _, _ => .stuck 22
def rep {α : Type} (xs : List α) : Nat → List α
  | 0 => []
  | n + 1 => xs ++ rep xs n
def oMul : Op2 := fun _ x y S => match x, y with
  | .int i, .int j => match Nat.blt (i.natAbs.log2 + j.natAbs.log2) 1000000 with | true => .ok (.int (i * j)) S | false => .stuck 23
  | .tup a, .int (.ofNat j) => match Nat.ble 2 j && (Nat.ble j 1000 && (Nat.ble a.length 1000 && nonE a)) with | true => .ok (.tup (rep a j)) S | false => .stuck 23
  | .ref a, .int (.ofNat j) => match S.get a with
    | some (.lst xs) => match Nat.ble (xs.length * j) maxLen && Nat.ble j maxLen with | true => alloc (.lst (rep xs j)) S | false => .stuck 23
    | _ => .stuck 23
  | _, _ => .stuck 24
def oDiv : Op2 := fun _ x y S => match x, y with
  | .int i, .int j => match intLt 0 j && Nat.blt j.natAbs.log2 9000 with | true => .ok (.int (i / j)) S | false => .stuck 25
  | _, _ => .stuck 26
def oMod : Op2 := fun _ x y S => match x, y with
  | .int i, .int j => match intLt 0 j with | true => .ok (.int (i % j)) S | false => .stuck 27
  | _, _ => .stuck 28
def oPow : Op2 := fun _ x y S => match x, y with
  | .int i, .int j => match Nat.blt i.natAbs (2 ^ 64) && (!intLt j 0 && !intLt 1000000 j) with | true => .ok (.int (i ^ j.toNat)) S | false => .stuck 29
  | _, _ => .stuck 29
/-- is it an instance -/
def insOf (S : Store) : Val → Option Nat
  | .ref n => match S.get n with
    | some (.ins c _) => some c
    | _ => .none
  | _ => .none
def notR (b : Bool) (r : R Val) : R Val := match b with
  | false => r
  | true => r.bind fun v S => match v with
    | .bool c => .ok (.bool (!c)) S
    | _ => .stuck 30
def oEq : Op2 := fun _ x y S => ofB (eqS S x y) S 31
def oNe : Op2 := fun _ x y S => match eqS S x y with
  | some b => .ok (.bool (!b)) S
  | .none => .stuck 32
def oLt : Op2 := fun _ x y S => match x, y with
  | .int i, .int j => .ok (.bool (intLt i j)) S
  | .str a, .str b => .ok (.bool (strLt a b)) S
  | _, _ => .stuck 34
/-- of tuples -/
def oLtT : Op2 := fun _ x y S => ofB (ltV x y) S 34
def oGt : Op2 := fun _ x y S => match x, y with
  | .int i, .int j => .ok (.bool (intLt j i)) S
  | _, _ => .stuck 35
def oLe : Op2 := fun _ x y S => match x, y with
  | .int i, .int j => .ok (.bool (!intLt j i)) S
  | _, _ => .stuck 36
def oGe : Op2 := fun _ x y S => match x, y with
  | .int i, .int j => .ok (.bool (!intLt i j)) S
  | _, _ => .stuck 37
def anyEq (f : Val → Val → Option Bool) (x : Val) : List Val → Option Bool
  | [] => some false
  | a :: r => match f a x with
    | some true => some true
    | some false => anyEq f x r
    | .none => .none
def isPre : List Nat → List Nat → Bool
  | [], _ => true
  | _ :: _, [] => false
  | a :: r, b :: s => match Nat.beq a b with | true => isPre r s | false => false
def isSub (a : List Nat) : List Nat → Bool
  | [] => isPre a []
  | b :: s => match isPre a (b :: s) with | true => true | false => isSub a s
def inVo (S : Store) (x y : Val) : Option Bool := match y with
  | .tup vs => match dOk S 60 x && vs.all (dOk S 60) with | true => anyEq (eqF S 60) x vs | false => .none
  | .str s => match x with
    | .str (c :: r) => match r with
      | [] => some (s.any (Nat.beq c))
      | _ => .none
    | _ => .none
  | .ref n => match isList (S.get n) with
    | some vs => match dOk S 60 x && vs.all (dOk S 60) with | true => anyEq (eqF S 60) x vs | false => .none
    | .none => .none
  | _ => .none
def inV (S : Store) (x y : Val) : Option Bool := match y with
  | .ref n => match isList (S.get n) with
    | some vs => match pur 20 x && vs.all (pur 20) with
      | true => some (vs.any fun a => eqQ a x)
      | false => inVo S x y
    | .none => .none
  | .tup vs => match pur 20 x && vs.all (pur 20) with
    | true => some (vs.any fun a => eqQ a x)
    | false => inVo S x y
  | _ => inVo S x y
/-- in, of a dict -/
def inK (S : Store) (x y : Val) : Option Bool := match y with
  | .ref n => match S.get n with
    | some (.dct kvs) => match keyFor x kvs with | true => some (look x kvs).isSome | false => .none
    | _ => .none
  | _ => .none
/-- in, of a set of ints -/
def inS (S : Store) (x y : Val) : Option Bool := match x with
  | .int i => match y with
    | .ref n => match S.get n with
      | some (.set vs) => some (vs.any (intEq i))
      | _ => .none
    | _ => .none
  | _ => .none
def oInS : Op2 := fun _ x y S => ofB (inS S x y) S 38
def oNotInS : Op2 := fun _ x y S => match inS S x y with
  | some b => .ok (.bool (!b)) S
  | .none => .stuck 39
def oInK : Op2 := fun _ x y S => ofB (inK S x y) S 38
def oNotInK : Op2 := fun _ x y S => match inK S x y with
  | some b => .ok (.bool (!b)) S
  | .none => .stuck 39
def oIn : Op2 := fun _ x y S => ofB (inV S x y) S 38
def oNotIn : Op2 := fun _ x y S => match inV S x y with
  | some b => .ok (.bool (!b)) S
  | .none => .stuck 39
def isNo : Val → Bool
  | .none => true
  | _ => false
def isV (x y : Val) : Option Bool := match y with
  | .none => some (isNo x)
  | .bool b => match x with
    | .bool a => some (boolEq a b)
    | _ => .none
  | _ => .none
def oIs : Op2 := fun _ x y S => ofB (isV x y) S 47
def oIsNot : Op2 := fun _ x y S => match isV x y with
  | some b => .ok (.bool (!b)) S
  | .none => .stuck 48
/-! subscripts -/
def ixOf (n : Nat) (i : Int) : Option Nat := match i with
  | .ofNat k => match Nat.blt k n with | true => some k | false => .none
  | .negSucc k => match Nat.blt k n with | true => some (n - 1 - k) | false => .none
def getI {α : Type} (xs : List α) (i : Int) : Option α := match ixOf xs.length i with
  | some k => xs[k]?
  | .none => .none
def oIx : Op2 := fun _ x y S => match y with
  | .int i => match x with
    | .tup vs => ofOpt (getI vs i) S 50
    | .str vs => match getI vs i with
      | some c => .ok (.str [c]) S
      | .none => .stuck 52
    | .ref n => match isList (S.get n) with
      | some vs => ofOpt (getI vs i) S 54
      | .none => .stuck 57
    | _ => .stuck 58
  | _ => .stuck 58
/-- of a dict -/
def oIxK : Op2 := fun _ x y S => match x with
  | .ref n => match S.get n with
    | some (.dct kvs) => match keyFor y kvs with
      | true => ofOpt (look y kvs) S 56
      | false => .stuck 56
    | _ => .stuck 57
  | _ => .stuck 58
def clip (n : Nat) (i : Int) : Nat := match i with
  | .ofNat k => min k n
  | .negSucc k => n - (k + 1)
def bnd (n d : Nat) : Option Int → Nat
  | .none => d
  | some i => clip n i
def slc {α : Type} (xs : List α) (lo hi : Option Int) : List α := (xs.take (bnd xs.length xs.length hi)).drop (bnd xs.length 0 lo)
abbrev EO := Orc → Env → Store → R (Option Int)
def eoNone : EO := fun _ _ S => .ok .none S
def eoSome (a : E) : EO := fun o ρ S => (a o ρ S).bind fun v S => match v with
  | .int i => .ok (some i) S
  | _ => .stuck 59
def cutOf (x : Val) (l h : Option Int) (S : Store) : R Val := match x with
  | .tup vs => .ok (.tup (slc vs l h)) S
  | .str vs => .ok (.str (slc vs l h)) S
  | .ref n => match isList (S.get n) with
    | some vs => alloc (.lst (slc vs l h)) S
    | .none => .stuck 63
  | .scr ns => alloc (.lst ((slc ns l h).map .int)) S
  | _ => .stuck 64
def eSl (a : E) (lo hi : EO) : E := fun o ρ S => (a o ρ S).bind fun x S => (lo o ρ S).bind fun l S => (hi o ρ S).bind fun h S => cutOf x l h S
/-- x[::-1] -/
def eRev (a : E) : E := fun o ρ S => (a o ρ S).bind fun x S => match x with
  | .ref n => match S.get n with
    | some (.lst vs) => alloc (.lst vs.reverse) S
    | _ => .stuck 65
  | _ => .stuck 66
/-! iterables -/
inductive It where
  | lst (n i : Nat) | vals (vs : List Val) | enum (k : Int) (it : It) | zip (a b : It)
/-- none: stuck -/
def It.next (S : Store) : It → Option (Option (Val × It))
  | .lst n i => match S.get n with
    | some (.lst xs) => match xs[i]? with
      | some v => some (some (v, .lst n (i + 1)))
      | .none => match Nat.beq xs.length i with
        | true => some .none
        | false => .none
    | _ => .none
  | .vals [] => some .none
  | .vals (v :: r) => some (some (v, .vals r))
  | .enum k it => match it.next S with
    | some (some (v, it)) => some (some (.tup [.int k, v], .enum (k + 1) it))
    | some .none => some .none
    | .none => .none
  | .zip a b => match a.next S, b.next S with
    | some (some (v, a)), some (some (w, b)) => some (some (.tup [v, w], .zip a b))
    | some _, some _ => some .none
    | _, _ => .none
/-- the same by the recursors -/
noncomputable def getL (i : Nat) (l : List Val) : Option Val := Nat.rec (motive := fun _ => List Val → Option Val) (fun l => List.rec (motive := fun _ => Option Val) .none (fun a _ _ => some a) l) (fun _ ih l => List.rec (motive := fun _ => Option Val) .none (fun _ t _ => ih t) l) i l
theorem getL_eq : ∀ (i : Nat) (l : List Val), getL i l = l[i]?
  | 0, [] => rfl
  | 0, _ :: _ => rfl
  | _ + 1, [] => rfl
  | i + 1, _ :: t => by rw [List.getElem?_cons_succ, ← getL_eq i t]; rfl
abbrev NxT := Option (Option (Val × It))
noncomputable def nxL (n i : Nat) (x : Option Obj) : NxT := Option.rec (motive := fun _ => NxT) .none (fun ob => Obj.rec (motive := fun _ => NxT) (fun xs => Option.rec (motive := fun _ => NxT) (Bool.rec (motive := fun _ => NxT) .none (some .none) (Nat.beq xs.length i)) (fun v => some (some (v, .lst n (Nat.succ i)))) (getL i xs)) (fun _ => .none) (fun _ => .none) (fun _ _ => .none) (fun _ => .none) ob) x
def nxF (S : Store) (it : It) : NxT := it.next S
def nextR (S : Store) (it : It) : NxT := It.rec (motive := fun _ => NxT) (fun n i => nxL n i (S.get n)) (fun vs => List.rec (motive := fun _ => NxT) (some .none) (fun v r _ => some (some (v, .vals r))) vs)
  (fun k _ ih => Option.rec (motive := fun _ => NxT) .none (fun x => Option.rec (motive := fun _ => NxT) (some .none) (fun p => Prod.rec (motive := fun _ => NxT) (fun v it => some (some (.tup [.int k, v], .enum (k + 1) it))) p) x) ih)
  (fun a b _ _ => It.next S (.zip a b)) it
theorem nextR_eq (S : Store) : ∀ it : It, nextR S it = it.next S
  | .lst n i => by
    show nxL n i (S.get n) = _
    rw [It.next]
    unfold nxL
    cases S.get n with
    | none => rfl
    | some ob =>
      cases ob with
      | lst xs =>
        show Option.rec (motive := fun _ => NxT) (Bool.rec (motive := fun _ => NxT) .none (some .none) (Nat.beq xs.length i)) (fun v => some (some (v, .lst n (Nat.succ i)))) (getL i xs) = _
        rw [getL_eq]
        show Option.rec (motive := fun _ => NxT) (Bool.rec (motive := fun _ => NxT) .none (some .none) (Nat.beq xs.length i)) (fun v => some (some (v, .lst n (Nat.succ i)))) xs[i]? = (match xs[i]? with | some v => some (some (v, .lst n (i + 1))) | .none => (match Nat.beq xs.length i with | true => some .none | false => .none))
        generalize xs[i]? = z
        cases z with
        | none => cases Nat.beq xs.length i <;> rfl
        | some v => rfl
      | _ => rfl
  | .vals [] => rfl
  | .vals (_ :: _) => rfl
  | .enum k it => by
    show Option.rec (motive := fun _ => NxT) .none (fun x => Option.rec (motive := fun _ => NxT) (some .none) (fun p => Prod.rec (motive := fun _ => NxT) (fun v it => some (some (.tup [.int k, v], .enum (k + 1) it))) p) x) (nextR S it) = _
    rw [It.next, nextR_eq S it]
    cases it.next S with
    | none => rfl
    | some x => cases x with
      | none => rfl
      | some p => rfl
  | .zip a b => rfl
abbrev EI := Orc → Env → Store → R It
def toIt (x : Val) (S : Store) : Option It := match x with
  | .tup vs => some (.vals vs)
  | .str s => some (.vals (s.map fun c => .str [c]))
  | .ref n => match S.get n with
    | some (.lst _) => some (.lst n 0)
    | _ => .none
  | _ => .none
def iVal (a : E) : EI := fun o ρ S => (a o ρ S).bind fun x S => match toIt x S with
  | some it => .ok it S
  | .none => .stuck 70
def iEnum (a : E) : EI := fun o ρ S => (a o ρ S).bind fun x S => match toIt x S with
  | some it => .ok (.enum 0 it) S
  | .none => .stuck 70
def iZip (es : EL) : EI := fun o ρ S => (es o ρ S).bind fun vs S => match vs with
  | [x, y] => match toIt x S, toIt y S with
    | some a, some b => .ok (.zip a b) S
    | _, _ => .stuck 70
  | _ => .stuck 70
def upTo (lo : Int) : Nat → List Val
  | 0 => []
  | n + 1 => .int lo :: upTo (lo + 1) n
def downTo (hi : Int) : Nat → List Val
  | 0 => []
  | n + 1 => .int hi :: downTo (hi - 1) n
def smallI (i : Int) : Bool := Nat.blt i.natAbs (2 ^ 24)
def iRange (as : EL) : EI := fun o ρ S => (as o ρ S).bind fun vs S => match vs with
  | .int n :: r => match r with
    | [] => match smallI n with | true => .ok (.vals (upTo 0 n.toNat)) S | false => .stuck 71
    | _ => .stuck 71
  | _ => .stuck 71
def iRange2 (as : EL) : EI := fun o ρ S => (as o ρ S).bind fun vs S => match vs with
  | .int a :: r => match r with
    | .int b :: r => match r with
      | [] => match smallI a && smallI b with | true => .ok (.vals (upTo a (b - a).toNat)) S | false => .stuck 71
      | _ => .stuck 71
    | _ => .stuck 71
  | _ => .stuck 71
def iRange3 (as : EL) : EI := fun o ρ S => (as o ρ S).bind fun vs S => match vs with
  | .int a :: r => match r with
    | .int b :: r => match r with
      | .int c :: r => match r with
        | [] => match smallI a && smallI b && intEq c (-1) with | true => .ok (.vals (downTo a (a - b).toNat)) S | false => .stuck 71
        | _ => .stuck 71
      | _ => .stuck 71
    | _ => .stuck 71
  | _ => .stuck 71
def iItems (a : E) : EI := fun o ρ S => (a o ρ S).bind fun x S => match x with
  | .ref n => match S.get n with
    | some (.dct kvs) => .ok (.vals (kvs.map fun p => .tup [p.1, p.2])) S
    | _ => .stuck 72
  | _ => .stuck 73
def iValues (a : E) : EI := fun o ρ S => (a o ρ S).bind fun x S => match x with
  | .ref n => match S.get n with
    | some (.dct kvs) => .ok (.vals (kvs.map fun p => p.2)) S
    | _ => .stuck 72
  | _ => .stuck 73
/-! targets -/
abbrev T := Val → Orc → Env → Store → R Env
abbrev TL := List Val → Orc → Env → Store → R Env
def tName (i : Nat) : T := fun v _ ρ S => .ok (setE i (some v) ρ) S
def tNil : TL := fun vs _ ρ S => match vs with
  | [] => .ok ρ S
  | _ => .stuck 80
def tCons (t : T) (r : TL) : TL := fun vs o ρ S => match vs with
  | v :: vs => (t v o ρ S).bind fun ρ S => r vs o ρ S
  | [] => .stuck 81
def tTup (n : Nat) (r : TL) : T := fun v o ρ S => match v with
  | .tup vs => match Nat.beq vs.length n with
    | true => r vs o ρ S
    | false => .stuck 82
  | .ref k => match S.get k with
    | some (.lst vs) => match Nat.beq vs.length n with
      | true => r vs o ρ S
      | false => .stuck 82
    | _ => .stuck 82
  | _ => .stuck 83
def setL (x y v : Val) (S : Store) : R Unit := match x with
  | .ref n => match S.get n with
    | some (.lst xs) => match y with
      | .int i => match ixOf xs.length i with
        | some k => .ok () (S.put n (.lst (xs.set k v)))
        | .none => .stuck 84
      | _ => .stuck 84
    | _ => .stuck 86
  | _ => .stuck 87
def setK (x y v : Val) (S : Store) : R Unit := match x with
  | .ref n => match S.get n with
    | some (.dct kvs) => match keyFor y kvs && Nat.blt kvs.length maxLen with
      | true => .ok () (S.put n (.dct (dput y v kvs)))
      | false => .stuck 85
    | _ => .stuck 86
  | _ => .stuck 87
/-- l[i] = v -/
def tSub (a b : E) : T := fun v o ρ S => (a o ρ S).bind fun x S => (b o ρ S).bind fun y S => (setL x y v S).bind fun _ S => .ok ρ S
/-- d[k] = v -/
def tSubK (a b : E) : T := fun v o ρ S => (a o ρ S).bind fun x S => (b o ρ S).bind fun y S => (setK x y v S).bind fun _ S => .ok ρ S
def tAttr (a : E) (f : Nat) : T := fun v o ρ S => (a o ρ S).bind fun x S => match x with
  | .ref n => match S.get n with
    | some (.ins c fs) => match o.fld c f && Nat.blt fs.length 900 with
      | true => .ok ρ (S.put n (.ins c (fldPut f v fs)))
      | false => .stuck 88
    | _ => .stuck 88
  | _ => .stuck 89
/-! comprehensions; what raises within one is stuck -/
def wipe (ρ : Env) : List Nat → Env
  | [] => ρ
  | v :: vs => (wipe ρ vs).set v .none
/-- the list so far, its end ahead, and its length -/
abbrev Acc := Nat × List Val
abbrev Col := Orc → Env → Acc → Store → R Acc
def cElt (e : E) : Col := fun o ρ acc S => (e o ρ S).bind fun v S => match Nat.blt acc.1 maxLen with
  | true => .ok (acc.1 + 1, v :: acc.2) S
  | false => .stuck 90
def cIf (c : E) (k : Col) : Col := fun o ρ acc S => (c o ρ S).bind fun b S => match truthy S b with
  | some true => k o ρ acc S
  | some false => .ok acc S
  | .none => .stuck 91
def fuel : Nat := 1000000000
def cLoopF (t : T) (k : Col) (o : Orc) (ρ : Env) : Nat → It → Acc → Store → R Acc
  | 0, _, _, _ => .stuck 92
  | n + 1, it, acc, S => match it.next S with
    | .none => .stuck 93
    | some .none => .ok acc S
    | some (some (v, it)) => (noExc (t v o ρ S)).bind fun ρ2 S => (k o ρ2 acc S).bind fun acc S => cLoopF t k o ρ n it acc S
def cLoop (t : T) (k : Col) (o : Orc) (ρ : Env) (n : Nat) : It → Acc → Store → R Acc := Nat.rec (motive := fun _ => It → Acc → Store → R Acc) (fun _ _ _ => .stuck 92)
  (fun _ ih it acc S => Option.rec (motive := fun _ => R Acc) (.stuck 93) (fun x => Option.rec (motive := fun _ => R Acc) (.ok acc S) (fun p => Prod.rec (motive := fun _ => R Acc) (fun v it => (noExc (t v o ρ S)).bind fun ρ2 S => (k o ρ2 acc S).bind fun acc S => ih it acc S) p) x) (nextR S it)) n
theorem cLoop_succ (t : T) (k : Col) (o : Orc) (ρ : Env) (n : Nat) (it : It) (acc : Acc) (S : Store) : cLoop t k o ρ (n + 1) it acc S = match it.next S with
    | .none => .stuck 93
    | some .none => .ok acc S
    | some (some (v, it)) => (noExc (t v o ρ S)).bind fun ρ2 S => (k o ρ2 acc S).bind fun acc S => cLoop t k o ρ n it acc S := by
  show Option.rec (motive := fun _ => R Acc) (.stuck 93) (fun x => Option.rec (motive := fun _ => R Acc) (.ok acc S) (fun p => Prod.rec (motive := fun _ => R Acc) (fun v it => (noExc (t v o ρ S)).bind fun ρ2 S => (k o ρ2 acc S).bind fun acc S => cLoop t k o ρ n it acc S) p) x) (nextR S it) = _
  rw [nextR_eq]
  cases it.next S with
  | none => rfl
  | some x => cases x with
    | none => rfl
    | some p => rfl
def cFor (own : List Nat) (t : T) (i : EI) (k : Col) : Col := fun o ρ acc S => (i o ρ S).bind fun it S => cLoop t k o (wipe ρ own) fuel it acc S
def eLc (c : Col) : E := fun o ρ S => (noExc (c o ρ (0, []) S)).bind fun acc S => alloc (.lst acc.2.reverse) S
/-- a dict of pairs, the last one ahead -/
def toDict : List Val → Option (List (Val × Val))
  | [] => some []
  | .tup [k, v] :: r => match toDict r with
    | some d => match keyFor k d with
      | true => some (dput k v d)
      | false => .none
    | .none => .none
  | _ :: _ => .none
/-- the element is a pair (key, value) -/
def cElt2 (a b : E) : Col := fun o ρ acc S => (a o ρ S).bind fun k S => (b o ρ S).bind fun v S => match Nat.blt acc.1 maxLen with
  | true => .ok (acc.1 + 1, .tup [k, v] :: acc.2) S
  | false => .stuck 90
def eDc (c : Col) : E := fun o ρ S => (noExc (c o ρ (0, []) S)).bind fun acc S => match toDict acc.2 with
  | some d => alloc (.dct d) S
  | .none => .stuck 95
/-- a set of ints, the last one ahead -/
def toSet : List Val → Option (List Int)
  | [] => some []
  | .int i :: r => match toSet r with
    | some s => match s.any (intEq i) with
      | true => some s
      | false => some (s ++ [i])
    | .none => .none
  | _ :: _ => .none
def eSc (c : Col) : E := fun o ρ S => (noExc (c o ρ (0, []) S)).bind fun acc S => match toSet acc.2 with
  | some d => alloc (.set d) S
  | .none => .stuck 96
/-! built-ins -/
/-- the items of a value that is walked at once -/
def itemsOf (S : Store) (x : Val) : Option (List Val) := match x with
  | .tup vs => some vs
  | .ref n => isList (S.get n)
  | .scr ns => some (ns.map .int)
  | _ => .none
def bList : Bi := fun _ vs S => match vs with
  | [x] => match itemsOf S x with
    | some vs => alloc (.lst vs) S
    | .none => .stuck 100
  | _ => .stuck 100
/-- list(d) -/
def bListK : Bi := fun _ vs S => match vs with
  | [.ref n] => match S.get n with
    | some (.dct kvs) => alloc (.lst (kvs.map (·.1))) S
    | _ => .stuck 100
  | _ => .stuck 100
def bTuple : Bi := fun _ vs S => match vs with
  | [x] => match itemsOf S x with
    | some vs => .ok (.tup vs) S
    | .none => .stuck 101
  | _ => .stuck 101
/-- all that an iterable gives -/
def itAll (S : Store) : Nat → It → List Val → Option (List Val)
  | 0, _, _ => .none
  | n + 1, it, acc => match it.next S with
    | some (some (v, it)) => itAll S n it (v :: acc)
    | some .none => some acc.reverse
    | .none => .none
/-- list(range(..)), list(zip(..)), list(d.items()), list(d.values()) -/
def eListI (i : EI) : E := fun o ρ S => (i o ρ S).bind fun it S => match itAll S maxLen it [] with
  | some vs => alloc (.lst vs) S
  | .none => .stuck 102
def ins1 (x : Val) : List Val → Option (List Val)
  | [] => some [x]
  | a :: r => match ltV x a with
    | some true => some (x :: a :: r)
    | some false => match ins1 x r with
      | some r => some (a :: r)
      | .none => .none
    | .none => .none
def srt : List Val → List Val → Option (List Val)
  | [], acc => some acc
  | x :: r, acc => match ins1 x acc with
    | some acc => srt r acc
    | .none => .none
/-- what may be sorted: ints; or tuples; all of a kind -/
def sorts (S : Store) (x : Val) : Option (List Val) := match x with
  | .ref n => match S.get n with
    | some (.set xs) => some (xs.map .int)
    | some (.lst xs) => some xs
    | _ => .none
  | .tup vs => some vs
  | _ => .none
def bSorted : Bi := fun _ vs S => match vs with
  | [x] => match sorts S x with
    | some vs => match srt vs [] with
      | some vs => alloc (.lst vs) S
      | .none => .stuck 103
    | .none => .stuck 104
  | _ => .stuck 104
def bLen : Bi := fun o vs S => match vs with
  | [.tup vs] => .ok (.int vs.length) S
  | [.str vs] => .ok (.int vs.length) S
  | [.scr vs] => .ok (.int vs.length) S
  | [.ref n] => match S.get n with
    | some (.lst vs) => .ok (.int vs.length) S
    | _ => .stuck 112
  | _ => .stuck 112
def bLenK : Bi := fun o vs S => match vs with
  | [.ref n] => match S.get n with
    | some (.dct vs) => .ok (.int vs.length) S
    | _ => .stuck 112
  | _ => .stuck 112
def bLenI : Bi := fun o vs S => match vs with
  | [x] => callM mLen o x [] S
  | _ => .stuck 112
def boolsOf : List Val → Option (List Bool)
  | [] => some []
  | .bool b :: r => match boolsOf r with
    | some bs => some (b :: bs)
    | .none => .none
  | _ :: _ => .none
def intsOf : List Val → Option (List Int)
  | [] => some []
  | .int b :: r => match intsOf r with
    | some bs => some (b :: bs)
    | .none => .none
  | _ :: _ => .none
def boolsAt (S : Store) (x : Val) : Option (List Bool) := match x with
  | .ref n => match isList (S.get n) with
    | some vs => boolsOf vs
    | .none => .none
  | _ => .none
def intsAt (S : Store) (x : Val) : Option (List Int) := match x with
  | .ref n => match isList (S.get n) with
    | some vs => intsOf vs
    | .none => .none
  | _ => .none
def bAll : Bi := fun _ vs S => match vs with
  | [v] => match boolsAt S v with
    | some bs => .ok (.bool (bs.all id)) S
    | .none => .stuck 114
  | _ => .stuck 115
def bAny : Bi := fun _ vs S => match vs with
  | [v] => match boolsAt S v with
    | some bs => .ok (.bool (bs.any id)) S
    | .none => .stuck 114
  | _ => .stuck 115
def sumI : List Int → Int
  | [] => 0
  | a :: r => a + sumI r
def bSum : Bi := fun _ vs S => match vs with
  | [v] => match intsAt S v with
    | some ns => .ok (.int (sumI ns)) S
    | .none => .stuck 120
  | _ => .stuck 121
def maxI : Int → List Int → Int
  | m, [] => m
  | m, a :: r => maxI (match intLt m a with | true => a | false => m) r
def minI : Int → List Int → Int
  | m, [] => m
  | m, a :: r => minI (match intLt a m with | true => a | false => m) r
def bMax2 : Bi := fun _ vs S => match vs with
  | [.int i, .int j] => .ok (.int (match intLt i j with | true => j | false => i)) S
  | _ => .stuck 125
def bMin2 : Bi := fun _ vs S => match vs with
  | [.int i, .int j] => .ok (.int (match intLt j i with | true => j | false => i)) S
  | _ => .stuck 125
def bMax : Bi := fun _ vs S => match vs with
  | [v] => match intsAt S v with
    | some (a :: r) => .ok (.int (maxI a r)) S
    | _ => .stuck 124
  | _ => .stuck 125
def bMin : Bi := fun _ vs S => match vs with
  | [v] => match intsAt S v with
    | some (a :: r) => .ok (.int (minI a r)) S
    | _ => .stuck 127
  | _ => .stuck 128
def bAbs : Bi := fun _ vs S => match vs with
  | [.int i] => .ok (.int i.natAbs) S
  | _ => .stuck 129
def bInt : Bi := fun _ vs S => match vs with
  | [.int i] => .ok (.int i) S
  | [.bool b] => .ok (.int (b2i b)) S
  | _ => .stuck 130
def bDict : Bi := fun _ vs S => match vs with
  | [.ref n] => match S.get n with
    | some (.dct kvs) => alloc (.dct kvs) S
    | some (.lst vs) => match toDict vs.reverse with
      | some d => alloc (.dct d) S
      | .none => .stuck 131
    | _ => .stuck 132
  | _ => .stuck 132
/-- a value's kind, for isinstance -/
inductive Tg where
  | non | bool | int | str | tup | lst | dct | own (c : Nat)
def tgOf (S : Store) (v : Val) : Option Tg := match v with
  | .none => some .non
  | .bool _ => some .bool
  | .int _ => some .int
  | .str _ => some .str
  | .tup _ => some .tup
  | .ref n => match S.get n with
    | some (.lst _) => some .lst
    | some (.dct _) => some .dct
    | some (.ins c _) => some (.own c)
    | _ => .none
  | _ => .none
def aInt : Tg → Option Bool
  | .int => some true | .bool => some true | .own _ => .none | _ => some false
def aBool : Tg → Option Bool
  | .bool => some true | .own _ => .none | _ => some false
def aStr : Tg → Option Bool
  | .str => some true | .own _ => .none | _ => some false
def aTup : Tg → Option Bool
  | .tup => some true | .own _ => .none | _ => some false
def aLst : Tg → Option Bool
  | .lst => some true | .own _ => .none | _ => some false
def aOwn (k : Nat) : Tg → Option Bool
  | .own c => match Nat.beq c k with | true => some true | false => .none
  | _ => some false
def eIsI (a : E) (ans : Tg → Option Bool) : E := fun o ρ S => (a o ρ S).bind fun x S => match tgOf S x with
  | some t => ofB (ans t) S 133
  | .none => .stuck 133
def mAppend : Bm := fun _ x vs S => match x with
  | .ref n => match vs with
    | [v] => match S.get n with
      | some (.lst xs) => match Nat.blt xs.length maxLen with
        | true => .ok .none (S.put n (.lst (xs ++ [v])))
        | false => .stuck 140
      | _ => .stuck 140
    | _ => .stuck 141
  | _ => .stuck 141
def mPop : Bm := fun _ x vs S => match x with
  | .ref n => match S.get n with
    | some (.lst xs) => match vs with
      | [] => match xs.getLast? with
        | some v => .ok v (S.put n (.lst xs.dropLast))
        | .none => .stuck 142
      | [.int i] => match ixOf xs.length i with
        | some k => match xs[k]? with
          | some v => .ok v (S.put n (.lst (xs.eraseIdx k)))
          | .none => .stuck 143
        | .none => .stuck 144
      | _ => .stuck 145
    | _ => .stuck 145
  | _ => .stuck 146
/-- l.pop() -/
def mPop0 : Bm := fun _ x vs S => match vs with
  | [] => match x with
    | .ref n => match S.get n with
      | some (.lst xs) => match xs[xs.length - 1]? with
        | some v => .ok v (S.put n (.lst xs.dropLast))
        | .none => .stuck 142
      | _ => .stuck 145
    | _ => .stuck 146
  | _ => .stuck 146
def mInsert : Bm := fun _ x vs S => match x with
  | .ref n => match vs with
    | [.int i, v] => match S.get n with
      | some (.lst xs) => match Nat.blt xs.length maxLen with
        | true => .ok .none (S.put n (.lst (xs.take (clip xs.length i) ++ v :: xs.drop (clip xs.length i))))
        | false => .stuck 147
      | _ => .stuck 147
    | _ => .stuck 148
  | _ => .stuck 148
def mClear : Bm := fun _ x vs S => match x with
  | .ref n => match vs with
    | [] => match S.get n with
      | some (.lst _) => .ok .none (S.put n (.lst []))
      | _ => .stuck 149
    | _ => .stuck 150
  | _ => .stuck 150
def indexV (f : Val → Val → Option Bool) (x : Val) : List Val → Nat → Option Nat
  | [], _ => .none
  | a :: r, k => match f a x with
    | some true => some k
    | some false => indexV f x r (k + 1)
    | .none => .none
def mIndex : Bm := fun _ x vs S => match itemsOf S x, vs with
  | some xs, [v] => match dOk S 60 x && dOk S 60 v with
    | true => match indexV (eqF S 60) v xs 0 with
      | some k => .ok (.int k) S
      | .none => .stuck 151
    | false => .stuck 151
  | _, _ => .stuck 152
def countV (f : Val → Val → Option Bool) (x : Val) : List Val → Option Nat
  | [] => some 0
  | a :: r => match f a x, countV f x r with
    | some true, some k => some (k + 1)
    | some false, some k => some k
    | _, _ => .none
def mCount : Bm := fun _ x vs S => match itemsOf S x, vs with
  | some xs, [v] => match dOk S 60 x && dOk S 60 v with
    | true => match countV (eqF S 60) v xs with
      | some k => .ok (.int k) S
      | .none => .stuck 153
    | false => .stuck 153
  | _, _ => .stuck 154
def mGet : Bm := fun _ x vs S => match x with
  | .ref n => match S.get n with
    | some (.dct kvs) => match vs with
      | [k] => match keyFor k kvs with
        | true => .ok ((look k kvs).getD .none) S
        | false => .stuck 155
      | [k, d] => match keyFor k kvs with
        | true => .ok ((look k kvs).getD d) S
        | false => .stuck 156
      | _ => .stuck 157
    | _ => .stuck 157
  | _ => .stuck 158
def strsOf : List Val → Option (List (List Nat))
  | [] => some []
  | .str b :: r => match strsOf r with
    | some bs => some (b :: bs)
    | .none => .none
  | _ :: _ => .none
def joinL (sep : List Nat) : List (List Nat) → List Nat
  | [] => []
  | s :: r => match r with
    | [] => s
    | _ => s ++ sep ++ joinL sep r
def sumLen : List (List Nat) → Nat
  | [] => 0
  | s :: r => s.length + sumLen r
def mJoin : Bm := fun _ x vs S => match x with
  | .str sep => match vs with
    | [v] => match itemsOf S v with
      | some xs => match strsOf xs with
        | some ss => match Nat.ble (sumLen ss + ss.length * sep.length) maxLen with
          | true => .ok (.str (joinL sep ss)) S
          | false => .stuck 159
        | .none => .stuck 159
      | .none => .stuck 160
    | _ => .stuck 161
  | _ => .stuck 161
def eDict0 : E := fun _ _ S => alloc (.dct []) S
/-- a display: key, value, key, value .. -/
def pairUp : List Val → List Val → Option (List Val)
  | [], acc => some acc
  | k :: v :: r, acc => pairUp r (.tup [k, v] :: acc)
  | [_], _ => .none
def eDictD (es : EL) : E := fun o ρ S => (es o ρ S).bind fun vs S => match pairUp vs [] with
  | some l => match toDict l with
    | some d => alloc (.dct d) S
    | .none => .stuck 162
  | .none => .stuck 163
def permL (vs : List Val) : List Nat → Option (List Val)
  | [] => some []
  | i :: r => match vs[i]?, permL vs r with
    | some v, some l => some (v :: l)
    | _, _ => .none
def elPerm (p : List Nat) (as : EL) : EL := fun o ρ S => (as o ρ S).bind fun vs S => match permL vs p with
  | some l => .ok l S
  | .none => .stuck 164
/-! statements -/
inductive SR where
  | nx (ρ : Env) (S : Store)
  | rt (v : Val) (S : Store)
  | bk (ρ : Env) (S : Store)
  | exc (c : Nat) (fs : List (Nat × Val)) (ρ : Env) (S : Store)
  | stuck (w : Nat)
abbrev C := Orc → Env → Store → SR
def R.toF {α} (m : R α) (ρ : Env) (k : α → Store → SR) : SR := match m with
  | .ok a S => k a S
  | .exc c fs S => .exc c fs ρ S
  | .stuck w => .stuck w
def R.to {α} (m : R α) (ρ : Env) (k : α → Store → SR) : SR := R.rec (motive := fun _ => SR) k (fun c fs S => .exc c fs ρ S) (fun w => .stuck w) m
def cNil : C := fun _ ρ S => .nx ρ S
def SR.seqF (m : SR) (k : Env → Store → SR) : SR := match m with
  | .nx ρ S => k ρ S
  | r => r
def SR.seq (m : SR) (k : Env → Store → SR) : SR := SR.rec (motive := fun _ => SR) k (fun v S => .rt v S) (fun ρ S => .bk ρ S) (fun c fs ρ S => .exc c fs ρ S) (fun w => .stuck w) m
def cSeq (a b : C) : C := fun o ρ S => (a o ρ S).seq (b o)
def sExpr (e : E) : C := fun o ρ S => (e o ρ S).to ρ fun _ S => .nx ρ S
def sAsg (t : T) (e : E) : C := fun o ρ S => (e o ρ S).to ρ fun v S => (noExc (t v o ρ S)).to ρ fun ρ S => .nx ρ S
def setAll : List Nat → List Val → Env → Option Env
  | [], [], ρ => some ρ
  | i :: is, v :: vs, ρ => setAll is vs (ρ.set i (some v))
  | _, _, _ => .none
/-- a, b = x, y -/
def sPar (is : List Nat) (es : EL) : C := fun o ρ S => (es o ρ S).to ρ fun vs S => match setAll is vs ρ with
  | some ρ => .nx ρ S
  | .none => .stuck 208
def sAug (i : Nat) (f : Op2) (e : E) : C := fun o ρ S => match ρ[i]? with
  | some (some x) => match x with
    | .err => .stuck 200
    | x => (e o ρ S).to ρ fun y S => (f o x y S).to ρ fun z S => .nx (ρ.set i (some z)) S
  | _ => .stuck 200
def sRet (e : E) : C := fun o ρ S => (e o ρ S).to ρ fun v S => .rt v S
def sIf (c : E) (a b : C) : C := fun o ρ S => (c o ρ S).to ρ fun x S => match truthy S x with
  | some true => a o ρ S
  | some false => b o ρ S
  | .none => .stuck 201
def sBreak : C := fun _ ρ S => .bk ρ S
def wLoop (c : E) (b : C) (o : Orc) : Nat → Env → Store → SR
  | 0, _, _ => .stuck 202
  | n + 1, ρ, S => (c o ρ S).to ρ fun x S => match truthy S x with
    | some true => match b o ρ S with
      | .nx ρ S => wLoop c b o n ρ S
      | .bk ρ S => .nx ρ S
      | r => r
    | some false => .nx ρ S
    | .none => .stuck 203
def sWhile (c : E) (b : C) : C := fun o ρ S => wLoop c b o fuel ρ S
def fLoopF (t : T) (b : C) (o : Orc) : Nat → It → Env → Store → SR
  | 0, _, _, _ => .stuck 204
  | n + 1, it, ρ, S => match it.next S with
    | .none => .stuck 205
    | some .none => .nx ρ S
    | some (some (v, it)) => (noExc (t v o ρ S)).to ρ fun ρ S => match b o ρ S with
      | .nx ρ S => fLoopF t b o n it ρ S
      | .bk ρ S => .nx ρ S
      | r => r
/-- what comes behind a turn of a loop -/
noncomputable def SR.turn (m : SR) (k : Env → Store → SR) : SR := SR.rec (motive := fun _ => SR) k (fun v S => .rt v S) (fun ρ S => .nx ρ S) (fun c fs ρ S => .exc c fs ρ S) (fun w => .stuck w) m
def fLoop (t : T) (b : C) (o : Orc) (n : Nat) : It → Env → Store → SR := Nat.rec (motive := fun _ => It → Env → Store → SR) (fun _ _ _ => .stuck 204)
  (fun _ ih it ρ S => Option.rec (motive := fun _ => SR) (.stuck 205) (fun x => Option.rec (motive := fun _ => SR) (.nx ρ S) (fun p => Prod.rec (motive := fun _ => SR) (fun v it => (noExc (t v o ρ S)).to ρ fun ρ S => (b o ρ S).turn (ih it)) p) x) (nextR S it)) n
theorem fLoop_succ (t : T) (b : C) (o : Orc) (n : Nat) (it : It) (ρ : Env) (S : Store) : fLoop t b o (n + 1) it ρ S = match it.next S with
    | .none => .stuck 205
    | some .none => .nx ρ S
    | some (some (v, it)) => (noExc (t v o ρ S)).to ρ fun ρ S => match b o ρ S with
      | .nx ρ S => fLoop t b o n it ρ S
      | .bk ρ S => .nx ρ S
      | r => r := by
  show Option.rec (motive := fun _ => SR) (.stuck 205) (fun x => Option.rec (motive := fun _ => SR) (.nx ρ S) (fun p => Prod.rec (motive := fun _ => SR) (fun v it => (noExc (t v o ρ S)).to ρ fun ρ S => (b o ρ S).turn (fLoop t b o n it)) p) x) (nextR S it) = _
  rw [nextR_eq]
  cases it.next S with
  | none => rfl
  | some x => cases x with
    | none => rfl
    | some p =>
      obtain ⟨v, it2⟩ := p
      show (noExc (t v o ρ S)).to ρ (fun ρ S => (b o ρ S).turn (fLoop t b o n it2)) = (noExc (t v o ρ S)).to ρ fun ρ S => match b o ρ S with
        | .nx ρ S => fLoop t b o n it2 ρ S
        | .bk ρ S => .nx ρ S
        | r => r
      congr 1
      funext ρ1 S1
      cases b o ρ1 S1 <;> rfl
def sFor (t : T) (i : EI) (b : C) : C := fun o ρ S => (i o ρ S).to ρ fun it S => fLoop t b o fuel it ρ S
/-- raise of an own exception with one field; with none -/
def sRaise (c : Nat) (f : Nat) (e : E) : C := fun o ρ S => (e o ρ S).to ρ fun v S => .exc c [(f, v)] ρ S
def sRaise0 (c : Nat) : C := fun _ ρ S => .exc c [] ρ S
/-- one clause: the classes that it catches, those it does not, the slot of its name, its suite -/
abbrev H1 := List Nat × List Nat × Option Nat × C
def clr (ρ : Env) : Env := ρ.map fun v => match v with
  | some .err => .none
  | v => v
def setO (ρ : Env) (i : Option Nat) (v : Option Val) : Env := match i with
  | some i => ρ.set i v
  | .none => ρ
def handle (o : Orc) (c : Nat) (fs : List (Nat × Val)) (ρ : Env) (S : Store) : List H1 → SR
  | [] => .exc c fs ρ S
  | (ys, ns, i, k) :: r => match ys.any (Nat.beq c) with
    | true => match k { o with err := some fs } (setO (clr ρ) i (some .err)) S with
      | .nx ρ S => .nx (setO (clr ρ) i .none) S
      | .bk ρ S => .bk (setO (clr ρ) i .none) S
      | .exc _ _ _ _ => .stuck 206
      | r => r
    | false => match ns.any (Nat.beq c) with
      | true => handle o c fs ρ S r
      | false => .stuck 207
def sTry (b : C) (hs : List H1) : C := fun o ρ S => match b o ρ S with
  | .exc c fs ρ S => handle o c fs ρ S hs
  | r => r
structure Fn where
  np : Nat
  ns : Nat
  body : C
def runFn (f : Fn) (o : Orc) (args : List Val) (S : Store) : R Val := match Nat.beq args.length f.np with
  | false => .stuck 300
  | true => match f.body o (args.map some ++ List.replicate (f.ns - f.np) .none) S with
    | .nx _ S => .ok .none S
    | .rt v S => .ok v S
    | .bk _ _ => .stuck 301
    | .exc c fs _ S => .exc c fs S
    | .stuck w => .stuck w
/-- the tables of a text -/
structure Tb where
  fn : Nat → Fn
  meth : Nat → Nat → Option Nat
  prop : Nat → Nat → Option Nat
  fld : Nat → Nat → Bool
def callN (t : Tb) : Nat → Nat → List Val → Store → R Val
  | 0, _, _, _ => .stuck 302
  | n + 1, f, args, S => runFn (t.fn f) ⟨callN t n, t.meth, t.prop, t.fld, .none⟩ args S
def orcN (t : Tb) (n : Nat) : Orc := ⟨callN t n, t.meth, t.prop, t.fld, .none⟩
/-! later parts -/
def strC : List Nat → List Nat → Ordering
  | [], [] => .eq
  | [], _ :: _ => .lt
  | _ :: _, [] => .gt
  | a :: r, b :: s => match Nat.beq a b with
    | true => strC r s
    | false => match Nat.blt a b with
      | true => .lt
      | false => .gt
def cmpL (f : Val → Val → Ordering) : List Val → List Val → Ordering
  | [], [] => .eq
  | [], _ :: _ => .lt
  | _ :: _, [] => .gt
  | a :: r, b :: s => match f a b with
    | .eq => cmpL f r s
    | o => o
def cmpV : Nat → Val → Val → Ordering
  | 0, _, _ => .eq
  | k + 1, x, y => match x, y with
    | .int i, .int j => match intEq i j with
      | true => .eq
      | false => match intLt i j with
        | true => .lt
        | false => .gt
    | .str a, .str b => strC a b
    | .tup a, .tup b => cmpL (cmpV k) a b
    | _, _ => .eq
def isLt : Ordering → Bool
  | .lt => true
  | _ => false
def isEq : Ordering → Bool
  | .eq => true
  | _ => false
/-! shapes -/
def shI : Val → Bool
  | .int _ => true
  | _ => false
def shS : Val → Bool
  | .str _ => true
  | _ => false
def shT : Nat → Val → Bool
  | 0, _ => false
  | k + 1, x => match x with
    | .tup vs => match vs with
      | a :: r => Nat.blt 0 k && (shS a && r.all (shT k))
      | [] => false
    | _ => false
def shL (s : Val → Bool) : Val → Bool
  | .tup vs => vs.all s
  | _ => false
def all2 : List (Val → Bool) → List Val → Bool
  | [], [] => true
  | s :: r, v :: vs => match s v with
    | true => all2 r vs
    | false => false
  | _, _ => false
def shP (ss : List (Val → Bool)) : Val → Bool
  | .tup vs => all2 ss vs
  | _ => false
def insV (x : Val) : List Val → List Val
  | [] => [x]
  | a :: r => match isLt (cmpV 20 x a) with
    | true => x :: a :: r
    | false => a :: insV x r
def srtV : List Val → List Val → List Val
  | [], acc => acc
  | x :: r, acc => srtV r (insV x acc)
/-- the shapes that may be sorted: none of them a mix -/
def shapes : List (Val → Bool) := [shI, shP [shI, shT 19], shT 20, shP [shI, shL shI, shI], shP [shP [shI, shT 18], shL (shT 18)]]
def bSortV : Bi := fun _ vs S => match vs with
  | [.ref n] => match isList (S.get n) with
    | some vs => match shapes.any fun s => vs.all s with
      | true => alloc (.lst (srtV vs [])) S
      | false => .stuck 103
    | .none => .stuck 104
  | _ => .stuck 104
def dE (p : Val × Val) : Val := .tup [p.1, p.2]
def ofE : List Val → List (Val × Val)
  | [] => []
  | v :: r => match v with
    | .tup vs => match vs with
      | k :: t => match t with
        | x :: _ => (k, x) :: ofE r
        | [] => ofE r
      | [] => ofE r
    | _ => ofE r
/-- k: v for the dict so far -/
def cEltD (a b : E) : Col := fun o ρ acc S => (a o ρ S).bind fun k S => (b o ρ S).bind fun v S => match keyFor k (ofE acc.2) && Nat.blt (ofE acc.2).length maxLen with
  | true => .ok (acc.1 + 1, (dput k v (ofE acc.2)).map dE) S
  | false => .stuck 90
def eDcD (c : Col) : E := fun o ρ S => (noExc (c o ρ (0, []) S)).bind fun acc S => alloc (.dct (ofE acc.2)) S
def eStuck : E := fun _ _ _ => .stuck 998
def sStuck : C := fun _ _ _ => .stuck 998
def iStuck : EI := fun _ _ _ => .stuck 998
def tStuck : T := fun _ _ _ _ => .stuck 998
def bLenJ (mi : Nat) : Bi := fun o vs S => match vs with
  | [x] => match mthOf mi o x S with
    | some f => (noExc (o.call f [x] S)).bind fun v S => match v with
      | .int i => match intLt i 0 with
        | true => .stuck 113
        | false => match intLt i 9223372036854775808 with
          | true => .ok (.int i) S
          | false => .stuck 113
      | _ => .stuck 113
    | .none => .stuck 113
  | _ => .stuck 112
def iEnumZ (es : EL) : EI := fun o ρ S => (iZip es o ρ S).bind fun it S => .ok (.enum 0 it) S
def oEqJ (mi : Nat) : Op2 := fun o x y S => match mthOf mi o x S with
  | some f => match insOf S x with
    | some c => match insOf S y with
      | some d => match Nat.beq c d with
        | true => o.call f [x, y] S
        | false => .stuck 33
      | .none => .stuck 33
    | .none => .stuck 33
  | .none => .stuck 33
def oAddJ (mi : Nat) : Op2 := fun o x y S => match mthOf mi o x S with
  | some f => match insOf S x with
    | some c => match insOf S y with
      | some d => match Nat.beq c d with
        | true => o.call f [x, y] S
        | false => .stuck 33
      | .none => .stuck 33
    | .none => .stuck 33
  | .none => .stuck 33
/-- the answer is a value without objects -/
def callP (f : Nat) (o : Orc) (vs : List Val) (S : Store) : R Val := match vs.all (pur 20) with
  | true => match o.call f vs nilS with
    | .ok v _ => match pur 20 v with
      | true => .ok v S
      | false => .stuck 997
    | .exc _ _ _ => .stuck 997
    | .stuck w => .stuck w
  | false => o.call f vs S
def eCallP (f : Nat) (as : EL) : E := fun o ρ S => (as o ρ S).bind fun vs S => callP f o vs S
/-- a list of such values -/
def lstAt (S : Store) : Val → Option (List Val)
  | .ref n => isList (S.get n)
  | _ => .none
def callL (f : Nat) (o : Orc) (vs : List Val) (S : Store) : R Val := match vs.all (pur 20) with
  | true => match o.call f vs nilS with
    | .ok v S' => match lstAt S' v with
      | some xs => match xs.all (pur 20) with
        | true => alloc (.lst xs) S
        | false => .stuck 997
      | .none => .stuck 997
    | .exc _ _ _ => .stuck 997
    | .stuck w => .stuck w
  | false => o.call f vs S
def eCallL (f : Nat) (as : EL) : E := fun o ρ S => (as o ρ S).bind fun vs S => callL f o vs S
def outL (r : R Val) : Option (List Val) := match r with
  | .ok v S' => match lstAt S' v with
    | some xs => match xs.all (pur 20) with
      | true => some xs
      | false => .none
    | .none => .none
  | _ => .none
/-- a dict is frozen for an expression -/
def isFz : Obj → Bool
  | .fz _ => true
  | _ => false
def eLock (i : Nat) (e : E) : E := fun o ρ S => match ρ[i]? with
  | some (some (.ref n)) => match S.get n with
    | some (.dct kvs) => (noExc (e o ρ (S.put n (.fz kvs)))).bind fun v S' => match S'.get n with
      | some (.fz ks) => .ok v (S'.put n (.dct ks))
      | _ => .stuck 97
    | _ => .stuck 97
  | _ => .stuck 97
/-- d.items(), d frozen -/
def iItemsF (a : E) : EI := fun o ρ S => (a o ρ S).bind fun x S => match x with
  | .ref n => match S.get n with
    | some (.fz kvs) => .ok (.vals (kvs.map dE)) S
    | _ => .stuck 72
  | _ => .stuck 73
/-- dict(l), l a list of pairs whose keys are tuples -/
def pairsT : List Val → Option (List (Val × Val))
  | [] => some []
  | v :: r => match v with
    | .tup vs => match vs with
      | k :: t => match t with
        | x :: u => match u with
          | [] => match isT k && keyIn 8 k with
            | true => match pairsT r with
              | some l => some ((k, x) :: l)
              | .none => .none
            | false => .none
          | _ => .none
        | [] => .none
      | [] => .none
    | _ => .none
def putAllD : List (Val × Val) → List (Val × Val) → List (Val × Val)
  | d, [] => d
  | d, p :: r => putAllD (dput p.1 p.2 d) r
def bDictT : Bi := fun _ vs S => match vs with
  | [.ref n] => match isList (S.get n) with
    | some l => match pairsT l with
      | some kvs => match Nat.ble kvs.length maxLen with
        | true => alloc (.dct (putAllD [] kvs)) S
        | false => .stuck 131
      | .none => .stuck 131
    | .none => .stuck 132
  | _ => .stuck 132
/-- x.p, a property -/
def prpOf (pi : Nat) (o : Orc) (x : Val) (S : Store) : Option Nat := match x with
  | .ref n => match S.get n with
    | some (.ins c _) => o.prop c pi
    | _ => .none
  | _ => .none
def eProp (a : E) (pi : Nat) : E := fun o ρ S => (a o ρ S).bind fun x S => match prpOf pi o x S with
  | some f => noExc (o.call f [x] S)
  | .none => .stuck 19
/-- < of two values of one shape -/
def oLtS : Op2 := fun _ x y S => match shapes.any fun s => s x && s y with
  | true => .ok (.bool (isLt (cmpV 20 x y))) S
  | false => .stuck 34
/-- sorted({.. for ..}), ints -/
def insU (i : Int) : List Int → List Int
  | [] => [i]
  | a :: r => match intLt i a with
    | true => i :: a :: r
    | false => match intEq i a with
      | true => a :: r
      | false => a :: insU i r
def insUV (i : Int) : List Val → List Val
  | [] => [.int i]
  | v :: r => match v with
    | .int a => match intLt i a with
      | true => .int i :: .int a :: r
      | false => match intEq i a with
        | true => .int a :: r
        | false => .int a :: insUV i r
    | _ => v :: r
def cEltS (e : E) : Col := fun o ρ acc S => (e o ρ S).bind fun v S => match v with
  | .int i => match Nat.blt acc.2.length 60 with
    | true => .ok (acc.1 + 1, insUV i acc.2) S
    | false => .stuck 90
  | _ => .stuck 90
def eSortSc (c : Col) : E := fun o ρ S => (noExc (c o ρ (0, []) S)).bind fun acc S => alloc (.lst acc.2) S
def isRt : SR → Bool
  | .rt v _ => match v with
    | .bool b => b
    | _ => false
  | _ => false
/-- what stands where a drawn item is asked for: the feed, and whether all three items lead to True -/
def outB (o : Orc) (r : SR) (as : EL) (t : T) (c : C) (x : Obj) : Option Obj × Bool := match r with
  | .nx ρ S => match as o ρ S with
    | .ok vs S2 => match vs with
      | [.ref f, .ref l] => (S2.get f, Nat.beq f 4 && (!Nat.beq l 4 && (match isList (S2.get l) with
        | some ws => Nat.beq ws.length 3 && ws.all fun v => isRt (((noExc (t v o ρ (S2.put 4 x))).to ρ (fun ρ S => SR.nx ρ S)).seq (c o))
        | .none => false)))
      | _ => (.none, false)
    | _ => (.none, false)
  | _ => (.none, false)
def seqL (l : List C) (c : C) : C := l.foldr cSeq c
/-! what the numbers are for -/
theorem nilS_get (n : Nat) : nilS.get n = .none := rfl
theorem strEq_true : ∀ {a b : List Nat}, strEq a b = true → a = b
  | [], [], _ => rfl
  | a :: r, b :: s, h => by
    rw [strEq] at h
    cases e : Nat.beq a b with
    | false => rw [e] at h; cases h
    | true =>
      rw [e] at h
      rw [Nat.eq_of_beq_eq_true e, strEq_true h]
  | [], _ :: _, h => by cases h
  | _ :: _, [], h => by cases h
theorem intEq_true : ∀ {a b : Int}, intEq a b = true → a = b
  | .ofNat m, .ofNat n, h => by rw [Nat.eq_of_beq_eq_true h]
  | .negSucc m, .negSucc n, h => by rw [Nat.eq_of_beq_eq_true h]
  | .ofNat m, .negSucc n, h => by cases h
  | .negSucc m, .ofNat n, h => by cases h
theorem eqF_hsh : ∀ (k : Nat) (x y : Val), eqF nilS k x y = some true → ∀ j, hsh j x = hsh j y
  | 0, x, y, h, _ => by cases h
  | k + 1, x, y, h, 0 => rfl
  | k + 1, x, y, h, j + 1 => by
    have all : ∀ (a b : List Val), eqL (eqF nilS k) a b = some true → hshL (hsh j) a = hshL (hsh j) b := by
      intro a
      induction a with
      | nil => intro b h; cases b with
        | nil => rfl
        | cons _ _ => cases h
      | cons u a ih =>
        intro b h
        cases b with
        | nil => cases h
        | cons v b =>
          rw [eqL] at h
          cases e : eqF nilS k u v with
          | none => rw [e] at h; cases h
          | some t =>
            rw [e] at h
            cases t with
            | false => cases h
            | true => rw [hshL, hshL, eqF_hsh k u v e j, ih b h]
    cases x with
    | none => cases y <;> first | rfl | (cases h; done)
    | bool a =>
      cases y with
      | bool b =>
        have h' : boolEq a b = true := Option.some.inj h
        cases a <;> cases b <;> first | rfl | cases h'
      | int i =>
        have h' := intEq_true (Option.some.inj h)
        show hshI (b2i a) = hshI i
        rw [h']
      | _ => cases h
    | int i =>
      cases y with
      | bool b =>
        have h' := intEq_true (Option.some.inj h)
        show hshI i = hshI (b2i b)
        rw [h']
      | int b =>
        have h' := intEq_true (Option.some.inj h)
        rw [h']
      | _ => cases h
    | str s =>
      cases y with
      | str t => rw [strEq_true (Option.some.inj h)]
      | _ => cases h
    | tup a =>
      cases y with
      | tup b => exact all a b h
      | _ => cases h
    | ref n => cases y <;> cases h
    | scr n => cases y <;> cases h
    | err => cases y <;> cases h
theorem eqK_eq (x y : Val) : eqK x y = eqKo x y := by
  unfold eqK
  cases e : Nat.beq (hsh 12 x) (hsh 12 y) with
  | true => rfl
  | false =>
    unfold eqKo
    cases h : eqF nilS 10 x y with
    | none => rfl
    | some b =>
      cases b with
      | false => rfl
      | true => rw [eqF_hsh 10 x y h 12, Nat.beq_refl] at e; cases e
theorem pur_dOk (S : Store) : ∀ (k j : Nat) (v : Val), pur k v = true → k ≤ j → dOk S j v = true
  | 0, _, v, h, _ => by cases h
  | k + 1, 0, v, _, h => by omega
  | k + 1, j + 1, v, h, hk => by
    cases v with
    | tup vs =>
      have h' : vs.all (pur k) = true := h
      show vs.all (dOk S j) = true
      exact List.all_eq_true.mpr fun a ha => pur_dOk S k j a (List.all_eq_true.mp h' a ha) (by omega)
    | ref n => cases h
    | scr n => cases h
    | err => cases h
    | _ => rfl
theorem pur_eqF (S T : Store) : ∀ (k j : Nat) (x y : Val), pur k x = true → pur k y = true → k ≤ j → ∃ b, eqF S j x y = some b ∧ eqF T j x y = some b
  | 0, _, x, y, h, _, _ => by cases h
  | k + 1, 0, x, y, _, _, h => by omega
  | k + 1, j + 1, x, y, h1, h2, hk => by
    have all : ∀ (a b : List Val), a.all (pur k) = true → b.all (pur k) = true → ∃ t, eqL (eqF S j) a b = some t ∧ eqL (eqF T j) a b = some t := by
      intro a
      induction a with
      | nil => intro b _ _; cases b <;> exact ⟨_, rfl, rfl⟩
      | cons u a ih =>
        intro b ha hb
        cases b with
        | nil => exact ⟨_, rfl, rfl⟩
        | cons v b =>
          obtain ⟨p1, p2⟩ := Bool.and_eq_true_iff.mp ha
          obtain ⟨q1, q2⟩ := Bool.and_eq_true_iff.mp hb
          obtain ⟨t, e1, e2⟩ := pur_eqF S T k j u v p1 q1 (by omega)
          rw [eqL, eqL, e1, e2]
          cases t with
          | true => exact ih b p2 q2
          | false => exact ⟨_, rfl, rfl⟩
    cases x <;> first | (cases h1; done) | skip
    all_goals (cases y <;> first | (cases h2; done) | exact ⟨_, rfl, rfl⟩ | exact all _ _ h1 h2)
theorem eqQ_eq (S : Store) {x y : Val} (h1 : pur 20 x = true) (h2 : pur 20 y = true) : eqF S 60 x y = some (eqQ x y) := by
  obtain ⟨b, e1, e2⟩ := pur_eqF S nilS 20 60 x y h1 h2 (by decide)
  rw [e1]
  unfold eqQ
  cases e : Nat.beq (hsh 12 x) (hsh 12 y) with
  | true => rw [e2]; rfl
  | false =>
    cases b with
    | false => rfl
    | true => rw [eqF_hsh 60 x y e2 12, Nat.beq_refl] at e; cases e
theorem eqS_eq (S : Store) (x y : Val) : eqS S x y = eqSo S x y := by
  unfold eqS
  cases e : pur 20 x && pur 20 y with
  | false => rfl
  | true =>
    obtain ⟨h1, h2⟩ := Bool.and_eq_true_iff.mp e
    unfold eqSo
    rw [pur_dOk S 20 60 x h1 (by decide), pur_dOk S 20 60 y h2 (by decide)]
    exact (eqQ_eq S h1 h2).symm
theorem anyEq_eq (S : Store) {x : Val} (h1 : pur 20 x = true) : ∀ {vs : List Val}, vs.all (pur 20) = true → anyEq (eqF S 60) x vs = some (vs.any fun a => eqQ a x)
  | [], _ => rfl
  | a :: r, h => by
    obtain ⟨p1, p2⟩ := Bool.and_eq_true_iff.mp h
    rw [anyEq, eqQ_eq S p1 h1, List.any_cons]
    cases eqQ a x with
    | true => rfl
    | false => exact anyEq_eq S h1 p2
theorem inV_eq (S : Store) (x y : Val) : inV S x y = inVo S x y := by
  have go : ∀ vs : List Val, (pur 20 x && vs.all (pur 20)) = true → (match dOk S 60 x && vs.all (dOk S 60) with | true => anyEq (eqF S 60) x vs | false => .none) = some (vs.any fun a => eqQ a x) := by
    intro vs e
    obtain ⟨h1, h2⟩ := Bool.and_eq_true_iff.mp e
    have h3 : vs.all (dOk S 60) = true := List.all_eq_true.mpr fun a ha => pur_dOk S 20 60 a (List.all_eq_true.mp h2 a ha) (by decide)
    rw [pur_dOk S 20 60 x h1 (by decide), h3]
    exact anyEq_eq S h1 h2
  cases y with
  | tup vs =>
    show (match pur 20 x && vs.all (pur 20) with | true => some (vs.any fun a => eqQ a x) | false => inVo S x (.tup vs)) = _
    cases e : pur 20 x && vs.all (pur 20) with
    | false => rfl
    | true => exact (go vs e).symm
  | ref n =>
    show (match isList (S.get n) with | some vs => (match pur 20 x && vs.all (pur 20) with | true => some (vs.any fun a => eqQ a x) | false => inVo S x (.ref n)) | .none => .none) = (match isList (S.get n) with | some vs => (match dOk S 60 x && vs.all (dOk S 60) with | true => anyEq (eqF S 60) x vs | false => .none) | .none => .none)
    cases q : isList (S.get n) with
    | none => rfl
    | some vs =>
      show (match pur 20 x && vs.all (pur 20) with | true => some (vs.any fun a => eqQ a x) | false => inVo S x (.ref n)) = (match dOk S 60 x && vs.all (dOk S 60) with | true => anyEq (eqF S 60) x vs | false => .none)
      cases e : pur 20 x && vs.all (pur 20) with
      | true => exact (go vs e).symm
      | false =>
        show (match isList (S.get n) with | some vs => (match dOk S 60 x && vs.all (dOk S 60) with | true => anyEq (eqF S 60) x vs | false => .none) | .none => .none) = _
        rw [q]
  | _ => rfl
end G
set_option Elab.async false
set_option linter.all false
set_option maxRecDepth 100000
set_option maxHeartbeats 0
namespace L19
open G
/-- _wall -/
def c_0 : C := cSeq (sStuck) (cNil)
/-- is_number -/
def c_1 : C := cSeq (sRet (eAnd (eIsI (eVar 0) aInt) (eAnd (eNot (eIsI (eVar 0) aBool)) (eChain oLe oLt (eC (.int 0)) (eVar 0) (eVar 1))))) (cNil)
/-- is_name -/
def c_2 : C := cSeq (sRet (eAnd (eIsI (eVar 0) aStr) (eAnd (eChain oLe oLe (eC (.int 1)) (eB bLen (elCons (eVar 0) (elNil))) (eC (.int 8))) (eB bAll (elCons (eLc (cFor [1] (tName 1) (iVal (eVar 0)) (cElt (eOp oIn (eVar 1) (eC (.str [97, 98, 99, 100, 101, 102, 103, 104, 105, 106, 107, 108, 109, 110, 111, 112, 113, 114, 115, 116, 117, 118, 119, 120, 121, 122])))))) (elNil)))))) (cNil)
/-- is_tree -/
def c_3 : C := cSeq (sIf (eOr (eNot (eIsI (eVar 0) aTup)) (eOr (eNot (eChain oLe oLe (eC (.int 1)) (eB bLen (elCons (eVar 0) (elNil))) (eOp oAdd (eC (.int 4)) (eC (.int 1))))) (eNot (eCallP 2 (elCons (eOp oIx (eVar 0) (eC (.int 0))) (elNil)))))) (cSeq (sRet (eC (.bool false))) (cNil)) (cNil)) (cSeq (sRet (eB bAll (elCons (eLc (cFor [1] (tName 1) (iVal (eSl (eVar 0) (eoSome (eC (.int 1))) (eoNone))) (cElt (eCallP 3 (elCons (eVar 1) (elNil)))))) (elNil)))) (cNil))
/-- size -/
def c_4 : C := cSeq (sRet (eOp oAdd (eC (.int 1)) (eB bSum (elCons (eLc (cFor [1] (tName 1) (iVal (eSl (eVar 0) (eoSome (eC (.int 1))) (eoNone))) (cElt (eCallP 4 (elCons (eVar 1) (elNil)))))) (elNil))))) (cNil)
/-- levels_of -/
def c_5 : C := cSeq (sRet (eOp oAdd (eC (.int 1)) (eB bMax (elCons (eOp oAdd (eLc (cFor [1] (tName 1) (iVal (eSl (eVar 0) (eoSome (eC (.int 1))) (eoNone))) (cElt (eCallP 5 (elCons (eVar 1) (elNil)))))) (eLst (elCons (eC (.int 0)) (elNil)))) (elNil))))) (cNil)
/-- sign_of -/
def c_6 : C := cSeq (sRet (eTup (elCons (eOp oIx (eVar 0) (eC (.int 0))) (elCons (eOp oSub (eB bLen (elCons (eVar 0) (elNil))) (eC (.int 1))) (elNil))))) (cNil)
/-- ordered -/
def c_7 : C := cSeq (sAsg (tName 1) (eB bSortV (elCons (eLc (cFor [4] (tName 4) (iVal (eVar 0)) (cElt (eTup (elCons (eCallP 4 (elCons (eVar 4) (elNil))) (elCons (eVar 4) (elNil))))))) (elNil)))) (cSeq (sRet (eLc (cFor [2, 3] (tTup 2 (tCons (tName 2) (tCons (tName 3) (tNil)))) (iEnum (eVar 1)) (cIf (eOr (eOp oEq (eVar 2) (eC (.int 0))) (eOp oNe (eVar 3) (eOp oIx (eVar 1) (eOp oSub (eVar 2) (eC (.int 1)))))) (cElt (eOp oIx (eVar 3) (eC (.int 1)))))))) (cNil))
/-- parts -/
def c_8 : C := cSeq (sAsg (tName 1) (eLst (elCons (eVar 0) (elNil)))) (cSeq (sFor (tName 2) (iVal (eSl (eVar 0) (eoSome (eC (.int 1))) (eoNone))) (cSeq (sAsg (tName 1) (eOp oAdd (eVar 1) (eCallL 8 (elCons (eVar 2) (elNil))))) (cNil))) (cSeq (sRet (eCall 7 (elCons (eVar 1) (elNil)))) (cNil)))
/-- part_at -/
def c_9 : C := cSeq (sIf (eNot (eIsI (eVar 1) aTup)) (cSeq (sRaise 1 0 (eVar 1)) (cNil)) (cNil)) (cSeq (sAsg (tName 2) (eVar 0)) (cSeq (sFor (tName 3) (iVal (eVar 1)) (cSeq (sIf (eNot (eCallP 1 (elCons (eVar 3) (elCons (eOp oSub (eB bLen (elCons (eVar 2) (elNil))) (eC (.int 1))) (elNil))))) (cSeq (sRaise 1 0 (eVar 1)) (cNil)) (cNil)) (cSeq (sAsg (tName 2) (eOp oIx (eVar 2) (eOp oAdd (eVar 3) (eC (.int 1))))) (cNil)))) (cSeq (sRet (eVar 2)) (cNil))))
/-- put -/
def c_10 : C := cSeq (sExpr (eCall 9 (elCons (eVar 0) (elCons (eVar 1) (elNil))))) (cSeq (sIf (eOp oEq (eVar 1) (eTup (elNil))) (cSeq (sRet (eVar 2)) (cNil)) (cNil)) (cSeq (sAsg (tName 3) (eCallP 10 (elCons (eOp oIx (eVar 0) (eOp oAdd (eOp oIx (eVar 1) (eC (.int 0))) (eC (.int 1)))) (elCons (eSl (eVar 1) (eoSome (eC (.int 1))) (eoNone)) (elCons (eVar 2) (elNil)))))) (cSeq (sRet (eOp oAdd (eOp oAdd (eSl (eVar 0) (eoNone) (eoSome (eOp oAdd (eOp oIx (eVar 1) (eC (.int 0))) (eC (.int 1))))) (eTup (elCons (eVar 3) (elNil)))) (eSl (eVar 0) (eoSome (eOp oAdd (eOp oIx (eVar 1) (eC (.int 0))) (eC (.int 2)))) (eoNone)))) (cNil))))
/-- is_rule -/
def c_11 : C := cSeq (sIf (eOr (eNot (eIsI (eVar 0) aTup)) (eOr (eOp oNe (eB bLen (elCons (eVar 0) (elNil))) (eC (.int 2))) (eOr (eNot (eCallP 3 (elCons (eOp oIx (eVar 0) (eC (.int 0))) (elNil)))) (eNot (eCallP 3 (elCons (eOp oIx (eVar 0) (eC (.int 1))) (elNil))))))) (cSeq (sRet (eC (.bool false))) (cNil)) (cNil)) (cSeq (sIf (eOr (eOp oGt (eB bMax2 (elCons (eCallP 4 (elCons (eOp oIx (eVar 0) (eC (.int 0))) (elNil))) (elCons (eCallP 4 (elCons (eOp oIx (eVar 0) (eC (.int 1))) (elNil))) (elNil)))) (eC (.int 6))) (eOp oGt (eB bMax2 (elCons (eCallP 5 (elCons (eOp oIx (eVar 0) (eC (.int 0))) (elNil))) (elCons (eCallP 5 (elCons (eOp oIx (eVar 0) (eC (.int 1))) (elNil))) (elNil)))) (eC (.int 4)))) (cSeq (sRet (eC (.bool false))) (cNil)) (cNil)) (cSeq (sRet (eOp oNe (eOp oIx (eVar 0) (eC (.int 0))) (eOp oIx (eVar 0) (eC (.int 1))))) (cNil)))
/-- parts_of -/
def c_12 : C := cSeq (sAsg (tName 1) (eLst (elNil))) (cSeq (sFor (tTup 2 (tCons (tName 2) (tCons (tName 3) (tNil)))) (iVal (eVar 0)) (cSeq (sAsg (tName 1) (eOp oAdd (eOp oAdd (eVar 1) (eCallL 8 (elCons (eVar 2) (elNil)))) (eCallL 8 (elCons (eVar 3) (elNil))))) (cNil))) (cSeq (sRet (eCall 7 (elCons (eVar 1) (elNil)))) (cNil)))
/-- Lot.__init__ -/
def c_13 : C := cSeq (sIf (eOr (eNot (eIsI (eVar 1) aLst)) (eOp oGt (eB bLen (elCons (eVar 1) (elNil))) (eC (.int 8)))) (cSeq (sRaise 2 1 (eC (.int 0))) (cNil)) (cNil)) (cSeq (sFor (tTup 2 (tCons (tName 2) (tCons (tName 3) (tNil)))) (iEnum (eVar 1)) (cSeq (sIf (eOr (eNot (eCallP 11 (elCons (eVar 3) (elNil)))) (eOp oIn (eVar 3) (eSl (eVar 1) (eoNone) (eoSome (eVar 2))))) (cSeq (sRaise 2 1 (eVar 2)) (cNil)) (cNil)) (cSeq (sIf (eOp oGt (eB bLen (elCons (eCall 12 (elCons (eSl (eVar 1) (eoNone) (eoSome (eOp oAdd (eVar 2) (eC (.int 1))))) (elNil))) (elNil))) (eC (.int 24))) (cSeq (sRaise 2 1 (eVar 2)) (cNil)) (cNil)) (cNil)))) (cSeq (sAsg (tAttr (eVar 0) 3) (eB bList (elCons (eVar 1) (elNil)))) (cNil)))
/-- Lot.rules -/
def c_14 : C := cSeq (sRet (eB bList (elCons (eAttr (eVar 0) 3) (elNil)))) (cNil)
/-- Lot.parts -/
def c_15 : C := cSeq (sRet (eCall 12 (elCons (eAttr (eVar 0) 3) (elNil)))) (cNil)
/-- Lot.__len__ -/
def c_16 : C := cSeq (sRet (eB bLen (elCons (eAttr (eVar 0) 3) (elNil)))) (cNil)
/-- Lot.__contains__ -/
def c_17 : C := cSeq (sRet (eOp oIn (eVar 1) (eAttr (eVar 0) 3))) (cNil)
/-- Lot.__eq__ -/
def c_18 : C := cSeq (sRet (eAnd (eIsI (eVar 1) (aOwn 0)) (eOp oEq (eAttr (eVar 0) 3) (eAttr (eVar 1) 3)))) (cNil)
/-- Lot.__add__ -/
def c_19 : C := cSeq (sRet (eNew 0 13 (elCons (eOp oAdd (eAttr (eVar 0) 3) (eLc (cFor [2] (tName 2) (iVal (eAttr (eVar 1) 3)) (cIf (eOp oNotIn (eVar 2) (eAttr (eVar 0) 3)) (cElt (eVar 2)))))) (elNil)))) (cNil)
/-- Lot.turned -/
def c_20 : C := cSeq (sExpr (eCall 0 (elCons (eC (.int 0)) (elNil)))) (cNil)
/-- Lot.without -/
def c_21 : C := cSeq (sExpr (eCall 0 (elCons (eC (.int 1)) (elNil)))) (cNil)
/-- put_by -/
def c_22 : C := cSeq (sTry (cSeq (sAsg (tName 4) (eCall 9 (elCons (eVar 0) (elCons (eVar 1) (elNil))))) (cNil)) [([1], [0, 2, 3, 4], .none, cSeq (sRet (eC .none)) (cNil))]) (cSeq (sRet (eIf (eOp oEq (eVar 4) (eVar 2)) (eCallP 10 (elCons (eVar 0) (elCons (eVar 1) (elCons (eVar 3) (elNil))))) (eC .none))) (cNil))
/-- stepped -/
def c_23 : C := cSeq (sIf (eOr (eNot (eIsI (eVar 2) aTup)) (eOr (eOp oNe (eB bLen (elCons (eVar 2) (elNil))) (eC (.int 2))) (eNot (eCallP 1 (elCons (eOp oIx (eVar 2) (eC (.int 1))) (elCons (eB (bLenJ 2) (elCons (eVar 0) (elNil))) (elNil))))))) (cSeq (sRet (eC .none)) (cNil)) (cNil)) (cSeq (sAsg (tTup 2 (tCons (tName 3) (tCons (tName 4) (tNil)))) (eOp oIx (eMeth (eVar 0) 0 elNil) (eOp oIx (eVar 2) (eC (.int 1))))) (cSeq (sRet (eCall 22 (elCons (eVar 1) (elCons (eOp oIx (eVar 2) (eC (.int 0))) (elCons (eVar 3) (elCons (eVar 4) (elNil))))))) (cNil)))
/-- after -/
def c_24 : C := cSeq (sIf (eNot (eIsI (eVar 2) aLst)) (cSeq (sRaise 3 2 (eC (.int 0))) (cNil)) (cNil)) (cSeq (sAsg (tName 3) (eVar 1)) (cSeq (sFor (tTup 2 (tCons (tName 4) (tCons (tName 5) (tNil)))) (iEnum (eVar 2)) (cSeq (sAsg (tName 3) (eCall 23 (elCons (eVar 0) (elCons (eVar 3) (elCons (eVar 5) (elNil)))))) (cSeq (sIf (eOp oIs (eVar 3) (eC .none)) (cSeq (sRaise 3 2 (eVar 4)) (cNil)) (cNil)) (cNil)))) (cSeq (sRet (eVar 3)) (cNil))))
/-- told_and_own -/
def c_25 : C := cSeq (sAsg (tName 2) (eCall 12 (elCons (eVar 0) (elNil)))) (cSeq (sFor (tName 3) (iVal (eVar 1)) (cSeq (sAsg (tName 2) (eOp oAdd (eVar 2) (eCallL 8 (elCons (eVar 3) (elNil))))) (cNil))) (cSeq (sRet (eCall 7 (elCons (eVar 2) (elNil)))) (cNil)))
/-- Table.__init__ -/
def c_26 : C := cSeq (sAsg (tAttr (eVar 0) 4) (eVar 1)) (cSeq (sAsg (tAttr (eVar 0) 5) (eCall 25 (elCons (eVar 1) (elCons (eVar 2) (elNil))))) (cSeq (sAsg (tAttr (eVar 0) 6) (eLc (cFor [4, 5] (tName 4) (iVal (eAttr (eVar 0) 5)) (cFor [5] (tName 5) (iVal (eAttr (eVar 0) 5)) (cIf (eOp oEq (eCallP 6 (elCons (eVar 4) (elNil))) (eCallP 6 (elCons (eVar 5) (elNil)))) (cElt (eTup (elCons (eVar 4) (elCons (eVar 5) (elNil)))))))))) (cSeq (sAsg (tAttr (eVar 0) 7) (eDcD (cFor [6] (tName 6) (iVal (eAttr (eVar 0) 5)) (cEltD (eTup (elCons (eVar 6) (elCons (eVar 6) (elNil)))) (eC (.int 0)))))) (cSeq (sAsg (tName 3) (eC (.bool true))) (cSeq (sWhile (eVar 3) (cSeq (sAsg (tName 3) (eMeth (eVar 0) 11 elNil)) (cSeq (sAsg (tName 3) (eOr (eMeth (eVar 0) 10 elNil) (eVar 3))) (cNil)))) (cNil))))))
/-- Table.by_children -/
def c_27 : C := cSeq (sIf (eOp oNe (eCallP 6 (elCons (eVar 1) (elNil))) (eCallP 6 (elCons (eVar 2) (elNil)))) (cSeq (sRet (eC .none)) (cNil)) (cNil)) (cSeq (sAsg (tName 3) (eLc (cFor [4] (tName 4) (iZip (elCons (eSl (eVar 1) (eoSome (eC (.int 1))) (eoNone)) (elCons (eSl (eVar 2) (eoSome (eC (.int 1))) (eoNone)) (elNil)))) (cElt (eBm .dct mGet (eAttr (eVar 0) 7) (elCons (eVar 4) (elNil))))))) (cSeq (sRet (eIf (eOp oIn (eC .none) (eVar 3)) (eC .none) (eB bSum (elCons (eVar 3) (elNil))))) (cNil)))
/-- Table.lower -/
def c_28 : C := cSeq (sIf (eAnd (eOp oInK (eTup (elCons (eVar 1) (elCons (eVar 2) (elNil)))) (eAttr (eVar 0) 7)) (eOp oLe (eOp oIxK (eAttr (eVar 0) 7) (eTup (elCons (eVar 1) (elCons (eVar 2) (elNil))))) (eVar 3))) (cSeq (sRet (eC (.bool false))) (cNil)) (cNil)) (cSeq (sAsg (tSubK (eAttr (eVar 0) 7) (eTup (elCons (eVar 1) (elCons (eVar 2) (elNil))))) (eVar 3)) (cSeq (sRet (eC (.bool true))) (cNil)))
/-- Table.look_at_children -/
def c_29 : C := cSeq (sAsg (tName 1) (eC (.bool false))) (cSeq (sFor (tTup 2 (tCons (tName 2) (tCons (tName 3) (tNil)))) (iVal (eAttr (eVar 0) 6)) (cSeq (sAsg (tName 4) (eMeth (eVar 0) 8 (elCons (eVar 2) (elCons (eVar 3) (elNil))))) (cSeq (sIf (eOp oIsNot (eVar 4) (eC .none)) (cSeq (sAsg (tName 1) (eOr (eMeth (eVar 0) 9 (elCons (eVar 2) (elCons (eVar 3) (elCons (eVar 4) (elNil))))) (eVar 1))) (cNil)) (cNil)) (cNil)))) (cSeq (sRet (eVar 1)) (cNil)))
/-- Table.look_through_rules -/
def c_30 : C := cSeq (sAsg (tName 1) (eC (.bool false))) (cSeq (sFor (tTup 2 (tCons (tName 2) (tCons (tName 3) (tNil)))) (iVal (eAttr (eVar 0) 4)) (cSeq (sAsg (tName 5) (eLc (cFor [4] (tName 4) (iVal (eAttr (eVar 0) 5)) (cIf (eOp oInK (eTup (elCons (eVar 4) (elCons (eVar 2) (elNil)))) (eAttr (eVar 0) 7)) (cElt (eVar 4)))))) (cSeq (sAsg (tName 7) (eLc (cFor [6] (tName 6) (iVal (eAttr (eVar 0) 5)) (cIf (eOp oInK (eTup (elCons (eVar 3) (elCons (eVar 6) (elNil)))) (eAttr (eVar 0) 7)) (cElt (eVar 6)))))) (cSeq (sFor (tName 4) (iVal (eVar 5)) (cSeq (sFor (tName 6) (iVal (eVar 7)) (cSeq (sAsg (tName 1) (eOr (eMeth (eVar 0) 9 (elCons (eVar 4) (elCons (eVar 6) (elCons (eMeth (eVar 0) 12 (elCons (eVar 4) (elCons (eVar 6) (elCons (eVar 2) (elCons (eVar 3) (elNil)))))) (elNil))))) (eVar 1))) (cNil))) (cNil))) (cNil))))) (cSeq (sRet (eVar 1)) (cNil)))
/-- Table.by_rule -/
def c_31 : C := cSeq (sPar [5, 6] (elCons (eBm .dct mGet (eAttr (eVar 0) 7) (elCons (eTup (elCons (eVar 1) (elCons (eVar 3) (elNil)))) (elNil))) (elCons (eBm .dct mGet (eAttr (eVar 0) 7) (elCons (eTup (elCons (eVar 4) (elCons (eVar 2) (elNil)))) (elNil))) (elNil)))) (cSeq (sRet (eIf (eOr (eOp oIs (eVar 5) (eC .none)) (eOp oIs (eVar 6) (eC .none))) (eC .none) (eOp oAdd (eOp oAdd (eVar 5) (eC (.int 1))) (eVar 6)))) (cNil))
/-- Table.becomes -/
def c_32 : C := cSeq (sRet (eOp oInK (eTup (elCons (eVar 1) (elCons (eVar 2) (elNil)))) (eAttr (eVar 0) 7))) (cNil)
/-- Table.way -/
def c_33 : C := cSeq (sAsg (tName 3) (eOp oIxK (eAttr (eVar 0) 7) (eTup (elCons (eVar 1) (elCons (eVar 2) (elNil)))))) (cSeq (sIf (eOp oEq (eVar 3) (eC (.int 0))) (cSeq (sRet (eLst (elNil))) (cNil)) (cNil)) (cSeq (sIf (eOp oEq (eMeth (eVar 0) 8 (elCons (eVar 1) (elCons (eVar 2) (elNil)))) (eVar 3)) (cSeq (sAsg (tName 4) (eLst (elNil))) (cSeq (sFor (tTup 2 (tCons (tName 5) (tCons (tTup 2 (tCons (tName 6) (tCons (tName 7) (tNil)))) (tNil)))) (iEnumZ (elCons (eSl (eVar 1) (eoSome (eC (.int 1))) (eoNone)) (elCons (eSl (eVar 2) (eoSome (eC (.int 1))) (eoNone)) (elNil)))) (cSeq (sAsg (tName 4) (eOp oAdd (eVar 4) (eLc (cFor [11, 8] (tTup 2 (tCons (tName 11) (tCons (tName 8) (tNil)))) (iVal (eMeth (eVar 0) 14 (elCons (eVar 6) (elCons (eVar 7) (elNil))))) (cElt (eTup (elCons (eOp oAdd (eTup (elCons (eVar 5) (elNil))) (eVar 11)) (elCons (eVar 8) (elNil))))))))) (cNil))) (cSeq (sRet (eVar 4)) (cNil)))) (cNil)) (cSeq (sFor (tTup 2 (tCons (tName 8) (tCons (tTup 2 (tCons (tName 9) (tCons (tName 10) (tNil)))) (tNil)))) (iEnum (eAttr (eVar 0) 4)) (cSeq (sIf (eOp oEq (eMeth (eVar 0) 12 (elCons (eVar 1) (elCons (eVar 2) (elCons (eVar 9) (elCons (eVar 10) (elNil)))))) (eVar 3)) (cSeq (sBreak) (cNil)) (cNil)) (cNil))) (cSeq (sRet (eOp oAdd (eOp oAdd (eMeth (eVar 0) 14 (elCons (eVar 1) (elCons (eVar 9) (elNil)))) (eLst (elCons (eTup (elCons (eTup (elNil)) (elCons (eVar 8) (elNil)))) (elNil)))) (eMeth (eVar 0) 14 (elCons (eVar 10) (elCons (eVar 2) (elNil)))))) (cNil)))))
/-- number_table -/
def c_34 : C := cSeq (sPar [3, 4] (elCons (eNew 1 26 (elCons (eMeth (eVar 0) 0 elNil) (elCons (eLst (elCons (eVar 1) (elCons (eVar 2) (elNil)))) (elNil)))) (elCons (eLst (elNil)) (elNil)))) (cSeq (sFor (tName 5) (iVal (eAttr (eVar 3) 5)) (cSeq (sFor (tName 6) (iVal (eAttr (eVar 3) 5)) (cSeq (sIf (eMeth (eVar 3) 13 (elCons (eVar 5) (elCons (eVar 6) (elNil)))) (cSeq (sExpr (eBm .lst mAppend (eVar 4) (elCons (eTup (elCons (eVar 5) (elCons (eVar 6) (elCons (eOp oIxK (eAttr (eVar 3) 7) (eTup (elCons (eVar 5) (elCons (eVar 6) (elNil))))) (elNil))))) (elNil)))) (cNil)) (cNil)) (cNil))) (cNil))) (cSeq (sRet (eVar 4)) (cNil)))
/-- told_way -/
def c_35 : C := cSeq (sAsg (tName 3) (eOp oIxK (eAttr (eVar 0) 7) (eTup (elCons (eVar 1) (elCons (eVar 2) (elNil)))))) (cSeq (sIf (eOp oGt (eVar 3) (eC (.int 200))) (cSeq (sRaise 4 1 (eVar 3)) (cNil)) (cNil)) (cSeq (sRet (eMeth (eVar 0) 14 (elCons (eVar 1) (elCons (eVar 2) (elNil))))) (cNil)))
/-- becomes -/
def c_36 : C := cSeq (sAsg (tName 3) (eNew 1 26 (elCons (eMeth (eVar 0) 0 elNil) (elCons (eLst (elCons (eVar 1) (elCons (eVar 2) (elNil)))) (elNil))))) (cSeq (sIf (eMeth (eVar 3) 13 (elCons (eVar 1) (elCons (eVar 2) (elNil)))) (cSeq (sRet (eTup (elCons (eC (.str [121, 101, 115])) (elCons (eCall 35 (elCons (eVar 3) (elCons (eVar 1) (elCons (eVar 2) (elNil))))) (elNil))))) (cNil)) (cNil)) (cSeq (sRet (eTup (elCons (eC (.str [110, 111])) (elCons (eB bListK (elCons (eAttr (eVar 3) 7) (elNil))) (elNil))))) (cNil)))
/-- is_way -/
def c_37 : C := cSeq (sTry (cSeq (sAsg (tName 4) (eCall 24 (elCons (eVar 0) (elCons (eVar 1) (elCons (eVar 3) (elNil)))))) (cNil)) [([3], [0, 1, 2, 4], .none, cSeq (sRet (eC (.bool false))) (cNil))]) (cSeq (sRet (eOp oEq (eVar 4) (eVar 2))) (cNil))
/-- _law_feed -/
def c_38 : C := cSeq (sAsg (tName 2) (eOp oIx (eOp oAdd (eB bList (elCons (eSl (eVar 0) (eoSome (eVar 1)) (eoSome (eOp oAdd (eVar 1) (eC (.int 1))))) (elNil))) (eLst (elCons (eOp oAdd (eOp oMul (eC (.int 71)) (eVar 1)) (eC (.int 23))) (elNil)))) (eC (.int 0)))) (cSeq (sAsg (tName 3) (eB bMax2 (elCons (eC (.int 0)) (elCons (eOp oSub (eB bAbs (elCons (eVar 2) (elNil))) (eOp oPow (eC (.int 10)) (eC (.int 18)))) (elNil))))) (cSeq (sRet (eLst (elCons (eVar 3) (elCons (eOp oMod (eB bInt (elCons (eOp oAdd (eOp oAdd (eOp oMul (eOp oMod (eB bInt (elCons (eB bAbs (elCons (eVar 2) (elNil))) (elNil))) (eC (.int 1000003))) (eC (.int 7919))) (eOp oMul (eC (.int 31)) (eVar 1))) (eC (.int 17))) (elNil))) (eC (.int 1000033))) (elNil))))) (cNil)))
/-- _law_take -/
def c_39 : C := cSeq (sIf (eOp oGt (eOp oIx (eVar 0) (eC (.int 0))) (eC (.int 0))) (cSeq (sAsg (tName 2) (eOp oMod (eB bInt (elCons (eOp oIx (eVar 0) (eC (.int 0))) (elNil))) (eVar 1))) (cSeq (sAsg (tSub (eVar 0) (eC (.int 0))) (eOp oDiv (eOp oIx (eVar 0) (eC (.int 0))) (eVar 1))) (cSeq (sRet (eVar 2)) (cNil)))) (cNil)) (cSeq (sAsg (tSub (eVar 0) (eC (.int 1))) (eOp oMod (eB bInt (elCons (eOp oAdd (eOp oMul (eOp oIx (eVar 0) (eC (.int 1))) (eC (.int 69069))) (eC (.int 12345))) (elNil))) (eC (.int 4294967311)))) (cSeq (sRet (eOp oMod (eB bInt (elCons (eOp oDiv (eOp oIx (eVar 0) (eC (.int 1))) (eC (.int 65536))) (elNil))) (eVar 1))) (cNil)))
/-- _law_pick -/
def c_40 : C := cSeq (sRet (eOp oIx (eVar 1) (eCall 39 (elCons (eVar 0) (elCons (eB bLen (elCons (eVar 1) (elNil))) (elNil)))))) (cNil)
/-- _law_four -/
def c_41 : C := cSeq (sRet (eTup (elCons (eVar 0) (elCons (eVar 1) (elCons (eVar 1) (elCons (eVar 1) (elCons (eVar 1) (elNil)))))))) (cNil)
/-- _law_told_so -/
def c_42 : C := cSeq (sTry (cSeq (sRet (eCall 36 (elCons (eVar 0) (elCons (eVar 1) (elCons (eVar 2) (elNil)))))) (cNil)) [([4], [0, 1, 2, 3], some 3, cSeq (sRet (eTup (elCons (eC (.str [108, 111, 110, 103])) (elCons (eErr 3 1) (elNil))))) (cNil))]) (cNil)
/-- law -/
def c_43 : C := cSeq (sAsg (tName 1) (eCall 38 (elCons (eVar 0) (elCons (eC (.int 0)) (elNil))))) (cSeq (sAsg (tName 2) (eCall 40 (elCons (eVar 1) (elCons (eLst (elCons (eC (.str [102, 97, 98, 99, 100, 112, 113, 114])) (elCons (eC (.str [122, 121, 120, 119, 118, 117, 116, 115])) (elCons (eC (.str [98, 102, 97, 99, 101, 100, 103, 104])) (elCons (eC (.str [104, 103, 102, 101, 100, 99, 98, 97])) (elNil)))))) (elNil))))) (cSeq (sAsg (tName 3) (eOp oAdd (eOp oIx (eVar 2) (eC (.int 0))) (eCall 40 (elCons (eVar 1) (elCons (eLst (elCons (eC (.str [])) (elCons (eC (.str [120])) (elCons (eC (.str [102, 102])) (elNil))))) (elNil)))))) (cSeq (sAsg (tTup 7 (tCons (tName 4) (tCons (tName 5) (tCons (tName 6) (tCons (tName 7) (tCons (tName 8) (tCons (tName 9) (tCons (tName 10) (tNil))))))))) (eLc (cFor [21] (tName 21) (iVal (eSl (eVar 2) (eoSome (eC (.int 1))) (eoNone))) (cElt (eTup (elCons (eVar 21) (elNil))))))) (cSeq (sAsg (tName 11) (eLst (elCons (eTup (elCons (eVar 8) (elCons (eCall 41 (elCons (eVar 3) (elCons (eVar 9) (elNil)))) (elNil)))) (elCons (eTup (elCons (eVar 9) (elCons (eCall 41 (elCons (eVar 3) (elCons (eVar 10) (elNil)))) (elNil)))) (elCons (eTup (elCons (eVar 10) (elCons (eCall 41 (elCons (eVar 3) (elCons (eVar 8) (elNil)))) (elNil)))) (elCons (eTup (elCons (eVar 10) (elCons (eVar 4) (elNil)))) (elCons (eTup (elCons (eCall 41 (elCons (eVar 3) (elCons (eVar 4) (elNil)))) (elCons (eVar 5) (elNil)))) (elNil)))))))) (cSeq (sAsg (tName 12) (eNew 0 13 (elCons (eOp oAdd (eVar 11) (eLst (elCons (eTup (elCons (eCall 41 (elCons (eVar 3) (elCons (eVar 5) (elNil)))) (elCons (eVar 6) (elNil)))) (elCons (eTup (elCons (eCall 41 (elCons (eVar 3) (elCons (eVar 6) (elNil)))) (elCons (eVar 7) (elNil)))) (elCons (eTup (elCons (eCall 41 (elCons (eVar 3) (elCons (eVar 7) (elNil)))) (elCons (eVar 4) (elNil)))) (elNil)))))) (elNil)))) (cSeq (sAsg (tName 13) (eLst (elCons (eTup (elCons (eVar 10) (elCons (eVar 4) (elNil)))) (elCons (eTup (elCons (eVar 9) (elCons (eVar 5) (elNil)))) (elCons (eTup (elCons (eVar 8) (elCons (eVar 6) (elNil)))) (elCons (eTup (elCons (eVar 10) (elCons (eVar 7) (elNil)))) (elCons (eTup (elCons (eVar 9) (elCons (eVar 4) (elNil)))) (elCons (eTup (elCons (eVar 8) (elCons (eVar 5) (elNil)))) (elCons (eTup (elCons (eVar 10) (elCons (eVar 6) (elNil)))) (elCons (eTup (elCons (eVar 9) (elCons (eVar 7) (elNil)))) (elCons (eTup (elCons (eVar 8) (elCons (eVar 4) (elNil)))) (elCons (eTup (elCons (eVar 10) (elCons (eVar 5) (elNil)))) (elCons (eTup (elCons (eVar 9) (elCons (eVar 6) (elNil)))) (elCons (eTup (elCons (eVar 8) (elCons (eVar 7) (elNil)))) (elNil))))))))))))))) (cSeq (sAsg (tName 14) (eLst (elCons (eC (.int 1)) (elCons (eC (.int 6)) (elCons (eC (.int 26)) (elCons (eC (.int 106)) (elCons (eC (.int 426)) (elCons (eC (.int 1706)) (elCons (eC (.int 6826)) (elCons (eC (.int 27306)) (elCons (eC (.int 109226)) (elCons (eC (.int 436906)) (elCons (eC (.int 1747626)) (elCons (eC (.int 6990506)) (elNil))))))))))))))) (cSeq (sAsg (tName 18) (eB bDictT (elCons (eLc (cFor [15, 16, 17] (tTup 3 (tCons (tName 15) (tCons (tName 16) (tCons (tName 17) (tNil))))) (iVal (eCall 34 (elCons (eVar 12) (elCons (eVar 8) (elCons (eVar 7) (elNil)))))) (cElt (eTup (elCons (eTup (elCons (eVar 15) (elCons (eVar 16) (elNil)))) (elCons (eVar 17) (elNil))))))) (elNil)))) (cSeq (sIf (eOr (eOp oNe (eLc (cFor [22] (tName 22) (iVal (eVar 13)) (cElt (eBm .dct mGet (eVar 18) (elCons (eVar 22) (elNil)))))) (eVar 14)) (eOr (eOp oInK (eTup (elCons (eVar 4) (elCons (eVar 8) (elNil)))) (eVar 18)) (eOp oNe (eBm .dct mGet (eVar 18) (elCons (eTup (elCons (eVar 10) (elCons (eCall 41 (elCons (eVar 3) (elCons (eVar 6) (elNil)))) (elNil)))) (elNil))) (eC (.int 105))))) (cSeq (sRet (eC (.bool false))) (cNil)) (cNil)) (cSeq (sAsg (tTup 2 (tCons (tName 19) (tCons (tName 20) (tNil)))) (eCall 42 (elCons (eVar 12) (elCons (eVar 10) (elCons (eVar 7) (elNil)))))) (cSeq (sIf (eOr (eOp oNe (eVar 19) (eC (.str [121, 101, 115]))) (eOr (eOp oNe (eB bLen (elCons (eVar 20) (elNil))) (eC (.int 106))) (eNot (eCall 37 (elCons (eVar 12) (elCons (eVar 10) (elCons (eVar 7) (elCons (eVar 20) (elNil))))))))) (cSeq (sRet (eC (.bool false))) (cNil)) (cNil)) (cSeq (sAsg (tTup 3 (tCons (tName 15) (tCons (tName 16) (tCons (tName 17) (tNil))))) (eCall 40 (elCons (eVar 1) (elCons (eLst (elCons (eTup (elCons (eVar 9) (elCons (eVar 4) (elCons (eC (.int 426)) (elNil))))) (elCons (eTup (elCons (eVar 8) (elCons (eVar 7) (elCons (eC (.int 6990506)) (elNil))))) (elCons (eTup (elCons (eVar 10) (elCons (eVar 5) (elCons (eC (.int 436906)) (elNil))))) (elNil))))) (elNil))))) (cSeq (sRet (eOp oEq (eCall 42 (elCons (eVar 12) (elCons (eVar 15) (elCons (eVar 16) (elNil))))) (eTup (elCons (eC (.str [108, 111, 110, 103])) (elCons (eVar 17) (elNil)))))) (cNil))))))))))))))
def fnl_0 : List Fn := [⟨1, 1, c_0⟩, ⟨2, 2, c_1⟩, ⟨1, 2, c_2⟩, ⟨1, 2, c_3⟩, ⟨1, 2, c_4⟩, ⟨1, 2, c_5⟩, ⟨1, 1, c_6⟩, ⟨1, 5, c_7⟩, ⟨1, 3, c_8⟩, ⟨2, 4, c_9⟩, ⟨3, 4, c_10⟩, ⟨1, 1, c_11⟩, ⟨1, 4, c_12⟩, ⟨2, 4, c_13⟩, ⟨1, 1, c_14⟩, ⟨1, 1, c_15⟩, ⟨1, 1, c_16⟩, ⟨2, 2, c_17⟩, ⟨2, 2, c_18⟩, ⟨2, 3, c_19⟩, ⟨1, 1, c_20⟩, ⟨2, 2, c_21⟩, ⟨4, 5, c_22⟩, ⟨3, 5, c_23⟩, ⟨3, 6, c_24⟩, ⟨2, 4, c_25⟩, ⟨3, 7, c_26⟩, ⟨3, 5, c_27⟩, ⟨4, 4, c_28⟩, ⟨1, 5, c_29⟩]
def fnl_1 : List Fn := [⟨1, 8, c_30⟩, ⟨5, 7, c_31⟩, ⟨3, 3, c_32⟩, ⟨3, 12, c_33⟩, ⟨3, 7, c_34⟩, ⟨3, 4, c_35⟩, ⟨3, 4, c_36⟩, ⟨4, 5, c_37⟩, ⟨2, 4, c_38⟩, ⟨2, 3, c_39⟩, ⟨2, 2, c_40⟩, ⟨2, 2, c_41⟩, ⟨3, 4, c_42⟩, ⟨1, 23, c_43⟩]
def fnl : List Fn := fnl_0 ++ fnl_1
def prl : List (List (Option Nat)) := [[], []]
def mtl : List (List (Option Nat)) := [[some 14, some 15, some 16, some 17, some 18, some 19, some 20, some 21, .none, .none, .none, .none, .none, .none, .none], [.none, .none, .none, .none, .none, .none, .none, .none, some 27, some 28, some 29, some 30, some 31, some 32, some 33]]
def fll : List (List Bool) := [[false, false, false, true, false, false, false, false], [false, false, false, false, true, true, true, true]]
def tb : Tb := ⟨fun k => fnl.getD k ⟨0, 0, cNil⟩, fun c m => (mtl.getD c []).getD m .none, fun c m => (prl.getD c []).getD m .none, fun c f => (fll.getD c []).getD f false⟩
end L19
set_option Elab.async false
set_option linter.all false
set_option maxRecDepth 100000
set_option maxHeartbeats 0
namespace L19
open G
def Z6 (o0 o1 o2 o3 : G.Obj) (d y : Int) : Store := ⟨6, (.node (some (o0)) (.node (some (o1)) (.node (some (o3)) .nil .nil) (.node (some (.lst [.str [102, 97, 98, 99, 100, 112, 113, 114], .str [122, 121, 120, 119, 118, 117, 116, 115], .str [98, 102, 97, 99, 101, 100, 103, 104], .str [104, 103, 102, 101, 100, 99, 98, 97]])) .nil .nil)) (.node (some (o2)) (.node (some (.lst [.int d, .int y])) .nil .nil) .nil))⟩
def Z7 (o0 o1 o2 o3 : G.Obj) (d y : Int) : Store := ⟨7, (.node (some (o0)) (.node (some (o1)) (.node (some (o3)) .nil .nil) (.node (some (.lst [.str [102, 97, 98, 99, 100, 112, 113, 114], .str [122, 121, 120, 119, 118, 117, 116, 115], .str [98, 102, 97, 99, 101, 100, 103, 104], .str [104, 103, 102, 101, 100, 99, 98, 97]])) .nil .nil)) (.node (some (o2)) (.node (some (.lst [.int d, .int y])) .nil .nil) (.node (some (.lst [.str [], .str [120], .str [102, 102]])) .nil .nil)))⟩
def lBs : List C := [sAsg (tTup 7 (tCons (tName 4) (tCons (tName 5) (tCons (tName 6) (tCons (tName 7) (tCons (tName 8) (tCons (tName 9) (tCons (tName 10) (tNil))))))))) (eLc (cFor [21] (tName 21) (iVal (eSl (eVar 2) (eoSome (eC (.int 1))) (eoNone))) (cElt (eTup (elCons (eVar 21) (elNil)))))),
  sAsg (tName 11) (eLst (elCons (eTup (elCons (eVar 8) (elCons (eCall 41 (elCons (eVar 3) (elCons (eVar 9) (elNil)))) (elNil)))) (elCons (eTup (elCons (eVar 9) (elCons (eCall 41 (elCons (eVar 3) (elCons (eVar 10) (elNil)))) (elNil)))) (elCons (eTup (elCons (eVar 10) (elCons (eCall 41 (elCons (eVar 3) (elCons (eVar 8) (elNil)))) (elNil)))) (elCons (eTup (elCons (eVar 10) (elCons (eVar 4) (elNil)))) (elCons (eTup (elCons (eCall 41 (elCons (eVar 3) (elCons (eVar 4) (elNil)))) (elCons (eVar 5) (elNil)))) (elNil))))))),
  sAsg (tName 12) (eNew 0 13 (elCons (eOp oAdd (eVar 11) (eLst (elCons (eTup (elCons (eCall 41 (elCons (eVar 3) (elCons (eVar 5) (elNil)))) (elCons (eVar 6) (elNil)))) (elCons (eTup (elCons (eCall 41 (elCons (eVar 3) (elCons (eVar 6) (elNil)))) (elCons (eVar 7) (elNil)))) (elCons (eTup (elCons (eCall 41 (elCons (eVar 3) (elCons (eVar 7) (elNil)))) (elCons (eVar 4) (elNil)))) (elNil)))))) (elNil))),
  sAsg (tName 13) (eLst (elCons (eTup (elCons (eVar 10) (elCons (eVar 4) (elNil)))) (elCons (eTup (elCons (eVar 9) (elCons (eVar 5) (elNil)))) (elCons (eTup (elCons (eVar 8) (elCons (eVar 6) (elNil)))) (elCons (eTup (elCons (eVar 10) (elCons (eVar 7) (elNil)))) (elCons (eTup (elCons (eVar 9) (elCons (eVar 4) (elNil)))) (elCons (eTup (elCons (eVar 8) (elCons (eVar 5) (elNil)))) (elCons (eTup (elCons (eVar 10) (elCons (eVar 6) (elNil)))) (elCons (eTup (elCons (eVar 9) (elCons (eVar 7) (elNil)))) (elCons (eTup (elCons (eVar 8) (elCons (eVar 4) (elNil)))) (elCons (eTup (elCons (eVar 10) (elCons (eVar 5) (elNil)))) (elCons (eTup (elCons (eVar 9) (elCons (eVar 6) (elNil)))) (elCons (eTup (elCons (eVar 8) (elCons (eVar 7) (elNil)))) (elNil)))))))))))))),
  sAsg (tName 14) (eLst (elCons (eC (.int 1)) (elCons (eC (.int 6)) (elCons (eC (.int 26)) (elCons (eC (.int 106)) (elCons (eC (.int 426)) (elCons (eC (.int 1706)) (elCons (eC (.int 6826)) (elCons (eC (.int 27306)) (elCons (eC (.int 109226)) (elCons (eC (.int 436906)) (elCons (eC (.int 1747626)) (elCons (eC (.int 6990506)) (elNil)))))))))))))),
  sAsg (tName 18) (eB bDictT (elCons (eLc (cFor [15, 16, 17] (tTup 3 (tCons (tName 15) (tCons (tName 16) (tCons (tName 17) (tNil))))) (iVal (eCall 34 (elCons (eVar 12) (elCons (eVar 8) (elCons (eVar 7) (elNil)))))) (cElt (eTup (elCons (eTup (elCons (eVar 15) (elCons (eVar 16) (elNil)))) (elCons (eVar 17) (elNil))))))) (elNil))),
  sIf (eOr (eOp oNe (eLc (cFor [22] (tName 22) (iVal (eVar 13)) (cElt (eBm .dct mGet (eVar 18) (elCons (eVar 22) (elNil)))))) (eVar 14)) (eOr (eOp oInK (eTup (elCons (eVar 4) (elCons (eVar 8) (elNil)))) (eVar 18)) (eOp oNe (eBm .dct mGet (eVar 18) (elCons (eTup (elCons (eVar 10) (elCons (eCall 41 (elCons (eVar 3) (elCons (eVar 6) (elNil)))) (elNil)))) (elNil))) (eC (.int 105))))) (cSeq (sRet (eC (.bool false))) (cNil)) (cNil),
  sAsg (tTup 2 (tCons (tName 19) (tCons (tName 20) (tNil)))) (eCall 42 (elCons (eVar 12) (elCons (eVar 10) (elCons (eVar 7) (elNil))))),
  sIf (eOr (eOp oNe (eVar 19) (eC (.str [121, 101, 115]))) (eOr (eOp oNe (eB bLen (elCons (eVar 20) (elNil))) (eC (.int 106))) (eNot (eCall 37 (elCons (eVar 12) (elCons (eVar 10) (elCons (eVar 7) (elCons (eVar 20) (elNil))))))))) (cSeq (sRet (eC (.bool false))) (cNil)) (cNil)]
def lA3 : EL := elCons (eVar 1) (elCons (eLst (elCons (eTup (elCons (eVar 9) (elCons (eVar 4) (elCons (eC (.int 426)) (elNil))))) (elCons (eTup (elCons (eVar 8) (elCons (eVar 7) (elCons (eC (.int 6990506)) (elNil))))) (elCons (eTup (elCons (eVar 10) (elCons (eVar 5) (elCons (eC (.int 436906)) (elNil))))) (elNil))))) (elNil))
def lT3 : G.T := tTup 3 (tCons (tName 15) (tCons (tName 16) (tCons (tName 17) (tNil))))
def lC : C := cSeq (sRet (eOp oEq (eCall 42 (elCons (eVar 12) (elCons (eVar 15) (elCons (eVar 16) (elNil))))) (eTup (elCons (eC (.str [108, 111, 110, 103])) (elCons (eVar 17) (elNil)))))) (cNil)
theorem hb_0_0 (o0 o1 o2 o3 : G.Obj) (ns : List Int) (d y d2 y2 : Int) : outB (orcN tb 299) (seqL lBs cNil (orcN tb 299) [some (.scr ns), some (.ref 4), some (.str [102, 97, 98, 99, 100, 112, 113, 114]), some (.str [102]), .none, .none, .none, .none, .none, .none, .none, .none, .none, .none, .none, .none, .none, .none, .none, .none, .none, .none, .none] (Z7 o0 o1 o2 o3 d y)) lA3 lT3 lC (.lst [.int d2, .int y2]) = (some (.lst [.int d, .int y]), true) := by kernel_rfl
theorem hb_0_1 (o0 o1 o2 o3 : G.Obj) (ns : List Int) (d y d2 y2 : Int) : outB (orcN tb 299) (seqL lBs cNil (orcN tb 299) [some (.scr ns), some (.ref 4), some (.str [102, 97, 98, 99, 100, 112, 113, 114]), some (.str [102, 120]), .none, .none, .none, .none, .none, .none, .none, .none, .none, .none, .none, .none, .none, .none, .none, .none, .none, .none, .none] (Z7 o0 o1 o2 o3 d y)) lA3 lT3 lC (.lst [.int d2, .int y2]) = (some (.lst [.int d, .int y]), true) := by kernel_rfl
theorem hb_0_2 (o0 o1 o2 o3 : G.Obj) (ns : List Int) (d y d2 y2 : Int) : outB (orcN tb 299) (seqL lBs cNil (orcN tb 299) [some (.scr ns), some (.ref 4), some (.str [102, 97, 98, 99, 100, 112, 113, 114]), some (.str [102, 102, 102]), .none, .none, .none, .none, .none, .none, .none, .none, .none, .none, .none, .none, .none, .none, .none, .none, .none, .none, .none] (Z7 o0 o1 o2 o3 d y)) lA3 lT3 lC (.lst [.int d2, .int y2]) = (some (.lst [.int d, .int y]), true) := by kernel_rfl
theorem hb_1_0 (o0 o1 o2 o3 : G.Obj) (ns : List Int) (d y d2 y2 : Int) : outB (orcN tb 299) (seqL lBs cNil (orcN tb 299) [some (.scr ns), some (.ref 4), some (.str [122, 121, 120, 119, 118, 117, 116, 115]), some (.str [122]), .none, .none, .none, .none, .none, .none, .none, .none, .none, .none, .none, .none, .none, .none, .none, .none, .none, .none, .none] (Z7 o0 o1 o2 o3 d y)) lA3 lT3 lC (.lst [.int d2, .int y2]) = (some (.lst [.int d, .int y]), true) := by kernel_rfl
theorem hb_1_1 (o0 o1 o2 o3 : G.Obj) (ns : List Int) (d y d2 y2 : Int) : outB (orcN tb 299) (seqL lBs cNil (orcN tb 299) [some (.scr ns), some (.ref 4), some (.str [122, 121, 120, 119, 118, 117, 116, 115]), some (.str [122, 120]), .none, .none, .none, .none, .none, .none, .none, .none, .none, .none, .none, .none, .none, .none, .none, .none, .none, .none, .none] (Z7 o0 o1 o2 o3 d y)) lA3 lT3 lC (.lst [.int d2, .int y2]) = (some (.lst [.int d, .int y]), true) := by kernel_rfl
theorem hb_1_2 (o0 o1 o2 o3 : G.Obj) (ns : List Int) (d y d2 y2 : Int) : outB (orcN tb 299) (seqL lBs cNil (orcN tb 299) [some (.scr ns), some (.ref 4), some (.str [122, 121, 120, 119, 118, 117, 116, 115]), some (.str [122, 102, 102]), .none, .none, .none, .none, .none, .none, .none, .none, .none, .none, .none, .none, .none, .none, .none, .none, .none, .none, .none] (Z7 o0 o1 o2 o3 d y)) lA3 lT3 lC (.lst [.int d2, .int y2]) = (some (.lst [.int d, .int y]), true) := by kernel_rfl
theorem hb_2_0 (o0 o1 o2 o3 : G.Obj) (ns : List Int) (d y d2 y2 : Int) : outB (orcN tb 299) (seqL lBs cNil (orcN tb 299) [some (.scr ns), some (.ref 4), some (.str [98, 102, 97, 99, 101, 100, 103, 104]), some (.str [98]), .none, .none, .none, .none, .none, .none, .none, .none, .none, .none, .none, .none, .none, .none, .none, .none, .none, .none, .none] (Z7 o0 o1 o2 o3 d y)) lA3 lT3 lC (.lst [.int d2, .int y2]) = (some (.lst [.int d, .int y]), true) := by kernel_rfl
theorem hb_2_1 (o0 o1 o2 o3 : G.Obj) (ns : List Int) (d y d2 y2 : Int) : outB (orcN tb 299) (seqL lBs cNil (orcN tb 299) [some (.scr ns), some (.ref 4), some (.str [98, 102, 97, 99, 101, 100, 103, 104]), some (.str [98, 120]), .none, .none, .none, .none, .none, .none, .none, .none, .none, .none, .none, .none, .none, .none, .none, .none, .none, .none, .none] (Z7 o0 o1 o2 o3 d y)) lA3 lT3 lC (.lst [.int d2, .int y2]) = (some (.lst [.int d, .int y]), true) := by kernel_rfl
theorem hb_2_2 (o0 o1 o2 o3 : G.Obj) (ns : List Int) (d y d2 y2 : Int) : outB (orcN tb 299) (seqL lBs cNil (orcN tb 299) [some (.scr ns), some (.ref 4), some (.str [98, 102, 97, 99, 101, 100, 103, 104]), some (.str [98, 102, 102]), .none, .none, .none, .none, .none, .none, .none, .none, .none, .none, .none, .none, .none, .none, .none, .none, .none, .none, .none] (Z7 o0 o1 o2 o3 d y)) lA3 lT3 lC (.lst [.int d2, .int y2]) = (some (.lst [.int d, .int y]), true) := by kernel_rfl
theorem hb_3_0 (o0 o1 o2 o3 : G.Obj) (ns : List Int) (d y d2 y2 : Int) : outB (orcN tb 299) (seqL lBs cNil (orcN tb 299) [some (.scr ns), some (.ref 4), some (.str [104, 103, 102, 101, 100, 99, 98, 97]), some (.str [104]), .none, .none, .none, .none, .none, .none, .none, .none, .none, .none, .none, .none, .none, .none, .none, .none, .none, .none, .none] (Z7 o0 o1 o2 o3 d y)) lA3 lT3 lC (.lst [.int d2, .int y2]) = (some (.lst [.int d, .int y]), true) := by kernel_rfl
theorem hb_3_1 (o0 o1 o2 o3 : G.Obj) (ns : List Int) (d y d2 y2 : Int) : outB (orcN tb 299) (seqL lBs cNil (orcN tb 299) [some (.scr ns), some (.ref 4), some (.str [104, 103, 102, 101, 100, 99, 98, 97]), some (.str [104, 120]), .none, .none, .none, .none, .none, .none, .none, .none, .none, .none, .none, .none, .none, .none, .none, .none, .none, .none, .none] (Z7 o0 o1 o2 o3 d y)) lA3 lT3 lC (.lst [.int d2, .int y2]) = (some (.lst [.int d, .int y]), true) := by kernel_rfl
theorem hb_3_2 (o0 o1 o2 o3 : G.Obj) (ns : List Int) (d y d2 y2 : Int) : outB (orcN tb 299) (seqL lBs cNil (orcN tb 299) [some (.scr ns), some (.ref 4), some (.str [104, 103, 102, 101, 100, 99, 98, 97]), some (.str [104, 102, 102]), .none, .none, .none, .none, .none, .none, .none, .none, .none, .none, .none, .none, .none, .none, .none, .none, .none, .none, .none] (Z7 o0 o1 o2 o3 d y)) lA3 lT3 lC (.lst [.int d2, .int y2]) = (some (.lst [.int d, .int y]), true) := by kernel_rfl
end L19
set_option Elab.async false
set_option linter.all false
set_option maxRecDepth 100000
namespace G
open PySem PySem.Spec PyProof.Rows L2
/-! ### what stands for what -/
/-- the fixed things: the program, the world, the written part; the fields' names (so many), the classes' places, the exceptions' -/
structure Gx where
  P : Program
  w : World
  K : PySem.W.Frag
  nm : Nat → Str
  nf : Nat
  cl : Nat → Addr
  xc : Nat → Addr
  ex : Option (Addr × List (Nat × Val)) := .none
  ea : Option Addr := .none
/-- a field of a class's instances -/
structure FldOk (g : Gx) (c f : Nat) : Prop where
  lt : f < g.nf
  no : NoAttr g.K (g.cl c) (g.nm f)
def sOk (s : List Nat) : Prop := s.length ≤ sizeLine ∧ ∀ c ∈ s, c < 128
/-- a list that is read alone: frozen, or of the written part -/
def RoL (K : PySem.W.Frag) (H : Hp) (a : Addr) (xs : List V) : Prop := (∃ o, H a = some (.frz o (.lst xs))) ∨
  ∃ (o : PySem.Obj) (its : Array Value) (n : Nat), K.lookup a = some o ∧ o.cls = .type "list" ∧ o.dict = .none ∧ o.data = .seq its n ∧ its.size ≤ sizeLine ∧ Vals xs its.toList
theorem RoL.sq {K : PySem.W.Frag} {H : Hp} {a : Addr} {xs : List V} (h : RoL K H a xs) : SqL K H a xs := by
  rcases h with ⟨o, h⟩ | h
  · exact .inl (.inr ⟨o, h⟩)
  · exact .inr h
/-- the written part, and where the store's objects stand -/
structure Mp where
  K : PySem.W.Frag
  l : List Addr
  ea : Addr
def Mp.add (m : Mp) (a : Addr) : Mp := ⟨m.K, m.l ++ [a], m.ea⟩
mutual
/-- m: where the store's objects stand -/
inductive RV (m : Mp) (H : Hp) : Val → V → Prop
  | none : RV m H .none .non
  | bool (b : Bool) : RV m H (.bool b) (.bl b)
  | int (i : Int) : RV m H (.int i) (.int i)
  | str {s : List Nat} (h : sOk s) : RV m H (.str s) (.str ⟨s.toArray⟩)
  | tup {a : Addr} {xs : List V} {vs : List Val} (h : H a = some (.tup xs)) (r : RVs m H vs xs) : RV m H (.tup vs) (.ref a)
  | ref {n : Nat} {a : Addr} (h : m.l[n]? = some a) : RV m H (.ref n) (.ref a)
  | scr {ns : List Int} {a : Addr} (h : RoL m.K H a (ns.map V.int)) : RV m H (.scr ns) (.ref a)
inductive RVs (m : Mp) (H : Hp) : List Val → List V → Prop
  | nil : RVs m H [] []
  | cons {v : Val} {x : V} {vs : List Val} {xs : List V} (h : RV m H v x) (r : RVs m H vs xs) : RVs m H (v :: vs) (x :: xs)
end
abbrev RF (g : Gx) (m : Mp) (H : Hp) : List (Nat × Val) → List (Str × V) → Prop := Paired fun p q => q.1 = g.nm p.1 ∧ RV m H p.2 q.2
mutual
/-- a key that is a tuple -/
def kOf : Val → Option NestedKey
  | .none => some .none
  | .int i => some (.num i)
  | .str s => some (.text ⟨s.toArray⟩)
  | .tup vs => (kOfs vs).map .tup
  | .bool _ => .none
  | .ref _ => .none
  | .scr _ => .none
  | .err => .none
def kOfs : List Val → Option (List NestedKey)
  | [] => some []
  | v :: vs => match kOf v, kOfs vs with
    | some k, some ks => some (k :: ks)
    | _, _ => .none
end
/-- a key that is an int or a text -/
def kAt : Val → Option Key
  | .int i => some (.inl i)
  | .str s => some (.inr ⟨s.toArray⟩)
  | _ => .none
/-- a dict by its entries -/
def dO (a : Addr) (es : Array DictEntry) : HO := .ext fun h => (a == sysModules) = false ∧ ∃ o ep, h.get? a = some o ∧ o.ExactDict ∧ o.data = .dict es ep
/-- an entry: its value -/
def RU (m : Mp) (H : Hp) (v : Val) (u : Value) : Prop := ∃ x, RV m H v x ∧ RelV x u
inductive DR (g : Gx) (m : Mp) (H : Hp) (kvs : List (Val × Val)) (es : Array DictEntry) : Prop
  | tup (xs : List (NestedKey × Addr × Value)) (he : es.toList = xs.map (entryOfKey (nestedKind g.P g.w))) (hn : (xs.map (·.1)).Nodup)
      (hr : Paired (fun (kv : Val × Val) (x : NestedKey × Addr × Value) => kOf kv.1 = some x.1 ∧ isT kv.1 = true ∧ x.1.depth ≤ 8 ∧ RV m H kv.1 (.ref x.2.1) ∧ RU m H kv.2 x.2.2) kvs xs)
  | flat (xs : List (Key × Value)) (hk : KeysOf (mixKind g.P g.w) es) (he : Pairs (mixKind g.P g.w) es.toList xs) (hn : (xs.map (·.1)).Nodup)
      (hr : Paired (fun (kv : Val × Val) (x : Key × Value) => kAt kv.1 = some x.1 ∧ RV m H kv.1 (kV x.1) ∧ RU m H kv.2 x.2) kvs xs)
def RO (g : Gx) (m : Mp) (H : Hp) (a : Addr) : Obj → Prop
  | .lst xs => ∃ ys, H a = some (.lst ys) ∧ RVs m H xs ys
  | .dct kvs => kvs.length ≤ sizeLine ∧ ∃ es, H a = some (dO a es) ∧ DR g m H kvs es
  | .set xs => xs.Nodup ∧ H a = some (.set (fun i => decide (i ∈ xs)) xs.length)
  | .fz kvs => kvs.length ≤ sizeLine ∧ ∃ ob es, H a = some (.frz ob (dO a es)) ∧ DR g m H kvs es
  | .ins c fs => (Cls g.K (g.cl c) ∧ ∀ p ∈ fs, FldOk g c p.1) ∧ ∃ dx hs, H a = some (.ins (g.cl c) dx hs) ∧ RF g m H fs hs
/-- what is never written -/
def imm : HO → Bool
  | .tup _ => true
  | .frz _ _ => true
  | .own _ => true
  | _ => false
structure RS (g : Gx) (m : Mp) (S : Store) (H : Hp) : Prop where
  K : m.K = g.K
  len : m.l.length = S.nx
  lim : S.nx ≤ big
  inj : ∀ (i j : Nat) (a : Addr), m.l[i]? = some a → m.l[j]? = some a → i = j
  obj : ∀ (n : Nat) (o : Obj), S.get n = some o → ∃ a, m.l[n]? = some a ∧ RO g m H a o
  all : ∀ n, n < S.nx → ∃ o, S.get n = some o
  xf : ∀ a fs, g.ex = some (a, fs) → a ∉ m.l ∧ ∃ hs, H a = some (.xd hs) ∧ RF g m H fs hs
  he : ∀ a, g.ea = some a → m.ea = a
structure Ex0 (m : Mp) (H : Hp) (m' : Mp) (H' : Hp) : Prop where
  K : m'.K = m.K
  pre : m.l <+: m'.l
  keep : ∀ b o, H b = some o → imm o = true → H' b = some o
structure Ex (m : Mp) (H : Hp) (m' : Mp) (H' : Hp) : Prop where
  K : m'.K = m.K
  ea : m'.ea = m.ea
  pre : m.l <+: m'.l
  keep : ∀ b o, H b = some o → imm o = true ∨ b ∉ m.l → H' b = some o
  new : ∀ a ∈ m'.l, a ∉ m.l → H a = .none
theorem Ex.toEx0 {m m' : Mp} {H H' : Hp} (x : Ex m H m' H') : Ex0 m H m' H' := ⟨x.K, x.pre, fun b o h i => x.keep b o h (.inl i)⟩
section
variable {g : Gx} {m m' m'' : Mp} {H H' H'' : Hp} {a : Addr}
theorem Ex.rfl' : Ex m H m H := ⟨rfl, rfl, List.prefix_rfl, fun _ _ h _ => h, fun a h1 h2 => absurd h1 h2⟩
theorem Ex.trans (x : Ex m H m' H') (y : Ex m' H' m'' H'') : Ex m H m'' H'' := by
  refine ⟨y.K.trans x.K, y.ea.trans x.ea, x.pre.trans y.pre, fun b o h c => ?_, fun a h1 h2 => ?_⟩
  · refine y.keep b o (x.keep b o h c) ?_
    rcases c with c | c
    · exact .inl c
    · refine .inr fun q => ?_
      have := x.new b q c
      rw [h] at this; cases this
  · by_cases q : a ∈ m'.l
    · exact x.new a q h2
    · have := y.new a h1 q
      cases e : H a with
      | none => rfl
      | some o => rw [x.keep a o e (.inr h2)] at this; cases this
theorem Ex0.get (x : Ex0 m H m' H') {n : Nat} (h : m.l[n]? = some a) : m'.l[n]? = some a := by
  obtain ⟨t, e⟩ := x.pre
  rw [← e]
  exact List.getElem?_append_left (List.getElem?_eq_some_iff.mp h).1 ▸ h
theorem RoL.mono0 (x : Ex0 m H m' H') {xs : List V} (h : RoL m.K H a xs) : RoL m'.K H' a xs := by
  rcases h with ⟨o, h⟩ | h
  · exact .inl ⟨o, x.keep _ _ h rfl⟩
  · rw [x.K]; exact .inr h
theorem Ex0.tup (x : Ex0 m H m' H') {xs : List V} (h : H a = some (.tup xs)) : H' a = some (.tup xs) := x.keep a _ h rfl
mutual
theorem RV.mono0 (x : Ex0 m H m' H') : ∀ {v : Val} {y : V}, RV m H v y → RV m' H' v y
  | _, _, .none => .none
  | _, _, .bool b => .bool b
  | _, _, .int i => .int i
  | _, _, .str h => .str h
  | _, _, .tup h r => .tup (x.tup h) (RVs.mono0 x r)
  | _, _, .ref h => .ref (x.get h)
  | _, _, .scr h => .scr (RoL.mono0 x h)
theorem RVs.mono0 (x : Ex0 m H m' H') : ∀ {v : List Val} {y : List V}, RVs m H v y → RVs m' H' v y
  | _, _, .nil => .nil
  | _, _, .cons h r => .cons (RV.mono0 x h) (RVs.mono0 x r)
end
theorem Ex.get (x : Ex m H m' H') {n : Nat} (h : m.l[n]? = some a) : m'.l[n]? = some a := x.toEx0.get h
theorem Ex.tup (x : Ex m H m' H') {xs : List V} (h : H a = some (.tup xs)) : H' a = some (.tup xs) := x.toEx0.tup h
theorem RV.mono (x : Ex m H m' H') {v : Val} {y : V} (r : RV m H v y) : RV m' H' v y := r.mono0 x.toEx0
theorem RVs.mono (x : Ex m H m' H') {v : List Val} {y : List V} (r : RVs m H v y) : RVs m' H' v y := r.mono0 x.toEx0
theorem RVs.length : ∀ {v : List Val} {y : List V}, RVs m H v y → v.length = y.length
  | _, _, .nil => rfl
  | _, _, .cons _ r => congrArg (· + 1) (RVs.length r)
theorem RVs.get : ∀ {vs : List Val} {ys : List V} {i : Nat} {v : Val}, RVs m H vs ys → vs[i]? = some v → ∃ y, ys[i]? = some y ∧ RV m H v y
  | _, _, _, _, .nil, e => by simp at e
  | _, _, 0, _, .cons h _, e => by simp at e; subst e; exact ⟨_, rfl, h⟩
  | _, _, i + 1, v, .cons _ r, e => by
    obtain ⟨y, h1, h2⟩ := RVs.get (i := i) (v := v) r (by simpa using e)
    exact ⟨y, by simpa using h1, h2⟩
theorem RVs.app : ∀ {v w : List Val} {y z : List V}, RVs m H v y → RVs m H w z → RVs m H (v ++ w) (y ++ z)
  | _, _, _, _, .nil, s => s
  | _, _, _, _, .cons h r, s => .cons h (RVs.app r s)
theorem RVs.take : ∀ {v : List Val} {y : List V} (n : Nat), RVs m H v y → RVs m H (v.take n) (y.take n)
  | _, _, 0, _ => by simp; exact .nil
  | _, _, _ + 1, .nil => .nil
  | _, _, n + 1, .cons h r => .cons h (RVs.take n r)
theorem RVs.drop : ∀ {v : List Val} {y : List V} (n : Nat), RVs m H v y → RVs m H (v.drop n) (y.drop n)
  | _, _, 0, r => r
  | _, _, _ + 1, .nil => .nil
  | _, _, n + 1, .cons h r => RVs.drop n r
theorem RVs.set {v : Val} {x : V} (q : RV m H v x) : ∀ {vs : List Val} {ys : List V} (i : Nat), RVs m H vs ys → RVs m H (vs.set i v) (ys.set i x)
  | _, _, _, .nil => .nil
  | _, _, 0, .cons _ t => .cons q t
  | _, _, i + 1, .cons h t => .cons h (RVs.set q i t)
theorem RVs.rev {v : List Val} {y : List V} (r : RVs m H v y) : RVs m H v.reverse y.reverse := by
  induction v generalizing y with
  | nil => cases r; exact .nil
  | cons a v ih =>
    cases r with
    | cons h r => simp only [List.reverse_cons]; exact RVs.app (ih r) (.cons h .nil)
theorem RVs.erase : ∀ {v : List Val} {y : List V} (n : Nat), RVs m H v y → RVs m H (v.eraseIdx n) (y.eraseIdx n)
  | _, _, _, .nil => .nil
  | _, _, 0, .cons _ r => r
  | _, _, n + 1, .cons h r => .cons h (RVs.erase n r)
theorem RVs.ints : ∀ {ns : List Int} {ys : List V}, RVs m H (ns.map Val.int) ys → ys = ns.map V.int
  | [], _, .nil => rfl
  | n :: ns, _, .cons h r => by cases h; rw [RVs.ints r]; rfl
theorem RVs.ofInts : ∀ (ns : List Int), RVs m H (ns.map Val.int) (ns.map V.int)
  | [] => .nil
  | n :: ns => .cons (.int n) (RVs.ofInts ns)
theorem RF.mono0 (x : Ex0 m H m' H') {fs : List (Nat × Val)} {hs : List (Str × V)} (r : RF g m H fs hs) : RF g m' H' fs hs := Paired.mapP r fun _ _ q => ⟨q.1, q.2.mono0 x⟩
theorem RU.mono0 (x : Ex0 m H m' H') {v : Val} {u : Value} (r : RU m H v u) : RU m' H' v u := let ⟨y, a, b⟩ := r; ⟨y, a.mono0 x, b⟩
theorem DR.mono0 (x : Ex0 m H m' H') {kvs : List (Val × Val)} {es : Array DictEntry} (r : DR g m H kvs es) : DR g m' H' kvs es := by
  cases r with
  | tup xs he hn hr => exact .tup xs he hn (Paired.mapP hr fun _ _ q => ⟨q.1, q.2.1, q.2.2.1, q.2.2.2.1.mono0 x, q.2.2.2.2.mono0 x⟩)
  | flat xs hk he hn hr => exact .flat xs hk he hn (Paired.mapP hr fun _ _ q => ⟨q.1, q.2.1.mono0 x, q.2.2.mono0 x⟩)
/-- an object that was not touched -/
theorem RO.mono0 (x : Ex0 m H m' H') (e : ∀ o, H a = some o → H' a = some o) {o : Obj} (r : RO g m H a o) : RO g m' H' a o := by
  cases o with
  | lst xs => obtain ⟨ys, h, q⟩ := r; exact ⟨ys, e _ h, q.mono0 x⟩
  | dct kvs => obtain ⟨z, es, h, q⟩ := r; exact ⟨z, es, e _ h, q.mono0 x⟩
  | set xs => exact ⟨r.1, e _ r.2⟩
  | fz kvs => obtain ⟨z, ob, es, h, q⟩ := r; exact ⟨z, ob, es, e _ h, q.mono0 x⟩
  | ins c fs => obtain ⟨f, dx, hs, h, q⟩ := r; exact ⟨f, dx, hs, e _ h, RF.mono0 x q⟩
theorem RF.mono (x : Ex m H m' H') {fs : List (Nat × Val)} {hs : List (Str × V)} (r : RF g m H fs hs) : RF g m' H' fs hs := RF.mono0 x.toEx0 r
theorem RO.mono (x : Ex m H m' H') (e : ∀ o, H a = some o → H' a = some o) {o : Obj} (r : RO g m H a o) : RO g m' H' a o := RO.mono0 x.toEx0 e r
theorem RS.lt {S : Store} (r : RS g m S H) {n : Nat} {o : Obj} (h : S.get n = some o) : n < S.nx := by
  obtain ⟨a, e, _⟩ := r.obj n o h
  rw [← r.len]; exact (List.getElem?_eq_some_iff.mp e).1
theorem RS.lim' {S : Store} (r : RS g m S H) {n : Nat} {o : Obj} (h : S.get n = some o) : n < big := Nat.lt_of_lt_of_le (r.lt h) r.lim
theorem RS.fresh {S : Store} (r : RS g m S H) : S.get S.nx = .none := by
  cases e : S.get S.nx with
  | none => rfl
  | some o => exact absurd (r.lt e) (Nat.lt_irrefl _)
/-- the heap has grown elsewhere (tuples, things of others) -/
theorem RS.grow {S : Store} (r : RS g m S H) (x : Ex m H m H') (e : ∀ (n : Nat) (a : Addr) (o : HO), m.l[n]? = some a → H a = some o → H' a = some o) : RS g m S H' := by
  refine ⟨r.K, r.len, r.lim, r.inj, fun n o h => ?_, r.all, fun a fs h => let ⟨h1, hs, h2, h3⟩ := r.xf a fs h; ⟨h1, hs, x.keep _ _ h2 (.inr h1), RF.mono x h3⟩, r.he⟩
  obtain ⟨a, q, ro⟩ := r.obj n o h
  exact ⟨a, q, RO.mono x (fun o h => e n a o q h) ro⟩
/-- a new tuple, or a thing of others, at a free place -/
theorem Ex.upd {o : HO} (h : H a = .none) : Ex m H m (L2.upd H a o) :=
  ⟨rfl, rfl, List.prefix_rfl, fun b u q _ => by rw [upd_ne (ne_of_none q h)]; exact q, fun b h1 h2 => absurd h1 h2⟩
theorem RS.upd {S : Store} {o : HO} (r : RS g m S H) (h : H a = .none) : RS g m S (L2.upd H a o) :=
  r.grow (Ex.upd h) fun n b u _ q => by rw [upd_ne (ne_of_none q h)]; exact q
/-- what an object of the store shows of the heap: it is there -/
theorem RO.mut {o : Obj} (r : RO g m H a o) (nf : isFz o = false) : ∃ u, H a = some u ∧ imm u = false := by
  cases o with
  | lst xs => obtain ⟨ys, h, q⟩ := r; exact ⟨_, h, rfl⟩
  | dct kvs => obtain ⟨z, es, h, q⟩ := r; exact ⟨_, h, rfl⟩
  | set xs => exact ⟨_, r.2, rfl⟩
  | fz kvs => cases nf
  | ins c fs => obtain ⟨f, dx, hs, h, q⟩ := r; exact ⟨_, h, rfl⟩
theorem RO.there {o : Obj} (r : RO g m H a o) : ∃ u, H a = some u := by
  cases o with
  | lst xs => obtain ⟨ys, h, q⟩ := r; exact ⟨_, h⟩
  | dct kvs => obtain ⟨z, es, h, q⟩ := r; exact ⟨_, h⟩
  | set xs => exact ⟨_, r.2⟩
  | fz kvs => obtain ⟨z, ob, es, h, q⟩ := r; exact ⟨_, h⟩
  | ins c fs => obtain ⟨f, dx, hs, h, q⟩ := r; exact ⟨_, h⟩
theorem RS.there {S : Store} (r : RS g m S H) (h : a ∈ m.l) : ∃ u, H a = some u := by
  obtain ⟨i, hi⟩ := List.getElem?_of_mem h
  obtain ⟨o, ho⟩ := r.all i (by rw [← r.len]; exact (List.getElem?_eq_some_iff.mp hi).1)
  obtain ⟨b, hb, ro⟩ := r.obj i o ho
  rw [hi] at hb; cases hb
  exact ro.there
theorem RS.notIn {S : Store} (r : RS g m S H) (h : H a = .none) : a ∉ m.l := fun q => by
  obtain ⟨u, e⟩ := r.there q
  rw [h] at e; cases e
theorem Ex.add {u : HO} (h : H a = .none) : Ex m H (m.add a) (L2.upd H a u) :=
  ⟨rfl, rfl, List.prefix_append _ _, fun b v q _ => by rw [upd_ne (ne_of_none q h)]; exact q, fun b h1 h2 => by
    rcases List.mem_append.mp h1 with q | q
    · exact absurd q h2
    · rw [List.mem_singleton.mp q]; exact h⟩
theorem RO.noxd {o : Obj} (r : RO g m H a o) {hs : List (Str × V)} : H a ≠ some (.xd hs) := fun e => by
  cases o with
  | lst xs => obtain ⟨ys, h, q⟩ := r; rw [h] at e; cases e
  | dct kvs => obtain ⟨z, es, h, q⟩ := r; rw [h] at e; cases e
  | set xs => rw [r.2] at e; cases e
  | fz kvs => obtain ⟨z, ob, es, h, q⟩ := r; rw [h] at e; cases e
  | ins c fs => obtain ⟨f, dx, hs, h, q⟩ := r; rw [h] at e; cases e
/-- an object that stands comes to the store -/
theorem RS.newAt {S : Store} {o : Obj} (r : RS g m S H) (na : a ∉ m.l) (hl : S.nx < big) (ho : RO g (m.add a) H a o) : RS g (m.add a) (S.new o) H := by
  have x : Ex0 m H (m.add a) H := ⟨rfl, List.prefix_append _ _, fun _ _ q _ => q⟩
  have gn : ∀ n, (S.new o).get n = if n = S.nx then some o else S.get n := fun n => Store.get_new S n o hl
  have nn : m.l.length = S.nx := r.len
  have old : ∀ {i : Nat} {b : Addr}, i ≠ S.nx → (m.add a).l[i]? = some b → m.l[i]? = some b := fun {i b} ne hi => by
    have h1 := (List.getElem?_eq_some_iff.mp hi).1
    have h2 : (m.add a).l.length = S.nx + 1 := by simp [Mp.add, nn]
    have h3 : (m.add a).l = m.l ++ [a] := rfl
    rw [h3, List.getElem?_append_left (by omega)] at hi
    exact hi
  have atn : (m.add a).l[S.nx]? = some a := by
    have h3 : (m.add a).l = m.l ++ [a] := rfl
    rw [h3, ← nn]; simp
  refine ⟨r.K, by simp [nn, Store.new, Mp.add], hl, fun i j b hi hj => ?_, fun n p hp => ?_, fun n hn => ?_, fun b fs hb => ?_, r.he⟩
  · by_cases ei : i = S.nx
    · by_cases ej : j = S.nx
      · exact ei.trans ej.symm
      · rw [ei, atn] at hi; cases hi
        exact absurd (List.mem_of_getElem? (old ej hj)) na
    · by_cases ej : j = S.nx
      · rw [ej, atn] at hj; cases hj
        exact absurd (List.mem_of_getElem? (old ei hi)) na
      · exact r.inj i j b (old ei hi) (old ej hj)
  · rw [gn] at hp
    by_cases e : n = S.nx
    · rw [if_pos e] at hp
      cases hp
      exact ⟨a, by rw [e]; exact atn, ho⟩
    · rw [if_neg e] at hp
      obtain ⟨b, hb, ro⟩ := r.obj n p hp
      exact ⟨b, x.get hb, RO.mono0 x (fun v hv => hv) ro⟩
  · rw [gn]
    by_cases e : n = S.nx
    · exact ⟨o, if_pos e⟩
    · rw [if_neg e]
      have : n < S.nx + 1 := hn
      exact r.all n (by omega)
  · obtain ⟨h1, hs, h2, h3⟩ := r.xf b fs hb
    refine ⟨fun q => ?_, hs, h2, RF.mono0 x h3⟩
    rcases List.mem_append.mp q with q | q
    · exact h1 q
    · rw [List.mem_singleton.mp q] at h2
      exact RO.noxd ho h2
/-- a new object of the store -/
theorem RS.new {S : Store} {o : Obj} {u : HO} (r : RS g m S H) (h : H a = .none) (hl : S.nx < big)
    (ho : RO g (m.add a) (L2.upd H a u) a o) : RS g (m.add a) (S.new o) (L2.upd H a u) := (r.upd h).newAt (r.notIn h) hl ho
theorem RS.exPut {S : Store} {n : Nat} {p : Obj} {u : HO} (r : RS g m S H) (hp : S.get n = some p) (hm : m.l[n]? = some a) (nf : isFz p = false := by rfl) : Ex m H m (L2.upd H a u) := by
  have am := List.mem_of_getElem? hm
  obtain ⟨v, hv, iv⟩ : ∃ v, H a = some v ∧ imm v = false := by
    obtain ⟨b, hb, ro⟩ := r.obj n p hp
    rw [hm] at hb; cases hb
    exact ro.mut nf
  refine ⟨rfl, rfl, List.prefix_rfl, fun b w q c => ?_, fun b h1 h2 => absurd h1 h2⟩
  have : b ≠ a := by
    rintro rfl
    rw [hv] at q; cases q
    rcases c with c | c
    · rw [iv] at c; cases c
    · exact c am
  rw [upd_ne this]; exact q
/-- an object of the store is written -/
theorem RS.put {S : Store} {n : Nat} {o p : Obj} {u : HO} (r : RS g m S H) (hp : S.get n = some p) (hm : m.l[n]? = some a)
    (ho : RO g m (L2.upd H a u) a o) (nf : isFz p = false := by rfl) : RS g m (S.put n o) (L2.upd H a u) := by
  have x : Ex m H m (L2.upd H a u) := r.exPut hp hm nf
  have gn : ∀ k, (S.put n o).get k = if k = n then some o else S.get k := fun k => Store.get_put S n k o (r.lim' hp)
  refine ⟨r.K, r.len, r.lim, r.inj, fun k q hq => ?_, fun k hk => ?_, (fun b fs h => let ⟨h1, hs, h2, h3⟩ := r.xf b fs h; ⟨h1, hs, x.keep _ _ h2 (.inr h1), RF.mono x h3⟩), r.he⟩
  · rw [gn] at hq
    by_cases e : k = n
    · rw [if_pos e] at hq
      cases hq
      exact ⟨a, by rw [e]; exact hm, ho⟩
    · rw [if_neg e] at hq
      obtain ⟨b, hb, ro⟩ := r.obj k q hq
      refine ⟨b, hb, RO.mono x (fun w hw => ?_) ro⟩
      have : b ≠ a := by
        rintro rfl
        exact e (r.inj k n b hb hm)
      rw [upd_ne this]; exact hw
  · rw [gn]
    by_cases e : k = n
    · exact ⟨o, if_pos e⟩
    · rw [if_neg e]; exact r.all k hk
end
/-! ### what is wanted of an answer -/
/-- an exception's own dict -/
def XR (g : Gx) (m' : Mp) (H H' : Hp) (fs : List (Nat × Val)) (d : Option Addr) : Prop :=
  (fs = [] ∧ d = .none) ∨ ∃ a hs, d = some a ∧ a ∉ m'.l ∧ H a = .none ∧ H' a = some (.xd hs) ∧ RF g m' H' fs hs ∧ ∀ p ∈ fs, p.1 < g.nf
/-- r, found from the state m, H, is what Q wants; what is raised is what W wants -/
def PostG {α β : Type} (g : Gx) (rel : Mp → Hp → α → β → Prop) (m : Mp) (H : Hp) (Q : β → Hp → Prop) (W : XK) : R α → Prop
  | .ok v S => ∀ m' H' x, Ex m H m' H' → RS g m' S H' → rel m' H' v x → Q x H'
  | .exc c fs S => ∀ m' H' d, Ex m H m' H' → RS g m' S H' → XR g m' H H' fs d → W (.ref (g.xc c)) d H'
  | .stuck _ => False
theorem XR.base {g : Gx} {m m1 m' : Mp} {H H1 H' : Hp} {fs : List (Nat × Val)} {d : Option Addr} (x : Ex m H m1 H1) (y : Ex m1 H1 m' H') (h : XR g m' H1 H' fs d) : XR g m' H H' fs d := by
  rcases h with h | ⟨a, hs, h1, h2, h3, h4, h5⟩
  · exact .inl h
  · refine .inr ⟨a, hs, h1, h2, ?_, h4, h5⟩
    cases e : H a with
    | none => rfl
    | some o =>
      have := x.keep a o e (.inr fun q => h2 (y.pre.subset (x.pre.subset q)))
      rw [h3] at this; cases this
section
variable {α β γ δ : Type} {g : Gx} {rel : Mp → Hp → α → β → Prop} {rel' : Mp → Hp → γ → δ → Prop} {m m1 : Mp} {H H1 : Hp} {Q : β → Hp → Prop} {W : XK}
theorem PostG.base {r : R α} (x : Ex m H m1 H1) (p : PostG g rel m H Q W r) : PostG g rel m1 H1 Q W r := by
  cases r with
  | ok v S => exact fun m' H' y e rs q => p m' H' y (x.trans e) rs q
  | exc c fs S => exact fun m' H' d e rs q => p m' H' d (x.trans e) rs (q.base x e)
  | stuck w => exact p
/-- the first part of a code, the rest behind it -/
theorem PostG.bind {r : R γ} {k : γ → Store → R α} (p : PostG g rel m H Q W (r.bind k)) :
    PostG g rel' m H (fun y H1 => ∃ m1 v S1, Ex m H m1 H1 ∧ RS g m1 S1 H1 ∧ rel' m1 H1 v y ∧ PostG g rel m1 H1 Q W (k v S1)) W r := by
  cases r with
  | ok v S => exact fun m' H' y e rs q => ⟨m', v, S, e, rs, q, p.base e⟩
  | exc c fs S => exact p
  | stuck w => exact p
end
end G
set_option Elab.async false
set_option linter.all false
set_option maxRecDepth 100000
namespace G
open PySem PySem.Spec L2
open PyProof.Rows hiding St
/-! ### the judgements: a piece of syntax and its code -/
structure RE (m : Mp) (H : Hp) (ρ : G.Env) (σ : St) : Prop where
  len : ρ.length = σ.length
  at_ : ∀ (i : Nat) (v : Val), ρ[i]? = some (some v) → ∃ x, σ[i]? = some (some x) ∧ (RV m H v x ∨ (v = .err ∧ x = .ref m.ea))
theorem RE.mono0 {m m' : Mp} {H H' : Hp} {ρ : G.Env} {σ : St} (x : Ex0 m H m' H') (e : m'.ea = m.ea) (r : RE m H ρ σ) : RE m' H' ρ σ :=
  ⟨r.len, fun i v h => let ⟨y, a, b⟩ := r.at_ i v h; ⟨y, a, b.imp (·.mono0 x) fun q => ⟨q.1, by rw [e]; exact q.2⟩⟩⟩
theorem RE.mono {m m' : Mp} {H H' : Hp} {ρ : G.Env} {σ : St} (x : Ex m H m' H') (r : RE m H ρ σ) : RE m' H' ρ σ := r.mono0 x.toEx0 x.ea
theorem RE.get {m : Mp} {H : Hp} {ρ : G.Env} {σ : St} (r : RE m H ρ σ) {i : Nat} {v : Val} (h : ρ[i]? = some (some v)) (ne : v ≠ .err) : ∃ x, σ[i]? = some (some x) ∧ RV m H v x :=
  let ⟨y, a, b⟩ := r.at_ i v h; ⟨y, a, b.resolve_right fun q => ne q.1⟩
theorem RE.setG {m : Mp} {H : Hp} {ρ : G.Env} {σ : St} {v : Val} {x : V} (r : RE m H ρ σ) (i : Nat) (q : RV m H v x ∨ (v = .err ∧ x = .ref m.ea)) : RE m H (ρ.set i (some v)) (σ.set i (some x)) := by
  refine ⟨by simpa using r.len, fun j w h => ?_⟩
  by_cases e : j = i
  · subst e
    have hj : j < ρ.length := by
      have := (List.getElem?_eq_some_iff.mp h).1
      simpa using this
    rw [List.getElem?_set_self hj] at h
    cases h
    exact ⟨x, List.getElem?_set_self (r.len ▸ hj), q⟩
  · rw [List.getElem?_set_ne (Ne.symm e)] at h ⊢
    exact r.at_ j w h
theorem RE.set {m : Mp} {H : Hp} {ρ : G.Env} {σ : St} {v : Val} {x : V} (r : RE m H ρ σ) (i : Nat) (q : RV m H v x) : RE m H (ρ.set i (some v)) (σ.set i (some x)) := r.setG i (.inl q)
theorem RE.unset {m : Mp} {H : Hp} {ρ : G.Env} {σ : St} (r : RE m H ρ σ) (i : Nat) (o : Option V) : RE m H (ρ.set i .none) (σ.set i o) := by
  refine ⟨by simpa using r.len, fun j w h => ?_⟩
  by_cases e : j = i
  · subst e
    have hj : j < ρ.length := by
      have := (List.getElem?_eq_some_iff.mp h).1
      simpa using this
    rw [List.getElem?_set_self hj] at h
    cases h
  · rw [List.getElem?_set_ne (Ne.symm e)] at h ⊢
    exact r.at_ j w h
theorem RE.wipe {m : Mp} {H : Hp} {ρ : G.Env} {σ : St} (r : RE m H ρ σ) : ∀ vs : List Nat, RE m H (G.wipe ρ vs) (L2.wipe σ vs)
  | [] => r
  | v :: vs => (r.wipe vs).unset v .none
/-- the wish of exceptions at the slots σ -/
abbrev atS (W : WX) (σ : St) : XK := fun cls d H => W cls d σ H
def tM (g : Gx) (o : Orc) (W : WX) (c : G.E) : TE := fun σ H Q => ∃ m ρ S, RE m H ρ σ ∧ RS g m S H ∧ PostG g RV m H Q (atS W σ) (c o ρ S)
def tL (g : Gx) (o : Orc) (W : WX) (c : G.EL) : TA := fun σ H Q => ∃ m ρ S, RE m H ρ σ ∧ RS g m S H ∧ PostG g RVs m H Q (atS W σ) (c o ρ S)
/-- a test -/
def tst (v : Val) (S : Store) : R Bool := match truthy S v with
  | some b => .ok b S
  | .none => .stuck 900
abbrev REq {α : Type} (_ : Mp) (_ : Hp) (a b : α) : Prop := a = b
def tT (g : Gx) (o : Orc) (W : WX) (c : G.E) : TT := fun σ H Q => ∃ m ρ S, RE m H ρ σ ∧ RS g m S H ∧ PostG g REq m H Q (atS W σ) ((c o ρ S).bind tst)
abbrev Wno : WX := fun _ _ _ _ => False
abbrev Eno : XK := fun _ _ _ => False
/-- a target: nothing is raised there -/
def tE (g : Gx) (o : Orc) (t : G.T) : TG := fun x σ H Q => ∃ m ρ S v, RE m H ρ σ ∧ RS g m S H ∧ RV m H v x ∧ PostG g RE m H Q Eno (t v o ρ S)
def tEs (g : Gx) (o : Orc) (t : G.TL) : TGs := fun xs σ H Q => ∃ m ρ S vs, RE m H ρ σ ∧ RS g m S H ∧ RVs m H vs xs ∧ PostG g RE m H Q Eno (t vs o ρ S)
/-- a statement's answer -/
def PostS (g : Gx) (m : Mp) (H : Hp) (D : Ends) (W : WX) : SR → Prop
  | .nx ρ S => ∀ m' H' σ', Ex m H m' H' → RS g m' S H' → RE m' H' ρ σ' → D.nx σ' H'
  | .bk ρ S => ∀ m' H' σ', Ex m H m' H' → RS g m' S H' → RE m' H' ρ σ' → D.bk σ' H'
  | .rt v S => ∀ m' H' x, Ex m H m' H' → RS g m' S H' → RV m' H' v x → D.rt x H'
  | .exc c fs ρ S => ∀ m' H' σ' d, Ex m H m' H' → RS g m' S H' → RE m' H' ρ σ' → XR g m' H H' fs d → W (.ref (g.xc c)) d σ' H'
  | .stuck _ => False
theorem PostS.base {g : Gx} {m m1 : Mp} {H H1 : Hp} {D : Ends} {W : WX} {r : SR} (x : Ex m H m1 H1) (p : PostS g m H D W r) : PostS g m1 H1 D W r := by
  cases r with
  | nx ρ S => exact fun m' H' y e rs q => p m' H' y (x.trans e) rs q
  | bk ρ S => exact fun m' H' y e rs q => p m' H' y (x.trans e) rs q
  | rt v S => exact fun m' H' y e rs q => p m' H' y (x.trans e) rs q
  | exc c fs ρ S => exact fun m' H' σ' d e rs q z => p m' H' σ' d (x.trans e) rs q (z.base x e)
  | stuck w => exact p
def tS (g : Gx) (o : Orc) (W : WX) (c : G.C) : TS := fun D σ H => ∃ m ρ S, RE m H ρ σ ∧ RS g m S H ∧ PostS g m H D W (c o ρ S)
/-- an expression's part of a statement -/
theorem PostS.to {α β : Type} {g : Gx} {rel : Mp → Hp → α → β → Prop} {m : Mp} {H : Hp} {D : Ends} {W : WX} {r : R α} {ρ : G.Env} {σ : St} {k : α → Store → SR} (re : RE m H ρ σ) (p : PostS g m H D W (r.to ρ k)) :
    PostG g rel m H (fun y H1 => ∃ m1 v S1, Ex m H m1 H1 ∧ RS g m1 S1 H1 ∧ rel m1 H1 v y ∧ PostS g m1 H1 D W (k v S1)) (atS W σ) r := by
  cases r with
  | ok v S => exact fun m' H' y e rs q => ⟨m', v, S, e, rs, q, p.base e⟩
  | exc c fs S => exact fun m' H' d e rs q => p m' H' σ d e rs (re.mono e) q
  | stuck w => exact p
section
variable {X : Cx} {g : Gx} {o : Orc} {W : WX} {α β : Type} {rel : Mp → Hp → α → β → Prop} {pins : List (Addr × PySem.Obj)} {s : Shared} {σ : St} {ρ : G.Env} {m : Mp} {H : Hp} {S : Store}
/-- the first part of an expression, then what follows -/
theorem thnE {e : PySem.Expr} {c : G.E} {k : Val → Store → R α} {Q : β → Hp → Prop} {P : Value → Shared → Prop} (h : PE X e (tM g o W c)) (I : Inv X pins σ H s) (re : RE m H ρ σ) (rs : RS g m S H)
    (p : PostG g rel m H Q (atS W σ) ((c o ρ S).bind k))
    (hk : ∀ u s1 v S1 m1 H1 x, Inv X pins σ H1 s1 → RelV x u → RV m1 H1 v x → RS g m1 S1 H1 → RE m1 H1 ρ σ → Ex m H m1 H1 → PostG g rel m1 H1 Q (atS W σ) (k v S1) → P u s1) :
    wpAny (model X.prog X.w) X.A (eval e X.env) P X.xe s :=
  thn (h.run pins s σ H _ I ⟨m, ρ, S, re, rs, p.bind⟩) fun u s1 ⟨x, H1, I1, r1, m1, v, S1, e1, rs1, rv, p1⟩ => hk u s1 v S1 m1 H1 x I1 r1 rv rs1 (re.mono e1) e1 p1
theorem thnL {es : List PySem.Expr} {c : G.EL} {k : List Val → Store → R α} {Q : β → Hp → Prop} {P : List Value → Shared → Prop} {pos : Pos} (h : PA X es (tL g o W c)) (I : Inv X pins σ H s) (re : RE m H ρ σ) (rs : RS g m S H)
    (p : PostG g rel m H Q (atS W σ) ((c o ρ S).bind k))
    (hk : ∀ us s1 vs S1 m1 H1 xs, Inv X pins σ H1 s1 → Vals xs us → RVs m1 H1 vs xs → RS g m1 S1 H1 → RE m1 H1 ρ σ → Ex m H m1 H1 → PostG g rel m1 H1 Q (atS W σ) (k vs S1) → P us s1) :
    wpAny (model X.prog X.w) X.A (spliced (backTo pos (starEach es X.env))) P X.xe s :=
  thn (h.run pos pins s σ H _ I ⟨m, ρ, S, re, rs, p.bind⟩) fun u s1 ⟨x, H1, I1, r1, m1, v, S1, e1, rs1, rv, p1⟩ => hk u s1 v S1 m1 H1 x I1 r1 rv rs1 (re.mono e1) e1 p1
theorem thnT {e : PySem.Expr} {c : G.E} {k : Bool → Store → R α} {Q : β → Hp → Prop} {P : Bool → Shared → Prop} (h : PT X e (tT g o W c)) (I : Inv X pins σ H s) (re : RE m H ρ σ) (rs : RS g m S H)
    (p : PostG g rel m H Q (atS W σ) (((c o ρ S).bind tst).bind k))
    (hk : ∀ b s1 S1 m1 H1, Inv X pins σ H1 s1 → RS g m1 S1 H1 → RE m1 H1 ρ σ → Ex m H m1 H1 → PostG g rel m1 H1 Q (atS W σ) (k b S1) → P b s1) :
    wpAny (model X.prog X.w) X.A (isTrue e X.env (eval e X.env)) P X.xe s :=
  thn (h.run pins s σ H _ I ⟨m, ρ, S, re, rs, p.bind⟩) fun u s1 ⟨H1, I1, m1, v, S1, e1, rs1, rv, p1⟩ => by
    cases rv
    exact hk _ s1 S1 m1 H1 I1 rs1 (re.mono e1) e1 p1
theorem bindA {α β γ : Type} (r : R α) (k : α → Store → R β) (l : β → Store → R γ) : (r.bind k).bind l = r.bind fun v S => (k v S).bind l := by
  cases r <;> rfl
theorem bindOk {α : Type} (r : R α) : r.bind (fun v S => .ok v S) = r := by cases r <;> rfl
/-! ### weaker readings -/
theorem PostG.no {r : R α} {Q : β → Hp → Prop} {E : XK} (p : PostG g rel m H Q E (noExc r)) : PostG g rel m H Q Eno r := by
  cases r with
  | ok v S => exact p
  | exc c fs S => exact p.elim
  | stuck w => exact p
theorem PE.imp {e : PySem.Expr} {t t' : TE} (h : PE X e t) (hi : ∀ σ H Q, t' σ H Q → t σ H Q) : PE X e t' := ⟨fun pins s σ H Q I q => h.run pins s σ H Q I (hi σ H Q q)⟩
theorem PT.imp {e : PySem.Expr} {t t' : TT} (h : PT X e t) (hi : ∀ σ H Q, t' σ H Q → t σ H Q) : PT X e t' := ⟨fun pins s σ H Q I q => h.run pins s σ H Q I (hi σ H Q q)⟩
theorem PA.imp {e : List PySem.Expr} {t t' : TA} (h : PA X e t) (hi : ∀ σ H Q, t' σ H Q → t σ H Q) : PA X e t' := ⟨fun pos pins s σ H Q I q => h.run pos pins s σ H Q I (hi σ H Q q)⟩
theorem PS.imp {e : Stmt} {t t' : TS} (h : PS X e t) (hi : ∀ D σ H, t' D σ H → t D σ H) : PS X e t' := ⟨fun pins s σ H D I q => h.run pins s σ H D I (hi D σ H q)⟩
theorem PSs.imp {e : List Stmt} {t t' : TS} (h : PSs X e t) (hi : ∀ D σ H, t' D σ H → t D σ H) : PSs X e t' := ⟨fun pins s σ H D I q => h.run pins s σ H D I (hi D σ H q)⟩
theorem PI.imp {tg e : PySem.Expr} {t t' : TI} (h : PI X tg e t) (hi : ∀ σ H Q, t' σ H Q → t σ H Q) : PI X tg e t' := ⟨fun pins s σ H Q I q => h.run pins s σ H Q I (hi σ H Q q)⟩
theorem PG.imp {e : PySem.Expr} {t t' : TG} (h : PG X e t) (hi : ∀ x σ H Q, t' x σ H Q → t x σ H Q) : PG X e t' := ⟨fun pins s σ H v u Q I r q => h.run pins s σ H v u Q I r (hi _ σ H Q q)⟩
theorem PGs.imp {e : List PySem.Expr} {t t' : TGs} (h : PGs X e t) (hi : ∀ x σ H Q, t' x σ H Q → t x σ H Q) : PGs X e t' := ⟨fun pins s σ H v u Q I r q => h.run pins s σ H v u Q I r (hi _ σ H Q q)⟩
/-! ### names, constants, lists of arguments, displays -/
theorem m_var {i : Nat} {x : Str} {pos : Pos} (hN : X.N[i]? = some x) (hv : Vis X.env.scope x) (hd : (x == ("__debug__" : Str)) = false) (hcd : (x == ("__classdict__" : Str)) = false) : PE X (.Name x pos) (tM g o W (eVar i)) :=
  PE.imp (pe_var hN hv hd hcd) fun σ H Q ⟨m, ρ, S, re, rs, p⟩ => by
    rw [eVar_eq] at p
    split at p
    · rename_i v hv
      split at p
      · exact p.elim
      · rename_i w hw
        obtain ⟨x, h1, h2⟩ := re.get hv hw
        exact ⟨x, h1, p m H x Ex.rfl' rs h2⟩
    · exact p.elim
theorem m_int {i j pos} : PE X (.Constant (.int i) j pos) (tM g o W (eC (.int i))) := PE.imp pe_int fun σ H Q ⟨m, ρ, S, re, rs, p⟩ => p m H _ Ex.rfl' rs (.int i)
theorem m_bl {i j pos} : PE X (.Constant (.bool i) j pos) (tM g o W (eC (.bool i))) := PE.imp pe_bl fun σ H Q ⟨m, ρ, S, re, rs, p⟩ => p m H _ Ex.rfl' rs (.bool i)
theorem m_non {j pos} : PE X (.Constant .none j pos) (tM g o W (eC .none)) := PE.imp pe_non fun σ H Q ⟨m, ρ, S, re, rs, p⟩ => p m H _ Ex.rfl' rs .none
theorem m_str {x : Str} {l : List Nat} {j pos} (e : x.cps.toList = l) (h : sOk l) : PE X (.Constant (.str x) j pos) (tM g o W (eC (.str l))) :=
  PE.imp pe_str fun σ H Q ⟨m, ρ, S, re, rs, p⟩ => p m H _ Ex.rfl' rs (by
    have : x = ⟨l.toArray⟩ := by rw [← e]
    rw [this]; exact .str h)
theorem l_nil : PA X [] (tL g o W elNil) := PA.imp pa_nil fun σ H Q ⟨m, ρ, S, re, rs, p⟩ => p m H _ Ex.rfl' rs .nil
theorem PostG.mono {r : R α} {Q Q' : β → Hp → Prop} {E : XK} (p : PostG g rel m H Q E r) (h : ∀ x H', Q x H' → Q' x H') : PostG g rel m H Q' E r := by
  cases r with
  | ok v S => exact fun m' H' x e rs q => h x H' (p m' H' x e rs q)
  | exc c fs S => exact p
  | stuck w => exact p
theorem l_cons {e : PySem.Expr} {es : List PySem.Expr} {a : G.E} {r : G.EL} (ha : PE X e (tM g o W a)) (hr : PA X es (tL g o W r)) (hs : starEach (e :: es) X.env = (false, eval e X.env) :: starEach es X.env) : PA X (e :: es) (tL g o W (elCons a r)) :=
  PA.imp (pa_cons ha hr hs) fun σ H Q ⟨m, ρ, S, re, rs, p⟩ => ⟨m, ρ, S, re, rs, PostG.mono (PostG.bind (k := fun v S => (r o ρ S).bind fun vs S => .ok (v :: vs) S) p) fun x H1 ⟨m1, v, S1, e1, rs1, rv, p1⟩ =>
    ⟨m1, ρ, S1, re.mono e1, rs1, PostG.mono (PostG.bind p1) fun xs H2 ⟨m2, vs, S2, e2, rs2, rvs, p2⟩ => p2 m2 H2 _ Ex.rfl' rs2 (.cons (rv.mono e2) rvs)⟩⟩
theorem few_ok {vs : List Val} {xs : List V} (h : few vs = true) (r : RVs m H vs xs) : xs.length ≤ sizeLine := by
  have h1 : vs.length ≤ 4096 := Nat.le_of_ble_eq_true h
  rw [← r.length]
  exact Nat.le_trans h1 (by decide)
theorem m_tup {es : List PySem.Expr} {x1 pos} {c : G.EL} (h : PA X es (tL g o W c)) : PE X (.Tuple es x1 pos) (tM g o W (eTup c)) :=
  PE.imp (pe_tup h) fun σ H Q ⟨m, ρ, S, re, rs, p⟩ => ⟨m, ρ, S, re, rs, PostG.mono (PostG.bind (k := fun vs S => match few vs with | true => .ok (Val.tup vs) S | false => .stuck 2) p) fun xs H1 ⟨m1, vs, S1, e1, rs1, rvs, p1⟩ => by
    cases e : few vs with
    | false => rw [e] at p1; exact p1.elim
    | true =>
      rw [e] at p1
      exact ⟨few_ok e rvs, fun q hq => p1 m1 _ _ (Ex.upd hq) (rs1.upd hq) (RV.tup upd_same (rvs.mono (Ex.upd hq)))⟩⟩
/-- a new object of the store, laid at any free place -/
theorem PostG.alloc {ob : G.Obj} {u : HO} {Q : VK} {E : XK} {q : Addr} (rs : RS g m S H) (p : PostG g RV m H Q E (alloc ob S)) (hq : H q = .none)
    (ho : Ex m H (m.add q) (upd H q u) → RO g (m.add q) (upd H q u) q ob) : Q (.ref q) (upd H q u) := by
  unfold G.alloc at p
  cases e : Nat.blt S.nx big with
  | false => rw [e] at p; exact p.elim
  | true =>
    rw [e] at p
    have hl : S.nx < big := by simpa [Nat.blt_eq] using e
    refine p _ _ _ (Ex.add hq) (rs.new hq hl (ho (Ex.add hq))) (RV.ref ?_)
    have h3 : (m.add q).l = m.l ++ [q] := rfl
    rw [h3, ← rs.len]; simp
theorem m_lst {es : List PySem.Expr} {pos} {c : G.EL} (h : PA X es (tL g o W c)) : PE X (.List es pos) (tM g o W (eLst c)) :=
  PE.imp (pe_lst h) fun σ H Q ⟨m, ρ, S, re, rs, p⟩ => ⟨m, ρ, S, re, rs, PostG.mono (PostG.bind (k := fun vs S => match few vs with | true => alloc (.lst vs) S | false => .stuck 2) p) fun xs H1 ⟨m1, vs, S1, e1, rs1, rvs, p1⟩ => by
    cases e : few vs with
    | false => rw [e] at p1; exact p1.elim
    | true =>
      rw [e] at p1
      exact ⟨few_ok e rvs, fun q hq => p1.alloc rs1 hq fun x => ⟨xs, upd_same, rvs.mono x⟩⟩⟩
/-! ### operators -/
def OpS (X : Cx) (g : Gx) (o : Orc) (W : WX) (f : G.Op2) (sem : Value → Value → Sem Value) : Prop :=
  ∀ {pins : List (Addr × PySem.Obj)} {s : Shared} {σ : St} {H : Hp} {m : Mp} {S : Store} {v w : Val} {x y : V} {a b : Value} {Q : VK}, Inv X pins σ H s → RV m H v x → RV m H w y → RelV x a → RelV y b → RS g m S H →
    PostG g RV m H Q (atS W σ) (f o v w S) → wpAny (model X.prog X.w) X.A (sem a b) (EP X pins σ Q) X.xe s
/-- from a rule of the layer -/
theorem OpS.of {f : G.Op2} {sem : Value → Value → Sem Value} {r : R2} (h : OpR X sem r)
    (hr : ∀ {σ : St} {H : Hp} {m : Mp} {S : Store} {v w : Val} {x y : V} {Q : VK}, RV m H v x → RV m H w y → RS g m S H → PostG g RV m H Q (atS W σ) (f o v w S) → r x y H Q) : OpS X g o W f sem :=
  fun {pins s σ H m S v w x y a b Q} I rv rw ra rb rs p => h pins s σ H x y a b Q I ra rb (hr rv rw rs p)
variable {a b c : PySem.Expr} {ca cb cc : G.E} {pos : Pos} {f f' : G.Op2}
theorem m_bin {op : Operator} (h : OpS X g o W f (binaryOp op)) (ha : PE X a (tM g o W ca)) (hb : PE X b (tM g o W cb)) : PE X (.BinOp a op b pos) (tM g o W (eOp f ca cb)) :=
  ⟨fun pins s σ H Q I ⟨m, ρ, S, re, rs, p⟩ => wpAny_BinOp (thnE ha I re rs p fun u s1 v S1 m1 H1 x I1 r1 rv1 rs1 re1 e1 p1 => thnE hb I1 re1 rs1 p1 fun u2 s2 w S2 m2 H2 y I2 r2 rv2 rs2 re2 e2 p2 => h I2 (rv1.mono e2) rv2 r1 r2 rs2 p2)⟩
theorem m_cmp {op : CmpOp} (h : OpS X g o W f (compareOp op)) (ha : PE X a (tM g o W ca)) (hb : PE X b (tM g o W cb)) (hm : behindInMarks op b = false) : PE X (.Compare a [op] [b] pos) (tM g o W (eOp f ca cb)) :=
  ⟨fun pins s σ H Q I ⟨m, ρ, S, re, rs, p⟩ => wpAny_Compare1 (thnE ha I re rs p fun u s1 v S1 m1 H1 x I1 r1 rv1 rs1 re1 e1 p1 => thnE hb I1 re1 rs1 p1 fun u2 s2 w S2 m2 H2 y I2 r2 rv2 rs2 re2 e2 p2 => h I2 (rv1.mono e2) rv2 r1 r2 rs2 p2) hm⟩
theorem intEq_eq : ∀ (i j : Int), intEq i j = decide (i = j)
  | .ofNat m, .ofNat n => by
    show Nat.beq m n = _
    rw [Bool.eq_iff_iff]; simp only [Nat.beq_eq, decide_eq_true_eq, Int.ofNat_eq_natCast]; omega
  | .negSucc m, .negSucc n => by
    show Nat.beq m n = _
    rw [Bool.eq_iff_iff]; simp [Int.negSucc_inj]
  | .ofNat m, .negSucc n => by rw [Bool.eq_iff_iff]; simp [intEq]
  | .negSucc m, .ofNat n => by rw [Bool.eq_iff_iff]; simp [intEq]
theorem intLt_eq : ∀ (i j : Int), intLt i j = decide (i < j)
  | .ofNat m, .ofNat n => by
    show Nat.blt m n = _
    rw [Bool.eq_iff_iff]; simp [Nat.blt_eq]
  | .negSucc m, .negSucc n => by
    show Nat.blt n m = _
    rw [Bool.eq_iff_iff]; simp only [Nat.blt_eq, decide_eq_true_eq]; omega
  | .ofNat m, .negSucc n => by rw [Bool.eq_iff_iff]; simp only [intLt, decide_eq_true_eq]; constructor
                               · intro h; cases h
                               · intro h; simp only [Int.ofNat_eq_natCast] at h; omega
  | .negSucc m, .ofNat n => by rw [Bool.eq_iff_iff]; simp only [intLt, decide_eq_true_eq, true_iff]; simp only [Int.ofNat_eq_natCast]; omega
theorem nonE_eq {α : Type} (l : List α) : nonE l = !l.isEmpty := by cases l <;> rfl
theorem isList_of {S : Store} {n : Nat} {xs : List Val} (h : isList (S.get n) = some xs) : S.get n = some (.lst xs) := by
  cases e : S.get n with
  | none => rw [e] at h; cases h
  | some ob =>
    rw [e] at h
    cases ob <;> cases h
    rfl
/-- a list of the store, read -/
theorem RS.list (rs : RS g m S H) {n : Nat} {xs : List Val} {x : V} (h : S.get n = some (.lst xs)) (r : RV m H (.ref n) x) : ∃ q ys, x = .ref q ∧ m.l[n]? = some q ∧ H q = some (.lst ys) ∧ RVs m H xs ys := by
  cases r with
  | ref hm =>
    obtain ⟨q, hq, ys, h1, h2⟩ := rs.obj n _ h
    rw [hm] at hq; cases hq
    exact ⟨_, ys, rfl, hm, h1, h2⟩
theorem RVs.nonE {vs : List Val} {xs : List V} (r : RVs m H vs xs) : G.nonE vs = !xs.isEmpty := by cases r <;> rfl
theorem truS {v : Val} {x : V} {u : Value} {Q : Bool → Hp → Prop} (hK : g.K = X.K) (I : Inv X pins σ H s) (rv : RV m H v x) (ru : RelV x u) (rs : RS g m S H) (p : PostG g REq m H Q (atS W σ) (tst v S)) :
    wpAny (model X.prog X.w) X.A (PySem.truthy u) (TP X pins σ Q) X.xe s := by
  refine tru_ok pins s σ H x u Q I ru ?_
  unfold tst at p
  have ok : ∀ b, truthy S v = some b → Q b H := fun b e => by
    rw [e] at p
    exact p m H b Ex.rfl' rs rfl
  cases e : truthy S v with
  | none => rw [e] at p; exact p.elim
  | some b =>
    refine ⟨b, ?_, ok b e⟩
    cases rv with
    | none => cases e; rfl
    | bool b => cases e; rfl
    | int i =>
      cases e
      show (!intEq i 0) = (i != 0)
      rw [intEq_eq, bne, Bool.beq_eq_decide_eq]
    | @str l h =>
      cases e
      refine ⟨by simpa [Str.length] using h.1, ?_⟩
      cases l <;> simp [Str.length, nonE]
      omega
    | tup h r =>
      cases e
      exact .inr (.inl ⟨_, SqT.of h, r.nonE⟩)
    | @ref n a hm =>
      have e' : (match isList (S.get n) with | some l => some (nonE l) | .none => .none) = some b := e
      cases q : isList (S.get n) with
      | none => rw [q] at e'; cases e'
      | some l =>
        rw [q] at e'; cases e'
        obtain ⟨qq, ys, h1, _, h2, h3⟩ := rs.list (isList_of q) (RV.ref hm)
        cases h1
        exact .inl ⟨ys, SqL.of h2, h3.nonE⟩
    | @scr ns a hm =>
      cases e
      refine .inl ⟨ns.map V.int, ?_, by cases ns <;> rfl⟩
      rw [← hK, ← rs.K]; exact hm.sq
theorem m_cmpT {op : CmpOp} (hK : g.K = X.K) (h : OpS X g o W f (compareOp op)) (ha : PE X a (tM g o W ca)) (hb : PE X b (tM g o W cb)) (hm : behindInMarks op b = false) : PT X (.Compare a [op] [b] pos) (tT g o W (eOp f ca cb)) := by
  refine ⟨fun pins s σ H Q I ⟨m, ρ, S, re, rs, p⟩ => wpAny_isTrue_Compare1 ?_ hm⟩
  unfold eOp at p
  rw [bindA] at p
  refine thnE ha I re rs p fun u s1 v S1 m1 H1 x I1 r1 rv1 rs1 re1 e1 p1 => ?_
  rw [bindA] at p1
  refine thnE hb I1 re1 rs1 p1 fun u2 s2 w S2 m2 H2 y I2 r2 rv2 rs2 re2 e2 p2 => ?_
  exact thn (h I2 (rv1.mono e2) rv2 r1 r2 rs2 p2.bind) fun c s3 ⟨z, H3, I3, r3, m3, t, S3, e3, rs3, rv3, p3⟩ => truS hK I3 rv3 r3 rs3 p3
/-- any expression whose test is its value's truth -/
theorem m_truth (hK : g.K = X.K) (ha : PE X a (tM g o W ca)) (he : ∀ whole, isTrue a X.env whole = (do let v ← whole; standAt a.pos; holding [v] (PySem.truthy v))) : PT X a (tT g o W ca) :=
  ⟨fun pins s σ H Q I ⟨m, ρ, S, re, rs, p⟩ => isTrue_plain (thnE ha I re rs p fun u s1 v S1 m1 H1 x I1 r1 rv1 rs1 re1 e1 p1 => truS hK I1 rv1 r1 rs1 p1) (he _)⟩
theorem m_not (hK : g.K = X.K) (ha : PE X a (tM g o W ca)) : PE X (.UnaryOp .Not a pos) (tM g o W (eNot ca)) := by
  refine ⟨fun pins s σ H Q I ⟨m, ρ, S, re, rs, p⟩ => UnaryOp_ ?_⟩
  refine thnE ha I re rs p fun u s1 v S1 m1 H1 x I1 r1 rv1 rs1 re1 e1 p1 => not_of ?_
  have p2 : PostG g RV m1 H1 Q (atS W σ) ((tst v S1).bind fun b S => .ok (.bool (!b)) S) := by
    unfold tst
    cases e : truthy S1 v with
    | none => rw [e] at p1; exact p1.elim
    | some b => rw [e] at p1; exact p1
  exact thn (truS hK I1 rv1 r1 rs1 p2.bind) fun b s2 ⟨H2, I2, m2, b', S2, e2, rs2, rb, p3⟩ => by
    cases rb
    exact ⟨.bl (!b), H2, I2, rfl, p3 m2 H2 _ Ex.rfl' rs2 (RV.bool _)⟩
theorem m_notT (ha : PT X a (tT g o W ca)) : PT X (.UnaryOp .Not a pos) (tT g o W (eNot ca)) := by
  refine ⟨fun pins s σ H Q I ⟨m, ρ, S, re, rs, p⟩ => isTrue_not ?_⟩
  have p2 : PostG g REq m H Q (atS W σ) (((ca o ρ S).bind tst).bind fun b S => .ok (!b) S) := by
    unfold eNot at p
    rw [bindA] at p ⊢
    revert p
    cases ca o ρ S with
    | ok v S1 =>
      show PostG g REq m H Q (atS W σ) (R.bind (match truthy S1 v with | some b => .ok (.bool (!b)) S1 | .none => .stuck 2) tst) → PostG g REq m H Q (atS W σ) (R.bind (tst v S1) _)
      unfold tst
      cases truthy S1 v <;> exact id
    | exc c fs S1 => exact id
    | stuck w => exact id
  exact thnT ha I re rs p2 fun b s1 S1 m1 H1 I1 rs1 re1 e1 p1 => ⟨H1, I1, p1 m1 H1 _ Ex.rfl' rs1 rfl⟩
theorem m_and {rest : List PySem.Expr} (ha : PE X a (tM g o W ca)) (hb : PE X (.BoolOp .And (b :: rest) pos) (tM g o W cb)) : PE X (.BoolOp .And (a :: b :: rest) pos) (tM g o W (eAnd ca cb)) := by
  refine ⟨fun pins s σ H Q I ⟨m, ρ, S, re, rs, p⟩ => BoolOp_and ?_⟩
  refine thnE ha I re rs p fun u s1 v S1 m1 H1 x I1 r1 rv1 rs1 re1 e1 p1 => ?_
  cases rv1 with
  | bool t =>
    cases r1
    refine wpAny_truthy_bool ?_
    cases t with
    | true => exact hb.run pins s1 σ H1 Q I1 ⟨m1, ρ, S1, re1, rs1, p1⟩
    | false => exact ⟨.bl false, H1, I1, rfl, p1 m1 H1 _ Ex.rfl' rs1 (RV.bool _)⟩
  | _ => exact p1.elim
theorem m_or {rest : List PySem.Expr} (ha : PE X a (tM g o W ca)) (hb : PE X (.BoolOp .Or (b :: rest) pos) (tM g o W cb)) : PE X (.BoolOp .Or (a :: b :: rest) pos) (tM g o W (eOr ca cb)) := by
  refine ⟨fun pins s σ H Q I ⟨m, ρ, S, re, rs, p⟩ => BoolOp_or ?_⟩
  refine thnE ha I re rs p fun u s1 v S1 m1 H1 x I1 r1 rv1 rs1 re1 e1 p1 => ?_
  cases rv1 with
  | bool t =>
    cases r1
    refine wpAny_truthy_bool ?_
    cases t with
    | false => exact hb.run pins s1 σ H1 Q I1 ⟨m1, ρ, S1, re1, rs1, p1⟩
    | true => exact ⟨.bl true, H1, I1, rfl, p1 m1 H1 _ Ex.rfl' rs1 (RV.bool _)⟩
  | _ => exact p1.elim
/-- and, or as tests, whatever the whole is -/
theorem w_and1 (ha : PT X a (tT g o W ca)) : PW X (.BoolOp .And [a] pos) (tT g o W ca) := pw_and1 ha
theorem w_or1 (ha : PT X a (tT g o W ca)) : PW X (.BoolOp .Or [a] pos) (tT g o W ca) := pw_or1 ha
theorem w_and {rest : List PySem.Expr} (ha : PT X a (tT g o W ca)) (hb : PW X (.BoolOp .And (b :: rest) pos) (tT g o W cb)) : PW X (.BoolOp .And (a :: b :: rest) pos) (tT g o W (eAnd ca cb)) := by
  refine ⟨fun wh pins s σ H Q I ⟨m, ρ, S, re, rs, p⟩ => isTrue_and ?_⟩
  have p2 : PostG g REq m H Q (atS W σ) (((ca o ρ S).bind tst).bind fun t S => match t with | true => (cb o ρ S).bind tst | false => .ok false S) := by
    unfold eAnd at p
    rw [bindA] at p ⊢
    revert p
    cases ca o ρ S with
    | ok v S1 =>
      cases v with
      | bool t => cases t <;> exact id
      | _ => exact fun p => p.elim
    | exc c fs S1 => exact id
    | stuck w => exact id
  refine thnT ha I re rs p2 fun t s1 S1 m1 H1 I1 rs1 re1 e1 p1 => ?_
  cases t with
  | true => exact hb.run wh pins s1 σ H1 Q I1 ⟨m1, ρ, S1, re1, rs1, p1⟩
  | false => exact ⟨H1, I1, p1 m1 H1 _ Ex.rfl' rs1 rfl⟩
theorem w_or {rest : List PySem.Expr} (ha : PT X a (tT g o W ca)) (hb : PW X (.BoolOp .Or (b :: rest) pos) (tT g o W cb)) : PW X (.BoolOp .Or (a :: b :: rest) pos) (tT g o W (eOr ca cb)) := by
  refine ⟨fun wh pins s σ H Q I ⟨m, ρ, S, re, rs, p⟩ => isTrue_or ?_⟩
  have p2 : PostG g REq m H Q (atS W σ) (((ca o ρ S).bind tst).bind fun t S => match t with | false => (cb o ρ S).bind tst | true => .ok true S) := by
    unfold eOr at p
    rw [bindA] at p ⊢
    revert p
    cases ca o ρ S with
    | ok v S1 =>
      cases v with
      | bool t => cases t <;> exact id
      | _ => exact fun p => p.elim
    | exc c fs S1 => exact id
    | stuck w => exact id
  refine thnT ha I re rs p2 fun t s1 S1 m1 H1 I1 rs1 re1 e1 p1 => ?_
  cases t with
  | false => exact hb.run wh pins s1 σ H1 Q I1 ⟨m1, ρ, S1, re1, rs1, p1⟩
  | true => exact ⟨H1, I1, p1 m1 H1 _ Ex.rfl' rs1 rfl⟩
/-- the match on a truth, as a test behind a code -/
theorem tstMatch {γ : Type} (v : Val) (S : Store) (A B : R γ) (w : Nat) (Q : α → Hp → Prop) {rel : Mp → Hp → γ → α → Prop} {E : XK}
    (p : PostG g rel m H Q E (match truthy S v with | some true => A | some false => B | .none => .stuck w)) : PostG g rel m H Q E ((tst v S).bind fun t S' => match t with | true => A | false => B) := by
  revert p
  unfold tst
  cases truthy S v with
  | none => exact fun p => p.elim
  | some t => cases t <;> exact id
theorem m_if {cc' : PySem.Expr} {ct : G.E} (hc : PT X cc' (tT g o W ct)) (ha : PE X a (tM g o W ca)) (hb : PE X b (tM g o W cb)) : PE X (.IfExp cc' a b pos) (tM g o W (eIf ct ca cb)) := by
  refine ⟨fun pins s σ H Q I ⟨m, ρ, S, re, rs, p⟩ => wpAny_IfExp ?_⟩
  have p2 : PostG g RV m H Q (atS W σ) (((ct o ρ S).bind tst).bind fun t S => match t with | true => ca o ρ S | false => cb o ρ S) := by
    unfold eIf at p
    rw [bindA]
    revert p
    cases ct o ρ S with
    | ok v S1 =>
      show PostG g RV m H Q (atS W σ) (match truthy S1 v with | some true => ca o ρ S1 | some false => cb o ρ S1 | .none => .stuck 6) → PostG g RV m H Q (atS W σ) ((tst v S1).bind fun t S => match t with | true => ca o ρ S | false => cb o ρ S)
      unfold tst
      cases truthy S1 v with
      | none => exact fun p => p.elim
      | some t => cases t <;> exact id
    | exc c fs S1 => exact id
    | stuck w => exact id
  refine thnT hc I re rs p2 fun t s1 S1 m1 H1 I1 rs1 re1 e1 p1 => ?_
  cases t with
  | true => exact ha.run pins s1 σ H1 Q I1 ⟨m1, ρ, S1, re1, rs1, p1⟩
  | false => exact hb.run pins s1 σ H1 Q I1 ⟨m1, ρ, S1, re1, rs1, p1⟩
theorem m_chain {op op' : CmpOp} (h : OpS X g o W f (compareOp op)) (h' : OpS X g o W f' (compareOp op')) (ha : PE X a (tM g o W ca)) (hb : PE X b (tM g o W cb)) (hc : PE X c (tM g o W cc))
    (hm : lastMarks [op, op'] [b, c] = false) : PE X (.Compare a [op, op'] [b, c] pos) (tM g o W (eChain f f' ca cb cc)) := by
  refine ⟨fun pins s σ H Q I ⟨m, ρ, S, re, rs, p⟩ => Compare_chain ?_ hm⟩
  refine thnE ha I re rs p fun u s1 v S1 m1 H1 x I1 r1 rv1 rs1 re1 e1 p1 => chain_link ?_
  refine thnE hb I1 re1 rs1 p1 fun u2 s2 w S2 m2 H2 y I2 r2 rv2 rs2 re2 e2 p2 => ?_
  refine thn (h I2 (rv1.mono e2) rv2 r1 r2 rs2 p2.bind) fun d s3 ⟨z, H3, I3, r3, m3, t, S3, e3, rs3, rv3, p3⟩ => ?_
  cases rv3 with
  | bool t =>
    cases r3
    refine wpAny_truthy_bool ?_
    cases t with
    | false => exact ite_ff ⟨.bl false, H3, I3, rfl, p3 m3 H3 _ Ex.rfl' rs3 (RV.bool _)⟩
    | true =>
      refine ite_tt (chain_last ?_)
      exact thnE hc I3 (re2.mono e3) rs3 p3 fun u4 s4 w4 S4 m4 H4 y4 I4 r4 rv4 rs4 re4 e4 p4 => h' I4 (rv2.mono (e3.trans e4)) rv4 r2 r4 rs4 p4
  | _ => exact p3.elim
theorem m_chainT {op op' : CmpOp} (hK : g.K = X.K) (h : OpS X g o W f (compareOp op)) (h' : OpS X g o W f' (compareOp op')) (ha : PE X a (tM g o W ca)) (hb : PE X b (tM g o W cb)) (hc : PE X c (tM g o W cc))
    (hm : lastMarks [op, op'] [b, c] = false) : PT X (.Compare a [op, op'] [b, c] pos) (tT g o W (eChain f f' ca cb cc)) := by
  refine ⟨fun pins s σ H Q I ⟨m, ρ, S, re, rs, p⟩ => isTrue_chain ?_ hm⟩
  unfold eChain at p
  rw [bindA] at p
  refine thnE ha I re rs p fun u s1 v S1 m1 H1 x I1 r1 rv1 rs1 re1 e1 p1 => test_link ?_
  rw [bindA] at p1
  refine thnE hb I1 re1 rs1 p1 fun u2 s2 w S2 m2 H2 y I2 r2 rv2 rs2 re2 e2 p2 => ?_
  rw [bindA] at p2
  refine thn (h I2 (rv1.mono e2) rv2 r1 r2 rs2 p2.bind) fun d s3 ⟨z, H3, I3, r3, m3, t, S3, e3, rs3, rv3, p3⟩ => ?_
  cases rv3 with
  | bool t =>
    cases r3
    refine wpAny_truthy_bool ?_
    cases t with
    | false => exact ite_ff ⟨H3, I3, p3 m3 H3 _ Ex.rfl' rs3 rfl⟩
    | true =>
      refine ite_tt (test_last ?_)
      have p4 : PostG g REq m3 H3 Q (atS W σ) ((cc o ρ S3).bind fun w4 S4 => (f' o w w4 S4).bind tst) := by
        rw [← bindA]; exact p3
      exact thnE hc I3 (re2.mono e3) rs3 p4 fun u4 s4 w4 S4 m4 H4 y4 I4 r4 rv4 rs4 re4 e4 p5 =>
        thn (h' I4 (rv2.mono (e3.trans e4)) rv4 r2 r4 rs4 p5.bind) fun d5 s5 ⟨z5, H5, I5, r5, m5, t5, S5, e5, rs5, rv5, p6⟩ => truS hK I5 rv5 r5 rs5 p6
  | _ => exact p3.elim
end
end G
set_option Elab.async false
set_option linter.all false
set_option maxRecDepth 100000
namespace G
open PySem PySem.Spec L2
open PyProof.Rows hiding St
section
variable {X : Cx} {g : Gx} {o : Orc} {W : WX} {α β : Type} {rel : Mp → Hp → α → β → Prop} {pins : List (Addr × PySem.Obj)} {s : Shared} {σ : St} {ρ : G.Env} {m : Mp} {H : Hp} {S : Store}
variable {e : PySem.Expr} {ce : G.E} {pos : Pos}
/-! ### small statements, blocks -/
theorem s_expr (he : PE X e (tM g o W ce)) (hs : swapsWith e .none pos.line X.env = pure false) : PS X (.Expr e pos) (tS g o W (sExpr ce)) :=
  PS.imp (ps_expr he hs) fun D σ H ⟨m, ρ, S, re, rs, p⟩ => ⟨m, ρ, S, re, rs, PostG.mono (PostS.to re p) fun x H1 ⟨m1, v, S1, e1, rs1, rv, p1⟩ => p1 m1 H1 σ Ex.rfl' rs1 (re.mono e1)⟩
theorem s_ret (he : PE X e (tM g o W ce)) : PS X (.Return (some e) pos) (tS g o W (sRet ce)) :=
  PS.imp (ps_ret he) fun D σ H ⟨m, ρ, S, re, rs, p⟩ => ⟨m, ρ, S, re, rs, PostG.mono (PostS.to re p) fun x H1 ⟨m1, v, S1, e1, rs1, rv, p1⟩ => p1 m1 H1 x Ex.rfl' rs1 rv⟩
theorem s_pass : PS X (.Pass pos) (tS g o W cNil) := PS.imp ps_pass fun D σ H ⟨m, ρ, S, re, rs, p⟩ => p m H σ Ex.rfl' rs re
theorem s_doc {x j pos'} : PS X (.Expr (.Constant (.str x) j pos') pos) (tS g o W cNil) := PS.imp ps_doc fun D σ H ⟨m, ρ, S, re, rs, p⟩ => p m H σ Ex.rfl' rs re
theorem s_break : PS X (.Break pos) (tS g o W sBreak) := PS.imp ps_break fun D σ H ⟨m, ρ, S, re, rs, p⟩ => p m H σ Ex.rfl' rs re
theorem ss_nil : PSs X [] (tS g o W cNil) := PSs.imp pss_nil fun D σ H ⟨m, ρ, S, re, rs, p⟩ => p m H σ Ex.rfl' rs re
/-- the end of a statement's answer turned to another wish -/
theorem PostS.turn {D D' : Ends} {r : SR} (k : G.Env → Store → SR) (hr : D'.rt = D.rt) (hb : D'.bk = D.bk)
    (hn : ∀ ρ S m1 H1 σ1, Ex m H m1 H1 → RS g m1 S H1 → RE m1 H1 ρ σ1 → PostS g m1 H1 D W (k ρ S) → D'.nx σ1 H1)
    (p : PostS g m H D W (r.seq k)) : PostS g m H D' W r := by
  cases r with
  | nx ρ S => exact fun m' H' σ' x rs re => hn ρ S m' H' σ' x rs re (PostS.base x p)
  | bk ρ S =>
    have p' : PostS g m H D W (.bk ρ S) := p
    exact fun m' H' σ' x rs re => hb ▸ p' m' H' σ' x rs re
  | rt v S =>
    have p' : PostS g m H D W (.rt v S) := p
    exact fun m' H' y x rs re => hr ▸ p' m' H' y x rs re
  | exc c fs ρ S => exact p
  | stuck w => exact p
theorem ss_cons {st : Stmt} {rest : List Stmt} {c d : G.C} (h1 : PS X st (tS g o W c)) (h2 : PSs X rest (tS g o W d)) : PSs X (st :: rest) (tS g o W (cSeq c d)) :=
  PSs.imp (pss_cons h1 h2) fun D σ H ⟨m, ρ, S, re, rs, p⟩ => ⟨m, ρ, S, re, rs, PostS.turn (D := D) (fun ρ S => d o ρ S) rfl rfl (fun ρ1 S1 m1 H1 σ1 x rs1 re1 p1 => ⟨m1, ρ1, S1, re1, rs1, p1⟩) p⟩
theorem toMatch {v : Val} {S : Store} {A B : SR} {w : Nat} {D : Ends} (p : PostS g m H D W (match truthy S v with | some true => A | some false => B | .none => .stuck w)) :
    PostS g m H D W ((tst v S).to ρ fun t _ => match t with | true => A | false => B) := by
  unfold tst
  revert p
  cases truthy S v with
  | none => exact fun p => p.elim
  | some t => cases t <;> exact id
theorem toBind {γ δ : Type} (r : R γ) (k : γ → Store → R δ) (l : δ → Store → SR) : (r.bind k).to ρ l = r.to ρ fun v S => (k v S).to ρ l := by cases r <;> rfl
theorem s_if {c : PySem.Expr} {cc : G.E} {a b : List Stmt} {ca cb : G.C} (hc : PT X c (tT g o W cc)) (ha : PSs X a (tS g o W ca)) (hb : PSs X b (tS g o W cb)) : PS X (.If c a b pos) (tS g o W (sIf cc ca cb)) :=
  PS.imp (ps_if hc ha hb) fun D σ H ⟨m, ρ, S, re, rs, p⟩ => by
    have p2 : PostS g m H D W (((cc o ρ S).bind tst).to ρ fun t S => match t with | true => ca o ρ S | false => cb o ρ S) := by
      rw [toBind]
      revert p
      unfold sIf
      cases cc o ρ S with
      | ok v S1 =>
        show PostS g m H D W (match truthy S1 v with | some true => ca o ρ S1 | some false => cb o ρ S1 | .none => .stuck 201) → PostS g m H D W ((tst v S1).to ρ fun t S => match t with | true => ca o ρ S | false => cb o ρ S)
        unfold tst
        cases truthy S1 v with
        | none => exact fun p => p.elim
        | some t => cases t <;> exact id
      | exc c fs S1 => exact id
      | stuck w => exact id
    refine ⟨m, ρ, S, re, rs, PostG.mono (PostS.to re p2) fun t H1 ⟨m1, t', S1, e1, rs1, rb, p1⟩ => ?_⟩
    cases rb
    cases t with
    | true => exact ⟨m1, ρ, S1, re.mono e1, rs1, p1⟩
    | false => exact ⟨m1, ρ, S1, re.mono e1, rs1, p1⟩
theorem s_while {c : PySem.Expr} {cc : G.E} {b : List Stmt} {cb : G.C} (hp : PassesOwn (model X.prog X.w) X.A X.env X.xe) (hc : PT X c (tT g o W cc)) (hb : PSs X b (tS g o W cb)) : PS X (.While c b [] pos) (tS g o W (sWhile cc cb)) :=
  PS.imp (ps_while hp hc hb) fun D σ H ⟨m, ρ, S, re, rs, p⟩ => by
    refine ⟨fun n σ H => ∃ m ρ S, RE m H ρ σ ∧ RS g m S H ∧ PostS g m H D W (wLoop cc cb o n ρ S), ⟨fuel, m, ρ, S, re, rs, p⟩, ?_⟩
    rintro n σ H ⟨m, ρ, S, re, rs, p⟩
    cases n with
    | zero => exact p.elim
    | succ n =>
      have p2 : PostS g m H D W (((cc o ρ S).bind tst).to ρ fun t S => match t with
          | true => (match cb o ρ S with
            | .nx ρ S => wLoop cc cb o n ρ S
            | .bk ρ S => .nx ρ S
            | r => r)
          | false => .nx ρ S) := by
        rw [toBind]
        revert p
        rw [wLoop]
        cases cc o ρ S with
        | ok v S1 =>
          show PostS g m H D W (match truthy S1 v with | some true => _ | some false => _ | .none => _) → PostS g m H D W ((tst v S1).to ρ _)
          unfold tst
          cases truthy S1 v with
          | none => exact fun p => p.elim
          | some t => cases t <;> exact id
        | exc c fs S1 => exact id
        | stuck w => exact id
      refine ⟨m, ρ, S, re, rs, PostG.mono (PostS.to re p2) fun t H1 ⟨m1, t', S1, e1, rs1, rb, p1⟩ => ?_⟩
      cases rb
      cases t with
      | false => exact p1 m1 H1 σ Ex.rfl' rs1 (re.mono e1)
      | true =>
        refine ⟨fun σ' H' => ∃ m ρ S, RE m H' ρ σ' ∧ RS g m S H' ∧ PostS g m H' D W (wLoop cc cb o n ρ S), fun σ' H' z => ⟨n, Nat.lt_succ_self n, z⟩, m1, ρ, S1, re.mono e1, rs1, ?_⟩
        revert p1
        show PostS g m1 H1 D W (match cb o ρ S1 with | .nx ρ S => wLoop cc cb o n ρ S | .bk ρ S => .nx ρ S | r => r) → _
        cases cb o ρ S1 with
        | nx ρ2 S2 => exact fun p1 m' H' σ' x rs' re' => ⟨m', ρ2, S2, re', rs', PostS.base x p1⟩
        | bk ρ2 S2 => exact fun p1 => p1
        | rt v S2 => exact fun p1 => p1
        | exc c fs ρ2 S2 => exact fun p1 => p1
        | stuck w => exact fun p1 => p1
/-! ### targets -/
theorem g_name {i : Nat} {x : Str} (hN : X.N.Nodup) (hi : X.N[i]? = some x) (hx : Loc X.env.scope x) (hf : X.fn x = true ∨ X.env.scope.names.lookup x = some .local) : PG X (.Name x pos) (tE g o (tName i)) :=
  PG.imp (pg_name hN hi hx hf) fun x σ H Q ⟨m, ρ, S, v, re, rs, rv, p⟩ => p m H _ Ex.rfl' rs (by rw [setE_eq]; exact re.set i rv)
theorem gs_nil : PGs X [] (tEs g o tNil) := PGs.imp pgs_nil fun xs σ H Q ⟨m, ρ, S, vs, re, rs, rv, p⟩ => by
  cases rv with
  | nil => exact ⟨rfl, p m H σ Ex.rfl' rs re⟩
  | cons _ _ => exact p.elim
theorem gs_cons {es : List PySem.Expr} {t : G.T} {r : G.TL} (h1 : PG X e (tE g o t)) (h2 : PGs X es (tEs g o r)) (hs : (assignEach (e :: es) X.env).map (·.2) = assign e X.env :: (assignEach es X.env).map (·.2)) :
    PGs X (e :: es) (tEs g o (tCons t r)) :=
  PGs.imp (pgs_cons h1 h2 hs) fun xs σ H Q ⟨m, ρ, S, vs, re, rs, rv, p⟩ => by
    cases rv with
    | nil => exact p.elim
    | @cons v x vs xs q qs =>
      exact ⟨x, xs, rfl, m, ρ, S, v, re, rs, q, PostG.mono (PostG.bind (k := fun ρ S => r vs o ρ S) p) fun σ1 H1 ⟨m1, ρ1, S1, e1, rs1, re1, p1⟩ => ⟨m1, ρ1, S1, vs, re1, rs1, qs.mono e1, p1⟩⟩
theorem g_tup {es : List PySem.Expr} {k : Nat} {t : G.TL} {n : Nat} (hc : X.calm = true) (h : PGs X es (tEs g o t)) (hn : (assignEach es X.env).length = n) (hst : (assignEach es X.env).findIdx? (·.1) = .none) :
    PG X (.Tuple es k pos) (tE g o (tTup n t)) := by
  refine ⟨fun pins s σ H x u Q I r ⟨m, ρ, S, v, re, rs, rv, p⟩ => ?_⟩
  cases rv with
  | @tup a xs vs ht rr =>
    have p' : PostG g RE m H Q Eno (match Nat.beq vs.length n with | true => t vs o ρ S | false => .stuck 82) := p
    cases e : Nat.beq vs.length n with
    | false => rw [e] at p'; exact p'.elim
    | true =>
      rw [e] at p'
      exact (pg_tup hc h hn hst).run pins s σ H _ u Q I r ⟨a, xs, rfl, SqT.of ht, by rw [← rr.length]; exact Nat.eq_of_beq_eq_true e, m, ρ, S, vs, re, rs, rr, p'⟩
  | @ref k a hm =>
    have p' : PostG g RE m H Q Eno (match S.get k with | some (.lst vs) => (match Nat.beq vs.length n with | true => t vs o ρ S | false => .stuck 82) | _ => .stuck 82) := p
    cases e1 : S.get k with
    | none => rw [e1] at p'; exact p'.elim
    | some ob =>
      cases ob with
      | lst vs =>
        rw [e1] at p'
        obtain ⟨q, ys, h1, _, h2, h3⟩ := rs.list e1 (RV.ref hm)
        cases h1
        have p2 : PostG g RE m H Q Eno (match Nat.beq vs.length n with | true => t vs o ρ S | false => .stuck 82) := p'
        cases e : Nat.beq vs.length n with
        | false => rw [e] at p2; exact p2.elim
        | true =>
          rw [e] at p2
          exact (pg_lst hc h hn hst).run pins s σ H _ u Q I r ⟨a, ys, rfl, SqL.of h2, by rw [← h3.length]; exact Nat.eq_of_beq_eq_true e, m, ρ, S, vs, re, rs, h3, p2⟩
      | _ => rw [e1] at p'; exact p'.elim
  | _ => exact p.elim
/-- the fields by their names -/
theorem RF.lookup {fs : List (Nat × Val)} {hs : List (Str × V)} (hi : ∀ i j, i < g.nf → j < g.nf → g.nm i = g.nm j → i = j) {f : Nat} (hf : f < g.nf) : RF g m H fs hs → (∀ p ∈ fs, p.1 < g.nf) →
    (∀ v, fldGet f fs = some v → ∃ x, hs.lookup (g.nm f) = some x ∧ RV m H v x) ∧ (fldGet f fs = .none → hs.lookup (g.nm f) = .none) := by
  intro r
  induction r with
  | nil => exact fun _ => ⟨(fun v h => nomatch h), fun _ => rfl⟩
  | @cons p q fs hs pq r ih =>
    intro hp
    obtain ⟨pi, pv⟩ := p
    obtain ⟨qn, qv⟩ := q
    obtain ⟨h1, h2⟩ := pq
    have h1' : qn = g.nm pi := h1
    subst h1'
    have ih := ih fun z hz => hp z (List.mem_cons_of_mem _ hz)
    have hpi : pi < g.nf := hp _ List.mem_cons_self
    cases e : Nat.beq f pi with
    | true =>
      have ef : f = pi := Nat.eq_of_beq_eq_true e
      subst ef
      refine ⟨fun v hv => ?_, fun hv => ?_⟩
      · rw [fldGet, e] at hv; cases hv
        exact ⟨qv, by simp [List.lookup], h2⟩
      · rw [fldGet, e] at hv; cases hv
    | false =>
      have ef : f ≠ pi := fun z => by rw [z, Nat.beq_refl] at e; cases e
      have en : (g.nm f == g.nm pi) = false := by
        cases z : g.nm f == g.nm pi with
        | false => rfl
        | true => exact absurd (hi f pi hf hpi (eq_of_beq z)) ef
      rw [fldGet, e, List.lookup, en]
      exact ih
theorem RF.put {fs : List (Nat × Val)} {hs : List (Str × V)} (hi : ∀ i j, i < g.nf → j < g.nf → g.nm i = g.nm j → i = j) {f : Nat} (hf : f < g.nf) {v : Val} {x : V} (rv : RV m H v x) : RF g m H fs hs → (∀ p ∈ fs, p.1 < g.nf) →
    RF g m H (fldPut f v fs) (putF (g.nm f) x hs) := by
  intro r
  induction r with
  | nil => exact fun _ => .cons ⟨rfl, rv⟩ .nil
  | @cons p q fs hs pq r ih =>
    intro hp
    obtain ⟨pi, pv⟩ := p
    obtain ⟨qn, qv⟩ := q
    obtain ⟨h1, h2⟩ := pq
    have h1' : qn = g.nm pi := h1
    subst h1'
    have ih := ih fun z hz => hp z (List.mem_cons_of_mem _ hz)
    have hpi : pi < g.nf := hp _ List.mem_cons_self
    cases e : Nat.beq f pi with
    | true =>
      have ef : f = pi := Nat.eq_of_beq_eq_true e
      subst ef
      rw [fldPut, e, putF, if_pos rfl]
      exact .cons ⟨rfl, rv⟩ r
    | false =>
      have ef : ¬ g.nm pi = g.nm f := fun z => by
        rw [hi pi f hpi hf z, Nat.beq_refl] at e; cases e
      rw [fldPut, e, putF, if_neg ef]
      exact .cons ⟨rfl, h2⟩ ih
theorem fldPut_mem {f : Nat} {v : Val} : ∀ {fs : List (Nat × Val)} {p : Nat × Val}, p ∈ fldPut f v fs → p.1 = f ∨ ∃ q ∈ fs, q.1 = p.1
  | [], p, h => .inl (by rw [List.mem_singleton.mp h])
  | (k, w) :: r, p, h => by
    rw [fldPut] at h
    cases e : Nat.beq f k with
    | true =>
      rw [e] at h
      rcases List.mem_cons.mp h with h | h
      · exact .inr ⟨_, List.mem_cons_self, by rw [h]⟩
      · exact .inr ⟨p, List.mem_cons_of_mem _ h, rfl⟩
    | false =>
      rw [e] at h
      rcases List.mem_cons.mp h with h | h
      · exact .inr ⟨_, List.mem_cons_self, by rw [h]⟩
      · rcases fldPut_mem h with h | ⟨q, h1, h2⟩
        · exact .inl h
        · exact .inr ⟨q, List.mem_cons_of_mem _ h1, h2⟩
theorem paired_len {α β : Type} {F : α → β → Prop} : ∀ {l : List α} {k : List β}, Paired F l k → l.length = k.length
  | _, _, .nil => rfl
  | _, _, .cons _ t => congrArg (· + 1) (paired_len t)
/-- an attribute as a target: o.f = v -/
theorem g_attr {a : PySem.Expr} {f : Str} {ca : G.E} {n : Nat} (hK : g.K = X.K) (hi : ∀ i j, i < g.nf → j < g.nf → g.nm i = g.nm j → i = j) (hnm : g.nm n = f) (hfl : ∀ c, o.fld c n = true → FldOk g c n) (ha : PE X a (tM g o Wno ca)) :
    PG X (.Attribute a f pos) (tE g o (tAttr ca n)) := by
  refine ⟨fun pins s σ H x u Q I r ⟨m, ρ, S, v, re, rs, rv, p⟩ => ?_⟩
  rw [arm_assign_Attribute]
  refine wpAny_bind (wpAny_holding ?_)
  refine thnE (W := Wno) ha I re rs p fun ou s1 ov S1 m1 H1 ox I1 r1 rv1 rs1 re1 e1 p1 => ?_
  refine wpAny_bind (wpAny_standAt ?_)
  refine wpAny_bind (wpAny_holding ?_)
  cases rv1 with
  | @ref k q hm =>
    have p' : PostG g RE m1 H1 Q Eno (match S1.get k with | some (.ins c fs) => (match o.fld c n && Nat.blt fs.length 900 with | true => .ok ρ (S1.put k (.ins c (fldPut n v fs))) | false => .stuck 88) | _ => .stuck 88) := p1
    cases e : S1.get k with
    | none => rw [e] at p'; exact p'.elim
    | some ob =>
      cases ob with
      | ins c fs =>
        rw [e] at p'
        have p2 : PostG g RE m1 H1 Q Eno (match o.fld c n && Nat.blt fs.length 900 with | true => .ok ρ (S1.put k (.ins c (fldPut n v fs))) | false => .stuck 88) := p'
        cases e2 : (o.fld c n && Nat.blt fs.length 900) with
        | false => rw [e2] at p2; exact p2.elim
        | true =>
          rw [e2] at p2
          obtain ⟨e3, e4⟩ := Bool.and_eq_true_iff.mp e2
          have fo := hfl c e3
          obtain ⟨q', hq, ⟨hc, hfs⟩, dx, hs, h1, h2⟩ := rs1.obj k _ e
          rw [hm] at hq; cases hq
          cases r1
          have hl : hs.length < 1000 := by
            rw [← paired_len h2]
            have : fs.length < 900 := by simpa [Nat.blt_eq] using e4
            omega
          have no := fo.no
          rw [hnm, hK] at no
          refine setattr_ok I1 h1 (hK ▸ hc) no hl r fun s2 I2 => ?_
          refine wpAny_release ⟨σ, _, I2, ?_⟩
          have am := List.mem_of_getElem? hm
          have x2 : Ex m1 H1 m1 (upd H1 q (.ins (g.cl c) dx (putF f x hs))) := rs1.exPut e hm
          refine p2 m1 _ σ x2 (rs1.put e hm ⟨⟨hc, fun z hz => ?_⟩, dx, _, upd_same, ?_⟩) (re1.mono x2)
          · rcases fldPut_mem hz with h | ⟨w, hw, h⟩
            · rw [h]; exact fo
            · rw [← h]; exact hfs w hw
          · rw [← hnm]
            exact RF.put hi fo.lt ((rv.mono e1).mono (hnm ▸ x2)) (RF.mono (hnm ▸ x2) h2) fun z hz => (hfs z hz).lt
      | _ => rw [e] at p'; exact p'.elim
  | _ => exact p1.elim
/-- target = value -/
theorem s_asg {tg : PySem.Expr} {t : G.T} (he : PE X e (tM g o W ce)) (hg : PG X tg (tE g o t)) (hs : swapsWithSole [tg] e pos.line X.env = pure false) (hw : swappedStores [tg] e X.env = pure .none) (h1 : (assignEach [tg] X.env).map (·.2) = [assign tg X.env]) :
    PS X (.Assign [tg] e pos) (tS g o W (sAsg t ce)) :=
  PS.imp (ps_asg he hg hs hw h1) fun D σ H ⟨m, ρ, S, re, rs, p⟩ => ⟨m, ρ, S, re, rs, PostG.mono (PostS.to re p) fun x H1 ⟨m1, v, S1, e1, rs1, rv, p1⟩ =>
    ⟨m1, ρ, S1, v, re.mono e1, rs1, rv, PostG.mono (PostG.no (PostS.to (rel := RE) (re.mono e1) p1)) fun σ2 H2 ⟨m2, ρ2, S2, e2, rs2, re2, p2⟩ => p2 m2 H2 σ2 Ex.rfl' rs2 re2⟩⟩
theorem s_set {i : Nat} {x : Str} {pos' : Pos} (hN : X.N.Nodup) (hi : X.N[i]? = some x) (hx : Loc X.env.scope x) (he : PE X e (tM g o W ce)) (hs : swapsWith e (some (.Name x pos')) pos.line X.env = pure false) (hf : X.fn x = true ∨ X.env.scope.names.lookup x = some .local) :
    PS X (.Assign [.Name x pos'] e pos) (tS g o W (sAsg (tName i) ce)) :=
  PS.imp (ps_set hN hi hx he hs hf) fun D σ H ⟨m, ρ, S, re, rs, p⟩ => ⟨m, ρ, S, re, rs, PostG.mono (PostS.to re p) fun x H1 ⟨m1, v, S1, e1, rs1, rv, p1⟩ =>
    p1 m1 H1 _ Ex.rfl' rs1 (by rw [setE_eq]; exact (re.mono e1).set i rv)⟩
end
end G
set_option Elab.async false
set_option linter.all false
set_option maxRecDepth 100000
namespace G
open PySem PySem.Spec L2
open PyProof.Rows hiding St
/-! ### what is walked -/
/-- J, at its i-th turn, gives what the iterable gives -/
structure Walks (g : Gx) (J : L2.It) (P : Nat → G.It → Mp → Hp → Prop) : Prop where
  mono : ∀ {i it m H m' H'}, P i it m H → Ex0 m H m' H' → P i it m' H'
  stop : ∀ {i it m H S}, P i it m H → RS g m S H → it.next S = some .none → J.stop i H
  go : ∀ {i it m H S v it'}, P i it m H → RS g m S H → it.next S = some (some (v, it')) → J.go i H ∧ ∀ x H', J.yld i H x H' → Ex m H m H' ∧ RS g m S H' ∧ RV m H' v x ∧ P (i + 1) it' m H'
def RI (g : Gx) (m : Mp) (H : Hp) (it : G.It) (J : L2.It) : Prop := ∃ P, Walks g J P ∧ P 0 it m H
def tI (g : Gx) (o : Orc) (W : WX) (c : G.EI) : TI := fun σ H Q => ∃ m ρ S, RE m H ρ σ ∧ RS g m S H ∧ PostG g (RI g) m H Q (atS W σ) (c o ρ S)
section
variable {X : Cx} {g : Gx} {o : Orc} {W : WX} {pins : List (Addr × PySem.Obj)} {s : Shared} {σ : St} {ρ : G.Env} {m : Mp} {H : Hp} {S : Store}
variable {e : PySem.Expr} {ce : G.E} {pos : Pos}
/-- values that stand: a list of them with their readings, all of which stay -/
inductive RVx (m : Mp) (H : Hp) : List Val → List V → Prop
  | mk {vs : List Val} {xs : List V} (r : RVs m H vs xs) : RVx m H vs xs
theorem walks_list {a : Addr} {n : Nat} {K : PySem.W.Frag} : Walks g (Itl K a) (fun i it m _ => it = .lst n i ∧ m.l[n]? = some a) where
  mono := fun ⟨h1, h2⟩ x => ⟨h1, x.get h2⟩
  stop := by
    rintro i it m H S ⟨rfl, h2⟩ rs e
    rw [It.next] at e
    cases q : S.get n with
    | none => rw [q] at e; cases e
    | some ob =>
      cases ob with
      | lst xs =>
        rw [q] at e
        obtain ⟨b, hb, ys, h3, h4⟩ := rs.obj n _ q
        rw [h2] at hb; cases hb
        refine ⟨ys, SqL.of h3, ?_⟩
        rw [← h4.length]
        have e' : (match xs[i]? with | some v => some (some (v, G.It.lst n (i + 1))) | .none => (match Nat.beq xs.length i with | true => some .none | false => .none)) = some .none := e
        cases z : xs[i]? with
        | none => exact List.getElem?_eq_none_iff.mp z
        | some v => rw [z] at e'; cases e'
      | _ => rw [q] at e; cases e
  go := by
    rintro i it m H S v it' ⟨rfl, h2⟩ rs e
    rw [It.next] at e
    cases q : S.get n with
    | none => rw [q] at e; cases e
    | some ob =>
      cases ob with
      | lst xs =>
        rw [q] at e
        obtain ⟨b, hb, ys, h3, h4⟩ := rs.obj n _ q
        rw [h2] at hb; cases hb
        have e' : (match xs[i]? with | some v => some (some (v, G.It.lst n (i + 1))) | .none => (match Nat.beq xs.length i with | true => some .none | false => .none)) = some (some (v, it')) := e
        cases z : xs[i]? with
        | none =>
          rw [z] at e'
          have e2 : (match Nat.beq xs.length i with | true => some .none | false => .none) = some (some (v, it')) := e'
          cases hb : Nat.beq xs.length i <;> rw [hb] at e2 <;> cases e2
        | some w =>
          rw [z] at e'; cases e'
          obtain ⟨y, hy, rv⟩ := h4.get z
          refine ⟨⟨ys, y, SqL.of h3, hy⟩, fun x H' ⟨e1, e2⟩ => ?_⟩
          subst e1
          have := e2 ys (SqL.of h3)
          rw [hy] at this; cases this
          exact ⟨Ex.rfl', rs, rv, rfl, h2⟩
      | _ => rw [q] at e; cases e
theorem drop_cons {α : Type} {l r : List α} {v : α} {i : Nat} (h : l.drop i = v :: r) : l[i]? = some v ∧ l.drop (i + 1) = r := by
  have hi : i < l.length := by
    cases Nat.lt_or_ge i l.length with
    | inl h' => exact h'
    | inr h' => rw [List.drop_eq_nil_of_le h'] at h; cases h
  rw [List.drop_eq_getElem_cons hi] at h
  cases h
  exact ⟨List.getElem?_eq_getElem hi, rfl⟩
theorem drop_nil {α : Type} {l : List α} {i : Nat} (h : l.drop i = []) : l.length ≤ i := List.drop_eq_nil_iff.mp h
/-- the values that are left are those behind the i-th -/
theorem vals_next {S : Store} {vs : List Val} {v : Val} {it' : G.It} (h : (G.It.vals vs).next S = some (some (v, it'))) : ∃ r, vs = v :: r ∧ it' = .vals r := by
  cases vs with
  | nil => rw [It.next] at h; cases h
  | cons a r => rw [It.next] at h; cases h; exact ⟨r, rfl, rfl⟩
theorem vals_end {S : Store} {vs : List Val} (h : (G.It.vals vs).next S = some .none) : vs = [] := by
  cases vs with
  | nil => rfl
  | cons a r => rw [It.next] at h; cases h
theorem walks_tup {a : Addr} {vs : List Val} {K : PySem.W.Frag} : Walks g (Itt K a) (fun i it m H => it = .vals (vs.drop i) ∧ ∃ xs, H a = some (.tup xs) ∧ RVs m H vs xs) where
  mono := fun ⟨h1, xs, h2, h3⟩ x => ⟨h1, xs, x.tup h2, h3.mono0 x⟩
  stop := by
    rintro i it m H S ⟨rfl, xs, h2, h3⟩ rs e
    have := drop_nil (vals_end e)
    exact ⟨xs, SqT.of h2, by rw [← h3.length]; exact this⟩
  go := by
    rintro i it m H S v it' ⟨rfl, xs, h2, h3⟩ rs e
    obtain ⟨r, e1, rfl⟩ := vals_next e
    obtain ⟨e2, e3⟩ := drop_cons e1
    obtain ⟨y, hy, rv⟩ := h3.get e2
    refine ⟨⟨xs, y, SqT.of h2, hy⟩, fun x H' ⟨z1, z2⟩ => ?_⟩
    subst z1
    have := z2 xs (SqT.of h2)
    rw [hy] at this; cases this
    exact ⟨Ex.rfl', rs, rv, by rw [e3], xs, h2, h3⟩
theorem upTo_get : ∀ {n : Nat} {lo : Int} {i : Nat} {v : Val}, (upTo lo n)[i]? = some v → i < n ∧ v = .int (lo + i)
  | 0, _, _, _, h => by simp [upTo] at h
  | n + 1, lo, 0, v, h => by simp [upTo] at h; exact ⟨Nat.succ_pos _, by rw [← h]; simp⟩
  | n + 1, lo, i + 1, v, h => by
    have h' : (upTo (lo + 1) n)[i]? = some v := by simpa [upTo] using h
    obtain ⟨h1, h2⟩ := upTo_get h'
    exact ⟨Nat.succ_lt_succ h1, by rw [h2]; congr 1; push_cast; omega⟩
theorem upTo_len : ∀ (n : Nat) (lo : Int), (upTo lo n).length = n
  | 0, _ => rfl
  | n + 1, lo => congrArg (· + 1) (upTo_len n (lo + 1))
theorem walks_range {lo : Int} {n : Nat} : Walks g (Itr lo n) (fun i it _ _ => it = .vals ((upTo lo n).drop i)) where
  mono := fun h _ => h
  stop := by
    rintro i it m H S rfl rs e
    have := drop_nil (vals_end e)
    rw [upTo_len] at this
    exact this
  go := by
    rintro i it m H S v it' rfl rs e
    obtain ⟨r, e1, rfl⟩ := vals_next e
    obtain ⟨e2, e3⟩ := drop_cons e1
    obtain ⟨h1, rfl⟩ := upTo_get e2
    refine ⟨h1, fun x H' ⟨z1, z2⟩ => ?_⟩
    subst z1 z2
    exact ⟨Ex.rfl', rs, RV.int _, by rw [e3]⟩
theorem downTo_get : ∀ {n : Nat} {hi : Int} {i : Nat} {v : Val}, (downTo hi n)[i]? = some v → i < n ∧ v = .int (hi + (i : Nat) * (-1))
  | 0, _, _, _, h => by simp [downTo] at h
  | n + 1, hi, 0, v, h => by simp [downTo] at h; exact ⟨Nat.succ_pos _, by rw [← h]; simp⟩
  | n + 1, hi, i + 1, v, h => by
    have h' : (downTo (hi - 1) n)[i]? = some v := by simpa [downTo] using h
    obtain ⟨h1, h2⟩ := downTo_get h'
    exact ⟨Nat.succ_lt_succ h1, by rw [h2]; congr 1; push_cast; omega⟩
theorem downTo_len : ∀ (n : Nat) (hi : Int), (downTo hi n).length = n
  | 0, _ => rfl
  | n + 1, hi => congrArg (· + 1) (downTo_len n (hi - 1))
theorem walks_down {hi : Int} {n : Nat} : Walks g (Itc hi (-1) n) (fun i it _ _ => it = .vals ((downTo hi n).drop i)) where
  mono := fun h _ => h
  stop := by
    rintro i it m H S rfl rs e
    have := drop_nil (vals_end e)
    rw [downTo_len] at this
    exact this
  go := by
    rintro i it m H S v it' rfl rs e
    obtain ⟨r, e1, rfl⟩ := vals_next e
    obtain ⟨e2, e3⟩ := drop_cons e1
    obtain ⟨h1, rfl⟩ := downTo_get e2
    refine ⟨h1, fun x H' ⟨z1, z2⟩ => ?_⟩
    subst z1 z2
    exact ⟨Ex.rfl', rs, RV.int _, by rw [e3]⟩
theorem sOk.one {l : List Nat} (h : sOk l) {c : Nat} (hc : c ∈ l) : sOk [c] := ⟨by show 1 ≤ sizeLine; decide, fun d hd => by rw [List.mem_singleton.mp hd]; exact h.2 c hc⟩
theorem walks_str {l : List Nat} (hl : sOk l) : Walks g (Its ⟨l.toArray⟩) (fun i it _ _ => it = .vals ((l.map fun c => Val.str [c]).drop i)) where
  mono := fun h _ => h
  stop := by
    rintro i it m H S rfl rs e
    have := drop_nil (vals_end e)
    rw [List.length_map] at this
    show (⟨l.toArray⟩ : Str).cps.size ≤ i
    simpa using this
  go := by
    rintro i it m H S v it' rfl rs e
    obtain ⟨r, e1, rfl⟩ := vals_next e
    obtain ⟨e2, e3⟩ := drop_cons e1
    rw [List.getElem?_map] at e2
    cases hc : l[i]? with
    | none => rw [hc] at e2; cases e2
    | some c =>
      rw [hc] at e2; cases e2
      have hi := (List.getElem?_eq_some_iff.mp hc).1
      refine ⟨by show i < (⟨l.toArray⟩ : Str).cps.size; simpa using hi, fun x H' ⟨z1, d, z2, z3⟩ => ?_⟩
      subst z1 z3
      have z4 : l[i]? = some d := by simpa using z2
      rw [hc] at z4; cases z4
      exact ⟨Ex.rfl', rs, RV.str (hl.one (List.mem_of_getElem? hc)), by rw [e3]⟩
/-! ### for -/
theorem s_for {tg iter : PySem.Expr} {ci : G.EI} {t : G.T} {b : List Stmt} {cb : G.C} (hp : PassesOwn (model X.prog X.w) X.A X.env X.xe) (hc : X.calm = true) (hi : PI X tg iter (tI g o W ci)) (hg : PG X tg (tE g o t)) (hb : PSs X b (tS g o W cb))
    (hs : ∀ x, foldedSetIterable iter X.env x = pure x) : PS X (.For tg iter b [] pos) (tS g o W (sFor t ci cb)) :=
  PS.imp (ps_for hp hc hi hg hb hs) fun D σ H ⟨m, ρ, S, re, rs, p⟩ => by
    refine ⟨m, ρ, S, re, rs, PostG.mono (PostS.to re p) fun J H1 ⟨m1, it, S1, e1, rs1, ⟨P, wk, p0⟩, p1⟩ => ?_⟩
    refine ⟨fun i n σ H => ∃ m ρ S it, RE m H ρ σ ∧ RS g m S H ∧ P i it m H ∧ PostS g m H D W (fLoop t cb o n it ρ S), ⟨fuel, m1, ρ, S1, it, re.mono e1, rs1, p0, p1⟩, ?_⟩
    rintro i n σ H ⟨m, ρ, S, it, re, rs, pi, p⟩
    cases n with
    | zero => exact p.elim
    | succ n =>
      rw [fLoop_succ] at p
      cases q : it.next S with
      | none => rw [q] at p; exact p.elim
      | some z =>
        rw [q] at p
        cases z with
        | none => exact .inl ⟨wk.stop pi rs q, p m H σ Ex.rfl' rs re⟩
        | some z =>
          obtain ⟨v, it'⟩ := z
          obtain ⟨jg, jy⟩ := wk.go pi rs q
          refine .inr ⟨jg, fun σ' H' => ∃ m ρ S it, RE m H' ρ σ' ∧ RS g m S H' ∧ P (i + 1) it m H' ∧ PostS g m H' D W (fLoop t cb o n it ρ S), fun σ' H' z => ⟨n, Nat.lt_succ_self n, z⟩, fun x H' y => ?_⟩
          obtain ⟨x1, rs1, rv, pn⟩ := jy x H' y
          refine ⟨m, ρ, S, v, re.mono x1, rs1, rv, PostG.mono (PostG.no (PostS.to (rel := RE) (re.mono x1) (PostS.base x1 p))) fun σ2 H2 ⟨m2, ρ2, S2, e2, rs2, re2, p2⟩ => ?_⟩
          refine ⟨m2, ρ2, S2, re2, rs2, ?_⟩
          have pn2 : P (i + 1) it' m2 H2 := wk.mono pn e2.toEx0
          revert p2
          cases cb o ρ2 S2 with
          | nx ρ3 S3 => exact fun p2 m' H3 σ' x rs' re' => ⟨m', ρ3, S3, it', re', rs', wk.mono pn2 x.toEx0, PostS.base x p2⟩
          | bk ρ3 S3 => exact fun p2 => p2
          | rt v3 S3 => exact fun p2 => p2
          | exc c fs ρ3 S3 => exact fun p2 => p2
          | stuck w => exact fun p2 => p2
/-! ### targets that store names alone -/
def relV (vs : List Nat) (σ : St) : Mp → Hp → G.Env → St → Prop := fun m H ρ' σ' => RE m H ρ' σ' ∧ L2.wipe σ' vs = L2.wipe σ vs
def tEv (g : Gx) (o : Orc) (vs : List Nat) (t : G.T) : TG := fun x σ H Q => ∃ m ρ S v, RE m H ρ σ ∧ RS g m S H ∧ RV m H v x ∧ PostG g (relV vs σ) m H Q Eno (t v o ρ S)
def tEsv (g : Gx) (o : Orc) (vs : List Nat) (t : G.TL) : TGs := fun xs σ H Q => ∃ m ρ S ws, RE m H ρ σ ∧ RS g m S H ∧ RVs m H ws xs ∧ PostG g (relV vs σ) m H Q Eno (t ws o ρ S)
theorem wipe_get (σ : St) : ∀ (vs : List Nat) (i : Nat), (L2.wipe σ vs)[i]? = if i ∈ vs then (σ[i]?).map (fun _ => .none) else σ[i]?
  | [], i => by simp [L2.wipe]
  | v :: vs, i => by
    rw [L2.wipe]
    by_cases e : v = i
    · subst e
      rw [if_pos List.mem_cons_self]
      cases h : σ[v]? with
      | none =>
        have h1 : (L2.wipe σ vs).length ≤ v := by rw [wipe_length]; exact List.getElem?_eq_none_iff.mp h
        rw [List.getElem?_eq_none_iff.mpr (by simpa using h1)]; rfl
      | some x =>
        have h1 : v < (L2.wipe σ vs).length := by rw [wipe_length]; exact (List.getElem?_eq_some_iff.mp h).1
        rw [List.getElem?_set_self h1]; rfl
    · rw [List.getElem?_set_ne e, wipe_get σ vs i]
      by_cases c : i ∈ vs
      · rw [if_pos c, if_pos (List.mem_cons_of_mem _ c)]
      · rw [if_neg c, if_neg (fun z => (List.mem_cons.mp z).elim (fun z => e z.symm) c)]
theorem wipe_set {σ : St} {vs : List Nat} {i : Nat} {x : Option V} (h : i ∈ vs) : L2.wipe (σ.set i x) vs = L2.wipe σ vs := by
  refine List.ext_getElem? fun j => ?_
  rw [wipe_get, wipe_get]
  by_cases c : j ∈ vs
  · rw [if_pos c, if_pos c]
    by_cases e : i = j
    · subst e
      rw [List.getElem?_set]
      cases q : σ[i]? with
      | none =>
        have := List.getElem?_eq_none_iff.mp q
        simp; omega
      | some y =>
        have := (List.getElem?_eq_some_iff.mp q).1
        simp [this]
    · rw [List.getElem?_set_ne e]
  · rw [if_neg c, if_neg c, List.getElem?_set_ne (by rintro rfl; exact c h)]
theorem wipe_idem (σ : St) (vs : List Nat) : L2.wipe (L2.wipe σ vs) vs = L2.wipe σ vs := by
  refine List.ext_getElem? fun j => ?_
  rw [wipe_get, wipe_get]
  by_cases c : j ∈ vs
  · rw [if_pos c, if_pos c]; cases σ[j]? <;> rfl
  · rw [if_neg c, if_neg c]
theorem wipe_sub {σ τ : St} {vs ws : List Nat} (hs : ∀ i ∈ vs, i ∈ ws) (h : L2.wipe σ vs = L2.wipe τ vs) : L2.wipe σ ws = L2.wipe τ ws := by
  refine List.ext_getElem? fun j => ?_
  have hj := congrArg (fun l => l[j]?) h
  simp only [wipe_get] at hj
  rw [wipe_get, wipe_get]
  by_cases c : j ∈ ws
  · rw [if_pos c, if_pos c]
    by_cases d : j ∈ vs
    · rw [if_pos d, if_pos d] at hj; exact hj
    · rw [if_neg d, if_neg d] at hj; rw [hj]
  · rw [if_neg c, if_neg c]
    rw [if_neg (fun z => c (hs j z)), if_neg (fun z => c (hs j z))] at hj
    exact hj
theorem v_name {vs : List Nat} {i : Nat} {x : Str} (hv : i ∈ vs) (hN : X.N.Nodup) (hi : X.N[i]? = some x) (hx : Loc X.env.scope x) (hf : X.fn x = true ∨ X.env.scope.names.lookup x = some .local) : PG X (.Name x pos) (tEv g o vs (tName i)) :=
  PG.imp (pg_name hN hi hx hf) fun x σ H Q ⟨m, ρ, S, v, re, rs, rv, p⟩ => p m H _ Ex.rfl' rs ⟨by rw [setE_eq]; exact re.set i rv, wipe_set hv⟩
theorem vs_nil {vs : List Nat} : PGs X [] (tEsv g o vs tNil) := PGs.imp pgs_nil fun xs σ H Q ⟨m, ρ, S, ws, re, rs, rv, p⟩ => by
  cases rv with
  | nil => exact ⟨rfl, p m H σ Ex.rfl' rs ⟨re, rfl⟩⟩
  | cons _ _ => exact p.elim
theorem vs_cons {vs : List Nat} {es : List PySem.Expr} {t : G.T} {r : G.TL} (h1 : PG X e (tEv g o vs t)) (h2 : PGs X es (tEsv g o vs r)) (hs : (assignEach (e :: es) X.env).map (·.2) = assign e X.env :: (assignEach es X.env).map (·.2)) :
    PGs X (e :: es) (tEsv g o vs (tCons t r)) :=
  PGs.imp (pgs_cons h1 h2 hs) fun xs σ H Q ⟨m, ρ, S, ws, re, rs, rv, p⟩ => by
    cases rv with
    | nil => exact p.elim
    | @cons v x ws xs q qs =>
      refine ⟨x, xs, rfl, m, ρ, S, v, re, rs, q, PostG.mono (PostG.bind (rel' := relV vs σ) (k := fun ρ S => r ws o ρ S) p) fun σ1 H1 ⟨m1, ρ1, S1, e1, rs1, ⟨re1, w1⟩, p1⟩ => ⟨m1, ρ1, S1, ws, re1, rs1, qs.mono e1, ?_⟩⟩
      revert p1
      cases r ws o ρ1 S1 with
      | ok ρ2 S2 => exact fun p1 m' H' σ' x rs' ⟨re', w'⟩ => p1 m' H' σ' x rs' ⟨re', w'.trans w1⟩
      | exc c fs S2 => exact fun p1 => p1
      | stuck w => exact fun p1 => p1
theorem v_tup {vs : List Nat} {es : List PySem.Expr} {k : Nat} {t : G.TL} {n : Nat} (hc : X.calm = true) (h : PGs X es (tEsv g o vs t)) (hn : (assignEach es X.env).length = n) (hst : (assignEach es X.env).findIdx? (·.1) = .none) :
    PG X (.Tuple es k pos) (tEv g o vs (tTup n t)) := by
  refine ⟨fun pins s σ H x u Q I r ⟨m, ρ, S, v, re, rs, rv, p⟩ => ?_⟩
  cases rv with
  | @tup a xs ws ht rr =>
    have p' : PostG g (relV vs σ) m H Q Eno (match Nat.beq ws.length n with | true => t ws o ρ S | false => .stuck 82) := p
    cases e : Nat.beq ws.length n with
    | false => rw [e] at p'; exact p'.elim
    | true =>
      rw [e] at p'
      exact (pg_tup hc h hn hst).run pins s σ H _ u Q I r ⟨a, xs, rfl, SqT.of ht, by rw [← rr.length]; exact Nat.eq_of_beq_eq_true e, m, ρ, S, ws, re, rs, rr, p'⟩
  | @ref k a hm =>
    have p' : PostG g (relV vs σ) m H Q Eno (match S.get k with | some (.lst ws) => (match Nat.beq ws.length n with | true => t ws o ρ S | false => .stuck 82) | _ => .stuck 82) := p
    cases e1 : S.get k with
    | none => rw [e1] at p'; exact p'.elim
    | some ob =>
      cases ob with
      | lst ws =>
        rw [e1] at p'
        obtain ⟨q, ys, h1, _, h2, h3⟩ := rs.list e1 (RV.ref hm)
        cases h1
        have p2 : PostG g (relV vs σ) m H Q Eno (match Nat.beq ws.length n with | true => t ws o ρ S | false => .stuck 82) := p'
        cases e : Nat.beq ws.length n with
        | false => rw [e] at p2; exact p2.elim
        | true =>
          rw [e] at p2
          exact (pg_lst hc h hn hst).run pins s σ H _ u Q I r ⟨a, ys, rfl, SqL.of h2, by rw [← h3.length]; exact Nat.eq_of_beq_eq_true e, m, ρ, S, ws, re, rs, h3, p2⟩
      | _ => rw [e1] at p'; exact p'.elim
  | _ => exact p.elim
/-- such a target is a target -/
theorem PG.ofV {vs : List Nat} {t : G.T} (h : PG X e (tEv g o vs t)) : PG X e (tE g o t) := PG.imp h fun x σ H Q ⟨m, ρ, S, v, re, rs, rv, p⟩ => by
  refine ⟨m, ρ, S, v, re, rs, rv, ?_⟩
  revert p
  cases t v o ρ S with
  | ok ρ2 S2 => exact fun p m' H' σ' x rs' z => p m' H' σ' x rs' z.1
  | exc c fs S2 => exact fun p => p
  | stuck w => exact fun p => p
/-! ### comprehensions -/
section
variable {α β γ δ ε : Type} {rel : Mp → Hp → α → β → Prop} {rel' : Mp → Hp → γ → δ → Prop} {m0 : Mp} {H0 : Hp} {Q : β → Hp → Prop} {E E' : XK}
/-- the first part of a code of which nothing may leave, the base kept -/
theorem PostG.bindNo {r : R γ} {k : γ → Store → R ε} {l : ε → Store → R α} (x : Ex m0 H0 m H) (p : PostG g rel m0 H0 Q E ((noExc (r.bind k)).bind l)) :
    PostG g rel' m H (fun y H1 => ∃ m1 v S1, Ex m H m1 H1 ∧ RS g m1 S1 H1 ∧ rel' m1 H1 v y ∧ PostG g rel m0 H0 Q E ((noExc (k v S1)).bind l)) E' r := by
  cases r with
  | ok v S => exact fun m' H' y e rs q => ⟨m', v, S, e, rs, q, p⟩
  | exc c fs S => exact p.elim
  | stuck w => exact p.elim
/-- .. with the whole of the current state as its base (the new list is not the store's yet) -/
theorem PostG.bindNo' {r : R γ} {k : γ → Store → R ε} {l : ε → Store → R α} (p : PostG g rel m0 H0 Q E ((noExc (r.bind k)).bind l)) :
    PostG g rel' m H (fun y H1 => ∃ m1 v S1, Ex m H m1 H1 ∧ RS g m1 S1 H1 ∧ rel' m1 H1 v y ∧ PostG g rel m0 H0 Q E ((noExc (k v S1)).bind l)) E' r := by
  cases r with
  | ok v S => exact fun m' H' y e rs q => ⟨m', v, S, e, rs, q, p⟩
  | exc c fs S => exact p.elim
  | stuck w => exact p.elim
end
theorem noNo {α β : Type} (r : R α) (k : α → Store → R β) : noExc ((noExc r).bind k) = noExc (r.bind k) := by cases r <;> rfl
theorem maxLen_eq : maxLen = sizeLine := by decide
/-- the state of a comprehension's loop: D the new list, not the store's; m0, H0 the state ahead of it -/
structure LcI (g : Gx) (m0 : Mp) (H0 : Hp) (D : Addr) (m : Mp) (S : Store) (H : Hp) (acc : Acc) : Prop where
  ex : Ex m0 H0 m H
  rs : RS g m S H
  out : D ∉ m.l
  none0 : H0 D = .none
  at_ : ∃ ys, H D = some (.lst ys) ∧ RVs m H acc.2.reverse ys
  len : acc.1 = acc.2.length
theorem LcI.step {m0 m' : Mp} {H0 H' : Hp} {D : Addr} {S' : Store} {acc : Acc} (l : LcI g m0 H0 D m S H acc) (x : Ex m H m' H') (rs : RS g m' S' H') : LcI g m0 H0 D m' S' H' acc := by
  obtain ⟨ys, h1, h2⟩ := l.at_
  refine ⟨l.ex.trans x, rs, fun q => ?_, l.none0, ⟨ys, x.keep _ _ h1 (.inr l.out), h2.mono x⟩, l.len⟩
  have := x.new D q l.out
  rw [h1] at this; cases this
theorem RS.updOut {D : Addr} {u : HO} {ys : List V} (rs : RS g m S H) (hD : H D = some (.lst ys)) (out : D ∉ m.l) : RS g m S (L2.upd H D u) ∧ Ex0 m H m (L2.upd H D u) := by
  have x : Ex0 m H m (L2.upd H D u) := ⟨rfl, List.prefix_rfl, fun b o h i => by
    have : b ≠ D := by rintro rfl; rw [hD] at h; cases h; cases i
    rw [upd_ne this]; exact h⟩
  refine ⟨⟨rs.K, rs.len, rs.lim, rs.inj, fun n o h => ?_, rs.all, fun b fs h => ?_, rs.he⟩, x⟩
  · obtain ⟨a, h1, h2⟩ := rs.obj n o h
    refine ⟨a, h1, RO.mono0 x (fun v hv => ?_) h2⟩
    have : a ≠ D := by rintro rfl; exact out (List.mem_of_getElem? h1)
    rw [upd_ne this]; exact hv
  · obtain ⟨h1, hs, h2, h3⟩ := rs.xf b fs h
    have : b ≠ D := by rintro rfl; rw [hD] at h2; cases h2
    exact ⟨h1, hs, by rw [upd_ne this]; exact h2, RF.mono0 x h3⟩
theorem LcI.push {m0 : Mp} {H0 : Hp} {D : Addr} {acc : Acc} {v : Val} {y : V} (l : LcI g m0 H0 D m S H acc) (rv : RV m H v y) : ∃ ys, H D = some (.lst ys) ∧ ys.length = acc.1 ∧ LcI g m0 H0 D m S (upd H D (.lst (ys ++ [y]))) (acc.1 + 1, v :: acc.2) ∧ Ex0 m H m (upd H D (.lst (ys ++ [y]))) := by
  obtain ⟨ys, h1, h2⟩ := l.at_
  obtain ⟨rs, x⟩ := l.rs.updOut (u := .lst (ys ++ [y])) h1 l.out
  refine ⟨ys, h1, ?_, ⟨⟨l.ex.K, l.ex.ea, l.ex.pre, fun b o h c => ?_, l.ex.new⟩, rs, l.out, l.none0, ⟨_, upd_same, ?_⟩, ?_⟩, x⟩
  · rw [← h2.length, l.len]; simp
  · have : b ≠ D := by rintro rfl; rw [l.none0] at h; cases h
    rw [upd_ne this]; exact l.ex.keep b o h c
  · simp only [List.reverse_cons]
    exact RVs.app (h2.mono0 x) (.cons (rv.mono0 x) .nil)
  · simp [l.len]
/-- the end: the list comes to the store -/
theorem LcI.fin {m0 : Mp} {H0 : Hp} {D : Addr} {acc : Acc} {Q : VK} {E : XK} (l : LcI g m0 H0 D m S H acc) (p : PostG g RV m0 H0 Q E (alloc (.lst acc.2.reverse) S)) : Q (.ref D) H := by
  unfold G.alloc at p
  cases e : Nat.blt S.nx big with
  | false => rw [e] at p; exact p.elim
  | true =>
    rw [e] at p
    have hl : S.nx < big := by simpa [Nat.blt_eq] using e
    obtain ⟨ys, h1, h2⟩ := l.at_
    have x0 : Ex0 m H (m.add D) H := ⟨rfl, List.prefix_append _ _, fun _ _ q _ => q⟩
    have rs1 : RS g (m.add D) (S.new (.lst acc.2.reverse)) H := l.rs.newAt l.out hl ⟨ys, h1, h2.mono0 x0⟩
    refine p (m.add D) H _ ⟨l.ex.K, l.ex.ea, l.ex.pre.trans (List.prefix_append _ _), l.ex.keep, fun a h1 h2 => ?_⟩ rs1 (RV.ref ?_)
    · rcases List.mem_append.mp h1 with q | q
      · exact l.ex.new a q h2
      · rw [List.mem_singleton.mp q]; exact l.none0
    · have h3 : (m.add D).l = m.l ++ [D] := rfl
      rw [h3, ← l.rs.len]; simp
end
end G
set_option Elab.async false
set_option linter.all false
set_option maxRecDepth 100000
namespace G
open PySem PySem.Spec L2
open PyProof.Rows hiding St
/-! ### list comprehensions -/
/-- what a collector's answer is to reach -/
def PostC (L : Mp → Store → Hp → Acc → Prop) (ms : Mp) (Hs : Hp) (Fin : Hp → Prop) : R Acc → Prop
  | .ok acc S => ∀ m H, Ex0 ms Hs m H → L m S H acc → Fin H
  | .exc _ _ _ => False
  | .stuck _ => False
theorem Ex0.trans {m m' m'' : Mp} {H H' H'' : Hp} (x : Ex0 m H m' H') (y : Ex0 m' H' m'' H'') : Ex0 m H m'' H'' :=
  ⟨y.K.trans x.K, x.pre.trans y.pre, fun b o h i => y.keep b o (x.keep b o h i) i⟩
/-- what is known of the state while the collector goes on -/
structure LOk (g : Gx) (L : Mp → Store → Hp → Acc → Prop) : Prop where
  rs : ∀ {m S H acc}, L m S H acc → RS g m S H
  step : ∀ {m m' S S' H H' acc}, L m S H acc → Ex m H m' H' → RS g m' S' H' → L m' S' H' acc
  ea : ∀ {m m' S S' H H' acc acc'}, L m S H acc → L m' S' H' acc' → m.ea = m'.ea
section
variable {g : Gx} {o : Orc} {m0 : Mp} {H0 : Hp} {D : Addr} {L : Mp → Store → Hp → Acc → Prop} {ms m m1 : Mp} {Hs H H1 : Hp} {Fin : Hp → Prop} {α β : Type} {rel : Mp → Hp → α → β → Prop} {X : Cx} {W : WX}
theorem LcI.ok : LOk g (LcI g m0 H0 D) := ⟨fun l => l.rs, fun l x rs => l.step x rs, fun l l' => l.ex.ea.trans l'.ex.ea.symm⟩
theorem PostC.base {r : R Acc} (x : Ex0 ms Hs m H) (p : PostC L ms Hs Fin r) : PostC L m H Fin r := by
  cases r with
  | ok acc S => exact fun m' H' y l => p m' H' (x.trans y) l
  | exc c fs S => exact p
  | stuck w => exact p
theorem PostC.bind {r : R α} {k : α → Store → R Acc} {E : XK} (p : PostC L m H Fin (r.bind k)) :
    PostG g rel m H (fun y H1 => ∃ m1 v S1, Ex m H m1 H1 ∧ RS g m1 S1 H1 ∧ rel m1 H1 v y ∧ PostC L m1 H1 Fin (k v S1)) E r := by
  cases r with
  | ok v S => exact fun m' H' y e rs q => ⟨m', v, S, e, rs, q, p.base e.toEx0⟩
  | exc c fs S => exact p.elim
  | stuck w => exact p.elim
theorem PostC.bindNo {r : R α} {k : α → Store → R Acc} {E : XK} (p : PostC L m H Fin ((noExc r).bind k)) :
    PostG g rel m H (fun y H1 => ∃ m1 v S1, Ex m H m1 H1 ∧ RS g m1 S1 H1 ∧ rel m1 H1 v y ∧ PostC L m1 H1 Fin (k v S1)) E r := by
  cases r with
  | ok v S => exact fun m' H' y e rs q => ⟨m', v, S, e, rs, q, p.base e.toEx0⟩
  | exc c fs S => exact p.elim
  | stuck w => exact p.elim
/-- what a collector does, as the reading of the turns -/
abbrev Bdy := (Hp → Prop) → St → Hp → Prop
def ColOk (g : Gx) (o : Orc) (L : Mp → Store → Hp → Acc → Prop) (k : Col) (B : Bdy) : Prop :=
  ∀ (m : Mp) (H : Hp) (ρ : G.Env) (σ : St) (S : Store) (acc : Acc) (Nx : Hp → Prop), L m S H acc → RE m H ρ σ → PostC L m H Nx (k o ρ acc S) → B Nx σ H
def bElt (te : TE) (D : Addr) : Bdy := fun Nx σ H => te σ H fun y H4 => ∃ acc, H4 D = some (.lst acc) ∧ acc.length < sizeLine ∧ Nx (upd H4 D (.lst (acc ++ [y])))
def bIf (tt : TT) (B : Bdy) : Bdy := fun Nx σ H => tt σ H fun b H3 => if b = true then B Nx σ H3 else Nx H3
theorem col_elt {ce : G.E} : ColOk g o (LcI g m0 H0 D) (cElt ce) (bElt (tM g o Wno ce) D) := fun m H ρ σ S acc Nx l re p => by
  refine ⟨m, ρ, S, re, l.rs, PostG.mono (PostC.bind p) fun y H4 ⟨m4, v, S4, e4, rs4, rv, p4⟩ => ?_⟩
  cases e : Nat.blt acc.1 maxLen with
  | false => rw [e] at p4; exact p4.elim
  | true =>
    rw [e] at p4
    obtain ⟨ys, h1, h2, h3, h4⟩ := (l.step e4 rs4).push rv
    exact ⟨ys, h1, by rw [h2, ← maxLen_eq]; simpa [Nat.blt_eq] using e, p4 m4 _ h4 h3⟩
theorem col_yes {k : Col} {B : Bdy} (h : ColOk g o L k B) : ColOk g o L k (bIf tYes B) := fun m H ρ σ S acc Nx l re p => by
  show if true = true then B Nx σ H else Nx H
  exact h m H ρ σ S acc Nx l re p
theorem col_if {cc : G.E} {k : Col} {B : Bdy} (HL : LOk g L) (h : ColOk g o L k B) : ColOk g o L (cIf cc k) (bIf (tT g o Wno cc) B) := fun m H ρ σ S acc Nx l re p => by
  have p2 : PostC L m H Nx (((cc o ρ S).bind tst).bind fun t S => match t with | true => k o ρ acc S | false => .ok acc S) := by
    unfold cIf at p
    rw [bindA]
    revert p
    cases cc o ρ S with
    | ok v S1 =>
      show PostC L m H Nx (match truthy S1 v with | some true => k o ρ acc S1 | some false => .ok acc S1 | .none => .stuck 91) → PostC L m H Nx ((tst v S1).bind fun t S => match t with | true => k o ρ acc S | false => .ok acc S)
      unfold tst
      cases truthy S1 v with
      | none => exact fun p => p.elim
      | some t => cases t <;> exact id
    | exc c fs S1 => exact id
    | stuck w => exact id
  refine ⟨m, ρ, S, re, HL.rs l, PostG.mono (PostC.bind p2) fun b H3 ⟨m3, t, S3, e3, rs3, rb, p3⟩ => ?_⟩
  cases rb
  cases b with
  | true => exact h m3 H3 ρ σ S3 acc Nx (HL.step l e3 rs3) (re.mono e3) p3
  | false => exact p3 m3 H3 ⟨rfl, List.prefix_rfl, fun _ _ q _ => q⟩ (HL.step l e3 rs3)
/-- a loop of turns -/
def tTurns (J : L2.It) (gt : TG) (vs : List Nat) (σ : St) (B : Bdy) (Fin : Hp → Prop) (Hb : Hp) : Prop := ∃ W : Nat → Nat → Hp → Prop, (∃ m, W 0 m Hb) ∧ ∀ i m H, W i m H →
  (J.stop i H ∧ Fin H) ∨ (J.go i H ∧ ∃ Nx : Hp → Prop, (∀ H', Nx H' → ∃ m', m' < m ∧ W (i + 1) m' H') ∧ ∀ x H', J.yld i H x H' → gt x (L2.wipe σ vs) H' fun σ2 H2 => L2.wipe σ2 vs = L2.wipe σ vs ∧ B Nx σ2 H2)
theorem turns_ok {J : L2.It} {P : Nat → G.It → Mp → Hp → Prop} {t : G.T} {k : Col} {B : Bdy} {vs : List Nat} {it : G.It} {S : Store} {acc : Acc} {ρ : G.Env} {σ : St} {n : Nat} (HL : LOk g L) (wk : Walks g J P) (hk : ColOk g o L k B) (l : L m S H acc) (pi : P 0 it m H) (re : RE m H ρ σ)
    (p : PostC L m H Fin (cLoop t k o (G.wipe ρ vs) n it acc S)) : tTurns J (tEv g o vs t) vs σ B Fin H := by
  refine ⟨fun i n H' => ∃ m' S it acc, Ex0 m H m' H' ∧ L m' S H' acc ∧ P i it m' H' ∧ PostC L m' H' Fin (cLoop t k o (G.wipe ρ vs) n it acc S), ⟨n, m, S, it, acc, ⟨rfl, List.prefix_rfl, fun _ _ q _ => q⟩, l, pi, p⟩, ?_⟩
  have l00 := l
  rintro i n H' ⟨m', S, it, acc, x, l, pi, p⟩
  cases n with
  | zero => exact p.elim
  | succ n =>
    rw [cLoop_succ] at p
    cases q : it.next S with
    | none => rw [q] at p; exact p.elim
    | some z =>
      rw [q] at p
      cases z with
      | none => exact .inl ⟨wk.stop pi (HL.rs l) q, p m' H' ⟨rfl, List.prefix_rfl, fun _ _ q _ => q⟩ l⟩
      | some z =>
        obtain ⟨v, it'⟩ := z
        obtain ⟨jg, jy⟩ := wk.go pi (HL.rs l) q
        refine .inr ⟨jg, fun H'' => ∃ m' S it acc, Ex0 m H m' H'' ∧ L m' S H'' acc ∧ P (i + 1) it m' H'' ∧ PostC L m' H'' Fin (cLoop t k o (G.wipe ρ vs) n it acc S), fun H'' z => ⟨n, Nat.lt_succ_self n, z⟩, fun y H2 yd => ?_⟩
        obtain ⟨x1, rs1, rv, pn⟩ := jy y H2 yd
        have x2 : Ex0 m H m' H2 := x.trans x1.toEx0
        refine ⟨m', G.wipe ρ vs, S, v, (re.mono0 x2 (HL.ea l l00)).wipe vs, rs1, rv, PostG.mono (PostC.bindNo (p.base x1.toEx0)) fun σ2 H3 ⟨m3, ρ3, S3, e3, rs3, ⟨re3, w3⟩, p3⟩ => ?_⟩
        refine ⟨w3.trans (wipe_idem σ vs), hk m3 H3 ρ3 σ2 S3 acc _ (HL.step l (x1.trans e3) rs3) re3 ?_⟩
        have pn3 : P (i + 1) it' m3 H3 := wk.mono pn e3.toEx0
        revert p3
        cases k o ρ3 acc S3 with
        | ok acc4 S4 => exact fun p3 m4 H4 x4 l4 => ⟨m4, S4, it', acc4, x2.trans (e3.toEx0.trans x4), l4, wk.mono pn3 x4, p3.base x4⟩
        | exc c fs S4 => exact fun p3 => p3
        | stuck w => exact fun p3 => p3
def bFor (wi : TI) (gt : TG) (vs : List Nat) (B : Bdy) : Bdy := fun Nx σ H => wi σ H fun J1 H4 => tTurns J1 gt vs σ B Nx H4
/-- an inner clause -/
theorem col_for {t : G.T} {i : G.EI} {k : Col} {B : Bdy} {vs : List Nat} (HL : LOk g L) (hk : ColOk g o L k B) : ColOk g o L (cFor vs t i k) (bFor (tI g o Wno i) (tEv g o vs t) vs B) := fun m H ρ σ S acc Nx l re p => by
  refine ⟨m, ρ, S, re, HL.rs l, PostG.mono (PostC.bind p) fun J H1 ⟨m1, it, S1, e1, rs1, ⟨P, wk, p0⟩, p1⟩ => ?_⟩
  exact turns_ok HL wk hk (HL.step l e1 rs1) p0 (re.mono e1) p1
/-- the whole: from the answer's post to the turns' reading -/
theorem lc_ok {t : G.T} {i : G.EI} {k : Col} {B : Addr → Bdy} {vs : List Nat} {σ : St} {Q : VK} (hk : ∀ m0 H0 D, ColOk g o (LcI g m0 H0 D) k (B D)) (h : tM g o W (eLc (cFor vs t i k)) σ H Q) :
    tI g o W i σ H fun J H1 => ∀ D, H1 D = .none → tTurns J (tEv g o vs t) vs σ (B D) (fun H => Q (.ref D) H) (upd H1 D (.lst [])) := by
  obtain ⟨m, ρ, S, re, rs, p⟩ := h
  refine ⟨m, ρ, S, re, rs, ?_⟩
  have p2 : PostG g RV m H Q (atS W σ) ((noExc ((i o ρ S).bind fun it S => cLoop t k o (G.wipe ρ vs) fuel it (0, []) S)).bind fun acc S => alloc (.lst acc.2.reverse) S) := p
  refine PostG.mono (PostG.bindNo' (rel' := RI g) p2) fun J H1 ⟨m1, it, S1, e1, rs1, ⟨P, wk, p0⟩, p1⟩ D hD => ?_
  have out : D ∉ m1.l := rs1.notIn hD
  have x0 : Ex m1 H1 m1 (upd H1 D (.lst [])) := Ex.upd hD
  have l : LcI g m1 H1 D m1 S1 (upd H1 D (.lst [])) (0, []) := ⟨x0, rs1.upd hD, out, hD, ⟨[], upd_same, .nil⟩, rfl⟩
  refine turns_ok (n := fuel) LcI.ok wk (hk m1 H1 D) l (wk.mono p0 x0.toEx0) ((re.mono e1).mono x0) ?_
  have p3 := PostG.base e1 p1
  revert p3
  cases cLoop t k o (G.wipe ρ vs) fuel it (0, []) S1 with
  | ok acc S2 => exact fun p3 m2 H2 x2 l2 => l2.fin p3
  | exc c fs S2 => exact fun p3 => p3.elim
  | stuck w => exact fun p3 => p3.elim
end
section
variable {X : Cx} {g : Gx} {o : Orc} {W : WX} {elt tg iter tg1 iter1 c c1 : PySem.Expr} {scope : Scope} {own : List (Str × Nat)} {pos spos py : Pos} {t t1 : G.T} {ci ci1 : G.EI} {cc cc1 ce : G.E} {y : Str} {i : Nat} {vs1 : List Nat}
/-- the context of a block, and any rule there -/
abbrev InBlk (X : Cx) (scope : Scope) (F : Cx → Prop) : Prop := ∀ (s : Shared) (H : Hp) (C : Addr) (cl : List (Str × Addr)) (fp : List Addr), F (X.blk s H scope (compEnvC scope cl C X.env) fp)
/-- the tests of a clause: none, or one -/
inductive Tst (X : Cx) (g : Gx) (o : Orc) (scope : Scope) : List PySem.Expr → (Col → Col) → Prop
  | no : Tst X g o scope [] id
  | one {c : PySem.Expr} {cc : G.E} (h : InBlk X scope fun Y => PT Y c (tT g o Wno cc)) : Tst X g o scope [c] (cIf cc)
theorem m_lc {ifs : List PySem.Expr} {f : Col → Col} (hc : X.calm = true) (hN : X.N.Nodup) (hi : PI X tg iter (tI g o W ci)) (ok : BlkOk X.N X.env.scope scope own)
    (hg : InBlk X scope fun Y => PG Y tg (tEv g o (own.map (·.2)) t)) (ht : Tst X g o scope ifs f) (he : InBlk X scope fun Y => PE Y elt (tM g o Wno ce)) (hs : ∀ x, foldedSetIterable iter X.env x = pure x) :
    PE X (.ListComp elt [⟨tg, iter, ifs, 0⟩] scope pos) (tM g o W (eLc (cFor (own.map (·.2)) t ci (f (cElt ce))))) := by
  cases ht with
  | no => exact PE.imp (pe_lc hc hN hi ok hg (fun _ _ _ _ _ => pts_nil) he hs) fun σ H Q h => lc_ok (B := fun D => bIf tYes (bElt (tM g o Wno ce) D)) (fun _ _ _ => col_yes col_elt) h
  | one h1 => exact PE.imp (pe_lc hc hN hi ok hg (fun s H C cl fp => pts_one (h1 s H C cl fp)) he hs) fun σ H Q h => lc_ok (B := fun D => bIf _ (bElt (tM g o Wno ce) D)) (fun _ _ _ => col_if LcI.ok col_elt) h
theorem tAsg_imp {a b : TE} {c : TG} (hi : ∀ σ H Q, b σ H Q → a σ H Q) (D : Ends) (σ : St) (H : Hp) (h : tAsg b c D σ H) : tAsg a c D σ H := hi _ _ _ h
theorem s_setOf {ce : G.E} {i : Nat} {te : TE} (D : Ends) (σ : St) (H : Hp) (h : tS g o W (sAsg (tName i) ce) D σ H) : tAsg (tM g o W ce) (gName i) D σ H := by
  obtain ⟨m, ρ, S, re, rs, p⟩ := h
  exact ⟨m, ρ, S, re, rs, PostG.mono (PostS.to re p) fun x H1 ⟨m1, v, S1, e1, rs1, rv, p1⟩ => p1 m1 H1 _ Ex.rfl' rs1 (by rw [setE_eq]; exact (re.mono e1).set i rv)⟩
theorem s_lc {ifs : List PySem.Expr} {f : Col → Col} (hc : X.calm = true) (hN : X.N.Nodup) (hy : X.N[i]? = some y) (hyl : X.env.scope.names.lookup y = some .local)
    (hsw : swapsWith (.ListComp elt [⟨tg, iter, ifs, 0⟩] scope pos) (some (.Name y py)) spos.line X.env = pure true) (hi : PI X tg iter (tI g o W ci)) (ok : BlkOk X.N X.env.scope scope own)
    (hg : InBlk X scope fun Y => PG Y tg (tEv g o (own.map (·.2)) t)) (ht : Tst X g o scope ifs f) (he : InBlk X scope fun Y => PE Y elt (tM g o Wno ce)) (hs : ∀ x, foldedSetIterable iter X.env x = pure x) :
    PS X (.Assign [.Name y py] (.ListComp elt [⟨tg, iter, ifs, 0⟩] scope pos) spos) (tS g o W (sAsg (tName i) (eLc (cFor (own.map (·.2)) t ci (f (cElt ce)))))) := by
  cases ht with
  | no => exact PS.imp (ps_setLc hc hN hy hyl hsw hi ok hg (fun _ _ _ _ _ => pts_nil) he hs) fun D σ H h => tAsg_imp (fun σ H Q h => lc_ok (B := fun D => bIf tYes (bElt (tM g o Wno ce) D)) (fun _ _ _ => col_yes col_elt) h) D σ H (s_setOf (te := tM g o W ce) D σ H h)
  | one h1 => exact PS.imp (ps_setLc hc hN hy hyl hsw hi ok hg (fun s H C cl fp => pts_one (h1 s H C cl fp)) he hs) fun D σ H h => tAsg_imp (fun σ H Q h => lc_ok (B := fun D => bIf _ (bElt (tM g o Wno ce) D)) (fun _ _ _ => col_if LcI.ok col_elt) h) D σ H (s_setOf (te := tM g o W ce) D σ H h)
/-- two clauses; of tests each has none or one -/
theorem m_lc2 {ifs ifs1 : List PySem.Expr} {f f1 : Col → Col} (hc : X.calm = true) (hN : X.N.Nodup) (hi : PI X tg iter (tI g o W ci)) (ok : BlkOk X.N X.env.scope scope own) (hv : ∀ i ∈ vs1, i ∈ own.map (·.2))
    (hg : InBlk X scope fun Y => PG Y tg (tEv g o (own.map (·.2)) t)) (ht : Tst X g o scope ifs f) (hi1 : InBlk X scope fun Y => PI Y tg1 iter1 (tI g o Wno ci1)) (hg1 : InBlk X scope fun Y => PG Y tg1 (tEv g o vs1 t1)) (ht1 : Tst X g o scope ifs1 f1)
    (he : InBlk X scope fun Y => PE Y elt (tM g o Wno ce)) (hs : ∀ x, foldedSetIterable iter X.env x = pure x) (hs1 : ∀ env x, foldedSetIterable iter1 env x = pure x) :
    PE X (.ListComp elt [⟨tg, iter, ifs, 0⟩, ⟨tg1, iter1, ifs1, 0⟩] scope pos) (tM g o W (eLc (cFor (own.map (·.2)) t ci (f (cFor vs1 t1 ci1 (f1 (cElt ce))))))) := by
  cases ht with
  | no =>
    cases ht1 with
    | no => exact PE.imp (pe_lc2 hc hN hi ok hv hg (fun _ _ _ _ _ => pts_nil) hi1 hg1 (fun _ _ _ _ _ => pts_nil) he hs hs1) fun σ H Q h => lc_ok (B := fun D => bIf tYes (bFor (tI g o Wno ci1) (tEv g o vs1 t1) vs1 (bIf tYes (bElt (tM g o Wno ce) D)))) (fun _ _ _ => col_yes (col_for LcI.ok (col_yes col_elt))) h
    | one h2 => exact PE.imp (pe_lc2 hc hN hi ok hv hg (fun _ _ _ _ _ => pts_nil) hi1 hg1 (fun s H C cl fp => pts_one (h2 s H C cl fp)) he hs hs1) fun σ H Q h => lc_ok (B := fun D => bIf tYes (bFor (tI g o Wno ci1) (tEv g o vs1 t1) vs1 (bIf _ (bElt (tM g o Wno ce) D)))) (fun _ _ _ => col_yes (col_for LcI.ok (col_if LcI.ok col_elt))) h
  | one h1 =>
    cases ht1 with
    | no => exact PE.imp (pe_lc2 hc hN hi ok hv hg (fun s H C cl fp => pts_one (h1 s H C cl fp)) hi1 hg1 (fun _ _ _ _ _ => pts_nil) he hs hs1) fun σ H Q h => lc_ok (B := fun D => bIf _ (bFor (tI g o Wno ci1) (tEv g o vs1 t1) vs1 (bIf tYes (bElt (tM g o Wno ce) D)))) (fun _ _ _ => col_if LcI.ok (col_for LcI.ok (col_yes col_elt))) h
    | one h2 => exact PE.imp (pe_lc2 hc hN hi ok hv hg (fun s H C cl fp => pts_one (h1 s H C cl fp)) hi1 hg1 (fun s H C cl fp => pts_one (h2 s H C cl fp)) he hs hs1) fun σ H Q h => lc_ok (B := fun D => bIf _ (bFor (tI g o Wno ci1) (tEv g o vs1 t1) vs1 (bIf _ (bElt (tM g o Wno ce) D)))) (fun _ _ _ => col_if LcI.ok (col_for LcI.ok (col_if LcI.ok col_elt))) h
end
end G
set_option Elab.async false
set_option linter.all false
set_option maxRecDepth 100000
namespace G
open PySem PySem.Spec L2
open PyProof.Rows hiding St
/-! ### enumerate, zip over lists, tuples, texts -/
inductive SK where
  | lst (a : Addr) | tup (a : Addr) | str (x : Str)
def SK.cont (H : Hp) : SK → List V → Prop
  | .lst a, xs => H a = some (.lst xs)
  | .tup a, xs => H a = some (.tup xs)
  | .str x, xs => xs = x.cps.toList.map fun c => V.str ⟨#[c]⟩
def SK.stt (it i : Nat) (h : Heap) : SK → Prop
  | .lst a => h.IsListIter it a i
  | .tup a => h.IsTupleIter it a i
  | .str x => ∃ t, h.IsStrIter it (strIterType x) x t i
def SK.obj : SK → Value → PySem.Obj
  | .lst a, _ => { cls := .type "list_iterator", data := .fields #[.ref a, .int 0 0] }
  | .tup a, _ => { cls := .type "tuple_iterator", data := .fields #[.ref a, .int 0 0] }
  | .str x, v => { cls := .type (strIterType x), data := .fields #[v, .int 0 0] }
def SK.val : SK → V
  | .lst a => .ref a
  | .tup a => .ref a
  | .str x => .str x
section
variable {X : Cx} {g : Gx} {pins : List (Addr × PySem.Obj)} {s : Shared} {σ : St} {m m' : Mp} {H H' : Hp} {S : Store} {k : SK} {xs ys : List V} {it i : Nat} {A : Around}
theorem SK.uniq (h : k.cont H xs) (h' : k.cont H ys) : xs = ys := by
  cases k with
  | lst a => exact HO.lst.inj (Option.some.inj (h.symm.trans h'))
  | tup a => exact HO.tup.inj (Option.some.inj (h.symm.trans h'))
  | str x => exact h.trans h'.symm
theorem Vals.back : ∀ {xs : List V} {us : List Value} {j : Nat} {u : Value}, Vals xs us → us[j]? = some u → ∃ x, xs[j]? = some x ∧ RelV x u
  | _, _, _, _, .nil, e => by simp at e
  | _, _, 0, _, .cons r _, e => by simp at e; subst e; exact ⟨_, rfl, r⟩
  | _, _, j + 1, u, .cons _ r, e => by
    obtain ⟨x, h1, h2⟩ := Vals.back (j := j) (u := u) r (by simpa using e)
    exact ⟨x, by simpa using h1, h2⟩
theorem SK.draws (hh : A.handled = .none) (I : Inv X pins σ H s) (c : k.cont H xs) (st : k.stt it i s.heap) (f : H it = .none) : ∃ (fp : List Addr) (P : Nat → Value → Prop) (St : Nat → Heap → Prop), Draws X.prog X.w A it fp xs.length P St ∧ St i s.heap ∧
    (∀ j u, P j u → ∃ x, xs[j]? = some x ∧ RelV x u) ∧ (∀ j h, St j h → k.stt it j h) ∧ it ∈ fp ∧ ∀ b ∈ fp, b = it ∨ H b ≠ .none := by
  cases k with
  | lst a =>
    obtain ⟨its, rv, p, hz⟩ := I.list (SqL.of c)
    have c' : H a = some (.lst xs) := c
    have ne : a ≠ it := by rintro rfl; rw [f] at c'; cases c'
    refine ⟨_, _, _, (show xs.length = its.toArray.size by rw [rv.length]; simp) ▸ Draws.list hh it a ne its.toArray, ⟨st, p.isList⟩, fun j u hu => Vals.back rv (by simpa using hu), fun j h q => q.1, by simp, fun b hb => ?_⟩
    have : b = it ∨ b = a := by simpa using hb
    rcases this with q | q
    · exact .inl q
    · exact .inr (by rw [q, c']; exact fun z => nomatch z)
  | tup a =>
    obtain ⟨its, rv, p, hz⟩ := I.tuple (SqT.of c)
    have c' : H a = some (.tup xs) := c
    have ne : a ≠ it := by rintro rfl; rw [f] at c'; cases c'
    refine ⟨_, _, _, (show xs.length = its.toArray.size by rw [rv.length]; simp) ▸ Draws.tuple hh it a ne its.toArray, ⟨st, p⟩, fun j u hu => Vals.back rv (by simpa using hu), fun j h q => q.1, by simp, fun b hb => ?_⟩
    have : b = it ∨ b = a := by simpa using hb
    rcases this with q | q
    · exact .inl q
    · exact .inr (by rw [q, c']; exact fun z => nomatch z)
  | str x =>
    obtain ⟨t, st⟩ := st
    have c' : xs = x.cps.toList.map fun c => V.str ⟨#[c]⟩ := c
    subst c'
    refine ⟨_, _, _, (show (x.cps.toList.map fun c => V.str ⟨#[c]⟩).length = x.cps.size by simp) ▸ Draws.text hh it x t, st, fun j u ⟨c, w, h1, h2⟩ => ⟨.str ⟨#[c]⟩, ?_, by rw [h2]; exact ⟨w, rfl⟩⟩, fun j h q => ⟨t, q⟩, by simp, fun b hb => .inl (by simpa using hb)⟩
    simp [h1]
theorem SK.stt_obj {h : Heap} (st : k.stt it i h) : ∃ o, h.get? it = some o ∧ ∀ v, o.data ≠ .cell v := by
  cases k with
  | lst a => obtain ⟨o, e, c, d⟩ := st; exact ⟨o, e, fun v z => by rw [d] at z; cases z⟩
  | tup a => obtain ⟨o, e, c, d⟩ := st; exact ⟨o, e, fun v z => by rw [d] at z; cases z⟩
  | str x => obtain ⟨t, o, e, c, d⟩ := st; exact ⟨o, e, fun v z => by rw [d] at z; cases z⟩
theorem SK.stt_at {h h' : Heap} (st : k.stt it i h) (q : ∀ o, h.get? it = some o → h'.get? it = some o) : k.stt it i h' := by
  cases k with
  | lst a => obtain ⟨o, e, c, d⟩ := st; exact ⟨o, q o e, c, d⟩
  | tup a => obtain ⟨o, e, c, d⟩ := st; exact ⟨o, q o e, c, d⟩
  | str x => obtain ⟨t, o, e, c, d⟩ := st; exact ⟨t, o, q o e, c, d⟩
theorem SK.begins (I : Inv X pins σ H s) (c : k.cont H xs) {u : Value} (r : RelV k.val u) : ∃ B : Heap → Prop, Begins u (k.obj u) B ∧ B s.heap ∧ ∀ h, h.get? it = some (k.obj u) → k.stt it 0 h := by
  cases k with
  | lst a =>
    cases r
    obtain ⟨its, rv, p, hz⟩ := I.list (SqL.of c)
    exact ⟨_, begins_list a its.toArray, p.isList, fun h e => ⟨_, e, rfl, rfl⟩⟩
  | tup a =>
    cases r
    obtain ⟨its, rv, p, hz⟩ := I.tuple (SqT.of c)
    exact ⟨_, begins_tuple a its.toArray, p, fun h e => ⟨_, e, rfl, rfl⟩⟩
  | str x =>
    obtain ⟨t, rfl⟩ := r
    exact ⟨_, begins_text x t, trivial, fun h e => ⟨t, _, e, rfl, rfl⟩⟩
end
section
set_option maxHeartbeats 1000000 in
theorem meets_enumerate_1B {v : Value} {o : PySem.Obj} {H : Heap → Prop} (B : Begins v o H) :
    Meets (Builtin.«enumerate.__new__» ⟨[.type "enumerate", v], []⟩) (fun _ R s => H s.heap ∧
      R (.ok (.ret (.ref (s.heap.push o).objs.size))) { s with heap := (s.heap.push o).push { cls := .type "enumerate", data := .fields #[.none, .bool false, .ref s.heap.objs.size, rawInt 0, .none, .none] } }) :=
  .of_wp fun prog w A R s h => by
    obtain ⟨hp, g, d, tk, os⟩ := s; obtain ⟨h1, h⟩ := h
    have hsub := sub_enumerate
    have q1 : ∀ {A' : Around} {E : Value → Shared → Prop} {Q : Value → Shared → Prop}, Q (.ref hp.objs.size) ⟨hp.push o, g, d, tk, os⟩ → wpAny (model prog w) A' (pyIter v) Q E ⟨hp, g, d, tk, os⟩ :=
      fun q => B.iter prog w _ _ ⟨hp, g, d, tk, os⟩ _ h1 q
    wp_walk using q1
    refine wpAny_stack_any fun st => wpAny_pure ?_
    split
    · rename_i c _ _ _ _ _
      cases (c == Value.type "enumerate")
      · wp_walk using q1
        exact ⟨_, rfl, h⟩
      · wp_walk using q1
        exact ⟨_, rfl, h⟩
    · wp_walk using q1
      exact ⟨_, rfl, h⟩
theorem enum_begins1 {prog : Program} {w : World} {A : Around} {E : Value → Shared → Prop} {s : Shared} {v : Value} {o : PySem.Obj} {H : Heap → Prop} {Q : Value → Shared → Prop} (B : Begins v o H) (h1 : H s.heap)
    (h : ∀ h', IsEnum h' (s.heap.objs.size + 1) s.heap.objs.size 0 .none → h'.get? s.heap.objs.size = some o → h'.objs.size = s.heap.objs.size + 2 →
      (∀ b o, s.heap.get? b = some o → h'.get? b = some o) → Q (.ref (s.heap.objs.size + 1)) { s with heap := h' }) :
    wpAny (model prog w) A (call (.type "enumerate") [v]) Q E s := by
  refine callType_new F.called_enumerate (by decide) (F.typeCall_enumerate_1 _) (F.newCall_enumerate_1 _) (fun obj => F.args_object_init_2 obj _) F.entry_enumerate_new (meets_enumerate_1B B) ⟨h1, ?_⟩
  have hz : (s.heap.push o).objs.size = s.heap.objs.size + 1 := Heap.size_push ..
  show _ ∧ _
  rw [hz]
  have he : IsEnum ((s.heap.push o).push { cls := .type "enumerate", data := .fields #[.none, .bool false, .ref s.heap.objs.size, rawInt 0, .none, .none] }) (s.heap.objs.size + 1) s.heap.objs.size 0 .none := by
    have := Heap.get?_push_size (s.heap.push o) (o := { cls := .type "enumerate", data := .fields #[.none, .bool false, .ref s.heap.objs.size, rawInt 0, .none, .none] }) rfl
    rw [hz] at this; exact this
  exact ⟨⟨_, he, rfl⟩, h _ he (Heap.get?_push_of_some _ (Heap.get?_push_size _ B.free)) (by rw [Heap.size_push, hz]) fun b o x => Heap.get?_push_of_some _ (Heap.get?_push_of_some _ x)⟩
end
section
variable {X : Cx} {g : Gx} {pins : List (Addr × PySem.Obj)} {s : Shared} {σ : St} {m m' : Mp} {H H' : Hp} {S : Store} {k : SK} {xs ys : List V} {it i : Nat} {A : Around}
/-- pairs: what is walked gives new pairs -/
def Jp (go stop : Nat → Hp → Prop) (Y : Nat → Hp → V → V → Prop) : L2.It :=
  ⟨go, fun i H v H' => ∃ T x y, v = .ref T ∧ H T = .none ∧ H' = upd H T (.tup [x, y]) ∧ Y i H x y, stop⟩
theorem turn_pair {P : Program} {w : World} {K : PySem.W.Frag} {elts : List PySem.Expr} {kk : Nat} {tpos : Pos} {go stop : Nat → Hp → Prop} {Y : Nat → Hp → V → V → Prop} {fp : List Addr} {I0 : Addr} {tn : Nat → Heap → Prop} (mem : I0 ∈ fp)
    (obj : ∀ i h, tn i h → ∀ b ∈ fp, ∃ o, h.get? b = some o ∧ ∀ v, o.data ≠ .cell v) (keep : ∀ i h h', tn i h → (∀ b ∈ fp, ∀ o, h.get? b = some o → h'.get? b = some o) → tn i h')
    (wt : ∀ (X : Cx) (pins : List (Addr × PySem.Obj)) (s : Shared) (σ : St) (H : Hp) (i : Nat), X.prog = P → X.w = w → X.A.handled = .none → Inv X pins σ H s → (∀ b ∈ fp, FpOk X pins H b) → tn i s.heap → go i H →
      ∃ (fp' wr : List Addr) (n : Nat) (Pt : Nat → Array Value → Prop) (St : Nat → Heap → Prop) (Mid : Nat → Addr → Heap → Prop), WalksT X.prog X.w X.A I0 fp' wr n Pt St Mid ∧ (∀ b ∈ wr, b ∈ fp) ∧ i < n ∧ St i s.heap ∧
        (∀ vals, Pt i vals → ∃ x y u w, vals = #[u, w] ∧ RelV x u ∧ RelV y w ∧ Y i H x y) ∧ ∀ h', St (i + 1) h' → tn (i + 1) h')
    (we : ∀ (X : Cx) (pins : List (Addr × PySem.Obj)) (s : Shared) (σ : St) (H : Hp) (i : Nat), X.prog = P → X.w = w → X.A.handled = .none → Inv X pins σ H s → (∀ b ∈ fp, FpOk X pins H b) → tn i s.heap → stop i H →
      ∀ (E : Value → Shared → Prop) (Q : Option Value → Shared → Prop), (∀ h' tk, (∀ b o, b ∉ fp → s.heap.get? b = some o → h'.get? b = some o) → Q .none { s with heap := h', toks := tk }) → wpAny (model X.prog X.w) X.A (pyNext (.ref I0)) Q E s)
    (self : ∀ (A : Around) (i : Nat) (s : Shared) (Q : Value → Shared → Prop) (E : Value → Shared → Prop), tn i s.heap → Q (.ref I0) s → wpAny (model P w) A (pyIter (.ref I0)) Q E s) :
    Turn P w K (.Tuple elts kk tpos) (Jp go stop Y) fp I0 tn where
  mem := mem
  obj := obj
  keep := keep
  self := self
  item := by
    intro X hP hw hK hc i pins s σ H E I hf st hg
    have hd := I.ok.hd hc
    obtain ⟨fp', wr, n, Pt, St, Mid, W, hwr, hlt, hst, hp, hn⟩ := wt X pins s σ H i hP hw hd I hf st hg
    subst hP hw hK
    refine W.item i s _ E hlt hst fun T vals h' tk hpt hsz hT hmid hk => ?_
    obtain ⟨x, y, u, v, rfl, ru, rv, hy⟩ := hp _ hpt
    refine ⟨_, rfl, W.go elts kk tpos i T { s with heap := h', toks := tk } _ E hmid fun h'' hst2 hk2 => ?_⟩
    have hT2 : h''.IsTuple T #[u, v] := by
      obtain ⟨o, e, c, z, d⟩ := hT
      exact ⟨o, hk2 T o (W.apart i T h' hmid) e, c, z, d⟩
    have new : ObjOk X.prog X.w (upd H T (.tup [x, y])) h'' T (.tup [x, y]) := ⟨by show 2 ≤ sizeLine; decide, [u, v], .cons ru (.cons rv .nil), hT2⟩
    have I1 : Inv X pins σ (upd H T (.tup [x, y])) { s with heap := h'', toks := tk } :=
      I.turnedNew (ch := fp) (fun b o hb q => hk2 b o (fun z => hb (hwr b z)) (hk b o (fun z => hb (hwr b z)) q)) hf hsz new
    refine ⟨.ref T, _, I1, rfl, ⟨T, x, y, rfl, I.hok.fresh hsz, rfl, hy⟩, hn _ hst2, fun b hb => ?_⟩
    obtain ⟨o, e, _⟩ := obj i _ st b hb
    have : b ≠ T := Nat.ne_of_lt (Nat.lt_of_lt_of_le (Heap.lt_size e) hsz)
    rw [upd_ne this]; exact (hf b hb).1
  done := by
    intro X hP hw hK hc i pins s σ H E I hf st hg
    have hd := I.ok.hd hc
    have w1 := we X pins s σ H i hP hw hd I hf st hg E
    subst hP hw hK
    exact w1 _ fun h' tk hk => ⟨rfl, I.turnedL (ch := fp) hk hf⟩
/-- enumerate -/
def Jenum (k : SK) : L2.It := Jp (fun i H => ∃ xs x, k.cont H xs ∧ xs[i]? = some x) (fun i H => ∃ xs, k.cont H xs ∧ xs.length = i) (fun i H x y => x = .int (i : Nat) ∧ ∀ xs, k.cont H xs → xs[i]? = some y)
theorem in1_handled {A : Around} (h : A.handled = .none) : A.in1.handled = .none := h
theorem turn_enumS {P : Program} {w : World} {K : PySem.W.Frag} {elts : List PySem.Expr} {kk : Nat} {tpos : Pos} (k : SK) (e it : Addr) :
    Turn P w K (.Tuple elts kk tpos) (Jenum k) [e, it] e (fun i h => (∃ old, IsEnum h e it ((i : Nat) : Int) old) ∧ k.stt it i h ∧ e ≠ it) := by
  refine turn_pair (by simp) (fun i h st b hb => ?_) (fun i h h' st kp => ?_) (fun X pins s σ H i hP hw hd I hf st hg => ?_) (fun X pins s σ H i hP hw hd I hf st hg E Q hQ => ?_) (fun A i s Q E st h => let ⟨⟨_, he⟩, _⟩ := st; wpAny_pyIter_enum he h)
  · obtain ⟨⟨old, he⟩, hi, _⟩ := st
    have e' : b = e ∨ b = it := by simpa using hb
    rcases e' with z | z
    · rw [z]; exact ⟨_, he, fun v q => nomatch q⟩
    · rw [z]; exact SK.stt_obj (k := k) hi
  · obtain ⟨⟨old, he⟩, hi, hne⟩ := st
    exact ⟨⟨old, kp e (by simp) _ he⟩, SK.stt_at (k := k) hi fun o q => kp it (by simp) o q, hne⟩
  · obtain ⟨⟨old, he⟩, hi, hne⟩ := st
    obtain ⟨xs, x, hc, hx⟩ := hg
    obtain ⟨fp, Pd, Sd, D, s0, hp, hs, hm, hb⟩ := SK.draws (A := X.A.in1) (in1_handled hd) I hc hi (hf it (by simp)).1
    refine ⟨_, _, _, _, _, _, WalksT.enumerateD D e hne (fun z => ?_) hm, fun b hb => hb, (List.getElem?_eq_some_iff.mp hx).1, ⟨⟨old, he⟩, s0⟩, fun vals ⟨t, u, h1, h2⟩ => ?_, fun h' ⟨h1, h2⟩ => ⟨?_, hs _ _ h2, hne⟩⟩
    · rcases hb e z with q | q
      · exact hne q
      · exact q (hf e (by simp)).1
    · obtain ⟨y, h3, h4⟩ := hp i u h1
      exact ⟨.int (i : Nat), y, .int i t, u, h2, ⟨t, rfl⟩, h4, rfl, fun ys hy => by rw [SK.uniq hy hc]; exact h3⟩
    · obtain ⟨o, ho⟩ := h1
      exact ⟨o, ho⟩
  · obtain ⟨⟨old, he⟩, hi, hne⟩ := st
    obtain ⟨xs, hc, hx⟩ := hg
    obtain ⟨fp, Pd, Sd, D, s0, hp, hs, hm, hb⟩ := SK.draws (A := X.A.in1) (in1_handled hd) I hc hi (hf it (by simp)).1
    have hef : e ∉ fp := fun z => by
      rcases hb e z with q | q
      · exact hne q
      · exact q (hf e (by simp)).1
    refine (WalksT.enumerateD D e hne hef hm).done s Q E (hx ▸ ⟨⟨old, he⟩, s0⟩) fun h' tk hk => hQ h' tk fun b o hb => hk b o hb
/-- zip -/
def Jzip (k l : SK) : L2.It := Jp (fun i H => ∃ xs ys x y, k.cont H xs ∧ l.cont H ys ∧ xs[i]? = some x ∧ ys[i]? = some y) (fun i H => ∃ xs ys, k.cont H xs ∧ l.cont H ys ∧ i = min xs.length ys.length)
  (fun i H x y => (∀ xs, k.cont H xs → xs[i]? = some x) ∧ ∀ ys, l.cont H ys → ys[i]? = some y)
theorem turn_zipS {P : Program} {w : World} {K : PySem.W.Frag} {elts : List PySem.Expr} {kk : Nat} {tpos : Pos} (k l : SK) (z TI TO i1 i2 : Addr) (nd : [z, TI, TO, i1, i2].Nodup) :
    Turn P w K (.Tuple elts kk tpos) (Jzip k l) [z, TI, TO, i1, i2] z (fun i h => IsZip h z TI TO .none ∧ IsTupOf2 h TI (.ref i1) (.ref i2) ∧ (∃ a b, IsTupOf2 h TO a b) ∧ k.stt i1 i h ∧ l.stt i2 i h) := by
  have n0 : ¬ z = TI ∧ ¬ z = TO ∧ ¬ z = i1 ∧ ¬ z = i2 ∧ ¬ TI = TO ∧ ¬ TI = i1 ∧ ¬ TI = i2 ∧ ¬ TO = i1 ∧ ¬ TO = i2 ∧ ¬ i1 = i2 := by
    simp [List.nodup_cons] at nd
    obtain ⟨⟨a, b, c, d⟩, ⟨e, f, g⟩, ⟨h, i⟩, j⟩ := nd
    exact ⟨a, b, c, d, e, f, g, h, i, j⟩
  obtain ⟨zTI, zTO, zi1, zi2, TITO, TIi1, TIi2, TOi1, TOi2, i12⟩ := n0
  have sep : ∀ {X : Cx} {pins : List (Addr × PySem.Obj)} {H : Hp} {fp1 fp2 : List Addr}, (∀ b ∈ [z, TI, TO, i1, i2], FpOk X pins H b) → i1 ∈ fp1 → i2 ∈ fp2 → (∀ b ∈ fp1, b = i1 ∨ H b ≠ .none) → (∀ b ∈ fp2, b = i2 ∨ H b ≠ .none) → ZipSep2 z TI TO i1 i2 fp1 fp2 := by
    intro X pins H fp1 fp2 hf m1 m2 b1 b2
    have no1 : ∀ b ∈ [z, TI, TO, i1, i2], b ≠ i1 → b ∉ fp1 := fun b hb hn q => (b1 b q).elim hn fun q2 => q2 (hf b hb).1
    have no2 : ∀ b ∈ [z, TI, TO, i1, i2], b ≠ i2 → b ∉ fp2 := fun b hb hn q => (b2 b q).elim hn fun q2 => q2 (hf b hb).1
    exact ⟨Ne.symm zTI, Ne.symm zTO, TITO, TIi1, m1, no1 z (by simp) zi1, no1 TO (by simp) TOi1, TIi2, m2, no2 z (by simp) zi2, no2 TO (by simp) TOi2, no2 i1 (by simp) i12, no1 i2 (by simp) (Ne.symm i12)⟩
  have ob : ∀ i h, (IsZip h z TI TO .none ∧ IsTupOf2 h TI (.ref i1) (.ref i2) ∧ (∃ a b, IsTupOf2 h TO a b) ∧ k.stt i1 i h ∧ l.stt i2 i h) → ∀ b ∈ [z, TI, TO, i1, i2], ∃ o, h.get? b = some o ∧ ∀ v, o.data ≠ .cell v := by
    rintro i h ⟨hz, hTI, ⟨a, b', hTO⟩, h1, h2⟩ c hcm
    have e' : c = z ∨ c = TI ∨ c = TO ∨ c = i1 ∨ c = i2 := by simpa using hcm
    rcases e' with q | q | q | q | q
    · rw [q]; exact ⟨_, hz, fun v q => nomatch q⟩
    · rw [q]; exact ⟨_, hTI, fun v q => nomatch q⟩
    · rw [q]; exact ⟨_, hTO, fun v q => nomatch q⟩
    · rw [q]; exact SK.stt_obj (k := k) h1
    · rw [q]; exact SK.stt_obj (k := l) h2
  refine turn_pair (by simp) ob (fun i h h' st kp => ?_) (fun X pins s σ H i hP hw hd I hf st hg => ?_) (fun X pins s σ H i hP hw hd I hf st hg E Q hQ => ?_) (fun A i s Q E st h => wpAny_pyIter_zip st.1 h)
  · obtain ⟨hz, hTI, ⟨a, b, hTO⟩, h1, h2⟩ := st
    exact ⟨kp z (by simp) _ hz, kp TI (by simp) _ hTI, ⟨a, b, kp TO (by simp) _ hTO⟩, SK.stt_at (k := k) h1 fun o q => kp i1 (by simp) o q, SK.stt_at (k := l) h2 fun o q => kp i2 (by simp) o q⟩
  · obtain ⟨hz, hTI, hTO, h1, h2⟩ := st
    obtain ⟨xs, ys, x, y, c1, c2, hx, hy⟩ := hg
    obtain ⟨fp1, P1, S1, D1, s1, p1, q1, m1, b1⟩ := SK.draws (A := X.A.in1) (in1_handled hd) I c1 h1 (hf i1 (by simp)).1
    obtain ⟨fp2, P2, S2, D2, s2, p2, q2, m2, b2⟩ := SK.draws (A := X.A.in1) (in1_handled hd) I c2 h2 (hf i2 (by simp)).1
    refine ⟨_, _, _, _, _, _, WalksT.zipD2 (sep hf m1 m2 b1 b2) D1 D2, fun b hb => ?_, ?_, ⟨hz, hTI, hTO, s1, s2⟩, fun vals ⟨u, v, e1, e2, e3⟩ => ?_, fun h' ⟨a1, a2, a3, a4, a5⟩ => ⟨a1, a2, a3, q1 _ _ a4, q2 _ _ a5⟩⟩
    · simp at hb ⊢; rcases hb with q | q | q | q <;> simp [q]
    · exact Nat.lt_min.mpr ⟨(List.getElem?_eq_some_iff.mp hx).1, (List.getElem?_eq_some_iff.mp hy).1⟩
    · obtain ⟨x', e4, r1⟩ := p1 i u e1
      obtain ⟨y', e5, r2⟩ := p2 i v e2
      exact ⟨x', y', u, v, e3, r1, r2, fun zs hz => by rw [SK.uniq hz c1]; exact e4, fun zs hz => by rw [SK.uniq hz c2]; exact e5⟩
  · obtain ⟨hz, hTI, hTO, h1, h2⟩ := st
    obtain ⟨xs, ys, c1, c2, he⟩ := hg
    obtain ⟨fp1, P1, S1, D1, s1, p1, q1, m1, b1⟩ := SK.draws (A := X.A.in1) (in1_handled hd) I c1 h1 (hf i1 (by simp)).1
    obtain ⟨fp2, P2, S2, D2, s2, p2, q2, m2, b2⟩ := SK.draws (A := X.A.in1) (in1_handled hd) I c2 h2 (hf i2 (by simp)).1
    refine (WalksT.zipD2 (sep hf m1 m2 b1 b2) D1 D2).done s Q E (he ▸ ⟨hz, hTI, hTO, s1, s2⟩) fun h' tk hk => hQ h' tk fun b o hb => hk b o fun z => hb ?_
    simp at z ⊢; rcases z with q | q | q | q <;> simp [q]
/-! ### the readings of a walk of a value -/
/-- what the evaluator's iterable is, at turn i -/
def SK.P (k : SK) (i : Nat) (it : G.It) (m : Mp) (H : Hp) : Prop := match k with
  | .lst a => ∃ n, it = .lst n i ∧ m.l[n]? = some a
  | .tup a => ∃ vs : List Val, it = .vals (vs.drop i) ∧ i ≤ vs.length ∧ ∃ xs, H a = some (.tup xs) ∧ RVs m H vs xs
  | .str x => ∃ l : List Nat, x = ⟨l.toArray⟩ ∧ sOk l ∧ it = .vals ((l.map fun c => Val.str [c]).drop i) ∧ i ≤ l.length
theorem SK.P_mono {it : G.It} {i : Nat} (h : k.P i it m H) (x : Ex0 m H m' H') : k.P i it m' H' := by
  cases k with
  | lst a => obtain ⟨n, e, q⟩ := h; exact ⟨n, e, x.get q⟩
  | tup a => obtain ⟨vs, e, hi, xs, q, r⟩ := h; exact ⟨vs, e, hi, xs, x.tup q, r.mono0 x⟩
  | str y => exact h
/-- what stands there is long enough; and the next item -/
theorem SK.next {it : G.It} {i : Nat} (h : k.P i it m H) (rs : RS g m S H) {r : Option (Val × G.It)} (e : it.next S = some r) : ∃ xs, k.cont H xs ∧ i ≤ xs.length ∧ (r = .none → xs.length = i) ∧ ∀ v it', r = some (v, it') → ∃ x, xs[i]? = some x ∧ RV m H v x ∧ k.P (i + 1) it' m H := by
  cases k with
  | lst a =>
    obtain ⟨n, rfl, hn⟩ := h
    rw [It.next] at e
    cases q : S.get n with
    | none => rw [q] at e; cases e
    | some ob =>
      cases ob with
      | lst xs =>
        rw [q] at e
        obtain ⟨b, hb, ys, h3, h4⟩ := rs.obj n _ q
        rw [hn] at hb; cases hb
        have e' : (match xs[i]? with | some v => some (some (v, G.It.lst n (i + 1))) | .none => (match Nat.beq xs.length i with | true => some .none | false => .none)) = some r := e
        cases z : xs[i]? with
        | none =>
          rw [z] at e'
          have e2 : (match Nat.beq xs.length i with | true => some .none | false => .none) = some r := e'
          cases hb : Nat.beq xs.length i with
          | false => rw [hb] at e2; cases e2
          | true =>
            rw [hb] at e2; cases e2
            have hl := Nat.eq_of_beq_eq_true hb
            exact ⟨ys, h3, by rw [← h4.length]; omega, fun _ => by rw [← h4.length]; exact hl, fun v it' q => nomatch q⟩
        | some v =>
          rw [z] at e'; cases e'
          obtain ⟨y, hy, rv⟩ := h4.get z
          refine ⟨ys, h3, Nat.le_of_lt (List.getElem?_eq_some_iff.mp hy).1, (fun q => nomatch q), fun v' it' q => ?_⟩
          cases q
          exact ⟨y, hy, rv, n, rfl, hn⟩
      | _ => rw [q] at e; cases e
  | tup a =>
    obtain ⟨vs, rfl, hi, xs, h2, h3⟩ := h
    refine ⟨xs, h2, by rw [← h3.length]; exact hi, fun q => ?_, fun v it' q => ?_⟩
    · subst q
      have := drop_nil (vals_end e)
      rw [← h3.length]; omega
    · subst q
      obtain ⟨r, e1, rfl⟩ := vals_next e
      obtain ⟨e2, e3⟩ := drop_cons e1
      obtain ⟨y, hy, rv⟩ := h3.get e2
      exact ⟨y, hy, rv, vs, by rw [e3], (List.getElem?_eq_some_iff.mp e2).1, xs, h2, h3⟩
  | str y =>
    obtain ⟨l, rfl, hl, rfl, hi⟩ := h
    refine ⟨_, rfl, by simpa using hi, fun q => ?_, fun v it' q => ?_⟩
    · subst q
      have := drop_nil (vals_end e)
      simp at this ⊢; omega
    · subst q
      obtain ⟨r, e1, rfl⟩ := vals_next e
      obtain ⟨e2, e3⟩ := drop_cons e1
      rw [List.getElem?_map] at e2
      cases hc : l[i]? with
      | none => rw [hc] at e2; cases e2
      | some c =>
        rw [hc] at e2; cases e2
        exact ⟨.str ⟨#[c]⟩, by simp [hc], RV.str (hl.one (List.mem_of_getElem? hc)), l, rfl, hl, by rw [e3], (List.getElem?_eq_some_iff.mp hc).1⟩
/-- a value that is walked: its kind -/
theorem SK.of {v : Val} {x : V} {it : G.It} (rv : RV m H v x) (rs : RS g m S H) (e : toIt v S = some it) : ∃ k : SK, k.val = x ∧ k.P 0 it m H ∧ ∃ xs, k.cont H xs := by
  cases rv with
  | @tup a xs vs h r => cases e; exact ⟨.tup a, rfl, ⟨vs, rfl, Nat.zero_le _, xs, h, r⟩, xs, h⟩
  | @str l h => cases e; exact ⟨.str ⟨l.toArray⟩, rfl, ⟨l, rfl, h, rfl, Nat.zero_le _⟩, _, rfl⟩
  | @ref n a hm =>
    have e' : (match S.get n with | some (.lst _) => some (G.It.lst n 0) | _ => .none) = some it := e
    cases q : S.get n with
    | none => rw [q] at e'; cases e'
    | some ob =>
      cases ob with
      | lst xs =>
        rw [q] at e'; cases e'
        obtain ⟨b, hb, ys, h3, h4⟩ := rs.obj n _ q
        rw [hm] at hb; cases hb
        exact ⟨.lst _, rfl, ⟨n, rfl, hm⟩, ys, h3⟩
      | _ => rw [q] at e'; cases e'
  | _ => cases e
/-- a new pair for the store -/
theorem pair_new {T : Addr} {x y : V} {v w : Val} (hT : H T = .none) (rs : RS g m S H) (rv : RV m H v x) (rw_ : RV m H w y) : Ex m H m (upd H T (.tup [x, y])) ∧ RS g m S (upd H T (.tup [x, y])) ∧ RV m (upd H T (.tup [x, y])) (.tup [v, w]) (.ref T) := by
  have x1 : Ex m H m (upd H T (.tup [x, y])) := Ex.upd hT
  exact ⟨x1, rs.upd hT, RV.tup upd_same (.cons (rv.mono x1) (.cons (rw_.mono x1) .nil))⟩
theorem walks_enum : Walks g (Jenum k) (fun i it m H => ∃ j, it = .enum (i : Nat) j ∧ k.P i j m H) where
  mono := fun ⟨j, e, h⟩ x => ⟨j, e, SK.P_mono (k := k) h x⟩
  stop := by
    rintro i it m H S ⟨j, rfl, h⟩ rs e
    rw [It.next] at e
    cases q : j.next S with
    | none => rw [q] at e; cases e
    | some r =>
      rw [q] at e
      cases r with
      | some p => cases e
      | none =>
        obtain ⟨xs, h1, h2, h3, h4⟩ := SK.next h rs q
        exact ⟨xs, h1, h3 rfl⟩
  go := by
    rintro i it m H S v it' ⟨j, rfl, h⟩ rs e
    rw [It.next] at e
    cases q : j.next S with
    | none => rw [q] at e; cases e
    | some r =>
      rw [q] at e
      cases r with
      | none => cases e
      | some p =>
        obtain ⟨w, j'⟩ := p
        cases e
        obtain ⟨xs, h1, h2, h3, h4⟩ := SK.next h rs q
        obtain ⟨x, hx, rv, hn⟩ := h4 w j' rfl
        refine ⟨⟨xs, x, h1, hx⟩, fun v H' ⟨T, a, b, e1, hT, e2, e3, e4⟩ => ?_⟩
        subst e1 e2 e3
        have := e4 xs h1
        rw [hx] at this; cases this
        obtain ⟨x1, rs1, r1⟩ := pair_new (v := .int (i : Nat)) hT rs (RV.int _) rv
        exact ⟨x1, rs1, r1, j', by push_cast; rfl, SK.P_mono (k := k) hn x1.toEx0⟩
theorem walks_zip {l : SK} : Walks g (Jzip k l) (fun i it m H => ∃ a b, it = .zip a b ∧ k.P i a m H ∧ l.P i b m H) where
  mono := fun ⟨a, b, e, h1, h2⟩ x => ⟨a, b, e, SK.P_mono (k := k) h1 x, SK.P_mono (k := l) h2 x⟩
  stop := by
    rintro i it m H S ⟨a, b, rfl, ha, hb⟩ rs e
    rw [It.next] at e
    cases qa : a.next S with
    | none => rw [qa] at e; cases e
    | some ra =>
      cases qb : b.next S with
      | none =>
        rw [qa, qb] at e
        rcases ra with _ | ⟨v, a'⟩ <;> cases e
      | some rb =>
        rw [qa, qb] at e
        obtain ⟨xs, h1, h2, h3, h4⟩ := SK.next ha rs qa
        obtain ⟨ys, k1, k2, k3, k4⟩ := SK.next hb rs qb
        refine ⟨xs, ys, h1, k1, ?_⟩
        rcases ra with _ | ⟨v, a'⟩
        · have := h3 rfl; omega
        · rcases rb with _ | ⟨w, b'⟩
          · have := k3 rfl; omega
          · cases e
  go := by
    rintro i it m H S v it' ⟨a, b, rfl, ha, hb⟩ rs e
    rw [It.next] at e
    cases qa : a.next S with
    | none => rw [qa] at e; cases e
    | some ra =>
      cases qb : b.next S with
      | none =>
        rw [qa, qb] at e
        rcases ra with _ | ⟨v, a'⟩ <;> cases e
      | some rb =>
        rw [qa, qb] at e
        rcases ra with _ | ⟨v1, a'⟩
        · rcases rb with _ | ⟨w, b'⟩ <;> cases e
        · rcases rb with _ | ⟨w, b'⟩
          · cases e
          · cases e
            obtain ⟨xs, h1, h2, h3, h4⟩ := SK.next ha rs qa
            obtain ⟨ys, k1, k2, k3, k4⟩ := SK.next hb rs qb
            obtain ⟨x, hx, rv, hn⟩ := h4 v1 a' rfl
            obtain ⟨y, hy, rw_, hn2⟩ := k4 w b' rfl
            refine ⟨⟨xs, ys, x, y, h1, k1, hx, hy⟩, fun v H' ⟨T, a, b, e1, hT, e2, e3, e4⟩ => ?_⟩
            subst e1 e2
            have := e3 xs h1
            rw [hx] at this; cases this
            have := e4 ys k1
            rw [hy] at this; cases this
            obtain ⟨x1, rs1, r1⟩ := pair_new hT rs rv rw_
            exact ⟨x1, rs1, r1, a', b', rfl, SK.P_mono (k := k) hn x1.toEx0, SK.P_mono (k := l) hn2 x1.toEx0⟩
end
end G
set_option Elab.async false
set_option linter.all false
set_option maxRecDepth 100000
namespace G
open PySem PySem.Spec L2
open PyProof.Rows hiding St
section
variable {X : Cx} {g : Gx} {o : Orc} {W : WX} {pins : List (Addr × PySem.Obj)} {s : Shared} {σ : St} {ρ : G.Env} {m : Mp} {H : Hp} {S : Store} {tg e a b c : PySem.Expr} {ce : G.E} {cs : G.EL} {p pos tpos : Pos} {elts : List PySem.Expr} {kk : Nat}
/-! ### what is walked: values -/
theorem i_val (he : PE X e (tM g o W ce)) : PI X tg e (tI g o W (iVal ce)) := by
  refine ⟨fun pins s σ H R I ⟨m, ρ, S, re, rs, p⟩ => ?_⟩
  refine thnE he I re rs p fun u s1 v S1 m1 H1 x I1 r1 rv1 rs1 re1 e1 p1 => ?_
  cases rv1 with
  | @tup a xs vs h r =>
    cases r1
    obtain ⟨its, rv, pt, hz⟩ := I1.tuple (SqT.of h)
    refine wpAny_pyIter_tuple (show s1.heap.IsTuple a its.toArray from pt) (pi_one (tk := s1.toks) I1 _ (turn_tuple a _) ⟨_, Heap.get?_push_size _ rfl, rfl, rfl⟩ ?_)
    exact p1 m1 H1 _ Ex.rfl' rs1 ⟨_, walks_tup, rfl, xs, h, r⟩
  | @str l h =>
    obtain ⟨t, rfl⟩ := r1
    have q : R (Its ⟨l.toArray⟩) H1 := p1 m1 H1 _ Ex.rfl' rs1 ⟨_, walks_str h, rfl⟩
    cases ha : (⟨l.toArray⟩ : Str).cps.all (· < 128)
    · exact wpAny_pyIter_wide ha (pi_one (tk := s1.toks) I1 _ (turn_str _ _ t "str_iterator" (.inr rfl)) ⟨_, Heap.get?_push_size _ rfl, rfl, rfl⟩ q)
    · exact wpAny_pyIter_ascii ha (pi_one (tk := s1.toks) I1 _ (turn_str _ _ t "str_ascii_iterator" (.inl rfl)) ⟨_, Heap.get?_push_size _ rfl, rfl, rfl⟩ q)
  | @ref n a hm =>
    cases r1
    have p2 : PostG g (RI g) m1 H1 R (atS W σ) (match (match S1.get n with | some (.lst _) => some (G.It.lst n 0) | _ => .none) with | some it => .ok it S1 | .none => .stuck 70) := p1
    cases q : S1.get n with
    | none => rw [q] at p2; exact p2.elim
    | some ob =>
      cases ob with
      | lst xs =>
        rw [q] at p2
        obtain ⟨b, hb, ys, h3, h4⟩ := rs1.obj n _ q
        rw [hm] at hb; cases hb
        obtain ⟨its, rv, pt, hz⟩ := I1.list (SqL.of h3)
        refine wpAny_pyIter_list pt.isList (pi_one (tk := s1.toks) I1 _ (turn_list _ _) ⟨_, Heap.get?_push_size _ rfl, rfl, rfl⟩ ?_)
        exact p2 m1 H1 _ Ex.rfl' rs1 ⟨_, walks_list, rfl, hm⟩
      | _ => rw [q] at p2; exact p2.elim
  | _ => exact p1.elim
theorem i_enum (hg : Gl X "enumerate") (hm : X.mg "enumerate" = .none) (ha : PE X e (tM g o W ce)) (hs : starEach [e] X.env = (false, eval e X.env) :: starEach [] X.env) : PI X (.Tuple elts kk tpos) (.Call (.Name "enumerate" p) [e] [] pos) (tI g o W (iEnum ce)) := by
  refine ⟨fun pins s σ H R I ⟨m, ρ, S, re, rs, pp⟩ => ?_⟩
  have hl : PA X [e] (tL g o W (elCons ce elNil)) := l_cons ha l_nil hs
  have p2 : PostG g (RI g) m H R (atS W σ) ((elCons ce elNil o ρ S).bind fun vs S => match vs with | [x] => (match toIt x S with | some it => .ok (.enum 0 it) S | .none => .stuck 70) | _ => .stuck 70) := by
    unfold iEnum at pp
    unfold elCons elNil
    rw [bindA]
    exact pp
  refine Call_ (ld_blt I hg hm boot_enumerate (PyProof.Rows.callWith_type1 (thnL (pos := pos) hl I re rs p2 fun us s1 vs S1 m1 H1 xs I1 r1 rv1 rs1 re1 e1 p1 => ?_) hs rfl))
  cases rv1 with
  | nil => exact p1.elim
  | @cons v x vs xs rv rvs =>
    cases rvs with
    | cons _ _ => exact p1.elim
    | nil =>
      cases r1 with
      | cons r rr =>
        cases rr
        cases e2 : toIt v S1 with
        | none =>
          have p1' : PostG g (RI g) m1 H1 R (atS W σ) (match toIt v S1 with | some it => .ok (.enum 0 it) S1 | .none => .stuck 70) := p1
          rw [e2] at p1'; exact p1'.elim
        | some it =>
          have p1' : PostG g (RI g) m1 H1 R (atS W σ) (match toIt v S1 with | some it => .ok (.enum 0 it) S1 | .none => .stuck 70) := p1
          rw [e2] at p1'
          obtain ⟨k, rfl, hk, ys, hc⟩ := SK.of rv rs1 e2
          obtain ⟨B, hB, hb, hst⟩ := SK.begins (it := s1.heap.objs.size) I1 hc r
          refine enum_begins1 hB hb fun h' he hob hsz hk2 => wpAny_pyIter_enum he ?_
          have I2 : Inv X pins σ H1 { s1 with heap := h' } := I1.kept (t' := s1.toks) hk2
          refine ⟨s1.heap.objs.size + 1, [s1.heap.objs.size + 1, s1.heap.objs.size], _, _, H1, rfl, I2, turn_enumS k (s1.heap.objs.size + 1) s1.heap.objs.size, ⟨⟨.none, he⟩, hst _ hob, Nat.succ_ne_self _⟩, fun b hb => ?_, ?_⟩
          · have e' : b = s1.heap.objs.size + 1 ∨ b = s1.heap.objs.size := by simpa using hb
            have hle : s1.heap.objs.size ≤ b := by
              rcases e' with z | z
              · rw [z]; exact Nat.le_add_right _ _
              · rw [z]; exact Nat.le_refl _
            exact I1.fpOk hle (I1.hok.fresh hle)
          · exact p1' m1 H1 _ Ex.rfl' rs1 ⟨_, walks_enum, it, rfl, hk⟩
theorem i_zip (hg : Gl X "zip") (hm : X.mg "zip" = .none) (ha : PA X [a, b] (tL g o W cs)) (hs : starEach [a, b] X.env = (false, eval a X.env) :: starEach [b] X.env) (hpl : (backTo pos (starEach [b] X.env)).any (·.1) = false) :
    PI X (.Tuple elts kk tpos) (.Call (.Name "zip" p) [a, b] [] pos) (tI g o W (iZip cs)) := by
  refine ⟨fun pins s σ H R I ⟨m, ρ, S, re, rs, pp⟩ => ?_⟩
  refine Call_ (ld_blt I hg hm PyProof.Rows.boot_zip (PyProof.Rows.callWith_type1 (thnL (pos := pos) ha I re rs pp fun us s1 vs S1 m1 H1 xs I1 r1 rv1 rs1 re1 e1 p1 => ?_) hs hpl))
  cases rv1 with
  | nil => exact p1.elim
  | @cons v x vs xs rv rvs =>
    cases rvs with
    | nil => exact p1.elim
    | @cons w y vs xs rw_ rvs =>
      cases rvs with
      | cons _ _ => exact p1.elim
      | nil =>
        cases r1 with
        | cons r rr =>
          cases rr with
          | cons r' rr =>
            cases rr
            have p2 : PostG g (RI g) m1 H1 R (atS W σ) (match toIt v S1, toIt w S1 with | some a, some b => .ok (.zip a b) S1 | _, _ => .stuck 70) := p1
            cases e2 : toIt v S1 with
            | none => rw [e2] at p2; exact p2.elim
            | some it =>
              cases e3 : toIt w S1 with
              | none => rw [e2, e3] at p2; exact p2.elim
              | some it2 =>
                rw [e2, e3] at p2
                obtain ⟨k, rfl, hk, ys, hc⟩ := SK.of rv rs1 e2
                obtain ⟨l, rfl, hl, zs, hd⟩ := SK.of rw_ rs1 e3
                obtain ⟨B, hB, hb, hst⟩ := SK.begins (it := s1.heap.objs.size) I1 hc r
                obtain ⟨B2, hB2, hb2, hst2⟩ := SK.begins (it := s1.heap.objs.size + 1) I1 hd r'
                refine zip_begins2 hB hB2 hb hb2 fun h' hz hTI hTO ho1 ho2 hsz hk2 => wpAny_pyIter_zip hz ?_
                have I2 : Inv X pins σ H1 { s1 with heap := h' } := I1.kept (t' := s1.toks) hk2
                refine ⟨s1.heap.objs.size + 4, [s1.heap.objs.size + 4, s1.heap.objs.size + 2, s1.heap.objs.size + 3, s1.heap.objs.size, s1.heap.objs.size + 1], _, _, H1, rfl, I2,
                  turn_zipS k l _ _ _ _ _ (by simp), ⟨hz, hTI, ⟨_, _, hTO⟩, hst _ ho1, hst2 _ ho2⟩, fun c hcm => ?_, ?_⟩
                · have hle : s1.heap.objs.size ≤ c := by
                    simp at hcm
                    rcases hcm with z | z | z | z | z <;> rw [z] <;> simp
                  exact I1.fpOk hle (I1.hok.fresh hle)
                · exact p2 m1 H1 _ Ex.rfl' rs1 ⟨_, walks_zip, it, it2, rfl, hk, hl⟩
/-! ### range -/
theorem smallI_lt {i : Int} (h : smallI i = true) : -(2 ^ 62) ≤ i ∧ i < 2 ^ 62 := by
  have : i.natAbs < 2 ^ 24 := by simpa [smallI, Nat.blt_eq] using h
  omega
theorem i_range1 (hg : Gl X "range") (hm : X.mg "range" = .none) (ha : PA X [a] (tL g o W cs)) (hs : starEach [a] X.env = [(false, eval a X.env)]) : PI X tg (.Call (.Name "range" p) [a] [] pos) (tI g o W (iRange cs)) := by
  refine ⟨fun pins s σ H R I ⟨m, ρ, S, re, rs, pp⟩ => ?_⟩
  refine Call_ (ld_blt I hg hm boot_range (PyProof.Rows.callWith_type1 (thnL (pos := pos) ha I re rs pp fun us s1 vs S1 m1 H1 xs I1 r1 rv1 rs1 re1 e1 p1 => ?_) hs rfl))
  cases rv1 with
  | nil => exact p1.elim
  | @cons v x vs xs rv rvs =>
    cases rv with
    | int j =>
      cases rvs with
      | cons _ _ => exact p1.elim
      | nil =>
        cases r1 with
        | cons r rr =>
          cases rr
          obtain ⟨t, rfl⟩ := r
          have p2 : PostG g (RI g) m1 H1 R (atS W σ) (match smallI j with | true => .ok (.vals (upTo 0 j.toNat)) S1 | false => .stuck 71) := p1
          cases e : smallI j with
          | false => rw [e] at p2; exact p2.elim
          | true =>
            rw [e] at p2
            obtain ⟨b1, b2⟩ := smallI_lt e
            exact call_range_1 (range_it I1 (by omega) (by omega) b1 b2 (by simpa using p2 m1 H1 _ Ex.rfl' rs1 ⟨_, walks_range, rfl⟩))
    | _ => exact p1.elim
theorem i_range2 (hg : Gl X "range") (hm : X.mg "range" = .none) (ha : PA X [a, b] (tL g o W cs)) (hs : starEach [a, b] X.env = [(false, eval a X.env), (false, eval b X.env)]) (hs2 : starEach [b] X.env = [(false, eval b X.env)]) : PI X tg (.Call (.Name "range" p) [a, b] [] pos) (tI g o W (iRange2 cs)) := by
  refine ⟨fun pins s σ H R I ⟨m, ρ, S, re, rs, pp⟩ => ?_⟩
  refine Call_ (ld_blt I hg hm boot_range (PyProof.Rows.callWith_type1 (thnL (pos := pos) ha I re rs pp fun us s1 vs S1 m1 H1 xs I1 r1 rv1 rs1 re1 e1 p1 => ?_) (by rw [hs, hs2]) (by rw [hs2]; rfl)))
  unfold iRange2 at pp
  cases rv1 with
  | nil => exact p1.elim
  | @cons v x vs xs rv rvs =>
    cases rv with
    | int i =>
      cases rvs with
      | nil => exact p1.elim
      | @cons w y vs xs rw_ rvs =>
        cases rw_ with
        | int j =>
          cases rvs with
          | cons _ _ => exact p1.elim
          | nil =>
            cases r1 with
            | cons r rr =>
              cases rr with
              | cons r' rr =>
                cases rr
                obtain ⟨t, rfl⟩ := r
                obtain ⟨t', rfl⟩ := r'
                have p2 : PostG g (RI g) m1 H1 R (atS W σ) (match smallI i && smallI j with | true => .ok (.vals (upTo i (j - i).toNat)) S1 | false => .stuck 71) := p1
                cases e : (smallI i && smallI j) with
                | false => rw [e] at p2; exact p2.elim
                | true =>
                  rw [e] at p2
                  obtain ⟨e1, e2⟩ := Bool.and_eq_true_iff.mp e
                  obtain ⟨b1, b2⟩ := smallI_lt e1
                  obtain ⟨b3, b4⟩ := smallI_lt e2
                  exact call_range_2 (range_it I1 b1 b2 b3 b4 (p2 m1 H1 _ Ex.rfl' rs1 ⟨_, walks_range, rfl⟩))
        | _ => exact p1.elim
    | _ => exact p1.elim
theorem i_range3 (hg : Gl X "range") (hm : X.mg "range" = .none) (ha : PA X [a, b, c] (tL g o W cs)) (hs : starEach [a, b, c] X.env = (false, eval a X.env) :: starEach [b, c] X.env) (hpl : (backTo pos (starEach [b, c] X.env)).any (·.1) = false) :
    PI X tg (.Call (.Name "range" p) [a, b, c] [] pos) (tI g o W (iRange3 cs)) :=
  PI.imp (pi_range3 hg hm ha hs hpl) fun σ H R ⟨m, ρ, S, re, rs, pp⟩ => ⟨m, ρ, S, re, rs, PostG.mono (PostG.bind pp) fun xs H1 ⟨m1, vs, S1, e1, rs1, rv1, p1⟩ => by
    cases rv1 with
    | nil => exact p1.elim
    | @cons v x vs xs rv rvs =>
      cases rv with
      | int i =>
        cases rvs with
        | nil => exact p1.elim
        | @cons w y vs xs rw_ rvs =>
          cases rw_ with
          | int j =>
            cases rvs with
            | nil => exact p1.elim
            | @cons w y vs xs rz rvs =>
              cases rz with
              | int k =>
                cases rvs with
                | cons _ _ => exact p1.elim
                | nil =>
                  have p2 : PostG g (RI g) m1 H1 R (atS W σ) (match smallI i && smallI j && intEq k (-1) with | true => .ok (.vals (downTo i (i - j).toNat)) S1 | false => .stuck 71) := p1
                  cases e : (smallI i && smallI j && intEq k (-1)) with
                  | false => rw [e] at p2; exact p2.elim
                  | true =>
                    rw [e] at p2
                    obtain ⟨e0, e3⟩ := Bool.and_eq_true_iff.mp e
                    obtain ⟨e1, e2⟩ := Bool.and_eq_true_iff.mp e0
                    obtain ⟨b1, b2⟩ := smallI_lt e1
                    obtain ⟨b3, b4⟩ := smallI_lt e2
                    rw [intEq_eq] at e3
                    have hk : k = -1 := of_decide_eq_true e3
                    subst hk
                    exact ⟨i, j, -1, _, rfl, RgC.neg b1 b2 b3 b4, p2 m1 H1 _ Ex.rfl' rs1 ⟨_, walks_down, rfl⟩⟩
              | _ => exact p1.elim
          | _ => exact p1.elim
      | _ => exact p1.elim⟩
end
end G
set_option Elab.async false
set_option linter.all false
set_option maxRecDepth 100000
namespace G
open PySem PySem.Spec L2
open PyProof.Rows hiding St
/-! ### functions -/
def spG (g : Gx) (t : Tb) (n f : Nat) : Sp := fun vs H Q E => ∃ m args S, RVs m H args vs ∧ RS g m S H ∧ PostG g RV m H Q E (callN t n f args S)
theorem spG_len {g : Gx} {t : Tb} {n f k : Nat} (hn : (t.fn f).np = k) (vs : List V) (H : Hp) (Q : VK) (E : XK) (h : spG g t n f vs H Q E) : vs.length = k := by
  obtain ⟨m, args, S, rv, rs, p⟩ := h
  cases n with
  | zero => exact p.elim
  | succ n =>
    rw [callN, runFn] at p
    cases e : Nat.beq args.length (t.fn f).np with
    | false => rw [e] at p; exact p.elim
    | true => rw [← rv.length, ← hn]; exact Nat.eq_of_beq_eq_true e
theorem RE.start {m : Mp} {H : Hp} {args : List Val} {vs : List V} (rv : RVs m H args vs) (k : Nat) : RE m H (args.map some ++ List.replicate (k - args.length) .none) (vs.map some ++ List.replicate (k - vs.length) .none) := by
  have hl := rv.length
  refine ⟨by simp [hl], fun i v h => ?_⟩
  by_cases hi : i < args.length
  · rw [List.getElem?_append_left (by simpa using hi)] at h
    rw [List.getElem?_append_left (by simp; omega)]
    rw [List.getElem?_map] at h ⊢
    cases e : args[i]? with
    | none => rw [e] at h; cases h
    | some w =>
      rw [e] at h
      cases h
      obtain ⟨y, h1, h2⟩ := rv.get e
      exact ⟨y, by rw [h1]; rfl, .inl h2⟩
  · rw [List.getElem?_append_right (by simpa using hi)] at h
    have := List.mem_of_getElem? h
    rw [List.mem_replicate] at this
    cases this.2
/-- every function of the text, at level n -/
structure Ft where
  a : Nat → Addr
  fd : Nat → FuncData
  ps : Nat → List Str
/-- room for n calls, and no guard -/
structure Rm (n : Nat) (A : Around) : Prop where
  hd : A.handled = .none
  dp : A.depth + 2 * n + 40 < recursionLimit
  un : A.units + 16 * n + 500 < cLine
  gd : A.guards = some []
theorem Rm.room {n : Nat} {A : Around} (r : Rm n A) : Room 2 A := ⟨r.hd, by have := r.dp; omega, by have := r.un; omega⟩
/-- the same within a body: one depth more, for an instance that is made -/
structure Rb (n : Nat) (A : Around) : Prop where
  hd : A.handled = .none
  dp : A.depth + 2 * n + 41 < recursionLimit
  un : A.units + 16 * n + 510 < cLine
  gd : A.guards = some []
theorem Rm.deeper {n : Nat} {A : Around} (r : Rm (n + 1) A) (env : PySem.Env) : Rb n (A.deeper env) :=
  ⟨r.hd, by have := r.dp; show A.depth + 1 + 2 * n + 41 < _; omega, by have := r.un; show A.units + 3 + 16 * n + 510 < _; omega, r.gd⟩
theorem Rb.rm {n : Nat} {A : Around} (r : Rb n A) : Rm n A := ⟨r.hd, by have := r.dp; omega, by have := r.un; omega, r.gd⟩
theorem Rb.make {n : Nat} {A : Around} (r : Rb n A) (C : Addr) (us : List Value) (kw : List (Str × Value)) : Rm n (A.under (.builtin "type.__call__" ⟨.ref C :: us, kw⟩)) :=
  ⟨r.hd, by have := r.dp; rw [make_depth]; omega, by have := r.un; rw [make_units]; omega, by
    have e : Code.guards (.builtin "type.__call__" ⟨.ref C :: us, kw⟩) = [] := by first | rfl | simp [Code.guards, Code.isGuard, guardIds]
    simp [Around.under, e, pushGuards, r.gd]⟩
/-- a def's promise, at such room -/
structure FnG (P : Program) (w : World) (K : PySem.W.Frag) (mg : Str → Option Value) (base : Heap) (n : Nat) (f : Addr) (fd : FuncData) (ps : List Str) (sp : Sp) : Prop where
  len : ∀ vs H Q E, sp vs H Q E → vs.length = ps.length
  run : ∀ (A : Around) (outer : List PySem.Env) (s : Shared) (H : Hp) (args : Args) (us : List Value) (vs : List V) (Q : VK) (E : XK), Rm n A → Env0 P w K mg base A outer s H → BindsTo s fd args (ps.zip us) → Vals vs us → sp vs H Q E →
    codeAny (model P w) A (.call (.ref f) args) (CR (L2.CX P w) outer P w H s Q E) s
def AllOk (P : Program) (w : World) (K : PySem.W.Frag) (mg : Str → Option Value) (base : Heap) (g : Gx) (t : Tb) (F : Ft) (nf n : Nat) : Prop :=
  ∀ f, f < nf → FnG P w K mg base n (F.a f) (F.fd f) (F.ps f) (spG g t n f)
theorem fnOk0 {P : Program} {w : World} {K : PySem.W.Frag} {mg : Str → Option Value} {base : Heap} {g : Gx} {t : Tb} {i k : Nat} {a : Addr} {fd : FuncData} {ps : List Str} : FnG P w K mg base k a fd ps (spG g t 0 i) :=
  ⟨fun vs H Q E ⟨m, args, S, rv, rs, p⟩ => p.elim, fun A outer s H args us vs Q E hr he hb hv ⟨m, args', S, rv, rs, p⟩ => p.elim⟩
/-- a def by its body's code -/
theorem fn_ok {P : Program} {w : World} {K : PySem.W.Frag} {mg : Str → Option Value} {base : Heap} {g : Gx} {t : Tb} {n i : Nat} {f : Addr} {name qual : Str} {params : Arguments} {body : List Stmt} {scope : Scope} {dV kV doc pm cdv ct oc : Value} {an od : Option Addr}
    {osl : Array (Option Value)} {N ps : List Str} (lk : K.lookup f = some ⟨oc, od, .func (PySem.W.fnOf name qual params body scope dV kV doc pm an cdv ct), osl⟩) (hcd : PySem.W.codeIn K cdv qual = true) (S : FnScope N ps scope)
    (hnp : (t.fn i).np = ps.length) (hns : (t.fn i).ns = N.length)
    (hbody : ∀ (A : Around) (outer : List PySem.Env) (s : Shared) (H : Hp) (E : XK), Rb n (A.deeper (envOfC qual scope s.heap.objs.size f cdv)) →
      PSs (cxOf (L2.CX P w) P w K mg base N qual scope f cdv A outer s H E) body (tS g (orcN t n) (fun c d _ H => E c d H) (t.fn i).body)) :
    FnG P w K mg base (n + 1) f (PySem.W.fnOf name qual params body scope dV kV doc pm an cdv ct) ps (spG g t (n + 1) i) := by
  refine ⟨fun vs H Q E h => spG_len hnp vs H Q E h, fun A outer s H bargs us vs Q E hr e0 hb r hsp => ?_⟩
  have hlen := spG_len hnp vs H Q E hsp
  have inK : K.In s.heap := e0.mod.kin.keeps fun b o e => (e0.bs b o e).1
  have limit : s.heap.NoLimit := e0.mod.nolimit.keeps fun b o e => (e0.bs b o e).1
  have kinds : ∀ y ∈ ps.zip us, scope.names.lookup y.1 = some .local ∨ (scope.names.lookup y.1 = some .cell ∧ ((cellsFrom (s.heap.objs.size + 1) scope.names []).lookup y.1).isSome = true) := by
    rintro ⟨z, v⟩ hz
    exact (S.par z (List.of_mem_zip hz).1).imp id fun q => ⟨q, PySem.W.cellsFrom_some _ _ _ (.inl q)⟩
  refine codeAny_call_function (by have := hr.dp; omega) (inK _ _ lk) rfl S.co S.gen rfl (PySem.W.codeRec_of inK hcd) (hb _ _ _ _ (wpAny_newFunctionEnv_cells S.kind kinds fun ev hev s1 ic => ?_))
  subst hev
  refine ⟨limit.keeps ic.toInCall.keep, codeAny_func ?_⟩
  have I := inv_start (CX := L2.CX P w) (E := E) S hr.hd e0 hlen r ic
  have start : tS g (orcN t n) (fun c d _ H => E c d H) (t.fn i).body { nx := fun _ H' => Q .non H', rt := Q } (L2.start N vs) H := by
    obtain ⟨m, args, St, rv, rs, p⟩ := hsp
    rw [callN, runFn] at p
    cases e : Nat.beq args.length (t.fn i).np with
    | false => rw [e] at p; exact p.elim
    | true =>
      rw [e] at p
      have hl := Nat.eq_of_beq_eq_true e
      refine ⟨m, args.map some ++ List.replicate (N.length - args.length) .none, St, RE.start rv N.length, rs, ?_⟩
      have p2 : PostG g RV m H Q E (match (t.fn i).body (orcN t n) (args.map some ++ List.replicate (N.length - args.length) .none) St with
        | .nx _ S => .ok .none S
        | .rt v S => .ok v S
        | .bk _ _ => .stuck 301
        | .exc c fs _ S => .exc c fs S
        | .stuck w => .stuck w) := by
        rw [hl, ← hns]; exact p
      revert p2
      cases (t.fn i).body (orcN t n) (args.map some ++ List.replicate (N.length - args.length) .none) St with
      | nx ρ S => exact fun p2 m' H' σ' x rs' re' => p2 m' H' .non x rs' .none
      | rt v S => exact fun p2 m' H' y x rs' rv' => p2 m' H' y x rs' rv'
      | bk ρ S => exact fun p2 => p2.elim
      | exc c fs ρ S => exact fun p2 m' H' σ' d x rs' re' q => p2 m' H' d x rs' q
      | stuck w => exact fun p2 => p2
  refine wpAny_mono ((hbody A outer s H E (hr.deeper _)).run [] s1 _ H _ I start) (fun fl s' hs => ?_) fun e s' hs => hs
  cases fl with
  | ret u =>
    obtain ⟨v, σ', H', J, rv, q⟩ := hs
    exact ⟨v, H', J.os, J.bare, J.base, J.hok, rv, q⟩
  | next =>
    obtain ⟨σ', H', J, q⟩ := hs
    exact ⟨V.non, H', J.os, J.bare, J.base, J.hok, rfl, q⟩
  | brk => exact hs.elim fun _ h => h.elim fun _ h => h.2.elim
  | cont => exact hs.elim fun _ h => h.elim fun _ h => h.2.elim
/-- a call of such a def -/
theorem run_fnG {X : Cx} {n : Nat} {a : Addr} {fd : FuncData} {ps : List Str} {sp : Sp} {ds : List Value} {dvs : List V} {W : WX} {pins : List (Addr × PySem.Obj)} {σ : St} {H : Hp} {s : Shared} {Q : VK} {us : List Value} {vs : List V} (F : FnG X.prog X.w X.K X.mg X.base n a fd ps sp) (hr : Rm n X.A)
    (hb : Binds X.K fd ps ds) (hd : Vals dvs ds) (tk : Takes X W) (I : Inv X pins σ H s) (r : Vals vs us) (h : sp (vs ++ dvs) H Q (fun c d H => W c d σ H)) : wpAny (model X.prog X.w) X.A (call (.ref a) us) (EP X pins σ Q) X.xe s := by
  have rr : Vals (vs ++ dvs) (us ++ ds) := r.append hd
  refine wpAny_call (codeAny_mono (F.run X.A X.stack s H ⟨us, []⟩ _ _ Q _ hr I.env0 (hb s us I.kIn (by rw [← rr.length]; exact F.len _ _ _ _ h)) rr h) fun ans s' hq => ?_)
  match ans, hq with
  | .error e, hq => exact passAt tk σ pins H s e s' I hq
  | .ok (.ret u), hq => exact I.after hq
/-- what stands in a context -/
structure Rn (X : Cx) (g : Gx) (o : Orc) (t : Tb) (F : Ft) (nf n : Nat) (W : WX) : Prop where
  K : g.K = X.K
  P : g.P = X.prog
  w : g.w = X.w
  nd : X.N.Nodup
  calm : X.calm = true
  room : Rb n X.A
  takes : Takes X W
  owns : PassesOwn (model X.prog X.w) X.A X.env X.xe
  orc : o = orcN t n
  ok : AllOk X.prog X.w X.K X.mg X.base g t F nf n
theorem takes_blk {X : Cx} {s : Shared} {H : Hp} {scope : Scope} {cenv : PySem.Env} {fp : List Addr} : Takes (X.blk s H scope cenv fp) Wno := fun u s' ⟨_, _, _, _, _, _, _, _, _, _, _, _, _, _, _, _, h⟩ => h.elim
section
variable {X : Cx} {g : Gx} {o : Orc} {W : WX} {t : Tb} {F : Ft} {nf n : Nat} {pins : List (Addr × PySem.Obj)} {s : Shared} {σ : St} {ρ : G.Env} {m : Mp} {H : Hp} {S : Store} {pos p apos : Pos} {e : PySem.Expr} {es : List PySem.Expr} {cs : G.EL} {x : Str}
theorem Rn.blk (R : Rn X g o t F nf n W) {s : Shared} {H : Hp} {scope : Scope} {C : Addr} {cl : List (Str × Addr)} {fp : List Addr} : Rn (X.blk s H scope (compEnvC scope cl C X.env) fp) g o t F nf n Wno :=
  ⟨R.K, R.P, R.w, R.nd, R.calm, R.room, takes_blk, PassesOwn.never, R.orc, R.ok⟩
theorem Rn.tr (R : Rn X g o t F nf n W) {W' : WX} {pn : List (Addr × PySem.Obj)} {xe : Value → Shared → Prop} (h1 : Takes (X.tr pn xe) W') (h2 : PassesOwn (model X.prog X.w) X.A X.env xe) : Rn (X.tr pn xe) g o t F nf n W' :=
  ⟨R.K, R.P, R.w, R.nd, R.calm, R.room, h1, h2, R.orc, R.ok⟩
/-- a def's context -/
theorem Rn.fn {P : Program} {w : World} {K : PySem.W.Frag} {mg : Str → Option Value} {base : Heap} {N : List Str} {qual : Str} {scope : Scope} {f : Addr} {cd : Value} {A : Around} {outer : List PySem.Env} {s : Shared} {H : Hp} {E : XK}
    (hK : g.K = K) (hP : g.P = P) (hw : g.w = w) (nd : N.Nodup) (hr : Rb n (A.deeper (envOfC qual scope s.heap.objs.size f cd))) (ok : AllOk P w K mg base g t F nf n) :
    Rn (cxOf (L2.CX P w) P w K mg base N qual scope f cd A outer s H E) g (orcN t n) t F nf n (fun c d _ H => E c d H) :=
  ⟨hK, hP, hw, nd, rfl, hr, takes_of (E := E) rfl rfl rfl rfl, passes_of rfl, rfl, ok⟩
/-! ### calls of defs -/
theorem e_call (R : Rn X g o t F nf n W) {f : Nat} (hf : f < nf) (hg : Gl X x) (hm : X.mg x = some (.ref (F.a f))) (hk : PySem.W.keepIn X.K (.ref (F.a f)) = true) (hb : Binds X.K (F.fd f) (F.ps f) [])
    (ha : PA X (e :: es) (tL g o W cs)) (hdb : (x == ("__debug__" : Str)) = false) (he : starEach (e :: es) X.env = (false, eval e X.env) :: starEach es X.env) (hpl : (backTo pos (starEach es X.env)).any (·.1) = false) :
    PE X (.Call (.Name x p) (e :: es) [] pos) (tM g o W (eCall f cs)) := by
  refine ⟨fun pins s σ H Q I ⟨m, ρ, S, re, rs, pp⟩ => wpAny_Call_Name_kw (ld_glob I hg hm ?_ hdb)⟩
  refine PySem.W.callWith_K (h₀ := X.base) I.ok.mod.kin hk (thnL (pos := pos) ha I re rs pp fun us s1 vs S1 m1 H1 xs I1 r1 rv1 rs1 re1 e1 p1 => ⟨I1.kIn, ?_⟩) he hpl
  rw [R.orc] at p1
  exact run_fnG (R.ok f hf) R.room.rm hb .nil R.takes I1 r1 ⟨m1, vs, S1, by rw [List.append_nil]; exact rv1, rs1, p1⟩
theorem passesAll (tk : Takes X W) (σ : St) : Passes (L2.CX X.prog X.w) X (fun c d H => ∀ σ, W c d σ H) := passes_call tk fun cls d σ H h => h σ
end
end G
set_option Elab.async false
set_option linter.all false
set_option maxRecDepth 100000
namespace G
open PySem PySem.Spec L2
open PyProof.Rows hiding St
/-! ### exceptions with one field -/
def spX (K : PySem.W.Frag) (f : Str) : Sp := fun vs H Q E => ∃ a C v, vs = [.ref a, v] ∧ OexC K C ∧ PySem.W.findIn K (.ref C) f = some .none ∧ H a = some (exo a C .none) ∧ ∀ dx, H dx = .none → dx ≠ a → Q .non (upd (upd H dx (exd dx [(f, v)])) a (exo a C (some dx)))
theorem x_init {P : Program} {w : World} {K : PySem.W.Frag} {mg : Str → Option Value} {base : Heap} {f : Addr} {name qual : Str} {params : Arguments} {scope : Scope} {dV kV doc pm cdv ct oc : Value} {an od : Option Addr}
    {osl : Array (Option Value)} {sn q fl : Str} {p1 p2 p3 p4 : Pos} (lk : K.lookup f = some ⟨oc, od, .func (PySem.W.fnOf name qual params [.Assign [.Attribute (.Name sn p1) fl p2] (.Name q p3) p4] scope dV kV doc pm an cdv ct), osl⟩) (hcd : PySem.W.codeIn K cdv qual = true) (S : FnScope [sn, q] [sn, q] scope)
    (v1 : Vis scope sn) (v2 : Vis scope q) (d1 : (sn == ("__debug__" : Str)) = false) (d2 : (q == ("__debug__" : Str)) = false) (c1 : (sn == ("__classdict__" : Str)) = false) (c2 : (q == ("__classdict__" : Str)) = false) :
    FnOk P w K mg base (L2.CX P w) 1 f (PySem.W.fnOf name qual params [.Assign [.Attribute (.Name sn p1) fl p2] (.Name q p3) p4] scope dV kV doc pm an cdv ct) [sn, q] (spX K fl) := by
  refine fn_of lk hcd S (fun vs H Q E ⟨a, C, v, e, _⟩ => by rw [e]; rfl) fun A outer s H vs Q E hr ⟨a, C, v, e, T, hno, ha, hq⟩ => ⟨_, pss_cons (ps_ost (pe_var (i := 0) rfl v1 d1 c1) (pe_var (i := 1) rfl v2 d2 c2)) pss_nil, ?_⟩
  subst e
  exact ⟨v, rfl, .ref a, rfl, a, C, rfl, T, hno, .inl ⟨ha, fun dx h1 h2 => hq dx h1 h2⟩⟩
section
variable {X : Cx} {g : Gx} {o : Orc} {W : WX} {t : Tb} {F : Ft} {nf n : Nat} {pins : List (Addr × PySem.Obj)} {s : Shared} {σ : St} {ρ : G.Env} {m : Mp} {H : Hp} {S : Store} {pos p apos : Pos} {e : PySem.Expr} {es : List PySem.Expr} {cs : G.EL} {ce : G.E} {x : Str}
theorem xd_heap {H : Hp} {a dx : Addr} {u v w y : HO} (h : H a = .none) (ne : dx ≠ a) : upd (del (upd (upd (upd H a u) dx v) a w) a) dx y = upd H dx y := by
  funext b
  by_cases e1 : b = dx
  · subst e1; rw [upd_same, upd_same]
  · rw [upd_ne e1, upd_ne e1]
    by_cases e2 : b = a
    · subst e2; rw [del_same, h]
    · rw [del_ne e2, upd_ne e2, upd_ne e1, upd_ne e2]
/-- raise C(e) -/
theorem s_raise (R : Rn X g o t F nf n W) {c f : Nat} {fI : Addr} {fd : FuncData} {ps : List Str} {fl : Str} {pos' : Pos} (T : OexC X.K (g.xc c)) (iC : PySem.W.findIn X.K (.ref (g.xc c)) "__init__" = some (some (.ref fI))) (tI : PySem.W.typeIn X.K (.ref fI) = some (.type "function"))
    (F1 : FnOk X.prog X.w X.K X.mg X.base (L2.CX X.prog X.w) 1 fI fd ps (spX X.K fl)) (hr : Room 2 X.A) (hb : Binds X.K fd ps []) (hno : PySem.W.findIn X.K (.ref (g.xc c)) fl = some .none) (hfl : g.nm f = fl) (hlt : f < g.nf) (hg : Gl X x) (hm : X.mg x = some (.ref (g.xc c))) (ha : PE X e (tM g o W ce))
    (hdb : (x == ("__debug__" : Str)) = false) (he : starEach [e] X.env = (false, eval e X.env) :: starEach [] X.env) :
    PS X (.Raise (some (.Call (.Name x p) [e] [] pos)) .none pos') (tS g o W (sRaise c f ce)) :=
  PS.imp (ps_raise R.calm R.takes (pmk_oex T iC tI F1 hr hb .nil (passes_call R.takes fun _ _ _ _ h => h.elim) hg hm (l_cons ha l_nil he) hdb he rfl)) fun D σ H ⟨m, ρ, S, re, rs, pp⟩ => by
    refine ⟨m, ρ, S, re, rs, ?_⟩
    have p2 : PostG g RV m H (fun y H1 => ∃ m1 v S1, Ex m H m1 H1 ∧ RS g m1 S1 H1 ∧ RV m1 H1 v y ∧ PostS g m1 H1 D W (.exc c [(f, v)] ρ S1)) (atS W σ) (ce o ρ S) := PostS.to (k := fun v S => .exc c [(f, v)] ρ S) re pp
    unfold elCons elNil
    show PostG g RVs m H _ (atS W σ) ((ce o ρ S).bind fun v S => .ok [v] S)
    have q := fun (y : V) (H1 : Hp) (m1 : Mp) (v : Val) (S1 : Store) (e1 : Ex m H m1 H1) (rs1 : RS g m1 S1 H1) (rv : RV m1 H1 v y) (p1 : PostS g m1 H1 D W (.exc c [(f, v)] ρ S1)) => (show ([y] : List V).length ≤ 1000 ∧ ∀ a, H1 a = .none → spX X.K fl (.ref a :: ([y] ++ [])) (upd H1 a (exo a (g.xc c) .none))
      (fun v H2 => v = .non ∧ ∃ (d : Addr) (fs : List (Str × V)), H2 a = some (exo a (g.xc c) (some d)) ∧ H2 d = some (exd d fs) ∧ H1 d = .none ∧ W (.ref (g.xc c)) (some d) σ (upd (del H2 a) d (.xd fs))) (fun _ _ _ => False) from by
        refine ⟨by show 1 ≤ 1000; decide, fun a hna => ⟨a, g.xc c, y, rfl, T, hno, upd_same, fun dx h1 h2 => ⟨rfl, dx, _, upd_same, by rw [upd_ne h2]; exact upd_same, ?_, ?_⟩⟩⟩
        · rw [upd_ne h2] at h1; exact h1
        · rw [upd_ne h2] at h1
          rw [xd_heap hna h2]
          have x1 : Ex m1 H1 m1 (upd H1 dx (.xd [(fl, y)])) := Ex.upd h1
          exact p1 m1 _ σ (some dx) x1 (rs1.upd h1) (re.mono (e1.trans x1)) (.inr ⟨dx, _, rfl, rs1.notIn h1, h1, upd_same, .cons ⟨hfl.symm, rv.mono x1⟩ .nil, fun p hp => by rw [List.mem_singleton.mp hp]; exact hlt⟩))
    revert p2
    cases ce o ρ S with
    | ok v S1 =>
      exact fun p2 m' H' ys x rs' r => by
        cases r with
        | cons rv rr =>
          cases rr
          obtain ⟨m1, v1, S1', e1, rs1, rv1, p1⟩ := p2 m' H' _ x rs' rv
          exact q _ H' m1 v1 S1' e1 rs1 rv1 p1
    | exc c' fs S1 => exact fun p2 m' H' d x rs' z => p2 m' H' d x rs' z
    | stuck w => exact fun p2 => p2
/-! ### try -/
theorem Ex0.ea {m : Mp} {H : Hp} {a : Addr} : Ex0 m H { m with ea := a } H := ⟨rfl, List.prefix_rfl, fun _ _ h _ => h⟩
def Gx.at_ (g : Gx) (a : Addr) (d : Option Addr) (fs : List (Nat × Val)) : Gx := { g with ex := match d with | some a => some (a, fs) | .none => .none, ea := some a }
theorem DR.gx {g g' : Gx} (hP : g'.P = g.P) (hw : g'.w = g.w) {m : Mp} {H : Hp} {kvs : List (Val × Val)} {es : Array DictEntry} (r : DR g m H kvs es) : DR g' m H kvs es := by
  obtain ⟨P, w, K, nm, nf, cl, xc, ex, ea⟩ := g
  obtain ⟨P', w', K', nm', nf', cl', xc', ex', ea'⟩ := g'
  have e1 : P' = P := hP
  have e2 : w' = w := hw
  subst e1 e2
  cases r with
  | tup xs he hn hr => exact .tup xs he hn hr
  | flat xs hk he hn hr => exact .flat xs hk he hn hr
theorem RO.gx {m : Mp} {H : Hp} {a : Addr} {ob : G.Obj} {ex : Option (Addr × List (Nat × Val))} {ea : Option Addr} (r : RO g m H a ob) : RO { g with ex := ex, ea := ea } m H a ob := by
  cases ob with
  | lst xs => exact r
  | dct kvs => obtain ⟨z, es, h, q⟩ := r; exact ⟨z, es, h, DR.gx (g := g) (g' := { g with ex := ex, ea := ea }) rfl rfl q⟩
  | set xs => exact r
  | fz kvs => obtain ⟨z, b, es, h, q⟩ := r; exact ⟨z, b, es, h, DR.gx (g := g) (g' := { g with ex := ex, ea := ea }) rfl rfl q⟩
  | ins c fs => obtain ⟨⟨f1, f2⟩, q⟩ := r; exact ⟨⟨f1, fun p hp => ⟨(f2 p hp).lt, (f2 p hp).no⟩⟩, q⟩
theorem RS.gx {a : Addr} {ex : Option (Addr × List (Nat × Val))} {ea : Option Addr} (rs : RS g m S H) (h : ∀ b fs, ex = some (b, fs) → b ∉ m.l ∧ ∃ hs, H b = some (.xd hs) ∧ RF g m H fs hs) (h2 : ∀ b, ea = some b → a = b) : RS { g with ex := ex, ea := ea } { m with ea := a } S H :=
  ⟨rs.K, rs.len, rs.lim, rs.inj, fun n o hn => let ⟨b, hb, ro⟩ := rs.obj n o hn; ⟨b, hb, RO.mono0 Ex0.ea (fun _ q => q) ro.gx⟩, rs.all, (fun b fs hb => let ⟨h1, hs, h2, h3⟩ := h b fs hb; ⟨h1, hs, h2, RF.mono0 (g := g) Ex0.ea h3⟩), h2⟩
/-- out of a suite -/
theorem RS.ungx {a : Addr} {ex : Option (Addr × List (Nat × Val))} {ea : Option Addr} (hx : g.ex = .none ∧ g.ea = .none) (rs : RS { g with ex := ex, ea := ea } m S H) : RS g { m with ea := a } S H := by
  obtain ⟨P, w, K, nm, nf, cl, xc, ex0, ea0⟩ := g
  obtain ⟨e, e2⟩ := hx
  have e : ex0 = .none := e
  have e2 : ea0 = .none := e2
  subst e e2
  exact RS.gx (g := { P := P, w := w, K := K, nm := nm, nf := nf, cl := cl, xc := xc, ex := ex, ea := ea }) (ex := .none) (ea := .none) rs (fun b fs h => nomatch h) (fun b h => nomatch h)
theorem RE.clr {a : Addr} (re : RE m H ρ σ) : RE { m with ea := a } H (clr ρ) σ := by
  refine ⟨by simp [G.clr, re.len], fun i v h => ?_⟩
  unfold G.clr at h
  rw [List.getElem?_map] at h
  cases e : ρ[i]? with
  | none => rw [e] at h; cases h
  | some w =>
    rw [e] at h
    cases w with
    | none => cases h
    | some w =>
      have ne : w ≠ .err := by rintro rfl; cases h
      have hw : w = v := by cases w <;> first | exact absurd rfl ne | (cases h; rfl)
      subst hw
      obtain ⟨y, h1, h2⟩ := re.get e ne
      exact ⟨y, h1, .inl (h2.mono0 Ex0.ea)⟩
def setS (σ : St) (i : Option Nat) (v : Option V) : St := match i with
  | some i => σ.set i v
  | .none => σ
theorem RE.unsetO (re : RE m H ρ σ) (i : Option Nat) : RE m H (setO ρ i .none) (setS σ i .none) := by
  cases i with
  | none => exact re
  | some i => exact re.unset i .none
/-- a suite's answer, for the wish outside -/
theorem suite_out {g : Gx} (hx : g.ex = .none ∧ g.ea = .none) {a : Addr} {ex : Option (Addr × List (Nat × Val))} {ea : Option Addr} {i : Option Nat} {D : Ends} {r : SR}
    (p : PostS g m H D W (match r with | .nx ρ S => .nx (setO (clr ρ) i .none) S | .bk ρ S => .bk (setO (clr ρ) i .none) S | .exc _ _ _ _ => .stuck 206 | r => r)) :
    PostS { g with ex := ex, ea := ea } { m with ea := a } H { nx := fun σ' H' => D.nx (setS σ' i .none) H', rt := D.rt, bk := fun σ' H' => D.bk (setS σ' i .none) H', ct := fun σ' H' => D.ct (setS σ' i .none) H' } (fun _ _ _ _ => False) r := by
  have back : ∀ {m' : Mp} {H' : Hp}, Ex { m with ea := a } H m' H' → Ex m H { m' with ea := m.ea } H' := fun x => ⟨x.K, rfl, x.pre, x.keep, x.new⟩
  cases r with
  | nx ρ S => exact fun m' H' σ' x rs re => p { m' with ea := m.ea } H' _ (back x) (rs.ungx hx) (re.clr.unsetO i)
  | bk ρ S => exact fun m' H' σ' x rs re => p { m' with ea := m.ea } H' _ (back x) (rs.ungx hx) (re.clr.unsetO i)
  | rt v S => exact fun m' H' y x rs rv => p { m' with ea := m.ea } H' y (back x) (rs.ungx hx) (rv.mono0 Ex0.ea)
  | exc c fs ρ S => exact p.elim
  | stuck w => exact p
/-- fields that are told -/
structure FsOk (g : Gx) (fs : List (Nat × Val)) (d : Option Addr) : Prop where
  no : d = .none → fs = []
  lt : ∀ p ∈ fs, p.1 < g.nf
/-- what a suite is to keep: for whatever it caught -/
abbrev SuOk (X : Cx) (g : Gx) (o : Orc) (ys : List Nat) (su : List Stmt) (k : G.C) : Prop := ∀ (a : Addr) (oe : PySem.Obj) (c : Nat) (d : Option Addr) (fs : List (Nat × Val)) (pn : List (Addr × PySem.Obj)), Zc (.ref (g.xc c)) d oe → (∃ vs, oe.data = .fields vs) → ys.any (Nat.beq c) = true → FsOk g fs d →
  PSs (X.suite a ((a, oe) :: pn)) su (fun D σ H => ∃ m ρ S, RE m H ρ σ ∧ RS (g.at_ a d fs) m S H ∧ PostS (g.at_ a d fs) m H D (fun _ _ _ _ => False) (k { o with err := some fs } ρ S))
def tsG (g : Gx) (o : Orc) (ys : List Nat) (k : G.C) (a : Addr) (cls : Value) (d : Option Addr) : TS := fun D σ H => ∃ c fs m ρ S, cls = .ref (g.xc c) ∧ ys.any (Nat.beq c) = true ∧ FsOk g fs d ∧ RE m H ρ σ ∧ RS (g.at_ a d fs) m S H ∧ PostS (g.at_ a d fs) m H D (fun _ _ _ _ => False) (k { o with err := some fs } ρ S)
theorem SuOk.run {ys : List Nat} {su : List Stmt} {k : G.C} (h : SuOk X g o ys su k) (a : Addr) (oe : PySem.Obj) (cls : Value) (d : Option Addr) (pn : List (Addr × PySem.Obj)) (hz : Zc cls d oe) (hf : ∃ vs, oe.data = .fields vs) : PSs (X.suite a ((a, oe) :: pn)) su (tsG g o ys k a cls d) :=
  ⟨fun pins s σ H D I ⟨c, fs, m, ρ, S, e, hc, hq, q⟩ => by
    subst e
    exact (h a oe c d fs pn hz hf hc hq).run pins s σ H D I ⟨m, ρ, S, q⟩⟩
/-- a clause's class, told by numbers -/
structure ClOk (K : PySem.W.Frag) (g : Gx) (v : Value) (ys ns : List Nat) : Prop where
  yes : ∀ c ∈ ys, PySem.W.exmOne K (.ref (g.xc c)) v = some true
  no : ∀ c ∈ ns, PySem.W.exmOne K (.ref (g.xc c)) v = some false
theorem any_mem {c : Nat} {l : List Nat} (h : l.any (Nat.beq c) = true) : c ∈ l := by
  obtain ⟨x, h1, h2⟩ := List.any_eq_true.mp h
  rw [Nat.eq_of_beq_eq_true h2]; exact h1
theorem xf_of {fs : List (Nat × Val)} {d : Option Addr} {H0 : Hp} (q : XR g m H0 H fs d) : ∀ b fs', (match d with | some a => some (a, fs) | .none => .none) = some (b, fs') → b ∉ m.l ∧ ∃ hs, H b = some (.xd hs) ∧ RF g m H fs' hs := fun b fs' h => by
  rcases q with ⟨_, q⟩ | ⟨a, hs, rfl, h2, _, h4, h5, _⟩
  · subst q; cases h
  · cases h; exact ⟨h2, hs, h4, h5⟩
theorem xf_nf {fs : List (Nat × Val)} {d : Option Addr} {H0 : Hp} (q : XR g m H0 H fs d) : FsOk g fs d := by
  rcases q with ⟨e1, e2⟩ | ⟨a, hs, e1, h2, _, h4, h5, h6⟩
  · subst e1 e2; exact ⟨fun _ => rfl, fun p hp => nomatch hp⟩
  · subst e1; exact ⟨(fun h => nomatch h), h6⟩
theorem s_try_as (hx : g.ex = .none ∧ g.ea = .none) (nd : X.N.Nodup) (tk : Takes X W) (hs : X.stack = X.env :: X.outer) (hf : X.env.frame = some X.env.locals) {nmx : Str} {i : Nat} {cv : Value} {body su : List Stmt} {b₀ : Stmt} {np pos' : Pos} {cb k : G.C} {ys ns : List Nat} (hi : X.N[i]? = some nmx) (hln : X.env.kindOf nmx = some .local) (hc : Names X x cv) (hcl : ClOk X.K g cv ys ns)
    (hb : ∀ (W : WX) (pn : List (Addr × PySem.Obj)) (xe : Value → Shared → Prop), Takes (X.tr pn xe) W → PassesOwn (model X.prog X.w) X.A X.env xe → PSs (X.tr pn xe) body (tS g o W cb))
    (hsu : SuOk X g o ys (b₀ :: su) k) : PS X (.Try body [.ExceptHandler (some (.Name x np)) (some nmx) (b₀ :: su) pos'] [] [] pos) (tS g o W (sTry cb [(ys, ns, some i, k)])) :=
  PS.imp (ps_try_as (tb := fun W => tS g o W cb) hs hf nd hi hln hc tk hb hsu.run) fun D σ H ⟨m, ρ, S, re, rs, p⟩ => by
    refine ⟨m, ρ, S, re, rs, ?_⟩
    unfold sTry at p
    revert p
    cases cb o ρ S with
    | nx ρ1 S1 => exact id
    | bk ρ1 S1 => exact id
    | rt v S1 => exact id
    | stuck w => exact id
    | exc c fs ρ1 S1 =>
      intro p m' H' σ' d x1 rs' re' q
      have p2 : PostS g m H D W (handle o c fs ρ1 S1 [(ys, ns, some i, k)]) := p
      unfold handle at p2
      cases hy : ys.any (Nat.beq c) with
      | true =>
        rw [hy] at p2
        refine ⟨true, hcl.yes c (any_mem hy), fun _ a ha => ⟨c, fs, { m' with ea := a }, _, S1, rfl, hy, xf_nf q, ?_, rs'.gx (xf_of q) (fun b h => Option.some.inj h), suite_out hx (i := some i) (PostS.base x1 p2)⟩, fun h => nomatch h⟩
        exact (re'.clr (a := a)).setG i (.inr ⟨rfl, rfl⟩)
      | false =>
        rw [hy] at p2
        cases hn : ns.any (Nat.beq c) with
        | false =>
          have p3 : PostS g m H D W (match ns.any (Nat.beq c) with | true => handle o c fs ρ1 S1 [] | false => .stuck 207) := p2
          rw [hn] at p3; exact p3.elim
        | true =>
          have p3 : PostS g m H D W (match ns.any (Nat.beq c) with | true => handle o c fs ρ1 S1 [] | false => .stuck 207) := p2
          rw [hn] at p3
          exact ⟨false, hcl.no c (any_mem hn), (fun h => nomatch h), fun _ => p3 m' H' σ' d x1 rs' re' q⟩
theorem s_try_only (hx : g.ex = .none ∧ g.ea = .none) (tk : Takes X W) (hs : X.stack = X.env :: X.outer) (hf : X.env.frame = some X.env.locals) {cv : Value} {body su : List Stmt} {b₀ : Stmt} {np pos' : Pos} {cb k : G.C} {ys ns : List Nat} (hc : Names X x cv) (hcl : ClOk X.K g cv ys ns)
    (hb : ∀ (W : WX) (pn : List (Addr × PySem.Obj)) (xe : Value → Shared → Prop), Takes (X.tr pn xe) W → PassesOwn (model X.prog X.w) X.A X.env xe → PSs (X.tr pn xe) body (tS g o W cb))
    (hsu : SuOk X g o ys (b₀ :: su) k) : PS X (.Try body [.ExceptHandler (some (.Name x np)) .none (b₀ :: su) pos'] [] [] pos) (tS g o W (sTry cb [(ys, ns, .none, k)])) :=
  PS.imp (ps_try_only (tb := fun W => tS g o W cb) hs hf hc tk hb hsu.run) fun D σ H ⟨m, ρ, S, re, rs, p⟩ => by
    refine ⟨m, ρ, S, re, rs, ?_⟩
    unfold sTry at p
    revert p
    cases cb o ρ S with
    | nx ρ1 S1 => exact id
    | bk ρ1 S1 => exact id
    | rt v S1 => exact id
    | stuck w => exact id
    | exc c fs ρ1 S1 =>
      intro p m' H' σ' d x1 rs' re' q
      have p2 : PostS g m H D W (handle o c fs ρ1 S1 [(ys, ns, .none, k)]) := p
      unfold handle at p2
      cases hy : ys.any (Nat.beq c) with
      | true =>
        rw [hy] at p2
        exact ⟨true, hcl.yes c (any_mem hy), (fun _ a ha => ⟨c, fs, { m' with ea := a }, _, S1, rfl, hy, xf_nf q, re'.clr, rs'.gx (xf_of q) (fun b h => Option.some.inj h), suite_out hx (i := .none) (PostS.base x1 p2)⟩), fun h => nomatch h⟩
      | false =>
        rw [hy] at p2
        have p3 : PostS g m H D W (match ns.any (Nat.beq c) with | true => handle o c fs ρ1 S1 [] | false => .stuck 207) := p2
        cases hn : ns.any (Nat.beq c) with
        | false => rw [hn] at p3; exact p3.elim
        | true =>
          rw [hn] at p3
          exact ⟨false, hcl.no c (any_mem hn), (fun h => nomatch h), fun _ => p3 m' H' σ' d x1 rs' re' q⟩
/-! ### in a suite -/
/-- err.f -/
theorem m_err {X : Cx} {g : Gx} {o : Orc} {a : Addr} {oe : PySem.Obj} {c : Nat} {d : Option Addr} {fs : List (Nat × Val)} {pn : List (Addr × PySem.Obj)} {x fl : Str} {i f : Nat} {W : WX} {p pos : Pos} (hz : Zc (.ref (g.xc c)) d oe) (hf : ∃ vs, oe.data = .fields vs) (T : XfC X.K (g.xc c)) (hno : PySem.W.findIn X.K (.ref (g.xc c)) fl = some .none)
    (hfl : g.nm f = fl) (hlt : f < g.nf) (hi : ∀ i j, i < g.nf → j < g.nf → g.nm i = g.nm j → i = j) (hq : FsOk g fs d) (hN : X.N[i]? = some x) (hv : Vis X.env.scope x) (hd : (x == ("__debug__" : Str)) = false) (hcd : (x == ("__classdict__" : Str)) = false)
    (hb : attributeBase (.Name x p) fl X.env (eval (.Name x p) X.env) = eval (.Name x p) X.env) :
    PE (X.suite a ((a, oe) :: pn)) (.Attribute (.Name x p) fl pos) (tM (g.at_ a d fs) { o with err := some fs } W (eErr i f)) :=
  PE.imp (pe_xf (X := X) (te := _) T hno hz hf (pe_var hN hv hd hcd) hb) fun σ H Q ⟨m, ρ, S, re, rs, pp⟩ => by
    unfold eErr at pp
    split at pp
    · rename_i h
      obtain ⟨y, h1, h2⟩ := re.at_ i _ h
      have h3 : y = .ref m.ea := by
        rcases h2 with h2 | h2
        · cases h2
        · exact h2.2
      subst h3
      have hea : m.ea = a := rs.he a rfl
      rw [hea] at h1
      have pp' : PostG (g.at_ a d fs) RV m H Q (atS W σ) (ofOpt (fldGet f fs) S 13) := pp
      unfold ofOpt at pp'
      cases e : fldGet f fs with
      | none => rw [e] at pp'; exact pp'.elim
      | some v =>
        rw [e] at pp'
        cases d with
        | none => rw [hq.no rfl] at e; cases e
        | some dd =>
          obtain ⟨k1, hs, k2, k3⟩ := rs.xf dd fs rfl
          obtain ⟨y, k4, k5⟩ := (RF.lookup hi hlt k3 hq.lt).1 v e
          exact ⟨_, h1, rfl, rfl, dd, hs, y, rfl, k2, by rw [← hfl]; exact k4, pp' m H y Ex.rfl' rs k5⟩
    · exact pp.elim
end
end G
set_option Elab.async false
set_option linter.all false
set_option maxRecDepth 100000
namespace G
open PySem PySem.Spec L2
open PyProof.Rows hiding St
/-! ### data -/
def dat (S : Store) : Nat → Val → PyData
  | 0, _ => .none
  | k + 1, x => match x with
    | .bool b => .bool b
    | .int i => .int i
    | .str s => .str ⟨s.toArray⟩
    | .tup a => .tuple (a.map (dat S k))
    | .ref a => match isList (S.get a) with
      | some xs => .list (xs.map (dat S k))
      | .none => .none
    | _ => .none
section
variable {g : Gx} {m : Mp} {H : Hp} {S : Store} {K : PySem.W.Frag}
theorem dat_ok (rs : RS g m S H) : ∀ (k : Nat) (v : Val) (x : V), dOk S k v = true → RV m H v x → Dp K H x (dat S k v)
  | 0, v, x, h, r => by cases h
  | k + 1, v, x, h, r => by
    have all : ∀ (vs : List Val) (xs : List V), vs.all (dOk S k) = true → RVs m H vs xs → DpAll K H xs (vs.map (dat S k)) := by
      intro vs
      induction vs with
      | nil => intro xs _ r; cases r; exact .nil
      | cons v vs ih =>
        intro xs h r
        cases r with
        | cons r1 r2 =>
          obtain ⟨h1, h2⟩ := Bool.and_eq_true_iff.mp h
          exact .cons (dat_ok rs k v _ h1 r1) (ih _ h2 r2)
    cases r with
    | none => exact .non
    | bool b => exact .bl b
    | int i => exact .int i
    | str hs => exact .str _
    | tup ha r => exact .tup (SqT.of ha) (all _ _ h r)
    | @ref n a hm =>
      have h' : (match isList (S.get n) with | some xs => xs.all (dOk S k) | .none => false) = true := h
      cases e : isList (S.get n) with
      | none => rw [e] at h'; cases h'
      | some xs =>
        rw [e] at h'
        obtain ⟨q, ys, h1, _, h2, h3⟩ := rs.list (isList_of e) (RV.ref hm)
        cases h1
        have : dat S (k + 1) (.ref n) = .list (xs.map (dat S k)) := by
          show (match isList (S.get n) with | some xs => PyData.list (xs.map (dat S k)) | .none => .none) = _
          rw [e]
        rw [this]
        exact .lst (SqL.of h2) (all _ _ h' h3)
    | scr _ => cases h
theorem dat_depth (S : Store) : ∀ (k : Nat) (v : Val), (dat S k v).depth ≤ k
  | 0, v => Nat.zero_le _
  | k + 1, v => by
    have all : ∀ (vs : List Val), PyData.depthAll (vs.map (dat S k)) ≤ k := by
      intro vs
      induction vs with
      | nil => exact Nat.zero_le _
      | cons v vs ih => exact Nat.max_le.mpr ⟨dat_depth S k v, ih⟩
    cases v with
    | tup a => exact Nat.succ_le_succ (all a)
    | ref n =>
      show (match isList (S.get n) with | some xs => PyData.list (xs.map (dat S k)) | .none => .none).depth ≤ _
      cases isList (S.get n) with
      | none => exact Nat.zero_le _
      | some xs => exact Nat.succ_le_succ (all xs)
    | _ => exact Nat.zero_le _
theorem strOk_of {l : List Nat} (h : sOk l) : PyData.strOk ⟨l.toArray⟩ = true := by
  unfold PyData.strOk
  rw [← Array.all_toList]
  exact List.all_eq_true.mpr fun c hc => decide_eq_true (Nat.lt_trans (h.2 c (by simpa using hc)) (by decide))
theorem dat_lay (rs : RS g m S H) : ∀ (k : Nat) (v : Val) (x : V), RV m H v x → (dat S k v).canLay0 = true
  | 0, v, x, r => rfl
  | k + 1, v, x, r => by
    have all : ∀ (vs : List Val) (xs : List V), RVs m H vs xs → PyData.canLayAll0 (vs.map (dat S k)) = true := by
      intro vs
      induction vs with
      | nil => intro xs r; rfl
      | cons v vs ih =>
        intro xs r
        cases r with
        | cons r1 r2 => exact Bool.and_eq_true_iff.mpr ⟨dat_lay rs k v _ r1, ih _ r2⟩
    cases r with
    | str hs => exact strOk_of hs
    | tup ha r => exact all _ _ r
    | @ref n a hm =>
      show (match isList (S.get n) with | some xs => PyData.list (xs.map (dat S k)) | .none => .none).canLay0 = true
      cases e : isList (S.get n) with
      | none => rfl
      | some xs =>
        obtain ⟨q, ys, h1, _, h2, h3⟩ := rs.list (isList_of e) (RV.ref hm)
        exact all _ _ h3
    | _ => rfl
theorem dat_shaped (rs : RS g m S H) {k : Nat} (hk : k ≤ 64) {v : Val} {x : V} (r : RV m H v x) : SeqAt.shaped (dat S k v) = true :=
  Bool.and_eq_true_iff.mpr ⟨dat_lay rs k v x r, decide_eq_true (Nat.le_trans (dat_depth S k v) hk)⟩
theorem boolEq_eq : ∀ a b : Bool, boolEq a b = (a == b)
  | true, true => rfl
  | true, false => rfl
  | false, true => rfl
  | false, false => rfl
theorem intEq_beq (i j : Int) : intEq i j = (i == j) := by rw [intEq_eq]; exact (Bool.beq_eq_decide_eq i j).symm
theorem b2i_eq (b : Bool) : G.b2i b = if b = true then 1 else 0 := by cases b <;> rfl
theorem strEq_eq : ∀ a b : List Nat, strEq a b = decide (a = b)
  | [], [] => rfl
  | [], _ :: _ => rfl
  | _ :: _, [] => rfl
  | a :: r, b :: s => by
    rw [strEq]
    cases e : Nat.beq a b with
    | true =>
      have := Nat.eq_of_beq_eq_true e
      subst this
      show strEq r s = _
      rw [strEq_eq r s]
      exact decide_eq_decide.mpr ⟨fun h => by rw [h], fun h => by cases h; rfl⟩
    | false =>
      have : a ≠ b := fun h => by rw [h, Nat.beq_refl] at e; cases e
      exact (decide_eq_false fun h => this (List.cons.inj h).1).symm
theorem strEq_beq (a b : List Nat) : strEq a b = ((⟨a.toArray⟩ : Str) == ⟨b.toArray⟩) := by
  rw [strEq_eq]
  exact (SX.S_beq_eq (a := a) (b := b)).symm
theorem eqF_dat : ∀ (k : Nat) (x y : Val), dOk S k x = true → dOk S k y = true → eqF S k x y = some (PyData.eqv (dat S k x) (dat S k y))
  | 0, x, y, h, _ => by cases h
  | k + 1, x, y, hx, hy => by
    have all : ∀ (a b : List Val), a.all (dOk S k) = true → b.all (dOk S k) = true → eqL (eqF S k) a b = some (PyData.eqvAll (a.map (dat S k)) (b.map (dat S k))) := by
      intro a
      induction a with
      | nil =>
        intro b _ _
        cases b <;> rfl
      | cons u a ih =>
        intro b h1 h2
        cases b with
        | nil => rfl
        | cons v b =>
          obtain ⟨h3, h4⟩ := Bool.and_eq_true_iff.mp h1
          obtain ⟨h5, h6⟩ := Bool.and_eq_true_iff.mp h2
          rw [eqL, eqF_dat k u v h3 h5]
          show (match some (PyData.eqv (dat S k u) (dat S k v)) with | some true => eqL (eqF S k) a b | some false => some false | .none => .none) = some (PyData.eqv (dat S k u) (dat S k v) && PyData.eqvAll (a.map (dat S k)) (b.map (dat S k)))
          cases PyData.eqv (dat S k u) (dat S k v) with
          | true => exact ih b h4 h6
          | false => rfl
    have lst : ∀ (n : Nat), dOk S (k + 1) (.ref n) = true → ∃ xs, isList (S.get n) = some xs ∧ xs.all (dOk S k) = true ∧ dat S (k + 1) (.ref n) = .list (xs.map (dat S k)) := by
      intro n h
      have h' : (match isList (S.get n) with | some xs => xs.all (dOk S k) | .none => false) = true := h
      cases e : isList (S.get n) with
      | none => rw [e] at h'; cases h'
      | some xs =>
        rw [e] at h'
        refine ⟨xs, rfl, h', ?_⟩
        show (match isList (S.get n) with | some xs => PyData.list (xs.map (dat S k)) | .none => .none) = _
        rw [e]
    cases x with
    | none => cases y <;> first | rfl | (cases hy; done) | (obtain ⟨ys, e1, e2, e3⟩ := lst _ hy; rw [e3]; simp only [eqF, e1]; rfl)
    | bool a =>
      cases y with
      | bool b => show some (boolEq a b) = some (a == b); rw [boolEq_eq]
      | int j => show some (intEq (G.b2i a) j) = some ((if a then 1 else 0) == j); rw [intEq_beq, b2i_eq]
      | ref n => obtain ⟨ys, e1, e2, e3⟩ := lst _ hy; rw [e3]; simp only [eqF, e1]; rfl
      | scr _ => cases hy
      | err => cases hy
      | _ => rfl
    | int i =>
      cases y with
      | bool b => show some (intEq i (G.b2i b)) = some (i == (if b then 1 else 0)); rw [intEq_beq, b2i_eq]
      | int j => show some (intEq i j) = some (i == j); rw [intEq_beq]
      | ref n => obtain ⟨ys, e1, e2, e3⟩ := lst _ hy; rw [e3]; simp only [eqF, e1]; rfl
      | scr _ => cases hy
      | err => cases hy
      | _ => rfl
    | str a =>
      cases y with
      | str b => show some (strEq a b) = some ((⟨a.toArray⟩ : Str) == ⟨b.toArray⟩); rw [strEq_beq]
      | ref n => obtain ⟨ys, e1, e2, e3⟩ := lst _ hy; rw [e3]; simp only [eqF, e1]; rfl
      | scr _ => cases hy
      | err => cases hy
      | _ => rfl
    | tup a =>
      cases y with
      | tup b => exact all a b hx hy
      | ref n => obtain ⟨ys, e1, e2, e3⟩ := lst _ hy; rw [e3]; simp only [eqF, e1]; rfl
      | scr _ => cases hy
      | err => cases hy
      | _ => rfl
    | ref n =>
      obtain ⟨xs, e1, e2, e3⟩ := lst _ hx
      rw [e3]
      cases y with
      | ref n' =>
        obtain ⟨ys, f1, f2, f3⟩ := lst _ hy
        rw [f3]
        show (match isList (S.get n), isList (S.get n') with | some xs, some ys => eqL (eqF S k) xs ys | _, _ => .none) = _
        rw [e1, f1]
        exact all xs ys e2 f2
      | scr _ => cases hy
      | err => cases hy
      | _ => simp only [eqF, e1]; rfl
    | scr _ => cases hx
    | err => cases hx
theorem eqS_dat {x y : Val} {b : Bool} (h : eqS S x y = some b) : dOk S 60 x = true ∧ dOk S 60 y = true ∧ b = PyData.eqv (dat S 60 x) (dat S 60 y) := by
  rw [eqS_eq] at h
  unfold eqSo at h
  cases e : (dOk S 60 x && dOk S 60 y) with
  | false => rw [e] at h; cases h
  | true =>
    rw [e] at h
    obtain ⟨h1, h2⟩ := Bool.and_eq_true_iff.mp e
    rw [eqF_dat 60 x y h1 h2] at h
    exact ⟨h1, h2, (Option.some.inj h).symm⟩
end
section
variable {X : Cx} {g : Gx} {o : Orc} {W : WX} {pins : List (Addr × PySem.Obj)} {s : Shared} {σ : St} {ρ : G.Env} {m : Mp} {H : Hp} {S : Store}
theorem ofB_ok {b : Option Bool} {w : Nat} {Q : VK} {E : XK} (rs : RS g m S H) (p : PostG g RV m H Q E (ofB b S w)) : ∃ c, b = some c ∧ Q (.bl c) H := by
  unfold ofB at p
  cases b with
  | none => exact p.elim
  | some c => exact ⟨c, rfl, p m H _ Ex.rfl' rs (RV.bool c)⟩
theorem o_eq (hu : X.A.units + 64 < cLine) : OpS X g o W oEq (compareOp .Eq) := OpS.of (op_eqD hu) fun {σ H m S v w x y Q} rv rw_ rs p => by
  obtain ⟨b, h, q⟩ := ofB_ok rs p
  obtain ⟨h1, h2, rfl⟩ := eqS_dat h
  exact ⟨_, _, dat_ok rs _ _ _ h1 rv, dat_ok rs _ _ _ h2 rw_, dat_shaped rs (by decide) rv, dat_shaped rs (by decide) rw_, q⟩
theorem o_ne (hu : X.A.units + 64 < cLine) : OpS X g o W oNe (compareOp .NotEq) := OpS.of (op_neD hu) fun {σ H m S v w x y Q} rv rw_ rs p => by
  unfold oNe at p
  cases h : eqS S v w with
  | none => rw [h] at p; exact p.elim
  | some b =>
    rw [h] at p
    obtain ⟨h1, h2, rfl⟩ := eqS_dat h
    exact ⟨_, _, dat_ok rs _ _ _ h1 rv, dat_ok rs _ _ _ h2 rw_, dat_shaped rs (by decide) rv, dat_shaped rs (by decide) rw_, p m H _ Ex.rfl' rs (RV.bool _)⟩
/-! ### ints -/
theorem o_int {f : G.Op2} {sem : Value → Value → Sem Value} {C : Int → Int → Prop} {h : Int → Int → V} (r : OpR X sem (rI C h)) (hf : ∀ {σ : St} {H : Hp} {m : Mp} {S : Store} {v w : Val} {Q : VK}, RS g m S H → PostG g RV m H Q (atS W σ) (f o v w S) → ∃ i j, v = .int i ∧ w = .int j ∧ C i j ∧ Q (h i j) H) : OpS X g o W f sem :=
  OpS.of r fun {σ H m S v w x y Q} rv rw_ rs p => by
    obtain ⟨i, j, e1, e2, c, q⟩ := hf rs p
    subst e1 e2
    cases rv; cases rw_
    exact ⟨i, j, rfl, rfl, c, q⟩
theorem o_sub : OpS X g o W oSub (binaryOp .Sub) := OpS.of op_sub fun {σ H m S v w x y Q} rv rw_ rs p => by
  cases rv with
  | int i => cases rw_ with
    | int j => exact ⟨i, j, rfl, rfl, p m H _ Ex.rfl' rs (RV.int _)⟩
    | _ => exact p.elim
  | _ => exact p.elim
theorem o_div : OpS X g o W oDiv (binaryOp .FloorDiv) := OpS.of op_fdivW fun {σ H m S v w x y Q} rv rw_ rs p => by
  cases rv with
  | int i => cases rw_ with
    | int j =>
      have p' : PostG g RV m H Q (atS W σ) (match intLt 0 j && Nat.blt j.natAbs.log2 9000 with | true => .ok (.int (i / j)) S | false => .stuck 25) := p
      cases e : (intLt 0 j && Nat.blt j.natAbs.log2 9000) with
      | false => rw [e] at p'; exact p'.elim
      | true =>
        rw [e] at p'
        obtain ⟨e1, e2⟩ := Bool.and_eq_true_iff.mp e
        rw [intLt_eq] at e1
        exact ⟨i, j, rfl, rfl, ⟨of_decide_eq_true e1, by simpa [Nat.blt_eq] using e2⟩, p' m H _ Ex.rfl' rs (RV.int _)⟩
    | _ => exact p.elim
  | _ => exact p.elim
theorem o_mod : OpS X g o W oMod (binaryOp .Mod) := OpS.of op_mod fun {σ H m S v w x y Q} rv rw_ rs p => by
  cases rv with
  | int i => cases rw_ with
    | int j =>
      have p' : PostG g RV m H Q (atS W σ) (match intLt 0 j with | true => .ok (.int (i % j)) S | false => .stuck 27) := p
      cases e : intLt 0 j with
      | false => rw [e] at p'; exact p'.elim
      | true =>
        rw [e] at p'
        rw [intLt_eq] at e
        exact ⟨i, j, rfl, rfl, of_decide_eq_true e, p' m H _ Ex.rfl' rs (RV.int _)⟩
    | _ => exact p.elim
  | _ => exact p.elim
theorem o_gt : OpS X g o W oGt (compareOp .Gt) := OpS.of op_gt fun {σ H m S v w x y Q} rv rw_ rs p => by
  cases rv with
  | int i => cases rw_ with
    | int j => exact ⟨i, j, rfl, rfl, by show Q (.bl (decide (j < i))) H; rw [← intLt_eq]; exact p m H _ Ex.rfl' rs (RV.bool _)⟩
    | _ => exact p.elim
  | _ => exact p.elim
theorem o_le : OpS X g o W oLe (compareOp .LtE) := OpS.of op_le fun {σ H m S v w x y Q} rv rw_ rs p => by
  cases rv with
  | int i => cases rw_ with
    | int j =>
      refine ⟨i, j, rfl, rfl, ?_⟩
      have : decide (i ≤ j) = !intLt j i := by rw [intLt_eq]; by_cases h : i ≤ j <;> simp [h] <;> omega
      show Q (.bl _) H
      rw [this]
      exact p m H _ Ex.rfl' rs (RV.bool _)
    | _ => exact p.elim
  | _ => exact p.elim
theorem o_ge : OpS X g o W oGe (compareOp .GtE) := OpS.of op_ge fun {σ H m S v w x y Q} rv rw_ rs p => by
  cases rv with
  | int i => cases rw_ with
    | int j =>
      refine ⟨i, j, rfl, rfl, ?_⟩
      have : decide (j ≤ i) = !intLt i j := by rw [intLt_eq]; by_cases h : j ≤ i <;> simp [h] <;> omega
      show Q (.bl _) H
      rw [this]
      exact p m H _ Ex.rfl' rs (RV.bool _)
    | _ => exact p.elim
  | _ => exact p.elim
theorem o_pow : OpS X g o W oPow (binaryOp .Pow) := OpS.of op_pow fun {σ H m S v w x y Q} rv rw_ rs p => by
  cases rv with
  | int i => cases rw_ with
    | int j =>
      have p' : PostG g RV m H Q (atS W σ) (match Nat.blt i.natAbs (2 ^ 64) && (!intLt j 0 && !intLt 1000000 j) with | true => .ok (.int (i ^ j.toNat)) S | false => .stuck 29) := p
      cases e : (Nat.blt i.natAbs (2 ^ 64) && (!intLt j 0 && !intLt 1000000 j)) with
      | false => rw [e] at p'; exact p'.elim
      | true =>
        rw [e] at p'
        obtain ⟨e1, e2⟩ := Bool.and_eq_true_iff.mp e
        obtain ⟨e2, e3⟩ := Bool.and_eq_true_iff.mp e2
        rw [intLt_eq] at e2 e3
        simp only [Bool.not_eq_true', decide_eq_false_iff_not, Int.not_lt] at e2 e3
        exact ⟨i, j, rfl, rfl, ⟨e2, e3, by simpa [Nat.blt_eq] using e1⟩, p' m H _ Ex.rfl' rs (RV.int _)⟩
    | _ => exact p.elim
  | _ => exact p.elim
/-! ### sequences put together -/
theorem PostG.tup {vs : List Val} {ys : List V} {Q : VK} {E : XK} (p : PostG g RV m H Q E (.ok (.tup vs) S)) (rs : RS g m S H) (r : RVs m H vs ys) (a : Addr) (ha : H a = .none) : Q (.ref a) (upd H a (.tup ys)) :=
  p m _ _ (Ex.upd ha) (rs.upd ha) (RV.tup upd_same (r.mono (Ex.upd ha)))
theorem PostG.lst {vs : List Val} {ys : List V} {Q : VK} {E : XK} (p : PostG g RV m H Q E (G.alloc (.lst vs) S)) (rs : RS g m S H) (r : RVs m H vs ys) (a : Addr) (ha : H a = .none) : Q (.ref a) (upd H a (.lst ys)) :=
  PostG.alloc rs p ha fun x => ⟨ys, upd_same, r.mono x⟩
theorem room2_ok {α β : Type} {a b : List α} {c d : List β} (h1 : a.length = c.length) (h2 : b.length = d.length) (h : room2 a b = true) : c.length + d.length ≤ sizeLine := by
  have := Nat.le_of_ble_eq_true h
  rw [h1, h2] at this
  rw [← maxLen_eq]; exact this
theorem sOk.app {a b : List Nat} (h1 : sOk a) (h2 : sOk b) (h : room2 a b = true) : sOk (a ++ b) :=
  ⟨by rw [List.length_append, ← maxLen_eq]; exact Nat.le_of_ble_eq_true h, fun c hc => (List.mem_append.mp hc).elim (h1.2 c) (h2.2 c)⟩
theorem o_add : OpS X g o W oAdd (binaryOp .Add) := by
  intro pins s σ H m S v w x y a b Q I rv rw_ ra rb rs p
  cases rv with
  | int i => cases rw_ with
    | int j => exact op_add pins s σ H _ _ _ _ Q I ra rb ⟨i, j, rfl, rfl, p m H _ Ex.rfl' rs (RV.int _)⟩
    | _ => exact p.elim
  | @str l hl => cases rw_ with
    | @str k hk =>
      have p' : PostG g RV m H Q (atS W σ) (match room2 l k with | true => .ok (.str (l ++ k)) S | false => .stuck 20) := p
      cases e : room2 l k with
      | false => rw [e] at p'; exact p'.elim
      | true =>
        rw [e] at p'
        refine op_add_str pins s σ H _ _ _ _ Q I ra rb ⟨_, _, rfl, rfl, ?_, ?_⟩
        · have := Nat.le_of_ble_eq_true e
          rw [← maxLen_eq]; simpa [Str.length] using this
        · rw [SX.S_cat]; exact p' m H _ Ex.rfl' rs (RV.str (hl.app hk e))
    | _ => exact p.elim
  | @tup q xs l hq rl => cases rw_ with
    | @tup q2 ys k hq2 rk =>
      have p' : PostG g RV m H Q (atS W σ) (match room2 l k with | true => .ok (.tup (l ++ k)) S | false => .stuck 20) := p
      cases e : room2 l k with
      | false => rw [e] at p'; exact p'.elim
      | true =>
        rw [e] at p'
        refine op_catA pins s σ H _ _ _ _ Q I ra rb ⟨_, _, _, _, rfl, rfl, SqT.of hq, SqT.of hq2, room2_ok rl.length rk.length e, fun h => ?_, fun h h' => ?_, fun _ _ => PostG.tup p' rs (rl.app rk)⟩
        · subst h; cases rl
          exact p' m H _ Ex.rfl' rs (RV.tup hq2 rk)
        · subst h'; cases rk
          rw [List.append_nil] at p'
          exact p' m H _ Ex.rfl' rs (RV.tup hq rl)
    | _ => exact p.elim
  | @ref n q hq => cases rw_ with
    | @ref n2 q2 hq2 =>
      have p' : PostG g RV m H Q (atS W σ) (match S.get n, S.get n2 with | some (.lst xs), some (.lst ys) => (match room2 xs ys with | true => alloc (.lst (xs ++ ys)) S | false => .stuck 20) | _, _ => .stuck 21) := p
      split at p'
      · rename_i xs ys e1 e2
        cases e : room2 xs ys with
        | false => rw [e] at p'; exact p'.elim
        | true =>
          rw [e] at p'
          obtain ⟨q', xs', h1, _, h2, h3⟩ := rs.list e1 (RV.ref hq)
          cases h1
          obtain ⟨q2', ys', k1, _, k2, k3⟩ := rs.list e2 (RV.ref hq2)
          cases k1
          exact op_cat pins s σ H _ _ _ _ Q I ra rb ⟨_, _, _, _, rfl, rfl, h2, k2, room2_ok h3.length k3.length e, PostG.lst p' rs (h3.app k3)⟩
      · exact p'.elim
    | _ => exact p.elim
  | _ => exact p.elim
end
end G
set_option Elab.async false
set_option linter.all false
set_option maxRecDepth 100000
namespace G
open PySem PySem.Spec L2
open PyProof.Rows hiding St
section
variable {X : Cx} {g : Gx} {o : Orc} {W : WX} {pins : List (Addr × PySem.Obj)} {s : Shared} {σ : St} {ρ : G.Env} {m : Mp} {H : Hp} {S : Store}
/-! ### more operators -/
theorem rep_len {α : Type} (xs : List α) : ∀ n, (rep xs n).length = xs.length * n
  | 0 => rfl
  | n + 1 => by rw [rep, List.length_append, rep_len xs n, Nat.mul_succ, Nat.add_comm]
theorem RVs.rep {vs : List Val} {ys : List V} (r : RVs m H vs ys) : ∀ n, RVs m H (G.rep vs n) (List.replicate n ys).flatten
  | 0 => .nil
  | n + 1 => by rw [G.rep, List.replicate_succ, List.flatten_cons]; exact r.app (RVs.rep r n)
theorem o_mul : OpS X g o W oMul (binaryOp .Mult) := by
  intro pins s σ H m S v w x y a b Q I rv rw_ ra rb rs p
  cases rw_ with
  | int j =>
    cases rv with
    | int i =>
      have p' : PostG g RV m H Q (atS W σ) (match Nat.blt (i.natAbs.log2 + j.natAbs.log2) 1000000 with | true => .ok (.int (i * j)) S | false => .stuck 23) := p
      cases e : Nat.blt (i.natAbs.log2 + j.natAbs.log2) 1000000 with
      | false => rw [e] at p'; exact p'.elim
      | true =>
        rw [e] at p'
        exact op_mulW pins s σ H _ _ _ _ Q I ra rb ⟨i, j, rfl, rfl, by show _ < _; simpa [Nat.blt_eq] using e, p' m H _ Ex.rfl' rs (RV.int _)⟩
    | @tup q xs vs hq r =>
      cases j with
      | negSucc j => exact p.elim
      | ofNat j =>
        have p' : PostG g RV m H Q (atS W σ) (match Nat.ble 2 j && (Nat.ble j 1000 && (Nat.ble vs.length 1000 && nonE vs)) with | true => .ok (.tup (rep vs j)) S | false => .stuck 23) := p
        cases e : (Nat.ble 2 j && (Nat.ble j 1000 && (Nat.ble vs.length 1000 && nonE vs))) with
        | false => rw [e] at p'; exact p'.elim
        | true =>
          rw [e] at p'
          obtain ⟨e1, e2⟩ := Bool.and_eq_true_iff.mp e
          obtain ⟨e2, e3⟩ := Bool.and_eq_true_iff.mp e2
          obtain ⟨e3, e4⟩ := Bool.and_eq_true_iff.mp e3
          have h1 := Nat.le_of_ble_eq_true e1
          have h2 := Nat.le_of_ble_eq_true e2
          have h3 := Nat.le_of_ble_eq_true e3
          refine op_repT pins s σ H _ _ _ _ Q I ra rb ⟨_, _, _, rfl, rfl, SqT.of hq, ?_, ?_, ?_, by rw [← r.length]; exact h3, ?_⟩
          · rintro rfl; cases r; cases e4
          · show (2 : Int) ≤ (j : Int); omega
          · show (j : Int) ≤ 1000; omega
          · exact PostG.tup p' rs (r.rep j)
    | @ref n q hq =>
      cases j with
      | negSucc j => exact p.elim
      | ofNat j =>
        have p' : PostG g RV m H Q (atS W σ) (match S.get n with | some (.lst xs) => (match Nat.ble (xs.length * j) maxLen && Nat.ble j maxLen with | true => alloc (.lst (rep xs j)) S | false => .stuck 23) | _ => .stuck 23) := p
        split at p'
        · rename_i xs e1
          cases e : (Nat.ble (xs.length * j) maxLen && Nat.ble j maxLen) with
          | false => rw [e] at p'; exact p'.elim
          | true =>
            rw [e] at p'
            obtain ⟨e2, e3⟩ := Bool.and_eq_true_iff.mp e
            have h2 := Nat.le_of_ble_eq_true e2
            have h3 := Nat.le_of_ble_eq_true e3
            obtain ⟨q', ys, h4, _, h5, h6⟩ := rs.list e1 (RV.ref hq)
            cases h4
            refine op_rep pins s σ H _ _ _ _ Q I ra rb ⟨_, _, _, rfl, rfl, h5, ?_, ?_, ?_, PostG.lst p' rs (h6.rep j)⟩
            · show -(2 ^ 63) ≤ (j : Int); omega
            · show (j : Int) < 2 ^ 63
              have : maxLen = 16777216 := rfl
              omega
            · show ys.length * j ≤ sizeLine
              rw [← h6.length, ← maxLen_eq]; exact h2
        · exact p'.elim
    | _ => exact p.elim
  | _ => cases rv <;> exact p.elim
theorem anyEq_dat {x : Val} : ∀ (vs : List Val), dOk S 60 x = true → vs.all (dOk S 60) = true → anyEq (eqF S 60) x vs = some ((vs.map (dat S 60)).any fun z => PyData.eqv z (dat S 60 x))
  | [], _, _ => rfl
  | v :: vs, hx, h => by
    obtain ⟨h1, h2⟩ := Bool.and_eq_true_iff.mp h
    rw [anyEq, eqF_dat 60 v x h1 hx]
    show (match some (PyData.eqv (dat S 60 v) (dat S 60 x)) with | some true => some true | some false => anyEq (eqF S 60) x vs | .none => .none) = some (PyData.eqv (dat S 60 v) (dat S 60 x) || _)
    cases PyData.eqv (dat S 60 v) (dat S 60 x) with
    | true => rfl
    | false => exact anyEq_dat vs hx h2
theorem dpAll (rs : RS g m S H) {K : PySem.W.Frag} : ∀ {vs : List Val} {xs : List V}, RVs m H vs xs → vs.all (dOk S 60) = true → DpAll K H xs (vs.map (dat S 60))
  | _, _, .nil, _ => .nil
  | _, _, .cons r t, h => let ⟨h1, h2⟩ := Bool.and_eq_true_iff.mp h; .cons (dat_ok rs 60 _ _ h1 r) (dpAll rs t h2)
theorem shAll (rs : RS g m S H) : ∀ {vs : List Val} {xs : List V}, RVs m H vs xs → PyData.canLayAll0 (vs.map (dat S 60)) = true ∧ PyData.depthAll (vs.map (dat S 60)) ≤ 60
  | _, _, .nil => ⟨rfl, Nat.zero_le _⟩
  | _, _, .cons r t => let ⟨h1, h2⟩ := shAll rs t; ⟨Bool.and_eq_true_iff.mpr ⟨dat_lay rs 60 _ _ r, h1⟩, Nat.max_le.mpr ⟨dat_depth S 60 _, h2⟩⟩
theorem shList (rs : RS g m S H) {vs : List Val} {xs : List V} (r : RVs m H vs xs) : SeqAt.shaped (.list (vs.map (dat S 60))) = true ∧ SeqAt.shaped (.tuple (vs.map (dat S 60))) = true := by
  obtain ⟨h1, h2⟩ := shAll rs r
  have h3 : PyData.depthAll (vs.map (dat S 60)) + 1 ≤ 64 := by omega
  exact ⟨Bool.and_eq_true_iff.mpr ⟨h1, decide_eq_true h3⟩, Bool.and_eq_true_iff.mpr ⟨h1, decide_eq_true h3⟩⟩
theorem in_gen (hu : X.A.units + 65 < cLine) (hK : g.K = X.K) {v w : Val} {x y : V} {a b : Value} {r : Bool} (neg : Bool) (I : Inv X pins σ H s) (rv : RV m H v x) (rw_ : RV m H w y) (ra : RelV x a) (rb : RelV y b) (rs : RS g m S H) (h : inV S v w = some r) {Q : VK} (q : Q (.bl (if neg then !r else r)) H) :
    wpAny (model X.prog X.w) X.A (compareOp (if neg then .NotIn else .In) a b) (EP X pins σ Q) X.xe s := by
  rw [inV_eq] at h
  have seq : ∀ (vs : List Val) (ys : List V), RVs m H vs ys → (dOk S 60 v && vs.all (dOk S 60)) = true → r = ((vs.map (dat S 60)).any fun z => PyData.eqv z (dat S 60 v)) → (Dp X.K H y (.list (vs.map (dat S 60))) ∨ Dp X.K H y (.tuple (vs.map (dat S 60)))) → wpAny (model X.prog X.w) X.A (compareOp (if neg then .NotIn else .In) a b) (EP X pins σ Q) X.xe s := by
    intro vs ys rr e hr hd
    obtain ⟨e1, e2⟩ := Bool.and_eq_true_iff.mp e
    obtain ⟨as, r1⟩ := Dp.reads I _ x a (dat_ok rs 60 v x e1 rv) ra
    have sd := dat_shaped rs (k := 60) (by decide) rv
    obtain ⟨s1, s2⟩ := shList rs rr
    subst hr
    rcases hd with hd | hd
    · obtain ⟨bs, r2⟩ := Dp.reads I _ y b hd rb
      cases neg with
      | true => exact SeqAt.notIn_list_reads r2 r1 (SeqAt.canLay_of_shaped s1) (SeqAt.canLay_of_shaped sd) (room_in_shaped sd hu) ⟨.bl _, H, I, rfl, q⟩
      | false => exact SeqAt.in_list_reads r2 r1 (SeqAt.canLay_of_shaped s1) (SeqAt.canLay_of_shaped sd) (room_in_shaped sd hu) ⟨.bl _, H, I, rfl, q⟩
    · obtain ⟨bs, r2⟩ := Dp.reads I _ y b hd rb
      cases neg with
      | true => exact SeqAt.notIn_tuple_reads r2 r1 (SeqAt.canLay_of_shaped s2) (SeqAt.canLay_of_shaped sd) (room_in_shaped sd hu) ⟨.bl _, H, I, rfl, q⟩
      | false => exact SeqAt.in_tuple_reads r2 r1 (SeqAt.canLay_of_shaped s2) (SeqAt.canLay_of_shaped sd) (room_in_shaped sd hu) ⟨.bl _, H, I, rfl, q⟩
  cases rw_ with
  | @tup q ys vs hq rr =>
    have h' : (match dOk S 60 v && vs.all (dOk S 60) with | true => anyEq (eqF S 60) v vs | false => .none) = some r := h
    cases e : (dOk S 60 v && vs.all (dOk S 60)) with
    | false => rw [e] at h'; cases h'
    | true =>
      rw [e] at h'
      obtain ⟨e1, e2⟩ := Bool.and_eq_true_iff.mp e
      have h3 : anyEq (eqF S 60) v vs = some r := h'
      rw [anyEq_dat vs e1 e2] at h3
      exact seq vs ys rr e (Option.some.inj h3).symm (.inr (.tup (SqT.of hq) (dpAll rs rr e2)))
  | @str l hl =>
    cases rv with
    | @str k hk =>
      cases k with
      | nil => cases h
      | cons c k =>
        cases k with
        | cons _ _ => cases h
        | nil =>
          have h' : some (l.any (Nat.beq c)) = some r := h
          have hr : r = decide (c ∈ (⟨l.toArray⟩ : Str).cps.toList) := by
            rw [← Option.some.inj h']
            rw [Bool.eq_iff_iff]
            simp only [decide_eq_true_eq, List.any_eq_true]
            constructor
            · rintro ⟨d, h1, h2⟩; rw [Nat.eq_of_beq_eq_true h2]; simpa using h1
            · intro h1; exact ⟨c, by simpa using h1, Nat.beq_refl c⟩
          subst hr
          cases neg with
          | true => exact op_notIn_sign pins s σ H _ _ _ _ Q I ra rb ⟨c, _, rfl, rfl, q⟩
          | false => exact op_in_sign pins s σ H _ _ _ _ Q I ra rb ⟨c, _, rfl, rfl, q⟩
    | _ => cases h
  | @ref n q hq =>
    have h' : (match isList (S.get n) with | some vs => (match dOk S 60 v && vs.all (dOk S 60) with | true => anyEq (eqF S 60) v vs | false => .none) | .none => .none) = some r := h
    cases e0 : isList (S.get n) with
    | none => rw [e0] at h'; cases h'
    | some vs =>
      rw [e0] at h'
      have h2 : (match dOk S 60 v && vs.all (dOk S 60) with | true => anyEq (eqF S 60) v vs | false => .none) = some r := h'
      cases e : (dOk S 60 v && vs.all (dOk S 60)) with
      | false => rw [e] at h2; cases h2
      | true =>
        rw [e] at h2
        obtain ⟨e1, e2⟩ := Bool.and_eq_true_iff.mp e
        have h3 : anyEq (eqF S 60) v vs = some r := h2
        rw [anyEq_dat vs e1 e2] at h3
        obtain ⟨q', ys, k1, _, k2, k3⟩ := rs.list (isList_of e0) (RV.ref hq)
        cases k1
        exact seq vs ys k3 e (Option.some.inj h3).symm (.inl (.lst (SqL.of k2) (dpAll rs k3 e2)))
  | _ => cases h
theorem o_in (hu : X.A.units + 65 < cLine) (hK : g.K = X.K) : OpS X g o W oIn (compareOp .In) := by
  intro pins s σ H m S v w x y a b Q I rv rw_ ra rb rs p
  obtain ⟨c, h, q⟩ := ofB_ok rs p
  exact in_gen hu hK false I rv rw_ ra rb rs h q
theorem o_notin (hu : X.A.units + 65 < cLine) (hK : g.K = X.K) : OpS X g o W oNotIn (compareOp .NotIn) := by
  intro pins s σ H m S v w x y a b Q I rv rw_ ra rb rs p
  unfold oNotIn at p
  cases h : inV S v w with
  | none => rw [h] at p; exact p.elim
  | some c =>
    rw [h] at p
    exact in_gen hu hK true I rv rw_ ra rb rs h (p m H _ Ex.rfl' rs (RV.bool _))
theorem isV_ok {v w : Val} {x y : V} {c : Bool} (rv : RV m H v x) (rw_ : RV m H w y) (h : isV v w = some c) : (y = .non ∧ c = decide (x = .non)) ∨ ∃ a b, x = .bl a ∧ y = .bl b ∧ c = decide (a = b) := by
  cases rw_ with
  | none =>
    refine .inl ⟨rfl, ?_⟩
    have h' : some (isNo v) = some c := h
    rw [← Option.some.inj h']
    cases rv <;> first | rfl | (symm; apply decide_eq_false; intro z; cases z)
  | bool b =>
    cases rv with
    | bool a =>
      have h' : some (boolEq a b) = some c := h
      exact .inr ⟨a, b, rfl, rfl, by rw [← Option.some.inj h', boolEq_eq]; cases a <;> cases b <;> rfl⟩
    | _ => cases h
  | _ => cases h
theorem o_is : OpS X g o W oIs (compareOp .Is) := by
  intro pins s σ H m S v w x y a b Q I rv rw_ ra rb rs p
  obtain ⟨c, h, q⟩ := ofB_ok rs p
  rcases isV_ok rv rw_ h with ⟨h1, h2⟩ | ⟨a', b', h1, h2, h3⟩
  · exact op_isN pins s σ H _ _ _ _ Q I ra rb ⟨h1, by rw [← h2]; exact q⟩
  · exact op_isBl pins s σ H _ _ _ _ Q I ra rb ⟨a', b', h1, h2, by rw [← h3]; exact q⟩
theorem o_isnot : OpS X g o W oIsNot (compareOp .IsNot) := by
  intro pins s σ H m S v w x y a b Q I rv rw_ ra rb rs p
  unfold oIsNot at p
  cases h : isV v w with
  | none => rw [h] at p; exact p.elim
  | some c =>
    rw [h] at p
    have q := p m H _ Ex.rfl' rs (RV.bool _)
    rcases isV_ok rv rw_ h with ⟨h1, h2⟩ | ⟨a', b', h1, h2, h3⟩
    · exact op_notN pins s σ H _ _ _ _ Q I ra rb ⟨h1, by rw [← h2]; exact q⟩
    · exact op_notBl pins s σ H _ _ _ _ Q I ra rb ⟨a', b', h1, h2, by rw [← h3]; exact q⟩
theorem strLt_eq : ∀ a b : List Nat, strLt a b = decide (a < b)
  | [], [] => by simp [strLt]
  | [], _ :: _ => by simp [strLt]
  | _ :: _, [] => by simp [strLt]
  | a :: r, b :: s => by
    rw [strLt, Bool.eq_iff_iff, decide_eq_true_eq, List.cons_lt_cons_iff]
    cases e : Nat.beq a b with
    | true =>
      have := Nat.eq_of_beq_eq_true e
      subst this
      show strLt r s = true ↔ _
      rw [strLt_eq r s, decide_eq_true_eq]
      exact ⟨fun h => .inr ⟨rfl, h⟩, fun h => h.elim (fun h => absurd h (Nat.lt_irrefl _)) (·.2)⟩
    | false =>
      have ne : a ≠ b := fun h => by rw [h, Nat.beq_refl] at e; cases e
      show Nat.blt a b = true ↔ _
      rw [Nat.blt_eq]
      exact ⟨.inl, fun h => h.elim id fun h => absurd h.1 ne⟩
theorem o_lt : OpS X g o W oLt (compareOp .Lt) := by
  intro pins s σ H m S v w x y a b Q I rv rw_ ra rb rs p
  cases rv with
  | int i => cases rw_ with
    | int j => exact op_lt pins s σ H _ _ _ _ Q I ra rb ⟨i, j, rfl, rfl, by show Q (.bl (decide (i < j))) H; rw [← intLt_eq]; exact p m H _ Ex.rfl' rs (RV.bool _)⟩
    | _ => exact p.elim
  | @str l hl => cases rw_ with
    | @str k hk => exact op_lt_str pins s σ H _ _ _ _ Q I ra rb ⟨_, _, rfl, rfl, by show Q (.bl (decide (l < k))) H; rw [← strLt_eq]; exact p m H _ Ex.rfl' rs (RV.bool _)⟩
    | _ => exact p.elim
  | _ => exact p.elim
theorem m_neg {e : PySem.Expr} {ce : G.E} {pos : Pos} (he : PE X e (tM g o W ce)) : PE X (.UnaryOp .USub e pos) (tM g o W (eNeg ce)) :=
  PE.imp (pe_un un_neg he) fun σ H Q ⟨m, ρ, S, re, rs, pp⟩ => ⟨m, ρ, S, re, rs, PostG.mono (PostG.bind pp) fun x H1 ⟨m1, v, S1, e1, rs1, rv, p1⟩ => by
    cases rv with
    | int i => exact ⟨i, rfl, p1 m1 H1 _ Ex.rfl' rs1 (RV.int _)⟩
    | _ => exact p1.elim⟩
/-! ### subscripts -/
theorem getI_atI {α : Type} (xs : List α) (i : Int) : getI xs i = atI xs i := by
  unfold getI atI
  have h : ixOf xs.length i = ixN xs.length i := by
    unfold ixOf ixN
    cases i with
    | ofNat k =>
      rw [if_pos (by show (0 : Int) ≤ (k : Int); omega)]
      by_cases h : k < xs.length
      · rw [if_pos (by show (k : Int) < _; omega)]
        have : Nat.blt k xs.length = true := by simpa [Nat.blt_eq] using h
        simp only [this]; rfl
      · rw [if_neg (by show ¬ (k : Int) < _; omega)]
        have : Nat.blt k xs.length = false := Bool.eq_false_iff.mpr (by simpa [Nat.blt_eq] using h)
        simp only [this]
    | negSucc k =>
      rw [if_neg (by omega)]
      by_cases h : k < xs.length
      · rw [if_pos (by omega)]
        have : Nat.blt k xs.length = true := by simpa [Nat.blt_eq] using h
        simp only [this]
        congr 1; omega
      · rw [if_neg (by omega)]
        have : Nat.blt k xs.length = false := Bool.eq_false_iff.mpr (by simpa [Nat.blt_eq] using h)
        simp only [this]
  rw [h]
  cases ixN xs.length i <;> rfl
theorem atI_len {α β : Type} {xs : List α} {ys : List β} (h : xs.length = ys.length) (i : Int) {j : Nat} : ixN xs.length i = some j ↔ ixN ys.length i = some j := by rw [h]
theorem RVs.atI {vs : List Val} {xs : List V} (r : RVs m H vs xs) {i : Int} {v : Val} (h : L2.atI vs i = some v) : ∃ x, L2.atI xs i = some x ∧ RV m H v x := by
  unfold L2.atI at h ⊢
  rw [r.length] at h
  cases e : ixN xs.length i with
  | none => rw [e] at h; cases h
  | some j =>
    rw [e] at h
    exact r.get h
theorem ix_ok {v w : Val} {x y : V} {Q : VK} {E : XK} (rv : RV m H v x) (rw_ : RV m H w y) (rs : RS g m S H) (p : PostG g RV m H Q E (oIx o v w S)) (K : PySem.W.Frag) : L2.rIx K x y H Q := by
  cases rw_ with
  | int i =>
    cases rv with
    | @tup q ys vs hq r =>
      have p' : PostG g RV m H Q E (ofOpt (getI vs i) S 50) := p
      rw [getI_atI] at p'
      cases e : L2.atI vs i with
      | none => rw [e] at p'; exact p'.elim
      | some u =>
        rw [e] at p'
        obtain ⟨y, h1, h2⟩ := r.atI e
        exact .inr (.inl ⟨q, ys, i, y, rfl, rfl, SqT.of hq, h1, p' m H _ Ex.rfl' rs h2⟩)
    | @str l hl =>
      have p' : PostG g RV m H Q E (match getI l i with | some c => .ok (.str [c]) S | .none => .stuck 52) := p
      rw [getI_atI] at p'
      cases e : L2.atI l i with
      | none => rw [e] at p'; exact p'.elim
      | some c =>
        rw [e] at p'
        have hc : c ∈ l := by
          unfold L2.atI at e
          cases z : ixN l.length i with
          | none => rw [z] at e; cases e
          | some j => rw [z] at e; exact List.mem_of_getElem? e
        exact .inr (.inr ⟨_, i, c, rfl, rfl, by simpa [Str.length] using hl.1, by simpa using e, p' m H _ Ex.rfl' rs (RV.str (hl.one hc))⟩)
    | @ref n q hq =>
      have p' : PostG g RV m H Q E (match isList (S.get n) with | some vs => ofOpt (getI vs i) S 54 | .none => .stuck 57) := p
      cases e0 : isList (S.get n) with
      | none => rw [e0] at p'; exact p'.elim
      | some vs =>
        rw [e0] at p'
        have p2 : PostG g RV m H Q E (ofOpt (getI vs i) S 54) := p'
        rw [getI_atI] at p2
        obtain ⟨q', ys, k1, _, k2, k3⟩ := rs.list (isList_of e0) (RV.ref hq)
        cases k1
        cases e : L2.atI vs i with
        | none => rw [e] at p2; exact p2.elim
        | some u =>
          rw [e] at p2
          obtain ⟨y, h1, h2⟩ := k3.atI e
          exact .inl ⟨_, ys, i, y, rfl, rfl, SqL.of k2, h1, p2 m H _ Ex.rfl' rs h2⟩
    | _ => exact p.elim
  | _ => exact p.elim
theorem m_ix {a b : PySem.Expr} {ca cb : G.E} {pos : Pos} (ha : PE X a (tM g o W ca)) (hb : PE X b (tM g o W cb)) (hs : PlainIx b) : PE X (.Subscript a b pos) (tM g o W (eOp oIx ca cb)) :=
  ⟨fun pins s σ H Q I ⟨m, ρ, S, re, rs, p⟩ => Subscript_ (thnE ha I re rs p fun u s1 v S1 m1 H1 x I1 r1 rv1 rs1 re1 e1 p1 => thnE hb I1 re1 rs1 p1 fun u2 s2 w S2 m2 H2 y I2 r2 rv2 rs2 re2 e2 p2 =>
    ix_seq a b pins s2 σ H2 x y _ _ Q I2 r1 r2 (ix_ok (rv1.mono e2) rv2 rs2 p2 X.K) (hs _ _))⟩
end
end G
set_option Elab.async false
set_option linter.all false
set_option maxRecDepth 100000
namespace G
open PySem PySem.Spec L2
open PyProof.Rows hiding St
section
variable {X : Cx} {g : Gx} {o : Orc} {W : WX} {pins : List (Addr × PySem.Obj)} {s : Shared} {σ : St} {ρ : G.Env} {m : Mp} {H : Hp} {S : Store} {pos p apos : Pos} {e : PySem.Expr} {es : List PySem.Expr} {cs : G.EL} {ce : G.E} {x : Str}
/-! ### slices -/
theorem clip_sIx (n d : Nat) (i : Int) : clip n i = HT.sIx n d (some i) := by
  unfold clip HT.sIx
  cases i with
  | ofNat k =>
    show min k n = if (k : Int) < 0 then _ else min (k : Int).toNat n
    rw [if_neg (by omega)]; simp
  | negSucc k =>
    show n - (k + 1) = if Int.negSucc k < 0 then (Int.negSucc k + n).toNat else _
    rw [if_pos (by omega)]; omega
theorem bnd_sIx (n d : Nat) (i : Option Int) : bnd n d i = HT.sIx n d i := by
  cases i with
  | none => rfl
  | some i => exact clip_sIx n d i
theorem slc_cut {α : Type} (xs : List α) (lo hi : Option Int) : slc xs lo hi = (xs.drop (HT.sIx xs.length 0 lo)).take (HT.sIx xs.length xs.length hi - HT.sIx xs.length 0 lo) := by
  unfold slc
  rw [bnd_sIx, bnd_sIx, List.drop_take]
theorem RVs.cut {vs : List Val} {xs : List V} (r : RVs m H vs xs) (lo hi : Option Int) : RVs m H (slc vs lo hi) (cutV xs lo hi) := by
  rw [slc_cut, r.length]
  exact (r.drop _).take _
def tO (g : Gx) (o : Orc) (W : WX) (c : G.EO) : L2.TO := fun σ H Q => ∃ m ρ S, RE m H ρ σ ∧ RS g m S H ∧ PostG g REq m H Q (atS W σ) (c o ρ S)
theorem o_none : PO X .none (tO g o W eoNone) := ⟨fun pins s σ H Q I ⟨m, ρ, S, re, rs, p⟩ => po_none.run pins s σ H Q I (p m H _ Ex.rfl' rs rfl)⟩
theorem o_some (h : PE X e (tM g o W ce)) : PO X (some e) (tO g o W (eoSome ce)) := ⟨fun pins s σ H Q I ⟨m, ρ, S, re, rs, p⟩ =>
  (po_some h).run pins s σ H Q I ⟨m, ρ, S, re, rs, PostG.mono (PostG.bind p) fun x H1 ⟨m1, v, S1, e1, rs1, rv, p1⟩ => by
    cases rv with
    | int i => exact ⟨i, rfl, p1 m1 H1 _ Ex.rfl' rs1 rfl⟩
    | _ => exact p1.elim⟩⟩
theorem sOk.cut {l : List Nat} (h : sOk l) (lo hi : Option Int) : sOk (slc l lo hi) := by
  have sub : ∀ c ∈ slc l lo hi, c ∈ l := fun c hc => by
    unfold slc at hc
    exact List.mem_of_mem_take (List.mem_of_mem_drop hc)
  refine ⟨Nat.le_trans ?_ h.1, fun c hc => h.2 c (sub c hc)⟩
  unfold slc
  rw [List.length_drop, List.length_take]
  omega
theorem ints_cut (ns : List Int) (lo hi : Option Int) : cutV (ns.map V.int) lo hi = (slc ns lo hi).map V.int := by
  unfold cutV
  rw [slc_cut, List.length_map, List.map_take, List.map_drop]
theorem cut_ok (hK : g.K = X.K) {v : Val} {x : V} {lo hi : Option Int} {Q : VK} {E : XK} (rv : RV m H v x) (rs : RS g m S H) (p : PostG g RV m H Q E (cutOf v lo hi S)) : L2.rSlS x lo hi H Q ∨ rSlL X.K x lo hi H Q ∨ rSlA X.K x lo hi H Q := by
  cases rv with
  | @tup q xs vs hq r =>
    have p' : PostG g RV m H Q E (.ok (.tup (slc vs lo hi)) S) := p
    refine .inr (.inr ⟨q, xs, rfl, SqT.of hq, fun ⟨h1, h2⟩ => ?_, fun _ => PostG.tup p' rs (r.cut lo hi)⟩)
    have e : slc vs lo hi = vs := by
      rw [slc_cut, r.length, h1, h2]
      simp [← r.length]
    rw [e] at p'
    exact p' m H _ Ex.rfl' rs (RV.tup hq r)
  | @str l hl =>
    have p' : PostG g RV m H Q E (.ok (.str (slc l lo hi)) S) := p
    refine .inl ⟨_, rfl, by simpa [Str.length] using hl.1, ?_⟩
    have e : cutS ⟨l.toArray⟩ lo hi = ⟨(slc l lo hi).toArray⟩ := by
      unfold cutS
      rw [slc_cut]
      simp [Str.length]
    rw [e]
    exact p' m H _ Ex.rfl' rs (RV.str (hl.cut lo hi))
  | @ref n q hq =>
    have p' : PostG g RV m H Q E (match isList (S.get n) with | some vs => alloc (.lst (slc vs lo hi)) S | .none => .stuck 63) := p
    cases e0 : isList (S.get n) with
    | none => rw [e0] at p'; exact p'.elim
    | some vs =>
      rw [e0] at p'
      obtain ⟨q', ys, k1, _, k2, k3⟩ := rs.list (isList_of e0) (RV.ref hq)
      cases k1
      exact .inr (.inl ⟨_, ys, rfl, SqL.of k2, PostG.lst p' rs (k3.cut lo hi)⟩)
  | @scr ns q hq =>
    have p' : PostG g RV m H Q E (alloc (.lst ((slc ns lo hi).map .int)) S) := p
    have hsq : SqL X.K H q (ns.map V.int) := by rw [← hK, ← rs.K]; exact hq.sq
    refine .inr (.inl ⟨q, _, rfl, hsq, ?_⟩)
    rw [ints_cut]
    exact PostG.lst p' rs (RVs.ofInts _)
  | _ => exact p.elim
theorem m_sl {lo hi : Option PySem.Expr} {cl ch : G.EO} {p2 : Pos} (hK : g.K = X.K) (he : PE X e (tM g o W ce)) (hl : PO X lo (tO g o W cl)) (hh : PO X hi (tO g o W ch)) : PE X (.Subscript e (.Slice lo hi .none p2) pos) (tM g o W (eSl ce cl ch)) :=
  PE.imp (pe_slice (sl_str.or (sl_list.or sl_tupA)) he hl hh) fun σ H Q ⟨m, ρ, S, re, rs, pp⟩ => ⟨m, ρ, S, re, rs, PostG.mono (PostG.bind pp) fun x H1 ⟨m1, v, S1, e1, rs1, rv, p1⟩ =>
    ⟨m1, ρ, S1, re.mono e1, rs1, PostG.mono (PostG.bind p1) fun l H2 ⟨m2, l', S2, e2, rs2, rl, p2⟩ => ⟨m2, ρ, S2, re.mono (e1.trans e2), rs2, PostG.mono (PostG.bind p2) fun h H3 ⟨m3, h', S3, e3, rs3, rh, p3⟩ => by
      cases rl; cases rh
      exact cut_ok hK ((rv.mono e2).mono e3) rs3 p3⟩⟩⟩
theorem m_rev {k : Nat} {p1 p2 p3 : Pos} (he : PE X e (tM g o W ce)) : PE X (.Subscript e (.Slice .none .none (some (.UnaryOp .USub (.Constant (.int 1) k p1) p2)) p3) pos) (tM g o W (eRev ce)) :=
  PE.imp (pe_revL he) fun σ H Q ⟨m, ρ, S, re, rs, pp⟩ => ⟨m, ρ, S, re, rs, PostG.mono (PostG.bind pp) fun x H1 ⟨m1, v, S1, e1, rs1, rv, p1⟩ => by
    cases rv with
    | @ref n q hq =>
      have p' : PostG g RV m1 H1 Q (atS W σ) (match S1.get n with | some (.lst vs) => alloc (.lst vs.reverse) S1 | _ => .stuck 65) := p1
      split at p'
      · rename_i vs e0
        obtain ⟨q', ys, k1, _, k2, k3⟩ := rs1.list e0 (RV.ref hq)
        cases k1
        exact ⟨_, ys, rfl, SqL.of k2, PostG.lst p' rs1 k3.rev⟩
      · exact p'.elim
    | _ => exact p1.elim⟩
/-! ### a, b = x, y -/
theorem s_par {i j : Nat} {x y : Str} {a b : PySem.Expr} {px py pt : Pos} {kt k2 pt2} (hc : X.calm = true) (hN : X.N.Nodup) (hi : X.N[i]? = some x) (hj : X.N[j]? = some y) (hij : i ≠ j)
    (hx : X.env.scope.names.lookup x = some .local) (hy : X.env.scope.names.lookup y = some .local) (ha : PA X [a, b] (tL g o W cs))
    (hw : swappedStores [.Tuple [.Name x px, .Name y py] kt pt] (.Tuple [a, b] k2 pt2) X.env = pure (some [x, y])) (hs : swapsWithSole [.Tuple [.Name x px, .Name y py] kt pt] (.Tuple [a, b] k2 pt2) pos.line X.env = pure false) :
    PS X (.Assign [.Tuple [.Name x px, .Name y py] kt pt] (.Tuple [a, b] k2 pt2) pos) (tS g o W (sPar [i, j] cs)) :=
  PS.imp (ps_par hc hN hi hj hij hx hy ha hw hs) fun D σ H ⟨m, ρ, S, re, rs, pp⟩ => ⟨m, ρ, S, re, rs, PostG.mono (PostS.to re pp) fun xs H1 ⟨m1, vs, S1, e1, rs1, rv, p1⟩ => by
    cases rv with
    | nil => exact p1.elim
    | cons r rr =>
      cases rr with
      | nil => exact p1.elim
      | cons r2 rr =>
        cases rr with
        | cons _ _ => exact p1.elim
        | nil => exact ⟨_, _, rfl, p1 m1 H1 _ Ex.rfl' rs1 (((re.mono e1).set i r).set j r2)⟩⟩
theorem s_par3 {i j l : Nat} {x y z : Str} {a b c : PySem.Expr} {px py pz pt : Pos} {kt k2 pt2} (hc : X.calm = true) (hN : X.N.Nodup) (hi : X.N[i]? = some x) (hj : X.N[j]? = some y) (hl : X.N[l]? = some z) (hij : i ≠ j) (hil : i ≠ l) (hjl : j ≠ l)
    (hx : X.env.scope.names.lookup x = some .local) (hy : X.env.scope.names.lookup y = some .local) (hz : X.env.scope.names.lookup z = some .local) (ha : PA X [a, b, c] (tL g o W cs))
    (hw : swappedStores [.Tuple [.Name x px, .Name y py, .Name z pz] kt pt] (.Tuple [a, b, c] k2 pt2) X.env = pure (some [x, y, z])) (hs : swapsWithSole [.Tuple [.Name x px, .Name y py, .Name z pz] kt pt] (.Tuple [a, b, c] k2 pt2) pos.line X.env = pure false) :
    PS X (.Assign [.Tuple [.Name x px, .Name y py, .Name z pz] kt pt] (.Tuple [a, b, c] k2 pt2) pos) (tS g o W (sPar [i, j, l] cs)) :=
  PS.imp (ps_par3 hc hN hi hj hl hij hil hjl hx hy hz ha hw hs) fun D σ H ⟨m, ρ, S, re, rs, pp⟩ => ⟨m, ρ, S, re, rs, PostG.mono (PostS.to re pp) fun xs H1 ⟨m1, vs, S1, e1, rs1, rv, p1⟩ => by
    cases rv with
    | nil => exact p1.elim
    | cons r rr =>
      cases rr with
      | nil => exact p1.elim
      | cons r2 rr =>
        cases rr with
        | nil => exact p1.elim
        | cons r3 rr =>
          cases rr with
          | cons _ _ => exact p1.elim
          | nil => exact ⟨_, _, _, rfl, p1 m1 H1 _ Ex.rfl' rs1 ((((re.mono e1).set i r).set j r2).set l r3)⟩⟩
/-! ### built-ins -/
def BiR (g : Gx) (o : Orc) (f : Bi) : List V → Hp → VK → Prop := fun xs H Q => ∃ m vs S E, RVs m H vs xs ∧ RS g m S H ∧ PostG g RV m H Q E (f o vs S)
def BmR (g : Gx) (o : Orc) (f : Bm) : V → List V → Hp → VK → Prop := fun x xs H Q => ∃ m v vs S E, RV m H v x ∧ RVs m H vs xs ∧ RS g m S H ∧ PostG g RV m H Q E (f o v vs S)
theorem CallR.imp {f : Value} {r r' : List V → Hp → VK → Prop} (h : CallR X f r) (hi : ∀ xs H Q, r' xs H Q → r xs H Q) : CallR X f r' := fun pins s σ H xs us Q I rv q => h pins s σ H xs us Q I rv (hi xs H Q q)
theorem MtR.imp {f : String} {r r' : V → List V → Hp → VK → Prop} (h : MtR X f r) (hi : ∀ x xs H Q, r' x xs H Q → r x xs H Q) : MtR X f r' := fun pins s σ H x xs v us Q I rv rvs q => h pins s σ H x xs v us Q I rv rvs (hi x xs H Q q)
theorem e_bi {f : Bi} {id : String} (hc : CallR X (.builtin id) (BiR g o f)) (hg : Gl X x) (hm : X.mg x = .none) (hv : bootBuiltins x = some (.builtin id)) (ha : PA X (e :: es) (tL g o W cs)) (hn : x ≠ "__name__") (hdb : (x == ("__debug__" : Str)) = false)
    (he : starEach (e :: es) X.env = (false, eval e X.env) :: starEach es X.env) (hpl : (backTo pos (starEach es X.env)).any (·.1) = false) : PE X (.Call (.Name x p) (e :: es) [] pos) (tM g o W (eB f cs)) :=
  PE.imp (pe_callB hc hg hm hv ha hn hdb he hpl) fun σ H Q ⟨m, ρ, S, re, rs, pp⟩ => ⟨m, ρ, S, re, rs, PostG.mono (PostG.bind pp) fun xs H1 ⟨m1, vs, S1, e1, rs1, rv, p1⟩ => ⟨m1, vs, S1, _, rv, rs1, p1⟩⟩
theorem e_ty {f : Bi} {T : String} (hc : CallR X (.type T) (BiR g o f)) (hg : Gl X x) (hm : X.mg x = .none) (hv : bootBuiltins x = some (.type T)) (ha : PA X (e :: es) (tL g o W cs)) (hn : x ≠ "__name__") (hdb : (x == ("__debug__" : Str)) = false)
    (he : starEach (e :: es) X.env = (false, eval e X.env) :: starEach es X.env) (hpl : (backTo pos (starEach es X.env)).any (·.1) = false) : PE X (.Call (.Name x p) (e :: es) [] pos) (tM g o W (eB f cs)) :=
  PE.imp (pe_callTy hc hg hm hv ha hn hdb he hpl) fun σ H Q ⟨m, ρ, S, re, rs, pp⟩ => ⟨m, ρ, S, re, rs, PostG.mono (PostG.bind pp) fun xs H1 ⟨m1, vs, S1, e1, rs1, rv, p1⟩ => ⟨m1, vs, S1, _, rv, rs1, p1⟩⟩
theorem b_len (hK : g.K = X.K) : CallR X (.builtin "len") (BiR g o bLen) := CallR.imp call_len fun xs H Q ⟨m, vs, S, E, rv, rs, pp⟩ => by
  cases rv with
  | nil => exact pp.elim
  | @cons v x vs xs r rr =>
    cases rr with
    | cons _ _ => cases r <;> exact pp.elim
    | nil =>
      cases r with
      | @tup q ys vs hq rt => exact ⟨_, vs.length, rfl, .inr ⟨ys, SqT.of hq, rt.length⟩, pp m H _ Ex.rfl' rs (RV.int _)⟩
      | @str l hl => exact ⟨_, l.length, rfl, ⟨by simpa [Str.length] using hl.1, by simp [Str.length]⟩, pp m H _ Ex.rfl' rs (RV.int _)⟩
      | @scr ns q hq => exact ⟨_, ns.length, rfl, .inl ⟨ns.map V.int, by rw [← hK, ← rs.K]; exact hq.sq, by simp⟩, pp m H _ Ex.rfl' rs (RV.int _)⟩
      | @ref n q hq =>
        have p' : PostG g RV m H Q E (match S.get n with | some (.lst vs) => .ok (.int vs.length) S | _ => .stuck 112) := pp
        cases e0 : S.get n with
        | none => rw [e0] at p'; exact p'.elim
        | some ob =>
          cases ob with
          | lst vs =>
            rw [e0] at p'
            obtain ⟨q', ys, k1, _, k2, k3⟩ := rs.list e0 (RV.ref hq)
            cases k1
            exact ⟨_, vs.length, rfl, .inl ⟨ys, SqL.of k2, k3.length⟩, p' m H _ Ex.rfl' rs (RV.int _)⟩
          | _ => rw [e0] at p'; exact p'.elim
      | _ => exact pp.elim
end
end G
set_option Elab.async false
set_option linter.all false
set_option maxRecDepth 100000
namespace G
open PySem PySem.Spec L2
open PyProof.Rows hiding St
section
variable {X : Cx} {g : Gx} {o : Orc} {W : WX} {pins : List (Addr × PySem.Obj)} {s : Shared} {σ : St} {ρ : G.Env} {m : Mp} {H : Hp} {S : Store} {pos p apos : Pos} {e : PySem.Expr} {es : List PySem.Expr} {cs : G.EL} {ce : G.E} {x : Str}
/-- items at once -/
theorem items_ok (hK : g.K = X.K) {v : Val} {x : V} {vs : List Val} (rv : RV m H v x) (rs : RS g m S H) (h : itemsOf S v = some vs) : ∃ q ys, x = .ref q ∧ RVs m H vs ys ∧ (SqL X.K H q ys ∨ (SqT X.K H q ys ∧ v = .tup vs)) := by
  cases rv with
  | @tup q ys ws hq r => cases h; exact ⟨q, ys, rfl, r, .inr ⟨SqT.of hq, rfl⟩⟩
  | @ref n q hq =>
    obtain ⟨q', ys, k1, _, k2, k3⟩ := rs.list (isList_of h) (RV.ref hq)
    cases k1
    exact ⟨_, ys, rfl, k3, .inl (SqL.of k2)⟩
  | @scr ns q hq => cases h; exact ⟨q, _, rfl, RVs.ofInts ns, .inl (by rw [← hK, ← rs.K]; exact hq.sq)⟩
  | _ => cases h
theorem one_ok {f : Bi} {xs : List V} {H : Hp} {Q : VK} {r : List V → Hp → VK → Prop} (h : BiR g o f xs H Q) (h0 : ∀ S E, ¬ PostG g RV m H Q E (f o [] S)) : True := trivial
theorem b_list (hK : g.K = X.K) : CallR X (.type "list") (BiR g o bList) := CallR.imp call_list_of fun xs H Q ⟨m, vs, S, E, rv, rs, pp⟩ => by
  cases rv with
  | nil => exact pp.elim
  | @cons v x vs xs r rr =>
    cases rr with
    | cons _ _ => exact pp.elim
    | nil =>
      have p' : PostG g RV m H Q E (match itemsOf S v with | some vs => alloc (.lst vs) S | .none => .stuck 100) := pp
      cases e : itemsOf S v with
      | none => rw [e] at p'; exact p'.elim
      | some ws =>
        rw [e] at p'
        obtain ⟨q, ys, rfl, r2, h⟩ := items_ok hK r rs e
        exact ⟨q, ys, rfl, h.imp id (·.1), PostG.lst p' rs r2⟩
theorem b_tuple (hK : g.K = X.K) : CallR X (.type "tuple") (BiR g o bTuple) := CallR.imp call_tuple_of fun xs H Q ⟨m, vs, S, E, rv, rs, pp⟩ => by
  cases rv with
  | nil => exact pp.elim
  | @cons v x vs xs r rr =>
    cases rr with
    | cons _ _ => exact pp.elim
    | nil =>
      have p' : PostG g RV m H Q E (match itemsOf S v with | some vs => .ok (.tup vs) S | .none => .stuck 101) := pp
      cases e : itemsOf S v with
      | none => rw [e] at p'; exact p'.elim
      | some ws =>
        rw [e] at p'
        obtain ⟨q, ys, rfl, r2, h⟩ := items_ok hK r rs e
        refine ⟨q, ys, rfl, h.imp (fun h => ⟨h, PostG.tup p' rs r2⟩) fun ⟨h, e2⟩ => ⟨h, ?_⟩⟩
        subst e2
        exact p' m H _ Ex.rfl' rs r
theorem b_abs : CallR X (.builtin "abs") (BiR g o bAbs) := CallR.imp call_abs fun xs H Q ⟨m, vs, S, E, rv, rs, pp⟩ => by
  cases rv with
  | nil => exact pp.elim
  | @cons v x vs xs r rr =>
    cases rr with
    | cons _ _ => cases r <;> exact pp.elim
    | nil =>
      cases r with
      | int i =>
        refine ⟨i, rfl, ?_⟩
        have e : (if i < 0 then -i else i) = ((i.natAbs : Nat) : Int) := by split <;> omega
        rw [e]
        exact pp m H _ Ex.rfl' rs (RV.int _)
      | _ => exact pp.elim
theorem b_int : CallR X (.type "int") (BiR g o bInt) := CallR.imp call_int1 fun xs H Q ⟨m, vs, S, E, rv, rs, pp⟩ => by
  cases rv with
  | nil => exact pp.elim
  | @cons v x vs xs r rr =>
    cases rr with
    | cons _ _ => cases r <;> exact pp.elim
    | nil =>
      cases r with
      | int i => exact .inl ⟨i, rfl, pp m H _ Ex.rfl' rs (RV.int _)⟩
      | bool b =>
        refine .inr ⟨b, rfl, ?_⟩
        have p' : PostG g RV m H Q E (.ok (.int (G.b2i b)) S) := pp
        rw [b2i_eq] at p'
        exact p' m H _ Ex.rfl' rs (RV.int _)
      | _ => exact pp.elim
theorem b_max2 (hc : X.calm = true) : CallR X (.builtin "max") (BiR g o bMax2) := CallR.imp (call_max2 hc) fun xs H Q ⟨m, vs, S, E, rv, rs, pp⟩ => by
  cases rv with
  | nil => exact pp.elim
  | cons r rr =>
    cases rr with
    | nil => cases r <;> exact pp.elim
    | cons r2 rr =>
      cases rr with
      | cons _ _ => cases r <;> first | exact pp.elim | (cases r2 <;> exact pp.elim)
      | nil =>
        cases r with
        | int i => cases r2 with
          | int j =>
            refine ⟨i, j, rfl, ?_⟩
            have p' : PostG g RV m H Q E (.ok (.int (match intLt i j with | true => j | false => i)) S) := pp
            have e : (match intLt i j with | true => j | false => i) = if j > i then j else i := by
              rw [intLt_eq]
              by_cases h : i < j
              · rw [if_pos h, decide_eq_true h]
              · rw [if_neg h, decide_eq_false h]
            rw [e] at p'
            exact p' m H _ Ex.rfl' rs (RV.int _)
          | _ => exact pp.elim
        | _ => exact pp.elim
theorem b_min2 (hc : X.calm = true) : CallR X (.builtin "min") (BiR g o bMin2) := CallR.imp (call_min2 hc) fun xs H Q ⟨m, vs, S, E, rv, rs, pp⟩ => by
  cases rv with
  | nil => exact pp.elim
  | cons r rr =>
    cases rr with
    | nil => cases r <;> exact pp.elim
    | cons r2 rr =>
      cases rr with
      | cons _ _ => cases r <;> first | exact pp.elim | (cases r2 <;> exact pp.elim)
      | nil =>
        cases r with
        | int i => cases r2 with
          | int j =>
            refine ⟨i, j, rfl, ?_⟩
            have p' : PostG g RV m H Q E (.ok (.int (match intLt j i with | true => j | false => i)) S) := pp
            have e : (match intLt j i with | true => j | false => i) = if j < i then j else i := by
              rw [intLt_eq]
              by_cases h : j < i
              · rw [if_pos h, decide_eq_true h]
              · rw [if_neg h, decide_eq_false h]
            rw [e] at p'
            exact p' m H _ Ex.rfl' rs (RV.int _)
          | _ => exact pp.elim
        | _ => exact pp.elim
theorem bools_ok : ∀ {vs : List Val} {ys : List V} {bs : List Bool}, RVs m H vs ys → boolsOf vs = some bs → ys = bs.map V.bl
  | _, _, bs, .nil, h => by cases h; rfl
  | _, _, bs, .cons r t, h => by
    cases r with
    | bool b =>
      rw [boolsOf] at h
      cases e : boolsOf _ with
      | none => rw [e] at h; cases h
      | some cs => rw [e] at h; cases h; rw [bools_ok t e]; rfl
    | _ => cases h
theorem ints_ok : ∀ {vs : List Val} {ys : List V} {bs : List Int}, RVs m H vs ys → intsOf vs = some bs → ys = bs.map V.int
  | _, _, bs, .nil, h => by cases h; rfl
  | _, _, bs, .cons r t, h => by
    cases r with
    | int b =>
      rw [intsOf] at h
      cases e : intsOf _ with
      | none => rw [e] at h; cases h
      | some cs => rw [e] at h; cases h; rw [ints_ok t e]; rfl
    | _ => cases h
theorem boolsAt_ok {v : Val} {x : V} {bs : List Bool} (r : RV m H v x) (rs : RS g m S H) (h : boolsAt S v = some bs) (K : PySem.W.Frag) : ∃ q, x = .ref q ∧ SqL K H q (bs.map V.bl) := by
  cases r with
  | @ref n q hq =>
    have h' : (match isList (S.get n) with | some vs => boolsOf vs | .none => .none) = some bs := h
    cases e : isList (S.get n) with
    | none => rw [e] at h'; cases h'
    | some vs =>
      rw [e] at h'
      obtain ⟨q', ys, k1, _, k2, k3⟩ := rs.list (isList_of e) (RV.ref hq)
      cases k1
      rw [bools_ok k3 h'] at k2
      exact ⟨_, rfl, SqL.of k2⟩
  | _ => cases h
theorem intsAt_ok {v : Val} {x : V} {bs : List Int} (r : RV m H v x) (rs : RS g m S H) (h : intsAt S v = some bs) (K : PySem.W.Frag) : ∃ q, x = .ref q ∧ SqL K H q (bs.map V.int) := by
  cases r with
  | @ref n q hq =>
    have h' : (match isList (S.get n) with | some vs => intsOf vs | .none => .none) = some bs := h
    cases e : isList (S.get n) with
    | none => rw [e] at h'; cases h'
    | some vs =>
      rw [e] at h'
      obtain ⟨q', ys, k1, _, k2, k3⟩ := rs.list (isList_of e) (RV.ref hq)
      cases k1
      rw [ints_ok k3 h'] at k2
      exact ⟨_, rfl, SqL.of k2⟩
  | _ => cases h
theorem b_all (hc : X.calm = true) : CallR X (.builtin "all") (BiR g o bAll) := CallR.imp (cr_all hc) fun xs H Q ⟨m, vs, S, E, rv, rs, pp⟩ => by
  cases rv with
  | nil => exact pp.elim
  | @cons v x vs xs r rr =>
    cases rr with
    | cons _ _ => exact pp.elim
    | nil =>
      have p' : PostG g RV m H Q E (match boolsAt S v with | some bs => .ok (.bool (bs.all id)) S | .none => .stuck 114) := pp
      cases e : boolsAt S v with
      | none => rw [e] at p'; exact p'.elim
      | some bs =>
        rw [e] at p'
        obtain ⟨q, rfl, h⟩ := boolsAt_ok r rs e X.K
        exact ⟨q, bs, rfl, h, p' m H _ Ex.rfl' rs (RV.bool _)⟩
theorem b_any (hc : X.calm = true) : CallR X (.builtin "any") (BiR g o bAny) := CallR.imp (cr_any hc) fun xs H Q ⟨m, vs, S, E, rv, rs, pp⟩ => by
  cases rv with
  | nil => exact pp.elim
  | @cons v x vs xs r rr =>
    cases rr with
    | cons _ _ => exact pp.elim
    | nil =>
      have p' : PostG g RV m H Q E (match boolsAt S v with | some bs => .ok (.bool (bs.any id)) S | .none => .stuck 114) := pp
      cases e : boolsAt S v with
      | none => rw [e] at p'; exact p'.elim
      | some bs =>
        rw [e] at p'
        obtain ⟨q, rfl, h⟩ := boolsAt_ok r rs e X.K
        exact ⟨q, bs, rfl, h, p' m H _ Ex.rfl' rs (RV.bool _)⟩
theorem sumI_eq : ∀ l : List Int, sumI l = l.sum
  | [] => rfl
  | a :: l => by rw [sumI, List.sum_cons, sumI_eq l]
theorem b_sum (hc : X.calm = true) : CallR X (.builtin "sum") (BiR g o bSum) := CallR.imp (cr_sum hc) fun xs H Q ⟨m, vs, S, E, rv, rs, pp⟩ => by
  cases rv with
  | nil => exact pp.elim
  | @cons v x vs xs r rr =>
    cases rr with
    | cons _ _ => exact pp.elim
    | nil =>
      have p' : PostG g RV m H Q E (match intsAt S v with | some ns => .ok (.int (sumI ns)) S | .none => .stuck 120) := pp
      cases e : intsAt S v with
      | none => rw [e] at p'; exact p'.elim
      | some bs =>
        rw [e] at p'
        obtain ⟨q, rfl, h⟩ := intsAt_ok r rs e X.K
        exact ⟨q, bs, rfl, h, by rw [← sumI_eq]; exact p' m H _ Ex.rfl' rs (RV.int _)⟩
theorem maxI_ok : ∀ (l : List Int) (a m : Int), (m = a ∨ m ∈ l) → a ≤ m → (∀ y ∈ l, y ≤ m) → maxI a l = m
  | [], a, m, h, _, _ => by rcases h with h | h; exact h.symm; cases h
  | b :: l, a, m, h, h1, h2 => by
    rw [maxI, intLt_eq]
    have hb := h2 b List.mem_cons_self
    by_cases c : a < b
    · rw [decide_eq_true c]
      refine maxI_ok l b m ?_ hb fun y hy => h2 y (List.mem_cons_of_mem _ hy)
      rcases h with h | h
      · omega
      · exact (List.mem_cons.mp h)
    · rw [decide_eq_false c]
      refine maxI_ok l a m ?_ h1 fun y hy => h2 y (List.mem_cons_of_mem _ hy)
      rcases h with h | h
      · exact .inl h
      · rcases List.mem_cons.mp h with h | h
        · left; omega
        · exact .inr h
theorem minI_ok : ∀ (l : List Int) (a m : Int), (m = a ∨ m ∈ l) → m ≤ a → (∀ y ∈ l, m ≤ y) → minI a l = m
  | [], a, m, h, _, _ => by rcases h with h | h; exact h.symm; cases h
  | b :: l, a, m, h, h1, h2 => by
    rw [minI, intLt_eq]
    have hb := h2 b List.mem_cons_self
    by_cases c : b < a
    · rw [decide_eq_true c]
      refine minI_ok l b m ?_ hb fun y hy => h2 y (List.mem_cons_of_mem _ hy)
      rcases h with h | h
      · omega
      · exact (List.mem_cons.mp h)
    · rw [decide_eq_false c]
      refine minI_ok l a m ?_ h1 fun y hy => h2 y (List.mem_cons_of_mem _ hy)
      rcases h with h | h
      · exact .inl h
      · rcases List.mem_cons.mp h with h | h
        · left; omega
        · exact .inr h
theorem b_max (hc : X.calm = true) : CallR X (.builtin "max") (BiR g o bMax) := CallR.imp (cr_max hc) fun xs H Q ⟨m, vs, S, E, rv, rs, pp⟩ => by
  cases rv with
  | nil => exact pp.elim
  | @cons v x vs xs r rr =>
    cases rr with
    | cons _ _ => exact pp.elim
    | nil =>
      have p' : PostG g RV m H Q E (match intsAt S v with | some (a :: r) => .ok (.int (maxI a r)) S | _ => .stuck 124) := pp
      cases e : intsAt S v with
      | none => rw [e] at p'; exact p'.elim
      | some bs =>
        cases bs with
        | nil => rw [e] at p'; exact p'.elim
        | cons b bs =>
          rw [e] at p'
          obtain ⟨q, rfl, h⟩ := intsAt_ok r rs e X.K
          refine ⟨q, b :: bs, rfl, h, Nat.succ_pos _, fun k hk hm => ?_⟩
          rw [← maxI_ok bs b k (List.mem_cons.mp hk) (hm b List.mem_cons_self) fun y hy => hm y (List.mem_cons_of_mem _ hy)]
          exact p' m H _ Ex.rfl' rs (RV.int _)
theorem b_min (hc : X.calm = true) : CallR X (.builtin "min") (BiR g o bMin) := CallR.imp (cr_min hc) fun xs H Q ⟨m, vs, S, E, rv, rs, pp⟩ => by
  cases rv with
  | nil => exact pp.elim
  | @cons v x vs xs r rr =>
    cases rr with
    | cons _ _ => exact pp.elim
    | nil =>
      have p' : PostG g RV m H Q E (match intsAt S v with | some (a :: r) => .ok (.int (minI a r)) S | _ => .stuck 127) := pp
      cases e : intsAt S v with
      | none => rw [e] at p'; exact p'.elim
      | some bs =>
        cases bs with
        | nil => rw [e] at p'; exact p'.elim
        | cons b bs =>
          rw [e] at p'
          obtain ⟨q, rfl, h⟩ := intsAt_ok r rs e X.K
          refine ⟨q, b :: bs, rfl, h, Nat.succ_pos _, fun k hk hm => ?_⟩
          rw [← minI_ok bs b k (List.mem_cons.mp hk) (hm b List.mem_cons_self) fun y hy => hm y (List.mem_cons_of_mem _ hy)]
          exact p' m H _ Ex.rfl' rs (RV.int _)
end
end G
set_option Elab.async false
set_option linter.all false
set_option maxRecDepth 100000
namespace G
open PySem PySem.Spec L2
open PyProof.Rows hiding St
/-- a text as a value, where it fits -/
def strR (l : List Nat) (S : Store) : R Val := match Nat.ble l.length maxLen && l.all (fun c => Nat.blt c 128) with
  | true => .ok (.str l) S
  | false => .stuck 170
/-- repr of an int, a text, a bool, None -/
def bRepr : Bi := fun _ vs S => match vs with
  | [v] => match v with
    | .int i => match Nat.blt i.natAbs.log2 1920 with
      | true => strR (Str.ofString (toString i)).cps.toList S
      | false => .stuck 171
    | .str l => strR (reprText ⟨l.toArray⟩).cps.toList S
    | _ => .stuck 172
  | _ => .stuck 172
section
variable {X : Cx} {g : Gx} {o : Orc} {W : WX} {pins : List (Addr × PySem.Obj)} {s : Shared} {σ : St} {ρ : G.Env} {m : Mp} {H : Hp} {S : Store} {pos p apos : Pos} {e e' : PySem.Expr} {es : List PySem.Expr} {cs : G.EL} {ce : G.E} {x : Str}
theorem strR_ok {l : List Nat} {Q : VK} {E : XK} (rs : RS g m S H) (pp : PostG g RV m H Q E (strR l S)) : sOk l ∧ Q (.str ⟨l.toArray⟩) H := by
  unfold strR at pp
  cases e : (Nat.ble l.length maxLen && l.all (fun c => Nat.blt c 128)) with
  | false => rw [e] at pp; exact pp.elim
  | true =>
    rw [e] at pp
    obtain ⟨e1, e2⟩ := Bool.and_eq_true_iff.mp e
    have h : sOk l := ⟨by rw [← maxLen_eq]; exact Nat.le_of_ble_eq_true e1, fun c hc => by simpa [Nat.blt_eq] using List.all_eq_true.mp e2 c hc⟩
    exact ⟨h, pp m H _ Ex.rfl' rs (RV.str h)⟩
theorem call_repr_str : CallR X (.builtin "repr") (fun xs H Q => ∃ z, xs = [.str z] ∧ (reprText z).length ≤ sizeLine ∧ Q (.str (reprText z)) H) := by
  intro pins s σ H xs us Q I r h
  obtain ⟨z, rfl, hz, q⟩ := h
  obtain ⟨u, rfl, t, rfl⟩ := vals1 r
  exact PySem.P.repr_of_str ⟨.str _, H, I.tok _, ⟨_, rfl⟩, q⟩ hz
theorem b_repr : CallR X (.builtin "repr") (BiR g o bRepr) := CallR.imp (CallR.or SkE.call_repr_int call_repr_str) fun xs H Q ⟨m, vs, S, E, rv, rs, pp⟩ => by
  cases rv with
  | nil => exact pp.elim
  | @cons v x vs xs r rr =>
    cases rr with
    | cons _ _ => exact pp.elim
    | nil =>
      cases r with
      | int i =>
        have p' : PostG g RV m H Q E (match Nat.blt i.natAbs.log2 1920 with | true => strR (Str.ofString (toString i)).cps.toList S | false => .stuck 171) := pp
        cases e : Nat.blt i.natAbs.log2 1920 with
        | false => rw [e] at p'; exact p'.elim
        | true =>
          rw [e] at p'
          exact .inl ⟨i, rfl, by simpa [Nat.blt_eq] using e, (strR_ok rs p').2⟩
      | @str l hl =>
        have p' : PostG g RV m H Q E (strR (reprText ⟨l.toArray⟩).cps.toList S) := pp
        obtain ⟨h1, h2⟩ := strR_ok rs p'
        exact .inr ⟨_, rfl, by simpa [Str.length] using h1.1, h2⟩
      | _ => exact pp.elim
/-! ### methods of built-in types -/
theorem knd_lst {v : Val} {x : V} (r : RV m H v x) (rs : RS g m S H) (h : hasK S .lst v = true) (K : PySem.W.Frag) : tyV K "list" x H := by
  cases r with
  | @ref n q hq =>
    have h' : (match S.get n with | some (.lst _) => true | some (.dct _) => false | _ => false) = true := h
    split at h'
    · rename_i ys e
      obtain ⟨q', zs, k1, _, k2, k3⟩ := rs.list e (RV.ref hq)
      cases k1
      exact .inl ⟨rfl, zs, SqL.of k2⟩
    · cases h'
    · cases h'
  | str _ => cases h
  | _ => cases h
theorem knd_str {v : Val} {x : V} (r : RV m H v x) (rs : RS g m S H) (h : hasK S .str v = true) : ∃ l, v = .str l ∧ sOk l ∧ x = .str ⟨l.toArray⟩ := by
  cases r with
  | @str l hl => exact ⟨l, rfl, hl, rfl⟩
  | @ref n q hq =>
    have h' : (match S.get n with | some (.lst _) => false | some (.dct _) => false | _ => false) = true := h
    split at h' <;> cases h'
  | _ => cases h
/-- l.append(v) and the like, one argument -/
theorem e_bmL {f : Bm} {id : String} {name : Str} (slot : Slot "list" name id) (hty : typeOf (.builtin id) = pure (.type "method_descriptor")) (hm : MtR X id (BmR g o f)) (ho : PE X e (tM g o W ce)) (ha : PA X (e' :: es) (tL g o W cs))
    (hbase : attributeBase e name X.env (eval e X.env) = eval e X.env)
    (hfew : ((backTo pos (starEach (e' :: es) X.env)).all (fun x => !x.1) && (backToKw pos (keywordEach [] X.env)).all (fun x => x.1.isSome)
      && decide ((e' :: es).length + ([] : List Keyword).length + (if ([] : List Keyword).isEmpty then 0 else 1) < 30)) = true)
    (hline : (apos.endLine == pos.line) = true) (hs : starEach (e' :: es) X.env = (false, eval e' X.env) :: starEach es X.env) (hplain : (backTo pos (starEach es X.env)).any (·.1) = false) :
    PE X (.Call (.Attribute e name apos) (e' :: es) [] pos) (tM g o W (eBm .lst f ce cs)) :=
  PE.imp (pe_bm PySem.F.plainAttrs_list slot hty hm ho ha hbase hfew hline hs hplain) fun σ H Q ⟨m, ρ, S, re, rs, pp⟩ => ⟨m, ρ, S, re, rs, PostG.mono (PostG.bind pp) fun x H1 ⟨m1, v, S1, e1, rs1, rv, p1⟩ => by
    cases hk : hasK S1 .lst v with
    | false => rw [hk] at p1; exact p1.elim
    | true =>
      rw [hk] at p1
      exact ⟨knd_lst rv rs1 hk X.K, m1, ρ, S1, re.mono e1, rs1, PostG.mono (PostG.bind p1) fun xs H2 ⟨m2, vs, S2, e2, rs2, rvs, p2⟩ => ⟨m2, v, vs, S2, _, rv.mono e2, rvs, rs2, p2⟩⟩⟩
theorem e_bmL0 {f : Bm} {id : String} {name : Str} (slot : Slot "list" name id) (hty : typeOf (.builtin id) = pure (.type "method_descriptor")) (hm : MtR X id (BmR g o f)) (ho : PE X e (tM g o W ce))
    (hbase : attributeBase e name X.env (eval e X.env) = eval e X.env) (hline : (apos.endLine == pos.line) = true) : PE X (.Call (.Attribute e name apos) [] [] pos) (tM g o W (eBm .lst f ce elNil)) :=
  PE.imp (pe_bm0 PySem.F.plainAttrs_list slot hty hm ho hbase hline) fun σ H Q ⟨m, ρ, S, re, rs, pp⟩ => ⟨m, ρ, S, re, rs, PostG.mono (PostG.bind pp) fun x H1 ⟨m1, v, S1, e1, rs1, rv, p1⟩ => by
    cases hk : hasK S1 .lst v with
    | false => rw [hk] at p1; exact p1.elim
    | true =>
      rw [hk] at p1
      exact ⟨knd_lst rv rs1 hk X.K, m1, v, [], S1, _, rv, .nil, rs1, p1⟩⟩
theorem PostG.put {α : Type} {n : Nat} {q : Addr} {ob p' : G.Obj} {u : HO} {v : Val} {y : V} {Q : VK} {E : XK} (rs : RS g m S H) (hp : S.get n = some p') (hq : m.l[n]? = some q) (pp : PostG g RV m H Q E (.ok v (S.put n ob)))
    (ho : Ex m H m (upd H q u) → RO g m (upd H q u) q ob) (rv : Ex m H m (upd H q u) → RV m (upd H q u) v y) (nf : isFz p' = false := by rfl) : Q y (upd H q u) :=
  let x := rs.exPut hp hq nf; pp m _ _ x (rs.put hp hq (ho x) nf) (rv x)
theorem bm_append : MtR X "list.append" (BmR g o mAppend) := MtR.imp mt_append fun x xs H Q ⟨m, v, vs, S, E, r, rvs, rs, pp⟩ => by
  cases r with
  | @ref n q hq =>
    cases rvs with
    | nil => exact pp.elim
    | @cons w y vs ys r2 rr =>
      cases rr with
      | cons _ _ => exact pp.elim
      | nil =>
        have p' : PostG g RV m H Q E (match S.get n with | some (.lst xs) => (match Nat.blt xs.length maxLen with | true => .ok .none (S.put n (.lst (xs ++ [w]))) | false => .stuck 140) | _ => .stuck 140) := pp
        split at p'
        · rename_i zs e0
          obtain ⟨q', ys, k1, hq', k2, k3⟩ := rs.list e0 (RV.ref hq)
          cases k1
          cases e : Nat.blt zs.length maxLen with
          | false => rw [e] at p'; exact p'.elim
          | true =>
            rw [e] at p'
            refine ⟨_, ys, y, rfl, rfl, k2, by rw [← k3.length, ← maxLen_eq]; simpa [Nat.blt_eq] using e, ?_⟩
            exact PostG.put (α := Unit) rs e0 hq p' (fun x => ⟨_, upd_same, (k3.mono x).app (.cons (r2.mono x) .nil)⟩) fun x => RV.none
        · exact p'.elim
  | _ => exact pp.elim
theorem strs_ok : ∀ {vs : List Val} {ys : List V} {ss : List (List Nat)}, RVs m H vs ys → strsOf vs = some ss → ys = (ss.map SX.S).map V.str ∧ ∀ l ∈ ss, sOk l
  | _, _, ss, .nil, h => by cases h; exact ⟨rfl, fun l hl => nomatch hl⟩
  | _, _, ss, .cons r t, h => by
    cases r with
    | @str l hl =>
      rw [strsOf] at h
      cases e : strsOf _ with
      | none => rw [e] at h; cases h
      | some cs =>
        rw [e] at h; cases h
        obtain ⟨h1, h2⟩ := strs_ok t e
        exact ⟨by rw [h1]; rfl, fun k hk => (List.mem_cons.mp hk).elim (fun z => z ▸ hl) (h2 k)⟩
    | _ => cases h
theorem joinL_eq (a : List Nat) : ∀ l, joinL a l = TL.joinL a l
  | [] => rfl
  | [p] => rfl
  | p :: q :: r => by
    show p ++ a ++ joinL a (q :: r) = p ++ (a ++ TL.joinL a (q :: r))
    rw [joinL_eq a (q :: r), List.append_assoc]
theorem sumLen_eq : ∀ l : List (List Nat), sumLen l = (l.map (·.length)).sum
  | [] => rfl
  | a :: l => by rw [sumLen, sumLen_eq l]; simp
theorem joinL_ok {a : List Nat} (ha : ∀ c ∈ a, c < 128) : ∀ {l : List (List Nat)}, (∀ p ∈ l, sOk p) → (∀ c ∈ joinL a l, c < 128) ∧ (joinL a l).length ≤ sumLen l + l.length * a.length
  | [], _ => ⟨(fun c h => nomatch h), Nat.zero_le _⟩
  | [p], h => ⟨(h p List.mem_cons_self).2, by show p.length ≤ p.length + 0 + 1 * a.length; omega⟩
  | p :: q :: r, h => by
    obtain ⟨h1, h2⟩ := joinL_ok ha (l := q :: r) fun x hx => h x (List.mem_cons_of_mem _ hx)
    have e : joinL a (p :: q :: r) = p ++ a ++ joinL a (q :: r) := rfl
    refine ⟨fun c hc => ?_, ?_⟩
    · rw [e] at hc
      rcases List.mem_append.mp hc with hc | hc
      · exact (List.mem_append.mp hc).elim ((h p List.mem_cons_self).2 c) (ha c)
      · exact h1 c hc
    · rw [e, List.length_append, List.length_append]
      show _ ≤ p.length + sumLen (q :: r) + ((q :: r).length + 1) * a.length
      rw [Nat.add_mul]
      omega
/-- sep.join(v) -/
theorem e_join (hK : g.K = X.K) (ho : PE X e (tM g o W ce)) {cb : G.E} (ha : PE X e' (tM g o W cb)) (hs : starEach [e'] X.env = [(false, eval e' X.env)]) (hbase : attributeBase e "join" X.env (eval e X.env) = eval e X.env) (hline : (apos.endLine == pos.line) = true) :
    PE X (.Call (.Attribute e "join" apos) [e'] [] pos) (tM g o W (eBm .str mJoin ce (elCons cb elNil))) :=
  PE.imp (pe_join ho ha hs hbase hline) fun σ H Q ⟨m, ρ, S, re, rs, pp⟩ => ⟨m, ρ, S, re, rs, PostG.mono (PostG.bind pp) fun x H1 ⟨m1, v, S1, e1, rs1, rv, p1⟩ => by
    cases hk : hasK S1 .str v with
    | false => rw [hk] at p1; exact p1.elim
    | true =>
      rw [hk] at p1
      obtain ⟨l, rfl, hl, rfl⟩ := knd_str rv rs1 hk
      have p2 : PostG g RV m1 H1 Q (atS W σ) ((cb o ρ S1).bind fun w S => mJoin o (.str l) [w] S) := by
        unfold elCons elNil at p1
        rw [bindA] at p1
        exact p1
      refine ⟨⟨_, rfl⟩, m1, ρ, S1, re.mono e1, rs1, PostG.mono (PostG.bind p2) fun y H2 ⟨m2, w, S2, e2, rs2, rw_, p3⟩ => ?_⟩
      have p4 : PostG g RV m2 H2 Q (atS W σ) (match itemsOf S2 w with | some xs => (match strsOf xs with | some ss => (match Nat.ble (sumLen ss + ss.length * l.length) maxLen with | true => .ok (.str (joinL l ss)) S2 | false => .stuck 159) | .none => .stuck 159) | .none => .stuck 160) := p3
      cases e3 : itemsOf S2 w with
      | none => rw [e3] at p4; exact p4.elim
      | some xs =>
        rw [e3] at p4
        have p5 : PostG g RV m2 H2 Q (atS W σ) (match strsOf xs with | some ss => (match Nat.ble (sumLen ss + ss.length * l.length) maxLen with | true => .ok (.str (joinL l ss)) S2 | false => .stuck 159) | .none => .stuck 159) := p4
        cases e4 : strsOf xs with
        | none => rw [e4] at p5; exact p5.elim
        | some ss =>
          rw [e4] at p5
          have p6 : PostG g RV m2 H2 Q (atS W σ) (match Nat.ble (sumLen ss + ss.length * l.length) maxLen with | true => .ok (.str (joinL l ss)) S2 | false => .stuck 159) := p5
          cases e5 : Nat.ble (sumLen ss + ss.length * l.length) maxLen with
          | false => rw [e5] at p6; exact p6.elim
          | true =>
            rw [e5] at p6
            obtain ⟨q, ys, rfl, r2, h⟩ := items_ok hK rw_ rs2 e3
            obtain ⟨h1, h2⟩ := strs_ok r2 e4
            have hb := Nat.le_of_ble_eq_true e5
            obtain ⟨j1, j2⟩ := joinL_ok (a := l) hl.2 h2
            subst h1
            refine ⟨_, q, ss.map SX.S, rfl, rfl, h.imp id (·.1), ?_, ?_⟩
            · rw [SX.lens, ← sumLen_eq, List.length_map]
              show _ + _ * l.length ≤ _
              exact hb
            · show Q (.str (Txt.join (SX.S l) (ss.map SX.S))) H2
              rw [SX.join_S, ← joinL_eq]
              exact p6 m2 H2 _ Ex.rfl' rs2 (RV.str ⟨by rw [← maxLen_eq]; exact Nat.le_trans j2 hb, j1⟩)⟩
/-- name += e, of ints -/
theorem s_aug {i : Nat} {y : Str} {py : Pos} (hN : X.N.Nodup) (hi : X.N[i]? = some y) (hy : Loc X.env.scope y) (he : PE X e (tM g o W ce)) (hf : X.fn y = true ∨ X.env.scope.names.lookup y = some .local) : PS X (.AugAssign (.Name y py) .Add e pos) (tS g o W (sAug i oAddN ce)) :=
  PS.imp (ps_aug hN hi hy he iop_add hf) fun D σ H ⟨m, ρ, S, re, rs, pp⟩ => by
    unfold sAug at pp
    split at pp
    · rename_i v hv
      split at pp
      · exact pp.elim
      · rename_i v' ne
        obtain ⟨x, h1, h2⟩ := re.get hv ne
        refine ⟨x, h1, m, ρ, S, re, rs, PostG.mono (PostS.to re pp) fun z H1 ⟨m1, w, S1, e1, rs1, rw_, p1⟩ => ?_⟩
        cases h2 with
        | int a =>
          cases rw_ with
          | int b => exact ⟨a, b, rfl, rfl, p1 m1 H1 _ Ex.rfl' rs1 ((re.mono e1).set i (RV.int _))⟩
          | _ => exact p1.elim
        | _ => exact p1.elim
    · exact pp.elim
end
end G
set_option Elab.async false
set_option linter.all false
set_option maxRecDepth 100000
namespace G
open PySem PySem.Spec L2
open PyProof.Rows hiding St
/-! ### a def's address: a global's, a class's method, a property's getter -/
def adP (K : PySem.W.Frag) (p : Str × Option Str) : Addr := match p.2 with
  | none => He.ga K p.1
  | some m => match PySem.W.recIn K (He.ma K (He.ga K p.1) m) "property" with
    | some (.ref g :: _) => g
    | _ => He.ma K (He.ga K p.1) m
def fnWP (K : PySem.W.Frag) (p : Str × Option Str) : He.FnW := match K.lookup (adP K p) with
  | some ⟨_, _, .func fd, _⟩ => some (fd.name, fd.qualname, fd.params, fd.body, fd.scope, fd.globals, fd.closure, fd.builtins)
  | _ => none
def okP (K : PySem.W.Frag) (d : He.DefD) : Bool := PySem.W.keepIn K (.ref (adP K d.at_)) && (match K.lookup (adP K d.at_) with
  | some ⟨_, _, .func fd, _⟩ => PySem.W.codeIn K fd.code d.qual && (He.dflB K fd.defaults (d.dvs K) && He.kwdB K fd.kwdefaults (d.kws K))
  | _ => false)
theorem funDP {K : PySem.W.Frag} {d : He.DefD} (e : fnWP K d.at_ = d.val) (c : okP K d = true) : ∃ fd, FunD K d.name d.qual d.params d.body d.scope (d.dvs K) (d.kws K) (adP K d.at_) fd := by
  obtain ⟨kp, c2⟩ := He.ba c
  unfold fnWP at e
  cases q : K.lookup (adP K d.at_) with
  | none =>
    rw [q] at c2
    cases c2
  | some o =>
    obtain ⟨oc, od, dt, osl⟩ := o
    rw [q] at c2 e
    cases dt with
    | func fd =>
      obtain ⟨n1, n2, n3, n4, n5, n6, n7, n8, n9, n10, n11, n12, n13, n14, n15⟩ := fd
      have e2 : (some (n1, n2, n3, n4, n5, n6, n7, n15) : He.FnW) = some (d.name, d.qual, d.params, .stmts d.body, d.scope, mainGlobals, [], builtinsNs) := e
      simp only [Option.some.injEq, Prod.mk.injEq] at e2
      obtain ⟨h1, h2, h3, h4, h5, h6, h7, h8⟩ := e2
      subst h1 h2 h3 h4 h5 h6 h7 h8
      have c3 : (PySem.W.codeIn K n13 d.qual && (He.dflB K n8 (d.dvs K) && He.kwdB K n9 (d.kws K))) = true := c2
      obtain ⟨k1, k2⟩ := He.ba c3
      obtain ⟨k3, k4⟩ := He.ba k2
      exact ⟨_, ⟨oc, od, n8, n9, n10, n11, n12, n13, n14, osl, rfl, q, k1, He.dflB_ok k3, He.kwdB_ok k4⟩, kp⟩
    | _ => cases c2
/-! ### the head's facts, by any test -/
def obsX (ck : PySem.W.Frag → Bool) (fn : List He.DefD) (K : PySem.W.Frag) : He.AlD := (ck K && fn.all fun d => okP K d, fn.map fun d => fnWP K d.at_)
def SaysX (ck : PySem.W.Frag → Bool) (fn : List He.DefD) (K : PySem.W.Frag) : Prop := obsX ck fn K = He.valD fn
def obsXG (n : Nat) (ck : PySem.W.Frag → Bool) (fn : List He.DefD) (f : Addr → Option PySem.Obj) : He.AlD := obsX ck fn (He.frG f (He.asD f n))
def hookX (n : Nat) (ck : PySem.W.Frag → Bool) (fn : List He.DefD) : PySem.W.Hook where
  α := He.AlD
  obs := fun s => obsXG n ck fn s.heap.get?
  val := fun _ => He.valD fn
  says := fun _ h => ∃ K : PySem.W.Frag, K.In h ∧ SaysX ck fn K
  of := fun _ _ e => ⟨_, He.frG_in, e⟩
  keeps := fun _ _ _ ⟨K, hK, c⟩ k => ⟨K, PySem.W.Frag.In.keeps hK k, c⟩
theorem obsXG_eq {n : Nat} {ck : PySem.W.Frag → Bool} {fn : List He.DefD} {f : Addr → Option PySem.Obj} {s : Shared} (h : ∀ a, f a = s.heap.get? a) : obsXG n ck fn f = (hookX n ck fn).obs s := by
  have e : f = s.heap.get? := funext h
  rw [e] <;> rfl
section
variable {ck : PySem.W.Frag → Bool} {fn : List He.DefD} {K : PySem.W.Frag}
theorem SaysX.ck_ (c : SaysX ck fn K) : ck K = true := (He.ba (show (ck K && fn.all fun d => okP K d) = true from congrArg (fun z : He.AlD => z.1) c)).1
theorem SaysX.def_ (c : SaysX ck fn K) {i : Nat} {d : He.DefD} (h : fn[i]? = some d) : ∃ fd, FunD K d.name d.qual d.params d.body d.scope (d.dvs K) (d.kws K) (adP K d.at_) fd := by
  have c2 := (He.ba (show (ck K && fn.all fun d => okP K d) = true from congrArg (fun z : He.AlD => z.1) c)).2
  have e : fn.map (fun d => fnWP K d.at_) = fn.map He.DefD.val := congrArg (fun z : He.AlD => z.2) c
  have e2 : (fn.map fun d => fnWP K d.at_)[i]? = (fn.map He.DefD.val)[i]? := by rw [e]
  rw [List.getElem?_map, List.getElem?_map, h] at e2
  exact funDP (Option.some.inj e2) (List.all_eq_true.mp c2 d (List.mem_of_getElem? h))
end
/-- the function's data where it stands -/
def fdAt (K : PySem.W.Frag) (a : Addr) : FuncData := match K.lookup a with
  | some ⟨_, _, .func fd, _⟩ => fd
  | _ => PySem.W.fnOf Str.empty Str.empty ⟨[], [], none, [], [], none, []⟩ [] ⟨.function, [], false, false, []⟩ .none .none .none .none none .none .none
theorem fdAt_eq {K : PySem.W.Frag} {x qual : Str} {params : Arguments} {body : List Stmt} {scope : Scope} {dvs : List V} {kws : List (Str × V)} {a : Addr} {fd : FuncData} (F : FunD K x qual params body scope dvs kws a fd) : fdAt K a = fd := by
  obtain ⟨oc, od, dV, kV, doc, pm, an, cdv, ct, osl, rfl, lk, hcd, _, _⟩ := F.ex
  unfold fdAt
  rw [lk]
theorem fun_at {K : PySem.W.Frag} {x qual : Str} {params : Arguments} {body : List Stmt} {scope : Scope} {dvs : List V} {kws : List (Str × V)} {a : Addr} (h : ∃ fd, FunD K x qual params body scope dvs kws a fd) : FunD K x qual params body scope dvs kws a (fdAt K a) := by
  obtain ⟨fd, F⟩ := h
  rw [fdAt_eq F]; exact F
/-- a def by its body's code, over its datum -/
theorem fn_okD {P : Program} {w : World} {K : PySem.W.Frag} {mg : Str → Option Value} {base : Heap} {g : Gx} {t : Tb} {n i : Nat} {f : Addr} {x qual : Str} {params : Arguments} {body : List Stmt} {scope : Scope} {dvs : List V} {kws : List (Str × V)} {fd : FuncData} {N ps : List Str}
    (D : FunD K x qual params body scope dvs kws f fd) (S : FnScope N ps scope) (hnp : (t.fn i).np = ps.length) (hns : (t.fn i).ns = N.length)
    (hbody : ∀ (cdv : Value) (A : Around) (outer : List PySem.Env) (s : Shared) (H : Hp) (E : XK), Rb n (A.deeper (envOfC qual scope s.heap.objs.size f cdv)) →
      PSs (cxOf (L2.CX P w) P w K mg base N qual scope f cdv A outer s H E) body (tS g (orcN t n) (fun c d _ H => E c d H) (t.fn i).body)) :
    FnG P w K mg base (n + 1) f fd ps (spG g t (n + 1) i) := by
  obtain ⟨oc, od, dV, kV, doc, pm, an, cdv, ct, osl, rfl, lk, hcd, _, _⟩ := D.ex
  exact fn_ok lk hcd S hnp hns fun A outer s H E hr => hbody cdv A outer s H E hr
theorem x_initD {P : Program} {w : World} {K : PySem.W.Frag} {mg : Str → Option Value} {base : Heap} {f : Addr} {x qual : Str} {params : Arguments} {scope : Scope} {dvs : List V} {kws : List (Str × V)} {fd : FuncData} {sn q fl : Str} {p1 p2 p3 p4 : Pos}
    (D : FunD K x qual params [.Assign [.Attribute (.Name sn p1) fl p2] (.Name q p3) p4] scope dvs kws f fd) (S : FnScope [sn, q] [sn, q] scope)
    (v1 : Vis scope sn) (v2 : Vis scope q) (d1 : (sn == ("__debug__" : Str)) = false) (d2 : (q == ("__debug__" : Str)) = false) (c1 : (sn == ("__classdict__" : Str)) = false) (c2 : (q == ("__classdict__" : Str)) = false) :
    FnOk P w K mg base (L2.CX P w) 1 f fd [sn, q] (spX K fl) := by
  obtain ⟨oc, od, dV, kV, doc, pm, an, cdv, ct, osl, rfl, lk, hcd, _, _⟩ := D.ex
  exact x_init lk hcd S v1 v2 d1 d2 c1 c2
/-- an own exception's class -/
def oexB (K : PySem.W.Frag) (C : Addr) : Bool := (match K.lookup C with
  | some ⟨.type T, _, .cls cd, sl⟩ => (match cd.mro, sl.toList with
    | .ref C' :: bm, [_, _, _, _, some (.builtin n), _] => T == "type" && (C' == C && (n == "ValueError.__new__" && (!cd.hasDel && (cd.hasDict && PySem.HandSPX.refsVE bm))))
    | _, _ => false)
  | _ => false) && (He.eqO (PySem.W.findIn K (.ref C) "__setattr__") (some (some (.builtin "object.__setattr__"))) && (decide (PySem.W.subIn K (.ref C) (.type "BaseException") = some true) && (decide (PySem.W.typeIn K (.ref C) = some (.type "type")) && PySem.W.keepIn K (.ref C))))
theorem oexB_ok {K : PySem.W.Frag} {C : Addr} (h : oexB K C = true) : OexC K C := by
  obtain ⟨h1, h⟩ := He.ba h
  obtain ⟨h2, h⟩ := He.ba h
  obtain ⟨h3, h⟩ := He.ba h
  obtain ⟨h4, h5⟩ := He.ba h
  refine ⟨?_, He.eqO_ok h2, of_decide_eq_true h3, of_decide_eq_true h4, h5⟩
  split at h1
  · rename_i T dd cd sl ho
    split at h1
    · rename_i C' bm k0 k1 k2 k3 n k5 hm hs
      simp only [Bool.and_eq_true, beq_iff_eq, Bool.not_eq_true'] at h1
      obtain ⟨rfl, rfl, rfl, hdel, hdict, hr⟩ := h1
      obtain ⟨nm, bs, mro, ns, qn, hd, sn, sub, ab, col, del⟩ := cd
      dsimp only at hm hdel hdict
      subst hm hdel hdict
      have hsl : sl = #[k0, k1, k2, k3, some (.builtin "ValueError.__new__"), k5] := by
        obtain ⟨l⟩ := sl
        simp only at hs
        rw [hs]
      subst hsl
      exact ⟨nm, qn, ns, bs, bm, sn, sub, ab, col, dd, k0, k1, k2, k3, k5, ho, hr⟩
    · cases h1
  · cases h1
/-! ### to the law's own end -/
/-- the script's list as the abstract heap has it: in the written part, or locked -/
theorem end_core {P : Program} {w : World} {K : PySem.W.Frag} {mg mb : Str → Option Value} {n : Nat} {fa a : Addr} {fd : FuncData} {x : Str} {sp : Sp} {s1 : Shared} {vs : List Value} {H : Hp}
    (inK : K.In s1.heap) (hG : s1.heap.Ns mainGlobals mg) (hB : s1.heap.Ns builtinsNs mb) (hbb : ∀ z : Str, z ≠ "__name__" → mb z = bootBuiltins z) (lim : s1.heap.NoLimit) (gn : s1.gens = #[])
    (at_ : s1.heap.get? a = some { cls := .type "list", data := .seq vs.toArray }) (rm : Rm n callerA) (F : ∀ base : Heap, K.In base → base.Ns mainGlobals mg → FnG P w K mg base n fa fd [x] sp)
    (bind : ∀ (s : Shared) (u : Value), BindsTo s fd ⟨[u], []⟩ [(x, u)]) (only : Only H) (hok : HOk P w H s1.heap) (one : ∀ b, H b ≠ .none → b = a) (kno : H a ≠ .none → K.lookup a = .none)
    (wish : sp [.ref a] H (fun v _ => v = .bl true) Eno) :
    codeAny (model P w) callerA (.call (.ref fa) ⟨[.ref a], []⟩) (fun r s' => r = .ok (.ret (.bool true)) ∧ OldK s1.heap s'.heap ∧ s'.os = s1.os ∧ AllBare s'.gens) s1 := by
  have out : ∀ {b : Addr} {ob : PySem.Obj}, s1.heap.get? b = some ob → (∀ its k, ob.data ≠ .seq its k) → H b = .none := by
    intro b ob e nd
    by_cases q : H b = .none
    · exact q
    · rw [one b q, at_] at e
      cases e
      exact absurd rfl (nd _ _)
  have low : ∀ {b : Addr} {f : Str → Option Value}, s1.heap.Ns b f → (hidT s1.heap H).Ns b f := by
    rintro b f ⟨ob, es, ep, e, d, r⟩
    exact ⟨ob, es, ep, hidT_get e (out e fun its k z => by rw [d] at z; cases z), d, r⟩
  have kin : K.In (hidT s1.heap H) := fun b ob e => hidT_get (inK b ob e) (by
    by_cases q : H b = .none
    · exact q
    · have z := one b q
      subst z
      rw [kno q] at e; cases e)
  obtain ⟨ml, l1, l2⟩ := lim
  have env : Env0 P w K mg (hidT s1.heap H) callerA [] s1 H :=
    ⟨rfl, ⟨kin, low hG, ⟨mb, low hB, hbb⟩, ⟨ml, low l1, l2⟩⟩, fun b ob e => of_hidT e, Nat.le_of_eq (hidT_size _ _), trivial, (fun b hb => nomatch (show b ∈ ([] : List Addr) from hb)), hok, .of_eq gn⟩
  refine codeAny_mono ((F _ kin (low hG)).run callerA [] s1 H ⟨[.ref a], []⟩ [.ref a] [.ref a] _ _ rm env (bind s1 (.ref a)) (.cons rfl .nil) wish) fun ans s' h => ?_
  match ans, h with
  | .error e, h =>
    obtain ⟨_, _, _, _, _, _, _, _, _, _, _, _, z⟩ := h
    exact z.elim
  | .ok (.ret u), h =>
    obtain ⟨v, H', os, bare, un, hok', rv, q⟩ := h
    have qv : v = .bl true := q
    subst qv
    cases (show u = Value.bool true from rv)
    refine ⟨rfl, OldK.of_keep fun b ob e => ?_, os, bare⟩
    rcases only b with z | ⟨o2, xs, z⟩
    · exact un.keep b ob e z (fun h => nomatch (show b ∈ ([] : List Addr) from h)) (fun h => nomatch h)
    · obtain ⟨k1, _⟩ := hok b _ z
      obtain ⟨k2, _⟩ := hok' b _ (un.frzs b o2 _ z)
      rw [e] at k1; cases k1
      exact k2
theorem end_walk {l : PySem.W.OpenLaw} {most n : Nat} {q : Program} {loose : List Str} {XP : (Str → Option Value) → Heap → Prop} {YP : World → Heap → Prop} {d : DefRec} {x : Str} (hn : l.most = some most) (hn2 : most ≤ sizeLine) (hdf : d.params.defaults = []) (rm : Rm n callerA)
    (F : ∀ (w : World) (mg : Str → Option Value) (fa : Addr) (h : Heap), YP w h → h.Ns mainGlobals mg → mg d.name = some (.ref fa) →
      ∃ (K : PySem.W.Frag) (fd : FuncData) (sp : Sp), K.In h ∧ (∀ (s : Shared) (u : Value), BindsTo s fd ⟨[u], []⟩ [(x, u)]) ∧
        (∀ (H : Hp) (a : Addr) (ns : List Int), ns.length ≤ most → Only H → SqL K H a (ns.map V.int) → sp [.ref a] H (fun v _ => v = .bl true) Eno) ∧ ∀ base : Heap, K.In base → base.Ns mainGlobals mg → FnG l.prog w K mg base n fa fd [x] sp) :
    PySem.W.WalkO q loose XP YP l.row.toRowW d [] (fun f vs => PySem.call f vs) := by
  refine Att.attach_call hn hdf fun w s0 s1 mg mb fa o pm cd doc a vs ns G Y ho hd hcd hmg hobj hints hlen hg => ?_
  obtain ⟨K, fd, sp, inK, hb, hsp, hF⟩ := F w mg fa _ Y G.T.g hmg
  have rv := vals_ints hints
  have hz : ns.length ≤ sizeLine := Nat.le_trans hlen hn2
  have lv := hints.length
  by_cases kl : K.lookup a = .none
  · have lockd : ∀ (b : Addr) (u : HO), (fun b => if b = a then some (HO.frz { cls := .type "list", data := .seq vs.toArray } (.lst (ns.map V.int))) else .none) b = some u → b = a ∧ u = HO.frz { cls := .type "list", data := .seq vs.toArray } (.lst (ns.map V.int)) := by
      intro b u e
      by_cases z : b = a
      · exact ⟨z, (Option.some.inj ((if_pos z).symm.trans e)).symm⟩
      · exact nomatch (if_neg z).symm.trans e
    have only : Only (fun b => if b = a then some (HO.frz { cls := .type "list", data := .seq vs.toArray } (.lst (ns.map V.int))) else .none) := fun b => by
      by_cases z : b = a
      · exact .inr ⟨_, _, if_pos z⟩
      · exact .inl (if_neg z)
    refine end_core inK G.T.g G.T.b G.T.builtins G.T.nolimit hg hobj rm hF hb only (fun b u e => ?_) (fun b q => ?_) (fun _ => kl) (hsp _ a ns hlen only (.inl (.inr ⟨_, if_pos rfl⟩)))
    · obtain ⟨rfl, rfl⟩ := lockd b u e
      exact ⟨hobj, by rw [List.length_map]; exact hz, vs, _, rv, hobj⟩
    · by_cases z : b = a
      · exact z
      · exact absurd (if_neg z) q
  · obtain ⟨ob, kl⟩ := Option.ne_none_iff_exists'.mp kl
    have e := inK a ob kl
    rw [hobj] at e
    cases e
    exact end_core inK G.T.g G.T.b G.T.builtins G.T.nolimit hg hobj rm hF hb (H := fun _ => .none) (fun _ => .inl rfl) (fun b u e => nomatch e) (fun b q => absurd rfl q) (fun q => absurd rfl q)
      (hsp _ a ns hlen (fun _ => .inl rfl) (.inr ⟨_, vs.toArray, _, kl, rfl, rfl, rfl, by rw [List.size_toArray, lv]; exact hz, by simpa using rv⟩))
/-- the law's wish, by its code's answer -/
theorem law_wish {g : Gx} {t : Tb} {n f : Nat} (hx : g.ex = .none ∧ g.ea = .none) (h : ∀ ns : List Int, ns.length ≤ 63 → ∃ S, callN t n f [.scr ns] ⟨0, .nil⟩ = .ok (.bool true) S) {H : Hp} {a : Addr} {ns : List Int} (hl : ns.length ≤ 63) (ho : Only H) (hS : SqL g.K H a (ns.map V.int)) :
    spG g t n f [.ref a] H (fun v _ => v = .bl true) Eno := by
  obtain ⟨S, e⟩ := h ns hl
  have ro : RoL g.K H a (ns.map V.int) := by
    rcases hS with (q | ⟨o, q⟩) | q
    · rcases ho a with z | ⟨o, xs, z⟩
      · rw [z] at q; cases q
      · rw [z] at q; cases q
    · exact .inl ⟨o, q⟩
    · exact .inr q
  refine ⟨⟨g.K, [], 0⟩, [.scr ns], ⟨0, .nil⟩, .cons (.scr ro) .nil, ⟨rfl, rfl, Nat.zero_le _, (fun i j b hi hj => by simp at hi), (fun n o hn => ?_), (fun n hn => absurd hn (Nat.not_lt_zero _)), (fun b fs hb => by rw [hx.1] at hb; cases hb), (fun b hb => by rw [hx.2] at hb; cases hb)⟩, ?_⟩
  · have : (Store.get ⟨0, .nil⟩ n) = .none := rfl
    rw [this] at hn; cases hn
  · rw [e]
    intro m' H' x _ _ r
    cases r
    rfl
theorem vis_of {sc : Scope} {x : Str} (h : (match sc.names.lookup x with | some .local => true | some .cell => true | some .free => true | _ => false) = true) : Vis sc x := by
  unfold Vis
  cases e : sc.names.lookup x with
  | none => rw [e] at h; cases h
  | some k => rw [e] at h; cases k <;> first | exact .inl rfl | exact .inr (.inl rfl) | exact .inr (.inr rfl) | cases h
theorem loc_of {sc : Scope} {x : Str} (h : (match sc.names.lookup x with | some .local => true | some .cell => true | _ => false) = true) : L2.Loc sc x := by
  unfold L2.Loc
  cases e : sc.names.lookup x with
  | none => rw [e] at h; cases h
  | some k => rw [e] at h; cases k <;> first | exact .inl rfl | exact .inr rfl | cases h
section
variable {X : Cx} {g : Gx} {o : Orc} {W : WX} {pos p : Pos} {x : Str}
theorem m_gint {i : Int} (hg : Gl X x) (hm : ∃ t, X.mg x = some (.int i t)) (hd : (x == ("__debug__" : Str)) = false) : PE X (.Name x p) (tM g o W (eC (.int i))) := by
  obtain ⟨t, hm⟩ := hm
  exact PE.imp (pe_glob (v := .int i) hg hm ⟨t, rfl⟩ hd) fun σ H Q ⟨m, ρ, S, re, rs, pp⟩ => pp m H _ Ex.rfl' rs (RV.int i)
theorem m_gstr {z : Str} {l : List Nat} (hg : Gl X x) (hm : ∃ t, X.mg x = some (.str z t)) (e : z.cps.toList = l) (h : sOk l) (hd : (x == ("__debug__" : Str)) = false) : PE X (.Name x p) (tM g o W (eC (.str l))) := by
  obtain ⟨t, hm⟩ := hm
  have : z = ⟨l.toArray⟩ := by rw [← e]
  exact PE.imp (pe_glob (v := .str z) hg hm ⟨t, rfl⟩ hd) fun σ H Q ⟨m, ρ, S, re, rs, pp⟩ => pp m H _ Ex.rfl' rs (by rw [this]; exact RV.str h)
theorem sOk_of {l : List Nat} (h : (Nat.ble l.length sizeLine && l.all fun c => Nat.blt c 128) = true) : sOk l := by
  obtain ⟨h1, h2⟩ := Bool.and_eq_true_iff.mp h
  exact ⟨Nat.le_of_ble_eq_true h1, fun c hc => by simpa [Nat.blt_eq] using List.all_eq_true.mp h2 c hc⟩
/-- f() -/
theorem e_call0 {t : Tb} {F : Ft} {nf n : Nat} (R : Rn X g o t F nf n W) {f : Nat} (hf : f < nf) (hg : Gl X x) (hm : X.mg x = some (.ref (F.a f))) (hk : PySem.W.keepIn X.K (.ref (F.a f)) = true) (hb : Binds X.K (F.fd f) (F.ps f) [])
    (hdb : (x == ("__debug__" : Str)) = false) : PE X (.Call (.Name x p) [] [] pos) (tM g o W (eCall f elNil)) := by
  refine ⟨fun pins s σ H Q I ⟨m, ρ, S, re, rs, pp⟩ => ?_⟩
  refine wpAny_Call_Name_kw (ld_glob I hg hm ?_ hdb)
  have p2 : PostG g RV m H Q (atS W σ) (o.call f [] S) := pp
  rw [R.orc] at p2
  exact PySem.W.callWith_K0 I.kIn hk (run_fnG (us := []) (vs := []) (R.ok f hf) R.room.rm hb .nil R.takes I .nil ⟨m, [], S, .nil, rs, p2⟩)
end
end G
set_option Elab.async false
set_option linter.all false
set_option maxRecDepth 100000
namespace G
open PySem PySem.Spec L2
open PyProof.Rows hiding St
section
variable {X : Cx} {g : Gx} {o : Orc} {W : WX} {pins : List (Addr × PySem.Obj)} {s : Shared} {σ : St} {ρ : G.Env} {m : Mp} {H : Hp} {S : Store} {pos p : Pos} {x : Str}
theorem ixOf_ixN (n : Nat) (i : Int) : ixOf n i = ixN n i := by
  unfold ixOf ixN
  cases i with
  | ofNat k =>
    rw [if_pos (by show (0 : Int) ≤ (k : Int); omega)]
    by_cases h : k < n
    · rw [if_pos (by show (k : Int) < _; omega)]
      have : Nat.blt k n = true := by simpa [Nat.blt_eq] using h
      simp only [this]; rfl
    · rw [if_neg (by show ¬ (k : Int) < _; omega)]
      have : Nat.blt k n = false := Bool.eq_false_iff.mpr (by simpa [Nat.blt_eq] using h)
      simp only [this]
  | negSucc k =>
    rw [if_neg (by omega)]
    by_cases h : k < n
    · rw [if_pos (by omega)]
      have : Nat.blt k n = true := by simpa [Nat.blt_eq] using h
      simp only [this]
      congr 1; omega
    · rw [if_neg (by omega)]
      have : Nat.blt k n = false := Bool.eq_false_iff.mpr (by simpa [Nat.blt_eq] using h)
      simp only [this]
theorem g_sub {a b : PySem.Expr} {ca cb : G.E} (ha : PE X a (tM g o Wno ca)) (hb : PE X b (tM g o Wno cb))
    (hs : ∀ v, assign (.Subscript a b pos) X.env v = (do
      let ov ← holding [v] (eval a X.env)
      let iv ← holding [v, ov] (eval b X.env)
      standAt pos
      holding [v, ov, iv] (setItem ov iv v)
      release [v, ov, iv] [])) : PG X (.Subscript a b pos) (tE g o (tSub ca cb)) := by
  refine ⟨fun pins s σ H v u Q I r ⟨m, ρ, S, w, re, rs, rv, pp⟩ => ?_⟩
  rw [hs]
  refine wpAny_bind (wpAny_holding (thnE (W := Wno) ha I re rs pp fun ov s1 v1 S1 m1 H1 x I1 r1 rv1 rs1 re1 e1 p1 => ?_))
  refine wpAny_bind (wpAny_holding (thnE (W := Wno) hb I1 re1 rs1 p1 fun iv s2 v2 S2 m2 H2 y I2 r2 rv2 rs2 re2 e2 p2 => ?_))
  refine wpAny_bind (wpAny_standAt (wpAny_bind (wpAny_holding ?_)))
  have rv1' := rv1.mono e2
  cases rv1' with
  | @ref n q hq =>
    cases rv2 with
    | int i =>
      have p3 : PostG g RE m2 H2 Q Eno (R.bind (match S2.get n with | some (.lst xs) => (match ixOf xs.length i with | some k => .ok () (S2.put n (.lst (xs.set k w))) | .none => .stuck 84) | _ => .stuck 86) fun _ S => .ok ρ S) := p2
      cases e0 : S2.get n with
      | none => rw [e0] at p3; exact p3.elim
      | some ob =>
        cases ob with
        | lst xs =>
          rw [e0] at p3
          obtain ⟨q', ys, k1, hq', k2, k3⟩ := rs2.list e0 (RV.ref hq)
          cases k1
          have p4 : PostG g RE m2 H2 Q Eno (R.bind (match ixOf xs.length i with | some k => .ok () (S2.put n (.lst (xs.set k w))) | .none => .stuck 84) fun _ S => .ok ρ S) := p3
          rw [ixOf_ixN, k3.length] at p4
          cases e4 : ixN ys.length i with
          | none => rw [e4] at p4; exact p4.elim
          | some k =>
            rw [e4] at p4
            refine thn (set_list pins s2 σ H2 _ _ _ ov iv u _ I2 r1 r2 r ⟨_, ys, i, k, rfl, rfl, k2, e4, rfl⟩) fun _ s3 ⟨H3, I3, q3⟩ => ?_
            refine wpAny_release ⟨σ, H3, I3, ?_⟩
            subst q3
            have x2 := rs2.exPut (u := .lst (ys.set k v)) e0 hq
            exact p4 m2 _ σ x2 (rs2.put e0 hq ⟨_, upd_same, (k3.mono x2).set (((rv.mono e1).mono e2).mono x2) k⟩) (re2.mono x2)
        | _ => rw [e0] at p3; exact p3.elim
    | _ =>
      have p3 : PostG g RE m2 H2 Q Eno (R.bind (match S2.get n with | some (.lst xs) => .stuck 84 | _ => .stuck 86) fun (_ : Unit) S => .ok ρ S) := p2
      split at p3 <;> exact p3.elim
  | _ => exact p2.elim
theorem m_and1 {e : PySem.Expr} {ce : G.E} {op : BoolOp} (he : PE X e (tM g o W ce)) : PE X (.BoolOp op [e] pos) (tM g o W ce) := pe_one he
theorem hu_of {n : Nat} {A : Around} (r : Rb n A) : A.units + 64 < cLine := by have := r.un; omega
theorem hu5_of {n : Nat} {A : Around} (r : Rb n A) : A.units + 65 < cLine := by have := r.un; omega
def blkB (N : List Str) (sc scope : Scope) (own : List (Str × Nat)) : Bool :=
  decide (scope.kind = .function) && (scope.names.all (fun y => decide (scope.names.lookup y.1 = some y.2)) && (own.all (fun p => decide (N[p.2]? = some p.1)) &&
    (scope.names.all (fun y => decide (y.2 = .free → sc.names.lookup y.1 = some .cell ∨ sc.names.lookup y.1 = some .free)) && scope.names.all (fun y => decide (y.2 = .local ∨ y.2 = .cell → y.1 ∈ own.map (·.1) ∨ y.1 ∉ N)))))
theorem blk_ok {N : List Str} {sc scope : Scope} {own : List (Str × Nat)} (h : blkB N sc scope own = true) : BlkOk N sc scope own := by
  obtain ⟨h1, h⟩ := He.ba h
  obtain ⟨h2, h⟩ := He.ba h
  obtain ⟨h3, h⟩ := He.ba h
  obtain ⟨h4, h5⟩ := He.ba h
  exact ⟨of_decide_eq_true h1, fun y hy => of_decide_eq_true (List.all_eq_true.mp h2 y hy), fun y hy => of_decide_eq_true (List.all_eq_true.mp h3 y hy), fun y hy => of_decide_eq_true (List.all_eq_true.mp h4 y hy), fun y hy => of_decide_eq_true (List.all_eq_true.mp h5 y hy)⟩
theorem nm_inj {nms : List Str} {k : Nat} (h : ((List.range k).all fun i => (List.range k).all fun j => decide (nms.getD i "" = nms.getD j "" → i = j)) = true) (i j : Nat) (hi : i < k) (hj : j < k) (e : nms.getD i "" = nms.getD j "") : i = j :=
  of_decide_eq_true (List.all_eq_true.mp (List.all_eq_true.mp h i (List.mem_range.mpr hi)) j (List.mem_range.mpr hj)) e
end
end G
set_option Elab.async false
set_option linter.all false
set_option maxRecDepth 100000
namespace G
open PySem PySem.Spec L2
open PyProof.Rows hiding St
def tgV (g : Gx) : Tg → Value
  | .non => .type "NoneType"
  | .bool => .type "bool"
  | .int => .type "int"
  | .str => .type "str"
  | .tup => .type "tuple"
  | .lst => .type "list"
  | .dct => .type "dict"
  | .own c => .ref (g.cl c)
/-- what isinstance asks of an own class -/
structure InsT (K : PySem.W.Frag) (C : Addr) : Prop where
  ha : PySem.W.findIn K (.ref C) "__class__" = some (some (.builtin "object.__class__"))
  hn : PySem.W.specialIn K (.builtin "object.__class__") "__get__" = some (some (.builtin "getset_descriptor.__get__"))
  htk : PySem.W.takesIn K (.builtin "object.__class__") = some true
  hm : PySem.W.mroIn K C (.type "object") = some true
/-- the class cv, told by the kinds' answers -/
structure TyOk (K : PySem.W.Frag) (g : Gx) (ans : Tg → Option Bool) (cv : Value) : Prop where
  one : ∀ t b, ans t = some b → PySem.W.kitOne K (tgV g t) cv = some b
  own : ∀ c b, ans (.own c) = some b → InsT K (g.cl c)
section
variable {X : Cx} {g : Gx} {o : Orc} {W : WX} {pins : List (Addr × PySem.Obj)} {s : Shared} {σ : St} {ρ : G.Env} {m : Mp} {H : Hp} {S : Store} {pos p p2 : Pos} {x y : Str}
theorem kit_val (hK : g.K = X.K) {ans : Tg → Option Bool} {cv : Value} (T : TyOk X.K g ans cv) {v : Val} {x : V} {u : Value} {t : Tg} {b : Bool} (I : Inv X pins σ H s) (rv : RV m H v x) (ru : RelV x u) (rs : RS g m S H) (ht : tgOf S v = some t) (ha : ans t = some b) {Q : Value → Shared → Prop}
    (h : ∀ tk, Q (.bool b) { s with toks := tk }) : wpAny (model X.prog X.w) X.A (call (.builtin "isinstance") [u, cv]) Q X.xe s := by
  have e := T.one t b ha
  cases rv with
  | none => cases ht; exact isinst_ok I ru .non e h
  | bool z => cases ht; exact isinst_ok I ru (.bl z) e h
  | int z => cases ht; exact isinst_ok I ru (.int z) e h
  | str z => cases ht; exact isinst_ok I ru (.str _) e h
  | tup hq r => cases ht; exact isinst_ok I ru (.tup hq) e h
  | @ref n a hm =>
    have ht' : (match S.get n with | some (.lst _) => some Tg.lst | some (.dct _) => some .dct | some (.ins c _) => some (.own c) | _ => .none) = some t := ht
    split at ht'
    · rename_i xs e0
      cases ht'
      obtain ⟨q, ys, k1, _, k2, k3⟩ := rs.list e0 (RV.ref hm)
      cases k1
      exact isinst_ok I ru (.lst k2) e h
    · rename_i kvs e0
      cases ht'
      obtain ⟨q, hq, z, es, h1, h2⟩ := rs.obj n _ e0
      rw [hm] at hq; cases hq
      cases (show u = Value.ref a from ru)
      obtain ⟨⟨_, ob, ep, h3, h4, h5⟩, _⟩ := (show ObjOk X.prog X.w H s.heap a (dO a es) from I.hok a _ h1)
      exact PySem.W.kia_one PySem.W.kitx_dict I.kIn ⟨ob, h3, h4.1⟩ e (fun z => nomatch z) h
    · rename_i c fs e0
      cases ht'
      obtain ⟨q, hq, ⟨hc, _⟩, dx, hs, h1, h2⟩ := rs.obj n _ e0
      rw [hm] at hq; cases hq
      have it := T.own c b ha
      exact isinst_ok I ru (.ins h1 (hK ▸ hc) it.ha it.hn it.htk it.hm) e h
    · cases ht'
  | scr _ => cases ht
theorem e_isi (hK : g.K = X.K) {ans : Tg → Option Bool} {a : PySem.Expr} {ca : G.E} {c : V} {cv : Value} (T : TyOk X.K g ans cv) (hg : Gl X "isinstance") (hm : X.mg "isinstance" = .none) (ha : PE X a (tM g o W ca)) {b : PySem.Expr} (hb : PE X b (tC c)) (hc : ClsV c cv)
    (h1 : starEach [a, b] X.env = (false, eval a X.env) :: starEach [b] X.env) (h2 : starEach [b] X.env = (false, eval b X.env) :: starEach [] X.env) (hpl : (backTo pos (starEach [b] X.env)).any (·.1) = false) : PE X (.Call (.Name "isinstance" p) [a, b] [] pos) (tM g o W (eIsI ca ans)) := by
  have cr : CallR X (.builtin "isinstance") (fun xs H Q => ∃ m S v x t r, xs = [x, c] ∧ RV m H v x ∧ RS g m S H ∧ tgOf S v = some t ∧ ans t = some r ∧ Q (.bl r) H) := by
    intro pins s σ H xs us Q I r ⟨m, S, v, x, t, z, e, rv, rs, h1, h2, q⟩
    subst e
    obtain ⟨u1, u2, rfl, r1, r2⟩ := vals2 r
    have e2 := hc.eq r2
    subst e2
    exact kit_val hK T I rv r1 rs h1 h2 fun tk => ⟨.bl z, H, I.tok tk, rfl, q⟩
  exact PE.imp (pe_callB cr hg hm (by decide +kernel) (pa_cons ha (pa_cons hb pa_nil h2) h1) (by decide) rfl h1 hpl) fun σ H Q ⟨m, ρ, S, re, rs, pp⟩ => ⟨m, ρ, S, re, rs, PostG.mono (PostG.bind pp) fun x H1 ⟨m1, v, S1, e1, rs1, rv, p1⟩ => by
    have p2 : PostG g RV m1 H1 Q (atS W σ) (match tgOf S1 v with | some t => ofB (ans t) S1 133 | .none => .stuck 133) := p1
    cases e : tgOf S1 v with
    | none => rw [e] at p2; exact p2.elim
    | some t =>
      rw [e] at p2
      obtain ⟨r, h1, h2⟩ := ofB_ok rs1 p2
      exact ⟨m1, S1, v, x, t, r, rfl, rv, rs1, e, h1, h2⟩⟩
/-- a built-in type -/
theorem tyB {T : String} {ans : Tg → Option Bool} {K : PySem.W.Frag} (h : ∀ t b, ans t = some b → (∃ n, tgV g t = .type n ∧ kitB n T = some b)) (ho : ∀ c, ans (.own c) = .none) : TyOk K g ans (.type T) :=
  ⟨fun t b e => by obtain ⟨n, h1, h2⟩ := h t b e; rw [h1]; exact kit_ty h2, fun c b e => by rw [ho c] at e; cases e⟩
theorem ty_int {K : PySem.W.Frag} : TyOk K g aInt (.type "int") := tyB (fun t b e => by cases t <;> cases e <;> exact ⟨_, rfl, by decide +kernel⟩) fun c => rfl
theorem ty_bool {K : PySem.W.Frag} : TyOk K g aBool (.type "bool") := tyB (fun t b e => by cases t <;> cases e <;> exact ⟨_, rfl, by decide +kernel⟩) fun c => rfl
theorem ty_str {K : PySem.W.Frag} : TyOk K g aStr (.type "str") := tyB (fun t b e => by cases t <;> cases e <;> exact ⟨_, rfl, by decide +kernel⟩) fun c => rfl
theorem ty_tup {K : PySem.W.Frag} : TyOk K g aTup (.type "tuple") := tyB (fun t b e => by cases t <;> cases e <;> exact ⟨_, rfl, by decide +kernel⟩) fun c => rfl
theorem ty_lst {K : PySem.W.Frag} : TyOk K g aLst (.type "list") := tyB (fun t b e => by cases t <;> cases e <;> exact ⟨_, rfl, by decide +kernel⟩) fun c => rfl
/-! ### instances -/
theorem fldGet_mem {f : Nat} {v : Val} : ∀ {fs : List (Nat × Val)}, fldGet f fs = some v → (f, v) ∈ fs
  | [], h => by cases h
  | (k, w) :: r, h => by
    rw [fldGet] at h
    cases e : Nat.beq f k with
    | true =>
      rw [e] at h; cases h
      rw [Nat.eq_of_beq_eq_true e]
      exact List.mem_cons_self
    | false => rw [e] at h; exact List.mem_cons_of_mem _ (fldGet_mem h)
theorem RF.none_of {fs : List (Nat × Val)} {hs : List (Str × V)} {mn : Str} (r : RF g m H fs hs) (h : ∀ p ∈ fs, g.nm p.1 ≠ mn) : hs.lookup mn = .none := by
  induction r with
  | nil => rfl
  | @cons p q fs hs pq r ih =>
    obtain ⟨qn, qv⟩ := q
    have e : qn = g.nm p.1 := pq.1
    subst e
    have ne : (mn == g.nm p.1) = false := by
      cases z : mn == g.nm p.1 with
      | false => rfl
      | true => exact absurd (eq_of_beq z).symm (h p List.mem_cons_self)
    rw [List.lookup, ne]
    exact ih fun z hz => h z (List.mem_cons_of_mem _ hz)
/-- what the text's names of fields and methods keep -/
structure Nms (g : Gx) : Prop where
  inj : ∀ i j, i < g.nf → j < g.nf → g.nm i = g.nm j → i = j
theorem m_attr {a : PySem.Expr} {ca : G.E} {f : Nat} {fl : Str} (hK : g.K = X.K) (N : Nms g) (hlt : f < g.nf) (hnm : g.nm f = fl) (ha : PE X a (tM g o W ca)) (hb : attributeBase a fl X.env (eval a X.env) = eval a X.env) : PE X (.Attribute a fl pos) (tM g o W (eAttr ca f)) := by
  refine ⟨fun pins s σ H Q I ⟨m, ρ, S, re, rs, pp⟩ => attr_of hb (thnE ha I re rs pp fun u s1 v S1 m1 H1 x I1 r1 rv1 rs1 re1 e1 p1 => ?_)⟩
  cases rv1 with
  | @ref n q hq =>
    have p2 : PostG g RV m1 H1 Q (atS W σ) (match S1.get n with | some (.ins c fs) => ofOpt (fldGet f fs) S1 9 | _ => .stuck 10) := by rw [show attrK f (.ref n) S1 = attrF f (.ref n) S1 from attrK_eq f _ S1] at p1; exact p1
    split at p2
    · rename_i c fs e0
      cases e : fldGet f fs with
      | none => rw [e] at p2; exact p2.elim
      | some w =>
        rw [e] at p2
        obtain ⟨q', hq', ⟨hc, hfs⟩, dx, hs, h1, h2⟩ := rs1.obj n _ e0
        rw [hq] at hq'; cases hq'
        obtain ⟨y, h3, h4⟩ := (RF.lookup N.inj hlt h2 fun z hz => (hfs z hz).lt).1 w e
        have no := (hfs _ (fldGet_mem e)).no
        have no' : NoAttr g.K (g.cl c) (g.nm f) := no
        rw [hnm] at h3 no'
        cases r1
        exact getattr_ok I1 h1 (hK ▸ hc) (hK ▸ no') h3 fun u' s2 I2 ru => ⟨y, H1, I2, ru, p2 m1 H1 y Ex.rfl' rs1 h4⟩
    · exact p2.elim
  | _ => exact p1.elim
/-- a method by its number: the classes that have it -/
structure MtOk (X : Cx) (g : Gx) (F : Ft) (nf : Nat) (mt : Nat → Nat → Option Nat) (mi : Nat) (mn : Str) : Prop where
  at_ : ∀ c f, mt c mi = some f → f < nf ∧ Meth X.K (g.cl c) mn (F.a f) ∧ Binds X.K (F.fd f) (F.ps f) []
  no : ∀ i, i < g.nf → g.nm i ≠ mn
theorem e_meth {t : Tb} {F : Ft} {nf n : Nat} (R : Rn X g o t F nf n W) {a : PySem.Expr} {ca : G.E} {es : List PySem.Expr} {e : PySem.Expr} {cs : G.EL} {mi : Nat} {mn : Str} {apos : Pos} {pl : Sem Bool} (M : MtOk X g F nf t.meth mi mn) (ha : PE X a (tM g o W ca)) (hl : PA X (e :: es) (tL g o W cs))
    (he : starEach (e :: es) X.env = (false, eval e X.env) :: starEach es X.env) (hpl : (backTo pos (starEach es X.env)).any (·.1) = false)
    (ht : eval (.Call (.Attribute a mn apos) (e :: es) [] pos) X.env = (do
      let ov ← eval a X.env
      standAt apos.atName
      let (f, first) ← holding [ov] (getMethod ov mn pl)
      callWith pos f first (backTo pos (starEach (e :: es) X.env)) (backToKw pos (keywordEach [] X.env)))) :
    PE X (.Call (.Attribute a mn apos) (e :: es) [] pos) (tM g o W (eMeth ca mi cs)) := by
  refine ⟨fun pins s σ H Q I ⟨m, ρ, S, re, rs, pp⟩ => PySem.W.methodCall_KW (pl := pl) (thnE ha I re rs pp fun u s1 v S1 m1 H1 x I1 r1 rv1 rs1 re1 e1 p1 => ?_) ht⟩
  cases rv1 with
  | @ref k q hq =>
    cases r1
    have p2 : PostG g RV m1 H1 Q (atS W σ) (match (match S1.get k with | some (.ins c _) => o.meth c mi | _ => .none) with | some f => (cs o ρ S1).bind fun vs S => o.call f (.ref k :: vs) S | .none => .stuck 15) := p1
    cases e0 : S1.get k with
    | none => rw [e0] at p2; exact p2.elim
    | some ob =>
      cases ob with
      | ins c fs =>
        rw [e0] at p2
        have p3 : PostG g RV m1 H1 Q (atS W σ) (match o.meth c mi with | some f => (cs o ρ S1).bind fun vs S => o.call f (.ref k :: vs) S | .none => .stuck 15) := p2
        cases e2 : o.meth c mi with
        | none => rw [e2] at p3; exact p3.elim
        | some f =>
          rw [e2] at p3
          obtain ⟨q', hq', ⟨hc, hfs⟩, dx, hs, h1, h2⟩ := rs1.obj k _ e0
          rw [hq] at hq'; cases hq'
          have em : t.meth c mi = some f := by rw [R.orc] at e2; exact e2
          obtain ⟨hf, hM, hB⟩ := M.at_ c f em
          have hc' : Cls X.K (g.cl c) := R.K ▸ hc
          refine getmeth_ok I1 h1 hc' hM (h2.none_of fun p hp => M.no _ (hfs p hp).lt) ?_
          refine PySem.W.callWith_K (first := [.ref q]) (h₀ := X.base) I1.ok.mod.kin hM.kp (thnL (pos := pos) hl I1 re1 rs1 p3 fun us s2 vs S2 m2 H2 xs I2 r2 rv2 rs2 re2 e3 p4 => ⟨I2.kIn, ?_⟩) he hpl
          rw [R.orc] at p4
          exact run_fnG (us := .ref q :: us) (vs := .ref q :: xs) (R.ok f hf) R.room.rm hB .nil R.takes I2 (.cons rfl r2) ⟨m2, .ref k :: vs, S2, by rw [List.append_nil]; exact .cons (RV.ref (e3.get hq)) rv2, rs2, p4⟩
      | _ => rw [e0] at p2; exact p2.elim
  | _ => exact p1.elim
theorem e_meth0 {t : Tb} {F : Ft} {nf n : Nat} (R : Rn X g o t F nf n W) {a : PySem.Expr} {ca : G.E} {mi : Nat} {mn : Str} {apos : Pos} {pl : Sem Bool} (M : MtOk X g F nf t.meth mi mn) (ha : PE X a (tM g o W ca))
    (ht : eval (.Call (.Attribute a mn apos) [] [] pos) X.env = (do
      let ov ← eval a X.env
      standAt apos.atName
      let (f, first) ← holding [ov] (getMethod ov mn pl)
      callWith pos f first (backTo pos (starEach [] X.env)) (backToKw pos (keywordEach [] X.env)))) :
    PE X (.Call (.Attribute a mn apos) [] [] pos) (tM g o W (eMeth ca mi elNil)) := by
  refine ⟨fun pins s σ H Q I ⟨m, ρ, S, re, rs, pp⟩ => PySem.W.methodCall_KW (pl := pl) (thnE ha I re rs pp fun u s1 v S1 m1 H1 x I1 r1 rv1 rs1 re1 e1 p1 => ?_) ht⟩
  cases rv1 with
  | @ref k q hq =>
    cases r1
    have p2 : PostG g RV m1 H1 Q (atS W σ) (match (match S1.get k with | some (.ins c _) => o.meth c mi | _ => .none) with | some f => o.call f [.ref k] S1 | .none => .stuck 15) := p1
    cases e0 : S1.get k with
    | none => rw [e0] at p2; exact p2.elim
    | some ob =>
      cases ob with
      | ins c fs =>
        rw [e0] at p2
        have p3 : PostG g RV m1 H1 Q (atS W σ) (match o.meth c mi with | some f => o.call f [.ref k] S1 | .none => .stuck 15) := p2
        cases e2 : o.meth c mi with
        | none => rw [e2] at p3; exact p3.elim
        | some f =>
          rw [e2] at p3
          obtain ⟨q', hq', ⟨hc, hfs⟩, dx, hs, h1, h2⟩ := rs1.obj k _ e0
          rw [hq] at hq'; cases hq'
          have em : t.meth c mi = some f := by rw [R.orc] at e2; exact e2
          obtain ⟨hf, hM, hB⟩ := M.at_ c f em
          have hc' : Cls X.K (g.cl c) := R.K ▸ hc
          refine getmeth_ok I1 h1 hc' hM (h2.none_of fun p hp => M.no _ (hfs p hp).lt) ?_
          have p4 : PostG g RV m1 H1 Q (atS W σ) (o.call f [.ref k] S1) := p3
          rw [R.orc] at p4
          exact PySem.W.callWith_K0 (first := [.ref q]) I1.kIn hM.kp (run_fnG (us := [.ref q]) (vs := [.ref q]) (R.ok f hf) R.room.rm hB .nil R.takes I1 (.cons rfl .nil) ⟨m1, [.ref k], S1, .cons (RV.ref hq) .nil, rs1, p4⟩)
      | _ => rw [e0] at p2; exact p2.elim
  | _ => exact p1.elim
end
end G
set_option Elab.async false
set_option linter.all false
set_option maxRecDepth 100000
namespace G
open PySem PySem.Spec L2
open PyProof.Rows hiding St
section
variable {X : Cx} {g : Gx} {o : Orc} {W : WX} {t : Tb} {F : Ft} {nf n : Nat} {pins : List (Addr × PySem.Obj)} {s : Shared} {σ : St} {ρ : G.Env} {m : Mp} {H : Hp} {S : Store} {pos p p2 : Pos} {x y : Str} {es : List PySem.Expr} {e : PySem.Expr} {cs : G.EL}
/-! ### a new instance -/
theorem new_run (R : Rn X g o t F nf n W) {c f : Nat} (hf : f < nf) (hcl : Cls X.K (g.cl c)) (M : Mk X.K (g.cl c) (F.a f)) (hb : Binds X.K (F.fd f) (F.ps f) []) {us : List Value} {xs : List V} {vs : List Val} {Q : VK} (I : Inv X pins σ H s) (r : Vals xs us) (rv : RVs m H vs xs) (rs : RS g m S H)
    (pp : PostG g RV m H Q (atS W σ) (match Nat.blt S.nx big with | true => (o.call f (.ref S.nx :: vs) (S.new (.ins c []))).bind (fun v S' => match v with | .none => .ok (.ref S.nx) S' | _ => .stuck 8) | false => .stuck 8)) :
    wpAny (model X.prog X.w) X.A (call (.ref (g.cl c)) us) (EP X pins σ Q) X.xe s := by
  cases eb : Nat.blt S.nx big with
  | false => rw [eb] at pp; exact pp.elim
  | true =>
    rw [eb] at pp
    have hlim : S.nx < big := by simpa [Nat.blt_eq] using eb
    have fx : H (s.heap.objs.size + 1) = .none := I.hok.fresh (Nat.le_succ _)
    have fd : H s.heap.objs.size = .none := I.hok.fresh (Nat.le_refl _)
    have ne : s.heap.objs.size ≠ s.heap.objs.size + 1 := Nat.ne_of_lt (Nat.lt_succ_self _)
    have I2 := Inv.made (C := g.cl c) I
    -- the dict's place, then the instance
    have x1 : Ex m H m (upd H s.heap.objs.size (.own (s.heap.objs.size + 1))) := Ex.upd fd
    have rs1 : RS g m S (upd H s.heap.objs.size (.own (s.heap.objs.size + 1))) := rs.upd fd
    have fx1 : upd H s.heap.objs.size (.own (s.heap.objs.size + 1)) (s.heap.objs.size + 1) = .none := by rw [upd_ne (Ne.symm ne)]; exact fx
    have x2 := Ex.add (m := m) (u := HO.ins (g.cl c) s.heap.objs.size []) fx1
    have hro : RO g (m.add (s.heap.objs.size + 1)) (upd (upd H s.heap.objs.size (.own (s.heap.objs.size + 1))) (s.heap.objs.size + 1) (.ins (g.cl c) s.heap.objs.size [])) (s.heap.objs.size + 1) (.ins c []) :=
      ⟨⟨R.K ▸ hcl, fun p hp => nomatch hp⟩, s.heap.objs.size, [], upd_same, .nil⟩
    have rs2 := rs1.new fx1 hlim hro
    have at_ : (m.add (s.heap.objs.size + 1)).l[S.nx]? = some (s.heap.objs.size + 1) := by
      have h3 : (m.add (s.heap.objs.size + 1)).l = m.l ++ [s.heap.objs.size + 1] := rfl
      rw [h3, ← rs.len]; simp
    have xx := x1.trans x2
    rw [R.orc] at pp
    have p1 := PostG.base xx pp
    have wish : spG g t n f (.ref (s.heap.objs.size + 1) :: xs) (upd (upd H s.heap.objs.size (.own (s.heap.objs.size + 1))) (s.heap.objs.size + 1) (.ins (g.cl c) s.heap.objs.size [])) (fun v H2 => v = .non ∧ Q (.ref (s.heap.objs.size + 1)) H2) (fun c d H => W c d σ H) := by
      refine ⟨m.add (s.heap.objs.size + 1), .ref S.nx :: vs, S.new (.ins c []), .cons (RV.ref at_) (rv.mono xx), rs2, ?_⟩
      have p2 : PostG g RV (m.add (s.heap.objs.size + 1)) (upd (upd H s.heap.objs.size (.own (s.heap.objs.size + 1))) (s.heap.objs.size + 1) (.ins (g.cl c) s.heap.objs.size [])) Q (atS W σ) ((callN t n f (.ref S.nx :: vs) (S.new (.ins c []))).bind fun v S' => match v with | .none => .ok (.ref S.nx) S' | _ => .stuck 8) := p1
      revert p2
      cases callN t n f (.ref S.nx :: vs) (S.new (.ins c [])) with
      | ok v S' =>
        intro p2 m' H' y e3 rs3 r3
        cases r3 with
        | none => exact ⟨rfl, p2 m' H' _ e3 rs3 (RV.ref (e3.get at_))⟩
        | _ => exact p2.elim
      | exc c' fs S' => exact fun p2 => p2
      | stuck w => exact fun p2 => p2
    have Fr := R.ok f hf
    have rr : Vals (V.ref (s.heap.objs.size + 1) :: xs) (Value.ref (s.heap.objs.size + 1) :: us) := .cons rfl r
    have hl : (Value.ref (s.heap.objs.size + 1) :: us).length = (F.ps f).length := by rw [← rr.length]; exact Fr.len _ _ _ _ wish
    have bd := hb _ (Value.ref (s.heap.objs.size + 1) :: us) I2.kIn (by rw [List.append_nil]; exact hl)
    rw [List.append_nil] at bd
    refine wpAny_call (make_map (f := F.a f) I.kIn M.makes M.init (beq_iff_eq.mp M.fn) (codeAny_mono (Fr.run _ X.stack _ _ ⟨Value.ref (s.heap.objs.size + 1) :: us, []⟩ _ _ _ _ (R.room.make (g.cl c) us []) (I2.env0.make (g.cl c) us []) bd rr wish) fun ans s' h => ?_))
    match ans, h with
    | .error e, h => exact passAt R.takes σ pins _ _ e s' I2 h
    | .ok (.ret u), h =>
      obtain ⟨v, H', I3, rv3, ev, q3⟩ := I2.after h
      subst ev
      exact ⟨rv3, ⟨V.ref (s.heap.objs.size + 1), H', I3, rfl, q3⟩⟩
theorem e_new (R : Rn X g o t F nf n W) {c f : Nat} (hf : f < nf) (hcl : Cls X.K (g.cl c)) (M : Mk X.K (g.cl c) (F.a f)) (hb : Binds X.K (F.fd f) (F.ps f) []) (hg : Gl X x) (hm : X.mg x = some (.ref (g.cl c))) (ha : PA X (e :: es) (tL g o W cs))
    (hdb : (x == ("__debug__" : Str)) = false) (he : starEach (e :: es) X.env = (false, eval e X.env) :: starEach es X.env) (hpl : (backTo pos (starEach es X.env)).any (·.1) = false) : PE X (.Call (.Name x p) (e :: es) [] pos) (tM g o W (eNew c f cs)) := by
  refine ⟨fun pins s σ H Q I ⟨m, ρ, S, re, rs, pp⟩ => wpAny_Call_Name_kw (ld_glob I hg hm ?_ hdb)⟩
  refine PySem.W.callWith_K (h₀ := X.base) I.ok.mod.kin M.kp (thnL (pos := pos) ha I re rs pp fun us s1 vs S1 m1 H1 xs I1 r1 rv1 rs1 re1 e1 p1 => ⟨I1.kIn, ?_⟩) he hpl
  exact new_run R hf hcl M hb I1 r1 rv1 rs1 p1
end
end G
set_option Elab.async false
set_option linter.all false
set_option maxRecDepth 100000
namespace G
open PySem PySem.Spec L2
open PyProof.Rows hiding St
/-! ### keys that are tuples -/
section
variable {X : Cx} {g : Gx} {pins : List (Addr × PySem.Obj)} {s : Shared} {σ : St} {m : Mp} {H : Hp} {S : Store}
mutual
theorem nested_of (I : Inv X pins σ H s) : ∀ {v : Val} {x : V} {u : Value} {k : NestedKey}, RV m H v x → RelV x u → kOf v = some k → NestedIs s.heap k u
  | _, _, u, k, .none, ru, h => by
    rw [kOf] at h; cases h
    cases (show u = Value.none from ru); exact .none
  | _, _, u, k, .int i, ru, h => by
    rw [kOf] at h; cases h
    obtain ⟨t, rfl⟩ := ru; exact .int i t
  | _, _, u, k, .str (s := l) hl, ru, h => by
    rw [kOf] at h; cases h
    obtain ⟨t, rfl⟩ := ru; exact .text _ t
  | _, _, u, k, .tup (a := a) (vs := vs) (xs := xs) ht r, ru, h => by
    rw [kOf] at h
    cases e : kOfs vs with
    | none => rw [e] at h; cases h
    | some ks =>
      rw [e] at h; cases h
      cases ru
      obtain ⟨its, rv, ⟨o, e1, e2, n, e3⟩, _⟩ := I.tuple (SqT.of ht)
      exact .tup e1 e2 e3 (by simpa using nesteds_of I r rv e)
  | _, _, u, k, .bool b, ru, h => by rw [kOf] at h; cases h
  | _, _, u, k, .ref _, ru, h => by rw [kOf] at h; cases h
  | _, _, u, k, .scr _, ru, h => by rw [kOf] at h; cases h
theorem nesteds_of (I : Inv X pins σ H s) : ∀ {vs : List Val} {xs : List V} {us : List Value} {ks : List NestedKey}, RVs m H vs xs → Vals xs us → kOfs vs = some ks → NestedAll s.heap ks us
  | _, _, _, ks, .nil, .nil, h => by rw [kOfs] at h; cases h; exact .nil
  | _, _, _, ks, .cons (v := v) (vs := vs) r rr, .cons u uu, h => by
    rw [kOfs] at h
    cases e1 : kOf v with
    | none => rw [e1] at h; cases h
    | some k =>
      cases e2 : kOfs vs with
      | none => rw [e1, e2] at h; cases h
      | some ks' =>
        rw [e1, e2] at h; cases h
        exact .cons (nested_of I r u e1) (nesteds_of I rr uu e2)
end
theorem keyIn_ok : ∀ (n : Nat) (v : Val), keyIn n v = true → ∃ k, kOf v = some k ∧ k.depth ≤ n
  | 0, _, h => nomatch h
  | n + 1, .none, _ => ⟨.none, by rw [kOf], by rw [NestedKey.depth]; exact Nat.zero_le _⟩
  | n + 1, .int i, _ => ⟨.num i, by rw [kOf], by rw [NestedKey.depth]; exact Nat.zero_le _⟩
  | n + 1, .str l, _ => ⟨.text _, by rw [kOf], by rw [NestedKey.depth]; exact Nat.zero_le _⟩
  | n + 1, .tup a, h => by
    have h' : a.all (keyIn n) = true := h
    have all : ∀ a : List Val, a.all (keyIn n) = true → ∃ ks, kOfs a = some ks ∧ NestedKey.depthAll ks ≤ n := by
      intro a
      induction a with
      | nil => intro _; exact ⟨[], by rw [kOfs], by rw [NestedKey.depthAll]; exact Nat.zero_le _⟩
      | cons v a ih =>
        intro h
        obtain ⟨h1, h2⟩ := Bool.and_eq_true_iff.mp h
        obtain ⟨k, e1, d1⟩ := keyIn_ok n v h1
        obtain ⟨ks, e2, d2⟩ := ih h2
        exact ⟨k :: ks, by rw [kOfs, e1, e2], by rw [NestedKey.depthAll]; exact Nat.max_le.mpr ⟨d1, d2⟩⟩
    obtain ⟨ks, e, d⟩ := all a h'
    exact ⟨.tup ks, by rw [kOf, e]; rfl, by rw [NestedKey.depth]; omega⟩
  | n + 1, .bool b, h => nomatch h
  | n + 1, .ref b, h => nomatch h
  | n + 1, .scr b, h => nomatch h
  | n + 1, .err, h => nomatch h
/-- == of such keys -/
theorem eqF_key : ∀ (n : Nat) (v w : Val) (a b : NestedKey), kOf v = some a → kOf w = some b → a.depth < n → eqF nilS n v w = some (NestedKey.beq a b)
  | 0, _, _, _, _, _, _, h => absurd h (Nat.not_lt_zero _)
  | n + 1, v, w, a, b, ha, hb, hd => by
    have all : ∀ (vs ws : List Val) (ks ls : List NestedKey), kOfs vs = some ks → kOfs ws = some ls → NestedKey.depthAll ks < n → eqL (eqF nilS n) vs ws = some (NestedKey.beqAll ks ls) := by
      intro vs
      induction vs with
      | nil =>
        intro ws ks ls h1 h2 _
        rw [kOfs] at h1; cases h1
        cases ws with
        | nil => rw [kOfs] at h2; cases h2; rw [NestedKey.beqAll]; rfl
        | cons w ws =>
          rw [kOfs] at h2
          cases e1 : kOf w with
          | none => rw [e1] at h2; cases h2
          | some k =>
            cases e2 : kOfs ws with
            | none => rw [e1, e2] at h2; cases h2
            | some ks => rw [e1, e2] at h2; cases h2; rw [NestedKey.beqAll]; rfl; all_goals (intros; intro z; cases z)
      | cons v vs ih =>
        intro ws ks ls h1 h2 hd
        rw [kOfs] at h1
        cases e1 : kOf v with
        | none => rw [e1] at h1; cases h1
        | some k =>
          cases e2 : kOfs vs with
          | none => rw [e1, e2] at h1; cases h1
          | some ks' =>
            rw [e1, e2] at h1; cases h1
            rw [NestedKey.depthAll] at hd
            cases ws with
            | nil => rw [kOfs] at h2; cases h2; rw [NestedKey.beqAll]; rfl; all_goals (intros; intro z; cases z)
            | cons w ws =>
              rw [kOfs] at h2
              cases e3 : kOf w with
              | none => rw [e3] at h2; cases h2
              | some k2 =>
                cases e4 : kOfs ws with
                | none => rw [e3, e4] at h2; cases h2
                | some ls' =>
                  rw [e3, e4] at h2; cases h2
                  rw [eqL, eqF_key n v w k k2 e1 e3 (by omega), NestedKey.beqAll]
                  show (match some (NestedKey.beq k k2) with | some true => eqL (eqF nilS n) vs ws | some false => some false | .none => .none) = _
                  cases NestedKey.beq k k2 with
                  | true => exact ih ws ks' ls' e2 e4 (by omega)
                  | false => rfl
    cases v with
    | none =>
      rw [kOf] at ha; cases ha
      cases w <;> rw [kOf] at hb
      case none => cases hb; rw [NestedKey.beq]; rfl
      case int => cases hb; rfl
      case str => cases hb; rfl
      case tup ws =>
        cases e : kOfs ws with
        | none => rw [e] at hb; cases hb
        | some ls => rw [e] at hb; cases hb; rfl
      all_goals cases hb
    | int i =>
      rw [kOf] at ha; cases ha
      cases w <;> rw [kOf] at hb
      case none => cases hb; rfl
      case int j => cases hb; rw [NestedKey.beq]; show some (intEq i j) = _; rw [intEq_eq]
      case str => cases hb; rfl
      case tup ws =>
        cases e : kOfs ws with
        | none => rw [e] at hb; cases hb
        | some ls => rw [e] at hb; cases hb; rfl
      all_goals cases hb
    | str l =>
      rw [kOf] at ha; cases ha
      cases w <;> rw [kOf] at hb
      case none => cases hb; rfl
      case int j => cases hb; rfl
      case str k =>
        cases hb; rw [NestedKey.beq]
        show some (strEq l k) = _
        rw [strEq_eq]
        congr 1
        exact decide_eq_decide.mpr ⟨fun h => by rw [h], fun h => by simpa using h⟩
      case tup ws =>
        cases e : kOfs ws with
        | none => rw [e] at hb; cases hb
        | some ls => rw [e] at hb; cases hb; rfl
      all_goals cases hb
    | tup vs =>
      rw [kOf] at ha
      cases e : kOfs vs with
      | none => rw [e] at ha; cases ha
      | some ks =>
        rw [e] at ha; cases ha
        cases w <;> rw [kOf] at hb
        case none => cases hb; rfl
        case int j => cases hb; rfl
        case str k => cases hb; rfl
        case tup ws =>
          cases e2 : kOfs ws with
          | none => rw [e2] at hb; cases hb
          | some ls =>
            rw [e2] at hb; cases hb
            have hd' : NestedKey.depthAll ks + 1 < n + 1 := by
              have h3 : (NestedKey.tup ks).depth = NestedKey.depthAll ks + 1 := by rw [NestedKey.depth]
              rw [← h3]; exact hd
            rw [NestedKey.beq]
            exact all vs ws ks ls e e2 (by omega)
        all_goals cases hb
    | bool b => rw [kOf] at ha; cases ha
    | ref b => rw [kOf] at ha; cases ha
    | scr b => rw [kOf] at ha; cases ha
    | err => rw [kOf] at ha; cases ha
theorem eqK_key {v w : Val} {a b : NestedKey} (ha : kOf v = some a) (hb : kOf w = some b) (hd : a.depth ≤ 8) : eqK v w = decide (a = b) := by
  rw [eqK_eq]
  unfold eqKo
  rw [eqF_key 10 v w a b ha hb (by omega), NestedKey.decide_eq]
end
end G
set_option Elab.async false
set_option linter.all false
set_option maxRecDepth 100000
namespace G
open PySem PySem.Spec L2
open PyProof.Rows hiding St
section
variable {X : Cx} {g : Gx} {o : Orc} {W : WX} {pins : List (Addr × PySem.Obj)} {s : Shared} {σ : St} {ρ : G.Env} {m : Mp} {H : Hp} {S : Store}
/-! ### dicts whose keys are tuples -/
def KP (m : Mp) (H : Hp) (kv : Val × Val) (x : NestedKey × Addr × Value) : Prop := kOf kv.1 = some x.1 ∧ isT kv.1 = true ∧ x.1.depth ≤ 8 ∧ RV m H kv.1 (.ref x.2.1) ∧ RU m H kv.2 x.2.2
theorem atKey_cons_eq {x : NestedKey × Addr × Value} {xs : List (NestedKey × Addr × Value)} {k : NestedKey} (h : x.1 = k) : atKey (x :: xs) k = some x.2 := by simp [atKey, h]
theorem atKey_cons_ne {x : NestedKey × Addr × Value} {xs : List (NestedKey × Addr × Value)} {k : NestedKey} (h : x.1 ≠ k) : atKey (x :: xs) k = atKey xs k := by simp [atKey, h]
theorem look_key {k : Val} {kk : NestedKey} (hk : kOf k = some kk) : ∀ {kvs : List (Val × Val)} {xs : List (NestedKey × Addr × Value)}, Paired (KP m H) kvs xs →
    (look k kvs = .none ∧ atKey xs kk = .none) ∨ ∃ v p, look k kvs = some v ∧ atKey xs kk = some p ∧ RU m H v p.2 := by
  intro kvs xs r
  induction r with
  | nil => exact .inl ⟨rfl, rfl⟩
  | @cons kv x kvs xs q r ih =>
    obtain ⟨a, v⟩ := kv
    obtain ⟨h1, h2, h3, h4, h5⟩ := q
    have e : eqK a k = decide (x.1 = kk) := eqK_key h1 hk h3
    by_cases c : x.1 = kk
    · refine .inr ⟨v, x.2, ?_, atKey_cons_eq c, h5⟩
      rw [look_cons, e, decide_eq_true c]
    · rw [look_cons, e, decide_eq_false c, atKey_cons_ne c]
      exact ih
theorem storedH_eq {x : NestedKey × Addr × Value} {xs : List (NestedKey × Addr × Value)} {k : NestedKey} {a : Addr} {u : Value} (h : x.1 = k) (nd : ((x :: xs).map (·.1)).Nodup) : storedH (x :: xs) k a u = (x.1, x.2.1, u) :: xs := by
  rw [storedH_old (atKey_cons_eq h), List.map_cons]
  have h1 : putAt k u x = (x.1, x.2.1, u) := by simp [putAt, h]
  have h2 : xs.map (putAt k u) = xs := by
    rw [List.map_cons, List.nodup_cons] at nd
    have : ∀ y ∈ xs, putAt k u y = y := fun y hy => by
      have ne : y.1 ≠ k := fun z => nd.1 (by rw [h, ← z]; exact List.mem_map_of_mem hy)
      simp [putAt, ne]
    exact (List.map_congr_left this).trans (List.map_id _)
  rw [h1, h2]
theorem storedH_ne {x : NestedKey × Addr × Value} {xs : List (NestedKey × Addr × Value)} {k : NestedKey} {a : Addr} {u : Value} (h : x.1 ≠ k) : storedH (x :: xs) k a u = x :: storedH xs k a u := by
  cases e : atKey xs k with
  | none => rw [storedH_new (by rw [atKey_cons_ne h]; exact e), storedH_new e]; rfl
  | some p =>
    rw [storedH_old (p := p) (by rw [atKey_cons_ne h]; exact e), storedH_old e, List.map_cons]
    congr 1
    simp [putAt, h]
theorem dput_key {k v : Val} {kk : NestedKey} {a : Addr} {u : Value} (hk : KP m H (k, v) (kk, a, u)) : ∀ {kvs : List (Val × Val)} {xs : List (NestedKey × Addr × Value)}, Paired (KP m H) kvs xs → (xs.map (·.1)).Nodup → Paired (KP m H) (dput k v kvs) (storedH xs kk a u) := by
  intro kvs xs r
  induction r with
  | nil => intro _; exact .cons hk .nil
  | @cons kv x kvs xs q r ih =>
    intro nd
    obtain ⟨b, w⟩ := kv
    obtain ⟨h1, h2, h3, h4, h5⟩ := q
    have e : eqK b k = decide (x.1 = kk) := eqK_key h1 hk.1 h3
    by_cases c : x.1 = kk
    · rw [storedH_eq c nd, dput_cons, e, decide_eq_true c]
      exact .cons ⟨h1, h2, h3, h4, hk.2.2.2.2⟩ r
    · rw [storedH_ne c, dput_cons, e, decide_eq_false c]
      rw [List.map_cons, List.nodup_cons] at nd
      exact .cons ⟨h1, h2, h3, h4, h5⟩ (ih nd.2)
theorem dO_at {a : Addr} {es : Array DictEntry} (I : Inv X pins σ H s) (h : H a = some (dO a es)) : (a == sysModules) = false ∧ ∃ ob ep, s.heap.get? a = some ob ∧ ob.ExactDict ∧ ob.data = .dict es ep := by
  obtain ⟨q, _⟩ := (show ObjOk X.prog X.w H s.heap a (dO a es) from I.hok a _ h)
  exact q
theorem dO_ok {P : Program} {w : World} {h : Heap} {a : Addr} {es : Array DictEntry} {ob : PySem.Obj} {ep : Nat} (hs : (a == sysModules) = false) (h1 : h.get? a = some ob) (h2 : ob.ExactDict) (h3 : ob.data = .dict es ep) : ObjOk P w H h a (dO a es) :=
  ⟨⟨hs, ob, ep, h1, h2, h3⟩, ⟨ob, h1⟩, fun h1 h2 ⟨k1, ob, ep, k2, k3, k4⟩ hk => ⟨k1, ob, ep, hk _ k2, k3, k4⟩⟩
theorem key_is (I : Inv X pins σ H s) {kv : Val × Val} {x : NestedKey × Addr × Value} (q : KP m H kv x) : (nestedKind X.prog X.w).is s.heap x.1 x.2.1 := ⟨nested_of I q.2.2.2.1 rfl q.1, q.2.2.1⟩
theorem paired_mem {α β : Type} {R : α → β → Prop} : ∀ {l : List α} {k : List β}, Paired R l k → ∀ b ∈ k, ∃ a, R a b
  | _, _, .nil, b, h => nomatch h
  | _, _, .cons q r, b, h => (List.mem_cons.mp h).elim (fun e => ⟨_, e ▸ q⟩) (paired_mem r b)
theorem dictOf (I : Inv X pins σ H s) {a : Addr} {es : Array DictEntry} {kvs : List (Val × Val)} {xs : List (NestedKey × Addr × Value)} (h : H a = some (dO a es)) (he : es.toList = xs.map (entryOfKey (nestedKind X.prog X.w))) (hn : (xs.map (·.1)).Nodup) (hr : Paired (KP m H) kvs xs) :
    s.heap.DictOfH (nestedKind X.prog X.w) a xs := by
  obtain ⟨_, ob, ep, h1, h2, h3⟩ := dO_at I h
  exact ⟨ob, es, ep, h1, h2, h3, he, fun x hx => let ⟨kv, q⟩ := paired_mem hr x hx; key_is I q, hn⟩
/-- what the store's dict is, for a tuple key that may be asked -/
theorem dct_tup (hP : g.P = X.prog) (hw : g.w = X.w) {n : Nat} {a : Addr} {kvs : List (Val × Val)} {k : Val} (rs : RS g m S H) (hm : m.l[n]? = some a) (e : S.get n = some (.dct kvs)) (ht : isT k = true) (hf : keyFor k kvs = true) :
    ∃ es xs kk, H a = some (dO a es) ∧ es.toList = xs.map (entryOfKey (nestedKind X.prog X.w)) ∧ (xs.map (·.1)).Nodup ∧ Paired (KP m H) kvs xs ∧ kOf k = some kk ∧ kk.depth ≤ 8 ∧ kvs.length ≤ sizeLine := by
  obtain ⟨q, hq, hz, es, h1, h2⟩ := rs.obj n _ e
  rw [hm] at hq; cases hq
  have hf' : (keyIn 8 k && hdK isT kvs) = true := by
    unfold keyFor at hf; rw [ht] at hf; exact hf
  obtain ⟨f1, f2⟩ := Bool.and_eq_true_iff.mp hf'
  obtain ⟨kk, k1, k2⟩ := keyIn_ok 8 k f1
  cases h2 with
  | tup xs he hn hr => exact ⟨es, xs, kk, h1, by rw [← hP, ← hw]; exact he, hn, hr, k1, k2, hz⟩
  | flat xs hk he hn hr =>
    cases hr with
    | nil =>
      refine ⟨es, [], kk, h1, ?_, List.nodup_nil, .nil, k1, k2, hz⟩
      cases es' : es.toList with
      | nil => rfl
      | cons b r => rw [es'] at he; cases he
    | @cons kv x kvs xs q r =>
      obtain ⟨b, w⟩ := kv
      have hb : isT b = true := f2
      cases b with
      | tup vs => exact nomatch (show (Option.none : Option Key) = some x.1 from q.1)
      | _ => cases hb
end
end G
set_option Elab.async false
set_option linter.all false
set_option maxRecDepth 100000
namespace G
open PySem PySem.Spec L2
open PyProof.Rows hiding St
section
variable {X : Cx} {g : Gx} {o : Orc} {W : WX} {pins : List (Addr × PySem.Obj)} {s : Shared} {σ : St} {ρ : G.Env} {m : Mp} {H : Hp} {S : Store}
/-! ### dicts whose keys are ints and texts -/
def KF (m : Mp) (H : Hp) (kv : Val × Val) (x : Key × Value) : Prop := kAt kv.1 = some x.1 ∧ RV m H kv.1 (kV x.1) ∧ RU m H kv.2 x.2
theorem eqK_at {v w : Val} {a b : Key} (ha : kAt v = some a) (hb : kAt w = some b) : eqK v w = decide (a = b) := by
  rw [eqK_eq]
  have e1 : ∀ x y : List Nat, (⟨x.toArray⟩ : Str) = ⟨y.toArray⟩ ↔ x = y := fun x y => ⟨fun h => by simpa using h, fun h => by rw [h]⟩
  cases v with
  | int i =>
    cases (show some (Sum.inl i) = some a from ha)
    cases w with
    | int j =>
      cases (show some (Sum.inl j) = some b from hb)
      show intEq i j = _
      rw [intEq_eq]
      exact decide_eq_decide.mpr ⟨fun h => by rw [h], fun h => Sum.inl.inj h⟩
    | str l =>
      cases (show some (Sum.inr ⟨l.toArray⟩) = some b from hb)
      exact (decide_eq_false (fun h => nomatch h)).symm
    | _ => exact nomatch (show (Option.none : Option Key) = some b from hb)
  | str l =>
    cases (show some (Sum.inr ⟨l.toArray⟩) = some a from ha)
    cases w with
    | int j =>
      cases (show some (Sum.inl j) = some b from hb)
      exact (decide_eq_false (fun h => nomatch h)).symm
    | str k =>
      cases (show some (Sum.inr ⟨k.toArray⟩) = some b from hb)
      show strEq l k = _
      rw [strEq_eq]
      exact decide_eq_decide.mpr ⟨fun h => by rw [h], fun h => (e1 l k).mp (Sum.inr.inj h)⟩
    | _ => exact nomatch (show (Option.none : Option Key) = some b from hb)
  | _ => exact nomatch (show (Option.none : Option Key) = some a from ha)
theorem valueAt_cons_eq {x : Key × Value} {xs : List (Key × Value)} {k : Key} (h : x.1 = k) : valueAt (x :: xs) k = some x.2 := by simp [valueAt, h]
theorem valueAt_cons_ne {x : Key × Value} {xs : List (Key × Value)} {k : Key} (h : x.1 ≠ k) : valueAt (x :: xs) k = valueAt xs k := by simp [valueAt, h]
theorem look_at {k : Val} {kk : Key} (hk : kAt k = some kk) : ∀ {kvs : List (Val × Val)} {xs : List (Key × Value)}, Paired (KF m H) kvs xs →
    (look k kvs = .none ∧ valueAt xs kk = .none) ∨ ∃ v p, look k kvs = some v ∧ valueAt xs kk = some p ∧ RU m H v p := by
  intro kvs xs r
  induction r with
  | nil => exact .inl ⟨rfl, rfl⟩
  | @cons kv x kvs xs q r ih =>
    obtain ⟨a, v⟩ := kv
    obtain ⟨h1, h4, h5⟩ := q
    have e : eqK a k = decide (x.1 = kk) := eqK_at h1 hk
    by_cases c : x.1 = kk
    · refine .inr ⟨v, x.2, ?_, valueAt_cons_eq c, h5⟩
      rw [look_cons, e, decide_eq_true c]
    · rw [look_cons, e, decide_eq_false c, valueAt_cons_ne c]
      exact ih
theorem dct_flat (hP : g.P = X.prog) (hw : g.w = X.w) {n : Nat} {a : Addr} {kvs : List (Val × Val)} {k : Val} (rs : RS g m S H) (hm : m.l[n]? = some a) (e : S.get n = some (.dct kvs)) (ht : isT k = false) (hf : keyFor k kvs = true) :
    ∃ es xs kk, H a = some (dO a es) ∧ PySem.KeysOf (mixKind X.prog X.w) es ∧ Pairs (mixKind X.prog X.w) es.toList xs ∧ (xs.map (·.1)).Nodup ∧ Paired (KF m H) kvs xs ∧ kAt k = some kk ∧ kvs.length ≤ sizeLine := by
  obtain ⟨q, hq, hz, es, h1, h2⟩ := rs.obj n _ e
  rw [hm] at hq; cases hq
  have hf' : (isA k && hdK isA kvs) = true := by
    unfold keyFor at hf; rw [ht] at hf; exact hf
  obtain ⟨f1, f2⟩ := Bool.and_eq_true_iff.mp hf'
  have hk : ∃ kk, kAt k = some kk := by cases k <;> first | exact ⟨_, rfl⟩ | cases f1
  obtain ⟨kk, hk⟩ := hk
  cases h2 with
  | flat xs ho he hn hr => exact ⟨es, xs, kk, h1, by rw [← hP, ← hw]; exact ho, by rw [← hP, ← hw]; exact he, hn, hr, hk, hz⟩
  | tup xs he hn hr =>
    cases hr with
    | nil =>
      have e0 : es.toList = [] := he
      have e1 : es = #[] := by simpa using e0
      subst e1
      exact ⟨#[], [], kk, h1, fun e h => by simp at h, by exact .nil, List.nodup_nil, .nil, hk, hz⟩
    | @cons kv x kvs xs q r =>
      obtain ⟨b, w⟩ := kv
      have hb : isA b = true := f2
      have hb2 : isT b = true := q.2.1
      cases b <;> first | (cases hb; done) | (cases hb2; done)
/-- what a dict answers for a key -/
structure Ask (X : Cx) (s : Shared) (a : Addr) (u : Value) (r : Option Value) : Prop where
  in_ : ∀ (Q : Value → Shared → Prop), (∀ tk, Q (.bool r.isSome) { s with toks := tk }) → wpAny (model X.prog X.w) X.A (compareOp .In u (.ref a)) Q X.xe s
  notIn : ∀ (Q : Value → Shared → Prop), (∀ tk, Q (.bool (!r.isSome)) { s with toks := tk }) → wpAny (model X.prog X.w) X.A (compareOp .NotIn u (.ref a)) Q X.xe s
  item : ∀ (w : Value) (Q : Value → Shared → Prop), r = some w → (∀ tk, Q w { s with toks := tk }) → wpAny (model X.prog X.w) X.A (getItem (.ref a) u) Q X.xe s
  get1 : ∀ (Q : Value → Shared → Prop), (∀ tk, Q (r.getD .none) { s with toks := tk }) → wpAny (model X.prog X.w) X.A (call (.builtin "dict.get") [.ref a, u]) Q X.xe s
  get2 : ∀ (d : Value) (Q : Value → Shared → Prop), (∀ tk, Q (r.getD d) { s with toks := tk }) → wpAny (model X.prog X.w) X.A (call (.builtin "dict.get") [.ref a, u, d]) Q X.xe s
theorem kAt_is {P : Program} {w : World} {k : Val} {kk : Key} {y : V} {u : Value} (rv : RV m H k y) (ru : RelV y u) (hk : kAt k = some kk) : (mixKind P w).is kk u = true := by
  cases rv with
  | int i => cases (show some (Sum.inl i) = some kk from hk); obtain ⟨t, rfl⟩ := ru; exact mixKind_int P w i t
  | @str l hl => cases (show some (Sum.inr ⟨l.toArray⟩) = some kk from hk); obtain ⟨t, rfl⟩ := ru; exact mixKind_str P w _ t
  | _ => exact nomatch (show (Option.none : Option Key) = some kk from hk)
theorem dct_ask (hP : g.P = X.prog) (hw : g.w = X.w) (hu : X.A.units + 64 < cLine) {n : Nat} {a : Addr} {kvs : List (Val × Val)} {k : Val} {y : V} {u : Value} (I : Inv X pins σ H s) (rs : RS g m S H) (hm : m.l[n]? = some a) (e : S.get n = some (.dct kvs)) (rv : RV m H k y) (ru : RelV y u) (hf : keyFor k kvs = true) :
    ∃ r, ((look k kvs = .none ∧ r = .none) ∨ ∃ v w, look k kvs = some v ∧ r = some w ∧ RU m H v w) ∧ Ask X s a u r := by
  cases ht : isT k with
  | true =>
    obtain ⟨es, xs, kk, h1, h2, h3, h4, h5, h6, hz⟩ := dct_tup hP hw rs hm e ht hf
    obtain ⟨hs, _⟩ := dO_at I h1
    have D := dictOf I h1 h2 h3 h4
    have hky := nested_of I rv ru h5
    cases rv with
    | @tup b ys vs hb rr =>
      cases ru
      have hkey : (nestedKind X.prog X.w).is s.heap kk b := ⟨hky, h6⟩
      have room : (nestedKind X.prog X.w).room X.A.in1 := by show X.A.units + 1 + 8 < cLine; omega
      have DK : s.heap.DictKeyed (nestedKind X.prog X.w) a (pairsH xs) := ⟨xs, D, rfl⟩
      refine ⟨valueAt (pairsH xs) kk, ?_, ⟨fun Q h => in_keyed room hkey hs DK (h _), fun Q h => notIn_keyed room hkey hs DK (h _), fun w Q hr h => getItem_keyed room hkey DK hr (h _), fun Q h => get_keyed room hkey hs DK (h _), fun d Q h => getOr_keyed room hkey hs DK (h _)⟩⟩
      rw [valueAt_pairsH]
      rcases look_key h5 h4 with ⟨q1, q2⟩ | ⟨v, p, q1, q2, q3⟩
      · exact .inl ⟨q1, by rw [q2]; rfl⟩
      · exact .inr ⟨v, p.2, q1, by rw [q2]; rfl, q3⟩
    | _ => cases ht
  | false =>
    obtain ⟨es, xs, kk, h1, h2, h3, h4, h5, h6, hz⟩ := dct_flat hP hw rs hm e ht hf
    obtain ⟨hs, ob, ep, k1, k2, k3⟩ := dO_at I h1
    have D : s.heap.DictOf (mixKind X.prog X.w) a xs := ⟨ob, es, ep, k1, k2, k3, h2, h3, h4⟩
    have hkey := kAt_is (P := X.prog) (w := X.w) rv ru h6
    refine ⟨valueAt xs kk, look_at h6 h5, ⟨fun Q h => wpAny_in_of hkey hs D.mapOf (h _), fun Q h => wpAny_notIn_of hkey hs D.mapOf (h _), fun w Q hr h => wpAny_getItem_of hkey D.mapOf hr (h _), fun Q h => ?_, fun d Q h => ?_⟩⟩
    · exact call_meetsIn F.slot_dict_get ⟨ob, k1, k2.1⟩ F.entry_dict_get (F.args_dict_get_2 _ _) (meets_dict_get (mixKind X.prog X.w) a hkey hs) ⟨_, D.mapOf, h _⟩
    · exact call_meetsIn F.slot_dict_get ⟨ob, k1, k2.1⟩ F.entry_dict_get (F.args_dict_get_3 _ _ _) (meets_dict_get_default (mixKind X.prog X.w) a hkey hs d) ⟨_, D.mapOf, h _⟩
end
end G
set_option Elab.async false
set_option linter.all false
set_option maxRecDepth 100000
namespace G
open PySem PySem.Spec L2
open PyProof.Rows hiding St
section
variable {X : Cx} {g : Gx} {o : Orc} {W : WX} {pins : List (Addr × PySem.Obj)} {s : Shared} {σ : St} {ρ : G.Env} {m : Mp} {H : Hp} {S : Store} {pos p apos : Pos}
theorem dct_type (I : Inv X pins σ H s) {n : Nat} {a : Addr} {kvs : List (Val × Val)} (rs : RS g m S H) (hm : m.l[n]? = some a) (e : S.get n = some (.dct kvs)) : s.TypeIs (.ref a) "dict" ∧ ∃ ob, s.heap.get? a = some ob ∧ ob.dict = .none := by
  obtain ⟨q, hq, hz, es, h1, h2⟩ := rs.obj n _ e
  rw [hm] at hq; cases hq
  obtain ⟨_, ob, ep, k1, k2, k3⟩ := dO_at I h1
  exact ⟨⟨ob, k1, k2.1⟩, ob, k1, k2.2.1⟩
/-- d[k] -/
theorem m_ixK (hP : g.P = X.prog) (hw : g.w = X.w) (hu : X.A.units + 64 < cLine) {a b : PySem.Expr} {ca cb : G.E} (ha : PE X a (tM g o W ca)) (hb : PE X b (tM g o W cb)) (hs : PlainIx b) : PE X (.Subscript a b pos) (tM g o W (eOp oIxK ca cb)) := by
  refine ⟨fun pins s σ H Q I ⟨m, ρ, S, re, rs, p⟩ => Subscript_ (thnE ha I re rs p fun u s1 v S1 m1 H1 x I1 r1 rv1 rs1 re1 e1 p1 => thnE hb I1 re1 rs1 p1 fun u2 s2 w S2 m2 H2 y I2 r2 rv2 rs2 re2 e2 p2 => ?_)⟩
  have rv1' := rv1.mono e2
  cases rv1' with
  | @ref n q hq =>
    cases r1
    have p3 : PostG g RV m2 H2 Q (atS W σ) (match S2.get n with | some (.dct kvs) => (match keyFor w kvs with | true => ofOpt (look w kvs) S2 56 | false => .stuck 56) | _ => .stuck 57) := p2
    split at p3
    · rename_i kvs e0
      cases hf : keyFor w kvs with
      | false => rw [hf] at p3; exact p3.elim
      | true =>
        rw [hf] at p3
        have p4 : PostG g RV m2 H2 Q (atS W σ) (ofOpt (look w kvs) S2 56) := p3
        obtain ⟨r, hr, A⟩ := dct_ask hP hw hu I2 rs2 hq e0 rv2 r2 hf
        rcases hr with ⟨h1, _⟩ | ⟨v, z, h1, h2, t, h3, h4⟩
        · rw [h1] at p4; exact p4.elim
        · rw [h1] at p4
          exact tail_any (dct_type I2 rs2 hq e0).1 slot_dict_getitem.lookup (A.item z _ h2 fun tk => ⟨t, H2, I2.tok tk, h4, p4 m2 H2 t Ex.rfl' rs2 h3⟩) (hs _ _)
    · exact p3.elim
  | _ => exact p2.elim
/-- k in d -/
theorem inK_ok (hP : g.P = X.prog) (hw : g.w = X.w) (hu : X.A.units + 64 < cLine) {v w : Val} {x y : V} {a b : Value} {c : Bool} (I : Inv X pins σ H s) (rv : RV m H v x) (rw_ : RV m H w y) (ra : RelV x a) (rb : RelV y b) (rs : RS g m S H) (h : inK S v w = some c) :
    ∃ q r, b = .ref q ∧ c = r.isSome ∧ Ask X s q a r := by
  cases rw_ with
  | @ref n q hq =>
    cases rb
    have h' : (match S.get n with | some (.dct kvs) => (match keyFor v kvs with | true => some (look v kvs).isSome | false => .none) | _ => .none) = some c := h
    split at h'
    · rename_i kvs e0
      cases hf : keyFor v kvs with
      | false => rw [hf] at h'; cases h'
      | true =>
        rw [hf] at h'
        obtain ⟨r, hr, A⟩ := dct_ask hP hw hu I rs hq e0 rv ra hf
        refine ⟨q, r, rfl, ?_, A⟩
        rw [← Option.some.inj h']
        rcases hr with ⟨h1, h2⟩ | ⟨v, z, h1, h2, _⟩ <;> rw [h1, h2] <;> rfl
    · cases h'
  | _ => cases h
theorem o_inK (hP : g.P = X.prog) (hw : g.w = X.w) (hu : X.A.units + 64 < cLine) : OpS X g o W oInK (compareOp .In) := by
  intro pins s σ H m S v w x y a b Q I rv rw_ ra rb rs p
  obtain ⟨c, h, q⟩ := ofB_ok rs p
  obtain ⟨d, r, rfl, hc, A⟩ := inK_ok hP hw hu I rv rw_ ra rb rs h
  exact A.in_ _ fun tk => ⟨.bl c, H, I.tok tk, congrArg Value.bool hc.symm, q⟩
theorem o_notinK (hP : g.P = X.prog) (hw : g.w = X.w) (hu : X.A.units + 64 < cLine) : OpS X g o W oNotInK (compareOp .NotIn) := by
  intro pins s σ H m S v w x y a b Q I rv rw_ ra rb rs p
  unfold oNotInK at p
  cases h : inK S v w with
  | none => rw [h] at p; exact p.elim
  | some c =>
    rw [h] at p
    obtain ⟨d, r, rfl, hc, A⟩ := inK_ok hP hw hu I rv rw_ ra rb rs h
    exact A.notIn _ fun tk => ⟨.bl (!c), H, I.tok tk, congrArg (fun z => Value.bool (!z)) hc.symm, p m H _ Ex.rfl' rs (RV.bool _)⟩
/-- d.get(k), d.get(k, x) -/
theorem e_get (hP : g.P = X.prog) (hw : g.w = X.w) (hu : X.A.units + 64 < cLine) {a e : PySem.Expr} {es : List PySem.Expr} {ca : G.E} {cs : G.EL} (ha : PE X a (tM g o W ca)) (hl : PA X (e :: es) (tL g o W cs)) (hbase : attributeBase a "get" X.env (eval a X.env) = eval a X.env)
    (hfew : ((backTo pos (starEach (e :: es) X.env)).all (fun x => !x.1) && (backToKw pos (keywordEach [] X.env)).all (fun x => x.1.isSome)
      && decide ((e :: es).length + ([] : List Keyword).length + (if ([] : List Keyword).isEmpty then 0 else 1) < 30)) = true)
    (hline : (apos.endLine == pos.line) = true) (hs : starEach (e :: es) X.env = (false, eval e X.env) :: starEach es X.env) (hplain : (backTo pos (starEach es X.env)).any (·.1) = false) :
    PE X (.Call (.Attribute a "get" apos) (e :: es) [] pos) (tM g o W (eBm .dct mGet ca cs)) := by
  refine ⟨fun pins s σ H Q I ⟨m, ρ, S, re, rs, pp⟩ => wpAny_Call_method_late hbase hfew hline rfl (thnE ha I re rs pp fun u s1 v S1 m1 H1 x I1 r1 rv1 rs1 re1 e1 p1 => ?_)⟩
  cases hk : hasK S1 .dct v with
  | false => rw [hk] at p1; exact p1.elim
  | true =>
    rw [hk] at p1
    cases rv1 with
    | @ref n q hq =>
      have hk' : (match S1.get n with | some (.lst _) => false | some (.dct _) => true | _ => false) = true := hk
      split at hk'
      · cases hk'
      · rename_i kvs e0
        cases r1
        obtain ⟨t1, t2⟩ := dct_type I1 rs1 hq e0
        refine ⟨"dict", "dict.get", F.plainAttrs_dict, F.slot_dict_get, F.type_dict_get, t1, fun b hb => by cases hb; exact t2, ?_⟩
        have hA := thnL (pos := pos) (P := fun us s2 => wpAny (model X.prog X.w) X.A (call (.builtin "dict.get") (.ref q :: us)) (EP X pins σ Q) X.xe s2) hl I1 re1 rs1 p1 fun us s2 vs S2 m2 H2 xs I2 r2 rvs rs2 re2 e2 p2 => ?_
        · rw [hs] at hA ⊢
          exact Calls.callWith_builtin (by show (false || (backTo pos (starEach es X.env)).any (·.1)) = false; rw [hplain] <;> rfl) (Calls.evalArgs_plain hA)
        · cases rvs with
          | nil =>
            have p3 : PostG g RV m2 H2 Q (atS W σ) (match S2.get n with | some (.dct kvs) => .stuck 157 | _ => .stuck 157) := p2
            split at p3 <;> exact p3.elim
          | @cons k y vs xs rk rvs =>
            cases r2 with
            | @cons _ uk _ us ru rus =>
            have hq2 := e2.get hq
            cases rvs with
            | nil =>
              cases rus
              have p3 : PostG g RV m2 H2 Q (atS W σ) (match S2.get n with | some (.dct kvs) => (match keyFor k kvs with | true => .ok ((look k kvs).getD .none) S2 | false => .stuck 155) | _ => .stuck 157) := p2
              split at p3
              · rename_i kvs2 e3
                cases hf : keyFor k kvs2 with
                | false => rw [hf] at p3; exact p3.elim
                | true =>
                  rw [hf] at p3
                  obtain ⟨r, hr, A⟩ := dct_ask hP hw hu I2 rs2 hq2 e3 rk ru hf
                  refine A.get1 _ fun tk => ?_
                  rcases hr with ⟨h1, h2⟩ | ⟨v, z, h1, h2, t, h3, h4⟩
                  · rw [h1] at p3; rw [h2]
                    exact ⟨.non, H2, I2.tok tk, rfl, p3 m2 H2 _ Ex.rfl' rs2 RV.none⟩
                  · rw [h1] at p3; rw [h2]
                    exact ⟨t, H2, I2.tok tk, h4, p3 m2 H2 t Ex.rfl' rs2 h3⟩
              · exact p3.elim
            | @cons d yd vs xs rd rvs =>
              cases rus with
              | @cons _ ud _ us rud rus =>
              cases rvs with
              | cons _ _ =>
                have p3 : PostG g RV m2 H2 Q (atS W σ) (match S2.get n with | some (.dct kvs) => .stuck 157 | _ => .stuck 157) := p2
                split at p3 <;> exact p3.elim
              | nil =>
                cases rus
                have p3 : PostG g RV m2 H2 Q (atS W σ) (match S2.get n with | some (.dct kvs) => (match keyFor k kvs with | true => .ok ((look k kvs).getD d) S2 | false => .stuck 156) | _ => .stuck 157) := p2
                split at p3
                · rename_i kvs2 e3
                  cases hf : keyFor k kvs2 with
                  | false => rw [hf] at p3; exact p3.elim
                  | true =>
                    rw [hf] at p3
                    obtain ⟨r, hr, A⟩ := dct_ask hP hw hu I2 rs2 hq2 e3 rk ru hf
                    refine A.get2 _ _ fun tk => ?_
                    rcases hr with ⟨h1, h2⟩ | ⟨v, z, h1, h2, t, h3, h4⟩
                    · rw [h1] at p3; rw [h2]
                      exact ⟨yd, H2, I2.tok tk, rud, p3 m2 H2 _ Ex.rfl' rs2 rd⟩
                    · rw [h1] at p3; rw [h2]
                      exact ⟨t, H2, I2.tok tk, h4, p3 m2 H2 t Ex.rfl' rs2 h3⟩
                · exact p3.elim
      · cases hk'
    | str _ => cases hk
    | _ => cases hk
end
end G
set_option Elab.async false
set_option linter.all false
set_option maxRecDepth 100000
namespace G
open PySem PySem.Spec L2
open PyProof.Rows hiding St
section
variable {X : Cx} {g : Gx} {o : Orc} {W : WX} {pins : List (Addr × PySem.Obj)} {s : Shared} {σ : St} {ρ : G.Env} {m : Mp} {H : Hp} {S : Store} {pos p apos : Pos}
theorem dput_len (k v : Val) : ∀ l : List (Val × Val), (dput k v l).length ≤ l.length + 1
  | [] => Nat.le_refl _
  | (a, x) :: r => by
    rw [dput_cons]
    cases eqK a k with
    | true => exact Nat.le_succ _
    | false => exact Nat.succ_le_succ (dput_len k v r)
theorem stored_eq {x : Key × Value} {xs : List (Key × Value)} {k : Key} {u : Value} (h : x.1 = k) (nd : ((x :: xs).map (·.1)).Nodup) : stored (x :: xs) k u = (x.1, u) :: xs := by
  have h2 : xs.map (fun kv => if kv.1 = k then (kv.1, u) else kv) = xs := by
    rw [List.map_cons, List.nodup_cons] at nd
    have : ∀ y ∈ xs, (if y.1 = k then (y.1, u) else y) = y := fun y hy => by
      have ne : y.1 ≠ k := fun z => nd.1 (by rw [h, ← z]; exact List.mem_map_of_mem hy)
      simp [ne]
    exact (List.map_congr_left this).trans (List.map_id _)
  unfold stored
  rw [if_pos (by simp [h]), List.map_cons, h2]
  simp [h]
theorem stored_ne {x : Key × Value} {xs : List (Key × Value)} {k : Key} {u : Value} (h : x.1 ≠ k) : stored (x :: xs) k u = x :: stored xs k u := by
  unfold stored
  have e : ((x :: xs).any fun kv => decide (kv.1 = k)) = xs.any fun kv => decide (kv.1 = k) := by simp [h]
  rw [e]
  split
  · rw [List.map_cons]; congr 1; simp [h]
  · rfl
theorem dput_at {k v : Val} {kk : Key} {u : Value} (hk : KF m H (k, v) (kk, u)) : ∀ {kvs : List (Val × Val)} {xs : List (Key × Value)}, Paired (KF m H) kvs xs → (xs.map (·.1)).Nodup → Paired (KF m H) (dput k v kvs) (stored xs kk u) := by
  intro kvs xs r
  induction r with
  | nil => intro _; exact .cons hk .nil
  | @cons kv x kvs xs q r ih =>
    intro nd
    obtain ⟨b, w⟩ := kv
    obtain ⟨h1, h4, h5⟩ := q
    have e : eqK b k = decide (x.1 = kk) := eqK_at h1 hk.1
    by_cases c : x.1 = kk
    · rw [stored_eq c nd, dput_cons, e, decide_eq_true c]
      exact .cons ⟨h1, h4, hk.2.2⟩ r
    · rw [stored_ne c, dput_cons, e, decide_eq_false c]
      rw [List.map_cons, List.nodup_cons] at nd
      exact .cons ⟨h1, h4, h5⟩ (ih nd.2)
theorem kAt_kV {k : Val} {kk : Key} {y : V} (rv : RV m H k y) (hk : kAt k = some kk) : y = kV kk := by
  cases rv with
  | int i => cases (show some (Sum.inl i) = some kk from hk); rfl
  | @str l hl => cases (show some (Sum.inr ⟨l.toArray⟩) = some kk from hk); rfl
  | _ => exact nomatch (show (Option.none : Option Key) = some kk from hk)
/-- d[k] = v, by values -/
theorem dct_set (hP : g.P = X.prog) (hw : g.w = X.w) (hu : X.A.units + 64 < cLine) {n : Nat} {a : Addr} {kvs : List (Val × Val)} {k v : Val} {y z : V} {u r : Value} (I : Inv X pins σ H s) (rs : RS g m S H) (hm : m.l[n]? = some a) (e : S.get n = some (.dct kvs)) (rk : RV m H k y) (ru : RelV y u) (rv : RV m H v z) (rr : RelV z r)
    (hf : keyFor k kvs = true) (hl : kvs.length < maxLen) {Q : Unit → Shared → Prop} (h : ∀ s' H', Inv X pins σ H' s' → Ex m H m H' → RS g m (S.put n (.dct (dput k v kvs))) H' → Q () s') : wpAny (model X.prog X.w) X.A (setItem (.ref a) u r) Q X.xe s := by
  have fin : ∀ {h' : Heap} {tk : Nat} {es' : Array DictEntry} {ob : PySem.Obj} {ep : Nat} {es : Array DictEntry}, H a = some (dO a es) → (a == sysModules) = false → h'.get? a = some ob → ob.ExactDict → ob.data = .dict es' ep → Heap.SameBut a s.heap h' → DR g m H (dput k v kvs) es' → Q () { s with heap := h', toks := tk } := by
    intro h' tk es' ob ep es h1 hs k1 k2 k3 sb dr
    have I' : Inv X pins σ (upd H a (dO a es')) { s with heap := h', toks := tk } := I.write (x := a) (e := a) (by rw [h1]; exact True.intro) (.inl rfl) (fun b w hb q => (sb.2 b hb).trans q) ⟨ob, k1⟩ (dO_ok hs k1 k2 k3)
    have x := rs.exPut (u := dO a es') e hm
    refine h _ _ I' x (rs.put e hm ⟨?_, es', upd_same, dr.mono0 x.toEx0⟩)
    rw [← maxLen_eq]
    exact Nat.le_trans (dput_len k v kvs) hl
  cases ht : isT k with
  | true =>
    obtain ⟨es, xs, kk, h1, h2, h3, h4, h5, h6, hz⟩ := dct_tup hP hw rs hm e ht hf
    obtain ⟨hs, _⟩ := dO_at I h1
    have D := dictOf I h1 h2 h3 h4
    have hky := nested_of I rk ru h5
    have rk' := rk
    cases rk with
    | @tup b ys vs hb rr' =>
      cases ru
      have hkey : (nestedKind X.prog X.w).is s.heap kk b := ⟨hky, h6⟩
      have room : (nestedKind X.prog X.w).room X.A.in1 := by show X.A.units + 1 + 8 < cLine; omega
      have hn : xs.length ≤ sizeLine := by rw [← paired_len h4]; exact hz
      refine wpAny_setItem_heap (hsz := hn) room hkey D fun h' hm' sb => ?_
      obtain ⟨ob, es', ep, k1, k2, k3, k4, _, k6⟩ := hm'
      exact fin h1 hs k1 k2 k3 sb (.tup _ (by rw [hP, hw]; exact k4) k6 (dput_key ⟨h5, ht, h6, rk', z, rv, rr⟩ h4 h3))
    | _ => cases ht
  | false =>
    obtain ⟨es, xs, kk, h1, h2, h3, h4, h5, h6, hz⟩ := dct_flat hP hw rs hm e ht hf
    obtain ⟨hs, ob, ep, k1, k2, k3⟩ := dO_at I h1
    have D : s.heap.DictOf (mixKind X.prog X.w) a xs := ⟨ob, es, ep, k1, k2, k3, h2, h3, h4⟩
    have hkey := kAt_is (P := X.prog) (w := X.w) rk ru h6
    have hn : xs.length ≤ sizeLine := by rw [← paired_len h5]; exact hz
    refine wpAny_setItem_pairs (hsz := hn) hkey D fun h' hm' sb => ?_
    obtain ⟨ob, es', ep, k1, k2, k3, k4, k5, k6⟩ := hm'
    refine fin h1 hs k1 k2 k3 sb (.flat (stored xs kk r) (by rw [hP, hw]; exact k4) (by rw [hP, hw]; exact k5) k6 (dput_at ⟨h6, ?_, z, rv, rr⟩ h5 h4))
    show RV m H k (kV kk)
    rw [← kAt_kV rk h6]; exact rk
theorem g_subK (hP : g.P = X.prog) (hw : g.w = X.w) (hu : X.A.units + 64 < cLine) {a b : PySem.Expr} {ca cb : G.E} (ha : PE X a (tM g o Wno ca)) (hb : PE X b (tM g o Wno cb))
    (hs : ∀ v, assign (.Subscript a b pos) X.env v = (do
      let ov ← holding [v] (eval a X.env)
      let iv ← holding [v, ov] (eval b X.env)
      standAt pos
      holding [v, ov, iv] (setItem ov iv v)
      release [v, ov, iv] [])) : PG X (.Subscript a b pos) (tE g o (tSubK ca cb)) := by
  refine ⟨fun pins s σ H v u Q I r ⟨m, ρ, S, w, re, rs, rv, pp⟩ => ?_⟩
  rw [hs]
  refine wpAny_bind (wpAny_holding (thnE (W := Wno) ha I re rs pp fun ov s1 v1 S1 m1 H1 x I1 r1 rv1 rs1 re1 e1 p1 => ?_))
  refine wpAny_bind (wpAny_holding (thnE (W := Wno) hb I1 re1 rs1 p1 fun iv s2 v2 S2 m2 H2 y I2 r2 rv2 rs2 re2 e2 p2 => ?_))
  refine wpAny_bind (wpAny_standAt (wpAny_bind (wpAny_holding ?_)))
  have rv1' := rv1.mono e2
  cases rv1' with
  | @ref n q hq =>
    cases r1
    have p3 : PostG g RE m2 H2 Q Eno (R.bind (match S2.get n with | some (.dct kvs) => (match keyFor v2 kvs && Nat.blt kvs.length maxLen with | true => .ok () (S2.put n (.dct (dput v2 w kvs))) | false => .stuck 85) | _ => .stuck 86) fun (_ : Unit) S => .ok ρ S) := p2
    split at p3
    · rename_i kvs e0
      cases hf : (keyFor v2 kvs && Nat.blt kvs.length maxLen) with
      | false => rw [hf] at p3; exact p3.elim
      | true =>
        rw [hf] at p3
        obtain ⟨f1, f2⟩ := Bool.and_eq_true_iff.mp hf
        refine dct_set hP hw hu I2 rs2 hq e0 rv2 r2 ((rv.mono e1).mono e2) r f1 (by simpa [Nat.blt_eq] using f2) fun s3 H3 I3 x3 rs3 => ?_
        exact wpAny_release ⟨σ, H3, I3, p3 m2 H3 σ x3 rs3 (re2.mono x3)⟩
    · exact p3.elim
  | _ => exact p2.elim
end
end G
set_option Elab.async false
set_option linter.all false
set_option maxRecDepth 100000
namespace G
open PySem PySem.Spec L2
open PyProof.Rows hiding St
section
variable {X : Cx} {g : Gx} {o : Orc} {W : WX} {pins : List (Addr × PySem.Obj)} {s : Shared} {σ : St} {ρ : G.Env} {m : Mp} {H : Hp} {S : Store} {pos p apos : Pos}
/-- {} -/
theorem m_dict0 : PE X (.Dict [] [] pos) (tM g o W eDict0) := by
  refine ⟨fun pins s σ H Q I ⟨m, ρ, S, re, rs, pp⟩ => wpAny_Dict_empty ⟨.ref s.heap.objs.size, _, I.laid (a := s.heap.objs.size) (o := dO s.heap.objs.size #[]) (t' := s.toks) (fun _ _ q => Heap.get?_push_of_some _ q) (Nat.le_refl _) ?_, rfl, ?_⟩⟩
  · exact dO_ok (beq_eq_false_iff_ne.mpr (Ne.symm (Nat.ne_of_lt I.big))) (Heap.get?_push_size _ rfl) ⟨rfl, rfl, rfl⟩ rfl
  · exact PostG.alloc rs pp (I.hok.fresh (Nat.le_refl _)) fun x => ⟨Nat.zero_le _, #[], upd_same, .tup [] rfl List.nodup_nil .nil⟩
/-- len(d) -/
theorem b_lenK (hP : g.P = X.prog) (hw : g.w = X.w) : CallR X (.builtin "len") (BiR g o bLenK) := by
  intro pins s σ H xs us Q I rvs ⟨m, vs, S, E, rv, rs, pp⟩
  cases rv with
  | nil => exact pp.elim
  | @cons v x vs xs r rr =>
    cases rr with
    | cons _ _ => cases r <;> exact pp.elim
    | nil =>
      obtain ⟨u, rfl, ru⟩ := vals1 rvs
      cases r with
      | @ref n q hq =>
        cases ru
        have p' : PostG g RV m H Q E (match S.get n with | some (.dct vs) => .ok (.int vs.length) S | _ => .stuck 112) := pp
        split at p'
        · rename_i kvs e0
          obtain ⟨q', hq', hz, es, h1, h2⟩ := rs.obj n _ e0
          rw [hq] at hq'; cases hq'
          obtain ⟨hs, ob, ep, k1, k2, k3⟩ := dO_at I h1
          have fit : ∀ {j : Nat}, kvs.length = j → (j : Int) < 2 ^ 63 := fun e => by
            have : kvs.length ≤ 16777216 := hz
            omega
          have fin : ∀ tk, EP X pins σ Q (.int kvs.length tk) { s with toks := tk } → True := fun _ _ => trivial
          cases h2 with
          | tup xs he hn hr =>
            have D := dictOf I h1 (by rw [← hP, ← hw]; exact he) hn hr
            have hlen := paired_len hr
            refine call_len_dictH hs D (fit hlen) ?_
            rw [← hlen]
            exact ⟨.int kvs.length, H, I.tok _, ⟨_, rfl⟩, p' m H _ Ex.rfl' rs (RV.int _)⟩
          | flat xs hk he hn hr =>
            have D : s.heap.DictOf (mixKind X.prog X.w) q xs := ⟨ob, es, ep, k1, k2, k3, by rw [← hP, ← hw]; exact hk, by rw [← hP, ← hw]; exact he, hn⟩
            have hlen := paired_len hr
            refine call_len_dict hs D (fit hlen) ?_
            rw [← hlen]
            exact ⟨.int kvs.length, H, I.tok _, ⟨_, rfl⟩, p' m H _ Ex.rfl' rs (RV.int _)⟩
        · exact p'.elim
      | _ => exact pp.elim
end
end G
set_option Elab.async false
set_option linter.all false
set_option maxRecDepth 100000
namespace G
open PySem PySem.Spec L2
open PyProof.Rows hiding St
section
variable {X : Cx} {g : Gx} {o : Orc} {W : WX} {pins : List (Addr × PySem.Obj)} {s : Shared} {σ : St} {ρ : G.Env} {m : Mp} {H : Hp} {S : Store} {pos p apos : Pos}
theorem RVs.dropLast {vs : List Val} {ys : List V} (r : RVs m H vs ys) : RVs m H vs.dropLast ys.dropLast := by
  rw [List.dropLast_eq_take, List.dropLast_eq_take, r.length]; exact r.take _
/-- l.pop() -/
theorem bm_pop : MtR X "list.pop" (BmR g o mPop0) := MtR.imp mt_pop fun x xs H Q ⟨m, v, vs, S, E, r, rvs, rs, pp⟩ => by
  cases rvs with
  | cons _ _ => cases r <;> exact pp.elim
  | nil =>
    cases r with
    | @ref n q hq =>
      have p' : PostG g RV m H Q E (match S.get n with | some (.lst xs) => (match xs[xs.length - 1]? with | some v => .ok v (S.put n (.lst xs.dropLast)) | .none => .stuck 142) | _ => .stuck 145) := pp
      split at p'
      · rename_i zs e0
        obtain ⟨q', ys, k1, hq', k2, k3⟩ := rs.list e0 (RV.ref hq)
        cases k1
        cases e : zs[zs.length - 1]? with
        | none => rw [e] at p'; exact p'.elim
        | some w =>
          rw [e] at p'
          obtain ⟨y, h1, h2⟩ := k3.get e
          rw [k3.length] at h1
          exact ⟨_, ys, y, rfl, rfl, k2, h1, PostG.put (α := Unit) rs e0 hq p' (fun x => ⟨_, upd_same, (k3.mono x).dropLast⟩) fun x => h2.mono x⟩
      · exact p'.elim
    | _ => exact pp.elim
theorem inBlk {t : Tb} {F : Ft} {nf n : Nat} {scope : Scope} {Fm : Cx → Prop} (R : Rn X g o t F nf n W)
    (h : ∀ (s : Shared) (H : Hp) (C : Addr) (cl : List (Str × Addr)) (fp : List Addr), Rn (X.blk s H scope (compEnvC scope cl C X.env) fp) g o t F nf n Wno → Fm (X.blk s H scope (compEnvC scope cl C X.env) fp)) : InBlk X scope Fm :=
  fun s H C cl fp => h s H C cl fp R.blk
end
/-- the same context where nothing may be raised -/
theorem Rn.no {X : Cx} {g : Gx} {o : Orc} {t : Tb} {F : Ft} {nf n : Nat} {W : WX} (R : Rn X g o t F nf n W) : Rn X g o t F nf n Wno :=
  ⟨R.K, R.P, R.w, R.nd, R.calm, R.room, fun u s' ⟨_, _, _, _, _, _, _, _, _, _, _, _, _, _, _, _, h⟩ => h.elim, R.owns, R.orc, R.ok⟩
end G
set_option Elab.async false
set_option linter.all false
set_option maxRecDepth 100000
/-! sorted(..): ints, trees and tuples of these -/
namespace G
open PySem PySem.Spec L2
open PyProof.Rows hiding St
open PySem.W (alike alikeAll dataLt keyToks keyToksAll dataLe AllAlike Sortable EachIs alike_all_cons dataLt_all_yes dataLt_all_no toks_all_cons lex_pre toks_eqv)
/-! what is known of two values of a shape -/
structure Gd (S : Store) (k : Nat) (a b : Val) : Prop where
  al : alike (dat S k a) (dat S k b) = true
  ev : PyData.eqv (dat S k a) (dat S k b) = isEq (cmpV k a b)
  lt : dataLt (dat S k a) (dat S k b) = isLt (cmpV k a b)
  eq : cmpV k a b = .eq → a = b
/-- of two rows -/
inductive GdL (S : Store) (k : Nat) : List Val → List Val → Prop
  | nil (b : List Val) : GdL S k [] b
  | one (a : Val) (r : List Val) : GdL S k (a :: r) []
  | cons {a b : Val} {r t : List Val} (h : Gd S k a b) (q : GdL S k r t) : GdL S k (a :: r) (b :: t)
theorem GdL.all {S : Store} {k : Nat} {s : Val → Bool} (h : ∀ a b, s a = true → s b = true → Gd S k a b) : ∀ (a b : List Val), a.all s = true → b.all s = true → GdL S k a b
  | [], b, _, _ => .nil b
  | a :: r, [], _, _ => .one a r
  | a :: r, b :: t, h1, h2 => by
    obtain ⟨p1, p2⟩ := Bool.and_eq_true_iff.mp h1
    obtain ⟨q1, q2⟩ := Bool.and_eq_true_iff.mp h2
    exact .cons (h a b p1 q1) (GdL.all h r t p2 q2)
theorem toks_nil_cons (x : PyData) (xs : List PyData) : PyProof.Rows.lexLt itemOrd (keyToksAll []) (keyToksAll (x :: xs)) = true := by
  rw [toks_all_cons]; simp only [keyToksAll]
  exact PyProof.Rows.lex_diff (O := itemOrd) (by simp)
theorem toks_cons_nil (x : PyData) (xs : List PyData) : PyProof.Rows.lexLt itemOrd (keyToksAll (x :: xs)) (keyToksAll []) = false := by
  rw [toks_all_cons]; simp only [keyToksAll]
  exact PyProof.Rows.lex_diff (O := itemOrd) (by simp)
theorem GdL.ok {S : Store} {k : Nat} {a b : List Val} (h : GdL S k a b) : alikeAll (a.map (dat S k)) (b.map (dat S k)) = true ∧ PyData.eqvAll (a.map (dat S k)) (b.map (dat S k)) = isEq (cmpL (cmpV k) a b) ∧
    PyProof.Rows.lexLt itemOrd (keyToksAll (a.map (dat S k))) (keyToksAll (b.map (dat S k))) = isLt (cmpL (cmpV k) a b) ∧ (cmpL (cmpV k) a b = .eq → a = b) := by
  induction h with
  | nil b =>
    cases b with
    | nil => exact ⟨by simp [alikeAll], by simp [PyData.eqvAll, cmpL, isEq], PyProof.Rows.lex_irrefl _, fun _ => rfl⟩
    | cons b t => exact ⟨by simp [alikeAll], by simp [PyData.eqvAll, cmpL, isEq], toks_nil_cons _ _, fun e => by cases e⟩
  | one a r => exact ⟨by simp [alikeAll], by simp [PyData.eqvAll, cmpL, isEq], toks_cons_nil _ _, fun e => by cases e⟩
  | @cons a b r t g _ ih =>
    obtain ⟨i1, i2, i3, i4⟩ := ih
    have ev := g.ev
    rw [List.map_cons, List.map_cons, alikeAll, g.al, i1, PySem.W.eqv_all_cons, g.ev, i2]
    cases e : cmpV k a b with
    | eq =>
      rw [e] at ev
      rw [dataLt_all_yes g.al ev, i3, cmpL, e]
      exact ⟨rfl, by simp [isEq], rfl, fun q => by rw [g.eq e, i4 q]⟩
    | lt =>
      rw [e] at ev
      rw [dataLt_all_no g.al ev, g.lt, e, cmpL, e]
      exact ⟨rfl, by simp [isEq], rfl, fun q => by cases q⟩
    | gt =>
      rw [e] at ev
      rw [dataLt_all_no g.al ev, g.lt, e, cmpL, e]
      exact ⟨rfl, by simp [isEq], rfl, fun q => by cases q⟩
theorem GdL.tup {S : Store} {k : Nat} {a b : List Val} (h : GdL S k a b) : Gd S (k + 1) (.tup a) (.tup b) := by
  obtain ⟨i1, i2, i3, i4⟩ := h.ok
  refine ⟨?_, ?_, ?_, fun q => by rw [i4 q]⟩
  · show alike (.tuple _) (.tuple _) = true
    rw [alike]; exact i1
  · show PyData.eqv (.tuple _) (.tuple _) = _
    rw [PyData.eqv]; exact i2
  · show dataLt (.tuple _) (.tuple _) = _
    rw [PySem.W.dataLt_tuple]; exact i3
theorem gd_int {S : Store} {k : Nat} (a b : Val) (h1 : shI a = true) (h2 : shI b = true) : Gd S (k + 1) a b := by
  cases a <;> first | cases h1 | skip
  cases b <;> first | cases h2 | skip
  rename_i i j
  have c : cmpV (k + 1) (.int i) (.int j) = (match intEq i j with | true => .eq | false => match intLt i j with | true => .lt | false => .gt) := rfl
  have e1 : intEq i j = decide (i = j) := by rw [intEq_beq]; exact Bool.beq_eq_decide_eq i j
  have e2 : intLt i j = decide (i < j) := intLt_eq i j
  refine ⟨by show alike (.int i) (.int j) = true; simp [alike], ?_, ?_, ?_⟩
  · show PyData.eqv (.int i) (.int j) = _
    rw [c, e1]
    by_cases h : i = j
    · subst h; simp [PyData.eqv, isEq]
    · rw [decide_eq_false h]
      have e4 : PyData.eqv (.int i) (.int j) = false := by simp [PyData.eqv, h]
      rw [e4]; cases intLt i j <;> rfl
  · show dataLt (.int i) (.int j) = _
    rw [PySem.W.dataLt_int, c, e1, e2]
    by_cases h : i = j
    · subst h; simp [isLt]
    · rw [decide_eq_false h]
      by_cases h2 : i < j
      · rw [decide_eq_true h2]; rfl
      · rw [decide_eq_false h2]; rfl
  · rw [c, e1]
    by_cases h : i = j
    · intro _; rw [h]
    · rw [decide_eq_false h]; cases intLt i j <;> intro q <;> cases q
theorem strC_ok : ∀ a b : List Nat, isEq (strC a b) = decide (a = b) ∧ isLt (strC a b) = decide (a < b)
  | [], [] => by simp [strC, isEq, isLt]
  | [], _ :: _ => by simp [strC, isEq, isLt]
  | _ :: _, [] => by simp [strC, isEq, isLt]
  | a :: r, b :: s => by
    rw [strC]
    cases e : Nat.beq a b with
    | true =>
      have := Nat.eq_of_beq_eq_true e
      subst this
      obtain ⟨i1, i2⟩ := strC_ok r s
      simp only [i1, i2]
      constructor
      · exact decide_eq_decide.mpr ⟨fun h => by rw [h], fun h => (List.cons.inj h).2⟩
      · exact decide_eq_decide.mpr (by rw [List.cons_lt_cons_iff]; exact ⟨fun h => .inr ⟨rfl, h⟩, fun h => h.elim (fun z => absurd z (Nat.lt_irrefl _)) (·.2)⟩)
    | false =>
      have ne : a ≠ b := fun h => by rw [h, Nat.beq_refl] at e; cases e
      have n1 : ¬ (a :: r = b :: s) := fun h => ne (List.cons.inj h).1
      have e3 : (a :: r < b :: s) ↔ a < b := by rw [List.cons_lt_cons_iff]; exact ⟨fun h => h.elim id fun z => absurd z.1 ne, .inl⟩
      rw [decide_eq_false n1]
      cases e2 : Nat.blt a b with
      | true =>
        have h2 : a < b := by simpa [Nat.blt_eq] using e2
        exact ⟨rfl, (decide_eq_true (e3.mpr h2)).symm⟩
      | false =>
        have h2 : ¬ a < b := fun h => by rw [show Nat.blt a b = true by simpa [Nat.blt_eq] using h] at e2; cases e2
        exact ⟨rfl, (decide_eq_false (fun h => h2 (e3.mp h))).symm⟩
theorem gd_str {S : Store} {k : Nat} (a b : Val) (h1 : shS a = true) (h2 : shS b = true) : Gd S (k + 1) a b := by
  cases a <;> first | cases h1 | skip
  cases b <;> first | cases h2 | skip
  rename_i i j
  obtain ⟨s1, s2⟩ := strC_ok i j
  have c : cmpV (k + 1) (.str i) (.str j) = strC i j := rfl
  refine ⟨by show alike (.str _) (.str _) = true; simp [alike], ?_, ?_, ?_⟩
  · show PyData.eqv (.str _) (.str _) = _
    rw [c, s1, PyData.eqv]
    exact SX.S_beq_eq (a := i) (b := j)
  · show dataLt (.str _) (.str _) = _
    rw [PySem.W.dataLt_str, c, s2]
  · rw [c]
    intro q
    have : decide (i = j) = true := by rw [← s1, q]; rfl
    rw [of_decide_eq_true this]
/-- all of a shape -/
structure Shp (S : Store) (k : Nat) (s : Val → Bool) : Prop where
  gd : ∀ a b, s a = true → s b = true → Gd S k a b
  dk : ∀ a, s a = true → dOk S k a = true
theorem shp_int {S : Store} {k : Nat} : Shp S (k + 1) shI := ⟨gd_int, fun a h => by cases a <;> first | rfl | exact nomatch h⟩
theorem shp_str {S : Store} {k : Nat} : Shp S (k + 1) shS := ⟨gd_str, fun a h => by cases a <;> first | rfl | exact nomatch h⟩
theorem all_imp {α : Type} {p q : α → Bool} (h : ∀ a, p a = true → q a = true) : ∀ l : List α, l.all p = true → l.all q = true
  | [], _ => rfl
  | a :: r, e => by
    obtain ⟨e1, e2⟩ := Bool.and_eq_true_iff.mp e
    exact Bool.and_eq_true_iff.mpr ⟨h a e1, all_imp h r e2⟩
theorem shT_cases {k : Nat} {a : Val} (h : shT k a = true) : ∃ j x r, k = j + 2 ∧ a = .tup (x :: r) ∧ shS x = true ∧ r.all (shT (j + 1)) = true := by
  cases k with
  | zero => cases h
  | succ k =>
    cases a <;> first | cases h | skip
    rename_i xs
    cases xs with
    | nil => cases h
    | cons x r =>
      obtain ⟨p0, p⟩ := Bool.and_eq_true_iff.mp (show (Nat.blt 0 k && (shS x && r.all (shT k))) = true from h)
      obtain ⟨p1, p2⟩ := Bool.and_eq_true_iff.mp p
      cases k with
      | zero => cases p0
      | succ j => exact ⟨j, x, r, rfl, rfl, p1, p2⟩
theorem shp_tree {S : Store} : ∀ (k : Nat), Shp S k (shT k)
  | 0 => ⟨fun a b h _ => (by cases h), fun a h => (by cases h)⟩
  | k + 1 => by
    have ih := shp_tree (S := S) k
    refine ⟨fun a b h1 h2 => ?_, fun a h1 => ?_⟩
    · obtain ⟨j, x, r, e, rfl, p1, p2⟩ := shT_cases h1
      obtain ⟨j', y, t, e', rfl, q1, q2⟩ := shT_cases h2
      cases e; cases e'
      exact GdL.tup (.cons (gd_str x y p1 q1) (GdL.all ih.gd r t p2 q2))
    · obtain ⟨j, x, r, e, rfl, p1, p2⟩ := shT_cases h1
      cases e
      show (dOk S (j + 1) x && r.all (dOk S (j + 1))) = true
      exact Bool.and_eq_true_iff.mpr ⟨shp_str.dk x p1, all_imp ih.dk r p2⟩
theorem shp_L {S : Store} {k : Nat} {s : Val → Bool} (h : Shp S k s) : Shp S (k + 1) (shL s) := by
  refine ⟨fun a b h1 h2 => ?_, fun a h1 => ?_⟩
  · cases a <;> first | cases h1 | skip
    cases b <;> first | cases h2 | skip
    exact (GdL.all h.gd _ _ h1 h2).tup
  · cases a <;> first | cases h1 | skip
    exact all_imp h.dk _ h1
theorem GdL.all2 {S : Store} {k : Nat} : ∀ (ss : List (Val → Bool)) (a b : List Val), (∀ s ∈ ss, Shp S k s) → G.all2 ss a = true → G.all2 ss b = true → GdL S k a b
  | [], [], b, _, _, _ => .nil b
  | [], _ :: _, _, _, h, _ => by cases h
  | s :: ss, [], _, _, h, _ => by cases h
  | s :: ss, a :: r, [], _, _, h => by cases h
  | s :: ss, a :: r, b :: t, h, h1, h2 => by
    have h1' : (match s a with | true => G.all2 ss r | false => false) = true := h1
    have h2' : (match s b with | true => G.all2 ss t | false => false) = true := h2
    cases e1 : s a with
    | false => rw [e1] at h1'; cases h1'
    | true =>
      cases e2 : s b with
      | false => rw [e2] at h2'; cases h2'
      | true =>
        rw [e1] at h1'; rw [e2] at h2'
        exact .cons ((h s List.mem_cons_self).gd a b e1 e2) (GdL.all2 ss r t (fun z hz => h z (List.mem_cons_of_mem _ hz)) h1' h2')
theorem all2_dk {S : Store} {k : Nat} : ∀ (ss : List (Val → Bool)) (a : List Val), (∀ s ∈ ss, Shp S k s) → G.all2 ss a = true → a.all (dOk S k) = true
  | [], [], _, _ => rfl
  | [], _ :: _, _, h => by cases h
  | s :: ss, [], _, h => by cases h
  | s :: ss, a :: r, h, h1 => by
    have h1' : (match s a with | true => G.all2 ss r | false => false) = true := h1
    cases e1 : s a with
    | false => rw [e1] at h1'; cases h1'
    | true =>
      rw [e1] at h1'
      exact Bool.and_eq_true_iff.mpr ⟨(h s List.mem_cons_self).dk a e1, all2_dk ss r (fun z hz => h z (List.mem_cons_of_mem _ hz)) h1'⟩
theorem shp_P {S : Store} {k : Nat} {ss : List (Val → Bool)} (h : ∀ s ∈ ss, Shp S k s) : Shp S (k + 1) (shP ss) := by
  refine ⟨fun a b h1 h2 => ?_, fun a h1 => ?_⟩
  · cases a <;> first | cases h1 | skip
    cases b <;> first | cases h2 | skip
    exact (GdL.all2 ss _ _ h h1 h2).tup
  · cases a <;> first | cases h1 | skip
    exact all2_dk ss _ h h1
/-- one shape, of ints or of tuples that have an item -/
structure ShTop (S : Store) (s : Val → Bool) : Prop extends Shp S 20 s where
  kd : (∀ a, s a = true → ∃ x r, dat S 20 a = .tuple (x :: r)) ∨ (∀ a, s a = true → ∃ i, dat S 20 a = .int i)
theorem shP_kd {S : Store} {s : Val → Bool} {ss : List (Val → Bool)} (a : Val) (h : shP (s :: ss) a = true) : ∃ x r, dat S 20 a = .tuple (x :: r) := by
  cases a <;> first | cases h | skip
  rename_i vs
  cases vs with
  | nil => cases h
  | cons v vs => exact ⟨_, _, rfl⟩
theorem shapes_ok {S : Store} : ∀ s ∈ shapes, ShTop S s := by
  intro s hs
  simp only [shapes, List.mem_cons, List.not_mem_nil, or_false] at hs
  rcases hs with rfl | rfl | rfl | rfl | rfl
  · exact ⟨shp_int, .inr fun a h => by cases a <;> first | exact ⟨_, rfl⟩ | exact nomatch h⟩
  · refine ⟨shp_P (k := 19) fun s hs => ?_, .inl fun a h => shP_kd a h⟩
    simp only [List.mem_cons, List.not_mem_nil, or_false] at hs
    rcases hs with rfl | rfl
    · exact shp_int
    · exact shp_tree 19
  · refine ⟨shp_tree 20, .inl fun a h => ?_⟩
    obtain ⟨j, x, r, e, rfl, p1, p2⟩ := shT_cases h
    exact ⟨_, _, rfl⟩
  · refine ⟨shp_P (k := 19) fun s hs => ?_, .inl fun a h => shP_kd a h⟩
    simp only [List.mem_cons, List.not_mem_nil, or_false] at hs
    rcases hs with rfl | rfl | rfl
    · exact shp_int
    · exact shp_L (k := 18) shp_int
    · exact shp_int
  · refine ⟨shp_P (k := 19) fun s hs => ?_, .inl fun a h => shP_kd a h⟩
    simp only [List.mem_cons, List.not_mem_nil, or_false] at hs
    rcases hs with rfl | rfl
    · refine shp_P (k := 18) fun s hs => ?_
      simp only [List.mem_cons, List.not_mem_nil, or_false] at hs
      rcases hs with rfl | rfl
      · exact shp_int
      · exact shp_tree 18
    · exact shp_L (k := 18) (shp_tree 18)
/-! the order -/
abbrev leD (S : Store) : Val → Val → Bool := dataLe false (dat S 20)
theorem leD_eq (S : Store) (a b : Val) : leD S a b = !dataLt (dat S 20 b) (dat S 20 a) := rfl
theorem leD_tot (S : Store) : PySem.W.TotalLe (leD S) := PySem.W.sortLe_total _ false _
theorem insV_perm (x : Val) : ∀ l, (insV x l).Perm (x :: l)
  | [] => List.Perm.refl _
  | a :: r => by
    rw [insV]
    cases isLt (cmpV 20 x a) with
    | true => exact List.Perm.refl _
    | false => exact ((insV_perm x r).cons a).trans (List.Perm.swap x a r)
theorem insV_srt {S : Store} {s : Val → Bool} (h : Shp S 20 s) {x : Val} (hx : s x = true) : ∀ {l : List Val}, l.all s = true → l.Pairwise (fun a b => leD S a b = true) → (insV x l).Pairwise fun a b => leD S a b = true
  | [], _, _ => List.pairwise_singleton _ _
  | a :: r, ha, hs => by
    obtain ⟨ha, hr⟩ := Bool.and_eq_true_iff.mp ha
    obtain ⟨s1, s2⟩ := List.pairwise_cons.mp hs
    rw [insV]
    cases e : isLt (cmpV 20 x a) with
    | true =>
      have lt : dataLt (dat S 20 x) (dat S 20 a) = true := by rw [(h.gd x a hx ha).lt, e]
      have le : leD S x a = true := by
        rcases (leD_tot S).total x a with z | z
        · exact z
        · rw [leD_eq, lt] at z; cases z
      exact List.pairwise_cons.mpr ⟨fun b hb => by
        rcases List.mem_cons.mp hb with q | q
        · rw [q]; exact le
        · exact (leD_tot S).trans _ _ _ le (s1 b q), hs⟩
    | false =>
      have le : leD S a x = true := by rw [leD_eq, (h.gd x a hx ha).lt, e]; rfl
      refine List.pairwise_cons.mpr ⟨fun b hb => ?_, insV_srt h hx hr s2⟩
      rcases List.mem_cons.mp ((insV_perm x r).mem_iff.mp hb) with q | q
      · rw [q]; exact le
      · exact s1 b q
theorem perm_all {s : Val → Bool} {l m : List Val} (p : l.Perm m) (h : m.all s = true) : l.all s = true :=
  List.all_eq_true.mpr fun a ha => List.all_eq_true.mp h a (p.mem_iff.mp ha)
theorem srtV_ok {S : Store} {s : Val → Bool} (h : Shp S 20 s) : ∀ (l acc : List Val), l.all s = true → acc.all s = true → acc.Pairwise (fun a b => leD S a b = true) → (srtV l acc).Pairwise (fun a b => leD S a b = true) ∧ (srtV l acc).Perm (l ++ acc)
  | [], acc, _, _, hs => ⟨hs, List.Perm.refl _⟩
  | x :: r, acc, hl, ha, hs => by
    obtain ⟨hx, hr⟩ := Bool.and_eq_true_iff.mp hl
    have p := insV_perm x acc
    obtain ⟨k1, k2⟩ := srtV_ok h r (insV x acc) hr (perm_all p (Bool.and_eq_true_iff.mpr ⟨hx, ha⟩)) (insV_srt h hx ha hs)
    refine ⟨k1, k2.trans ?_⟩
    exact ((List.perm_append_left_iff r).mpr p).trans List.perm_middle
theorem srtV_eq {S : Store} {s : Val → Bool} (h : Shp S 20 s) {l : List Val} (hl : l.all s = true) : srtV l [] = l.mergeSort (leD S) := by
  obtain ⟨k1, k2⟩ := srtV_ok h l [] hl rfl .nil
  rw [List.append_nil] at k2
  have T := leD_tot S
  refine List.Perm.eq_of_pairwise (le := fun a b => leD S a b = true) (fun a b ha hb h1 h2 => ?_) k1 (List.pairwise_mergeSort T.trans (fun a b => by rcases T.total a b with z | z <;> simp [z]) l) (k2.trans (List.mergeSort_perm l _).symm)
  have sa : s a = true := List.all_eq_true.mp hl a (k2.mem_iff.mp ha)
  have sb : s b = true := List.all_eq_true.mp hl b ((List.mergeSort_perm l _).mem_iff.mp hb)
  have g := h.gd a b sa sb
  -- neither is below the other: the rows of signs are the same
  have z1 : dataLt (dat S 20 b) (dat S 20 a) = false := by rw [leD_eq] at h1; simpa using h1
  have z2 : dataLt (dat S 20 a) (dat S 20 b) = false := by rw [leD_eq] at h2; simpa using h2
  have te := PyProof.Rows.lex_total _ _ z2 z1
  have ev : PyData.eqv (dat S 20 a) (dat S 20 b) = true := by
    cases e : PyData.eqv (dat S 20 a) (dat S 20 b) with
    | true => rfl
    | false =>
      have q := (toks_eqv _ _ g.al).2 e [] [.inl 0]
      rw [te, lex_pre] at q
      rw [show PyProof.Rows.lexLt itemOrd [] [.inl 0] = true from rfl] at q
      rw [PyProof.Rows.lex_irrefl] at q
      cases q
  rw [g.ev] at ev
  exact g.eq (by cases e : cmpV 20 a b <;> rw [e] at ev <;> first | rfl | cases ev)
section
variable {X : Cx} {g : Gx} {o : Orc} {W : WX} {pins : List (Addr × PySem.Obj)} {s : Shared} {σ : St} {ρ : G.Env} {m : Mp} {H : Hp} {S : Store}
theorem each_of : ∀ {vs : List Val} {xs : List V} {us : List Value}, RVs m H vs xs → Vals xs us → EachIs (fun u v => ∃ x, RV m H v x ∧ RelV x u) us vs
  | _, _, _, .nil, .nil => .nil
  | _, _, _, .cons h r, .cons k q => .cons ⟨_, h, k⟩ (each_of r q)
theorem of_each : ∀ {vs : List Val} {us : List Value}, EachIs (fun u v => ∃ x, RV m H v x ∧ RelV x u) us vs → ∃ xs, RVs m H vs xs ∧ Vals xs us
  | _, _, .nil => ⟨[], .nil, .nil⟩
  | _, _, .cons ⟨x, h, k⟩ r => let ⟨xs, a, b⟩ := of_each r; ⟨x :: xs, .cons h a, .cons k b⟩
/-- sorted(l) -/
theorem b_sorted (hK : g.K = X.K) (hu : X.A.units + 64 < cLine) : CallR X (.builtin "sorted") (BiR g o bSortV) := by
  intro pins s σ H xs us Q I rvs ⟨m, vs, S, E, rv, rs, pp⟩
  cases rv with
  | nil => exact pp.elim
  | @cons v x vs xs r rr =>
    cases rr with
    | cons _ _ => cases r <;> exact pp.elim
    | nil =>
      obtain ⟨u, rfl, ru⟩ := vals1 rvs
      cases r with
      | @ref n q hq =>
        cases ru
        have p' : PostG g RV m H Q E (match isList (S.get n) with | some vs => (match shapes.any fun s => vs.all s with | true => alloc (.lst (srtV vs [])) S | false => .stuck 103) | .none => .stuck 104) := pp
        cases e0 : isList (S.get n) with
        | none => rw [e0] at p'; exact p'.elim
        | some ws =>
          rw [e0] at p'
          have p2 : PostG g RV m H Q E (match shapes.any fun s => ws.all s with | true => alloc (.lst (srtV ws [])) S | false => .stuck 103) := p'
          cases e1 : shapes.any fun s => ws.all s with
          | false => rw [e1] at p2; exact p2.elim
          | true =>
            rw [e1] at p2
            obtain ⟨sh, hm, hsh⟩ := List.any_eq_true.mp e1
            have T := shapes_ok (S := S) sh hm
            obtain ⟨q', ys, k1, hq', k2, k3⟩ := rs.list (isList_of e0) (RV.ref hq)
            cases k1
            obtain ⟨its, rw_, hl, hz⟩ := I.list (SqL.of k2)
            have es := each_of k3 rw_
            have hs : ∀ a ∈ ws, sh a = true := List.all_eq_true.mp hsh
            have len : ws.length ≤ sizeLine := by rw [k3.length]; exact hz
            refine PySem.W.sorted_data (bs := ws) (enc := dat S 20) (R := fun u v => ∃ x, RV m H v x ∧ RelV x u) hl.isList es ?_ ?_ ?_ len (fun b _ => ?_) fun out ho eo => ?_
            · refine (PySem.W.each_mem es).mono fun u v ⟨⟨x, h1, h2⟩, hv⟩ => ?_
              exact Dp.reads I _ _ _ (dat_ok rs 20 v x (T.dk v (hs v hv)) h1) h2
            · intro d hd d' hd'
              obtain ⟨a, ha, rfl⟩ := List.mem_map.mp hd
              obtain ⟨b, hb, rfl⟩ := List.mem_map.mp hd'
              exact (T.gd a b (hs a ha) (hs b hb)).al
            · refine T.kd.imp (fun k d hd => ?_) fun k d hd => ?_
              · obtain ⟨a, ha, rfl⟩ := List.mem_map.mp hd
                exact k a (hs a ha)
              · obtain ⟨a, ha, rfl⟩ := List.mem_map.mp hd
                obtain ⟨i, e⟩ := k a (hs a ha)
                rw [e]
                exact ⟨by simp, fun xs h => by cases h⟩
            · have := dat_depth S 20 b
              omega
            · have e2 : ws.mergeSort (dataLe false (dat S 20)) = srtV ws [] := (srtV_eq T.toShp hsh).symm
              rw [e2] at eo
              obtain ⟨zs, r1, r2⟩ := of_each eo
              have hlen : zs.length ≤ sizeLine := by rw [r2.length, ho]; exact len
              obtain ⟨ep, he'⟩ := PyProof.Rows.sortedAll_at s.heap its (List.toArray out)
              exact ⟨.ref _, _, I.laid (a := s.heap.objs.size + 1) (o := .lst zs) (t' := s.toks) (fun _ _ => PyProof.Rows.sortedAll_old) (Nat.le_succ _) ⟨hlen, out, ep, r2, he'⟩, rfl, PostG.lst p2 rs r1 _ (I.hok.fresh (Nat.le_succ _))⟩
      | _ => exact pp.elim
end
end G
set_option Elab.async false
set_option linter.all false
set_option maxRecDepth 100000
/-! dict comprehensions -/
namespace G
open PySem PySem.Spec L2
open PyProof.Rows hiding St
theorem ofE_map : ∀ l : List (Val × Val), ofE (l.map dE) = l
  | [] => rfl
  | (k, v) :: r => by rw [List.map_cons]; show (k, v) :: ofE (r.map dE) = _; rw [ofE_map r]
section
variable {X : Cx} {g : Gx} {o : Orc} {W : WX} {pins : List (Addr × PySem.Obj)} {s : Shared} {σ : St} {ρ : G.Env} {m : Mp} {H : Hp} {S : Store} {pos p apos : Pos}
theorem dr_tup (hP : g.P = X.prog) (hw : g.w = X.w) {es : Array DictEntry} {kvs : List (Val × Val)} {k : Val} (h2 : DR g m H kvs es) (ht : isT k = true) (hf : keyFor k kvs = true) :
    ∃ xs kk, es.toList = xs.map (entryOfKey (nestedKind X.prog X.w)) ∧ (xs.map (·.1)).Nodup ∧ Paired (KP m H) kvs xs ∧ kOf k = some kk ∧ kk.depth ≤ 8 := by
  have hf' : (keyIn 8 k && hdK isT kvs) = true := by
    unfold keyFor at hf; rw [ht] at hf; exact hf
  obtain ⟨f1, f2⟩ := Bool.and_eq_true_iff.mp hf'
  obtain ⟨kk, k1, k2⟩ := keyIn_ok 8 k f1
  cases h2 with
  | tup xs he hn hr => exact ⟨xs, kk, by rw [← hP, ← hw]; exact he, hn, hr, k1, k2⟩
  | flat xs hk he hn hr =>
    cases hr with
    | nil =>
      refine ⟨[], kk, ?_, List.nodup_nil, .nil, k1, k2⟩
      cases es' : es.toList with
      | nil => rfl
      | cons b r => rw [es'] at he; cases he
    | @cons kv x kvs xs q r =>
      obtain ⟨b, w⟩ := kv
      have hb : isT b = true := f2
      cases b with
      | tup vs => exact nomatch (show (Option.none : Option Key) = some x.1 from q.1)
      | _ => cases hb
theorem dr_flat (hP : g.P = X.prog) (hw : g.w = X.w) {es : Array DictEntry} {kvs : List (Val × Val)} {k : Val} (h2 : DR g m H kvs es) (ht : isT k = false) (hf : keyFor k kvs = true) :
    ∃ xs kk, PySem.KeysOf (mixKind X.prog X.w) es ∧ Pairs (mixKind X.prog X.w) es.toList xs ∧ (xs.map (·.1)).Nodup ∧ Paired (KF m H) kvs xs ∧ kAt k = some kk := by
  have hf' : (isA k && hdK isA kvs) = true := by
    unfold keyFor at hf; rw [ht] at hf; exact hf
  obtain ⟨f1, f2⟩ := Bool.and_eq_true_iff.mp hf'
  have hk : ∃ kk, kAt k = some kk := by cases k <;> first | exact ⟨_, rfl⟩ | cases f1
  obtain ⟨kk, hk⟩ := hk
  cases h2 with
  | flat xs ho he hn hr => exact ⟨xs, kk, by rw [← hP, ← hw]; exact ho, by rw [← hP, ← hw]; exact he, hn, hr, hk⟩
  | tup xs he hn hr =>
    cases hr with
    | nil =>
      have e0 : es.toList = [] := he
      have e1 : es = #[] := by simpa using e0
      subst e1
      exact ⟨[], kk, fun e h => by simp at h, by exact .nil, List.nodup_nil, .nil, hk⟩
    | @cons kv x kvs xs q r =>
      obtain ⟨b, w⟩ := kv
      have hb : isA b = true := f2
      have hb2 : isT b = true := q.2.1
      cases b <;> first | (cases hb; done) | (cases hb2; done)
/-- an entry put into a dict that stands at D -/
theorem dr_set (hP : g.P = X.prog) (hw : g.w = X.w) (hu : X.A.units + 64 < cLine) {D : Addr} {es : Array DictEntry} {kvs : List (Val × Val)} {k v : Val} {y z : V} {u r : Value} (I : Inv X pins σ H s) (h1 : H D = some (dO D es)) (dr : DR g m H kvs es) (rk : RV m H k y) (ru : RelV y u) (rv : RV m H v z) (rr : RelV z r)
    (hf : keyFor k kvs = true) (hl : kvs.length < maxLen) {Q : Unit → Shared → Prop} {E : Value → Shared → Prop} (h : ∀ s' es', Inv X pins σ (upd H D (dO D es')) s' → DR g m H (dput k v kvs) es' → Q () s') : wpAny (model X.prog X.w) X.A (dictSet D u r) Q E s := by
  obtain ⟨hs, ob0, ep0, g1, g2, g3⟩ := dO_at I h1
  have hz : kvs.length ≤ sizeLine := by rw [← maxLen_eq]; exact Nat.le_of_lt hl
  have fin : ∀ {h' : Heap} {tk : Nat} {es' : Array DictEntry} {ob : PySem.Obj} {ep : Nat}, h'.get? D = some ob → ob.ExactDict → ob.data = .dict es' ep → Heap.SameBut D s.heap h' → DR g m H (dput k v kvs) es' → Q () { s with heap := h', toks := tk } := by
    intro h' tk es' ob ep k1 k2 k3 sb dr
    exact h _ es' (I.write (x := D) (e := D) (by rw [h1]; exact True.intro) (.inl rfl) (fun b w hb q => (sb.2 b hb).trans q) ⟨ob, k1⟩ (dO_ok hs k1 k2 k3)) dr
  cases ht : isT k with
  | true =>
    obtain ⟨xs, kk, h2, h3, h4, h5, h6⟩ := dr_tup hP hw dr ht hf
    have D' := dictOf I h1 h2 h3 h4
    have hky := nested_of I rk ru h5
    have rk' := rk
    cases rk with
    | @tup b ys vs hb rr' =>
      cases ru
      have hkey : (nestedKind X.prog X.w).is s.heap kk b := ⟨hky, h6⟩
      have room : (nestedKind X.prog X.w).room X.A := by show X.A.units + 8 < cLine; omega
      have hn : xs.length ≤ sizeLine := by rw [← paired_len h4]; exact hz
      refine wpAny_dictSet_heap (hsz := hn) room hkey D' fun h' hm' sb => ?_
      obtain ⟨ob, es', ep, k1, k2, k3, k4, _, k6⟩ := hm'
      exact fin k1 k2 k3 sb (.tup _ (by rw [hP, hw]; exact k4) k6 (dput_key ⟨h5, ht, h6, rk', z, rv, rr⟩ h4 h3))
    | _ => cases ht
  | false =>
    obtain ⟨xs, kk, h2, h3, h4, h5, h6⟩ := dr_flat hP hw dr ht hf
    have D' : s.heap.DictOf (mixKind X.prog X.w) D xs := ⟨ob0, es, ep0, g1, g2, g3, h2, h3, h4⟩
    have hkey := kAt_is (P := X.prog) (w := X.w) rk ru h6
    have hn : xs.length ≤ sizeLine := by rw [← paired_len h5]; exact hz
    refine wpAny_dictSet_pairs (hsz := hn) hkey D' fun h' hm' sb => ?_
    obtain ⟨ob, es', ep, k1, k2, k3, k4, k5, k6⟩ := hm'
    refine fin k1 k2 k3 sb (.flat (stored xs kk r) (by rw [hP, hw]; exact k4) (by rw [hP, hw]; exact k5) k6 (dput_at ⟨h6, ?_, z, rv, rr⟩ h5 h4))
    show RV m H k (kV kk)
    rw [← kAt_kV rk h6]; exact rk
/-! ### the state of a dict that grows at D -/
structure LdI (g : Gx) (m0 : Mp) (H0 : Hp) (D : Addr) (m : Mp) (S : Store) (H : Hp) (acc : Acc) : Prop where
  ex : Ex m0 H0 m H
  rs : RS g m S H
  out : D ∉ m.l
  none0 : H0 D = .none
  at_ : ∃ kvs es, acc.2 = kvs.map dE ∧ kvs.length ≤ sizeLine ∧ H D = some (dO D es) ∧ DR g m H kvs es
theorem RS.updOut' {D : Addr} {u v : HO} (rs : RS g m S H) (hD : H D = some v) (iv : imm v = false) (xv : ∀ hs, v ≠ .xd hs) (out : D ∉ m.l) : RS g m S (L2.upd H D u) ∧ Ex0 m H m (L2.upd H D u) := by
  have x : Ex0 m H m (L2.upd H D u) := ⟨rfl, List.prefix_rfl, fun b o h i => by
    have : b ≠ D := by rintro rfl; rw [hD] at h; cases h; rw [iv] at i; cases i
    rw [upd_ne this]; exact h⟩
  refine ⟨⟨rs.K, rs.len, rs.lim, rs.inj, fun n o h => ?_, rs.all, fun b fs h => ?_, rs.he⟩, x⟩
  · obtain ⟨a, h1, h2⟩ := rs.obj n o h
    refine ⟨a, h1, RO.mono0 x (fun v hv => ?_) h2⟩
    have : a ≠ D := by rintro rfl; exact out (List.mem_of_getElem? h1)
    rw [upd_ne this]; exact hv
  · obtain ⟨h1, hs, h2, h3⟩ := rs.xf b fs h
    have : b ≠ D := by rintro rfl; rw [hD] at h2; cases h2; exact xv hs rfl
    exact ⟨h1, hs, by rw [upd_ne this]; exact h2, RF.mono0 x h3⟩
theorem LdI.step {m0 m' : Mp} {H0 H' : Hp} {D : Addr} {S' : Store} {acc : Acc} (l : LdI g m0 H0 D m S H acc) (x : Ex m H m' H') (rs : RS g m' S' H') : LdI g m0 H0 D m' S' H' acc := by
  obtain ⟨kvs, es, h0, hz, h1, h2⟩ := l.at_
  refine ⟨l.ex.trans x, rs, fun q => ?_, l.none0, ⟨kvs, es, h0, hz, x.keep _ _ h1 (.inr l.out), h2.mono0 x.toEx0⟩⟩
  have := x.new D q l.out
  rw [h1] at this; cases this
theorem LdI.ok {m0 : Mp} {H0 : Hp} {D : Addr} : LOk g (LdI g m0 H0 D) := ⟨fun l => l.rs, fun l x rs => l.step x rs, fun l l' => l.ex.ea.trans l'.ex.ea.symm⟩
theorem LdI.put {m0 : Mp} {H0 : Hp} {D : Addr} {acc : Acc} {es es' : Array DictEntry} {kvs' : List (Val × Val)} {n : Nat} (l : LdI g m0 H0 D m S H acc) (hD : H D = some (dO D es)) (dr : DR g m H kvs' es') (hz : kvs'.length ≤ sizeLine) : LdI g m0 H0 D m S (upd H D (dO D es')) (n, kvs'.map dE) ∧ Ex0 m H m (upd H D (dO D es')) := by
  obtain ⟨rs, x⟩ := l.rs.updOut' (u := dO D es') hD rfl (fun _ h => by cases h) l.out
  refine ⟨⟨⟨l.ex.K, l.ex.ea, l.ex.pre, fun b o h c => ?_, l.ex.new⟩, rs, l.out, l.none0, ⟨kvs', es', rfl, hz, upd_same, dr.mono0 x⟩⟩, x⟩
  have : b ≠ D := by rintro rfl; rw [l.none0] at h; cases h
  rw [upd_ne this]; exact l.ex.keep b o h c
theorem LdI.fin {m0 : Mp} {H0 : Hp} {D : Addr} {acc : Acc} {Q : VK} {E : XK} (l : LdI g m0 H0 D m S H acc) (p : PostG g RV m0 H0 Q E (alloc (.dct (ofE acc.2)) S)) : Q (.ref D) H := by
  obtain ⟨kvs, es, h0, hz, h1, h2⟩ := l.at_
  rw [h0, ofE_map] at p
  unfold G.alloc at p
  cases e : Nat.blt S.nx big with
  | false => rw [e] at p; exact p.elim
  | true =>
    rw [e] at p
    have hl : S.nx < big := by simpa [Nat.blt_eq] using e
    have x0 : Ex0 m H (m.add D) H := ⟨rfl, List.prefix_append _ _, fun _ _ q _ => q⟩
    have rs' : RS g (m.add D) (S.new (.dct kvs)) H := l.rs.newAt l.out hl ⟨hz, es, h1, h2.mono0 x0⟩
    have at_ : (m.add D).l[S.nx]? = some D := by
      have h3 : (m.add D).l = m.l ++ [D] := rfl
      rw [h3, ← l.rs.len]; simp
    have xx : Ex m0 H0 (m.add D) H := ⟨l.ex.K, l.ex.ea, l.ex.pre.trans (List.prefix_append _ _), l.ex.keep, fun a h1 h2 => by
      rcases List.mem_append.mp (show a ∈ m.l ++ [D] from h1) with q | q
      · exact l.ex.new a q h2
      · rw [List.mem_singleton.mp q]; exact l.none0⟩
    exact p _ _ _ xx rs' (RV.ref at_)
end
end G
namespace G
open PySem PySem.Spec L2
open PyProof.Rows hiding St
/-- one entry comes to the dict at D, and then Nx holds -/
def DS (X : Cx) (y z : V) (D : Addr) (H : Hp) (Nx : Hp → Prop) : Prop := ∀ (Y : Cx) (pins : List (Addr × PySem.Obj)) (s : Shared) (σ : St) (u r : Value) (Q : Unit → Shared → Prop) (E : Value → Shared → Prop), Y.prog = X.prog → Y.w = X.w → Y.A = X.A → Inv Y pins σ H s → RelV y u → RelV z r →
  (∀ s' H', Inv Y pins σ H' s' → Nx H' → Q () s') → wpAny (model Y.prog Y.w) Y.A (dictSet D u r) Q E s
def bDct (X : Cx) (D : Addr) (tk tv : TE) : Bdy := fun Nx σ H => tk σ H fun y H4 => tv σ H4 fun z H5 => DS X y z D H5 Nx
section
variable {X : Cx} {g : Gx} {o : Orc} {W : WX} {kx vx tg iter : PySem.Expr} {ifs : List PySem.Expr} {scope : Scope} {own : List (Str × Nat)} {pos : Pos}
/-- {kx: vx for tg in iter if ..}, whatever the dict's keys are -/
theorem pe_dcA {wi : TI} {gt : TG} {tt : TT} {tk tv : TE} (hc : X.calm = true) (hN : X.N.Nodup) (hi : PI X tg iter wi) (ok : BlkOk X.N X.env.scope scope own)
    (hg : InBlk X scope fun Y => PG Y tg gt) (ht : InBlk X scope fun Y => PTs Y ifs tt) (hk : InBlk X scope fun Y => PE Y kx tk) (hv : InBlk X scope fun Y => PE Y vx tv) (hs : ∀ x, foldedSetIterable iter X.env x = pure x) :
    PE X (.DictComp kx vx [⟨tg, iter, ifs, 0⟩] scope pos) (fun σ H Q => wi σ H fun J H1 => ∀ D, H1 D = .none → tTurns J gt (own.map (·.2)) σ (bIf tt (bDct X D tk tv)) (fun H => Q (.ref D) H) (upd H1 D (dO D #[]))) := by
  refine ⟨fun pins s0 σ H0 Q I0 wish => ?_⟩
  rw [arm_eval_DictComp]
  have cells : ∀ y ∈ scope.names, y.2 = .free → ∃ c, X.env.cells.lookup y.1 = some c := fun y my fy => (ok.free y my fy).elim (fun k => I0.ok.has _ (.inl k)) fun k => I0.ok.has _ (.inr k)
  refine wpAny_comprehension_free (use := .none) rfl hs (closure_ok cells) ok.kind (fun y my fy => by rw [ok.uniq y my, fy]) (thn (hi.run pins s0 σ H0 _ I0 wish) fun _ _ got => thn got fun _ sa made => ?_)
  obtain ⟨itA, own2, stand, J, Ha, eit, Ia, T, staA, outA, turns⟩ := made
  subst eit
  refine wpAny_newObj_type (newEnv_comp ?_)
  generalize eD : sa.heap.objs.size = D
  have freeD : Ha D = .none := Ia.hok.fresh (Nat.le_of_eq eD)
  obtain ⟨Wish, ⟨n0, w0⟩, turn⟩ := turns D freeD
  generalize esb : ({ sa with heap := sa.heap.push { cls := .type "dict", data := .dict #[] } } : Shared) = sb
  have hb : sb.heap = sa.heap.push { cls := .type "dict", data := .dict #[] } := by rw [← esb]
  have Ib : Inv X pins σ (upd Ha D (dO D #[])) sb := by
    rw [← esb]
    refine Ia.laid (t' := sa.toks) (fun b u e => Heap.get?_push_of_some _ e) (Nat.le_of_eq eD) ?_
    rw [← eD]
    exact dO_ok (beq_eq_false_iff_ne.mpr (Ne.symm (Nat.ne_of_lt Ia.big))) (Heap.get?_push_size _ rfl) ⟨rfl, rfl, rfl⟩ rfl
  have old : ∀ b ∈ own2, b < sa.heap.objs.size := fun b mb => let ⟨_, e, _⟩ := T.obj _ _ staA b mb; Heap.lt_size e
  have outB : ∀ b ∈ own2, FpOk X pins (upd Ha D (dO D #[])) b ∧ b < sb.heap.objs.size := fun b mb => by
    have lt := old b mb
    refine ⟨⟨?_, (outA b mb).2⟩, by rw [hb, Heap.size_push]; exact Nat.lt_succ_of_lt lt⟩
    rw [upd_ne (by rw [← eD]; exact Nat.ne_of_lt lt)]
    exact (outA b mb).1
  have staB : stand 0 sb.heap := T.keep _ _ _ staA fun b _ u e => by rw [hb]; exact Heap.get?_push_of_some _ e
  have Ic := block_start Ib ok hN outB
  -- the parts in the block
  have gT := hg sb (upd Ha D (dO D #[])) sb.heap.objs.size (cellsFrom (sb.heap.objs.size + 1) scope.names (cloFrom X.env.cells scope.names [])) own2
  have gI := ht sb (upd Ha D (dO D #[])) sb.heap.objs.size (cellsFrom (sb.heap.objs.size + 1) scope.names (cloFrom X.env.cells scope.names [])) own2
  have gK := hk sb (upd Ha D (dO D #[])) sb.heap.objs.size (cellsFrom (sb.heap.objs.size + 1) scope.names (cloFrom X.env.cells scope.names [])) own2
  have gV := hv sb (upd Ha D (dO D #[])) sb.heap.objs.size (cellsFrom (sb.heap.objs.size + 1) scope.names (cloFrom X.env.cells scope.names [])) own2
  show codeAny _ _ (.compStart (.DictComp kx vx [⟨tg, iter, ifs, 0⟩] scope pos) 0 (.ref itA) (.ref D) (compEnvC scope (cellsFrom (sb.heap.objs.size + 1) scope.names (cloFrom X.env.cells scope.names [])) sb.heap.objs.size X.env)) (compPost (model X.prog X.w) X.A X.xe .none (EP X pins σ Q) (.ref D) sb.heap.objs.size) { sb with heap := pushCells (sb.heap.push { cls := .type "dict", data := .dict #[] }) scope.names }
  have none2 : ∀ b ∈ own2, (upd Ha D (dO D #[])) b = .none := fun b mb => (outB b mb).1.1
  generalize eenv : compEnvC scope (cellsFrom (sb.heap.objs.size + 1) scope.names (cloFrom X.env.cells scope.names [])) sb.heap.objs.size X.env = benv at Ic gT gI gK gV ⊢
  have eloc : benv.locals = sb.heap.objs.size := by subst eenv; rfl
  generalize eHb : upd Ha D (dO D #[]) = Hb at Ib Ic gT gI gK gV w0 none2 outB
  generalize esc : ({ sb with heap := pushCells (sb.heap.push { cls := .type "dict", data := .dict #[] }) scope.names } : Shared) = sc at Ic ⊢
  have staC : stand 0 sc.heap := T.keep _ _ _ staB fun b _ u e => by rw [← esc]; exact pushCells_keeps _ _ _ _ (Heap.get?_push_of_some _ e)
  have fps : ∀ {σ' : St} {H' : Hp} {s' : Shared}, Inv (X.blk sb Hb scope benv own2) [] σ' H' s' → (∀ b ∈ own2, H' b = .none) → ∀ b ∈ own2, FpOk (X.blk sb Hb scope benv own2) [] H' b := fun {σ' H' s'} I' hn b mb =>
    ⟨hn b mb, (I'.ok.exf b mb).1, I'.ok.exfs b mb, .inl mb, fun x c e => (I'.ok.exf b mb).2 x c e, fun p hp => absurd (show p ∈ ([] : List (Addr × PySem.Obj)) ++ [] from hp) (by simp)⟩
  have body : codeAny (model X.prog X.w) X.A (.compLoop (.DictComp kx vx [⟨tg, iter, ifs, 0⟩] scope pos) 0 (.ref itA) (.ref D) benv) (compPost (model X.prog X.w) X.A X.xe .none (EP X pins σ Q) (.ref D) sb.heap.objs.size) sc := by
    refine compLoop_anyD (fun n s' => ∃ i H', Inv (X.blk sb Hb scope benv own2) [] (L2.wipe σ (own.map (·.2))) H' s' ∧ stand i s'.heap ∧ (∀ b ∈ own2, H' b = .none) ∧ Wish i n H') ?_ n0 ⟨0, Hb, Ic, staC, none2, w0⟩
    rintro n sd ⟨i, Hd, Id, staD, noneD, wD⟩
    rcases turn i n Hd wD with ⟨stop, last⟩ | ⟨more, Nx, hNx, step⟩
    · refine thnF (T.done (X.blk sb Hb scope benv own2) rfl rfl rfl hc i [] sd _ Hd (fun _ _ => False) Id (fps Id noneD) staD stop) fun r se ⟨er, Ie⟩ => ?_
      subst er
      have If : Inv X pins σ Hd se := Ib.call' (ch := own2) Ie.os Ie.base Ie.hok Ie.bare fun b mb => let z := (outB b mb).1; ⟨z.2.2.2.1, z.2.1, z.2.2.2.2.1, z.2.2.2.2.2⟩
      have freeC : Hd sb.heap.objs.size = .none := by
        have z : Hd benv.locals = .none := Ie.free
        rw [eloc] at z; exact z
      obtain ⟨mm, hns, _⟩ := Ie.loc
      have hns : se.heap.Ns benv.locals mm := hns
      rw [eloc] at hns
      obtain ⟨f0, f1, f2, f3, f4, f5⟩ := Ib.fpOk (Nat.le_refl _) freeC
      exact ⟨mm, hns, fun h'' same => ⟨.ref D, Hd, If.turned (t' := se.toks) (fun b u hb e => (same.2 b hb).trans e) f0 f1 f3 f4 f5, rfl, last⟩⟩
    · refine thnF (T.item (X.blk sb Hb scope benv own2) rfl rfl rfl hc i [] sd _ Hd (fun _ _ => False) Id (fps Id noneD) staD more) fun r se ⟨u, er, goes⟩ => ?_
      subst er
      refine thnF goes fun _ sf ⟨x, Hf, If, rf, yf, staF, noneF⟩ => ?_
      have If' := If.pinned (fps If noneF) (T.obj _ _ staF)
      refine thnF (gT.run _ sf _ Hf x u _ If' rf (step x Hf yf)) fun _ sg ⟨σg, Hg, Ig, wiped, afterT⟩ => ?_
      refine thnF (gI.run _ sg σg Hg _ Ig afterT) fun b sh ⟨Hh, Ih, afterI⟩ => ?_
      have back : ∀ {s' : Shared} {H' : Hp}, Inv (X.blk sb Hb scope benv own2) ([] ++ pinsAt own2 sf.heap) σg H' s' → Nx H' → ∃ k, k < n ∧ ∃ i H', Inv (X.blk sb Hb scope benv own2) [] (L2.wipe σ (own.map (·.2))) H' s' ∧ stand i s'.heap ∧ (∀ b ∈ own2, H' b = .none) ∧ Wish i k H' := fun {s' H'} I' nx => by
        obtain ⟨k, lt, w'⟩ := hNx H' nx
        have pinned : ∀ b ∈ own2, ∀ u, sf.heap.get? b = some u → s'.heap.get? b = some u ∧ H' b = .none := fun b mb u e => let z := I'.pin (b, u) (List.mem_append_right _ (List.mem_append_right _ (mem_pinsAt mb e))); ⟨z.1, z.2.1⟩
        refine ⟨k, lt, i + 1, H', (I'.unpinned (pins := [])).weak (by rw [← wiped, wipe_length]) (fun j v e => ?_), T.keep _ _ _ staF fun b mb u e => (pinned b mb u e).1, fun b mb => ?_, w'⟩
        · rw [← wiped] at e; exact (wipe_some e).1
        · obtain ⟨u, e, _⟩ := T.obj _ _ staF b mb
          exact (pinned b mb u e).2
      cases b with
      | false =>
        simp only [Bool.false_eq_true, if_false] at afterI ⊢
        exact back Ih afterI
      | true =>
        simp only [if_true] at afterI ⊢
        refine thnF (gK.run _ sh σg Hh _ Ih afterI) fun ku si ⟨ky, Hi, Ii, rk, afterK⟩ => ?_
        refine thnF (gV.run _ si σg Hi _ Ii afterK) fun vu sj ⟨vy, Hj, Ij, rv, ds⟩ => ?_
        exact ds (X.blk sb Hb scope benv own2) _ sj σg ku vu _ _ rfl rfl rfl Ij rk rv fun s' H' I' nx => back I' nx
  exact codeAny_compStart_dict body (T.self X.A 0 _ _ _ staC body)
end
end G
namespace G
open PySem PySem.Spec L2
open PyProof.Rows hiding St
section
variable {X : Cx} {g : Gx} {o : Orc} {W : WX} {kx vx tg iter : PySem.Expr} {ifs : List PySem.Expr} {scope : Scope} {own : List (Str × Nat)} {pos : Pos} {m0 : Mp} {H0 : Hp} {D : Addr} {ck cv : G.E} {t : G.T} {ci : G.EI}
theorem col_dct (hP : g.P = X.prog) (hw : g.w = X.w) (hu : X.A.units + 64 < cLine) : ColOk g o (LdI g m0 H0 D) (cEltD ck cv) (bDct X D (tM g o Wno ck) (tM g o Wno cv)) := fun m H ρ σ S acc Nx l re p => by
  refine ⟨m, ρ, S, re, l.rs, PostG.mono (PostC.bind p) fun y H4 ⟨m4, k, S4, e4, rs4, rk, p4⟩ => ⟨m4, ρ, S4, re.mono e4, rs4, PostG.mono (PostC.bind p4) fun z H5 ⟨m5, v, S5, e5, rs5, rv, p5⟩ => ?_⟩⟩
  have l5 := (l.step e4 rs4).step e5 rs5
  obtain ⟨kvs, es, h0, hz, h1, h2⟩ := l5.at_
  rw [h0, ofE_map] at p5
  cases e : keyFor k kvs && Nat.blt kvs.length maxLen with
  | false => rw [e] at p5; exact p5.elim
  | true =>
    rw [e] at p5
    obtain ⟨f1, f2⟩ := Bool.and_eq_true_iff.mp e
    have lt : kvs.length < maxLen := by simpa [Nat.blt_eq] using f2
    intro Y pins s σ' u r Q E eP ew eA I ru rr done
    refine dr_set (hP.trans eP.symm) (hw.trans ew.symm) (by rw [eA]; exact hu) I h1 h2 (rk.mono e5) ru rv rr f1 lt fun s' es' I' dr' => ?_
    have hz' : (dput k v kvs).length ≤ sizeLine := by rw [← maxLen_eq]; exact Nat.le_trans (dput_len k v kvs) lt
    obtain ⟨l6, x6⟩ := l5.put (n := acc.1 + 1) h1 dr' hz'
    exact done s' _ I' (p5 m5 _ x6 l6)
theorem dc_ok {k : Col} {B : Addr → Bdy} {vs : List Nat} {σ : St} {H : Hp} {Q : VK} (hk : ∀ m0 H0 D, ColOk g o (LdI g m0 H0 D) k (B D)) (h : tM g o W (eDcD (cFor vs t ci k)) σ H Q) :
    tI g o W ci σ H fun J H1 => ∀ D, H1 D = .none → tTurns J (tEv g o vs t) vs σ (B D) (fun H => Q (.ref D) H) (upd H1 D (dO D #[])) := by
  obtain ⟨m, ρ, S, re, rs, p⟩ := h
  refine ⟨m, ρ, S, re, rs, ?_⟩
  have p2 : PostG g RV m H Q (atS W σ) ((noExc ((ci o ρ S).bind fun it S => cLoop t k o (G.wipe ρ vs) fuel it (0, []) S)).bind fun acc S => alloc (.dct (ofE acc.2)) S) := p
  refine PostG.mono (PostG.bindNo' (rel' := RI g) p2) fun J H1 ⟨m1, it, S1, e1, rs1, ⟨P, wk, p0⟩, p1⟩ D hD => ?_
  have x0 : Ex m1 H1 m1 (upd H1 D (dO D #[])) := Ex.upd hD
  have l : LdI g m1 H1 D m1 S1 (upd H1 D (dO D #[])) (0, []) := ⟨x0, rs1.upd hD, rs1.notIn hD, hD, ⟨[], #[], rfl, Nat.zero_le _, upd_same, .tup [] rfl List.nodup_nil .nil⟩⟩
  refine turns_ok (n := fuel) LdI.ok wk (hk m1 H1 D) l (wk.mono p0 x0.toEx0) ((re.mono e1).mono x0) ?_
  have p3 := PostG.base e1 p1
  revert p3
  cases cLoop t k o (G.wipe ρ vs) fuel it (0, []) S1 with
  | ok acc S2 => exact fun p3 m2 H2 x2 l2 => l2.fin p3
  | exc c fs S2 => exact fun p3 => p3.elim
  | stuck w => exact fun p3 => p3.elim
theorem m_dc {f : Col → Col} (hP : g.P = X.prog) (hw : g.w = X.w) (hu : X.A.units + 64 < cLine) (hc : X.calm = true) (hN : X.N.Nodup) (hi : PI X tg iter (tI g o W ci)) (ok : BlkOk X.N X.env.scope scope own)
    (hg : InBlk X scope fun Y => PG Y tg (tEv g o (own.map (·.2)) t)) (ht : Tst X g o scope ifs f) (hk : InBlk X scope fun Y => PE Y kx (tM g o Wno ck)) (he : InBlk X scope fun Y => PE Y vx (tM g o Wno cv)) (hs : ∀ x, foldedSetIterable iter X.env x = pure x) :
    PE X (.DictComp kx vx [⟨tg, iter, ifs, 0⟩] scope pos) (tM g o W (eDcD (cFor (own.map (·.2)) t ci (f (cEltD ck cv))))) := by
  cases ht with
  | no => exact PE.imp (pe_dcA hc hN hi ok hg (fun _ _ _ _ _ => pts_nil) hk he hs) fun σ H Q h => dc_ok (B := fun D => bIf tYes (bDct X D (tM g o Wno ck) (tM g o Wno cv))) (fun _ _ _ => col_yes (col_dct hP hw hu)) h
  | one h1 => exact PE.imp (pe_dcA hc hN hi ok hg (fun s H C cl fp => pts_one (h1 s H C cl fp)) hk he hs) fun σ H Q h => dc_ok (B := fun D => bIf _ (bDct X D (tM g o Wno ck) (tM g o Wno cv))) (fun _ _ _ => col_if LdI.ok (col_dct hP hw hu)) h
end
end G
set_option Elab.async false
set_option linter.all false
set_option maxRecDepth 100000
/-! what is never come to; facts of own classes -/
namespace G
open PySem PySem.Spec L2
open PyProof.Rows hiding St
section
variable {X : Cx} {g : Gx} {o : Orc} {W : WX} {e tg : PySem.Expr} {st : Stmt}
theorem m_stuck : PE X e (tM g o W eStuck) := ⟨fun pins s σ H Q I ⟨m, ρ, S, re, rs, pp⟩ => pp.elim⟩
theorem i_stuck : PI X tg e (tI g o W iStuck) := ⟨fun pins s σ H R I ⟨m, ρ, S, re, rs, pp⟩ => pp.elim⟩
theorem g_stuck : PG X tg (tE g o tStuck) := ⟨fun pins s σ H x u Q I r ⟨m, ρ, S, v, re, rs, rv, pp⟩ => pp.elim⟩
theorem s_stuck : PS X st (tS g o W sStuck) := ⟨fun pins s σ H D I ⟨m, ρ, S, re, rs, pp⟩ => pp.elim⟩
end
section
variable {K : PySem.W.Frag} {C f : Addr} {m : Str}
def mkB (K : PySem.W.Frag) (C f : Addr) : Bool := PySem.W.makesIn K C && (He.eqO (PySem.W.findIn K (.ref C) "__init__") (some (some (.ref f))) && (PySem.W.isFn K (.ref f) && PySem.W.keepIn K (.ref C)))
theorem mkB_ok (h : mkB K C f = true) : Mk K C f := by
  obtain ⟨h1, h⟩ := Bool.and_eq_true_iff.mp h
  obtain ⟨h2, h⟩ := Bool.and_eq_true_iff.mp h
  obtain ⟨h3, h4⟩ := Bool.and_eq_true_iff.mp h
  exact ⟨h1, He.eqO_ok h2, h3, h4⟩
def methB (K : PySem.W.Frag) (C : Addr) (m : Str) (f : Addr) : Bool := He.eqO (PySem.W.findIn K (.ref C) m) (some (some (.ref f))) && (PySem.W.isFn K (.ref f) && PySem.W.keepIn K (.ref f))
theorem methB_ok (h : methB K C m f = true) : Meth K C m f := by
  obtain ⟨h1, h⟩ := Bool.and_eq_true_iff.mp h
  obtain ⟨h2, h3⟩ := Bool.and_eq_true_iff.mp h
  exact ⟨He.eqO_ok h1, h2, h3⟩
end
end G
set_option Elab.async false
set_option linter.all false
set_option maxRecDepth 100000
/-! zip whose pairs a name holds -/
namespace G
open PySem PySem.Spec L2
open PyProof.Rows hiding St
/-- a zip: what it knows of the pair that it gave out, and whether it saw it held -/
abbrev ZipA (h : Heap) (z TI TO : Addr) (v : Value) (f : Bool) : Prop := h.get? z = some { cls := .type "zip", dict := .none, data := .fields #[v, .bool f, .bool false, .ref TI, .ref TO], slots := #[] }
def Outs (v : Value) : Prop := v = .none ∨ ∃ T : Addr, v = rawInt T
section
variable {P : Program} {w : World} {A : Around} {E : Value → Shared → Prop} {s : Shared} {z TI TO i1 i2 : Addr} {fpA fpB : List Addr} {nA nB i : Nat} {PA PB : Nat → Value → Prop} {SA SB : Nat → Heap → Prop} {y1 y2 v : Value} {f : Bool}
theorem own_free (hz : ZipA s.heap z TI TO v f) (hv : Outs v) {Q : Bool → Shared → Prop} (h1 : Q true s) (h2 : ∀ h', ZipA h' z TI TO v true → Heap.SameBut z s.heap h' → Q false { s with heap := h' }) : wpAny (model P w) A (Builtin.SmallTypes.ownedTupleIsFree (.ref z)) Q E s := by
  unfold Builtin.SmallTypes.ownedTupleIsFree
  refine wpAny_bind (wpAny_field hz rfl (x := v) rfl ?_)
  rcases hv with rfl | ⟨T, rfl⟩
  · exact wpAny_pure h1
  · show wpAny _ _ (loadIfAlive ((T : Int).toNat) >>= _) _ _ _
    rw [Int.toNat_natCast]
    have live : ∀ {R : Option PySem.Obj → Shared → Prop}, R (s.heap.get? T) s → wpAny (model P w) A (loadIfAlive T) R E s := fun h => fun _ _ _ => h
    refine wpAny_bind (live ?_)
    cases s.heap.get? T with
    | none => simp only [Option.isNone_none, if_true]; exact wpAny_pure h1
    | some oT =>
      simp only [Option.isNone_some, Bool.false_eq_true, if_false]
      refine wpAny_bind (wpAny_field hz rfl (x := .bool f) rfl ?_)
      cases f with
      | true =>
        rw [if_neg (show ¬ ((Value.bool true != Value.bool true) = true) from Bool.false_ne_true)]
        exact wpAny_pure (h2 s.heap hz (Heap.SameBut.refl _ _))
      | false =>
        rw [if_pos (show (Value.bool false != Value.bool true) = true from rfl)]
        exact wpAny_bind (wpAny_setField_rec hz (by simp) fun ha za sa => wpAny_pure (h2 ha za sa))
/-- its next pair -/
theorem zipA_item {Q : Value → Shared → Prop} (Sp : ZipSep2 z TI TO i1 i2 fpA fpB) (DA : Draws P w A i1 fpA nA PA SA) (DB : Draws P w A i2 fpB nB PB SB)
    (hz : ZipA s.heap z TI TO v f) (hv : Outs v) (hTI : IsTupOf2 s.heap TI (.ref i1) (.ref i2)) (hTO : IsTupOf2 s.heap TO y1 y2) (stA : SA i s.heap) (stB : SB i s.heap) (ltA : i < nA) (ltB : i < nB)
    (hQ : ∀ x1 x2 v' f' h' tk, PA i x1 → PB i x2 → ZipA h' z TI TO v' f' → Outs v' → (∃ a b, IsTupOf2 h' TO a b) → SA (i + 1) h' → SB (i + 1) h' → IsTupOf2 h' s.heap.objs.size x1 x2 → h'.objs.size = s.heap.objs.size + 1 →
      (∀ c o, c ≠ z → c ≠ TO → c ≠ i1 → c ≠ i2 → s.heap.get? c = some o → h'.get? c = some o) → Q (.ref s.heap.objs.size) { s with heap := h', toks := tk }) :
    wpAny (model P w) A (Builtin.«zip.__next__» ⟨[.ref z], []⟩) (fun fin s' => ∃ u, fin = .done (.ret u) ∧ Q u s') E s := by
  obtain ⟨hq, gl, dd, t0, oo⟩ := s
  show wpAny _ _ (field (.ref z) 2 >>= _) _ _ _
  refine wpAny_bind (wpAny_field hz rfl (x := .bool false) rfl ?_)
  show wpAny _ _ (field (.ref z) 3 >>= _) _ _ _
  refine wpAny_bind (wpAny_field hz rfl (x := .ref TI) rfl ?_)
  refine wpAny_bind (wpAny_seqItems hTI rfl ?_)
  show wpAny _ _ (Builtin.SmallTypes.ownedTupleIsFree (.ref z) >>= _) _ _ _
  refine wpAny_bind (own_free hz hv ?_ fun ha za sa => ?_)
  · -- it takes its own pair again
    simp only [if_true]
    refine wpAny_bind (wpAny_rule ?_)
    refine wpAny_bind (wpAny_field hz rfl (x := .ref TO) rfl ?_)
    refine wpAny_bind (wpAny_setField_rec hz (by simp) fun k0 zk0 sk0 => ?_)
    replace zk0 : ZipA k0 z TI TO .ellipsis f := zk0
    replace sk0 : Heap.SameBut z hq k0 := sk0
    refine wpAny_bind ?_
    simp only [List.zipIdx_cons, List.zipIdx_nil, List.forIn_cons, List.forIn_nil]
    refine wpAny_bind (wpAny_bind (wpAny_onRaise ?_))
    show wpAny _ _ (Builtin.SmallTypes.nextOf (.ref i1) >>= _) _ _ ⟨k0, gl, dd, t0, oo⟩
    refine wpAny_bind (DA.item i _ _ _ ltA (DA.over stA sk0 Sp.zf1) fun x1 k1 t1 px1 nA' sk1 => wpAny_pure ?_)
    replace sk1 : Heap.SameBut i1 k0 k1 := sk1
    have o1 : IsTupOf2 k1 TO y1 y2 := sk1.extBut _ _ Sp.Ti1 (sk0.extBut _ _ Sp.TOz hTO)
    refine wpAny_bind (wpAny_seqItems (s := ⟨k1, gl, dd, t1, oo⟩) o1 rfl ?_)
    refine wpAny_bind (updateSeq_IsTupOf2 (s := ⟨k1, gl, dd, t1, oo⟩) o1 fun k2 o2 sk2 => ?_)
    replace o2 : IsTupOf2 k2 TO x1 y2 := o2
    replace sk2 : Heap.SameBut TO k1 k2 := sk2
    refine wpAny_bind (wpAny_letGo (wpAny_pure ?_))
    refine wpAny_bind (wpAny_bind (wpAny_onRaise ?_))
    show wpAny _ _ (Builtin.SmallTypes.nextOf (.ref i2) >>= _) _ _ ⟨k2, gl, dd, t1, oo⟩
    refine wpAny_bind (DB.item i _ _ _ ltB (DB.over (DB.over (DB.over stB sk0 Sp.zf2) sk1 Sp.sep1_2) sk2 Sp.Tf2) fun x2 k3 t3 px2 nB' sk3 => wpAny_pure ?_)
    replace sk3 : Heap.SameBut i2 k2 k3 := sk3
    have o3 : IsTupOf2 k3 TO x1 y2 := sk3.extBut _ _ Sp.Ti2 o2
    refine wpAny_bind (wpAny_seqItems (s := ⟨k3, gl, dd, t3, oo⟩) o3 rfl ?_)
    refine wpAny_bind (updateSeq_IsTupOf2 (s := ⟨k3, gl, dd, t3, oo⟩) o3 fun k4 o4 sk4 => ?_)
    replace o4 : IsTupOf2 k4 TO x1 x2 := o4
    replace sk4 : Heap.SameBut TO k3 k4 := sk4
    refine wpAny_bind (wpAny_letGo (wpAny_pure (wpAny_pure ?_)))
    refine wpAny_bind (wpAny_seqItems (s := ⟨k4, gl, dd, t3, oo⟩) o4 rfl ?_)
    refine wpAny_bind (wpAny_newTuple ?_)
    have esz : k4.objs.size = hq.objs.size := by rw [sk4.1, sk3.1, sk2.1, sk1.1, sk0.1]
    have zk4 : ZipA k4 z TI TO .ellipsis f := sk4.extBut _ _ Sp.TOz.symm (sk3.extBut _ _ Sp.zi2 (sk2.extBut _ _ Sp.TOz.symm (sk1.extBut _ _ Sp.zi1 zk0)))
    have rest : ∀ c o, c ≠ z → c ≠ TO → c ≠ i1 → c ≠ i2 → hq.get? c = some o → k4.get? c = some o := fun c o c1 c2 c3 c4 e =>
      sk4.extBut _ _ c2 (sk3.extBut _ _ c4 (sk2.extBut _ _ c2 (sk1.extBut _ _ c3 (sk0.extBut _ _ c1 e))))
    have endA : SA (i + 1) k4 := DA.over (DA.over (DA.over nA' sk2 Sp.Tf1) sk3 Sp.sep2_1) sk4 Sp.Tf1
    have endB : SB (i + 1) k4 := DB.over nB' sk4 Sp.Tf2
    have ltz : z < k4.objs.size := Heap.lt_size zk4
    show wpAny _ _ (Builtin.SmallTypes.ownedTupleHandOut (.ref z) (.ref k4.objs.size) >>= _) _ _ ⟨k4.push { cls := .type "tuple", data := .seq #[x1, x2] }, gl, dd, t3, oo⟩
    refine wpAny_bind ?_
    unfold Builtin.SmallTypes.ownedTupleHandOut
    have zk5 : ZipA (k4.push { cls := .type "tuple", data := .seq #[x1, x2] }) z TI TO .ellipsis f := Heap.get?_push_of_some _ zk4
    refine wpAny_bind (wpAny_setField_rec zk5 (by simp) fun k6 zk6 sk6 => ?_)
    replace zk6 : ZipA k6 z TI TO (rawInt k4.objs.size) f := zk6
    refine wpAny_setField_rec zk6 (by simp) fun k7 zk7 sk7 => ?_
    replace zk7 : ZipA k7 z TI TO (rawInt k4.objs.size) false := zk7
    replace sk6 : Heap.SameBut z (k4.push { cls := .type "tuple", data := .seq #[x1, x2] }) k6 := sk6
    replace sk7 : Heap.SameBut z k6 k7 := sk7
    have up : ∀ c o, c ≠ z → k4.get? c = some o → k7.get? c = some o := fun c o c1 e => sk7.extBut _ _ c1 (sk6.extBut _ _ c1 (Heap.get?_push_of_some _ e))
    have new : IsTupOf2 k7 k4.objs.size x1 x2 := sk7.extBut _ _ (Nat.ne_of_gt ltz) (sk6.extBut _ _ (Nat.ne_of_gt ltz) (Heap.get?_push_size _ rfl))
    have es7 : k7.objs.size = k4.objs.size + 1 := by rw [sk7.1, sk6.1, Heap.size_push]
    have zf : ZipA k7 z TI TO (rawInt k4.objs.size) false := zk7
    rw [esz] at new es7
    refine wpAny_pure ⟨_, rfl, ?_⟩
    show Q (.ref k4.objs.size) ⟨k7, gl, dd, t3, oo⟩
    rw [esz]
    exact hQ x1 x2 _ _ k7 t3 px1 px2 zf (.inr ⟨_, rfl⟩) ⟨_, _, up _ _ Sp.TOz o4⟩ (DA.frame _ _ _ endA fun b hb o e => up b o (fun q => Sp.zf1 (q ▸ hb)) e) (DB.frame _ _ _ endB fun b hb o e => up b o (fun q => Sp.zf2 (q ▸ hb)) e) new es7 fun c o c1 c2 c3 c4 e => up c o c1 (rest c o c1 c2 c3 c4 e)
  · -- a new pair
    simp only [Bool.false_eq_true, if_false]
    refine wpAny_bind ?_
    rw [← Array.forIn_toList]
    simp only [List.forIn_cons, List.forIn_nil]
    replace sa : Heap.SameBut z hq ha := sa
    refine wpAny_bind (wpAny_bind (wpAny_holding ?_))
    show wpAny _ _ (Builtin.SmallTypes.nextOf (.ref i1) >>= _) _ _ ⟨ha, gl, dd, t0, oo⟩
    refine wpAny_bind (DA.item i _ _ _ ltA (DA.over stA sa Sp.zf1) fun x1 k1 t1 px1 nA' sk1 => wpAny_pure ?_)
    replace sk1 : Heap.SameBut i1 ha k1 := sk1
    refine wpAny_pure ?_
    refine wpAny_bind (wpAny_bind (wpAny_holding ?_))
    show wpAny _ _ (Builtin.SmallTypes.nextOf (.ref i2) >>= _) _ _ ⟨k1, gl, dd, t1, oo⟩
    refine wpAny_bind (DB.item i _ _ _ ltB (DB.over (DB.over stB sa Sp.zf2) sk1 Sp.sep1_2) fun x2 k2 t2 px2 nB' sk2 => wpAny_pure ?_)
    replace sk2 : Heap.SameBut i2 k1 k2 := sk2
    refine wpAny_pure (wpAny_pure ?_)
    show wpAny _ _ (newTuple [x1, x2] >>= _) _ _ ⟨k2, gl, dd, t2, oo⟩
    refine wpAny_bind (wpAny_newTuple ?_)
    have esz : k2.objs.size = hq.objs.size := by rw [sk2.1, sk1.1, sa.1]
    have zk2 : ZipA k2 z TI TO v true := sk2.extBut _ _ Sp.zi2 (sk1.extBut _ _ Sp.zi1 za)
    have rest : ∀ c o, c ≠ z → c ≠ i1 → c ≠ i2 → hq.get? c = some o → k2.get? c = some o := fun c o c1 c3 c4 e => sk2.extBut _ _ c4 (sk1.extBut _ _ c3 (sa.extBut _ _ c1 e))
    have endA : SA (i + 1) k2 := DA.over nA' sk2 Sp.sep2_1
    refine wpAny_pure ⟨_, rfl, ?_⟩
    show Q (.ref k2.objs.size) ⟨_, gl, dd, t2, oo⟩
    have new : IsTupOf2 (k2.push { cls := .type "tuple", data := .seq #[x1, x2] }) k2.objs.size x1 x2 := Heap.get?_push_size _ rfl
    have es3 : (k2.push { cls := .type "tuple", data := .seq #[x1, x2] }).objs.size = k2.objs.size + 1 := Heap.size_push ..
    rw [esz] at new es3 ⊢
    exact hQ x1 x2 v true _ t2 px1 px2 (Heap.get?_push_of_some _ zk2) hv ⟨y1, y2, Heap.get?_push_of_some _ (rest _ _ Sp.TOz Sp.Ti1 Sp.Ti2 hTO)⟩ (DA.frame _ _ _ endA fun b hb o e => Heap.get?_push_of_some _ e) (DB.frame _ _ _ nB' fun b hb o e => Heap.get?_push_of_some _ e) new es3 fun c o c1 _ c3 c4 e => Heap.get?_push_of_some _ (rest c o c1 c3 c4 e)
end
end G
namespace G
open PySem PySem.Spec L2
open PyProof.Rows hiding St
section
variable {P : Program} {w : World} {A : Around} {E : Value → Shared → Prop} {s : Shared} {z TI TO i1 i2 : Addr} {fpA fpB : List Addr} {nA nB i : Nat} {PA PB : Nat → Value → Prop} {SA SB : Nat → Heap → Prop} {y1 y2 v : Value} {f : Bool}
theorem zipA_end {Q : PySem.Fin → Shared → Prop} (Sp : ZipSep2 z TI TO i1 i2 fpA fpB) (DA : Draws P w A i1 fpA nA PA SA) (DB : Draws P w A i2 fpB nB PB SB)
    (hz : ZipA s.heap z TI TO v f) (hv : Outs v) (hTI : IsTupOf2 s.heap TI (.ref i1) (.ref i2)) (hTO : IsTupOf2 s.heap TO y1 y2) (stA : SA i s.heap) (stB : SB i s.heap) (leA : i ≤ nA) (leB : i ≤ nB) (last : i = nA ∨ i = nB)
    (hE : ∀ h' tk e, (∀ c o, c ≠ z → c ≠ TO → c ≠ i1 → c ≠ i2 → s.heap.get? c = some o → h'.get? c = some o) → (∃ o, h'.get? e = some o ∧ o.cls = .type "StopIteration") → E (.ref e) { s with heap := h', toks := tk }) :
    wpAny (model P w) A (Builtin.«zip.__next__» ⟨[.ref z], []⟩) Q E s := by
  obtain ⟨hq, gl, dd, t0, oo⟩ := s
  show wpAny _ _ (field (.ref z) 2 >>= _) _ _ _
  refine wpAny_bind (wpAny_field hz rfl (x := .bool false) rfl ?_)
  show wpAny _ _ (field (.ref z) 3 >>= _) _ _ _
  refine wpAny_bind (wpAny_field hz rfl (x := .ref TI) rfl ?_)
  refine wpAny_bind (wpAny_seqItems hTI rfl ?_)
  show wpAny _ _ (Builtin.SmallTypes.ownedTupleIsFree (.ref z) >>= _) _ _ _
  refine wpAny_bind (own_free hz hv ?_ fun ha za sa => ?_)
  · simp only [if_true]
    refine wpAny_bind (wpAny_rule ?_)
    refine wpAny_bind (wpAny_field hz rfl (x := .ref TO) rfl ?_)
    refine wpAny_bind (wpAny_setField_rec hz (by simp) fun k0 zk0 sk0 => ?_)
    replace zk0 : ZipA k0 z TI TO .ellipsis f := zk0
    replace sk0 : Heap.SameBut z hq k0 := sk0
    refine wpAny_bind ?_
    simp only [List.zipIdx_cons, List.zipIdx_nil, List.forIn_cons, List.forIn_nil]
    have out : ∀ {k : Heap} {tk : Nat} {e : Addr} {j : Addr} {kq : Heap}, ZipA kq z TI TO .ellipsis f → Heap.ExtBut j kq k → z ≠ j → (∃ o, k.get? e = some o ∧ o.cls = .type "StopIteration") → (∀ c o, c ≠ z → c ≠ TO → c ≠ i1 → c ≠ i2 → hq.get? c = some o → k.get? c = some o) →
        wpAny (model P w) A (setField (.ref z) 0 .none) (fun _ s' => E (.ref e) s') E ⟨k, gl, dd, tk, oo⟩ := by
      intro k tk e j kq zq xq nj he rest
      obtain ⟨oe, he1, he2⟩ := he
      have zk : ZipA k z TI TO .ellipsis f := xq _ _ nj zq
      have ne : e ≠ z := fun q => by subst q; rw [zk] at he1; cases he1; simp at he2
      refine wpAny_setField_rec (s := ⟨k, gl, dd, tk, oo⟩) zk (by simp) fun k' _ sk' => ?_
      replace sk' : Heap.SameBut z k k' := sk'
      exact hE k' tk e (fun c o c1 c2 c3 c4 q => sk'.extBut _ _ c1 (rest c o c1 c2 c3 c4 q)) ⟨oe, sk'.extBut _ _ ne he1, he2⟩
    refine wpAny_bind (wpAny_bind (wpAny_onRaise ?_))
    show wpAny _ _ (Builtin.SmallTypes.nextOf (.ref i1) >>= _) _ _ ⟨k0, gl, dd, t0, oo⟩
    by_cases ltA : i < nA
    · refine wpAny_bind (DA.item i _ _ _ ltA (DA.over stA sk0 Sp.zf1) fun x1 k1 t1 px1 nA' sk1 => wpAny_pure ?_)
      replace sk1 : Heap.SameBut i1 k0 k1 := sk1
      have o1 : IsTupOf2 k1 TO y1 y2 := sk1.extBut _ _ Sp.Ti1 (sk0.extBut _ _ Sp.TOz hTO)
      refine wpAny_bind (wpAny_seqItems (s := ⟨k1, gl, dd, t1, oo⟩) o1 rfl ?_)
      refine wpAny_bind (updateSeq_IsTupOf2 (s := ⟨k1, gl, dd, t1, oo⟩) o1 fun k2 o2 sk2 => ?_)
      replace sk2 : Heap.SameBut TO k1 k2 := sk2
      refine wpAny_bind (wpAny_letGo (wpAny_pure ?_))
      have ei : i = nB := by omega
      refine wpAny_bind (wpAny_bind (wpAny_onRaise ?_))
      show wpAny _ _ (Builtin.SmallTypes.nextOf (.ref i2) >>= _) _ _ ⟨k2, gl, dd, t1, oo⟩
      refine wpAny_bind (DB.done ⟨k2, gl, dd, t1, oo⟩ _ _ (by rw [← ei]; exact DB.over (DB.over (DB.over stB sk0 Sp.zf2) sk1 Sp.sep1_2) sk2 Sp.Tf2) fun k3 e x3 he => ?_)
      replace x3 : Heap.ExtBut i2 k2 k3 := x3
      exact out (sk2.extBut _ _ Sp.TOz.symm (sk1.extBut _ _ Sp.zi1 zk0)) x3 Sp.zi2 he fun c o c1 c2 c3 c4 q => x3 _ _ c4 (sk2.extBut _ _ c2 (sk1.extBut _ _ c3 (sk0.extBut _ _ c1 q)))
    · have ei : i = nA := by omega
      refine wpAny_bind (DA.done ⟨k0, gl, dd, t0, oo⟩ _ _ (by rw [← ei]; exact DA.over stA sk0 Sp.zf1) fun k1 e x1 he => ?_)
      replace x1 : Heap.ExtBut i1 k0 k1 := x1
      exact out zk0 x1 Sp.zi1 he fun c o c1 c2 c3 c4 q => x1 _ _ c3 (sk0.extBut _ _ c1 q)
  · simp only [Bool.false_eq_true, if_false]
    refine wpAny_bind ?_
    rw [← Array.forIn_toList]
    simp only [List.forIn_cons, List.forIn_nil]
    replace sa : Heap.SameBut z hq ha := sa
    refine wpAny_bind (wpAny_bind (wpAny_holding ?_))
    show wpAny _ _ (Builtin.SmallTypes.nextOf (.ref i1) >>= _) _ _ ⟨ha, gl, dd, t0, oo⟩
    by_cases ltA : i < nA
    · refine wpAny_bind (DA.item i _ _ _ ltA (DA.over stA sa Sp.zf1) fun x1 k1 t1 px1 nA' sk1 => wpAny_pure ?_)
      replace sk1 : Heap.SameBut i1 ha k1 := sk1
      refine wpAny_pure ?_
      have ei : i = nB := by omega
      refine wpAny_bind (wpAny_bind (wpAny_holding ?_))
      show wpAny _ _ (Builtin.SmallTypes.nextOf (.ref i2) >>= _) _ _ ⟨k1, gl, dd, t1, oo⟩
      refine wpAny_bind (DB.done ⟨k1, gl, dd, t1, oo⟩ _ _ (by rw [← ei]; exact DB.over (DB.over stB sa Sp.zf2) sk1 Sp.sep1_2) fun k2 e x2 he => ?_)
      replace x2 : Heap.ExtBut i2 k1 k2 := x2
      exact hE k2 t1 e (fun c o c1 c2 c3 c4 q => x2 _ _ c4 (sk1.extBut _ _ c3 (sa.extBut _ _ c1 q))) he
    · have ei : i = nA := by omega
      refine wpAny_bind (DA.done ⟨ha, gl, dd, t0, oo⟩ _ _ (by rw [← ei]; exact DA.over stA sa Sp.zf1) fun k1 e x1 he => ?_)
      replace x1 : Heap.ExtBut i1 ha k1 := x1
      exact hE k1 t0 e (fun c o c1 c2 c3 c4 q => x1 _ _ c3 (sa.extBut _ _ c1 q)) he
theorem next_zipA {Q : Option Value → Shared → Prop} (Sp : ZipSep2 z TI TO i1 i2 fpA fpB) (DA : Draws P w A.in1 i1 fpA nA PA SA) (DB : Draws P w A.in1 i2 fpB nB PB SB)
    (hz : ZipA s.heap z TI TO v f) (hv : Outs v) (hTI : IsTupOf2 s.heap TI (.ref i1) (.ref i2)) (hTO : IsTupOf2 s.heap TO y1 y2) (stA : SA i s.heap) (stB : SB i s.heap) (ltA : i < nA) (ltB : i < nB)
    (hQ : ∀ x1 x2 v' f' h' tk, PA i x1 → PB i x2 → ZipA h' z TI TO v' f' → Outs v' → (∃ a b, IsTupOf2 h' TO a b) → SA (i + 1) h' → SB (i + 1) h' → IsTupOf2 h' s.heap.objs.size x1 x2 → h'.objs.size = s.heap.objs.size + 1 →
      (∀ c o, c ≠ z → c ≠ TO → c ≠ i1 → c ≠ i2 → s.heap.get? c = some o → h'.get? c = some o) → Q (some (.ref s.heap.objs.size)) { s with heap := h', toks := tk }) :
    wpAny (model P w) A (pyNext (.ref z)) Q E s := by
  have ty : s.TypeIs (.ref z) "zip" := ⟨_, hz, rfl⟩
  unfold pyNext
  exact wpAny_bind (wpAny_attempt (wpAny_callSpecial?_slot (name := Str.ofString "__next__") ty F.slot_zip_next
    (wpAny_call_entry F.slot_zip_next ty F.entry_zip_next (zipA_item Sp DA DB hz hv hTI hTO stA stB ltA ltB fun x1 x2 v' f' h' tk a b c d e g1 g2 g3 g4 g5 => wpAny_pure (hQ x1 x2 v' f' h' tk a b c d e g1 g2 g3 g4 g5)) (F.args_zip_next_1 _))))
theorem stop_zipA {Q : Option Value → Shared → Prop} (Sp : ZipSep2 z TI TO i1 i2 fpA fpB) (DA : Draws P w A.in1 i1 fpA nA PA SA) (DB : Draws P w A.in1 i2 fpB nB PB SB)
    (hz : ZipA s.heap z TI TO v f) (hv : Outs v) (hTI : IsTupOf2 s.heap TI (.ref i1) (.ref i2)) (hTO : IsTupOf2 s.heap TO y1 y2) (stA : SA i s.heap) (stB : SB i s.heap) (leA : i ≤ nA) (leB : i ≤ nB) (last : i = nA ∨ i = nB)
    (hQ : ∀ h' tk, (∀ c o, c ≠ z → c ≠ TO → c ≠ i1 → c ≠ i2 → s.heap.get? c = some o → h'.get? c = some o) → Q .none { s with heap := h', toks := tk }) : wpAny (model P w) A (pyNext (.ref z)) Q E s := by
  have ty : s.TypeIs (.ref z) "zip" := ⟨_, hz, rfl⟩
  unfold pyNext
  refine wpAny_bind (wpAny_attempt (wpAny_callSpecial?_slot (name := Str.ofString "__next__") ty F.slot_zip_next
    (wpAny_call_entry F.slot_zip_next ty F.entry_zip_next (zipA_end Sp DA DB hz hv hTI hTO stA stB leA leB last fun h' tk e rest he => ?_) (F.args_zip_next_1 _))))
  obtain ⟨oe, he1, he2⟩ := he
  refine wpAny_bind (wpAny_isInstance (T := "StopIteration") (b := true) ⟨oe, he1, he2⟩ isSubtype_stop ?_)
  exact wpAny_pure (hQ _ _ rest)
end
/-- a zip that is walked by a target that unpacks nothing -/
theorem turn_zipA {P : Program} {w : World} {K : PySem.W.Frag} {tg : PySem.Expr} (ht : ∀ it v, letOwnedTupleGo tg it v = pure ()) (k l : SK) (z TI TO i1 i2 : Addr) (nd : [z, TI, TO, i1, i2].Nodup) :
    Turn P w K tg (Jzip k l) [z, TI, TO, i1, i2] z (fun i h => (∃ v f, ZipA h z TI TO v f ∧ Outs v) ∧ IsTupOf2 h TI (.ref i1) (.ref i2) ∧ (∃ a b, IsTupOf2 h TO a b) ∧ k.stt i1 i h ∧ l.stt i2 i h) := by
  have n0 : ¬ z = TI ∧ ¬ z = TO ∧ ¬ z = i1 ∧ ¬ z = i2 ∧ ¬ TI = TO ∧ ¬ TI = i1 ∧ ¬ TI = i2 ∧ ¬ TO = i1 ∧ ¬ TO = i2 ∧ ¬ i1 = i2 := by
    simp [List.nodup_cons] at nd
    obtain ⟨⟨a, b, c, d⟩, ⟨e, f, g⟩, ⟨h, i⟩, j⟩ := nd
    exact ⟨a, b, c, d, e, f, g, h, i, j⟩
  obtain ⟨zTI, zTO, zi1, zi2, TITO, TIi1, TIi2, TOi1, TOi2, i12⟩ := n0
  have sep : ∀ {X : Cx} {pins : List (Addr × PySem.Obj)} {H : Hp} {fp1 fp2 : List Addr}, (∀ b ∈ [z, TI, TO, i1, i2], FpOk X pins H b) → i1 ∈ fp1 → i2 ∈ fp2 → (∀ b ∈ fp1, b = i1 ∨ H b ≠ .none) → (∀ b ∈ fp2, b = i2 ∨ H b ≠ .none) → ZipSep2 z TI TO i1 i2 fp1 fp2 := by
    intro X pins H fp1 fp2 hf m1 m2 b1 b2
    have no1 : ∀ b ∈ [z, TI, TO, i1, i2], b ≠ i1 → b ∉ fp1 := fun b hb hn q => (b1 b q).elim hn fun q2 => q2 (hf b hb).1
    have no2 : ∀ b ∈ [z, TI, TO, i1, i2], b ≠ i2 → b ∉ fp2 := fun b hb hn q => (b2 b q).elim hn fun q2 => q2 (hf b hb).1
    exact ⟨Ne.symm zTI, Ne.symm zTO, TITO, TIi1, m1, no1 z (by simp) zi1, no1 TO (by simp) TOi1, TIi2, m2, no2 z (by simp) zi2, no2 TO (by simp) TOi2, no2 i1 (by simp) i12, no1 i2 (by simp) (Ne.symm i12)⟩
  have ob : ∀ i h, ((∃ v f, ZipA h z TI TO v f ∧ Outs v) ∧ IsTupOf2 h TI (.ref i1) (.ref i2) ∧ (∃ a b, IsTupOf2 h TO a b) ∧ k.stt i1 i h ∧ l.stt i2 i h) → ∀ b ∈ [z, TI, TO, i1, i2], ∃ o, h.get? b = some o ∧ ∀ v, o.data ≠ .cell v := by
    rintro i h ⟨⟨v, f, hz, _⟩, hTI, ⟨a, b', hTO⟩, h1, h2⟩ c hcm
    have e' : c = z ∨ c = TI ∨ c = TO ∨ c = i1 ∨ c = i2 := by simpa using hcm
    rcases e' with q | q | q | q | q
    · rw [q]; exact ⟨_, hz, fun v q => nomatch q⟩
    · rw [q]; exact ⟨_, hTI, fun v q => nomatch q⟩
    · rw [q]; exact ⟨_, hTO, fun v q => nomatch q⟩
    · rw [q]; exact SK.stt_obj (k := k) h1
    · rw [q]; exact SK.stt_obj (k := l) h2
  refine { mem := by simp, obj := ob, keep := fun i h h' st kp => ?_, item := ?_, done := ?_, self := fun A i s Q E st h => ?_ }
  · obtain ⟨⟨v, f, hz, hv⟩, hTI, ⟨a, b, hTO⟩, h1, h2⟩ := st
    exact ⟨⟨v, f, kp z (by simp) _ hz, hv⟩, kp TI (by simp) _ hTI, ⟨a, b, kp TO (by simp) _ hTO⟩, SK.stt_at (k := k) h1 fun o q => kp i1 (by simp) o q, SK.stt_at (k := l) h2 fun o q => kp i2 (by simp) o q⟩
  · intro X hP hw hK hc i pins s σ H E I hf st hg
    have hd := I.ok.hd hc
    have st0 := st
    obtain ⟨⟨v, f, hz, hv⟩, hTI, ⟨a, b, hTO⟩, h1, h2⟩ := st
    obtain ⟨xs, ys, x, y, c1, c2, hx, hy⟩ := hg
    obtain ⟨fp1, P1, S1, D1, s1, p1, q1, m1, b1⟩ := SK.draws (A := X.A.in1) (in1_handled hd) I c1 h1 (hf i1 (by simp)).1
    obtain ⟨fp2, P2, S2, D2, s2, p2, q2, m2, b2⟩ := SK.draws (A := X.A.in1) (in1_handled hd) I c2 h2 (hf i2 (by simp)).1
    subst hP hw hK
    refine next_zipA (sep hf m1 m2 b1 b2) D1 D2 hz hv hTI hTO s1 s2 (List.getElem?_eq_some_iff.mp hx).1 (List.getElem?_eq_some_iff.mp hy).1 fun u1 u2 v' f' h' tk pu1 pu2 hz' hv' hTO' n1 n2 new esz rest => ?_
    obtain ⟨x', e4, r1⟩ := p1 i u1 pu1
    obtain ⟨y', e5, r2⟩ := p2 i u2 pu2
    refine ⟨_, rfl, ?_⟩
    rw [ht]
    have newT : ObjOk X.prog X.w (upd H s.heap.objs.size (.tup [x', y'])) h' s.heap.objs.size (.tup [x', y']) := ⟨by show 2 ≤ sizeLine; decide, [u1, u2], .cons r1 (.cons r2 .nil), ⟨_, new, rfl, _, rfl⟩⟩
    have out : ∀ c o, c ∉ [z, TI, TO, i1, i2] → s.heap.get? c = some o → h'.get? c = some o := fun c o hc q => rest c o (fun q' => hc (by simp [q'])) (fun q' => hc (by simp [q'])) (fun q' => hc (by simp [q'])) (fun q' => hc (by simp [q'])) q
    have I1 : Inv X pins σ (upd H s.heap.objs.size (.tup [x', y'])) { s with heap := h', toks := tk } := I.turnedNew (ch := [z, TI, TO, i1, i2]) (fun c o hc q => out c o hc q) hf (Nat.le_refl _) newT
    refine wpAny_pure ⟨.ref s.heap.objs.size, _, I1, rfl, ⟨s.heap.objs.size, x', y', rfl, I.hok.fresh (Nat.le_refl _), rfl, fun zs hzs => by rw [SK.uniq hzs c1]; exact e4, fun zs hzs => by rw [SK.uniq hzs c2]; exact e5⟩, ⟨⟨v', f', hz', hv'⟩, rest _ _ (Ne.symm zTI) TITO TIi1 TIi2 hTI, hTO', q1 _ _ n1, q2 _ _ n2⟩, fun b hb => ?_⟩
    obtain ⟨o, e, _⟩ := ob i _ st0 b hb
    rw [upd_ne (Nat.ne_of_lt (Heap.lt_size e))]; exact (hf b hb).1
  · intro X hP hw hK hc i pins s σ H E I hf st hg
    have hd := I.ok.hd hc
    obtain ⟨⟨v, f, hz, hv⟩, hTI, ⟨a, b, hTO⟩, h1, h2⟩ := st
    obtain ⟨xs, ys, c1, c2, he⟩ := hg
    obtain ⟨fp1, P1, S1, D1, s1, p1, q1, m1, b1⟩ := SK.draws (A := X.A.in1) (in1_handled hd) I c1 h1 (hf i1 (by simp)).1
    obtain ⟨fp2, P2, S2, D2, s2, p2, q2, m2, b2⟩ := SK.draws (A := X.A.in1) (in1_handled hd) I c2 h2 (hf i2 (by simp)).1
    subst hP hw hK
    refine stop_zipA (sep hf m1 m2 b1 b2) D1 D2 hz hv hTI hTO s1 s2 (by omega) (by omega) (by omega) fun h' tk rest => ⟨rfl, I.turnedL (ch := [z, TI, TO, i1, i2]) (fun c o hc q => rest c o (fun q' => hc (by simp [q'])) (fun q' => hc (by simp [q'])) (fun q' => hc (by simp [q'])) (fun q' => hc (by simp [q'])) q) hf⟩
  · obtain ⟨⟨v, f, hz, _⟩, _⟩ := st
    have ty : s.TypeIs (.ref z) "zip" := ⟨_, hz, rfl⟩
    refine wpAny_pyIter_slot ty F.slot_zip_iter (wpAny_call_entry F.slot_zip_iter ty F.entry_zip_iter (by show wpAny _ _ (ret (.ref z)) _ _ s; exact wpAny_pure ⟨_, rfl, "zip", _, ty, F.slot_zip_next.lookup, h⟩) (F.args_zip_iter_1 _))
section
variable {X : Cx} {g : Gx} {o : Orc} {W : WX} {pins : List (Addr × PySem.Obj)} {s : Shared} {σ : St} {ρ : G.Env} {m : Mp} {H : Hp} {S : Store} {a b tg : PySem.Expr} {cs : G.EL} {p pos : Pos}
theorem i_zipN (ht : ∀ it v, letOwnedTupleGo tg it v = pure ()) (hg : Gl X "zip") (hm : X.mg "zip" = .none) (ha : PA X [a, b] (tL g o W cs)) (hs : starEach [a, b] X.env = (false, eval a X.env) :: starEach [b] X.env) (hpl : (backTo pos (starEach [b] X.env)).any (·.1) = false) :
    PI X tg (.Call (.Name "zip" p) [a, b] [] pos) (tI g o W (iZip cs)) := by
  refine ⟨fun pins s σ H R I ⟨m, ρ, S, re, rs, pp⟩ => ?_⟩
  refine Call_ (ld_blt I hg hm PyProof.Rows.boot_zip (PyProof.Rows.callWith_type1 (thnL (pos := pos) ha I re rs pp fun us s1 vs S1 m1 H1 xs I1 r1 rv1 rs1 re1 e1 p1 => ?_) hs hpl))
  cases rv1 with
  | nil => exact p1.elim
  | @cons v x vs xs rv rvs =>
    cases rvs with
    | nil => exact p1.elim
    | @cons w y vs xs rw_ rvs =>
      cases rvs with
      | cons _ _ => exact p1.elim
      | nil =>
        cases r1 with
        | cons r rr =>
          cases rr with
          | cons r' rr =>
            cases rr
            have p2 : PostG g (RI g) m1 H1 R (atS W σ) (match toIt v S1, toIt w S1 with | some a, some b => .ok (.zip a b) S1 | _, _ => .stuck 70) := p1
            cases e2 : toIt v S1 with
            | none => rw [e2] at p2; exact p2.elim
            | some it =>
              cases e3 : toIt w S1 with
              | none => rw [e2, e3] at p2; exact p2.elim
              | some it2 =>
                rw [e2, e3] at p2
                obtain ⟨k, rfl, hk, ys, hc⟩ := SK.of rv rs1 e2
                obtain ⟨l, rfl, hl, zs, hd⟩ := SK.of rw_ rs1 e3
                obtain ⟨B, hB, hb, hst⟩ := SK.begins (it := s1.heap.objs.size) I1 hc r
                obtain ⟨B2, hB2, hb2, hst2⟩ := SK.begins (it := s1.heap.objs.size + 1) I1 hd r'
                refine zip_begins2 hB hB2 hb hb2 fun h' hz hTI hTO ho1 ho2 hsz hk2 => wpAny_pyIter_zip hz ?_
                have I2 : Inv X pins σ H1 { s1 with heap := h' } := I1.kept (t' := s1.toks) hk2
                refine ⟨s1.heap.objs.size + 4, [s1.heap.objs.size + 4, s1.heap.objs.size + 2, s1.heap.objs.size + 3, s1.heap.objs.size, s1.heap.objs.size + 1], _, _, H1, rfl, I2,
                  turn_zipA ht k l _ _ _ _ _ (by simp), ⟨⟨.none, false, hz, .inl rfl⟩, hTI, ⟨_, _, hTO⟩, hst _ ho1, hst2 _ ho2⟩, fun c hcm => ?_, ?_⟩
                · have hle : s1.heap.objs.size ≤ c := by
                    simp at hcm
                    rcases hcm with z | z | z | z | z <;> rw [z] <;> simp
                  exact I1.fpOk hle (I1.hok.fresh hle)
                · exact p2 m1 H1 _ Ex.rfl' rs1 ⟨_, walks_zip, it, it2, rfl, hk, hl⟩
end
end G
set_option Elab.async false
set_option linter.all false
set_option maxRecDepth 100000
/-! len(x) by an own __len__ -/
namespace G
open PySem PySem.Spec L2
open PyProof.Rows hiding St
section
variable {X : Cx} {g : Gx} {o : Orc} {W : WX} {t : Tb} {F : Ft} {nf n : Nat} {pins : List (Addr × PySem.Obj)} {s : Shared} {σ : St} {ρ : G.Env} {m : Mp} {H : Hp} {S : Store}
/-- a special method of an instance -/
theorem special_run {A : Around} {E : Value → Shared → Prop} {a C dx f : Addr} {fs : List (Str × V)} {nm : Str} {args : List Value} {Q : Option Value → Shared → Prop} (I : Inv X pins σ H s) (h1 : H a = some (.ins C dx fs)) (hM : Meth X.K C nm f) (ho : ∃ ob, s.heap.get? f = some ob ∧ ob.cls = .type "function")
    (h : wpAny (model X.prog X.w) A (call (.ref f) (.ref a :: args)) (fun v => Q (some v)) E s) : wpAny (model X.prog X.w) A (callSpecial? (.ref a) nm args) Q E s := by
  obtain ⟨mA, O, _⟩ := ins_get I.hok h1
  have ty : PySem.W.Looks (model X.prog X.w) s.heap (typeOf (.ref a)) (.ref C) := (PySem.W.Looks.ld O.obj).andThen .now
  have sp : PySem.W.Looks (model X.prog X.w) s.heap (specialOf (.ref a) nm) (some (.ref f)) := ty.andThen (PySem.W.looks_findIn I.kIn hM.at_)
  obtain ⟨of_, p1, p2⟩ := ho
  unfold callSpecial?
  refine wpAny_bind (sp.here ?_)
  refine wpAny_holding (wpAny_bind ((PySem.W.exc_bind p1 p2 _).here ?_))
  exact wpAny_bind (wpAny_mono h (fun v s' h' => wpAny_pure h') fun _ _ e => e)
/-- a call one unit within a built-in -/
theorem run_fnG1 {a : Addr} {fd : FuncData} {ps : List Str} {sp : Sp} {Q : VK} {us : List Value} {vs : List V} (F : FnG X.prog X.w X.K X.mg X.base n a fd ps sp) (hr : Rb n X.A)
    (hb : Binds X.K fd ps []) (tk : Takes X W) (I : Inv X pins σ H s) (r : Vals vs us) (h : sp vs H Q (fun c d H => W c d σ H)) : wpAny (model X.prog X.w) X.A.in1 (call (.ref a) us) (EP X pins σ Q) X.xe s := by
  have rm : Rm n X.A.in1 := ⟨hr.hd, by have := hr.dp; show X.A.depth + 2 * n + 40 < _; omega, by have := hr.un; show X.A.units + 1 + 16 * n + 500 < _; omega, hr.gd⟩
  have bd := hb s us I.kIn (by rw [List.append_nil, ← r.length]; exact F.len _ _ _ _ h)
  rw [List.append_nil] at bd
  refine wpAny_call (codeAny_mono (F.run X.A.in1 X.stack s H ⟨us, []⟩ us vs Q _ rm I.env0.in1 bd r h) fun ans s' hq => ?_)
  match ans, hq with
  | .error e, hq => exact passAt tk σ pins H s e s' I hq
  | .ok (.ret u), hq => exact I.after hq
theorem b_lenJ {mi : Nat} (R : Rn X g o t F nf n W) (M : MtOk X g F nf t.meth mi "__len__") : CallR X (.builtin "len") (BiR g o (bLenJ mi)) := by
  intro pins s σ H xs us Q I rvs ⟨m, vs, S, E, rv, rs, pp⟩
  cases rv with
  | nil => exact pp.elim
  | @cons v x vs xs r rr =>
    cases rr with
    | cons _ _ => cases r <;> exact pp.elim
    | nil =>
      obtain ⟨u, rfl, ru⟩ := vals1 rvs
      have p' : PostG g RV m H Q E (match mthOf mi o v S with
        | some f => (noExc (o.call f [v] S)).bind fun v S => match v with | .int i => (match intLt i 0 with | true => .stuck 113 | false => match intLt i 9223372036854775808 with | true => .ok (.int i) S | false => .stuck 113) | _ => .stuck 113
        | .none => .stuck 113) := pp
      cases e2 : mthOf mi o v S with
      | none => rw [e2] at p'; exact p'.elim
      | some f =>
        rw [e2] at p'
        cases r with
        | @ref k q hq =>
          cases ru
          have e3 : (match S.get k with | some (.ins c _) => o.meth c mi | _ => .none) = some f := e2
          cases e0 : S.get k with
          | none => rw [e0] at e3; cases e3
          | some ob =>
            cases ob with
            | ins c fs =>
              rw [e0] at e3
              have em : t.meth c mi = some f := by have z : o.meth c mi = some f := e3; rw [R.orc] at z; exact z
              obtain ⟨q', hq', ⟨hc, hfs⟩, dx, hs, h1, h2⟩ := rs.obj k _ e0
              rw [hq] at hq'; cases hq'
              obtain ⟨hf, hM, hB⟩ := M.at_ c f em
              have isf : ∃ ob, s.heap.get? (F.a f) = some ob ∧ ob.cls = .type "function" := by
                have z := beq_iff_eq.mp hM.fn
                obtain ⟨ob, z1, z2⟩ := Option.map_eq_some_iff.mp z
                exact ⟨ob, I.kIn _ _ z1, z2⟩
              refine Calls.call_function_entry kind_len plain_len entry_len (args_len1 _) ?_
              unfold Builtin.«len»
              refine wpAny_bind (m := oneArg "len" _) (wpAny_pure ?_)
              refine wpAny_bind (m := callSpecial? (.ref q) (PySem.Str.ofString "__len__")) (special_run I h1 hM isf ?_)
              rw [R.orc] at p'
              refine wpAny_mono (run_fnG1 (Q := fun y H' => ∃ i : Int, y = .int i ∧ 0 ≤ i ∧ i < 9223372036854775808 ∧ Q (.int i) H') (R.ok f hf) R.room hB R.no.takes I (.cons (show RelV (V.ref q) (Value.ref q) from rfl) .nil) ⟨m, [.ref k], S, .cons (RV.ref hq) .nil, rs, ?_⟩) (fun u s' h => ?_) fun _ _ z => z
              · revert p'
                show PostG g RV m H Q E ((noExc (callN t n f [.ref k] S)).bind _) → PostG g RV m H _ _ (callN t n f [.ref k] S)
                cases callN t n f [.ref k] S with
                | ok v S' =>
                  intro p2 m' H' y e3 rs3 r3
                  cases r3 with
                  | int i =>
                    have p3 : PostG g RV m H Q E (match intLt i 0 with | true => .stuck 113 | false => match intLt i 9223372036854775808 with | true => .ok (.int i) S' | false => .stuck 113) := p2
                    cases z1 : intLt i 0 with
                    | true => rw [z1] at p3; exact p3.elim
                    | false =>
                      cases z2 : intLt i 9223372036854775808 with
                      | false => rw [z1, z2] at p3; exact p3.elim
                      | true =>
                        rw [z1, z2] at p3
                        rw [intLt_eq] at z1 z2
                        exact ⟨i, rfl, by have := of_decide_eq_false z1; omega, of_decide_eq_true z2, p3 m' H' _ e3 rs3 (RV.int i)⟩
                  | _ => exact p2.elim
                | exc c fs S' => exact fun p2 => p2.elim
                | stuck w => exact fun p2 => p2
              · obtain ⟨y, H', I', ry, i, rfl, i0, i1, q'⟩ := h
                obtain ⟨tk, rfl⟩ := ry
                refine wpAny_bind (wpAny_holding (wpAny_pure ?_))
                refine wpAny_bind (wpAny_letGo ?_)
                show wpAny _ _ (if i < 0 then _ else _) _ _ _
                rw [if_neg (by omega)]
                show wpAny _ _ (if i ≥ 2 ^ 63 then _ else _) _ _ _
                rw [if_neg (by omega)]
                exact wpAny_bind (wpAny_mkInt (wpAny_pure ⟨_, rfl, ⟨.int i, H', I'.tok _, ⟨_, rfl⟩, q'⟩⟩))
            | _ => rw [e0] at e3; cases e3
        | _ => cases e2
end
end G
set_option Elab.async false
set_option linter.all false
set_option maxRecDepth 100000
/-! enumerate(zip(a, b)) -/
namespace G
open PySem PySem.Spec L2
open PyProof.Rows hiding St
section
variable {P : Program} {w : World} {A : Around} {E : Value → Shared → Prop} {s : Shared} {e it : Addr} {c : Int} {old : Value}
/-- its next pair, whatever the inner iterator gives -/
theorem enumB_item {Px : Value → Heap → Prop} {Q : Value → Shared → Prop} (he : IsEnum s.heap e it c old)
    (hN : ∀ R : Value → Shared → Prop, (∀ x h1 tk, Px x h1 → IsEnum h1 e it c old → R x { s with heap := h1, toks := tk }) → wpAny (model P w) A (Builtin.SmallTypes.nextOf (.ref it)) R E s)
    (hQ : ∀ x h1 h' tk, Px x h1 → IsEnumOut h' e it (c + 1) x h1.objs.size → h'.get? h1.objs.size = some { cls := .type "tuple", data := .seq #[.int c tk, x] } → h'.objs.size = h1.objs.size + 1 → (∀ b o, b ≠ e → h1.get? b = some o → h'.get? b = some o) → Q (.ref h1.objs.size) { s with heap := h', toks := tk + 1 }) :
    wpAny (model P w) A (Builtin.«enumerate.__next__» ⟨[.ref e], []⟩) (fun fin s' => ∃ u, fin = .done (.ret u) ∧ Q u s') E s := by
  obtain ⟨hq, gl, dd, t0, oo⟩ := s
  show wpAny _ _ (field (.ref e) 2 >>= _) _ _ _
  refine wpAny_bind (wpAny_field he rfl (x := .ref it) rfl ?_)
  refine wpAny_bind (hN _ fun x h1 tk px he1 => ?_)
  show wpAny _ _ (field (.ref e) 3 >>= _) _ _ ⟨h1, gl, dd, tk, oo⟩
  refine wpAny_bind (wpAny_field he1 rfl (x := rawInt c) rfl ?_)
  show wpAny _ _ (field (.ref e) 4 >>= _) _ _ ⟨h1, gl, dd, tk, oo⟩
  refine wpAny_bind (wpAny_field he1 rfl (x := .none) rfl ?_)
  show wpAny _ _ (mkInt c >>= _) _ _ ⟨h1, gl, dd, tk, oo⟩
  refine wpAny_bind (wpAny_mkInt ?_)
  show wpAny _ _ (setField (.ref e) 3 (rawInt (c + 1)) >>= _) _ _ ⟨h1, gl, dd, tk + 1, oo⟩
  refine wpAny_bind (wpAny_setField_rec he1 (by simp) fun h2 he2 sb2 => ?_)
  replace sb2 : Heap.SameBut e h1 h2 := sb2
  replace he2 : IsEnum h2 e it (c + 1) old := he2
  show wpAny _ _ (setField (.ref e) 4 .none >>= _) _ _ ⟨h2, gl, dd, tk + 1, oo⟩
  refine wpAny_bind (wpAny_setField_rec he2 (by simp) fun h3 he3 sb3 => ?_)
  replace sb3 : Heap.SameBut e h2 h3 := sb3
  replace he3 : IsEnum h3 e it (c + 1) old := he3
  show wpAny _ _ (newTuple [.int c tk, x] >>= _) _ _ ⟨h3, gl, dd, tk + 1, oo⟩
  refine wpAny_bind (wpAny_newTuple ?_)
  have he4 : IsEnum (h3.push { cls := .type "tuple", data := .seq #[.int c tk, x] }) e it (c + 1) old := Heap.get?_push_of_some _ he3
  generalize e4 : h3.push { cls := .type "tuple", data := .seq #[.int c tk, x] } = h4 at he4
  have hsz : h3.objs.size = h1.objs.size := by rw [sb3.1, sb2.1]
  have hel : e < h1.objs.size := Heap.lt_size he1
  have ht4 : h4.get? h1.objs.size = some { cls := .type "tuple", data := .seq #[.int c tk, x] } := by rw [← e4, ← hsz]; exact Heap.get?_push_size _ rfl
  have hz4 : h4.objs.size = h1.objs.size + 1 := by rw [← e4, Heap.size_push, hsz]
  have hk4 : ∀ b o, b ≠ e → h1.get? b = some o → h4.get? b = some o := fun b o hb q => by
    rw [← e4]; exact Heap.get?_push_of_some _ (sb3.extBut b o hb (sb2.extBut b o hb q))
  show wpAny _ _ (Builtin.SmallTypes.ownedTupleIsFree (.ref e) >>= _) _ _ ⟨h4, gl, dd, tk + 1, oo⟩
  rw [hsz]
  clear e4 he3 sb3 he2 sb2 hsz
  refine wpAny_bind ?_
  unfold Builtin.SmallTypes.ownedTupleIsFree
  refine wpAny_bind (wpAny_field he4 rfl (x := .none) rfl (wpAny_pure ?_))
  simp only [if_true]
  refine wpAny_bind (wpAny_rule ?_)
  refine wpAny_bind (wpAny_field he4 rfl (x := old) rfl ?_)
  refine wpAny_bind (wpAny_setField_rec he4 (by simp) fun h5 he5 sb5 => ?_)
  replace sb5 : Heap.SameBut e h4 h5 := sb5
  replace he5 : IsEnum h5 e it (c + 1) x := he5
  show wpAny _ _ (Builtin.SmallTypes.ownedTupleHandOut (.ref e) (.ref h1.objs.size) >>= _) _ _ ⟨h5, gl, dd, tk + 1, oo⟩
  refine wpAny_bind ?_
  unfold Builtin.SmallTypes.ownedTupleHandOut
  refine wpAny_bind (wpAny_setField_rec he5 (by simp) fun h6 he6 sb6 => ?_)
  replace sb6 : Heap.SameBut e h5 h6 := sb6
  replace he6 : IsEnumOut h6 e it (c + 1) x h1.objs.size := he6
  refine wpAny_setField_rec he6 (by simp) fun h7 he7 sb7 => ?_
  replace sb7 : Heap.SameBut e h6 h7 := sb7
  replace he7 : IsEnumOut h7 e it (c + 1) x h1.objs.size := he7
  have up : ∀ b o, b ≠ e → h4.get? b = some o → h7.get? b = some o := fun b o hb q => sb7.extBut b o hb (sb6.extBut b o hb (sb5.extBut b o hb q))
  exact wpAny_bind (wpAny_letGo (wpAny_pure ⟨_, rfl, hQ x h1 h7 tk px he7 (up _ _ (Nat.ne_of_gt hel) ht4) (by rw [sb7.1, sb6.1, sb5.1, hz4]) fun b o hb q => up b o hb (hk4 b o hb q)⟩))
theorem enumB_end {Q : PySem.Fin → Shared → Prop} (he : IsEnum s.heap e it c old) (hN : ∀ R : Value → Shared → Prop, wpAny (model P w) A (Builtin.SmallTypes.nextOf (.ref it)) R E s) :
    wpAny (model P w) A (Builtin.«enumerate.__next__» ⟨[.ref e], []⟩) Q E s := by
  show wpAny _ _ (field (.ref e) 2 >>= _) _ _ _
  refine wpAny_bind (wpAny_field he rfl (x := .ref it) rfl ?_)
  exact wpAny_bind (hN _)
end
section
variable {P : Program} {w : World} {A : Around} {E : Value → Shared → Prop} {s : Shared} {z TI TO i1 i2 : Addr} {fpA fpB : List Addr} {nA nB i : Nat} {PA PB : Nat → Value → Prop} {SA SB : Nat → Heap → Prop} {y1 y2 v : Value} {f : Bool}
theorem nextOf_zipA {Q : Value → Shared → Prop} (Sp : ZipSep2 z TI TO i1 i2 fpA fpB) (DA : Draws P w A.in1 i1 fpA nA PA SA) (DB : Draws P w A.in1 i2 fpB nB PB SB)
    (hz : ZipA s.heap z TI TO v f) (hv : Outs v) (hTI : IsTupOf2 s.heap TI (.ref i1) (.ref i2)) (hTO : IsTupOf2 s.heap TO y1 y2) (stA : SA i s.heap) (stB : SB i s.heap) (ltA : i < nA) (ltB : i < nB)
    (hQ : ∀ x1 x2 v' f' h' tk, PA i x1 → PB i x2 → ZipA h' z TI TO v' f' → Outs v' → (∃ a b, IsTupOf2 h' TO a b) → SA (i + 1) h' → SB (i + 1) h' → IsTupOf2 h' s.heap.objs.size x1 x2 → h'.objs.size = s.heap.objs.size + 1 →
      (∀ c o, c ≠ z → c ≠ TO → c ≠ i1 → c ≠ i2 → s.heap.get? c = some o → h'.get? c = some o) → Q (.ref s.heap.objs.size) { s with heap := h', toks := tk }) :
    wpAny (model P w) A (Builtin.SmallTypes.nextOf (.ref z)) Q E s := by
  have ty : s.TypeIs (.ref z) "zip" := ⟨_, hz, rfl⟩
  unfold Builtin.SmallTypes.nextOf
  exact wpAny_bind (wpAny_callSpecial?_slot (name := Str.ofString "__next__") ty F.slot_zip_next
    (wpAny_call_entry F.slot_zip_next ty F.entry_zip_next (zipA_item Sp DA DB hz hv hTI hTO stA stB ltA ltB fun x1 x2 v' f' h' tk a b c d e g1 g2 g3 g4 g5 => wpAny_pure (hQ x1 x2 v' f' h' tk a b c d e g1 g2 g3 g4 g5)) (F.args_zip_next_1 _)))
theorem nextOf_zipA_end {Q : Value → Shared → Prop} (Sp : ZipSep2 z TI TO i1 i2 fpA fpB) (DA : Draws P w A.in1 i1 fpA nA PA SA) (DB : Draws P w A.in1 i2 fpB nB PB SB)
    (hz : ZipA s.heap z TI TO v f) (hv : Outs v) (hTI : IsTupOf2 s.heap TI (.ref i1) (.ref i2)) (hTO : IsTupOf2 s.heap TO y1 y2) (stA : SA i s.heap) (stB : SB i s.heap) (leA : i ≤ nA) (leB : i ≤ nB) (last : i = nA ∨ i = nB)
    (hE : ∀ h' tk e, (∀ c o, c ≠ z → c ≠ TO → c ≠ i1 → c ≠ i2 → s.heap.get? c = some o → h'.get? c = some o) → (∃ o, h'.get? e = some o ∧ o.cls = .type "StopIteration") → E (.ref e) { s with heap := h', toks := tk }) :
    wpAny (model P w) A (Builtin.SmallTypes.nextOf (.ref z)) Q E s := by
  have ty : s.TypeIs (.ref z) "zip" := ⟨_, hz, rfl⟩
  unfold Builtin.SmallTypes.nextOf
  exact wpAny_bind (wpAny_callSpecial?_slot (name := Str.ofString "__next__") ty F.slot_zip_next
    (wpAny_call_entry F.slot_zip_next ty F.entry_zip_next (zipA_end Sp DA DB hz hv hTI hTO stA stB leA leB last hE) (F.args_zip_next_1 _)))
end
def Jez (k l : SK) : L2.It := ⟨fun i H => ∃ xs ys x y, k.cont H xs ∧ l.cont H ys ∧ xs[i]? = some x ∧ ys[i]? = some y,
  fun i H v H' => ∃ T T2 x y, v = .ref T2 ∧ H T = .none ∧ H T2 = .none ∧ T ≠ T2 ∧ H' = upd (upd H T (.tup [x, y])) T2 (.tup [.int (i : Nat), .ref T]) ∧ (∀ xs, k.cont H xs → xs[i]? = some x) ∧ ∀ ys, l.cont H ys → ys[i]? = some y,
  fun i H => ∃ xs ys, k.cont H xs ∧ l.cont H ys ∧ i = min xs.length ys.length⟩
abbrev ZipSt (k l : SK) (z TI TO i1 i2 : Addr) (i : Nat) (h : Heap) : Prop := (∃ v f, ZipA h z TI TO v f ∧ Outs v) ∧ IsTupOf2 h TI (.ref i1) (.ref i2) ∧ (∃ a b, IsTupOf2 h TO a b) ∧ k.stt i1 i h ∧ l.stt i2 i h
theorem turn_enumZ {P : Program} {w : World} {K : PySem.W.Frag} {elts : List PySem.Expr} {kk : Nat} {tpos : Pos} (k l : SK) (e z TI TO i1 i2 : Addr) (nd : [e, z, TI, TO, i1, i2].Nodup) :
    Turn P w K (.Tuple elts kk tpos) (Jez k l) [e, z, TI, TO, i1, i2] e (fun i h => (∃ old, IsEnum h e z ((i : Nat) : Int) old) ∧ ZipSt k l z TI TO i1 i2 i h) := by
  obtain ⟨ne, nd⟩ := List.nodup_cons.mp nd
  have ez : e ≠ z ∧ e ≠ TI ∧ e ≠ TO ∧ e ≠ i1 ∧ e ≠ i2 := by simpa using ne
  obtain ⟨ez, eTI, eTO, ei1, ei2⟩ := ez
  have TZ := turn_zipA (P := P) (w := w) (K := K) (tg := .Name "" ⟨0, 0, 0, 0⟩) (fun _ _ => rfl) k l z TI TO i1 i2 nd
  have n0 : ¬ z = TI ∧ ¬ z = TO ∧ ¬ z = i1 ∧ ¬ z = i2 ∧ ¬ TI = TO ∧ ¬ TI = i1 ∧ ¬ TI = i2 ∧ ¬ TO = i1 ∧ ¬ TO = i2 ∧ ¬ i1 = i2 := by
    simp [List.nodup_cons] at nd
    obtain ⟨⟨a, b, c, d⟩, ⟨e, f, g⟩, ⟨h, i⟩, j⟩ := nd
    exact ⟨a, b, c, d, e, f, g, h, i, j⟩
  obtain ⟨zTI, zTO, zi1, zi2, TITO, TIi1, TIi2, TOi1, TOi2, i12⟩ := n0
  have sep : ∀ {X : Cx} {pins : List (Addr × PySem.Obj)} {H : Hp} {fp1 fp2 : List Addr}, (∀ b ∈ [e, z, TI, TO, i1, i2], FpOk X pins H b) → i1 ∈ fp1 → i2 ∈ fp2 → (∀ b ∈ fp1, b = i1 ∨ H b ≠ .none) → (∀ b ∈ fp2, b = i2 ∨ H b ≠ .none) → ZipSep2 z TI TO i1 i2 fp1 fp2 := by
    intro X pins H fp1 fp2 hf m1 m2 b1 b2
    have no1 : ∀ b ∈ [e, z, TI, TO, i1, i2], b ≠ i1 → b ∉ fp1 := fun b hb hn q => (b1 b q).elim hn fun q2 => q2 (hf b hb).1
    have no2 : ∀ b ∈ [e, z, TI, TO, i1, i2], b ≠ i2 → b ∉ fp2 := fun b hb hn q => (b2 b q).elim hn fun q2 => q2 (hf b hb).1
    exact ⟨Ne.symm zTI, Ne.symm zTO, TITO, TIi1, m1, no1 z (by simp) zi1, no1 TO (by simp) TOi1, TIi2, m2, no2 z (by simp) zi2, no2 TO (by simp) TOi2, no2 i1 (by simp) i12, no1 i2 (by simp) (Ne.symm i12)⟩
  have ob : ∀ i h, ((∃ old, IsEnum h e z ((i : Nat) : Int) old) ∧ ZipSt k l z TI TO i1 i2 i h) → ∀ b ∈ [e, z, TI, TO, i1, i2], ∃ o, h.get? b = some o ∧ ∀ v, o.data ≠ .cell v := fun i h st b hb => by
    rcases List.mem_cons.mp hb with q | q
    · obtain ⟨⟨old, he⟩, _⟩ := st
      rw [q]; exact ⟨_, he, fun v q => nomatch q⟩
    · exact TZ.obj i h st.2 b q
  refine { mem := by simp, obj := ob, keep := fun i h h' st kp => ?_, item := ?_, done := ?_, self := fun A i s Q E st h => let ⟨⟨_, he⟩, _⟩ := st; wpAny_pyIter_enum he h }
  · obtain ⟨⟨old, he⟩, st2⟩ := st
    exact ⟨⟨old, kp e (by simp) _ he⟩, TZ.keep i h h' st2 fun b hb => kp b (List.mem_cons_of_mem _ hb)⟩
  · intro X hP hw hK hc i pins s σ H E I hf st hg
    have hd := I.ok.hd hc
    have st0 := st
    obtain ⟨⟨old, he⟩, ⟨v, f, hz, hv⟩, hTI, ⟨a, b, hTO⟩, h1, h2⟩ := st
    obtain ⟨xs, ys, x, y, c1, c2, hx, hy⟩ := hg
    obtain ⟨fp1, P1, S1, D1, s1, p1, q1, m1, b1⟩ := SK.draws (A := X.A.in1.in1) (in1_handled hd) I c1 h1 (hf i1 (by simp)).1
    obtain ⟨fp2, P2, S2, D2, s2, p2, q2, m2, b2⟩ := SK.draws (A := X.A.in1.in1) (in1_handled hd) I c2 h2 (hf i2 (by simp)).1
    subst hP hw hK
    have tye : s.TypeIs (.ref e) "enumerate" := ⟨_, he, rfl⟩
    have lte : e < s.heap.objs.size := Heap.lt_size he
    unfold pyNext
    refine wpAny_bind (wpAny_attempt (wpAny_callSpecial?_slot (name := Str.ofString "__next__") tye F.slot_enumerate_next
      (wpAny_call_entry F.slot_enumerate_next tye F.entry_enumerate_next (enumB_item
        (Px := fun u h1' => ∃ x' y', u = .ref s.heap.objs.size ∧ (∀ zs, k.cont H zs → zs[i]? = some x') ∧ (∀ zs, l.cont H zs → zs[i]? = some y') ∧ h1'.objs.size = s.heap.objs.size + 1 ∧ ZipSt k l z TI TO i1 i2 (i + 1) h1' ∧ ∀ tk, Inv X pins σ (upd H s.heap.objs.size (.tup [x', y'])) { s with heap := h1', toks := tk })
        he (fun R hR => ?_) fun u k1 k2 tk px ho hT esz rest => ?_) (F.args_enumerate_next_1 _))))
    · refine nextOf_zipA (sep hf m1 m2 b1 b2) D1 D2 hz hv hTI hTO s1 s2 (List.getElem?_eq_some_iff.mp hx).1 (List.getElem?_eq_some_iff.mp hy).1 fun u1 u2 v' f' h' tk pu1 pu2 hz' hv' hTO' n1 n2 new esz rest => ?_
      obtain ⟨x', e4, r1⟩ := p1 i u1 pu1
      obtain ⟨y', e5, r2⟩ := p2 i u2 pu2
      have newT : ObjOk X.prog X.w (upd H s.heap.objs.size (.tup [x', y'])) h' s.heap.objs.size (.tup [x', y']) := ⟨by show 2 ≤ sizeLine; decide, [u1, u2], .cons r1 (.cons r2 .nil), ⟨_, new, rfl, _, rfl⟩⟩
      have out : ∀ c o, c ∉ [e, z, TI, TO, i1, i2] → s.heap.get? c = some o → h'.get? c = some o := fun c o hc q => rest c o (fun q' => hc (by simp [q'])) (fun q' => hc (by simp [q'])) (fun q' => hc (by simp [q'])) (fun q' => hc (by simp [q'])) q
      exact hR _ h' tk ⟨x', y', rfl, fun zs hzs => by rw [SK.uniq hzs c1]; exact e4, fun zs hzs => by rw [SK.uniq hzs c2]; exact e5, esz, ⟨⟨v', f', hz', hv'⟩, rest _ _ (Ne.symm zTI) TITO TIi1 TIi2 hTI, hTO', q1 _ _ n1, q2 _ _ n2⟩, fun tk => I.turnedNew (ch := [e, z, TI, TO, i1, i2]) (fun c o hc q => out c o hc q) hf (Nat.le_refl _) newT⟩ (rest _ _ ez eTO ei1 ei2 he)
    · obtain ⟨x', y', rfl, gx, gy, esz1, zst, inv⟩ := px
      have I1 := inv tk
      have ne2 : ∀ b ∈ [e, z, TI, TO, i1, i2], b < s.heap.objs.size := fun b hb => let ⟨o, q, _⟩ := ob i _ st0 b hb; Heap.lt_size q
      refine wpAny_pure ⟨_, rfl, ?_⟩
      refine wpAny_letOwnedTupleGo_enum ho fun k3 he3 sb => ?_
      have he4 : IsEnum k3 e z ((i + 1 : Nat) : Int) (.ref s.heap.objs.size) := by
        have e1 : ((i + 1 : Nat) : Int) = (i : Int) + 1 := by omega
        rw [e1]; exact he3
      have keep3 : ∀ b o, b ≠ e → k1.get? b = some o → k3.get? b = some o := fun b o hb q => (sb.2 b hb).trans (rest b o hb q)
      have hf1 : ∀ b ∈ [e, z, TI, TO, i1, i2], FpOk X pins (upd H s.heap.objs.size (.tup [x', y'])) b := fun b hb => by
        have := hf b hb
        exact ⟨by rw [upd_ne (Nat.ne_of_lt (ne2 b hb))]; exact this.1, this.2⟩
      have T2n : (upd H s.heap.objs.size (.tup [x', y'])) k1.objs.size = .none := I1.hok.fresh (Nat.le_refl _)
      have newT : ObjOk X.prog X.w (upd (upd H s.heap.objs.size (.tup [x', y'])) k1.objs.size (.tup [.int (i : Nat), .ref s.heap.objs.size])) k3 k1.objs.size (.tup [.int (i : Nat), .ref s.heap.objs.size]) :=
        ⟨by show 2 ≤ sizeLine; decide, [.int (i : Nat) tk, .ref s.heap.objs.size], .cons ⟨_, rfl⟩ (.cons rfl .nil), ⟨_, (sb.2 _ (Nat.ne_of_gt (by rw [esz1]; exact Nat.lt_succ_of_lt lte))).trans hT, rfl, _, rfl⟩⟩
      have I2 : Inv X pins σ (upd (upd H s.heap.objs.size (.tup [x', y'])) k1.objs.size (.tup [.int (i : Nat), .ref s.heap.objs.size])) { s with heap := k3, toks := tk + 1 } :=
        I1.turnedNew (t' := tk + 1) (ch := [e, z, TI, TO, i1, i2]) (fun c o hc q => keep3 c o (fun q' => hc (by simp [q'])) q) hf1 (Nat.le_refl _) newT
      have hne : s.heap.objs.size ≠ k1.objs.size := by rw [esz1]; omega
      have T2n' : H k1.objs.size = .none := by rw [upd_ne (Ne.symm hne)] at T2n; exact T2n
      refine ⟨.ref k1.objs.size, _, I2, rfl, ⟨s.heap.objs.size, k1.objs.size, x', y', rfl, I.hok.fresh (Nat.le_refl _), T2n', hne, rfl, gx, gy⟩, ⟨⟨_, he4⟩, ?_⟩, fun b hb => ?_⟩
      · exact TZ.keep _ _ _ zst fun b hb o q => keep3 b o (fun q' => by rw [q'] at hb; exact ne hb) q
      · have lt := ne2 b hb
        rw [upd_ne (Nat.ne_of_lt (by rw [esz1]; exact Nat.lt_succ_of_lt lt))]; exact (hf1 b hb).1
  · intro X hP hw hK hc i pins s σ H E I hf st hg
    have hd := I.ok.hd hc
    obtain ⟨⟨old, he⟩, ⟨v, f, hz, hv⟩, hTI, ⟨a, b, hTO⟩, h1, h2⟩ := st
    obtain ⟨xs, ys, c1, c2, hend⟩ := hg
    obtain ⟨fp1, P1, S1, D1, s1, p1, q1, m1, b1⟩ := SK.draws (A := X.A.in1.in1) (in1_handled hd) I c1 h1 (hf i1 (by simp)).1
    obtain ⟨fp2, P2, S2, D2, s2, p2, q2, m2, b2⟩ := SK.draws (A := X.A.in1.in1) (in1_handled hd) I c2 h2 (hf i2 (by simp)).1
    subst hP hw hK
    have tye : s.TypeIs (.ref e) "enumerate" := ⟨_, he, rfl⟩
    unfold pyNext
    refine wpAny_bind (wpAny_attempt (wpAny_callSpecial?_slot (name := Str.ofString "__next__") tye F.slot_enumerate_next
      (wpAny_call_entry F.slot_enumerate_next tye F.entry_enumerate_next (enumB_end he fun R => nextOf_zipA_end (sep hf m1 m2 b1 b2) D1 D2 hz hv hTI hTO s1 s2 (by omega) (by omega) (by omega) fun h' tk ee rest hx => ?_) (F.args_enumerate_next_1 _))))
    obtain ⟨oe, x1, x2⟩ := hx
    refine wpAny_bind (wpAny_isInstance (T := "StopIteration") (b := true) ⟨oe, x1, x2⟩ isSubtype_stop ?_)
    exact wpAny_pure ⟨rfl, I.turnedL (ch := [e, z, TI, TO, i1, i2]) (fun c o hc q => rest c o (fun q' => hc (by simp [q'])) (fun q' => hc (by simp [q'])) (fun q' => hc (by simp [q'])) (fun q' => hc (by simp [q'])) q) hf⟩
end G
namespace G
open PySem PySem.Spec L2
open PyProof.Rows hiding St
section
set_option maxHeartbeats 1000000 in
/-- enumerate of an iterator that is its own iterator -/
theorem meets_enumerate_1S {v : Value} {H : Shared → Prop} (B : ∀ (prog : Program) (w : World) (A : Around) (E : Value → Shared → Prop) (Q : Value → Shared → Prop) (s : Shared), H s → Q v s → wpAny (model prog w) A (pyIter v) Q E s) :
    Meets (Builtin.«enumerate.__new__» ⟨[.type "enumerate", v], []⟩) (fun _ R s => H s ∧
      R (.ok (.ret (.ref s.heap.objs.size))) { s with heap := s.heap.push { cls := .type "enumerate", data := .fields #[.none, .bool false, v, rawInt 0, .none, .none] } }) :=
  .of_wp fun prog w A R s h => by
    obtain ⟨hp, gl, dd, tk, oo⟩ := s; obtain ⟨h1, h⟩ := h
    have hsub := sub_enumerate
    have q1 : ∀ {A' : Around} {E : Value → Shared → Prop} {Q : Value → Shared → Prop}, Q v ⟨hp, gl, dd, tk, oo⟩ → wpAny (model prog w) A' (pyIter v) Q E ⟨hp, gl, dd, tk, oo⟩ := fun q => B prog w _ _ _ ⟨hp, gl, dd, tk, oo⟩ h1 q
    wp_walk using q1
    refine wpAny_stack_any fun st => wpAny_pure ?_
    split
    · rename_i c _ _ _ _ _
      cases (c == Value.type "enumerate")
      · wp_walk using q1
        exact ⟨_, rfl, h⟩
      · wp_walk using q1
        exact ⟨_, rfl, h⟩
    · wp_walk using q1
      exact ⟨_, rfl, h⟩
end
end G
namespace G
open PySem PySem.Spec L2
open PyProof.Rows hiding St
theorem enum_beginsZ {P : Program} {w : World} {A : Around} {E : Value → Shared → Prop} {s : Shared} {z TI TO : Addr} {Q : Value → Shared → Prop} (hz : IsZip s.heap z TI TO .none)
    (h : ∀ h', IsEnum h' s.heap.objs.size z 0 .none → (∀ b o, s.heap.get? b = some o → h'.get? b = some o) → Q (.ref s.heap.objs.size) { s with heap := h' }) : wpAny (model P w) A (call (.type "enumerate") [.ref z]) Q E s := by
  refine callType_new F.called_enumerate (by decide) (F.typeCall_enumerate_1 _) (F.newCall_enumerate_1 _) (fun obj => F.args_object_init_2 obj _) F.entry_enumerate_new
    (meets_enumerate_1S (v := .ref z) (H := fun s => IsZip s.heap z TI TO .none) fun _ _ _ _ _ _ hz q => wpAny_pyIter_zip hz q) ⟨hz, ?_⟩
  have he : IsEnum (s.heap.push { cls := .type "enumerate", data := .fields #[.none, .bool false, .ref z, rawInt 0, .none, .none] }) s.heap.objs.size z 0 .none := Heap.get?_push_size _ rfl
  exact ⟨⟨_, he, rfl⟩, h _ he fun b o x => Heap.get?_push_of_some _ x⟩
section
variable {X : Cx} {g : Gx} {o : Orc} {W : WX} {pins : List (Addr × PySem.Obj)} {s : Shared} {σ : St} {ρ : G.Env} {m : Mp} {H : Hp} {S : Store} {a b tg : PySem.Expr} {cs : G.EL} {p pos p2 pos2 tpos : Pos} {elts : List PySem.Expr} {kk : Nat} {k l : SK}
theorem walks_ez : Walks g (Jez k l) (fun i it m H => ∃ a b, it = .enum (i : Nat) (.zip a b) ∧ k.P i a m H ∧ l.P i b m H) where
  mono := fun ⟨a, b, e, h1, h2⟩ x => ⟨a, b, e, SK.P_mono (k := k) h1 x, SK.P_mono (k := l) h2 x⟩
  stop := by
    rintro i it m H S ⟨a, b, rfl, ha, hb⟩ rs e
    refine (walks_zip (g := g) (k := k) (l := l)).stop ⟨a, b, rfl, ha, hb⟩ rs ?_
    rw [It.next] at e
    cases q : (It.zip a b).next S with
    | none => rw [q] at e; cases e
    | some r =>
      rw [q] at e
      cases r with
      | some p => cases e
      | none => rfl
  go := by
    rintro i it m H S v it' ⟨a, b, rfl, ha, hb⟩ rs e
    rw [It.next] at e
    cases q : (It.zip a b).next S with
    | none => rw [q] at e; cases e
    | some r =>
      rw [q] at e
      cases r with
      | none => cases e
      | some p =>
        obtain ⟨v1, it1⟩ := p
        cases e
        obtain ⟨gz, gy⟩ := (walks_zip (g := g) (k := k) (l := l)).go ⟨a, b, rfl, ha, hb⟩ rs q
        refine ⟨gz, fun v H' ⟨T, T2, x, y, e1, hT, hT2, ne, e2, e3, e4⟩ => ?_⟩
        subst e1 e2
        obtain ⟨x1, rs1, r1, a', b', e5, n1, n2⟩ := gy (.ref T) (upd H T (.tup [x, y])) ⟨T, x, y, rfl, hT, rfl, e3, e4⟩
        subst e5
        have hT2' : (upd H T (.tup [x, y])) T2 = .none := by rw [upd_ne (Ne.symm ne)]; exact hT2
        obtain ⟨x2, rs2, r2⟩ := pair_new hT2' rs1 (RV.int (i : Nat)) r1
        exact ⟨x1.trans x2, rs2, r2, a', b', by simp, SK.P_mono (k := k) n1 x2.toEx0, SK.P_mono (k := l) n2 x2.toEx0⟩
theorem i_enumZ (hg : Gl X "enumerate") (hm : X.mg "enumerate" = .none) (hg2 : Gl X "zip") (hm2 : X.mg "zip" = .none) (ha : PA X [a, b] (tL g o W cs)) (hs2 : starEach [a, b] X.env = (false, eval a X.env) :: starEach [b] X.env) (hpl2 : (backTo pos2 (starEach [b] X.env)).any (·.1) = false)
    (hs : starEach [.Call (.Name "zip" p2) [a, b] [] pos2] X.env = (false, eval (.Call (.Name "zip" p2) [a, b] [] pos2) X.env) :: starEach [] X.env) :
    PI X (.Tuple elts kk tpos) (.Call (.Name "enumerate" p) [.Call (.Name "zip" p2) [a, b] [] pos2] [] pos) (tI g o W (iEnumZ cs)) := by
  refine ⟨fun pins s σ H R I ⟨m, ρ, S, re, rs, pp⟩ => ?_⟩
  have p0 : PostG g (RI g) m H R (atS W σ) ((cs o ρ S).bind fun vs S => G.R.bind (match vs with | [x, y] => (match toIt x S, toIt y S with | some a, some b => .ok (.zip a b) S | _, _ => .stuck 70) | _ => .stuck 70) fun it S => .ok (.enum 0 it) S) := by
    have q : PostG g (RI g) m H R (atS W σ) (((cs o ρ S).bind fun vs S => match vs with | [x, y] => (match toIt x S, toIt y S with | some a, some b => .ok (.zip a b) S | _, _ => .stuck 70) | _ => .stuck 70).bind fun it S => .ok (.enum 0 it) S) := pp
    rw [bindA] at q
    exact q
  refine Call_ (ld_blt I hg hm boot_enumerate (PyProof.Rows.callWith_type1 ?_ hs rfl))
  rw [hs]
  show wpAny _ _ (spliced ((false, eval (.Call (.Name "zip" p2) [a, b] [] pos2) X.env) :: backTo pos (starEach [] X.env))) _ _ s
  refine Calls.spliced_cons ?_
  refine Call_ (ld_blt I hg2 hm2 PyProof.Rows.boot_zip (PyProof.Rows.callWith_type1 (thnL (pos := pos2) ha I re rs p0 fun us s1 vs S1 m1 H1 xs I1 r1 rv1 rs1 re1 e1 p1 => ?_) hs2 hpl2))
  cases rv1 with
  | nil => exact p1.elim
  | @cons v x vs xs rv rvs =>
    cases rvs with
    | nil => exact p1.elim
    | @cons w y vs xs rw_ rvs =>
      cases rvs with
      | cons _ _ => exact p1.elim
      | nil =>
        cases r1 with
        | cons r rr =>
          cases rr with
          | cons r' rr =>
            cases rr
            have p3 : PostG g (RI g) m1 H1 R (atS W σ) (G.R.bind (match toIt v S1, toIt w S1 with | some a, some b => .ok (.zip a b) S1 | _, _ => .stuck 70) fun it S => .ok (.enum 0 it) S) := p1
            cases e2 : toIt v S1 with
            | none => rw [e2] at p3; exact p3.elim
            | some it =>
              cases e3 : toIt w S1 with
              | none => rw [e2, e3] at p3; exact p3.elim
              | some it2 =>
                rw [e2, e3] at p3
                obtain ⟨k, rfl, hk, ys, hc⟩ := SK.of rv rs1 e2
                obtain ⟨l, rfl, hl, zs, hd⟩ := SK.of rw_ rs1 e3
                obtain ⟨B, hB, hb, hst⟩ := SK.begins (it := s1.heap.objs.size) I1 hc r
                obtain ⟨B2, hB2, hb2, hst2⟩ := SK.begins (it := s1.heap.objs.size + 1) I1 hd r'
                refine zip_begins2 hB hB2 hb hb2 fun h' hz hTI hTO ho1 ho2 hsz hk2 => ?_
                refine Calls.spliced_nil ?_
                refine enum_beginsZ (s := { s1 with heap := h' }) hz fun h'' he hk3 => wpAny_pyIter_enum he ?_
                have I2 : Inv X pins σ H1 { s1 with heap := h'' } := I1.kept (t' := s1.toks) fun b o q => hk3 b o (hk2 b o q)
                have hz5 : h'.objs.size = s1.heap.objs.size + 5 := hsz
                have stz : ZipSt k l (s1.heap.objs.size + 4) (s1.heap.objs.size + 2) (s1.heap.objs.size + 3) s1.heap.objs.size (s1.heap.objs.size + 1) 0 h'' :=
                  ⟨⟨.none, false, hk3 _ _ hz, .inl rfl⟩, hk3 _ _ hTI, ⟨_, _, hk3 _ _ hTO⟩, hst _ (hk3 _ _ ho1), hst2 _ (hk3 _ _ ho2)⟩
                refine ⟨h'.objs.size, [h'.objs.size, s1.heap.objs.size + 4, s1.heap.objs.size + 2, s1.heap.objs.size + 3, s1.heap.objs.size, s1.heap.objs.size + 1], _, _, H1, rfl, I2,
                  turn_enumZ k l _ _ _ _ _ _ (by rw [hz5]; simp), ⟨⟨.none, he⟩, stz⟩, fun c hcm => ?_, ?_⟩
                · have hle : s1.heap.objs.size ≤ c := by
                    rw [hz5] at hcm
                    simp at hcm
                    rcases hcm with z | z | z | z | z | z <;> rw [z] <;> simp
                  exact I1.fpOk hle (I1.hok.fresh hle)
                · exact p3 m1 H1 _ Ex.rfl' rs1 ⟨_, walks_ez, it, it2, rfl, hk, hl⟩
end
end G
set_option Elab.async false
set_option linter.all false
set_option maxRecDepth 100000
/-! the draws of the laws: feed, take, pick -/
namespace G
def cFeed : C := cSeq (sAsg (tName 2) (eOp oIx (eOp oAdd (eB bList (elCons (eSl (eVar 0) (eoSome (eVar 1)) (eoSome (eOp oAdd (eVar 1) (eC (.int 1))))) (elNil))) (eLst (elCons (eOp oAdd (eOp oMul (eC (.int 71)) (eVar 1)) (eC (.int 23))) (elNil)))) (eC (.int 0)))) (cSeq (sAsg (tName 3) (eB bMax2 (elCons (eC (.int 0)) (elCons (eOp oSub (eB bAbs (elCons (eVar 2) (elNil))) (eOp oPow (eC (.int 10)) (eC (.int 18)))) (elNil))))) (cSeq (sRet (eLst (elCons (eVar 3) (elCons (eOp oMod (eB bInt (elCons (eOp oAdd (eOp oAdd (eOp oMul (eOp oMod (eB bInt (elCons (eB bAbs (elCons (eVar 2) (elNil))) (elNil))) (eC (.int 1000003))) (eC (.int 7919))) (eOp oMul (eC (.int 31)) (eVar 1))) (eC (.int 17))) (elNil))) (eC (.int 1000033))) (elNil))))) (cNil)))
def cTake : C := cSeq (sIf (eOp oGt (eOp oIx (eVar 0) (eC (.int 0))) (eC (.int 0))) (cSeq (sAsg (tName 2) (eOp oMod (eB bInt (elCons (eOp oIx (eVar 0) (eC (.int 0))) (elNil))) (eVar 1))) (cSeq (sAsg (tSub (eVar 0) (eC (.int 0))) (eOp oDiv (eOp oIx (eVar 0) (eC (.int 0))) (eVar 1))) (cSeq (sRet (eVar 2)) (cNil)))) (cNil)) (cSeq (sAsg (tSub (eVar 0) (eC (.int 1))) (eOp oMod (eB bInt (elCons (eOp oAdd (eOp oMul (eOp oIx (eVar 0) (eC (.int 1))) (eC (.int 69069))) (eC (.int 12345))) (elNil))) (eC (.int 4294967311)))) (cSeq (sRet (eOp oMod (eB bInt (elCons (eOp oDiv (eOp oIx (eVar 0) (eC (.int 1))) (eC (.int 65536))) (elNil))) (eVar 1))) (cNil)))
def cPick (t : Nat) : C := cSeq (sRet (eOp oIx (eVar 1) (eCall t (elCons (eVar 0) (elCons (eB bLen (elCons (eVar 1) (elNil))) (elNil)))))) (cNil)
/-- the first cell, if there is one -/
def cell0 : List Int → List Val
  | [] => []
  | n :: _ => [.int n]
theorem slc1 (n : Int) (r : List Int) : slc (n :: r) (some 0) (some 1) = [n] := by
  have h : min 1 (r.length + 1) = 1 := by omega
  show ((n :: r).take (min 1 (n :: r).length)).drop (min 0 (n :: r).length) = [n]
  rw [List.length_cons, h]
  simp
theorem slc0 (ns : List Int) : (slc ns (some 0) (some 1)).map Val.int = cell0 ns := by
  cases ns with
  | nil => rfl
  | cons n r => rw [slc1]; rfl
/-- what the feed leaves -/
def feedS (xs : List Val) (d y : Int) : Store := ((((Store.new ⟨0, .nil⟩ (.lst xs)).new (.lst xs)).new (.lst [.int 23])).new (.lst (xs ++ [.int 23]))).new (.lst [.int d, .int y])
def seed0 : List Int → Int
  | [] => 23
  | n :: _ => n
theorem log2_small {a : Int} (h0 : 0 ≤ a) (h : a < 2 ^ 64) : a.natAbs.log2 < 64 := by
  have h1 : a.natAbs < 2 ^ 64 := by omega
  rcases Nat.eq_zero_or_pos a.natAbs with e | e
  · rw [e]; decide
  · exact (Nat.log2_lt (by omega)).mpr h1
theorem oMul_small {o : Orc} {S : Store} {a b : Int} (h0 : 0 ≤ a) (h : a < 2 ^ 64) (k0 : 0 ≤ b) (k : b < 2 ^ 64) : oMul o (.int a) (.int b) S = .ok (.int (a * b)) S := by
  have h1 := log2_small h0 h
  have h2 := log2_small k0 k
  have e : Nat.blt (a.natAbs.log2 + b.natAbs.log2) 1000000 = true := by simp [Nat.blt_eq]; omega
  show (match Nat.blt (a.natAbs.log2 + b.natAbs.log2) 1000000 with | true => (G.R.ok (Val.int (a * b)) S : G.R Val) | false => .stuck 23) = _
  rw [e]
theorem run_seq {o : Orc} {ρ ρ' : Env} {S S' : Store} {a b : C} {r : SR} (h : a o ρ S = .nx ρ' S') (k : b o ρ' S' = r) : cSeq a b o ρ S = r := by
  show (a o ρ S).seq (b o) = r
  rw [h]; exact k
theorem run_last {o : Orc} {ρ : Env} {S S' : Store} {a b : C} {v : Val} (h : a o ρ S = .rt v S') : cSeq a b o ρ S = .rt v S' := by
  show (a o ρ S).seq (b o) = _
  rw [h]; rfl
theorem run_asg {o : Orc} {ρ : Env} {S S' : Store} {i : Nat} {e : E} {v : Val} (h : e o ρ S = .ok v S') : sAsg (tName i) e o ρ S = .nx (ρ.set i (some v)) S' := by
  rw [← setE_eq]
  show (e o ρ S).to ρ _ = _
  rw [h]; rfl
theorem run_ret {o : Orc} {ρ : Env} {S S' : Store} {e : E} {v : Val} (h : e o ρ S = .ok v S') : sRet e o ρ S = .rt v S' := by
  show (e o ρ S).to ρ _ = _
  rw [h]; rfl
theorem run_fn {f : Fn} {o : Orc} {args : List Val} {S S' : Store} {v : Val} (hl : Nat.beq args.length f.np = true) (h : f.body o (args.map some ++ List.replicate (f.ns - f.np) .none) S = .rt v S') : runFn f o args S = .ok v S' := by
  unfold runFn
  rw [hl]
  show (match f.body o (args.map some ++ List.replicate (f.ns - f.np) .none) S with | .nx _ S => (G.R.ok Val.none S : G.R Val) | .rt v S => .ok v S | .bk _ _ => .stuck 301 | .exc c fs _ S => .exc c fs S | .stuck w => .stuck w) = _
  rw [h]
theorem run_if {o : Orc} {ρ : Env} {S S' : Store} {c : E} {a b : C} {x : Val} {r : SR} (t : Bool) (h : c o ρ S = .ok x S') (ht : truthy S' x = some t) (k : (match t with | true => a o ρ S' | false => b o ρ S') = r) : sIf c a b o ρ S = r := by
  show (c o ρ S).to ρ _ = _
  rw [h]
  show (match truthy S' x with | some true => a o ρ S' | some false => b o ρ S' | .none => .stuck 201) = r
  rw [ht]
  cases t <;> exact k
theorem run_sub {o : Orc} {ρ : Env} {S S' S2 : Store} {e a b : E} {v x : Val} {k : Int} (h : e o ρ S = .ok v S') (ha : a o ρ S' = .ok x S') (hb : b o ρ S' = .ok (.int k) S') (hp : setL x (.int k) v S' = .ok () S2) : sAsg (tSub a b) e o ρ S = .nx ρ S2 := by
  show (e o ρ S).to ρ _ = _
  rw [h]
  show (noExc ((a o ρ S').bind fun x S => (b o ρ S).bind fun y S => (setL x y v S).bind fun _ S => .ok ρ S)).to ρ (fun ρ S => SR.nx ρ S) = _
  rw [ha]
  show (noExc ((b o ρ S').bind fun y S => (setL x y v S).bind fun _ S => .ok ρ S)).to ρ (fun ρ S => SR.nx ρ S) = _
  rw [hb]
  show (noExc ((setL x (.int k) v S').bind fun _ S => .ok ρ S)).to ρ (fun ρ S => SR.nx ρ S) = _
  rw [hp]; rfl
abbrev fE (e : E) : E := eOp oIx (eOp oAdd (eB bList (elCons e elNil)) (eLst (elCons (eOp oAdd (eOp oMul (eC (.int 71)) (eVar 1)) (eC (.int 23))) (elNil)))) (eC (.int 0))
abbrev fM (e : E) : E := eLst (elCons (eVar 3) (elCons (eOp oMod (eB bInt (elCons (eOp oAdd (eOp oAdd e (eOp oMul (eC (.int 31)) (eVar 1))) (eC (.int 17))) (elNil))) (eC (.int 1000033))) (elNil)))
theorem feed_eq (o : Orc) (ns : List Int) : ∃ d y, 0 ≤ d ∧ 0 ≤ y ∧ y < 2 ^ 40 ∧ runFn ⟨2, 4, cFeed⟩ o [.scr ns, .int 0] ⟨0, .nil⟩ = .ok (.ref 4) (feedS (cell0 ns) d y) := by
  refine ⟨match intLt 0 ((seed0 ns).natAbs - 10 ^ 18) with | true => (seed0 ns).natAbs - 10 ^ 18 | false => 0, ((seed0 ns).natAbs % 1000003 * 7919 + 31 * 0 + 17) % 1000033, ?_, Int.emod_nonneg _ (by decide), ?_, ?_⟩
  · have e := intLt_eq 0 ((seed0 ns).natAbs - 10 ^ 18)
    cases z : intLt 0 ((seed0 ns).natAbs - 10 ^ 18) with
    | false => exact Int.le_refl _
    | true => rw [z] at e; exact Int.le_of_lt (of_decide_eq_true e.symm)
  · have := Int.emod_lt_of_pos ((seed0 ns).natAbs % 1000003 * 7919 + 31 * 0 + 17) (show (0 : Int) < 1000033 by decide)
    omega
  · have c : ∀ k : Int, 0 ≤ (k.natAbs : Int) % 1000003 ∧ (k.natAbs : Int) % 1000003 < 1000003 := fun k => ⟨Int.emod_nonneg _ (by decide), Int.emod_lt_of_pos _ (by decide)⟩
    have m1 : ∀ (k : Int) (S : Store), oMul o (.int ((k.natAbs : Int) % 1000003)) (.int 7919) S = .ok (.int ((k.natAbs : Int) % 1000003 * 7919)) S := fun k S => oMul_small (c k).1 (by have := (c k).2; omega) (by decide) (by decide)
    have st0 : eSl (eVar 0) (eoSome (eVar 1)) (eoSome (eOp oAdd (eVar 1) (eC (.int 1)))) o [some (.scr ns), some (.int 0), .none, .none] ⟨0, .nil⟩ = alloc (.lst (cell0 ns)) ⟨0, .nil⟩ := by
      show alloc (.lst ((slc ns (some 0) (some 1)).map Val.int)) ⟨0, .nil⟩ = _
      rw [slc0]
    have st1 : ∀ e : E, e o [some (.scr ns), some (.int 0), .none, .none] ⟨0, .nil⟩ = alloc (.lst (cell0 ns)) ⟨0, .nil⟩ → fE e o [some (.scr ns), some (.int 0), .none, .none] ⟨0, .nil⟩ = .ok (.int (seed0 ns)) (((Store.new (Store.new ⟨0, .nil⟩ (.lst (cell0 ns))) (.lst (cell0 ns))).new (.lst [.int 23])).new (.lst (cell0 ns ++ [.int 23]))) := by
      intro e he
      show G.R.bind (G.R.bind (G.R.bind (G.R.bind (e o [some (.scr ns), some (.int 0), .none, .none] ⟨0, .nil⟩) _) _) _) _ = _
      rw [he]
      cases ns <;> kernel_rfl
    have st3 : ∀ e : E, ∀ d : Int, ∀ S : Store, S.nx = 4 → e o [some (.scr ns), some (.int 0), some (.int (seed0 ns)), some (.int d)] S = .ok (.int ((seed0 ns).natAbs % 1000003 * 7919)) S → fM e o [some (.scr ns), some (.int 0), some (.int (seed0 ns)), some (.int d)] S = .ok (.ref 4) (S.new (.lst [.int d, .int (((seed0 ns).natAbs % 1000003 * 7919 + 31 * 0 + 17) % 1000033)])) := by
      intro e d S hS he
      obtain ⟨nx, t⟩ := S
      cases hS
      show G.R.bind (G.R.bind (G.R.bind (G.R.bind (G.R.bind (G.R.bind (G.R.bind (G.R.bind (e o [some (.scr ns), some (.int 0), some (.int (seed0 ns)), some (.int d)] ⟨4, t⟩) _) _) _) _) _) _) _) _ = _
      rw [he]
      kernel_rfl
    have s1 := st1 _ st0
    have s3 := fun d (S : Store) (hS : S.nx = 4) => st3 (eOp oMul (eOp oMod (eB bInt (elCons (eB bAbs (elCons (eVar 2) (elNil))) (elNil))) (eC (.int 1000003))) (eC (.int 7919))) d S hS (m1 _ S)
    exact run_fn rfl (run_seq (run_asg s1) (run_seq (run_asg (by kernel_rfl)) (run_last (run_ret (s3 _ _ rfl)))))
theorem read_ok {o : Orc} {S : Store} {ρ : Env} {r : Nat} {vs : List Val} {k : Nat} {v : Val} (h : ρ[0]? = some (some (.ref r))) (hS : S.get r = some (.lst vs)) (hk : k < vs.length) (hv : vs[k]? = some v) : eOp oIx (eVar 0) (eC (.int (.ofNat k))) o ρ S = .ok v S := by
  have e1 : eVar 0 o ρ S = .ok (.ref r) S := by rw [eVar_eq, h]
  show (eVar 0 o ρ S).bind _ = _
  rw [e1]
  show (match isList (S.get r) with | some vs => ofOpt (getI vs (.ofNat k)) S 54 | .none => .stuck 57) = _
  rw [hS]
  show ofOpt (match (match Nat.blt k vs.length with | true => some k | false => .none) with | some j => vs[j]? | .none => .none) S 54 = _
  have e2 : Nat.blt k vs.length = true := by simpa [Nat.blt_eq] using hk
  rw [e2]
  show ofOpt vs[k]? S 54 = _
  rw [hv]; rfl
theorem take_eq (o : Orc) {S : Store} {r : Nat} {d y m : Int} (hS : S.get r = some (.lst [.int d, .int y])) (hr : r < big) (hd : 0 ≤ d) (hy : 0 ≤ y) (hy2 : y < 2 ^ 40) (hm : 0 < m) (hm2 : Nat.blt m.natAbs.log2 9000 = true) :
    ∃ j d' y', 0 ≤ j ∧ j < m ∧ 0 ≤ d' ∧ 0 ≤ y' ∧ y' < 2 ^ 40 ∧ runFn ⟨2, 3, cTake⟩ o [.ref r, .int m] S = .ok (.int j) (S.put r (.lst [.int d', .int y'])) := by
  have hm1 : intLt 0 m = true := by rw [intLt_eq]; exact decide_eq_true hm
  have rd0 : ∀ ρ : Env, ρ[0]? = some (some (.ref r)) → eOp oIx (eVar 0) (eC (.int 0)) o ρ S = .ok (.int d) S := fun ρ h => read_ok (k := 0) h hS (by simp) rfl
  have rd1 : ∀ ρ : Env, ρ[0]? = some (some (.ref r)) → eOp oIx (eVar 0) (eC (.int 1)) o ρ S = .ok (.int y) S := fun ρ h => read_ok (k := 1) h hS (by simp) rfl
  have md : ∀ (a : Int) (T : Store), oMod o (.int a) (.int m) T = .ok (.int (a % m)) T := fun a T => by
    show (match intLt 0 m with | true => (G.R.ok (Val.int (a % m)) T : G.R Val) | false => .stuck 27) = _
    rw [hm1]
  have dv : ∀ (a : Int) (T : Store), oDiv o (.int a) (.int m) T = .ok (.int (a / m)) T := fun a T => by
    show (match intLt 0 m && Nat.blt m.natAbs.log2 9000 with | true => (G.R.ok (Val.int (a / m)) T : G.R Val) | false => .stuck 25) = _
    rw [hm1, hm2]; rfl
  have put : ∀ (i : Nat) (v : Val), i < 2 → setL (.ref r) (.int (.ofNat i)) v S = .ok () (S.put r (.lst ([Val.int d, .int y].set i v))) := fun i v hi => by
    show (match S.get r with | some (.lst xs) => (match ixOf xs.length (.ofNat i) with | some k => (G.R.ok () (S.put r (.lst (xs.set k v))) : G.R Unit) | .none => .stuck 84) | _ => .stuck 86) = _
    rw [hS]
    show (match (match Nat.blt i 2 with | true => some i | false => .none) with | some k => (G.R.ok () (S.put r (.lst ([Val.int d, .int y].set k v))) : G.R Unit) | .none => .stuck 84) = _
    rw [show Nat.blt i 2 = true by simpa [Nat.blt_eq] using hi]
  have cnd : ∀ ρ : Env, ρ[0]? = some (some (.ref r)) → eOp oGt (eOp oIx (eVar 0) (eC (.int 0))) (eC (.int 0)) o ρ S = .ok (.bool (intLt 0 d)) S := fun ρ h => by
    show G.R.bind (eOp oIx (eVar 0) (eC (.int 0)) o ρ S) _ = _
    rw [rd0 ρ h]; rfl
  cases z : intLt 0 d with
  | true =>
    have d0 : 0 < d := by rw [intLt_eq] at z; exact of_decide_eq_true z
    refine ⟨d % m, d / m, y, Int.emod_nonneg _ (by omega), Int.emod_lt_of_pos _ hm, Int.ediv_nonneg hd (by omega), hy, hy2, ?_⟩
    refine run_fn rfl (run_last (run_if true (cnd _ rfl) (by rw [z]; rfl) ?_))
    refine run_seq (run_asg (v := .int (d % m)) (S' := S) ?_) (run_seq (run_sub (v := .int (d / m)) (x := .ref r) (k := 0) (S' := S) ?_ rfl rfl (put 0 _ (by decide))) (run_last (run_ret rfl)))
    · show G.R.bind (G.R.bind (G.R.bind (eOp oIx (eVar 0) (eC (.int 0)) o [some (.ref r), some (.int m), .none] S) _) _) _ = _
      rw [rd0 _ rfl]
      exact md d S
    · show G.R.bind (eOp oIx (eVar 0) (eC (.int 0)) o [some (.ref r), some (.int m), some (.int (d % m))] S) _ = _
      rw [rd0 _ rfl]
      exact dv d S
  | false =>
    let y' := (y * 69069 + 12345) % 4294967311
    have hy' : 0 ≤ y' ∧ y' < 4294967311 := ⟨Int.emod_nonneg _ (by decide), Int.emod_lt_of_pos _ (by decide)⟩
    refine ⟨y' / 65536 % m, d, y', Int.emod_nonneg _ (by omega), Int.emod_lt_of_pos _ hm, hd, hy'.1, by omega, ?_⟩
    refine run_fn rfl (run_seq (run_if false (cnd _ rfl) (by rw [z]; rfl) rfl) ?_)
    have ml : oMul o (.int y) (.int 69069) S = .ok (.int (y * 69069)) S := oMul_small hy (by omega) (by decide) (by decide)
    refine run_seq (run_sub (v := .int y') (x := .ref r) (k := 1) (S' := S) ?_ rfl rfl (put 1 _ (by decide))) (run_last (run_ret ?_))
    · show G.R.bind (G.R.bind (G.R.bind (G.R.bind (G.R.bind (eOp oIx (eVar 0) (eC (.int 1)) o [some (.ref r), some (.int m), .none] S) _) _) _) _) _ = _
      rw [rd1 _ rfl]
      show G.R.bind (G.R.bind (G.R.bind (G.R.bind (oMul o (.int y) (.int 69069) S) _) _) _) _ = _
      rw [ml]; rfl
    · have hS2 : (S.put r (.lst ([Val.int d, .int y].set 1 (.int y')))).get r = some (.lst [.int d, .int y']) := by rw [Store.get_put _ _ _ _ hr, if_pos rfl]; rfl
      show G.R.bind (G.R.bind (G.R.bind (G.R.bind (eOp oIx (eVar 0) (eC (.int 1)) o [some (.ref r), some (.int m), .none] _) _) _) _) _ = _
      have rd : eOp oIx (eVar 0) (eC (.int 1)) o [some (.ref r), some (.int m), .none] (S.put r (.lst ([Val.int d, .int y].set 1 (.int y')))) = .ok (.int y') (S.put r (.lst ([Val.int d, .int y].set 1 (.int y')))) := read_ok (k := 1) rfl hS2 (by simp) rfl
      rw [rd]
      exact md (y' / 65536) _
end G
namespace G
def isNx : SR → Bool
  | .nx _ _ => true
  | _ => false
def stOf : SR → Store
  | .nx _ S => S
  | _ => ⟨0, .nil⟩
def envOf : SR → Env
  | .nx ρ _ => ρ
  | _ => []
theorem isRt_ok {r : SR} (h : isRt r = true) : ∃ S, r = .rt (.bool true) S := by
  cases r with
  | rt v S =>
    cases v with
    | bool b => cases b with
      | true => exact ⟨S, rfl⟩
      | false => cases h
    | _ => cases h
  | _ => cases h
theorem isNx_ok {r : SR} (h : isNx r = true) : r = .nx (envOf r) (stOf r) := by cases r <;> first | rfl | cases h
abbrev Fin1 (r : SR) : Prop := ∃ S, r = .rt (.bool true) S
theorem fin_seq {o : Orc} {ρ ρ' : Env} {S S' : Store} {a b : C} (h : a o ρ S = .nx ρ' S') (k : Fin1 (b o ρ' S')) : Fin1 (cSeq a b o ρ S) := by
  have e : cSeq a b o ρ S = b o ρ' S' := run_seq h rfl
  rw [e]; exact k
theorem fin_nx {o : Orc} {ρ : Env} {S : Store} {a b : C} (h : isNx (a o ρ S) = true) (k : Fin1 (b o (envOf (a o ρ S)) (stOf (a o ρ S)))) : Fin1 (cSeq a b o ρ S) := fin_seq (isNx_ok h) k
/-- a target that takes what a call gave -/
theorem fin_asg {o : Orc} {ρ : Env} {S S' : Store} {t : T} {e : E} {b : C} {v : Val} (h : e o ρ S = .ok v S') (k : isRt (((noExc (t v o ρ S')).to ρ (fun ρ S => SR.nx ρ S)).seq (b o)) = true) : Fin1 (cSeq (sAsg t e) b o ρ S) := by
  have e1 : sAsg t e o ρ S = (noExc (t v o ρ S')).to ρ (fun ρ S => SR.nx ρ S) := by
    show (e o ρ S).to ρ _ = _
    rw [h]; rfl
  have e2 : cSeq (sAsg t e) b o ρ S = (((noExc (t v o ρ S')).to ρ (fun ρ S => SR.nx ρ S)).seq (b o)) := by
    show (sAsg t e o ρ S).seq (b o) = _
    rw [e1]
  rw [e2]; exact isRt_ok k
theorem fin_fn {t : Tb} {n f : Nat} {args : List Val} {S : Store} (hl : Nat.beq args.length (t.fn f).np = true) (k : Fin1 ((t.fn f).body (orcN t n) (args.map some ++ List.replicate ((t.fn f).ns - (t.fn f).np) .none) S)) : ∃ S', callN t (n + 1) f args S = .ok (.bool true) S' := by
  obtain ⟨S', e⟩ := k
  exact ⟨S', run_fn hl e⟩
theorem pick_eq {t : Nat} {o o' : Orc} {S : Store} {f l : Nat} {d y : Int} {vs : List Val} (ho : ∀ args S, o.call t args S = runFn ⟨2, 3, cTake⟩ o' args S) (hf : S.get f = some (.lst [.int d, .int y])) (hl : S.get l = some (.lst vs)) (hne : l ≠ f) (hr : f < big) (hd : 0 ≤ d) (hy : 0 ≤ y) (hy2 : y < 2 ^ 40) (h0 : 0 < vs.length) (hz : Nat.blt vs.length.log2 9000 = true) :
    ∃ (j : Nat) (d' y' : Int) (v : Val), j < vs.length ∧ 0 ≤ d' ∧ 0 ≤ y' ∧ y' < 2 ^ 40 ∧ vs[j]? = some v ∧ runFn ⟨2, 2, cPick t⟩ o [.ref f, .ref l] S = .ok v (S.put f (.lst [.int d', .int y'])) := by
  obtain ⟨j, d', y', j0, j1, d0, y0, y1, e⟩ := take_eq o' (m := vs.length) hf hr hd hy hy2 (by omega) hz
  obtain ⟨k, rfl⟩ := Int.eq_ofNat_of_zero_le j0
  have hk : k < vs.length := by omega
  refine ⟨k, d', y', vs[k], hk, d0, y0, y1, List.getElem?_eq_getElem hk, run_fn rfl (run_last (run_ret ?_))⟩
  have len : eB bLen (elCons (eVar 1) elNil) o [some (.ref f), some (.ref l)] S = .ok (.int vs.length) S := by
    show (match S.get l with | some (.lst vs) => (G.R.ok (Val.int vs.length) S : G.R Val) | _ => .stuck 112) = _
    rw [hl]
  have cl : eCall t (elCons (eVar 0) (elCons (eB bLen (elCons (eVar 1) elNil)) elNil)) o [some (.ref f), some (.ref l)] S = .ok (.int k) (S.put f (.lst [.int d', .int y'])) := by
    show G.R.bind (G.R.bind (G.R.bind (eB bLen (elCons (eVar 1) elNil) o [some (.ref f), some (.ref l)] S) _) _) _ = _
    rw [len]
    show o.call t [.ref f, .int vs.length] S = _
    rw [ho, e]
  show G.R.bind (eCall t (elCons (eVar 0) (elCons (eB bLen (elCons (eVar 1) elNil)) elNil)) o [some (.ref f), some (.ref l)] S) _ = _
  rw [cl]
  show (match isList ((S.put f (.lst [.int d', .int y'])).get l) with | some vs => ofOpt (getI vs (.ofNat k)) (S.put f (.lst [.int d', .int y'])) 54 | .none => .stuck 57) = _
  rw [Store.get_put _ _ _ _ hr, if_neg hne, hl]
  show ofOpt (match (match Nat.blt k vs.length with | true => some k | false => .none) with | some j => vs[j]? | .none => .none) _ 54 = _
  rw [show Nat.blt k vs.length = true by simpa [Nat.blt_eq] using hk]
  show ofOpt vs[k]? _ 54 = _
  rw [List.getElem?_eq_getElem hk]; rfl
end G
set_option Elab.async false
set_option linter.all false
set_option maxRecDepth 100000
/-! own ==, isinstance of an own class, list(d) -/
namespace G
open PySem PySem.Spec L2
open PyProof.Rows hiding St
section
variable {X : Cx} {g : Gx} {o : Orc} {W : WX} {t : Tb} {F : Ft} {nf n : Nat} {pins : List (Addr × PySem.Obj)} {s : Shared} {σ : St} {ρ : G.Env} {m : Mp} {H : Hp} {S : Store}
theorem ins_at {a C dx : Addr} {hs : List (Str × V)} (I : Inv X pins σ H s) (h : H a = some (.ins C dx hs)) : ∃ ox od, PySem.W.InstAt s.heap a ox C od := by
  obtain ⟨mA, O, _⟩ := ins_get I.hok h
  obtain ⟨od, e1, e2⟩ := lookIn_ns O.ns
  exact ⟨_, some od, ⟨O.obj, rfl, rfl, e1⟩⟩
theorem o_eqJ {mi : Nat} (R : Rn X g o t F nf n W) (M : MtOk X g F nf t.meth mi "__eq__") : OpS X g o W (oEqJ mi) (compareOp .Eq) := by
  intro pins s σ H m S v w x y a b Q I rv rw_ ra rb rs p
  have p' : PostG g RV m H Q (atS W σ) (match mthOf mi o v S with
    | some f => (match insOf S v with | some c => (match insOf S w with | some d => (match Nat.beq c d with | true => o.call f [v, w] S | false => .stuck 33) | .none => .stuck 33) | .none => .stuck 33)
    | .none => .stuck 33) := p
  cases e2 : mthOf mi o v S with
  | none => rw [e2] at p'; exact p'.elim
  | some f =>
    rw [e2] at p'
    cases e3 : insOf S v with
    | none => rw [e3] at p'; exact p'.elim
    | some c =>
      cases e4 : insOf S w with
      | none => rw [e3, e4] at p'; exact p'.elim
      | some d =>
        rw [e3, e4] at p'
        cases e5 : Nat.beq c d with
        | false =>
          have p2 : PostG g RV m H Q (atS W σ) (match Nat.beq c d with | true => o.call f [v, w] S | false => .stuck 33) := p'
          rw [e5] at p2; exact p2.elim
        | true =>
          have p2 : PostG g RV m H Q (atS W σ) (match Nat.beq c d with | true => o.call f [v, w] S | false => .stuck 33) := p'
          rw [e5] at p2
          have p3 : PostG g RV m H Q (atS W σ) (o.call f [v, w] S) := p2
          have ecd := Nat.eq_of_beq_eq_true e5
          subst ecd
          cases rv with
          | @ref k q hq =>
            cases rw_ with
            | @ref k2 q2 hq2 =>
              cases ra; cases rb
              have z3 : (match S.get k with | some (.ins c _) => some c | _ => .none) = some c := e3
              have z4 : (match S.get k2 with | some (.ins c _) => some c | _ => .none) = some c := e4
              have z2 : (match S.get k with | some (.ins c _) => o.meth c mi | _ => .none) = some f := e2
              cases e0 : S.get k with
              | none => rw [e0] at z3; cases z3
              | some ob =>
                cases ob with
                | ins c1 fs =>
                  rw [e0] at z3 z2
                  cases z3
                  cases e1 : S.get k2 with
                  | none => rw [e1] at z4; cases z4
                  | some ob2 =>
                    cases ob2 with
                    | ins c2 fs2 =>
                      rw [e1] at z4
                      cases z4
                      have em : t.meth c mi = some f := by have z : o.meth c mi = some f := z2; rw [R.orc] at z; exact z
                      obtain ⟨q', hq', _, dx, hs, h1, h2⟩ := rs.obj k _ e0
                      rw [hq] at hq'; cases hq'
                      obtain ⟨q', hq', _, dx2, hs2, k1, _⟩ := rs.obj _ _ e1
                      rw [hq2] at hq'; cases hq'
                      obtain ⟨hf, hM, hB⟩ := M.at_ c f em
                      obtain ⟨ox, od, J⟩ := ins_at I h1
                      obtain ⟨ox2, od2, J2⟩ := ins_at I k1
                      obtain ⟨mm, hF⟩ := I.fr
                      rw [R.orc] at p3
                      show wpAny (model X.prog X.w) X.A (richCompare .Eq (.ref q) (.ref q2)) _ _ _
                      refine PySem.W.cmp_K (op := .Eq) (tb := .ref (g.cl c)) (by have := R.room.un; omega) hF I.ok.mod.kin J J2.type (by unfold PySem.W.notFirst; simp) hM.at_ hM.fn ?_
                      refine wpAny_mono (run_fnG (us := [.ref q, .ref q2]) (vs := [.ref q, .ref q2]) (R.ok f hf) R.room.rm hB .nil R.takes I (.cons rfl (.cons rfl .nil)) ⟨m, [.ref k, .ref k2], S, .cons (RV.ref hq) (.cons (RV.ref hq2) .nil), rs, p3⟩) (fun u s' h => ?_) fun _ _ z => z
                      obtain ⟨y, H', I', ry, qy⟩ := h
                      exact SlX.cmpback ry ⟨y, H', I', ry, qy⟩
                    | _ => rw [e1] at z4; cases z4
                | _ => rw [e0] at z3; cases z3
            | _ => cases e4
          | _ => cases e3
theorem is_kV {P : Program} {w : World} {k : Key} {u : Value} (h : (mixKind P w).is k u = true) : RelV (kV k) u := by
  rw [mixKind_is] at h
  rcases keyIs_shape h with ⟨i, t, rfl, rfl⟩ | ⟨x, t, rfl, rfl⟩
  · exact ⟨t, rfl⟩
  · exact ⟨t, rfl⟩
/-- the entries, one by one -/
theorem dr_each {kvs : List (Val × Val)} {es : Array DictEntry} (h : DR g m H kvs es) : Paired (fun (kv : Val × Val) (e : DictEntry) => (∃ x, RV m H kv.1 x ∧ RelV x e.key) ∧ RU m H kv.2 e.val) kvs es.toList := by
  cases h with
  | tup xs he hn hr =>
    rw [he]
    clear hn he
    induction hr with
    | nil => exact .nil
    | @cons kv x kvs xs q r ih => exact .cons ⟨⟨_, q.2.2.2.1, rfl⟩, q.2.2.2.2⟩ ih
  | flat xs hk he hn hr =>
    have go : ∀ {kvs : List (Val × Val)} {xs : List (Key × Value)} {es : List DictEntry}, Pairs (mixKind g.P g.w) es xs → Paired (KF m H) kvs xs → Paired (fun (kv : Val × Val) (e : DictEntry) => (∃ x, RV m H kv.1 x ∧ RelV x e.key) ∧ RU m H kv.2 e.val) kvs es := by
      intro kvs xs es hp
      induction hp generalizing kvs with
      | nil => intro hr; cases hr; exact .nil
      | @cons e kv es xs k1 k2 _ ih =>
        intro hr
        cases hr with
        | @cons a b l r q rr => exact .cons ⟨⟨_, q.2.1, is_kV k1⟩, k2 ▸ q.2.2⟩ (ih rr)
    exact go he hr
/-- list(d) -/
theorem b_listK (hc : X.calm = true) : CallR X (.type "list") (BiR g o bListK) := by
  intro pins s σ H xs us Q I rvs ⟨m, vs, S, E, rv, rs, pp⟩
  cases rv with
  | nil => exact pp.elim
  | @cons v x vs xs r rr =>
    cases rr with
    | cons _ _ => cases r <;> exact pp.elim
    | nil =>
      obtain ⟨u, rfl, ru⟩ := vals1 rvs
      cases r with
      | @ref n q hq =>
        cases ru
        have p' : PostG g RV m H Q E (match S.get n with | some (.dct kvs) => alloc (.lst (kvs.map (·.1))) S | _ => .stuck 100) := pp
        split at p'
        · rename_i kvs e0
          obtain ⟨q', hq', hz, es, h1, h2⟩ := rs.obj n _ e0
          rw [hq] at hq'; cases hq'
          obtain ⟨hs, ob, ep, k1, k2, k3⟩ := dO_at I h1
          have each := dr_each h2
          have len : es.size = kvs.length := by rw [paired_len each]; simp
          refine PySem.W.kdl_call (PySem.KdlSrc.rawDict (es := es) (ep := ep) hs) (I.ok.hd hc) ⟨ob, k1, k2, k3⟩ (by rw [len]; exact hz) fun h' tk acc' c' keep new items => ?_
          have eq : acc'.toList = es.toList.map (·.key) := by
            apply List.ext_getElem?
            intro j
            rw [List.getElem?_map]
            by_cases hj : j < es.size
            · have hj' : j < acc'.size := by rw [items.1]; exact hj
              have q := items.2 j acc'[j] (by simp [hj'])
              obtain ⟨_, q⟩ := q
              simp [hj, hj', q]
            · have hj' : ¬ j < acc'.size := by rw [items.1]; exact hj
              simp [hj, hj']
          have ex : ∀ {kvs : List (Val × Val)} {l : List DictEntry}, Paired (fun (kv : Val × Val) (e : DictEntry) => (∃ x, RV m H kv.1 x ∧ RelV x e.key) ∧ RU m H kv.2 e.val) kvs l → ∃ ys, RVs m H (kvs.map (·.1)) ys ∧ Vals ys (l.map (·.key)) := by
            intro kvs l r
            induction r with
            | nil => exact ⟨[], .nil, .nil⟩
            | cons q r ih =>
              obtain ⟨ys, h1, h2⟩ := ih
              obtain ⟨⟨x, a, b⟩, _⟩ := q
              exact ⟨x :: ys, .cons a h1, .cons b h2⟩
          obtain ⟨ys, v1, v2⟩ := ex each
          rw [← eq] at v2
          have hlen : ys.length ≤ sizeLine := by rw [← v1.length, List.length_map]; exact hz
          exact ⟨.ref _, _, I.laid (a := s.heap.objs.size) (o := .lst ys) (t' := tk) keep (Nat.le_refl _) ⟨hlen, acc'.toList, c', v2, new⟩, rfl, PostG.lst p' rs v1 _ (I.hok.fresh (Nat.le_refl _))⟩
        · exact p'.elim
      | _ => exact pp.elim
end
/-- what isinstance asks of an own class -/
def isiB (K : PySem.W.Frag) (C : Addr) : Bool :=
  (["NoneType", "bool", "int", "str", "tuple", "list", "dict"].all fun T => decide (PySem.W.kitOne K (.type T) (.ref C) = some false)) &&
  (He.eqO (PySem.W.findIn K (.ref C) "__class__") (some (some (.builtin "object.__class__"))) &&
  (He.eqO (PySem.W.specialIn K (.builtin "object.__class__") "__get__") (some (some (.builtin "getset_descriptor.__get__"))) &&
  (decide (PySem.W.takesIn K (.builtin "object.__class__") = some true) && decide (PySem.W.mroIn K C (.type "object") = some true))))
structure IsiC (K : PySem.W.Frag) (C : Addr) : Prop where
  no : ∀ T ∈ ["NoneType", "bool", "int", "str", "tuple", "list", "dict"], PySem.W.kitOne K (.type T) (.ref C) = some false
  it : InsT K C
theorem isiB_ok {K : PySem.W.Frag} {C : Addr} (h : isiB K C = true) : IsiC K C := by
  obtain ⟨h1, h⟩ := Bool.and_eq_true_iff.mp h
  obtain ⟨h2, h⟩ := Bool.and_eq_true_iff.mp h
  obtain ⟨h3, h⟩ := Bool.and_eq_true_iff.mp h
  obtain ⟨h4, h5⟩ := Bool.and_eq_true_iff.mp h
  exact ⟨fun T hT => of_decide_eq_true (List.all_eq_true.mp h1 T hT), ⟨He.eqO_ok h2, He.eqO_ok h3, of_decide_eq_true h4, of_decide_eq_true h5⟩⟩
theorem ty_own {K : PySem.W.Frag} {g : Gx} {k : Nat} (h : IsiC K (g.cl k)) : TyOk K g (aOwn k) (.ref (g.cl k)) := by
  refine ⟨fun t b e => ?_, fun c b e => ?_⟩
  · cases t with
    | own c =>
      have e' : (match Nat.beq c k with | true => some true | false => Option.none) = some b := e
      cases q : Nat.beq c k with
      | false => rw [q] at e'; cases e'
      | true =>
        rw [q] at e'; cases e'
        rw [Nat.eq_of_beq_eq_true q]
        show PySem.W.kitOne K (.ref (g.cl k)) (.ref (g.cl k)) = some true
        unfold PySem.W.kitOne
        rw [if_pos (by simp)]
    | _ => cases e; exact h.no _ (by simp)
  · have e' : (match Nat.beq c k with | true => some true | false => Option.none) = some b := e
    cases q : Nat.beq c k with
    | false => rw [q] at e'; cases e'
    | true => rw [Nat.eq_of_beq_eq_true q]; exact h.it
end G
namespace G
open PySem PySem.Spec L2
open PyProof.Rows hiding St
section
variable {X : Cx} {g : Gx} {o : Orc} {W : WX} {t : Tb} {F : Ft} {nf n : Nat} {pins : List (Addr × PySem.Obj)} {s : Shared} {σ : St} {ρ : G.Env} {m : Mp} {H : Hp} {S : Store}
theorem o_addJ {mi : Nat} (R : Rn X g o t F nf n W) (M : MtOk X g F nf t.meth mi "__add__") (sf : ∀ c f, t.meth c mi = some f → PySem.W.selfFirst X.K (g.cl c) = true) : OpS X g o W (oAddJ mi) (binaryOp .Add) := by
  intro pins s σ H m S v w x y a b Q I rv rw_ ra rb rs p
  have p' : PostG g RV m H Q (atS W σ) (match mthOf mi o v S with
    | some f => (match insOf S v with | some c => (match insOf S w with | some d => (match Nat.beq c d with | true => o.call f [v, w] S | false => .stuck 33) | .none => .stuck 33) | .none => .stuck 33)
    | .none => .stuck 33) := p
  cases e2 : mthOf mi o v S with
  | none => rw [e2] at p'; exact p'.elim
  | some f =>
    rw [e2] at p'
    cases e3 : insOf S v with
    | none => rw [e3] at p'; exact p'.elim
    | some c =>
      cases e4 : insOf S w with
      | none => rw [e3, e4] at p'; exact p'.elim
      | some d =>
        rw [e3, e4] at p'
        cases e5 : Nat.beq c d with
        | false =>
          have p2 : PostG g RV m H Q (atS W σ) (match Nat.beq c d with | true => o.call f [v, w] S | false => .stuck 33) := p'
          rw [e5] at p2; exact p2.elim
        | true =>
          have p2 : PostG g RV m H Q (atS W σ) (match Nat.beq c d with | true => o.call f [v, w] S | false => .stuck 33) := p'
          rw [e5] at p2
          have p3 : PostG g RV m H Q (atS W σ) (o.call f [v, w] S) := p2
          have ecd := Nat.eq_of_beq_eq_true e5
          subst ecd
          cases rv with
          | @ref k q hq =>
            cases rw_ with
            | @ref k2 q2 hq2 =>
              cases ra; cases rb
              have z3 : (match S.get k with | some (.ins c _) => some c | _ => .none) = some c := e3
              have z4 : (match S.get k2 with | some (.ins c _) => some c | _ => .none) = some c := e4
              have z2 : (match S.get k with | some (.ins c _) => o.meth c mi | _ => .none) = some f := e2
              cases e0 : S.get k with
              | none => rw [e0] at z3; cases z3
              | some ob =>
                cases ob with
                | ins c1 fs =>
                  rw [e0] at z3 z2
                  cases z3
                  cases e1 : S.get k2 with
                  | none => rw [e1] at z4; cases z4
                  | some ob2 =>
                    cases ob2 with
                    | ins c2 fs2 =>
                      rw [e1] at z4
                      cases z4
                      have em : t.meth c mi = some f := by have z : o.meth c mi = some f := z2; rw [R.orc] at z; exact z
                      obtain ⟨q', hq', _, dx, hs, h1, h2⟩ := rs.obj k _ e0
                      rw [hq] at hq'; cases hq'
                      obtain ⟨q', hq', _, dx2, hs2, k1, _⟩ := rs.obj _ _ e1
                      rw [hq2] at hq'; cases hq'
                      obtain ⟨hf, hM, hB⟩ := M.at_ c f em
                      obtain ⟨ox, od, J⟩ := ins_at I h1
                      obtain ⟨ox2, od2, J2⟩ := ins_at I k1
                      obtain ⟨mm, hF⟩ := I.fr
                      rw [R.orc] at p3
                      refine PySem.W.binop_K (op := .Add) hF I.ok.mod.kin J J2.type (sf c f em) hM.at_ hM.fn ?_
                      refine wpAny_mono (run_fnG (us := [.ref q, .ref q2]) (vs := [.ref q, .ref q2]) (R.ok f hf) R.room.rm hB .nil R.takes I (.cons rfl (.cons rfl .nil)) ⟨m, [.ref k, .ref k2], S, .cons (RV.ref hq) (.cons (RV.ref hq2) .nil), rs, p3⟩) (fun u s' h => ?_) fun _ _ z => z
                      obtain ⟨y, H', I', ry, qy⟩ := h
                      exact SlX.cmpback ry ⟨y, H', I', ry, qy⟩
                    | _ => rw [e1] at z4; cases z4
                | _ => rw [e0] at z3; cases z3
            | _ => cases e4
          | _ => cases e3
end
end G
set_option Elab.async false
set_option linter.all false
set_option maxRecDepth 100000
/-! calls whose arguments and answer hold no objects: worked out apart from the store -/
namespace G
open PySem PySem.Spec L2
open PyProof.Rows hiding St
section
variable {X : Cx} {g : Gx} {o : Orc} {W : WX} {t : Tb} {F : Ft} {nf n : Nat} {pins : List (Addr × PySem.Obj)} {s : Shared} {σ : St} {ρ : G.Env} {m m' : Mp} {H : Hp} {S : Store} {pos p apos : Pos} {e : PySem.Expr} {es : List PySem.Expr} {cs : G.EL} {x : Str}
mutual
theorem RV.purv {m' : Mp} : ∀ (k : Nat) {v : Val} {y : V}, RV m H v y → pur k v = true → RV m' H v y
  | 0, _, _, _, h => by cases h
  | _ + 1, _, _, .none, _ => .none
  | _ + 1, _, _, .bool b, _ => .bool b
  | _ + 1, _, _, .int i, _ => .int i
  | _ + 1, _, _, .str h, _ => .str h
  | k + 1, _, _, .tup h r, q => .tup h (RVs.purv k r q)
  | _ + 1, _, _, .ref _, h => by cases h
  | _ + 1, _, _, .scr _, h => by cases h
theorem RVs.purv {m' : Mp} : ∀ (k : Nat) {vs : List Val} {ys : List V}, RVs m H vs ys → vs.all (pur k) = true → RVs m' H vs ys
  | _, _, _, .nil, _ => .nil
  | k, _, _, .cons h r, q => by
    obtain ⟨q1, q2⟩ := Bool.and_eq_true_iff.mp q
    exact .cons (RV.purv k h q1) (RVs.purv k r q2)
end
abbrev Mp.none (m : Mp) : Mp := ⟨m.K, [], m.ea⟩
theorem rs_none (hx : g.ex = .none) (rs : RS g m S H) : RS g m.none nilS H :=
  ⟨rs.K, rfl, Nat.zero_le _, fun i j a h => (by simp at h), fun n o h => (by cases (show (Option.none : Option Obj) = some o from h)), fun n h => absurd h (Nat.not_lt_zero _), fun a fs h => (by rw [hx] at h; cases h), rs.he⟩
theorem ex_none {m1 : Mp} {H1 : Hp} (rs : RS g m S H) (x : Ex m.none H m1 H1) : Ex m H m H1 ∧ RS g m S H1 := by
  have kp : ∀ b o, H b = some o → H1 b = some o := fun b o h => x.keep b o h (.inr (by simp))
  have e : Ex m H m H1 := ⟨rfl, rfl, List.prefix_rfl, fun b o h _ => kp b o h, fun a h1 h2 => absurd h1 h2⟩
  exact ⟨e, rs.grow e fun _ a o _ h => kp a o h⟩
theorem callP_ok (hx : g.ex = .none) {f : Nat} {vs : List Val} {xs : List V} {Q : VK} {E : XK} (ho : o = orcN t n) (rv : RVs m H vs xs) (rs : RS g m S H) (p : PostG g RV m H Q E (callP f o vs S)) : spG g t n f xs H Q E := by
  unfold callP at p
  cases e : vs.all (pur 20) with
  | false =>
    rw [e] at p
    have p' : PostG g RV m H Q E (o.call f vs S) := p
    rw [ho] at p'
    exact ⟨m, vs, S, rv, rs, p'⟩
  | true =>
    rw [e] at p
    have p' : PostG g RV m H Q E (match o.call f vs nilS with | .ok v _ => (match pur 20 v with | true => .ok v S | false => .stuck 997) | .exc _ _ _ => .stuck 997 | .stuck w => .stuck w) := p
    refine ⟨m.none, vs, nilS, rv.purv 20 e, rs_none hx rs, ?_⟩
    rw [ho] at p'
    revert p'
    show PostG g RV m H Q E (match callN t n f vs nilS with | .ok v _ => (match pur 20 v with | true => .ok v S | false => .stuck 997) | .exc _ _ _ => .stuck 997 | .stuck w => .stuck w) → _
    cases callN t n f vs nilS with
    | stuck w => exact fun p => p
    | exc c fs S' => exact fun p => p.elim
    | ok v S' =>
      intro p2 m1 H1 y x1 rs1 r1
      cases q : pur 20 v with
      | false =>
        have p3 : PostG g RV m H Q E (match pur 20 v with | true => .ok v S | false => .stuck 997) := p2
        rw [q] at p3; exact p3.elim
      | true =>
        have p3 : PostG g RV m H Q E (match pur 20 v with | true => .ok v S | false => .stuck 997) := p2
        rw [q] at p3
        obtain ⟨x2, rs2⟩ := ex_none rs x1
        exact p3 m H1 y x2 rs2 (r1.purv 20 q)
theorem callL_ok (hx : g.ex = .none) {f : Nat} {vs : List Val} {xs : List V} {Q : VK} {E : XK} (ho : o = orcN t n) (rv : RVs m H vs xs) (rs : RS g m S H) (p : PostG g RV m H Q E (callL f o vs S)) : spG g t n f xs H Q E := by
  unfold callL at p
  cases e : vs.all (pur 20) with
  | false =>
    rw [e] at p
    have p' : PostG g RV m H Q E (o.call f vs S) := p
    rw [ho] at p'
    exact ⟨m, vs, S, rv, rs, p'⟩
  | true =>
    rw [e] at p
    refine ⟨m.none, vs, nilS, rv.purv 20 e, rs_none hx rs, ?_⟩
    rw [ho] at p
    revert p
    show PostG g RV m H Q E (match callN t n f vs nilS with | .ok v S' => (match lstAt S' v with | some xs => (match xs.all (pur 20) with | true => G.alloc (.lst xs) S | false => .stuck 997) | .none => .stuck 997) | .exc _ _ _ => .stuck 997 | .stuck w => .stuck w) → _
    cases callN t n f vs nilS with
    | stuck w => exact fun p => p
    | exc c fs S' => exact fun p => p.elim
    | ok v S' =>
      intro p2 m1 H1 y x1 rs1 r1
      have p3 : PostG g RV m H Q E (match lstAt S' v with | some xs => (match xs.all (pur 20) with | true => G.alloc (.lst xs) S | false => .stuck 997) | .none => .stuck 997) := p2
      cases q : lstAt S' v with
      | none => rw [q] at p3; exact p3.elim
      | some ws =>
        rw [q] at p3
        have p4 : PostG g RV m H Q E (match ws.all (pur 20) with | true => G.alloc (.lst ws) S | false => .stuck 997) := p3
        cases q2 : ws.all (pur 20) with
        | false => rw [q2] at p4; exact p4.elim
        | true =>
          rw [q2] at p4
          have p5 : PostG g RV m H Q E (match Nat.blt S.nx big with | true => .ok (.ref S.nx) (S.new (.lst ws)) | false => .stuck 0) := p4
          cases hl : Nat.blt S.nx big with
          | false => rw [hl] at p5; exact p5.elim
          | true =>
            rw [hl] at p5
            cases r1 with
            | @ref k a hk =>
              obtain ⟨a', ys, h1, _, h2, h3⟩ := rs1.list (isList_of q) (RV.ref hk)
              cases h1
              obtain ⟨x2, rs2⟩ := ex_none rs x1
              have fr : H a = .none := x1.new a (List.mem_of_getElem? hk) (by simp)
              have na : a ∉ m.l := rs.notIn fr
              have rs3 : RS g (m.add a) (S.new (.lst ws)) H1 := rs2.newAt na (by simpa [Nat.blt_eq] using hl) ⟨ys, h2, h3.purv 20 q2⟩
              refine p5 (m.add a) H1 _ ⟨rfl, rfl, List.prefix_append _ _, x2.keep, fun b h1 h2 => ?_⟩ rs3 (RV.ref ?_)
              · rcases List.mem_append.mp (show b ∈ m.l ++ [a] from h1) with z | z
                · exact absurd z h2
                · rw [List.mem_singleton.mp z]; exact fr
              · have h4 : (m.add a).l = m.l ++ [a] := rfl
                rw [h4, ← rs.len]; simp
            | _ => cases q
theorem e_callP (hx : g.ex = .none) (R : Rn X g o t F nf n W) {f : Nat} (hf : f < nf) (hg : Gl X x) (hm : X.mg x = some (.ref (F.a f))) (hk : PySem.W.keepIn X.K (.ref (F.a f)) = true) (hb : Binds X.K (F.fd f) (F.ps f) [])
    (ha : PA X (e :: es) (tL g o W cs)) (hdb : (x == ("__debug__" : Str)) = false) (he : starEach (e :: es) X.env = (false, eval e X.env) :: starEach es X.env) (hpl : (backTo pos (starEach es X.env)).any (·.1) = false) :
    PE X (.Call (.Name x p) (e :: es) [] pos) (tM g o W (eCallP f cs)) := by
  refine ⟨fun pins s σ H Q I ⟨m, ρ, S, re, rs, pp⟩ => wpAny_Call_Name_kw (ld_glob I hg hm ?_ hdb)⟩
  refine PySem.W.callWith_K (h₀ := X.base) I.ok.mod.kin hk (thnL (pos := pos) ha I re rs pp fun us s1 vs S1 m1 H1 xs I1 r1 rv1 rs1 re1 e1 p1 => ⟨I1.kIn, ?_⟩) he hpl
  exact run_fnG (R.ok f hf) R.room.rm hb .nil R.takes I1 r1 (by rw [List.append_nil]; exact callP_ok hx R.orc rv1 rs1 p1)
theorem e_callL (hx : g.ex = .none) (R : Rn X g o t F nf n W) {f : Nat} (hf : f < nf) (hg : Gl X x) (hm : X.mg x = some (.ref (F.a f))) (hk : PySem.W.keepIn X.K (.ref (F.a f)) = true) (hb : Binds X.K (F.fd f) (F.ps f) [])
    (ha : PA X (e :: es) (tL g o W cs)) (hdb : (x == ("__debug__" : Str)) = false) (he : starEach (e :: es) X.env = (false, eval e X.env) :: starEach es X.env) (hpl : (backTo pos (starEach es X.env)).any (·.1) = false) :
    PE X (.Call (.Name x p) (e :: es) [] pos) (tM g o W (eCallL f cs)) := by
  refine ⟨fun pins s σ H Q I ⟨m, ρ, S, re, rs, pp⟩ => wpAny_Call_Name_kw (ld_glob I hg hm ?_ hdb)⟩
  refine PySem.W.callWith_K (h₀ := X.base) I.ok.mod.kin hk (thnL (pos := pos) ha I re rs pp fun us s1 vs S1 m1 H1 xs I1 r1 rv1 rs1 re1 e1 p1 => ⟨I1.kIn, ?_⟩) he hpl
  exact run_fnG (R.ok f hf) R.room.rm hb .nil R.takes I1 r1 (by rw [List.append_nil]; exact callL_ok hx R.orc rv1 rs1 p1)
end
end G
set_option Elab.async false
set_option linter.all false
set_option maxRecDepth 100000
/-! the last step in parts: sums of calls whose answers are lists without objects; names by int(cell) % 3 -/
namespace G
theorem callL_eq {o : Orc} {f : Nat} {vs xs : List Val} {S : Store} (hp : vs.all (pur 20) = true) (h : outL (o.call f vs nilS) = some xs) (hl : Nat.blt S.nx big = true) : callL f o vs S = .ok (.ref S.nx) (S.new (.lst xs)) := by
  unfold callL
  rw [hp]
  show (match o.call f vs nilS with | .ok v S' => (match lstAt S' v with | some xs => (match xs.all (pur 20) with | true => G.alloc (.lst xs) S | false => .stuck 997) | .none => .stuck 997) | .exc _ _ _ => .stuck 997 | .stuck w => .stuck w) = _
  revert h
  cases o.call f vs nilS with
  | exc c fs S' => exact fun h => by cases h
  | stuck w => exact fun h => by cases h
  | ok v S' =>
    intro h
    have h1 : (match lstAt S' v with | some xs => (match xs.all (pur 20) with | true => some xs | false => .none) | .none => .none) = some xs := h
    show (match lstAt S' v with | some xs => (match xs.all (pur 20) with | true => G.alloc (.lst xs) S | false => .stuck 997) | .none => .stuck 997) = _
    revert h1
    cases lstAt S' v with
    | none => exact fun h => by cases h
    | some ys =>
      intro h1
      have h2 : (match ys.all (pur 20) with | true => some ys | false => .none) = some xs := h1
      show (match ys.all (pur 20) with | true => G.alloc (.lst ys) S | false => .stuck 997) = _
      cases e : ys.all (pur 20) with
      | false => rw [e] at h2; cases h2
      | true =>
        rw [e] at h2
        have h3 : ys = xs := Option.some.inj h2
        rw [← h3]
        show (match Nat.blt S.nx big with | true => (R.ok (.ref S.nx) (S.new (.lst ys)) : R Val) | false => .stuck 0) = _
        rw [hl]
theorem eCallL_eq {o : Orc} {ρ : Env} {f : Nat} {as : EL} {vs xs : List Val} {S : Store} (ha : as o ρ S = .ok vs S) (hp : vs.all (pur 20) = true) (h : outL (o.call f vs nilS) = some xs) (hl : Nat.blt S.nx big = true) : eCallL f as o ρ S = .ok (.ref S.nx) (S.new (.lst xs)) := by
  show (as o ρ S).bind _ = _
  rw [ha]
  exact callL_eq hp h hl
theorem add_eq {o : Orc} {ρ : Env} {a b : E} {i k : Nat} {xs ys : List Val} {S S1 S2 : Store} (ha : a o ρ S = .ok (.ref i) S1) (hb : b o ρ S1 = .ok (.ref k) S2) (hi : S2.get i = some (.lst xs)) (hk : S2.get k = some (.lst ys)) (hr : room2 xs ys = true) (hl : Nat.blt S2.nx big = true) : eOp oAdd a b o ρ S = .ok (.ref S2.nx) (S2.new (.lst (xs ++ ys))) := by
  show (a o ρ S).bind _ = _
  rw [ha]
  show (b o ρ S1).bind _ = _
  rw [hb]
  show (match S2.get i, S2.get k with | some (.lst xs), some (.lst ys) => (match room2 xs ys with | true => G.alloc (.lst (xs ++ ys)) S2 | false => .stuck 20) | _, _ => .stuck 21) = _
  rw [hi, hk]
  show (match room2 xs ys with | true => G.alloc (.lst (xs ++ ys)) S2 | false => .stuck 20) = _
  rw [hr]
  show (match Nat.blt S2.nx big with | true => (R.ok (.ref S2.nx) (S2.new (.lst (xs ++ ys))) : R Val) | false => .stuck 0) = _
  rw [hl]
/-! int(abs((list(script[:1]) + [1])[0])) -/
def seed1 : List Int → Int
  | [] => 1
  | n :: _ => n
def cellE : E := eB bInt (elCons (eB bAbs (elCons (eOp oIx (eOp oAdd (eB bList (elCons (eSl (eVar 0) (eoNone) (eoSome (eC (.int 1)))) (elNil))) (eLst (elCons (eC (.int 1)) (elNil)))) (eC (.int 0))) (elNil))) (elNil))
def cellS (xs : List Val) : Store := (((Store.new ⟨0, .nil⟩ (.lst xs)).new (.lst xs)).new (.lst [.int 1])).new (.lst (xs ++ [.int 1]))
theorem slcn (ns : List Int) : (slc ns .none (some 1)).map Val.int = cell0 ns := by
  cases ns with
  | nil => rfl
  | cons n r =>
    have h : min 1 (r.length + 1) = 1 := by omega
    show (((n :: r).take (min 1 (n :: r).length)).drop 0).map Val.int = [.int n]
    rw [List.length_cons, h]; rfl
theorem cell_eq (o : Orc) (ns : List Int) (ρ : Env) : cellE o (some (.scr ns) :: ρ) ⟨0, .nil⟩ = .ok (.int (seed1 ns).natAbs) (cellS (cell0 ns)) := by
  have h : eSl (eVar 0) (eoNone) (eoSome (eC (.int 1))) o (some (.scr ns) :: ρ) ⟨0, .nil⟩ = alloc (.lst (cell0 ns)) ⟨0, .nil⟩ := by
    show alloc (.lst ((slc ns .none (some 1)).map Val.int)) ⟨0, .nil⟩ = _
    rw [slcn]
  show G.R.bind (G.R.bind (G.R.bind (G.R.bind (G.R.bind (G.R.bind (G.R.bind (G.R.bind (eSl (eVar 0) (eoNone) (eoSome (eC (.int 1))) o (some (.scr ns) :: ρ) ⟨0, .nil⟩) _) _) _) _) _) _) _) _ = _
  rw [h]
  cases ns <;> kernel_rfl
/-- l[int(cell) % 3], the list's three items at hand -/
theorem mod3 (c : Int) : c % 3 = 0 ∨ c % 3 = 1 ∨ c % 3 = 2 := by omega
end G
namespace G
/-- a target that takes a value -/
theorem run_asgT {o : Orc} {ρ ρ' : Env} {S S' : Store} {t : T} {e : E} {v : Val} (h : e o ρ S = .ok v S') (k : t v o ρ S' = .ok ρ' S') : sAsg t e o ρ S = .nx ρ' S' := by
  show (e o ρ S).to ρ _ = _
  rw [h]
  show (noExc (t v o ρ S')).to ρ (fun ρ S => SR.nx ρ S) = _
  rw [k]; rfl
end G
set_option Elab.async false
set_option linter.all false
set_option maxRecDepth 100000
/-! a dict that is walked by items() is frozen meanwhile -/
namespace G
open PySem PySem.Spec L2
open PyProof.Rows hiding St
section
variable {X : Cx} {g : Gx} {o : Orc} {W : WX} {pins : List (Addr × PySem.Obj)} {s : Shared} {σ : St} {ρ : G.Env} {m : Mp} {H H' : Hp} {S : Store} {a : Addr}
/-- H' is H but for the frozen dict at a -/
structure Th (H H' : Hp) (a : Addr) : Prop where
  keep : ∀ b o, H b = some o → b ≠ a → H' b = some o
  at_ : ∃ od φ, H a = some (.frz od (.ext φ))
mutual
theorem RV.thaw (t : Th H H' a) : ∀ {v : Val} {y : V}, RV m H v y → RV m H' v y
  | _, _, .none => .none
  | _, _, .bool b => .bool b
  | _, _, .int i => .int i
  | _, _, .str h => .str h
  | _, _, .tup h r => .tup (t.keep _ _ h (fun e => by obtain ⟨od, φ, q⟩ := t.at_; rw [e, q] at h; cases h)) (RVs.thaw t r)
  | _, _, .ref h => .ref h
  | _, _, .scr h => .scr (by
      rcases h with ⟨o, h⟩ | h
      · exact .inl ⟨o, t.keep _ _ h (fun e => by obtain ⟨od, φ, q⟩ := t.at_; rw [e, q] at h; cases h)⟩
      · exact .inr h)
theorem RVs.thaw (t : Th H H' a) : ∀ {v : List Val} {y : List V}, RVs m H v y → RVs m H' v y
  | _, _, .nil => .nil
  | _, _, .cons h r => .cons (RV.thaw t h) (RVs.thaw t r)
end
theorem RF.thaw (t : Th H H' a) {fs : List (Nat × Val)} {hs : List (Str × V)} (r : RF g m H fs hs) : RF g m H' fs hs := Paired.mapP r fun _ _ q => ⟨q.1, q.2.thaw t⟩
theorem RU.thaw (t : Th H H' a) {v : Val} {u : Value} (r : RU m H v u) : RU m H' v u := let ⟨y, p, q⟩ := r; ⟨y, p.thaw t, q⟩
theorem DR.thaw (t : Th H H' a) {kvs : List (Val × Val)} {es : Array DictEntry} (r : DR g m H kvs es) : DR g m H' kvs es := by
  cases r with
  | tup xs he hn hr => exact .tup xs he hn (Paired.mapP hr fun _ _ q => ⟨q.1, q.2.1, q.2.2.1, q.2.2.2.1.thaw t, q.2.2.2.2.thaw t⟩)
  | flat xs hk he hn hr => exact .flat xs hk he hn (Paired.mapP hr fun _ _ q => ⟨q.1, q.2.1.thaw t, q.2.2.thaw t⟩)
theorem RO.thaw (t : Th H H' a) {b : Addr} (hb : b ≠ a) {ob : G.Obj} (r : RO g m H b ob) : RO g m H' b ob := by
  cases ob with
  | lst xs => obtain ⟨ys, h, q⟩ := r; exact ⟨ys, t.keep _ _ h hb, q.thaw t⟩
  | dct kvs => obtain ⟨z, es, h, q⟩ := r; exact ⟨z, es, t.keep _ _ h hb, q.thaw t⟩
  | set xs => exact ⟨r.1, t.keep _ _ r.2 hb⟩
  | fz kvs => obtain ⟨z, ob, es, h, q⟩ := r; exact ⟨z, ob, es, t.keep _ _ h hb, q.thaw t⟩
  | ins c fs => obtain ⟨f, dx, hs, h, q⟩ := r; exact ⟨f, dx, hs, t.keep _ _ h hb, RF.thaw t q⟩
theorem RS.thaw {n : Nat} {kvs : List (Val × Val)} {od : PySem.Obj} {es : Array DictEntry} (rs : RS g m S H) (hm : m.l[n]? = some a) (hp : S.get n = some (.fz kvs)) (hd : H a = some (.frz od (dO a es))) :
    RS g m (S.put n (.dct kvs)) (L2.upd H a (dO a es)) := by
  have t : Th H (L2.upd H a (dO a es)) a := ⟨fun b o h hb => by rw [upd_ne hb]; exact h, od, _, hd⟩
  have gn : ∀ k, (S.put n (.dct kvs)).get k = if k = n then some (.dct kvs) else S.get k := fun k => Store.get_put S n k _ (rs.lim' hp)
  refine ⟨rs.K, rs.len, rs.lim, rs.inj, fun k q hq => ?_, fun k hk => ?_, fun b fs h => ?_, rs.he⟩
  · rw [gn] at hq
    by_cases e : k = n
    · rw [if_pos e] at hq
      cases hq
      obtain ⟨b, hb, z, ob, es', h1, h2⟩ := rs.obj n _ hp
      rw [hm] at hb; cases hb
      rw [hd] at h1
      have h3 : dO a es = dO a es' := by injection (Option.some.inj h1)
      exact ⟨a, by rw [e]; exact hm, z, es', by rw [upd_same, h3], h2.thaw t⟩
    · rw [if_neg e] at hq
      obtain ⟨b, hb, ro⟩ := rs.obj k q hq
      exact ⟨b, hb, ro.thaw t fun z => e (rs.inj k n b hb (by rw [z]; exact hm))⟩
  · rw [gn]
    by_cases e : k = n
    · exact ⟨_, if_pos e⟩
    · rw [if_neg e]; exact rs.all k hk
  · obtain ⟨h1, hs, h2, h3⟩ := rs.xf b fs h
    exact ⟨h1, hs, t.keep _ _ h2 (fun e => by rw [e, hd] at h2; cases h2), RF.thaw t h3⟩
/-- an expression in which the dict of the name i is frozen -/
theorem m_lock {e : PySem.Expr} {ce : G.E} {i : Nat} (he : PE X e (tM g o W ce)) : PE X e (tM g o W (eLock i ce)) :=
  PE.imp (pe_lock he) fun σ H Q ⟨m, ρ, S, re, rs, pp⟩ => by
    have p1 : PostG g RV m H Q (atS W σ) (match ρ[i]? with | some (some (.ref n)) => (match S.get n with | some (.dct kvs) => (noExc (ce o ρ (S.put n (.fz kvs)))).bind fun v S' => (match S'.get n with | some (.fz ks) => .ok v (S'.put n (.dct ks)) | _ => .stuck 97) | _ => .stuck 97) | _ => .stuck 97) := pp
    split at p1
    · rename_i n h0
      have p2 : PostG g RV m H Q (atS W σ) (match S.get n with | some (.dct kvs) => (noExc (ce o ρ (S.put n (.fz kvs)))).bind fun v S' => (match S'.get n with | some (.fz ks) => .ok v (S'.put n (.dct ks)) | _ => .stuck 97) | _ => .stuck 97) := p1
      split at p2
      · rename_i kvs h1
        obtain ⟨a, hm, z, es, hd, dr⟩ := rs.obj n _ h1
        refine ⟨a, dO a es, hd, True.intro, fun od => ?_⟩
        have x0 := rs.exPut (u := .frz od (dO a es)) h1 hm
        refine ⟨m, ρ, S.put n (.fz kvs), re.mono x0, rs.put h1 hm ⟨z, od, es, upd_same, dr.mono0 x0.toEx0⟩, ?_⟩
        revert p2
        cases ce o ρ (S.put n (.fz kvs)) with
        | stuck w => exact fun p => p
        | exc c fs S' => exact fun p => p.elim
        | ok v S' =>
          intro p2 m1 H1 y x1 rs1 rv1
          have p3 : PostG g RV m H Q (atS W σ) (match S'.get n with | some (.fz ks) => .ok v (S'.put n (.dct ks)) | _ => .stuck 97) := p2
          have hd1 : H1 a = some (.frz od (dO a es)) := x1.keep a _ upd_same (.inl rfl)
          refine ⟨hd1, ?_⟩
          split at p3
          · rename_i ks h2
            have hm1 := x1.get hm
            have rs2 := rs1.thaw hm1 h2 hd1
            have am : a ∈ m.l := List.mem_of_getElem? hm
            have x2 : Ex m H m1 (L2.upd H1 a (dO a es)) := by
              refine ⟨x1.K, x1.ea, x1.pre, fun b o h c => ?_, fun b h1 h2 => ?_⟩
              · have : b ≠ a := by
                  rintro rfl
                  rw [hd] at h; cases h
                  rcases c with c | c
                  · cases c
                  · exact c am
                rw [upd_ne this]
                exact x1.keep b o (by rw [upd_ne this]; exact h) c
              · have h3 := x1.new b h1 h2
                have : b ≠ a := by rintro rfl; exact h2 am
                rw [upd_ne this] at h3
                exact h3
            exact p3 m1 _ y x2 rs2 (rv1.thaw ⟨fun b o h hb => by rw [upd_ne hb]; exact h, od, _, hd1⟩)
          · exact p3.elim
      · exact p2.elim
    · exact p1.elim
end
/-! ### items() of a frozen dict -/
theorem paired_at {α β : Type} {R : α → β → Prop} : ∀ {l : List α} {k : List β} {i : Nat} {a : α} {b : β}, Paired R l k → l[i]? = some a → k[i]? = some b → R a b
  | _, _, _, _, _, .nil, h, _ => by simp at h
  | _, _, 0, _, _, .cons q _, h, h2 => by simp at h h2; subst h; subst h2; exact q
  | _, _, i + 1, _, _, .cons _ r, h, h2 => paired_at (i := i) r (by simpa using h) (by simpa using h2)
def EnR (en : DictEntry) (p : V × V) : Prop := RelV p.1 en.key ∧ RelV p.2 en.val
def kvR (m : Mp) (H : Hp) (kv : Val × Val) (p : V × V) : Prop := RV m H kv.1 p.1 ∧ RV m H kv.2 p.2
theorem DR.pairs {g : Gx} {m : Mp} {H : Hp} {kvs : List (Val × Val)} {es : Array DictEntry} (r : DR g m H kvs es) : ∃ xs : List (V × V), Paired EnR es.toList xs ∧ Paired (kvR m H) kvs xs := by
  cases r with
  | tup ks he hn hr =>
    rw [he]
    clear he hn
    induction hr with
    | nil => exact ⟨[], .nil, .nil⟩
    | cons q r ih =>
      obtain ⟨xs, h1, h2⟩ := ih
      obtain ⟨q1, q2, q3, q4, z, q5, q6⟩ := q
      exact ⟨(.ref _, z) :: xs, .cons ⟨rfl, q6⟩ h1, .cons ⟨q4, q5⟩ h2⟩
  | flat ks hk he hn hr =>
    clear hk hn
    generalize es.toList = el at he ⊢
    induction he generalizing kvs with
    | nil => cases hr; exact ⟨[], .nil, .nil⟩
    | cons h1 h2 _ ih =>
      cases hr with
      | cons q r =>
        obtain ⟨xs, k1, k2⟩ := ih r
        obtain ⟨q1, q2, z, q3, q4⟩ := q
        exact ⟨(kV _, z) :: xs, .cons ⟨relV_key h1, by rw [h2]; exact q4⟩ k1, .cons ⟨q2, q3⟩ k2⟩
theorem enr_at {es : Array DictEntry} {xs : List (V × V)} (h : Paired EnR es.toList xs) : xs.length = es.size ∧ ∀ i y z, xs[i]? = some (y, z) → ∃ h : i < es.size, RelV y es[i].key ∧ RelV z es[i].val := by
  have hl := paired_len h
  refine ⟨by rw [← hl]; simp, fun i y z e => ?_⟩
  have hi : i < es.size := by
    have h1 := (List.getElem?_eq_some_iff.mp e).1
    rw [← hl] at h1
    simpa using h1
  exact ⟨hi, paired_at h (a := es[i]) (by simp [hi]) e⟩
def Itf (d : Addr) (ob : PySem.Obj) (es : Array DictEntry) (xs : List (V × V)) : L2.It :=
  ⟨fun i H => H d = some (.frz ob (dO d es)) ∧ i < xs.length, fun i H x H' => ∃ T y z, xs[i]? = some (y, z) ∧ x = .ref T ∧ H T = none ∧ H' = L2.upd H T (.tup [y, z]), fun i H => H d = some (.frz ob (dO d es)) ∧ xs.length ≤ i⟩
section
variable {P : Program} {w : World} {K : PySem.W.Frag} {d : Addr} {ob : PySem.Obj} {es : Array DictEntry} {ep : Nat} {xs : List (V × V)}
theorem turn_itemsR {elts : List PySem.Expr} {kk : Nat} {tpos : Pos} (it : Addr) (hod : ob.data = .dict es ep) (hx : ob.ExactDict) (hlen : xs.length = es.size)
    (hr : ∀ i y z, xs[i]? = some (y, z) → ∃ h : i < es.size, RelV y es[i].key ∧ RelV z es[i].val) :
    Turn P w K (.Tuple elts kk tpos) (Itf d ob es xs) [it] it (fun i h => ∃ ok ov, IsItemIter h it d i es.size ep ok ov) where
  mem := by simp
  obj := fun i h stands b hb => by
    have e : b = it := List.mem_singleton.mp hb
    subst e
    obtain ⟨ok, ov, e⟩ := stands
    exact ⟨_, e, fun v z => nomatch z⟩
  keep := fun i h h' stands k => let ⟨ok, ov, e⟩ := stands; ⟨ok, ov, k it (by simp) _ e⟩
  item := by
    intro X hP hw hK hc i pins s σ H EX I feet stands may
    subst hP hw hK
    obtain ⟨hd, hi⟩ := may
    have raw : s.heap.DictRaw d es ep := ⟨ob, (I.hok d _ hd).1, hx, hod⟩
    obtain ⟨⟨y, z⟩, hyz⟩ : ∃ p, xs[i]? = some p := ⟨xs[i], List.getElem?_eq_getElem hi⟩
    obtain ⟨inRow, ry, rz⟩ := hr i y z hyz
    obtain ⟨ok, ov, isIt⟩ := stands
    have below : it < s.heap.objs.size := Heap.lt_size isIt
    refine wpAny_pyNext_items_item_raw isIt raw inRow fun h' outA pairA sz1 kept => ?_
    refine ⟨_, rfl, wpAny_letOwnedTupleGo_items (s := { s with heap := h' }) outA fun hB isB same => ?_⟩
    have pairB : hB.get? s.heap.objs.size = some { cls := .type "tuple", data := .seq #[es[i].key, es[i].val] } := (same.2 _ (Nat.ne_of_gt below)).trans pairA
    have laid : ObjOk X.prog X.w (upd H s.heap.objs.size (.tup [y, z])) hB s.heap.objs.size (.tup [y, z]) :=
      ⟨by show 2 ≤ sizeLine; decide, [es[i].key, es[i].val], .cons ry (.cons rz .nil), ⟨_, pairB, rfl, _, rfl⟩⟩
    have IA : Inv X pins σ (upd H s.heap.objs.size (.tup [y, z])) { s with heap := hB } :=
      I.turnedNew (t' := s.toks) (ch := [it]) (fun b ob hb e => (same.2 b (by simpa using hb)).trans (kept b ob (by simpa using hb) e)) feet (Nat.le_refl _) laid
    refine ⟨.ref s.heap.objs.size, _, IA, rfl, ⟨_, y, z, hyz, rfl, I.hok.fresh (Nat.le_refl _), rfl⟩, ⟨es[i].key, es[i].val, isB⟩, fun b hb => ?_⟩
    have e : b = it := List.mem_singleton.mp hb
    rw [e, upd_ne (Nat.ne_of_lt below)]
    exact (feet it (by simp)).1
  done := by
    intro X hP hw hK hc i pins s σ H EX I feet stands may
    subst hP hw hK
    obtain ⟨hd, hi⟩ := may
    have raw : s.heap.DictRaw d es ep := ⟨ob, (I.hok d _ hd).1, hx, hod⟩
    obtain ⟨g0, g1, g2, g3, g4, g5⟩ := feet it (by simp)
    obtain ⟨ok, ov, isIt⟩ := stands
    exact wpAny_pyNext_items_end_raw (I.ok.hd hc) isIt raw (by omega) fun h' eb => ⟨rfl, I.turned (t' := s.toks) (fun b ob hb e => eb b ob hb e) g0 g1 g3 g4 g5⟩
  self := fun A i s Q E stands h => let ⟨_, _, e⟩ := stands; PySem.W.kcp_self e h
def iItemsR (td : TE) : TI := fun σ H R => td σ H fun x H1 => ∃ (d : Addr) (ob : PySem.Obj) (es : Array DictEntry) (xs : List (V × V)), x = .ref d ∧ H1 d = some (.frz ob (dO d es)) ∧ xs.length = es.size ∧ (∀ i y z, xs[i]? = some (y, z) → ∃ h : i < es.size, RelV y es[i].key ∧ RelV z es[i].val) ∧ R (Itf d ob es xs) H1
theorem pi_itemsR {X : Cx} {e : PySem.Expr} {td : TE} {apos cpos : Pos} {elts : List PySem.Expr} {kk : Nat} {tpos : Pos} (isIt : PE X e td) (hbase : attributeBase e "items" X.env (eval e X.env) = eval e X.env := by rfl) (hline : (apos.endLine == cpos.line) = true := by rfl) :
    PI X (.Tuple elts kk tpos) (.Call (.Attribute e "items" apos) [] [] cpos) (iItemsR td) := by
  refine ⟨fun pins s σ H R I h => ?_⟩
  refine wpAny_Call_method (T := "dict") (id := "dict.items") hbase rfl hline F.plainAttrs_dict F.slot_dict_items F.type_dict_items (thn (isIt.run pins s σ H _ I h) fun u s1 ⟨x, H1, IA, isX, d, ob, es, xs, ex, hd, hl, hr, q⟩ => ?_)
  subst ex
  obtain rfl : u = Value.ref d := isX
  obtain ⟨atD, ⟨hs, o1, ep, k1, k2, k3⟩, _⟩ := (show s1.heap.get? d = some ob ∧ ObjOk X.prog X.w H1 s1.heap d (dO d es) from IA.hok d _ hd)
  rw [atD] at k1; cases k1
  have raw : s1.heap.DictRaw d es ep := ⟨ob, atD, k2, k3⟩
  refine ⟨raw.typeIs, fun a e => by cases e; exact ⟨ob, atD, k2.2.1⟩, ?_⟩
  have IB : Inv X pins σ H1 { s1 with heap := s1.heap.push { cls := .type "dict_items", data := .fields #[.ref d] } } := IA.kept (t' := s1.toks) fun b ob q => Heap.get?_push_of_some _ q
  have walks : wpAny (model X.prog X.w) X.A (pyIter (.ref s1.heap.objs.size)) (PIE X pins σ (.Tuple elts kk tpos) R) X.xe { s1 with heap := s1.heap.push { cls := .type "dict_items", data := .fields #[.ref d] } } := by
    refine wpAny_pyIter_items_raw (d := d) ⟨_, Heap.get?_push_size _ rfl, rfl, rfl⟩ (raw.at fun o q => Heap.get?_push_of_some _ q) (pi_one (tk := s1.toks) IB _ (turn_itemsR _ k3 k2 hl hr) ⟨.none, .none, ?_⟩ q)
    exact Heap.get?_push_size _ rfl
  show wpAny _ _ (callWith cpos (.builtin "dict.items") [.ref d] [] []) _ X.xe s1
  exact method_meetsIn F.slot_dict_items F.entry_dict_items rfl (PySem.evalArgs_none ⟨rfl, raw.typeIs, F.args_dict_items_1 _, _, meets_dict_items_raw d hs, ⟨es, ep, raw⟩, walks⟩)
end
section
variable {X : Cx} {g : Gx} {o : Orc} {W : WX}
theorem walks_items {d : Addr} {ob : PySem.Obj} {es : Array DictEntry} {xs : List (V × V)} : Walks g (Itf d ob es xs) (fun i it m H => ∃ kvs, it = .vals ((kvs.map dE).drop i) ∧ H d = some (.frz ob (dO d es)) ∧ Paired (kvR m H) kvs xs) where
  mono := fun ⟨kvs, h1, h2, h3⟩ x => ⟨kvs, h1, x.keep _ _ h2 rfl, Paired.mapP h3 fun _ _ q => ⟨q.1.mono0 x, q.2.mono0 x⟩⟩
  stop := by
    rintro i it m H S ⟨kvs, rfl, h2, h3⟩ rs e
    refine ⟨h2, ?_⟩
    have hl := paired_len h3
    cases z : (kvs.map dE).drop i with
    | nil =>
      have := List.drop_eq_nil_iff.mp z
      rw [List.length_map] at this
      omega
    | cons v r => rw [z] at e; cases e
  go := by
    rintro i it m H S v it' ⟨kvs, rfl, h2, h3⟩ rs e
    have hl := paired_len h3
    cases z : (kvs.map dE).drop i with
    | nil => rw [z] at e; cases e
    | cons v0 r =>
      rw [z] at e
      have e' : some (some (v0, G.It.vals r)) = some (some (v, it')) := e
      obtain ⟨rfl, rfl⟩ : v0 = v ∧ G.It.vals r = it' := by
        have := Option.some.inj (Option.some.inj e')
        exact ⟨(Prod.mk.inj this).1, (Prod.mk.inj this).2⟩
      have hi : i < kvs.length := by
        have h4 : ((kvs.map dE).drop i).length = (v0 :: r).length := by rw [z]
        rw [List.length_drop, List.length_map, List.length_cons] at h4
        omega
      have h5 : (kvs.map dE)[i]? = some v0 := by
        have h6 : ((kvs.map dE).drop i)[0]? = some v0 := by rw [z]; rfl
        rw [List.getElem?_drop] at h6
        simpa using h6
      have h7 : (kvs.map dE).drop (i + 1) = r := by
        have h8 : ((kvs.map dE).drop i).drop 1 = r := by rw [z]; rfl
        rw [List.drop_drop] at h8
        exact h8
      refine ⟨⟨h2, by omega⟩, ?_⟩
      rintro x H' ⟨T, y, w, hyw, rfl, hT, rfl⟩
      have x0 : Ex m H m (L2.upd H T (.tup [y, w])) := Ex.upd hT
      rw [List.getElem?_map, List.getElem?_eq_getElem hi] at h5
      have h5' : dE kvs[i] = v0 := Option.some.inj h5
      obtain ⟨q1, q2⟩ : kvR m H kvs[i] (y, w) := paired_at h3 (List.getElem?_eq_getElem hi) hyw
      refine ⟨x0, rs.upd hT, ?_, kvs, by rw [h7], x0.keep _ _ h2 (.inl rfl), Paired.mapP h3 fun _ _ q => ⟨q.1.mono x0, q.2.mono x0⟩⟩
      rw [← h5']
      exact .tup upd_same (.cons (q1.mono x0) (.cons (q2.mono x0) .nil))
/-- d.items(), d frozen -/
theorem i_itemsF {e : PySem.Expr} {ce : G.E} {apos cpos : Pos} {elts : List PySem.Expr} {kk : Nat} {tpos : Pos} (he : PE X e (tM g o W ce)) (hbase : attributeBase e "items" X.env (eval e X.env) = eval e X.env) (hline : (apos.endLine == cpos.line) = true) :
    PI X (.Tuple elts kk tpos) (.Call (.Attribute e "items" apos) [] [] cpos) (tI g o W (iItemsF ce)) :=
  PI.imp (pi_itemsR he hbase hline) fun σ H R ⟨m, ρ, S, re, rs, pp⟩ => ⟨m, ρ, S, re, rs, PostG.mono (PostG.bind pp) fun x H1 ⟨m1, v, S1, e1, rs1, rv, p1⟩ => by
    cases rv with
    | @ref n d hd =>
      have p3 : PostG g (RI g) m1 H1 R (atS W σ) (match S1.get n with | some (.fz kvs) => .ok (.vals (kvs.map dE)) S1 | _ => .stuck 72) := p1
      split at p3
      · rename_i kvs h0
        obtain ⟨d', hd', z, ob, es, h1, dr⟩ := rs1.obj n _ h0
        rw [hd] at hd'; cases hd'
        obtain ⟨xs, q1, q2⟩ := dr.pairs
        obtain ⟨r1, r2⟩ := enr_at q1
        exact ⟨d, ob, es, xs, rfl, h1, r1, r2, p3 m1 H1 _ Ex.rfl' rs1 ⟨_, walks_items, kvs, rfl, h1, q2⟩⟩
      · exact p3.elim
    | _ => exact p1.elim⟩
end
end G
set_option Elab.async false
set_option linter.all false
set_option maxRecDepth 100000
/-! sorted({.. for ..}), a set of ints -/
namespace G
open PySem PySem.Spec L2
open PyProof.Rows hiding St
theorem mem_insU {k j : Int} : ∀ {l : List Int}, j ∈ insU k l ↔ j = k ∨ j ∈ l
  | [] => by simp [insU]
  | a :: r => by
    unfold insU
    cases h : intLt k a with
    | true => simp
    | false =>
      cases h2 : intEq k a with
      | true =>
        have e := intEq_true h2
        subst e
        simp
      | false =>
        have ih := mem_insU (k := k) (j := j) (l := r)
        simp only [List.mem_cons, ih]
        constructor
        · rintro (h | h | h)
          · exact .inr (.inl h)
          · exact .inl h
          · exact .inr (.inr h)
        · rintro (h | h | h)
          · exact .inr (.inl h)
          · exact .inl h
          · exact .inr (.inr h)
theorem insU_srt {k : Int} : ∀ {l : List Int}, l.Pairwise (· < ·) → (insU k l).Pairwise (· < ·) ∧ (insU k l).length = if k ∈ l then l.length else l.length + 1
  | [], _ => by simp [insU]
  | a :: r, h => by
    rw [List.pairwise_cons] at h
    obtain ⟨h1, h2⟩ := h
    unfold insU
    cases e : intLt k a with
    | true =>
      have ka : k < a := by rw [intLt_eq] at e; exact of_decide_eq_true e
      have no : k ∉ a :: r := fun q => by
        rcases List.mem_cons.mp q with q | q
        · omega
        · have := h1 k q; omega
      refine ⟨?_, by rw [if_neg no]; rfl⟩
      show (k :: a :: r).Pairwise (· < ·)
      rw [List.pairwise_cons, List.pairwise_cons]
      refine ⟨fun b hb => ?_, h1, h2⟩
      rcases List.mem_cons.mp hb with q | q
      · omega
      · have := h1 b q; omega
    | false =>
      cases e2 : intEq k a with
      | true =>
        have q := intEq_true e2
        subst q
        refine ⟨?_, by rw [if_pos List.mem_cons_self]⟩
        show (k :: r).Pairwise (· < ·)
        rw [List.pairwise_cons]
        exact ⟨h1, h2⟩
      | false =>
        have ka : a < k := by
          have e' : intLt k a = false := e
          rw [intLt_eq] at e'
          have h3 := of_decide_eq_false e'
          have h4 : k ≠ a := fun q => by
            rw [intEq_eq] at e2
            exact of_decide_eq_false e2 q
          omega
        obtain ⟨i1, i2⟩ := insU_srt (k := k) h2
        refine ⟨?_, ?_⟩
        · show (a :: insU k r).Pairwise (· < ·)
          rw [List.pairwise_cons]
          refine ⟨fun b hb => ?_, i1⟩
          rcases mem_insU.mp hb with q | q
          · omega
          · exact h1 b q
        · show (insU k r).length + 1 = _
          rw [i2]
          have ne : k ≠ a := by omega
          by_cases q : k ∈ r
          · rw [if_pos q, if_pos (List.mem_cons_of_mem _ q)]; rfl
          · rw [if_neg q, if_neg (fun z => (List.mem_cons.mp z).elim ne q)]; rfl
theorem srt_uniq : ∀ {a b : List Int}, a.Pairwise (· < ·) → b.Pairwise (· < ·) → (∀ k, k ∈ a ↔ k ∈ b) → a = b
  | [], [], _, _, _ => rfl
  | [], y :: b, _, _, h => absurd ((h y).mpr List.mem_cons_self) (by simp)
  | x :: a, [], _, _, h => absurd ((h x).mp List.mem_cons_self) (by simp)
  | x :: a, y :: b, ha, hb, h => by
    rw [List.pairwise_cons] at ha hb
    have e : x = y := by
      rcases List.mem_cons.mp ((h x).mp List.mem_cons_self) with q | q
      · exact q
      · rcases List.mem_cons.mp ((h y).mpr List.mem_cons_self) with r | r
        · exact r.symm
        · have := hb.1 x q; have := ha.1 y r; omega
    subst e
    have t : ∀ k, k ∈ a ↔ k ∈ b := fun k => by
      constructor
      · intro q
        have lt := ha.1 k q
        rcases List.mem_cons.mp ((h k).mp (List.mem_cons_of_mem _ q)) with r | r
        · omega
        · exact r
      · intro q
        have lt := hb.1 k q
        rcases List.mem_cons.mp ((h k).mpr (List.mem_cons_of_mem _ q)) with r | r
        · omega
        · exact r
    rw [srt_uniq ha.2 hb.2 t]
theorem insUV_map (k : Int) : ∀ l : List Int, insUV k (l.map Val.int) = (insU k l).map Val.int
  | [] => rfl
  | a :: r => by
    show (match intLt k a with | true => Val.int k :: Val.int a :: r.map Val.int | false => (match intEq k a with | true => Val.int a :: r.map Val.int | false => Val.int a :: insUV k (r.map Val.int))) = _
    unfold insU
    cases intLt k a with
    | true => rfl
    | false =>
      cases intEq k a with
      | true => rfl
      | false => show Val.int a :: insUV k (r.map Val.int) = Val.int a :: (insU k r).map Val.int; rw [insUV_map k r]
def bSet (w : World) (D : Addr) (te : TE) : Bdy := fun Nx σ H => te σ H fun y H4 => ∃ (k : Int) (S : Int → Bool) (n : Nat), y = .int k ∧ H4 D = some (SetO w D S n) ∧ n + 1 < scanBound ∧ Nx (upd H4 D (SetO w D (fun j => S j || decide (j = k)) (if S k = true then n else n + 1)))
theorem addI_ok {X : Cx} {pins : List (Addr × PySem.Obj)} {σ : L2.St} {H : Hp} {s : Shared} {E : Value → Shared → Prop} {D : Addr} {S : Int → Bool} {n : Nat} {y : Int} {tk : Tok} {Q : Value → Shared → Prop} (I : Inv X pins σ H s) (hD : H D = some (SetO X.w D S n)) (room : n + 1 < scanBound)
    (h : ∀ s', Inv X pins σ (upd H D (SetO X.w D (fun j => S j || decide (j = y)) (if S y = true then n else n + 1))) s' → Q .none s') : wpAny (model X.prog X.w) X.A (call (.builtin "set.add") [.ref D, .int y tk]) Q E s := by
  have R := setO_get I hD
  refine setR_add R room fun h' sb new => ?_
  have he : ∃ u, h'.get? D = some u := by
    have ⟨o, _, _, _, ho, _⟩ := new
    exact ⟨o, ho⟩
  exact h _ (I.write (e := D) (t' := s.toks + 1) (by rw [hD]; trivial) (.inl rfl) (fun b u hb hu => (sb.2 b hb).trans hu) he (setO_new new))
section
variable {X : Cx} {g : Gx} {o : Orc} {W : WX} {vx tg iter : PySem.Expr} {ifs : List PySem.Expr} {scope : Scope} {own : List (Str × Nat)} {pos : Pos}
/-- {vx for tg in iter if ..}, a set of ints -/
theorem pe_scA {wi : TI} {gt : TG} {tt : TT} {tv : TE} (hc : X.calm = true) (hN : X.N.Nodup) (hi : PI X tg iter wi) (ok : BlkOk X.N X.env.scope scope own)
    (hg : InBlk X scope fun Y => PG Y tg gt) (ht : InBlk X scope fun Y => PTs Y ifs tt) (hv : InBlk X scope fun Y => PE Y vx tv) (hs : ∀ x, foldedSetIterable iter X.env x = pure x) :
    PE X (.SetComp vx [⟨tg, iter, ifs, 0⟩] scope pos) (fun σ H Q => wi σ H fun J H1 => ∀ D, H1 D = .none → tTurns J gt (own.map (·.2)) σ (bIf tt (bSet X.w D tv)) (fun H => Q (.ref D) H) (upd H1 D (SetO X.w D (fun _ => false) 0))) := by
  refine ⟨fun pins s0 σ H0 Q I0 wish => ?_⟩
  rw [PpSet.eval_SetComp]
  have cells : ∀ y ∈ scope.names, y.2 = .free → ∃ c, X.env.cells.lookup y.1 = some c := fun y my fy => (ok.free y my fy).elim (fun k => I0.ok.has _ (.inl k)) fun k => I0.ok.has _ (.inr k)
  refine wpAny_comprehension_free (use := .none) rfl hs (closure_ok cells) ok.kind (fun y my fy => by rw [ok.uniq y my, fy]) (thn (hi.run pins s0 σ H0 _ I0 wish) fun _ _ got => thn got fun _ sa made => ?_)
  obtain ⟨itA, own2, stand, J, Ha, eit, Ia, T, staA, outA, turns⟩ := made
  subst eit
  refine PpSet.newSet_ok (newEnv_comp ?_)
  generalize eD : sa.heap.objs.size = D
  have freeD : Ha D = .none := Ia.hok.fresh (Nat.le_of_eq eD)
  obtain ⟨Wish, ⟨n0, w0⟩, turn⟩ := turns D freeD
  generalize esb : ({ sa with heap := sa.heap.push { cls := .type "set", dict := none, data := .set #[] 0 (.fresh 0 0 (!X.w.params.followText "set-order")) } } : Shared) = sb
  have hb : sb.heap = sa.heap.push { cls := .type "set", dict := none, data := .set #[] 0 (.fresh 0 0 (!X.w.params.followText "set-order")) } := by rw [← esb]
  have Ib : Inv X pins σ (upd Ha D (SetO X.w D (fun _ => false) 0)) sb := by
    rw [← esb]
    refine Ia.laid (t' := sa.toks) (fun b u e => Heap.get?_push_of_some _ e) (Nat.le_of_eq eD) ?_
    rw [← eD]
    exact setO_new (setR_fresh X.w)
  have old : ∀ b ∈ own2, b < sa.heap.objs.size := fun b mb => let ⟨_, e, _⟩ := T.obj _ _ staA b mb; Heap.lt_size e
  have outB : ∀ b ∈ own2, FpOk X pins (upd Ha D (SetO X.w D (fun _ => false) 0)) b ∧ b < sb.heap.objs.size := fun b mb => by
    have lt := old b mb
    refine ⟨⟨?_, (outA b mb).2⟩, by rw [hb, Heap.size_push]; exact Nat.lt_succ_of_lt lt⟩
    rw [upd_ne (by rw [← eD]; exact Nat.ne_of_lt lt)]
    exact (outA b mb).1
  have staB : stand 0 sb.heap := T.keep _ _ _ staA fun b _ u e => by rw [hb]; exact Heap.get?_push_of_some _ e
  have Ic := block_start Ib ok hN outB
  -- the parts in the block
  have gT := hg sb (upd Ha D (SetO X.w D (fun _ => false) 0)) sb.heap.objs.size (cellsFrom (sb.heap.objs.size + 1) scope.names (cloFrom X.env.cells scope.names [])) own2
  have gI := ht sb (upd Ha D (SetO X.w D (fun _ => false) 0)) sb.heap.objs.size (cellsFrom (sb.heap.objs.size + 1) scope.names (cloFrom X.env.cells scope.names [])) own2
  have gV := hv sb (upd Ha D (SetO X.w D (fun _ => false) 0)) sb.heap.objs.size (cellsFrom (sb.heap.objs.size + 1) scope.names (cloFrom X.env.cells scope.names [])) own2
  show codeAny _ _ (.compStart (.SetComp vx [⟨tg, iter, ifs, 0⟩] scope pos) 0 (.ref itA) (.ref D) (compEnvC scope (cellsFrom (sb.heap.objs.size + 1) scope.names (cloFrom X.env.cells scope.names [])) sb.heap.objs.size X.env)) (compPost (model X.prog X.w) X.A X.xe .none (EP X pins σ Q) (.ref D) sb.heap.objs.size) { sb with heap := pushCells (sb.heap.push { cls := .type "dict", data := .dict #[] }) scope.names }
  have none2 : ∀ b ∈ own2, (upd Ha D (SetO X.w D (fun _ => false) 0)) b = .none := fun b mb => (outB b mb).1.1
  generalize eenv : compEnvC scope (cellsFrom (sb.heap.objs.size + 1) scope.names (cloFrom X.env.cells scope.names [])) sb.heap.objs.size X.env = benv at Ic gT gI gV ⊢
  have eloc : benv.locals = sb.heap.objs.size := by subst eenv; rfl
  generalize eHb : upd Ha D (SetO X.w D (fun _ => false) 0) = Hb at Ib Ic gT gI gV w0 none2 outB
  generalize esc : ({ sb with heap := pushCells (sb.heap.push { cls := .type "dict", data := .dict #[] }) scope.names } : Shared) = sc at Ic ⊢
  have staC : stand 0 sc.heap := T.keep _ _ _ staB fun b _ u e => by rw [← esc]; exact pushCells_keeps _ _ _ _ (Heap.get?_push_of_some _ e)
  have fps : ∀ {σ' : St} {H' : Hp} {s' : Shared}, Inv (X.blk sb Hb scope benv own2) [] σ' H' s' → (∀ b ∈ own2, H' b = .none) → ∀ b ∈ own2, FpOk (X.blk sb Hb scope benv own2) [] H' b := fun {σ' H' s'} I' hn b mb =>
    ⟨hn b mb, (I'.ok.exf b mb).1, I'.ok.exfs b mb, .inl mb, fun x c e => (I'.ok.exf b mb).2 x c e, fun p hp => absurd (show p ∈ ([] : List (Addr × PySem.Obj)) ++ [] from hp) (by simp)⟩
  have body : codeAny (model X.prog X.w) X.A (.compLoop (.SetComp vx [⟨tg, iter, ifs, 0⟩] scope pos) 0 (.ref itA) (.ref D) benv) (compPost (model X.prog X.w) X.A X.xe .none (EP X pins σ Q) (.ref D) sb.heap.objs.size) sc := by
    refine PpSet.compLoopS_any (fun n s' => ∃ i H', Inv (X.blk sb Hb scope benv own2) [] (L2.wipe σ (own.map (·.2))) H' s' ∧ stand i s'.heap ∧ (∀ b ∈ own2, H' b = .none) ∧ Wish i n H') ?_ n0 ⟨0, Hb, Ic, staC, none2, w0⟩
    rintro n sd ⟨i, Hd, Id, staD, noneD, wD⟩
    rcases turn i n Hd wD with ⟨stop, last⟩ | ⟨more, Nx, hNx, step⟩
    · refine thnF (T.done (X.blk sb Hb scope benv own2) rfl rfl rfl hc i [] sd _ Hd (fun _ _ => False) Id (fps Id noneD) staD stop) fun r se ⟨er, Ie⟩ => ?_
      subst er
      have If : Inv X pins σ Hd se := Ib.call' (ch := own2) Ie.os Ie.base Ie.hok Ie.bare fun b mb => let z := (outB b mb).1; ⟨z.2.2.2.1, z.2.1, z.2.2.2.2.1, z.2.2.2.2.2⟩
      have freeC : Hd sb.heap.objs.size = .none := by
        have z : Hd benv.locals = .none := Ie.free
        rw [eloc] at z; exact z
      obtain ⟨mm, hns, _⟩ := Ie.loc
      have hns : se.heap.Ns benv.locals mm := hns
      rw [eloc] at hns
      obtain ⟨f0, f1, f2, f3, f4, f5⟩ := Ib.fpOk (Nat.le_refl _) freeC
      exact ⟨mm, hns, fun h'' same => ⟨.ref D, Hd, If.turned (t' := se.toks) (fun b u hb e => (same.2 b hb).trans e) f0 f1 f3 f4 f5, rfl, last⟩⟩
    · refine thnF (T.item (X.blk sb Hb scope benv own2) rfl rfl rfl hc i [] sd _ Hd (fun _ _ => False) Id (fps Id noneD) staD more) fun r se ⟨u, er, goes⟩ => ?_
      subst er
      refine thnF goes fun _ sf ⟨x, Hf, If, rf, yf, staF, noneF⟩ => ?_
      have If' := If.pinned (fps If noneF) (T.obj _ _ staF)
      refine thnF (gT.run _ sf _ Hf x u _ If' rf (step x Hf yf)) fun _ sg ⟨σg, Hg, Ig, wiped, afterT⟩ => ?_
      refine thnF (gI.run _ sg σg Hg _ Ig afterT) fun b sh ⟨Hh, Ih, afterI⟩ => ?_
      have back : ∀ {s' : Shared} {H' : Hp}, Inv (X.blk sb Hb scope benv own2) ([] ++ pinsAt own2 sf.heap) σg H' s' → Nx H' → ∃ k, k < n ∧ ∃ i H', Inv (X.blk sb Hb scope benv own2) [] (L2.wipe σ (own.map (·.2))) H' s' ∧ stand i s'.heap ∧ (∀ b ∈ own2, H' b = .none) ∧ Wish i k H' := fun {s' H'} I' nx => by
        obtain ⟨k, lt, w'⟩ := hNx H' nx
        have pinned : ∀ b ∈ own2, ∀ u, sf.heap.get? b = some u → s'.heap.get? b = some u ∧ H' b = .none := fun b mb u e => let z := I'.pin (b, u) (List.mem_append_right _ (List.mem_append_right _ (mem_pinsAt mb e))); ⟨z.1, z.2.1⟩
        refine ⟨k, lt, i + 1, H', (I'.unpinned (pins := [])).weak (by rw [← wiped, wipe_length]) (fun j v e => ?_), T.keep _ _ _ staF fun b mb u e => (pinned b mb u e).1, fun b mb => ?_, w'⟩
        · rw [← wiped] at e; exact (wipe_some e).1
        · obtain ⟨u, e, _⟩ := T.obj _ _ staF b mb
          exact (pinned b mb u e).2
      cases b with
      | false =>
        simp only [Bool.false_eq_true, if_false] at afterI ⊢
        exact back Ih afterI
      | true =>
        simp only [if_true] at afterI ⊢
        refine thnF (gV.run _ sh σg Hh _ Ih afterI) fun vu sj ⟨vy, Hj, Ij, rv, kk, S0, n0, ey, hD, room, nx⟩ => ?_
        subst ey
        obtain ⟨tk, rfl⟩ := rv
        exact addI_ok (X := X.blk sb Hb scope benv own2) Ij hD room fun s' I' => back I' nx
  exact PpSet.codeAny_compStart_set body (T.self X.A 0 _ _ _ staC body)
end
/-! ### the state of a set that grows at D -/
structure LsI (g : Gx) (w : World) (m0 : Mp) (H0 : Hp) (D : Addr) (m : Mp) (S : Store) (H : Hp) (acc : Acc) : Prop where
  ex : Ex m0 H0 m H
  rs : RS g m S H
  out : D ∉ m.l
  none0 : H0 D = .none
  at_ : ∃ ns : List Int, acc.2 = ns.map Val.int ∧ ns.length ≤ 60 ∧ ns.Pairwise (· < ·) ∧ H D = some (SetO w D (fun j => decide (j ∈ ns)) ns.length)
section
variable {X : Cx} {g : Gx} {o : Orc} {W : WX} {vx tg iter : PySem.Expr} {ifs : List PySem.Expr} {scope : Scope} {own : List (Str × Nat)} {pos : Pos} {w : World} {m m0 : Mp} {H H0 : Hp} {S : Store} {D : Addr} {cv : G.E} {t : G.T} {ci : G.EI}
theorem LsI.step {m' : Mp} {H' : Hp} {S' : Store} {acc : Acc} (l : LsI g w m0 H0 D m S H acc) (x : Ex m H m' H') (rs : RS g m' S' H') : LsI g w m0 H0 D m' S' H' acc := by
  obtain ⟨ns, h0, hz, hp, h1⟩ := l.at_
  refine ⟨l.ex.trans x, rs, fun q => ?_, l.none0, ⟨ns, h0, hz, hp, x.keep _ _ h1 (.inr l.out)⟩⟩
  have := x.new D q l.out
  rw [h1] at this; cases this
theorem LsI.ok : LOk g (LsI g w m0 H0 D) := ⟨fun l => l.rs, fun l x rs => l.step x rs, fun l l' => l.ex.ea.trans l'.ex.ea.symm⟩
theorem col_set : ColOk g o (LsI g w m0 H0 D) (cEltS cv) (bSet w D (tM g o Wno cv)) := fun m H ρ σ S acc Nx l re p => by
  refine ⟨m, ρ, S, re, l.rs, PostG.mono (PostC.bind p) fun y H4 ⟨m4, k, S4, e4, rs4, rk, p4⟩ => ?_⟩
  have l4 := l.step e4 rs4
  obtain ⟨ns, h0, hz, hp, h1⟩ := l4.at_
  cases rk with
  | int i =>
    have p5 : PostC (LsI g w m0 H0 D) m4 H4 Nx (match Nat.blt acc.2.length 60 with | true => .ok (acc.1 + 1, insUV i acc.2) S4 | false => .stuck 90) := p4
    cases e : Nat.blt acc.2.length 60 with
    | false => rw [e] at p5; exact p5.elim
    | true =>
      rw [e] at p5
      have lt : ns.length < 60 := by rw [h0, List.length_map] at e; simpa [Nat.blt_eq] using e
      obtain ⟨s1, s2⟩ := insU_srt (k := i) hp
      have hS : SetO w D (fun j => decide (j ∈ ns) || decide (j = i)) (if decide (i ∈ ns) = true then ns.length else ns.length + 1) = SetO w D (fun j => decide (j ∈ insU i ns)) (insU i ns).length := by
        have e1 : (fun j => decide (j ∈ ns) || decide (j = i)) = fun j => decide (j ∈ insU i ns) := by
          funext j
          rw [Bool.eq_iff_iff]
          simp only [Bool.or_eq_true, decide_eq_true_eq]
          exact ⟨fun h => mem_insU.mpr (h.elim .inr .inl), fun h => (mem_insU.mp h).elim .inr .inl⟩
        have e2 : (if decide (i ∈ ns) = true then ns.length else ns.length + 1) = (insU i ns).length := by
          rw [s2]
          by_cases q : i ∈ ns <;> simp [q]
        rw [e1, e2]
      refine ⟨i, _, _, rfl, h1, by
        have : (70 : Nat) < scanBound := by decide
        omega, ?_⟩
      show Nx (upd H4 D (SetO w D (fun j => decide (j ∈ ns) || decide (j = i)) (if decide (i ∈ ns) = true then ns.length else ns.length + 1)))
      rw [hS]
      obtain ⟨rs6, x6⟩ := l4.rs.updOut' (u := SetO w D (fun j => decide (j ∈ insU i ns)) (insU i ns).length) h1 rfl (fun _ h => by cases h) l4.out
      refine p5 m4 _ x6 ⟨⟨l4.ex.K, l4.ex.ea, l4.ex.pre, fun b o h c => ?_, l4.ex.new⟩, rs6, l4.out, l4.none0, insU i ns, by rw [h0]; exact insUV_map i ns, ?_, s1, upd_same⟩
      · have : b ≠ D := by rintro rfl; rw [l4.none0] at h; cases h
        rw [upd_ne this]; exact l4.ex.keep b o h c
      · rw [s2]; split <;> omega
  | _ => exact p4.elim
theorem sc_ok {k : Col} {B : Addr → Bdy} {vs : List Nat} {σ : St} {H : Hp} {Q : VK} (hk : ∀ m0 H0 D, ColOk g o (LsI g w m0 H0 D) k (B D)) (h : tM g o W (eSortSc (cFor vs t ci k)) σ H Q) :
    tI g o W ci σ H fun J H1 => ∀ D, H1 D = .none → tTurns J (tEv g o vs t) vs σ (B D) (fun H2 => rSortedSet w [.ref D] H2 Q) (upd H1 D (SetO w D (fun _ => false) 0)) := by
  obtain ⟨m, ρ, S, re, rs, p⟩ := h
  refine ⟨m, ρ, S, re, rs, ?_⟩
  have p2 : PostG g RV m H Q (atS W σ) ((noExc ((ci o ρ S).bind fun it S => cLoop t k o (G.wipe ρ vs) fuel it (0, []) S)).bind fun acc S => alloc (.lst acc.2) S) := p
  refine PostG.mono (PostG.bindNo' (rel' := RI g) p2) fun J H1 ⟨m1, it, S1, e1, rs1, ⟨P, wk, p0⟩, p1⟩ D hD => ?_
  have x0 : Ex m1 H1 m1 (upd H1 D (SetO w D (fun _ => false) 0)) := Ex.upd hD
  have l : LsI g w m1 H1 D m1 S1 (upd H1 D (SetO w D (fun _ => false) 0)) (0, []) := ⟨x0, rs1.upd hD, rs1.notIn hD, hD, ⟨[], rfl, Nat.zero_le _, .nil, by rw [upd_same]; simp⟩⟩
  refine turns_ok (n := fuel) LsI.ok wk (hk m1 H1 D) l (wk.mono p0 x0.toEx0) ((re.mono e1).mono x0) ?_
  have p3 := PostG.base e1 p1
  revert p3
  cases cLoop t k o (G.wipe ρ vs) fuel it (0, []) S1 with
  | ok acc S2 =>
    intro p3 m2 H2 x2 l2
    obtain ⟨ns, h0, hz, hp, h1⟩ := l2.at_
    refine ⟨D, _, _, rfl, h1, by omega, fun ns' q hp' hm' _ hq => ?_⟩
    have en : ns' = ns := srt_uniq hp' hp fun k => (hm' k).trans decide_eq_true_iff
    rw [en]
    have p4 : PostG g RV m1 H1 Q (atS W σ) (match Nat.blt S2.nx big with | true => .ok (.ref S2.nx) (S2.new (.lst acc.2)) | false => .stuck 0) := p3
    cases hl : Nat.blt S2.nx big with
    | false => rw [hl] at p4; exact p4.elim
    | true =>
      rw [hl] at p4
      have x3 : Ex m2 H2 (m2.add q) (upd H2 q (.lst (ns.map V.int))) := Ex.add hq
      have rs3 : RS g (m2.add q) (S2.new (.lst acc.2)) (upd H2 q (.lst (ns.map V.int))) := l2.rs.new hq (by simpa [Nat.blt_eq] using hl) ⟨_, upd_same, by rw [h0]; exact RVs.ofInts ns⟩
      refine p4 (m2.add q) _ _ (l2.ex.trans x3) rs3 (RV.ref ?_)
      have h4 : (m2.add q).l = m2.l ++ [q] := rfl
      rw [h4, ← l2.rs.len]; simp
  | exc c fs S2 => exact fun p3 => p3.elim
  | stuck w => exact fun p3 => p3.elim
theorem m_sortSc {f : Col → Col} {p q : Pos} (hc : X.calm = true) (hN : X.N.Nodup) (hi : PI X tg iter (tI g o W ci)) (ok : BlkOk X.N X.env.scope scope own)
    (hg : InBlk X scope fun Y => PG Y tg (tEv g o (own.map (·.2)) t)) (ht : Tst X g o scope ifs f) (he : InBlk X scope fun Y => PE Y vx (tM g o Wno cv)) (hs : ∀ x, foldedSetIterable iter X.env x = pure x)
    (hgl : Gl X "sorted") (hm : X.mg "sorted" = .none) (hv : bootBuiltins "sorted" = some (.builtin "sorted"))
    (hst : starEach [.SetComp vx [⟨tg, iter, ifs, 0⟩] scope pos] X.env = (false, eval (.SetComp vx [⟨tg, iter, ifs, 0⟩] scope pos) X.env) :: starEach [] X.env) (hpl : (backTo q (starEach [] X.env)).any (·.1) = false) :
    PE X (.Call (.Name "sorted" p) [.SetComp vx [⟨tg, iter, ifs, 0⟩] scope pos] [] q) (tM g o W (eSortSc (cFor (own.map (·.2)) t ci (f (cEltS cv))))) := by
  have fin : ∀ {tt : TT}, (∀ m0 H0 D, ColOk g o (LsI g X.w m0 H0 D) (f (cEltS cv)) (bIf tt (bSet X.w D (tM g o Wno cv)))) → InBlk X scope (fun Y => PTs Y ifs tt) → PE X (.Call (.Name "sorted" p) [.SetComp vx [⟨tg, iter, ifs, 0⟩] scope pos] [] q) (tM g o W (eSortSc (cFor (own.map (·.2)) t ci (f (cEltS cv))))) := fun {tt} hk hT => by
    have P1 := pe_scA (pos := pos) hc hN hi ok hg hT he hs
    refine PE.imp (pe_callB (id := "sorted") (cr_sortedSet hc) hgl hm hv (pa_cons P1 pa_nil hst) (by decide) rfl hst hpl) fun σ H Q h => ?_
    exact sc_ok (w := X.w) hk h
  cases ht with
  | no => exact fin (tt := tYes) (fun _ _ _ => col_yes col_set) (fun _ _ _ _ _ => pts_nil)
  | one h1 => exact fin (fun _ _ _ => col_if LsI.ok col_set) (fun s H C cl fp => pts_one (h1 s H C cl fp))
end
end G
set_option Elab.async false
set_option linter.all false
set_option maxRecDepth 100000
/-! < of tuples -/
namespace G
open PySem PySem.Spec L2
open PyProof.Rows hiding St
section
variable {X : Cx} {g : Gx} {o : Orc} {W : WX} {pins : List (Addr × PySem.Obj)} {s : Shared} {σ : St} {ρ : G.Env} {m : Mp} {H : Hp} {S : Store}
theorem o_ltS (hu : X.A.units + 64 < cLine) : OpS X g o W oLtS (compareOp .Lt) := by
  intro pins s σ H m S v w x y a b Q I rv rw_ ra rb rs p
  have p' : PostG g RV m H Q (atS W σ) (match shapes.any fun s => s v && s w with | true => .ok (.bool (isLt (cmpV 20 v w))) S | false => .stuck 34) := p
  cases e1 : shapes.any fun s => s v && s w with
  | false => rw [e1] at p'; exact p'.elim
  | true =>
    rw [e1] at p'
    obtain ⟨sh, hm, hsh⟩ := List.any_eq_true.mp e1
    obtain ⟨h1, h2⟩ := Bool.and_eq_true_iff.mp hsh
    have T := shapes_ok (S := S) sh hm
    have gd := T.gd v w h1 h2
    obtain ⟨as, r1⟩ := Dp.reads I _ _ _ (dat_ok rs 20 v x (T.dk v h1) rv) ra
    obtain ⟨bs, r2⟩ := Dp.reads I _ _ _ (dat_ok rs 20 w y (T.dk w h2) rw_) rb
    refine PySem.W.lt_data r1 r2 gd.al ?_ ?_ ?_
    · rcases T.kd with k | k
      · obtain ⟨x, r, e⟩ := k v h1; rw [e]; simp
      · obtain ⟨i, e⟩ := k v h1; rw [e]; simp
    · have := dat_depth S 20 v
      omega
    · rw [gd.lt]
      exact ⟨.bl _, H, I, rfl, p' m H _ Ex.rfl' rs (RV.bool _)⟩
end
end G
namespace G
open PySem PySem.Spec L2
open PyProof.Rows hiding St
theorem relabel_cf {c : Str → NameKind → Bool} {x : Str} : ∀ {names : List (Str × NameKind)}, names.lookup x = some .cell ∨ names.lookup x = some .free →
    (names.map fun (n, k) => if c n k = true then (n, NameKind.cell) else (n, k)).lookup x = some .cell ∨ (names.map fun (n, k) => if c n k = true then (n, NameKind.cell) else (n, k)).lookup x = some .free
  | [], h => by simp at h
  | (n, k) :: r, h => by
    have ih := relabel_cf (c := c) (x := x) (names := r)
    show List.lookup x ((if c n k = true then (n, NameKind.cell) else (n, k)) :: _) = _ ∨ List.lookup x ((if c n k = true then (n, NameKind.cell) else (n, k)) :: _) = _
    rw [List.lookup_cons] at h
    by_cases e : c n k = true
    · rw [if_pos e, List.lookup_cons]
      cases q : x == n with
      | true => exact .inl rfl
      | false => rw [q] at h; exact ih h
    · rw [if_neg e, List.lookup_cons]
      cases q : x == n with
      | true => rw [q] at h; exact h
      | false => rw [q] at h; exact ih h
/-- a block in a block -/
theorem blk_okIn {X : Cx} {N : List Str} {s : Shared} {H : Hp} {scope1 scope : Scope} {C : Addr} {cl : List (Str × Addr)} {fp : List Addr} {own : List (Str × Nat)} (h : blkB N scope1 scope own = true) :
    BlkOk N (X.blk s H scope1 (compEnvC scope1 cl C X.env) fp).env.scope scope own := by
  have b := blk_ok h
  exact ⟨b.kind, b.uniq, b.ix, fun y hy e => relabel_cf (c := fun n k => k == NameKind.free && X.env.scope.kind == .function && X.env.kindOf n == some .cell) (b.free y hy e), b.own⟩
end G
set_option Elab.async false
set_option linter.all false
set_option maxRecDepth 100000
/-! raise C(); x.p of a property; several except clauses, with and without a name -/
namespace G
open PySem PySem.Spec L2
open PyProof.Rows hiding St
section
variable {X : Cx} {g : Gx} {o : Orc} {W : WX} {t : Tb} {F : Ft} {nf n : Nat} {pins : List (Addr × PySem.Obj)} {s : Shared} {σ : St} {ρ : G.Env} {m : Mp} {H : Hp} {S : Store} {pos p apos : Pos} {x : Str}
theorem pmk_own0 {C : Addr} {bmB : List Value} {B newId initId : String} (F : ExcBaseFacts B newId initId bmB) (q : PySem.W.excIn X.K C bmB newId = true) (gC : X.mg x = some (.ref C)) (kC : PySem.W.keepIn X.K (.ref C) = true) (r : Raises X (.ref C)) (hg : Gl X x)
    (hdb : (x == ("__debug__" : Str)) = false) : PMk X (.Call (.Name x p) [] [] pos) (fun _ H Q => Q (.ref C) none H) := by
  intro pins s σ H Q I h
  refine wpAny_Call_Name_kw (ld_glob I hg gC ?_ hdb)
  refine PySem.W.callWith_K0 (first := []) I.kIn kC ?_
  show wpAny _ _ (call (.ref C) []) _ _ _
  obtain ⟨bm, N, nm, qn, bs, hdct, sn, sub, ab, col, dd, k0, k1, k2, k3, k5, mN, hC, hN, hni, T⟩ := exc_obj I.kIn q
  refine wpAny_call_exc_subT F T hC hN hni (fun h' e hm => ?_) (Nat.zero_le _)
  exact mk_of I hm r h (I.hok.gone hm.new)
/-- raise C() -/
theorem s_raise0 {c : Nat} {bmB : List Value} {B newId initId : String} {pos' : Pos} (R : Rn X g o t F nf n W) (F0 : ExcBaseFacts B newId initId bmB) (q : PySem.W.excIn X.K (g.xc c) bmB newId = true) (hg : Gl X x) (gC : X.mg x = some (.ref (g.xc c))) (kC : PySem.W.keepIn X.K (.ref (g.xc c)) = true)
    (h1 : PySem.W.subIn X.K (.ref (g.xc c)) (.type "BaseException") = some true) (h2 : PySem.W.typeIn X.K (.ref (g.xc c)) = some (.type "type")) (hdb : (x == ("__debug__" : Str)) = false) :
    PS X (.Raise (some (.Call (.Name x p) [] [] pos)) .none pos') (tS g o W (sRaise0 c)) :=
  PS.imp (ps_raise R.calm R.takes (pmk_own0 F0 q gC kC (raises_own h1 h2) hg hdb)) fun D σ H ⟨m, ρ, S, re, rs, pp⟩ => by
    have p2 : PostS g m H D W (.exc c [] ρ S) := pp
    exact p2 m H σ none Ex.rfl' rs re (.inl ⟨rfl, rfl⟩)
/-! ### a property -/
theorem Rb.in1 {n : Nat} {A : Around} (r : Rb n A) : Rm n A.in1 := ⟨r.hd, by have := r.dp; show A.depth + 2 * n + 40 < _; omega, by have := r.un; show A.units + 1 + 16 * n + 500 < _; omega, r.gd⟩
/-- what the text's properties of a name keep -/
structure PrOk (X : Cx) (g : Gx) (F : Ft) (nf : Nat) (pr : Nat → Nat → Option Nat) (pi : Nat) (pn : Str) : Prop where
  at_ : ∀ c f, pr c pi = some f → f < nf ∧ (∃ p, PropOf X.K (g.cl c) pn p (F.a f)) ∧ Binds X.K (F.fd f) (F.ps f) []
theorem m_prop {a : PySem.Expr} {ca : G.E} {pi : Nat} {pn : Str} (R : Rn X g o t F nf n W) (M : PrOk X g F nf t.prop pi pn) (ha : PE X a (tM g o W ca)) (hb : attributeBase a pn X.env (eval a X.env) = eval a X.env) :
    PE X (.Attribute a pn pos) (tM g o W (eProp ca pi)) := by
  refine ⟨fun pins s σ H Q I ⟨m, ρ, S, re, rs, pp⟩ => attr_of hb (thnE ha I re rs pp fun u s1 v S1 m1 H1 x I1 r1 rv1 rs1 re1 e1 p1 => ?_)⟩
  cases rv1 with
  | @ref k q hq =>
    cases r1
    have p2 : PostG g RV m1 H1 Q (atS W σ) (match (match S1.get k with | some (.ins c _) => o.prop c pi | _ => .none) with | some f => noExc (o.call f [.ref k] S1) | .none => .stuck 19) := p1
    cases e0 : S1.get k with
    | none => rw [e0] at p2; exact p2.elim
    | some ob =>
      cases ob with
      | ins c fs =>
        rw [e0] at p2
        have p3 : PostG g RV m1 H1 Q (atS W σ) (match o.prop c pi with | some f => noExc (o.call f [.ref k] S1) | .none => .stuck 19) := p2
        cases e2 : o.prop c pi with
        | none => rw [e2] at p3; exact p3.elim
        | some f =>
          rw [e2] at p3
          have p4 : PostG g RV m1 H1 Q Eno (o.call f [.ref k] S1) := PostG.no p3
          rw [R.orc] at p4
          obtain ⟨q', hq', ⟨hc, hfs⟩, dx, hs, h1, h2⟩ := rs1.obj k _ e0
          rw [hq] at hq'; cases hq'
          have em : t.prop c pi = some f := by rw [R.orc] at e2; exact e2
          obtain ⟨hf, ⟨pa, hp⟩, hB⟩ := M.at_ c f em
          have c' : Cls X.K (g.cl c) := R.K ▸ hc
          obtain ⟨mA, O, _, _, _, _⟩ := ins_get I1.hok h1
          obtain ⟨od, J, _⟩ := O.look
          obtain ⟨rest, hrec⟩ := hp.rec_
          have I2 := I1.tok (s1.toks + 1)
          have hcl : (PySem.W.clsIn X.K (g.cl c)).isSome = true := by
            obtain ⟨cd, hc, _⟩ := PySem.W.any_some c'.hd
            rw [hc]
            rfl
          have sp : spG g t n f [.ref q] H1 Q Eno := ⟨m1, [.ref k], S1, .cons (RV.ref hq) .nil, rs1, p4⟩
          have Fk := R.ok f hf
          have hl : ([Value.ref q]).length = (F.ps f).length := Fk.len _ _ _ _ sp
          refine PySem.W.get_bind I1.kIn J (PySem.W.plainGet_of (c'.get pn)).1 (PySem.W.findObj_data hcl hp.at_ hp.get hp.tak) (PySem.W.plainGet_of (c'.get pn)).2 (wpAny_call (PySem.W.prop_get (s := { s1 with toks := s1.toks + 1 }) I1.kIn hrec ?_))
          have bb := hB { s1 with toks := s1.toks + 1 } [.ref q] I1.kIn (by rw [List.append_nil]; exact hl)
          rw [List.append_nil] at bb
          refine codeAny_mono (Fk.run X.A.in1 X.stack { s1 with toks := s1.toks + 1 } H1 ⟨[.ref q], []⟩ [.ref q] [.ref q] Q _ R.room.in1 I2.env0.in1 bb (.cons rfl .nil) sp) fun r s' hq2 => ?_
          cases r with
          | error er => exact False.elim (passAt (X := X.wish fun _ _ => False) (W := Wno) takes_none5 σ pins H1 { s1 with toks := s1.toks + 1 } er s' (I2.wish _) hq2)
          | ok fl =>
            cases fl with
            | ret u =>
              obtain ⟨v, H', I3, rv, q3⟩ := I2.after hq2
              show wpAny _ _ (handedOut u) _ _ _
              rw [PySem.W.handedOut_of (handed_of rv)]
              exact wpAny_pure ⟨v, H', I3, rv, q3⟩
            | next => exact False.elim hq2
            | brk => exact False.elim hq2
            | cont => exact False.elim hq2
      | _ => rw [e0] at p2; exact p2.elim
  | _ => exact p1.elim
end
def prB (K : PySem.W.Frag) (C p g : Addr) (pn : Str) : Bool := He.eqO (PySem.W.findIn K (.ref C) pn) (some (some (.ref p))) && (He.eqO (PySem.W.specialIn K (.ref p) "__get__") (some (some (.builtin "property.__get__"))) && (decide (PySem.W.takesIn K (.ref p) = some true) && (match PySem.W.recIn K p "property" with
  | some (.ref g' :: _) => decide (g' = g)
  | _ => false)))
theorem prB_ok {K : PySem.W.Frag} {C p g : Addr} {pn : Str} (h : prB K C p g pn = true) : ∃ p, PropOf K C pn p g := by
  obtain ⟨h1, h⟩ := He.ba h
  obtain ⟨h2, h⟩ := He.ba h
  obtain ⟨h3, h4⟩ := He.ba h
  refine ⟨p, He.eqO_ok h1, He.eqO_ok h2, of_decide_eq_true h3, ?_⟩
  split at h4
  · rename_i g' r e
    rw [of_decide_eq_true h4] at e
    exact ⟨r, e⟩
  · cases h4
/-! ### several clauses -/
abbrev TsX := Addr → Value → Option Addr → TS
def endS (D : Ends) (i : Option Nat) : Ends := { nx := fun σ' H' => D.nx (setS σ' i .none) H', rt := D.rt, bk := fun σ' H' => D.bk (setS σ' i .none) H', ct := fun σ' H' => D.ct (setS σ' i .none) H' }
def wMix (K : PySem.W.Frag) (Wout : WX) (D : Ends) : List (Value × Option Nat × TsX) → WX
  | [] => Wout
  | (c, i, ts) :: r => fun cls d σ H => ∃ b, PySem.W.exmOne K cls c = some b ∧ (b = true → ∀ a, H a = none → ts a cls d (endS D i) (setS σ i (some (.ref a))) H) ∧ (b = false → wMix K Wout D r cls d σ H)
inductive HdsN (X : Cx) : List ExceptHandler → List (Value × Option Nat × TsX) → Prop
  | nil : HdsN X [] []
  | only {x : Str} {c : Value} {ts : TsX} {b₀ : Stmt} {suite : List Stmt} {np pos' : Pos} {hds : List ExceptHandler} {l : List (Value × Option Nat × TsX)} (hc : Names X x c)
      (hsu : ∀ (a : Addr) (oe : PySem.Obj) (cls : Value) (d : Option Addr) (pn : List (Addr × PySem.Obj)), Zc cls d oe → (∃ vs, oe.data = .fields vs) → PSs (X.suite a ((a, oe) :: pn)) (b₀ :: suite) (ts a cls d)) (r : HdsN X hds l) :
      HdsN X (.ExceptHandler (some (.Name x np)) none (b₀ :: suite) pos' :: hds) ((c, .none, ts) :: l)
  | as_ {x nm : Str} {i : Nat} {c : Value} {ts : TsX} {b₀ : Stmt} {suite : List Stmt} {np pos' : Pos} {hds : List ExceptHandler} {l : List (Value × Option Nat × TsX)} (hc : Names X x c) (hi : X.N[i]? = some nm) (hln : X.env.kindOf nm = some .local)
      (hsu : ∀ (a : Addr) (oe : PySem.Obj) (cls : Value) (d : Option Addr) (pn : List (Addr × PySem.Obj)), Zc cls d oe → (∃ vs, oe.data = .fields vs) → PSs (X.suite a ((a, oe) :: pn)) (b₀ :: suite) (ts a cls d)) (r : HdsN X hds l) :
      HdsN X (.ExceptHandler (some (.Name x np)) (some nm) (b₀ :: suite) pos' :: hds) ((c, some i, ts) :: l)
section
variable {X : Cx} {body : List Stmt} {h₀ : ExceptHandler} {hds : List ExceptHandler} {l : List (Value × Option Nat × TsX)} {pos : Pos} {tb : WX → TS} {Wout : WX}
theorem ps_try_mix (hs : X.stack = X.env :: X.outer) (hf : X.env.frame = some X.env.locals) (hN : X.N.Nodup) (tk : Takes X Wout)
    (hb : ∀ (W : WX) (pn : List (Addr × PySem.Obj)) (xe : Value → Shared → Prop), Takes (X.tr pn xe) W → PassesOwn (model X.prog X.w) X.A X.env xe → PSs (X.tr pn xe) body (tb W))
    (hh : HdsN X (h₀ :: hds) l) : PS X (.Try body (h₀ :: hds) [] [] pos) (fun D σ H => tb (wMix X.K Wout D l) D σ H) := by
  refine ⟨fun pins s σ H D I h => ?_⟩
  have env0 := I.ok
  have frEq : X.A.frames = some (X.env :: X.outer) := by rw [env0.frames, hs]
  refine wpAny_Try_except ?_
  refine wpAny_mono ((hb (wMix X.K Wout D l) (X.pn ++ pins) (fun e s₁ => wpAny (model X.prog X.w) X.A (noteFrame e X.env) (fun _ s₂ => wpAny (model X.prog X.w) X.A (setFlight e none) (fun _ s₃ =>
    wpAny (model X.prog X.w) X.A (handleBy e X.env (h₀ :: hds)) (SP X pins D) X.xe s₃) X.xe s₂) X.xe s₁) (fun u s' got => ?_) PassesOwn.looking).run [] s σ H D (I.toTry _) h) (fun fl s1 fin0 => ?_) (fun e s1 he => he)
  · obtain ⟨a, bnd, sAt, pins', σ', H', cls, d, rfl, K1, below, lf, air, nul, osSame, agr, wish⟩ := got
    have K0 : Inv X pins σ' H' sAt := K1.ofTry env0
    have air2 : Sky bnd (X.env :: X.outer) a (Zc cls d) X.env.locals s'.heap := by rw [← hs]; exact air
    show wpAny (model X.prog X.w) X.A (noteFrame (.ref a) X.env) _ _ _
    refine Sky.land Zc.steady frEq hf air2 fun hp3 ld3 lf3 => ?_
    have K3 : Inv X pins σ' H' { s' with heap := hp3 } := K0.landed below ld3.1 (lf.trans lf3) osSame agr
    obtain ⟨ob3, vl3, at3, zc3, dt3⟩ := ld3.there
    have offFrames : ∀ {h : Heap} {o : PySem.Obj} {vs : Array Value}, h.FunFrames bnd (X.env :: X.outer) → h.get? a = some o → o.data = .fields vs → a ∉ frs (X.env :: X.outer) := fun {h o vs} ff e dd hm => by
      obtain ⟨_, o', e', hnf⟩ := ff.mem hm
      rw [e] at e'; cases e'
      exact hnf _ dd
    have offFr := offFrames ld3.2.2.1 at3 dt3
    have offL : a ≠ X.env.locals := fun z => offFr (List.mem_filterMap.mpr ⟨X.env, List.mem_cons_self, by rw [hf, z]⟩)
    have offF : a ∉ X.fs := fun hm => by
      obtain ⟨e, he, q⟩ := List.mem_filterMap.mp hm
      exact offFr (List.mem_filterMap.mpr ⟨e, List.mem_cons_of_mem _ he, q⟩)
    have U3 := K3.suite at3 dt3 nul offL offF
    have tst : ∀ {x : Str} {np : Pos} {c : Value} {Q : Value → Shared → Prop} {E : Value → Shared → Prop}, Names X x c → Q c { s' with heap := hp3 } → wpAny (model X.prog X.w) (X.A.mark (some (.ref a))) (eval (.Name x np) X.env) Q E { s' with heap := hp3 } := fun {x np c Q E} hc q => by
      obtain ⟨hg, hdbg, hm | ⟨hm, hv, hnn⟩⟩ := hc
      · exact ld_glob (X := X.suite a ((a, ob3) :: (X.pn ++ pins))) U3 hg hm q hdbg
      · exact ld_blt (X := X.suite a ((a, ob3) :: (X.pn ++ pins))) U3 hg hm hv q hnn hdbg
    have look0 : PySem.W.Looks (model X.prog X.w) hp3 (typeOf (.ref a)) cls := fun A Q E s k q => wpAny_typeOf_ref (k _ _ at3) (by rw [zc3.1]; exact q)
    have chain : ∀ {cs : List ExceptHandler} {ws : List (Value × Option Nat × TsX)}, HdsN X cs ws → wMix X.K Wout D ws cls d σ' H' →
        wpAny (model X.prog X.w) X.A (handleBy (.ref a) X.env cs) (SP X pins D) X.xe { s' with heap := hp3 } := by
      intro cs ws list
      induction list with
      | nil =>
        intro wish
        refine wpAny_handleBy_nil ?_
        obtain ⟨q1, q2, q3, oe, vs, tb0, tb1, tb2, he, zcq, dtq, fst1, rstq⟩ := id ld3
        unfold PySem.passOn
        refine wpAny_bind (wpAny_field he dtq fst1 ?_)
        rw [if_neg (show ¬ ((Value.ref tb0 == Value.none) = true) from fun z => by cases z)]
        have leaves : wpAny (model X.prog X.w) X.A (setFlight (.ref a) X.env.frame) (fun _ s4 => wpAny (model X.prog X.w) X.A (throw (.ref a) : Sem Flow) (SP X pins D) X.xe s4) X.xe { s' with heap := hp3 } := by
          rw [hf]
          refine HandSPX.setFlight_upZ ld3 fun hp4 hi4 lf4 => wpAny_throw (tk _ _ ?_)
          exact ⟨a, bnd, sAt, pins, σ', H', cls, d, rfl, K0, below, (lf.trans lf3).trans lf4, .inr (.inr (by rw [hs]; exact hi4)), nul, osSame, agr, wish⟩
        first
          | exact wpAny_bind (wpAny_pure (wpAny_bind leaves))
          | exact wpAny_bind leaves
      | @only x c ts b₀ suite np pos' more tl2 hc hsu r ih =>
        intro wish
        obtain ⟨b, tells, onYes, onNo⟩ := wish
        refine wpAny_handleBy_cons (codeAny_handlers_test ?_) (fun z => by cases z)
        have look1 := PySem.W.exm_one (M := model X.prog X.w) (K3.kIn) look0 tells
        refine tst hc (look1.here ?_)
        cases b with
        | true =>
          refine codeAny_handlers_suite ?_
          refine HandSPX.lands_againZ ld3 fun hp4 ld4 lf4 => ?_
          have K4 : Inv X pins σ' H' { s' with heap := hp4 } := K0.landed below ld4.1 ((lf.trans lf3).trans lf4) osSame agr
          obtain ⟨ob4, vl4, at4, zc4, dt4⟩ := ld4.there
          have U4 := K4.suite at4 dt4 nul offL offF
          refine wpAny_mono ((hsu a ob4 cls d (X.pn ++ pins) zc4 ⟨_, dt4⟩).run [] _ _ H' _ U4 (onYes rfl a nul)) (fun fl sx fin0 => ?_) (fun _ _ z => False.elim z)
          cases fl with
          | next => obtain ⟨σx, Hx, U6, w6⟩ := fin0; exact ⟨_, _, U6.unsuite env0, w6⟩
          | brk => obtain ⟨σx, Hx, U6, w6⟩ := fin0; exact ⟨_, _, U6.unsuite env0, w6⟩
          | cont => obtain ⟨σx, Hx, U6, w6⟩ := fin0; exact ⟨_, _, U6.unsuite env0, w6⟩
          | ret u => obtain ⟨v6, σx, Hx, U6, r6, w6⟩ := fin0; exact ⟨_, _, _, U6.unsuite env0, r6, w6⟩
        | false =>
          show wpAny _ X.A (handleBy (.ref a) X.env more) _ _ _
          exact ih (onNo rfl)
      | @as_ x nm i c ts b₀ suite np pos' more tl2 hc hi hln hsu r ih =>
        intro wish
        obtain ⟨b, tells, onYes, onNo⟩ := wish
        refine wpAny_handleBy_cons (codeAny_handlers_test ?_) (fun z => by cases z)
        have look1 := PySem.W.exm_one (M := model X.prog X.w) (K3.kIn) look0 tells
        refine tst hc (look1.here ?_)
        have hloc : Loc X.env.scope nm := .inl hln
        cases b with
        | true =>
          refine codeAny_handlers_suite_as ?_
          refine HandSPX.lands_againZ ld3 fun hp4 ld4 lf4 => ?_
          have K4 : Inv X pins σ' H' { s' with heap := hp4 } := K0.landed below ld4.1 ((lf.trans lf3).trans lf4) osSame agr
          obtain ⟨ob4, vl4, at4, zc4, dt4⟩ := ld4.there
          have U4 := K4.suite at4 dt4 nul offL offF
          refine store_ok (X := X.suite a ((a, ob4) :: (X.pn ++ pins))) (v := .ref a) U4 hN hi hloc rfl (fun s_5 U5 => ?_) (.inr hln)
          refine wpAny_mono ((hsu a ob4 cls d (X.pn ++ pins) zc4 ⟨_, dt4⟩).run [] s_5 _ H' _ U5 (onYes rfl a nul)) (fun fl sx fin0 => ?_) (fun _ _ z => False.elim z)
          have behind : ∀ {σx : St} {Hx : Hp} {Q : Shared → Prop}, Inv (X.suite a ((a, ob4) :: (X.pn ++ pins))) [] σx Hx sx → (∀ s_7, Inv X pins (σx.set i none) Hx s_7 → Q s_7) →
              wpAny (model X.prog X.w) X.A (do bindName X.env nm .none; unbindBehindTheSuite X.env nm pos') (fun _ s_7 => Q s_7) X.xe sx := fun {σx Hx Q} U6 hq => gone_ok (U6.unsuite env0) hN hi hln hq
          cases fl with
          | next => obtain ⟨σx, Hx, U6, w6⟩ := fin0; exact behind U6 fun s_7 K7 => ⟨_, _, K7, w6⟩
          | brk => obtain ⟨σx, Hx, U6, w6⟩ := fin0; exact behind U6 fun s_7 K7 => ⟨_, _, K7, w6⟩
          | cont => obtain ⟨σx, Hx, U6, w6⟩ := fin0; exact behind U6 fun s_7 K7 => ⟨_, _, K7, w6⟩
          | ret u => obtain ⟨v6, σx, Hx, U6, r6, w6⟩ := fin0; exact behind U6 fun s_7 K7 => ⟨_, _, _, K7, r6, w6⟩
        | false =>
          show wpAny _ X.A (handleBy (.ref a) X.env more) _ _ _
          exact ih (onNo rfl)
    exact chain hh wish
  · cases fl with
    | next => obtain ⟨σ', H', K1, q⟩ := fin0; exact wpAny_execs_nil ⟨σ', H', K1.ofTry env0, q⟩
    | brk => obtain ⟨σ', H', K1, q⟩ := fin0; exact ⟨σ', H', K1.ofTry env0, q⟩
    | cont => obtain ⟨σ', H', K1, q⟩ := fin0; exact ⟨σ', H', K1.ofTry env0, q⟩
    | ret u => obtain ⟨v, σ', H', K1, r, q⟩ := fin0; exact ⟨v, σ', H', K1.ofTry env0, r, q⟩
end
/-- the clauses and their codes -/
inductive HdsG (X : Cx) (g : Gx) (o : Orc) : List ExceptHandler → List H1 → Prop
  | nil : HdsG X g o [] []
  | only {x : Str} {cv : Value} {su : List Stmt} {b₀ : Stmt} {np pos' : Pos} {ys ns : List Nat} {k : G.C} {hds : List ExceptHandler} {hs : List H1} (hc : Names X x cv) (hcl : ClOk X.K g cv ys ns) (hsu : SuOk X g o ys (b₀ :: su) k) (r : HdsG X g o hds hs) :
      HdsG X g o (.ExceptHandler (some (.Name x np)) none (b₀ :: su) pos' :: hds) ((ys, ns, .none, k) :: hs)
  | as_ {x nm : Str} {i : Nat} {cv : Value} {su : List Stmt} {b₀ : Stmt} {np pos' : Pos} {ys ns : List Nat} {k : G.C} {hds : List ExceptHandler} {hs : List H1} (hc : Names X x cv) (hi : X.N[i]? = some nm) (hln : X.env.kindOf nm = some .local) (hcl : ClOk X.K g cv ys ns) (hsu : SuOk X g o ys (b₀ :: su) k) (r : HdsG X g o hds hs) :
      HdsG X g o (.ExceptHandler (some (.Name x np)) (some nm) (b₀ :: su) pos' :: hds) ((ys, ns, some i, k) :: hs)
section
variable {X : Cx} {g : Gx} {o : Orc} {W : WX} {m : Mp} {H : Hp} {D : Ends}
/-- what the clauses' codes answer, for the clauses' wish -/
abbrev HdsP (X : Cx) (g : Gx) (o : Orc) (W : WX) (hs : List H1) (l : List (Value × Option Nat × TsX)) : Prop := ∀ (m : Mp) (H : Hp) (D : Ends) (c : Nat) (fs : List (Nat × Val)) (ρ1 : G.Env) (S1 : Store), PostS g m H D W (handle o c fs ρ1 S1 hs) →
  ∀ (m' : Mp) (H' : Hp) (σ' : St) (d : Option Addr), Ex m H m' H' → RS g m' S1 H' → RE m' H' ρ1 σ' → XR g m' H H' fs d → wMix X.K W D l (.ref (g.xc c)) d σ' H'
theorem hds_one (hx : g.ex = .none ∧ g.ea = .none) {cv : Value} {ys ns : List Nat} {i : Option Nat} {k : G.C} {hs : List H1} {l : List (Value × Option Nat × TsX)} (hcl : ClOk X.K g cv ys ns) (ih : HdsP X g o W hs l) :
    HdsP X g o W ((ys, ns, i, k) :: hs) ((cv, i, tsG g o ys k) :: l) := by
  intro m H D c fs ρ1 S1 p m' H' σ' d x1 rs' re' q
  have p2 : PostS g m H D W (match ys.any (Nat.beq c) with
    | true => (match k { o with err := some fs } (setO (clr ρ1) i (some .err)) S1 with | .nx ρ S => .nx (setO (clr ρ) i .none) S | .bk ρ S => .bk (setO (clr ρ) i .none) S | .exc _ _ _ _ => .stuck 206 | r => r)
    | false => (match ns.any (Nat.beq c) with | true => handle o c fs ρ1 S1 hs | false => .stuck 207)) := p
  cases hy : ys.any (Nat.beq c) with
  | true =>
    rw [hy] at p2
    refine ⟨true, hcl.yes c (any_mem hy), fun _ a ha => ⟨c, fs, { m' with ea := a }, _, S1, rfl, hy, xf_nf q, ?_, rs'.gx (xf_of q) (fun b h => Option.some.inj h), suite_out hx (i := i) (PostS.base x1 p2)⟩, fun h => nomatch h⟩
    cases i with
    | none => exact re'.clr
    | some i => exact (re'.clr (a := a)).setG i (.inr ⟨rfl, rfl⟩)
  | false =>
    rw [hy] at p2
    have p3 : PostS g m H D W (match ns.any (Nat.beq c) with | true => handle o c fs ρ1 S1 hs | false => .stuck 207) := p2
    cases hn : ns.any (Nat.beq c) with
    | false => rw [hn] at p3; exact p3.elim
    | true =>
      rw [hn] at p3
      exact ⟨false, hcl.no c (any_mem hn), (fun h => nomatch h), fun _ => ih m H D c fs ρ1 S1 p3 m' H' σ' d x1 rs' re' q⟩
theorem hdsG_ok (hx : g.ex = .none ∧ g.ea = .none) {hds : List ExceptHandler} {hs : List H1} (h : HdsG X g o hds hs) : ∃ l, HdsN X hds l ∧ HdsP X g o W hs l := by
  induction h with
  | nil => exact ⟨[], .nil, fun m H D c fs ρ1 S1 p m' H' σ' d x1 rs' re' q => p m' H' σ' d x1 rs' re' q⟩
  | only hc hcl hsu r ih => obtain ⟨l, h1, h2⟩ := ih; exact ⟨_, .only hc hsu.run h1, hds_one hx hcl h2⟩
  | as_ hc hi hln hcl hsu r ih => obtain ⟨l, h1, h2⟩ := ih; exact ⟨_, .as_ hc hi hln hsu.run h1, hds_one hx hcl h2⟩
theorem s_try_mix (hx : g.ex = .none ∧ g.ea = .none) (nd : X.N.Nodup) (tk : Takes X W) (hs : X.stack = X.env :: X.outer) (hf : X.env.frame = some X.env.locals) {body : List Stmt} {h₀ : ExceptHandler} {hds : List ExceptHandler} {hc : List H1} {cb : G.C} {pos : Pos}
    (hb : ∀ (W : WX) (pn : List (Addr × PySem.Obj)) (xe : Value → Shared → Prop), Takes (X.tr pn xe) W → PassesOwn (model X.prog X.w) X.A X.env xe → PSs (X.tr pn xe) body (tS g o W cb))
    (hh : HdsG X g o (h₀ :: hds) hc) : PS X (.Try body (h₀ :: hds) [] [] pos) (tS g o W (sTry cb hc)) := by
  obtain ⟨l, h1, h2⟩ := hdsG_ok (W := W) hx hh
  refine PS.imp (ps_try_mix (tb := fun W => tS g o W cb) hs hf nd tk hb h1) fun D σ H ⟨m, ρ, S, re, rs, p⟩ => ?_
  refine ⟨m, ρ, S, re, rs, ?_⟩
  unfold sTry at p
  revert p
  cases cb o ρ S with
  | nx ρ1 S1 => exact id
  | bk ρ1 S1 => exact id
  | rt v S1 => exact id
  | stuck w => exact id
  | exc c fs ρ1 S1 => exact fun p m' H' σ' d x1 rs' re' q => h2 m H D c fs ρ1 S1 p m' H' σ' d x1 rs' re' q
end
end G
set_option Elab.async false
set_option linter.all false
set_option maxRecDepth 100000
/-! dict comprehensions of two clauses -/
namespace G
open PySem PySem.Spec L2
open PyProof.Rows hiding St
abbrev dc2 (kx vx t0 i0 t1 i1 : PySem.Expr) (ifs0 ifs1 : List PySem.Expr) (scope : Scope) (pos : Pos) : PySem.Expr := .DictComp kx vx [⟨t0, i0, ifs0, 0⟩, ⟨t1, i1, ifs1, 0⟩] scope pos
section
variable {prog : Program} {w : World} {A : Around} {R : Result → Shared → Prop} {s : Shared} {kx vx t0 i0 t1 i1 : PySem.Expr} {ifs0 ifs1 : List PySem.Expr} {scope : Scope} {pos : Pos} {it acc : Value} {D : Addr} {env : PySem.Env}
theorem ct2_out : compTurn (dc2 kx vx t0 i0 t1 i1 ifs0 ifs1 scope pos) 0 it acc env = (do
      standAt i0.pos
      match ← pyNext it with
      | none => pure (.done .next)
      | some v =>
        letOwnedTupleGo t0 it v
        assign t0 env v
        let mut yes := true
        for c in ifs0 do
          if yes then yes ← isTrue c env (eval c env)
        if yes then
          let src ← eval i1 env
          standAt i1.pos
          let src ← foldedSetIterable i1 env src
          let _ ← runOwn (.compStart (dc2 kx vx t0 i0 t1 i1 ifs0 ifs1 scope pos) 1 (← holding [src] (pyIter src)) acc env) env
        again (.compLoop (dc2 kx vx t0 i0 t1 i1 ifs0 ifs1 scope pos) 0 it acc env)) := by rfl
theorem ct2_in : compTurn (dc2 kx vx t0 i0 t1 i1 ifs0 ifs1 scope pos) 1 it (.ref D) env = (do
      standAt i1.pos
      match ← pyNext it with
      | none => pure (.done .next)
      | some v =>
        letOwnedTupleGo t1 it v
        assign t1 env v
        let mut yes := true
        for c in ifs1 do
          if yes then yes ← isTrue c env (eval c env)
        if yes then
          (do
            let key ← eval kx env
            let val ← holding [key] (eval vx env)
            standAt { kx.pos with endLine := vx.pos.endLine, endCol := vx.pos.endCol }
            holding [key, val] (dictSet D key val))
        again (.compLoop (dc2 kx vx t0 i0 t1 i1 ifs0 ifs1 scope pos) 1 it (.ref D) env)) := by rfl
abbrev Nb (prog : Program) (w : World) (A : Around) (env : PySem.Env) (R : Result → Shared → Prop) : Value → Shared → Prop := notedBy (model prog w) A env fun e s' => R (.error e) s'
theorem cl2_out (hs : ∀ x, foldedSetIterable i1 env x = pure x) (I : Nat → Shared → Prop)
    (turn : ∀ n s, I n s → wpAny (model prog w) A (pyNext it) (fun r sa => match r with
      | none => R (.ok .next) sa
      | some v => wpAny (model prog w) A (letOwnedTupleGo t0 it v) (fun _ sb => wpAny (model prog w) A (assign t0 env v) (fun _ sc =>
          wpAny (model prog w) A (forIn ifs0 true fun c r => if r = true then do let yes ← isTrue c env (eval c env); pure (ForInStep.yield yes) else pure (ForInStep.yield r)) (fun yes sd =>
            if yes = true then wpAny (model prog w) A (eval i1 env) (fun x se => wpAny (model prog w) A (pyIter x) (fun it1 sf =>
              codeAny (model prog w) A (.compStart (dc2 kx vx t0 i0 t1 i1 ifs0 ifs1 scope pos) 1 it1 acc env) (fun r s' => match r with
                | .ok _ => ∃ k, k < n ∧ I k s'
                | .error _ => False) sf) (Nb prog w A env R) se) (Nb prog w A env R) sd
            else ∃ k, k < n ∧ I k sd) (Nb prog w A env R) sc) (Nb prog w A env R) sb) (Nb prog w A env R) sa) (Nb prog w A env R) s)
    (n : Nat) (h : I n s) : codeAny (model prog w) A (.compLoop (dc2 kx vx t0 i0 t1 i1 ifs0 ifs1 scope pos) 0 it acc env) R s := by
  refine codeAny_loop rfl I (fun n s hI => ?_) n h
  show wpAny _ A ((compTurn (dc2 kx vx t0 i0 t1 i1 ifs0 ifs1 scope pos) 0 it acc env).onRaise (fun x => do noteFrame x env; theTreesLotGoes x)) _ _ s
  refine wpAny_noted ?_
  rw [ct2_out]
  refine wpAny_bind (wpAny_standAt (wpAny_bind (wpAny_mono (turn n s hI) (fun r sa ha => ?_) fun _ _ z => z)))
  cases r with
  | none => exact wpAny_pure ha
  | some v =>
    refine wpAny_bind (wpAny_mono ha (fun _ sb hb => wpAny_bind (wpAny_mono hb (fun _ sc hc => wpAny_bind (wpAny_mono hc (fun yes sd hd => ?_) fun _ _ z => z)) fun _ _ z => z)) fun _ _ z => z)
    cases yes with
    | false => exact wpAny_pure ⟨rfl, hd⟩
    | true =>
      refine wpAny_bind (wpAny_mono hd (fun x se he => wpAny_bind (wpAny_standAt (wpAny_bind (wpAny_of_eq (hs x) (wpAny_bind (wpAny_holding (wpAny_mono he (fun it1 sf hf => wpAny_bind (wpAny_runOwn ?_)) fun _ _ z => z))))))) fun _ _ z => z)
      rw [Around.mark_none]
      refine codeAny_mono hf fun r s' hr => ?_
      cases r with
      | ok fl =>
        first
          | exact wpAny_pure ⟨rfl, hr⟩
          | exact wpAny_bind (wpAny_pure (wpAny_pure ⟨rfl, hr⟩))
      | error e => exact hr.elim
theorem cl2_in (I : Nat → Shared → Prop)
    (turn : ∀ n s, I n s → wpAny (model prog w) A (pyNext it) (fun r sa => match r with
      | none => R (.ok .next) sa
      | some v => wpAny (model prog w) A (letOwnedTupleGo t1 it v) (fun _ sb => wpAny (model prog w) A (assign t1 env v) (fun _ sc =>
          wpAny (model prog w) A (forIn ifs1 true fun c r => if r = true then do let yes ← isTrue c env (eval c env); pure (ForInStep.yield yes) else pure (ForInStep.yield r)) (fun yes sd =>
            if yes = true then wpAny (model prog w) A (eval kx env) (fun key se => wpAny (model prog w) A (eval vx env) (fun val sf =>
              wpAny (model prog w) A (dictSet D key val) (fun _ sg => ∃ k, k < n ∧ I k sg) (Nb prog w A env R) sf) (Nb prog w A env R) se) (Nb prog w A env R) sd
            else ∃ k, k < n ∧ I k sd) (Nb prog w A env R) sc) (Nb prog w A env R) sb) (Nb prog w A env R) sa) (Nb prog w A env R) s)
    (n : Nat) (h : I n s) : codeAny (model prog w) A (.compLoop (dc2 kx vx t0 i0 t1 i1 ifs0 ifs1 scope pos) 1 it (.ref D) env) R s := by
  refine codeAny_loop rfl I (fun n s hI => ?_) n h
  show wpAny _ A ((compTurn (dc2 kx vx t0 i0 t1 i1 ifs0 ifs1 scope pos) 1 it (.ref D) env).onRaise (fun x => do noteFrame x env; theTreesLotGoes x)) _ _ s
  refine wpAny_noted ?_
  rw [ct2_in]
  refine wpAny_bind (wpAny_standAt (wpAny_bind (wpAny_mono (turn n s hI) (fun r sa ha => ?_) fun _ _ z => z)))
  cases r with
  | none => exact wpAny_pure ha
  | some v =>
    refine wpAny_bind (wpAny_mono ha (fun _ sb hb => wpAny_bind (wpAny_mono hb (fun _ sc hc => wpAny_bind (wpAny_mono hc (fun yes sd hd => ?_) fun _ _ z => z)) fun _ _ z => z)) fun _ _ z => z)
    cases yes with
    | false => exact wpAny_pure ⟨rfl, hd⟩
    | true =>
      exact wpAny_bind (wpAny_bind (wpAny_mono hd (fun key se he => wpAny_bind (wpAny_holding (wpAny_mono he (fun val sf hf => wpAny_bind (wpAny_standAt (wpAny_holding (wpAny_mono hf (fun _ sg hg => wpAny_pure ⟨rfl, hg⟩) fun _ _ z => z)))) fun _ _ z => z))) fun _ _ z => z))
theorem cs2_in (h0 : codeAny (model prog w) A (.compLoop (dc2 kx vx t0 i0 t1 i1 ifs0 ifs1 scope pos) 1 it acc env) R s)
    (h : wpAny (model prog w) A (pyIter it) (fun it' s' => codeAny (model prog w) A (.compLoop (dc2 kx vx t0 i0 t1 i1 ifs0 ifs1 scope pos) 1 it' acc env) R s') (Nb prog w A env R) s) :
    codeAny (model prog w) A (.compStart (dc2 kx vx t0 i0 t1 i1 ifs0 ifs1 scope pos) 1 it acc env) R s := by
  refine codeAny_of_tree ?_
  show wpAny _ A ((compStart (dc2 kx vx t0 i0 t1 i1 ifs0 ifs1 scope pos) 1 it acc env).onRaise (fun x => do noteFrame x env; standAt theWindowsPlace)) _ _ s
  refine wpAny_notedAt ?_
  unfold compStart
  show wpAny _ _ (ask >>= _) _ _ s
  refine wpAny_bind (wpAny_askSetting (wpAny_ite ?_))
  split
  · first
      | exact wpAny_bind (wpAny_pure (wpAny_pure (And.intro rfl h0)))
      | exact wpAny_pure (And.intro rfl h0)
  · first
      | exact wpAny_bind (wpAny_rule (wpAny_bind (wpAny_standAt (wpAny_bind (wpAny_mono h (fun _ _ z => wpAny_pure (And.intro rfl z)) fun _ _ z => z)))))
      | (refine wpAny_bind (wpAny_rule ?_); show wpAny _ _ (standAt i1.pos >>= _) _ _ s; exact wpAny_bind (wpAny_standAt (wpAny_bind (wpAny_mono h (fun _ _ z => wpAny_pure (And.intro rfl z)) fun _ _ z => z))))
end
section
variable {X : Cx} {g : Gx} {o : Orc} {W : WX} {kx vx tg iter tg1 iter1 : PySem.Expr} {ifs ifs1 : List PySem.Expr} {scope : Scope} {own : List (Str × Nat)} {vs1 : List Nat} {pos : Pos}
/-- {kx: vx for tg in iter if .. for tg1 in iter1 if ..} -/
theorem pe_dcB {wi wi1 : TI} {gt gt1 : TG} {tt tt1 : TT} {tk tv : TE} (hc : X.calm = true) (hN : X.N.Nodup) (hi : PI X tg iter wi) (ok : BlkOk X.N X.env.scope scope own)
    (hg : InBlk X scope fun Y => PG Y tg gt) (ht : InBlk X scope fun Y => PTs Y ifs tt) (hv1 : ∀ i ∈ vs1, i ∈ own.map (·.2)) (hi1 : InBlk X scope fun Y => PI Y tg1 iter1 wi1) (hg1 : InBlk X scope fun Y => PG Y tg1 gt1) (ht1 : InBlk X scope fun Y => PTs Y ifs1 tt1) (hs1 : ∀ env x, foldedSetIterable iter1 env x = pure x) (hk : InBlk X scope fun Y => PE Y kx tk) (hv : InBlk X scope fun Y => PE Y vx tv) (hs : ∀ x, foldedSetIterable iter X.env x = pure x) :
    PE X (.DictComp kx vx [⟨tg, iter, ifs, 0⟩, ⟨tg1, iter1, ifs1, 0⟩] scope pos) (fun σ H Q => wi σ H fun J H1 => ∀ D, H1 D = .none → tTurns J gt (own.map (·.2)) σ (bIf tt (bFor wi1 gt1 vs1 (bIf tt1 (bDct X D tk tv)))) (fun H => Q (.ref D) H) (upd H1 D (dO D #[]))) := by
  refine ⟨fun pins s0 σ H0 Q I0 wish => ?_⟩
  rw [arm_eval_DictComp]
  have cells : ∀ y ∈ scope.names, y.2 = .free → ∃ c, X.env.cells.lookup y.1 = some c := fun y my fy => (ok.free y my fy).elim (fun k => I0.ok.has _ (.inl k)) fun k => I0.ok.has _ (.inr k)
  refine wpAny_comprehension_free (use := .none) rfl hs (closure_ok cells) ok.kind (fun y my fy => by rw [ok.uniq y my, fy]) (thn (hi.run pins s0 σ H0 _ I0 wish) fun _ _ got => thn got fun _ sa made => ?_)
  obtain ⟨itA, own2, stand, J, Ha, eit, Ia, T, staA, outA, turns⟩ := made
  subst eit
  refine wpAny_newObj_type (newEnv_comp ?_)
  generalize eD : sa.heap.objs.size = D
  have freeD : Ha D = .none := Ia.hok.fresh (Nat.le_of_eq eD)
  obtain ⟨Wish, ⟨n0, w0⟩, turn⟩ := turns D freeD
  generalize esb : ({ sa with heap := sa.heap.push { cls := .type "dict", data := .dict #[] } } : Shared) = sb
  have hb : sb.heap = sa.heap.push { cls := .type "dict", data := .dict #[] } := by rw [← esb]
  have Ib : Inv X pins σ (upd Ha D (dO D #[])) sb := by
    rw [← esb]
    refine Ia.laid (t' := sa.toks) (fun b u e => Heap.get?_push_of_some _ e) (Nat.le_of_eq eD) ?_
    rw [← eD]
    exact dO_ok (beq_eq_false_iff_ne.mpr (Ne.symm (Nat.ne_of_lt Ia.big))) (Heap.get?_push_size _ rfl) ⟨rfl, rfl, rfl⟩ rfl
  have old : ∀ b ∈ own2, b < sa.heap.objs.size := fun b mb => let ⟨_, e, _⟩ := T.obj _ _ staA b mb; Heap.lt_size e
  have outB : ∀ b ∈ own2, FpOk X pins (upd Ha D (dO D #[])) b ∧ b < sb.heap.objs.size := fun b mb => by
    have lt := old b mb
    refine ⟨⟨?_, (outA b mb).2⟩, by rw [hb, Heap.size_push]; exact Nat.lt_succ_of_lt lt⟩
    rw [upd_ne (by rw [← eD]; exact Nat.ne_of_lt lt)]
    exact (outA b mb).1
  have staB : stand 0 sb.heap := T.keep _ _ _ staA fun b _ u e => by rw [hb]; exact Heap.get?_push_of_some _ e
  have Ic := block_start Ib ok hN outB
  -- the parts in the block
  have gT := hg sb (upd Ha D (dO D #[])) sb.heap.objs.size (cellsFrom (sb.heap.objs.size + 1) scope.names (cloFrom X.env.cells scope.names [])) own2
  have gI := ht sb (upd Ha D (dO D #[])) sb.heap.objs.size (cellsFrom (sb.heap.objs.size + 1) scope.names (cloFrom X.env.cells scope.names [])) own2
  have gK := hk sb (upd Ha D (dO D #[])) sb.heap.objs.size (cellsFrom (sb.heap.objs.size + 1) scope.names (cloFrom X.env.cells scope.names [])) own2
  have gV := hv sb (upd Ha D (dO D #[])) sb.heap.objs.size (cellsFrom (sb.heap.objs.size + 1) scope.names (cloFrom X.env.cells scope.names [])) own2
  have gI1 := hi1 sb (upd Ha D (dO D #[])) sb.heap.objs.size (cellsFrom (sb.heap.objs.size + 1) scope.names (cloFrom X.env.cells scope.names [])) own2
  have gG1 := hg1 sb (upd Ha D (dO D #[])) sb.heap.objs.size (cellsFrom (sb.heap.objs.size + 1) scope.names (cloFrom X.env.cells scope.names [])) own2
  have gT1 := ht1 sb (upd Ha D (dO D #[])) sb.heap.objs.size (cellsFrom (sb.heap.objs.size + 1) scope.names (cloFrom X.env.cells scope.names [])) own2
  show codeAny _ _ (.compStart (.DictComp kx vx [⟨tg, iter, ifs, 0⟩, ⟨tg1, iter1, ifs1, 0⟩] scope pos) 0 (.ref itA) (.ref D) (compEnvC scope (cellsFrom (sb.heap.objs.size + 1) scope.names (cloFrom X.env.cells scope.names [])) sb.heap.objs.size X.env)) (compPost (model X.prog X.w) X.A X.xe .none (EP X pins σ Q) (.ref D) sb.heap.objs.size) { sb with heap := pushCells (sb.heap.push { cls := .type "dict", data := .dict #[] }) scope.names }
  have none2 : ∀ b ∈ own2, (upd Ha D (dO D #[])) b = .none := fun b mb => (outB b mb).1.1
  generalize eenv : compEnvC scope (cellsFrom (sb.heap.objs.size + 1) scope.names (cloFrom X.env.cells scope.names [])) sb.heap.objs.size X.env = benv at Ic gT gI gK gV gI1 gG1 gT1 ⊢
  have eloc : benv.locals = sb.heap.objs.size := by subst eenv; rfl
  generalize eHb : upd Ha D (dO D #[]) = Hb at Ib Ic gT gI gK gV gI1 gG1 gT1 w0 none2 outB
  generalize esc : ({ sb with heap := pushCells (sb.heap.push { cls := .type "dict", data := .dict #[] }) scope.names } : Shared) = sc at Ic ⊢
  have staC : stand 0 sc.heap := T.keep _ _ _ staB fun b _ u e => by rw [← esc]; exact pushCells_keeps _ _ _ _ (Heap.get?_push_of_some _ e)
  have fps : ∀ {σ' : St} {H' : Hp} {s' : Shared}, Inv (X.blk sb Hb scope benv own2) [] σ' H' s' → (∀ b ∈ own2, H' b = .none) → ∀ b ∈ own2, FpOk (X.blk sb Hb scope benv own2) [] H' b := fun {σ' H' s'} I' hn b mb =>
    ⟨hn b mb, (I'.ok.exf b mb).1, I'.ok.exfs b mb, .inl mb, fun x c e => (I'.ok.exf b mb).2 x c e, fun p hp => absurd (show p ∈ ([] : List (Addr × PySem.Obj)) ++ [] from hp) (by simp)⟩
  have body : codeAny (model X.prog X.w) X.A (.compLoop (.DictComp kx vx [⟨tg, iter, ifs, 0⟩, ⟨tg1, iter1, ifs1, 0⟩] scope pos) 0 (.ref itA) (.ref D) benv) (compPost (model X.prog X.w) X.A X.xe .none (EP X pins σ Q) (.ref D) sb.heap.objs.size) sc := by
    refine cl2_out (hs1 benv) (fun n s' => ∃ i H', Inv (X.blk sb Hb scope benv own2) [] (L2.wipe σ (own.map (·.2))) H' s' ∧ stand i s'.heap ∧ (∀ b ∈ own2, H' b = .none) ∧ Wish i n H') ?_ n0 ⟨0, Hb, Ic, staC, none2, w0⟩
    rintro n sd ⟨i, Hd, Id, staD, noneD, wD⟩
    rcases turn i n Hd wD with ⟨stop, last⟩ | ⟨more, Nx, hNx, step⟩
    · refine thnF (T.done (X.blk sb Hb scope benv own2) rfl rfl rfl hc i [] sd _ Hd (fun _ _ => False) Id (fps Id noneD) staD stop) fun r se ⟨er, Ie⟩ => ?_
      subst er
      have If : Inv X pins σ Hd se := Ib.call' (ch := own2) Ie.os Ie.base Ie.hok Ie.bare fun b mb => let z := (outB b mb).1; ⟨z.2.2.2.1, z.2.1, z.2.2.2.2.1, z.2.2.2.2.2⟩
      have freeC : Hd sb.heap.objs.size = .none := by
        have z : Hd benv.locals = .none := Ie.free
        rw [eloc] at z; exact z
      obtain ⟨mm, hns, _⟩ := Ie.loc
      have hns : se.heap.Ns benv.locals mm := hns
      rw [eloc] at hns
      obtain ⟨f0, f1, f2, f3, f4, f5⟩ := Ib.fpOk (Nat.le_refl _) freeC
      exact ⟨mm, hns, fun h'' same => ⟨.ref D, Hd, If.turned (t' := se.toks) (fun b u hb e => (same.2 b hb).trans e) f0 f1 f3 f4 f5, rfl, last⟩⟩
    · refine thnF (T.item (X.blk sb Hb scope benv own2) rfl rfl rfl hc i [] sd _ Hd (fun _ _ => False) Id (fps Id noneD) staD more) fun r se ⟨u, er, goes⟩ => ?_
      subst er
      refine thnF goes fun _ sf ⟨x, Hf, If, rf, yf, staF, noneF⟩ => ?_
      have If' := If.pinned (fps If noneF) (T.obj _ _ staF)
      refine thnF (gT.run _ sf _ Hf x u _ If' rf (step x Hf yf)) fun _ sg ⟨σg, Hg, Ig, wiped, afterT⟩ => ?_
      refine thnF (gI.run _ sg σg Hg _ Ig afterT) fun b sh ⟨Hh, Ih, afterI⟩ => ?_
      have back : ∀ {σ9 : St} {s' : Shared} {H' : Hp}, Inv (X.blk sb Hb scope benv own2) ([] ++ pinsAt own2 sf.heap) σ9 H' s' → (L2.wipe σ (own.map (·.2))).length = σ9.length → (∀ (j : Nat) v, (L2.wipe σ (own.map (·.2)))[j]? = some (some v) → σ9[j]? = some (some v)) → Nx H' →
          ∃ k, k < n ∧ ∃ i H', Inv (X.blk sb Hb scope benv own2) [] (L2.wipe σ (own.map (·.2))) H' s' ∧ stand i s'.heap ∧ (∀ b ∈ own2, H' b = .none) ∧ Wish i k H' := fun {σ9 s' H'} I' same known nx => by
        obtain ⟨k, lt, w'⟩ := hNx H' nx
        have pinned : ∀ b ∈ own2, ∀ u, sf.heap.get? b = some u → s'.heap.get? b = some u ∧ H' b = .none := fun b mb u e => let z := I'.pin (b, u) (List.mem_append_right _ (List.mem_append_right _ (mem_pinsAt mb e))); ⟨z.1, z.2.1⟩
        refine ⟨k, lt, i + 1, H', (I'.unpinned (pins := [])).weak same known, T.keep _ _ _ staF fun b mb u e => (pinned b mb u e).1, fun b mb => ?_, w'⟩
        obtain ⟨u, e, _⟩ := T.obj _ _ staF b mb
        exact (pinned b mb u e).2
      have lenG : (L2.wipe σ (own.map (·.2))).length = σg.length := by rw [← wiped, wipe_length]
      have knowG : ∀ (j : Nat) v, (L2.wipe σ (own.map (·.2)))[j]? = some (some v) → σg[j]? = some (some v) := fun j v e => by
        rw [← wiped] at e; exact (wipe_some e).1
      have know1 : ∀ (j : Nat) v, (L2.wipe σ (own.map (·.2)))[j]? = some (some v) → (L2.wipe σg vs1)[j]? = some (some v) := fun j v e => by
        rw [← wiped] at e
        obtain ⟨z1, z2⟩ := wipe_some e
        rw [wipe_out fun q => z2 (hv1 j q)]; exact z1
      cases b with
      | false =>
        simp only [Bool.false_eq_true, if_false] at afterI ⊢
        exact back Ih lenG knowG afterI
      | true =>
        simp only [if_true] at afterI ⊢
        refine thnF (gI1.run _ sh σg Hh _ Ih afterI) fun xv si hx => thnF hx fun itv sj hj => ?_
        obtain ⟨itB, ownB, standB, JB, Hj, eB, Ij, TB, staB1, outB1, WishB, ⟨nB, wB⟩, turnB⟩ := hj
        subst eB
        have fpsB : ∀ {H' : Hp}, (∀ b ∈ ownB, H' b = .none) → ∀ b ∈ ownB, FpOk (X.blk sb Hb scope benv own2) ([] ++ pinsAt own2 sf.heap) H' b := fun hn b mb => ⟨hn b mb, (outB1 b mb).2⟩
        have inner : codeAny (model X.prog X.w) X.A (.compLoop (.DictComp kx vx [⟨tg, iter, ifs, 0⟩, ⟨tg1, iter1, ifs1, 0⟩] scope pos) 1 (.ref itB) (.ref D) benv)
            (fun r s' => match r with
              | .ok _ => ∃ k, k < n ∧ ∃ i H', Inv (X.blk sb Hb scope benv own2) [] (L2.wipe σ (own.map (·.2))) H' s' ∧ stand i s'.heap ∧ (∀ b ∈ own2, H' b = .none) ∧ Wish i k H'
              | .error _ => False) sj := by
          refine cl2_in (fun k s' => ∃ j H', Inv (X.blk sb Hb scope benv own2) ([] ++ pinsAt own2 sf.heap) (L2.wipe σg vs1) H' s' ∧ standB j s'.heap ∧ (∀ b ∈ ownB, H' b = .none) ∧ WishB j k H') ?_ nB
            ⟨0, Hj, Ij.weak (wipe_length _ _) (fun j v e => (wipe_some e).1), staB1, fun b mb => (outB1 b mb).1, wB⟩
          rintro k sk ⟨j, Hk, Ik, staK, noneK, wK⟩
          rcases turnB j k Hk wK with ⟨stop1, last1⟩ | ⟨more1, Nx1, hNx1, step1⟩
          · refine thnF (TB.done (X.blk sb Hb scope benv own2) rfl rfl rfl hc j _ sk (L2.wipe σg vs1) Hk (fun _ _ => False) Ik (fpsB noneK) staK stop1) fun r sl ⟨er, Il⟩ => ?_
            subst er
            exact back Il (lenG.trans (wipe_length σg vs1).symm) know1 last1
          · refine thnF (TB.item (X.blk sb Hb scope benv own2) rfl rfl rfl hc j _ sk (L2.wipe σg vs1) Hk (fun _ _ => False) Ik (fpsB noneK) staK more1) fun r sl ⟨u1, er, goes1⟩ => ?_
            subst er
            refine thnF goes1 fun _ sm ⟨x1, Hm, Im, rm, ym, staM, noneM⟩ => ?_
            have Im' := Im.pinned (fpsB noneM) (TB.obj _ _ staM)
            refine thnF (gG1.run _ sm (L2.wipe σg vs1) Hm x1 u1 _ Im' rm (step1 x1 Hm ym)) fun _ sn ⟨σn, Hn, In, wiped1, afterT1⟩ => ?_
            refine thnF (gT1.run _ sn σn Hn _ In afterT1) fun b1 sp ⟨Hp', Ip, afterI1⟩ => ?_
            have back1 : ∀ {s' : Shared} {H' : Hp}, Inv (X.blk sb Hb scope benv own2) (([] ++ pinsAt own2 sf.heap) ++ pinsAt ownB sm.heap) σn H' s' → Nx1 H' →
                ∃ q, q < k ∧ ∃ j H', Inv (X.blk sb Hb scope benv own2) ([] ++ pinsAt own2 sf.heap) (L2.wipe σg vs1) H' s' ∧ standB j s'.heap ∧ (∀ b ∈ ownB, H' b = .none) ∧ WishB j q H' := fun {s' H'} I' nx => by
              obtain ⟨q, lt, w'⟩ := hNx1 H' nx
              have pinned : ∀ b ∈ ownB, ∀ u, sm.heap.get? b = some u → s'.heap.get? b = some u ∧ H' b = .none := fun b mb u e => let z := I'.pin (b, u) (List.mem_append_right _ (List.mem_append_right _ (mem_pinsAt mb e))); ⟨z.1, z.2.1⟩
              refine ⟨q, lt, j + 1, H', I'.unpinned.weak (by rw [← wiped1, wipe_length]) (fun j v e => by rw [← wiped1] at e; exact (wipe_some e).1), TB.keep _ _ _ staM fun b mb u e => (pinned b mb u e).1, fun b mb => ?_, w'⟩
              obtain ⟨u, e, _⟩ := TB.obj _ _ staM b mb
              exact (pinned b mb u e).2
            cases b1 with
            | false =>
              simp only [Bool.false_eq_true, if_false] at afterI1 ⊢
              exact back1 Ip afterI1
            | true =>
              simp only [if_true] at afterI1 ⊢
              refine thnF (gK.run _ sp σn Hp' _ Ip afterI1) fun ku sq ⟨ky, Hq, Iq, rk, afterK⟩ => ?_
              refine thnF (gV.run _ sq σn Hq _ Iq afterK) fun vu sr ⟨vy, Hr, Ir, rv, ds⟩ => ?_
              exact ds (X.blk sb Hb scope benv own2) _ sr σn ku vu _ _ rfl rfl rfl Ir rk rv fun s' H' I' nx => back1 I' nx
        exact cs2_in inner (TB.self X.A 0 _ _ _ staB1 inner)
  exact codeAny_compStart_dict body (T.self X.A 0 _ _ _ staC body)
end
section
variable {X : Cx} {g : Gx} {o : Orc} {W : WX} {kx vx tg iter tg1 iter1 : PySem.Expr} {ifs ifs1 : List PySem.Expr} {scope : Scope} {own : List (Str × Nat)} {vs1 : List Nat} {pos : Pos} {t t1 : G.T} {ci ci1 : G.EI} {ck cv : G.E}
theorem m_dc2 {f f1 : Col → Col} (hP : g.P = X.prog) (hw : g.w = X.w) (hu : X.A.units + 64 < cLine) (hc : X.calm = true) (hN : X.N.Nodup) (hi : PI X tg iter (tI g o W ci)) (ok : BlkOk X.N X.env.scope scope own) (hv : ∀ i ∈ vs1, i ∈ own.map (·.2))
    (hg : InBlk X scope fun Y => PG Y tg (tEv g o (own.map (·.2)) t)) (ht : Tst X g o scope ifs f) (hi1 : InBlk X scope fun Y => PI Y tg1 iter1 (tI g o Wno ci1)) (hg1 : InBlk X scope fun Y => PG Y tg1 (tEv g o vs1 t1)) (ht1 : Tst X g o scope ifs1 f1)
    (hk : InBlk X scope fun Y => PE Y kx (tM g o Wno ck)) (he : InBlk X scope fun Y => PE Y vx (tM g o Wno cv)) (hs : ∀ x, foldedSetIterable iter X.env x = pure x) (hs1 : ∀ env x, foldedSetIterable iter1 env x = pure x) :
    PE X (.DictComp kx vx [⟨tg, iter, ifs, 0⟩, ⟨tg1, iter1, ifs1, 0⟩] scope pos) (tM g o W (eDcD (cFor (own.map (·.2)) t ci (f (cFor vs1 t1 ci1 (f1 (cEltD ck cv))))))) := by
  have fin : ∀ {tt tt1 : TT} {B : Addr → Bdy}, InBlk X scope (fun Y => PTs Y ifs tt) → InBlk X scope (fun Y => PTs Y ifs1 tt1) → (∀ D, B D = bIf tt (bFor (tI g o Wno ci1) (tEv g o vs1 t1) vs1 (bIf tt1 (bDct X D (tM g o Wno ck) (tM g o Wno cv))))) →
      (∀ m0 H0 D, ColOk g o (LdI g m0 H0 D) (f (cFor vs1 t1 ci1 (f1 (cEltD ck cv)))) (B D)) → PE X (.DictComp kx vx [⟨tg, iter, ifs, 0⟩, ⟨tg1, iter1, ifs1, 0⟩] scope pos) (tM g o W (eDcD (cFor (own.map (·.2)) t ci (f (cFor vs1 t1 ci1 (f1 (cEltD ck cv))))))) :=
    fun {tt tt1 B} h1 h2 hB hC => PE.imp (pe_dcB hc hN hi ok hg h1 hv hi1 hg1 h2 hs1 hk he hs) fun σ H Q h => by
      have z := dc_ok (B := B) hC h
      have e : B = fun D => bIf tt (bFor (tI g o Wno ci1) (tEv g o vs1 t1) vs1 (bIf tt1 (bDct X D (tM g o Wno ck) (tM g o Wno cv)))) := funext hB
      rw [e] at z
      exact z
  cases ht with
  | no =>
    cases ht1 with
    | no => exact fin (fun _ _ _ _ _ => pts_nil) (fun _ _ _ _ _ => pts_nil) (fun _ => rfl) (fun _ _ _ => col_yes (col_for LdI.ok (col_yes (col_dct hP hw hu))))
    | one h2 => exact fin (fun _ _ _ _ _ => pts_nil) (fun s H C cl fp => pts_one (h2 s H C cl fp)) (fun _ => rfl) (fun _ _ _ => col_yes (col_for LdI.ok (col_if LdI.ok (col_dct hP hw hu))))
  | one h1 =>
    cases ht1 with
    | no => exact fin (fun s H C cl fp => pts_one (h1 s H C cl fp)) (fun _ _ _ _ _ => pts_nil) (fun _ => rfl) (fun _ _ _ => col_if LdI.ok (col_for LdI.ok (col_yes (col_dct hP hw hu))))
    | one h2 => exact fin (fun s H C cl fp => pts_one (h1 s H C cl fp)) (fun s H C cl fp => pts_one (h2 s H C cl fp)) (fun _ => rfl) (fun _ _ _ => col_if LdI.ok (col_for LdI.ok (col_if LdI.ok (col_dct hP hw hu))))
/-- a call without arguments, worked out apart from the store -/
theorem e_callL0 {t : Tb} {F : Ft} {nf n : Nat} {x : Str} {p : Pos} (hx : g.ex = .none) (R : Rn X g o t F nf n W) {f : Nat} (hf : f < nf) (hg : Gl X x) (hm : X.mg x = some (.ref (F.a f))) (hk : PySem.W.keepIn X.K (.ref (F.a f)) = true) (hb : Binds X.K (F.fd f) (F.ps f) [])
    (hdb : (x == ("__debug__" : Str)) = false) : PE X (.Call (.Name x p) [] [] pos) (tM g o W (eCallL f elNil)) := by
  refine ⟨fun pins s σ H Q I ⟨m, ρ, S, re, rs, pp⟩ => wpAny_Call_Name_kw (ld_glob I hg hm ?_ hdb)⟩
  have pp' : PostG g RV m H Q (atS W σ) (callL f o [] S) := pp
  exact PySem.W.callWith_K0 (first := []) I.kIn hk (run_fnG (R.ok f hf) R.room.rm hb .nil R.takes I .nil (by rw [List.append_nil]; exact callL_ok hx R.orc .nil rs pp'))
end
end G
set_option Elab.async false
set_option linter.all false
set_option maxRecDepth 100000
/-! dict(l), l a list of pairs whose keys are tuples -/
namespace G
open PySem PySem.Spec L2
open PyProof.Rows hiding St
section
variable {X : Cx} {g : Gx} {o : Orc} {W : WX} {pins : List (Addr × PySem.Obj)} {s : Shared} {σ : St} {m : Mp} {H : Hp} {S : Store}
abbrev Tri := NestedKey × Addr × Value
theorem storedAllH_cons (xs : List Tri) (p : Tri) (r : List Tri) : storedAllH xs (p :: r) = storedAllH (storedH xs p.1 p.2.1 p.2.2) r := rfl
theorem nodup_put {k v : Val} {p : Tri} {kvs : List (Val × Val)} {xs : List Tri} (hp : KP m H (k, v) p) (r : Paired (KP m H) kvs xs) (nd : (xs.map (·.1)).Nodup) : ((storedH xs p.1 p.2.1 p.2.2).map (·.1)).Nodup := by
  cases e : atKey xs p.1 with
  | none =>
    rw [storedH_new e, List.map_append, List.nodup_append]
    refine ⟨nd, by simp, fun a ha b hb => ?_⟩
    rw [List.map_cons, List.map_nil, List.mem_singleton] at hb
    subst hb
    rintro rfl
    obtain ⟨x, hx, hx2⟩ := List.mem_map.mp ha
    clear r nd ha
    induction xs with
    | nil => cases hx
    | cons y ys ih =>
      by_cases c : y.1 = p.1
      · rw [atKey_cons_eq c] at e; cases e
      · rw [atKey_cons_ne c] at e
        rcases List.mem_cons.mp hx with q | q
        · subst q; exact c hx2
        · exact ih e q
  | some q =>
    have h1 : (storedH xs p.1 p.2.1 p.2.2).map (·.1) = xs.map (·.1) := by
      rw [storedH_old (p := q) e, List.map_map]
      refine List.map_congr_left fun y _ => ?_
      show (putAt p.1 p.2.2 y).1 = y.1
      unfold putAt
      split <;> rfl
    rw [h1]; exact nd
theorem putAll_key : ∀ {l : List (Val × Val)} {ps : List Tri} {kvs : List (Val × Val)} {xs : List Tri}, Paired (KP m H) l ps → Paired (KP m H) kvs xs → (xs.map (·.1)).Nodup →
    Paired (KP m H) (putAllD kvs l) (storedAllH xs ps) ∧ ((storedAllH xs ps).map (·.1)).Nodup ∧ (putAllD kvs l).length ≤ kvs.length + l.length
  | [], [], kvs, xs, .nil, r, nd => ⟨r, nd, by simp [putAllD]⟩
  | (k, v) :: l, p :: ps, kvs, xs, .cons q t, r, nd => by
    obtain ⟨h1, h2, h3⟩ := putAll_key t (dput_key q r nd) (nodup_put q r nd)
    refine ⟨h1, h2, Nat.le_trans h3 ?_⟩
    have := dput_len k v kvs
    rw [List.length_cons]
    show (dput k v kvs).length + l.length ≤ _
    omega
/-- the pairs as they stand in the heap -/
theorem pairs_heap (I : Inv X pins σ H s) : ∀ {vs : List Val} {ys : List V} {its : List Value} {kvs : List (Val × Val)}, RVs m H vs ys → Vals ys its → pairsT vs = some kvs →
    ∃ l : List (Addr × Tri), its = l.map (fun z => .ref z.1) ∧ Paired (KP m H) kvs (l.map (·.2)) ∧ ∀ z ∈ l, PairAt s.heap z.1 (.ref z.2.2.1) z.2.2.2 := by
  intro vs
  induction vs with
  | nil =>
    intro ys its kvs r rv h
    cases r; cases rv; cases h
    exact ⟨[], rfl, .nil, fun z hz => nomatch hz⟩
  | cons v vs ih =>
    intro ys its kvs r rv h
    unfold pairsT at h
    split at h
    rotate_left
    · cases h
    rename_i ws
    split at h
    rotate_left
    · cases h
    rename_i k t
    split at h
    rotate_left
    · cases h
    rename_i x u
    split at h
    rotate_left
    · cases h
    split at h
    rotate_left
    · cases h
    rename_i hk
    split at h
    rotate_left
    · cases h
    rename_i l0 hl0
    cases h
    obtain ⟨ht, hi⟩ := Bool.and_eq_true_iff.mp hk
    obtain ⟨kk, k1, k2⟩ := keyIn_ok 8 k hi
    cases r with
    | cons r1 r2 =>
      cases rv with
      | cons v1 v2 =>
        obtain ⟨l, e1, e2, e3⟩ := ih r2 v2 hl0
        cases r1 with
        | @tup T xs vs' hT rr =>
          cases rr with
          | cons ra rb =>
            cases rb with
            | cons rc rd =>
              cases rd
              cases v1
              obtain ⟨its2, w1, w2, w3⟩ := I.tuple (.inl (.inl hT))
              cases w1 with
              | cons wa wb =>
                cases wb with
                | cons wc wd =>
                  cases wd
                  cases ra with
                  | tup hK hR =>
                    cases wa
                    refine ⟨(T, kk, _, _) :: l, by rw [e1]; rfl, .cons ⟨k1, ht, k2, .tup hK hR, _, rc, wc⟩ e2, fun z hz => ?_⟩
                    rcases List.mem_cons.mp hz with q | q
                    · subst q; exact .inl w2
                    · exact e3 z q
                  | _ => cases ht
theorem b_dictT (hP : g.P = X.prog) (hw : g.w = X.w) (hu : X.A.units + 64 < cLine) (hc : X.calm = true) : CallR X (.type "dict") (BiR g o bDictT) := by
  intro pins s σ H xs us Q I rvs ⟨m, vs, S, E, rv, rs, pp⟩
  cases rv with
  | nil => exact pp.elim
  | @cons v x vs xs r rr =>
    cases rr with
    | cons _ _ => cases r <;> exact pp.elim
    | nil =>
      obtain ⟨u, rfl, ru⟩ := vals1 rvs
      cases r with
      | @ref n q hq =>
        cases ru
        have p1 : PostG g RV m H Q E (match isList (S.get n) with | some l => (match pairsT l with | some kvs => (match Nat.ble kvs.length maxLen with | true => alloc (.dct (putAllD [] kvs)) S | false => .stuck 131) | .none => .stuck 131) | .none => .stuck 132) := pp
        cases e0 : isList (S.get n) with
        | none => rw [e0] at p1; exact p1.elim
        | some l0 =>
          rw [e0] at p1
          have p2 : PostG g RV m H Q E (match pairsT l0 with | some kvs => (match Nat.ble kvs.length maxLen with | true => alloc (.dct (putAllD [] kvs)) S | false => .stuck 131) | .none => .stuck 131) := p1
          cases e1 : pairsT l0 with
          | none => rw [e1] at p2; exact p2.elim
          | some kvs =>
            rw [e1] at p2
            have p3 : PostG g RV m H Q E (match Nat.ble kvs.length maxLen with | true => alloc (.dct (putAllD [] kvs)) S | false => .stuck 131) := p2
            cases e2 : Nat.ble kvs.length maxLen with
            | false => rw [e2] at p3; exact p3.elim
            | true =>
              rw [e2] at p3
              have hlen : kvs.length ≤ sizeLine := by rw [← maxLen_eq]; exact Nat.le_of_ble_eq_true e2
              obtain ⟨q', ys, k1, hq', k2, k3⟩ := rs.list (isList_of e0) (RV.ref hq)
              cases k1
              obtain ⟨its, rw_, hl, hz⟩ := I.list (SqL.of k2)
              obtain ⟨l, h1, h2, h3⟩ := pairs_heap I k3 rw_ e1
              have hk := paired_len h2
              rw [List.length_map] at hk
              obtain ⟨g1, g2, g3⟩ := putAll_key h2 (kvs := []) (xs := []) .nil List.nodup_nil
              have dflt : Addr × Tri := (0, .none, 0, .none)
              have P := PairArg.list (prog := X.prog) (w := X.w) q its.toArray (fun j => (l.getD j (0, .none, 0, .none)).1) (l.map fun z => (Value.ref z.2.2.1, z.2.2.2))
              have hgd : ∀ {j : Nat} {z : Addr × Tri}, l[j]? = some z → (l.getD j (0, .none, 0, .none)) = z := fun {j z} e => by rw [List.getD_eq_getElem?_getD, e]; rfl
              have hu2 : (nestedKind X.prog X.w).room X.A.in1.in1 := by
                show X.A.units + 1 + 1 + _ < _
                omega
              refine call_dict_pairsH (knd := nestedKind X.prog X.w) (ps := l.map (·.2)) P (I.ok.hd hc) hu2 ⟨?_, ?_, ?_⟩ ⟨by simp, fun i key v hrel => ?_⟩ (fun h' keep x hx => ?_) (by rw [List.length_map, ← hk]; exact hlen) fun h' tk hD hkeep => ?_
              · obtain ⟨ob, nn, a1, a2, a3, a4⟩ := hl
                exact ⟨ob, nn, a1, a2, a3, a4⟩
              · rw [h1]; simp
              · intro j k v hj
                rw [List.getElem?_map] at hj
                cases e : l[j]? with
                | none => rw [e] at hj; cases hj
                | some z =>
                  rw [e] at hj
                  have hj' : (Value.ref z.2.2.1, z.2.2.2) = (k, v) := Option.some.inj hj
                  cases hj'
                  show its.toArray[j]? = some (Value.ref (l.getD j (0, .none, 0, .none)).1) ∧ PairAt s.heap (l.getD j (0, .none, 0, .none)).1 _ _
                  rw [hgd e]
                  exact ⟨by rw [h1]; simp [e], h3 z (List.mem_of_getElem? e)⟩
              · have hrel' : (l.map fun z => (Value.ref z.2.2.1, z.2.2.2))[i]? = some (key, v) := hrel
                rw [List.getElem?_map] at hrel'
                cases e : l[i]? with
                | none => rw [e] at hrel'; cases hrel'
                | some z =>
                  rw [e] at hrel'
                  have hj' : (Value.ref z.2.2.1, z.2.2.2) = (key, v) := Option.some.inj hrel'
                  cases hj'
                  exact ⟨z.2.1, z.2.2.1, by rw [List.getElem?_map, e]; rfl, rfl⟩
              · obtain ⟨kv, hkv⟩ := paired_mem h2 x hx
                obtain ⟨is1, is2⟩ := key_is I hkv
                refine ⟨NestedIs.at (fun a ob vs n ha hd => keep a ob (Nat.ne_of_lt (Heap.lt_size ha)) (by simp) ha) _ _ is1, is2⟩
              · obtain ⟨ob, es, ep, d1, d2, d3, d4, d5, d6⟩ := hD
                have hs : (s.heap.objs.size == sysModules) = false := beq_eq_false_iff_ne.mpr (Nat.ne_of_gt I.big)
                have hn := I.hok.fresh (Nat.le_refl s.heap.objs.size)
                refine ⟨.ref s.heap.objs.size, upd H s.heap.objs.size (dO s.heap.objs.size es), I.laid (t' := tk) (fun b u e => hkeep b u (by simp) e) (Nat.le_refl _) (dO_ok hs d1 d2 d3), rfl, ?_⟩
                refine PostG.alloc rs p3 hn fun x => ⟨?_, es, upd_same, .tup (storedAllH [] (l.map (·.2))) (by rw [hP, hw]; exact d4) g2 (Paired.mapP g1 fun _ _ q => ⟨q.1, q.2.1, q.2.2.1, q.2.2.2.1.mono x, q.2.2.2.2.mono0 x.toEx0⟩)⟩
                have g3' : (putAllD [] kvs).length ≤ 0 + kvs.length := g3
                omega
      | _ => exact pp.elim
end
end G
set_option Elab.async false
set_option linter.all false
set_option maxRecDepth 100000
/-! laws that draw more than once -/
namespace G
theorem seqL_app (o : Orc) : ∀ (l : List C) (c : C) (ρ : G.Env) (S : Store), seqL l c o ρ S = (seqL l cNil o ρ S).seq (c o)
  | [], c, ρ, S => rfl
  | a :: l, c, ρ, S => by
    show (a o ρ S).seq (seqL l c o) = ((a o ρ S).seq (seqL l cNil o)).seq (c o)
    cases a o ρ S with
    | nx ρ1 S1 => exact seqL_app o l c ρ1 S1
    | _ => rfl
theorem rr_cases {α : Type} (vs : List Val) : (∃ f l, vs = [.ref f, .ref l]) ∨ ∀ (F : Nat → Nat → α) (z : α), (match vs with | [.ref f, .ref l] => F f l | _ => z) = z := by
  by_cases h : ∃ f l, vs = [.ref f, .ref l]
  · exact .inl h
  · refine .inr fun F z => ?_
    split
    · exact absurd ⟨_, _, rfl⟩ h
    · rfl
theorem fin_out {tk pk : Nat} {o o1 o2 : Orc} (h1 : ∀ args S, o.call pk args S = runFn ⟨2, 2, cPick tk⟩ o1 args S) (h2 : ∀ args S, o1.call tk args S = runFn ⟨2, 3, cTake⟩ o2 args S) {r : SR} {as : EL} {t : T} {c : C} {d y : Int} (d0 : 0 ≤ d) (y0 : 0 ≤ y) (y1 : y < 2 ^ 40)
    (h : ∀ d2 y2 : Int, outB o r as t c (.lst [.int d2, .int y2]) = (some (.lst [.int d, .int y]), true)) : Fin1 (r.seq (cSeq (sAsg t (eCall pk as)) c o)) := by
  cases r with
  | nx ρ S =>
    show Fin1 (cSeq (sAsg t (eCall pk as)) c o ρ S)
    cases e : as o ρ S with
    | ok vs S2 =>
      have g0 : ∀ d2 y2 : Int, (match vs with
          | [.ref f, .ref l] => (S2.get f, Nat.beq f 4 && (!Nat.beq l 4 && (match isList (S2.get l) with
            | some ws => Nat.beq ws.length 3 && ws.all fun v => isRt (((noExc (t v o ρ (S2.put 4 (.lst [.int d2, .int y2])))).to ρ (fun ρ S => SR.nx ρ S)).seq (c o))
            | .none => false)))
          | _ => (.none, false)) = (some (.lst [.int d, .int y]), true) := fun d2 y2 => by
        have z := h d2 y2
        unfold outB at z
        simp only [e] at z
        exact z
      rcases rr_cases (α := Option Obj × Bool) vs with ⟨f, l, rfl⟩ | no
      · have g1 : ∀ d2 y2 : Int, (S2.get f, Nat.beq f 4 && (!Nat.beq l 4 && (match isList (S2.get l) with
            | some ws => Nat.beq ws.length 3 && ws.all fun v => isRt (((noExc (t v o ρ (S2.put 4 (.lst [.int d2, .int y2])))).to ρ (fun ρ S => SR.nx ρ S)).seq (c o))
            | .none => false))) = (some (.lst [.int d, .int y]), true) := g0
        obtain ⟨p1, p2⟩ := Prod.mk.inj (g1 0 0)
        obtain ⟨q1, q2⟩ := Bool.and_eq_true_iff.mp p2
        obtain ⟨q3, q4⟩ := Bool.and_eq_true_iff.mp q2
        have ef : f = 4 := Nat.eq_of_beq_eq_true q1
        subst ef
        have el : l ≠ 4 := fun z => by rw [z] at q3; exact absurd q3 (by decide)
        cases hl : isList (S2.get l) with
        | none => rw [hl] at q4; cases q4
        | some ws =>
          rw [hl] at q4
          have q5 : (Nat.beq ws.length 3 && ws.all fun v => isRt (((noExc (t v o ρ (S2.put 4 (.lst [.int 0, .int 0])))).to ρ (fun ρ S => SR.nx ρ S)).seq (c o))) = true := q4
          obtain ⟨q6, _⟩ := Bool.and_eq_true_iff.mp q5
          have len : ws.length = 3 := Nat.eq_of_beq_eq_true q6
          obtain ⟨j, d2, y2, v, hj, _, _, _, hv, e2⟩ := pick_eq (t := tk) (o := o1) (o' := o2) h2 p1 (isList_of hl) el (by decide) d0 y0 y1 (by omega) (by rw [len]; decide)
          have e3 : eCall pk as o ρ S = .ok v (S2.put 4 (.lst [.int d2, .int y2])) := by
            show (as o ρ S).bind (fun vs S => o.call pk vs S) = _
            rw [e]
            show o.call pk [.ref 4, .ref l] S2 = _
            rw [h1]; exact e2
          refine fin_asg e3 ?_
          obtain ⟨_, w2⟩ := Prod.mk.inj (g1 d2 y2)
          obtain ⟨_, w3⟩ := Bool.and_eq_true_iff.mp w2
          obtain ⟨_, w4⟩ := Bool.and_eq_true_iff.mp w3
          rw [hl] at w4
          have w5 : (Nat.beq ws.length 3 && ws.all fun v => isRt (((noExc (t v o ρ (S2.put 4 (.lst [.int d2, .int y2])))).to ρ (fun ρ S => SR.nx ρ S)).seq (c o))) = true := w4
          exact List.all_eq_true.mp (Bool.and_eq_true_iff.mp w5).2 v (List.mem_of_getElem? hv)
      · have := g0 0 0
        rw [no] at this
        cases this
    | exc c fs S2 =>
      have z := h 0 0
      unfold outB at z
      simp only [e] at z
      cases z
    | stuck w =>
      have z := h 0 0
      unfold outB at z
      simp only [e] at z
      cases z
  | _ => cases (h 0 0)
theorem op_eq {f : Op2} {a b : E} {o : Orc} {ρ : G.Env} {S S1 S2 : Store} {x y : Val} (ha : a o ρ S = .ok x S1) (hb : b o ρ S1 = .ok y S2) : eOp f a b o ρ S = f o x y S2 := by
  show (a o ρ S).bind _ = _
  rw [ha]
  show (b o ρ S1).bind _ = _
  rw [hb]
  rfl
/-- a draw, its arguments at hand -/
theorem pick_at {tk pk : Nat} {o o1 o2 : Orc} (h1 : ∀ args S, o.call pk args S = runFn ⟨2, 2, cPick tk⟩ o1 args S) (h2 : ∀ args S, o1.call tk args S = runFn ⟨2, 3, cTake⟩ o2 args S) {as : EL} {ρ : G.Env} {S S2 : Store} {l : Nat} {vs : List Val} {d y : Int} (ha : as o ρ S = .ok [.ref 4, .ref l] S2)
    (hf : S2.get 4 = some (.lst [.int d, .int y])) (hl : S2.get l = some (.lst vs)) (hne : l ≠ 4) (d0 : 0 ≤ d) (y0 : 0 ≤ y) (y1 : y < 2 ^ 40) (h0 : 0 < vs.length) (hz : Nat.blt vs.length.log2 9000 = true) :
    ∃ (j : Nat) (d' y' : Int) (v : Val), j < vs.length ∧ 0 ≤ d' ∧ 0 ≤ y' ∧ y' < 2 ^ 40 ∧ vs[j]? = some v ∧ eCall pk as o ρ S = .ok v (S2.put 4 (.lst [.int d', .int y'])) := by
  obtain ⟨j, d2, y2, v, a1, a2, a3, a4, a5, e⟩ := pick_eq (t := tk) (o := o1) (o' := o2) h2 hf hl hne (by decide) d0 y0 y1 h0 hz
  refine ⟨j, d2, y2, v, a1, a2, a3, a4, a5, ?_⟩
  show (as o ρ S).bind (fun vs S => o.call pk vs S) = _
  rw [ha]
  show o.call pk [.ref 4, .ref l] S2 = _
  rw [h1]; exact e
end G
set_option Elab.async false
set_option linter.all false
set_option maxRecDepth 100000
set_option maxHeartbeats 0
namespace L19
open PySem PySem.Spec L2 G
open PyProof.Rows hiding St
def top (i : Nat) : Stmt := PySem.Challenge.pw_graftrules_k19_known_great_numbers.main.body.getD i (.Pass ⟨0, 0, 0, 0⟩)
def clsBody : Stmt → List Stmt
  | .ClassDef _ _ _ b _ _ _ _ _ _ _ => b
  | _ => []
def sub (i j : Nat) : Stmt := (clsBody (top i)).getD j (.Pass ⟨0, 0, 0, 0⟩)
def nms : List Str := ["place", "number", "at", "kept", "used", "some", "like", "least"]
def excn : List Str := ["TreeError", "NoPlace", "BadLot", "NoStep", "TooLong"]
def clsn : List Str := ["Lot", "Table"]
def ats_0 : List (Str × Option Str) := [("_wall", none), ("is_number", none), ("is_name", none), ("is_tree", none), ("size", none), ("levels_of", none), ("sign_of", none), ("ordered", none), ("parts", none), ("part_at", none), ("put", none), ("is_rule", none), ("parts_of", none), ("Lot", some "__init__"), ("Lot", some "rules"), ("Lot", some "parts"), ("Lot", some "__len__"), ("Lot", some "__contains__"), ("Lot", some "__eq__"), ("Lot", some "__add__"), ("Lot", some "turned"), ("Lot", some "without"), ("put_by", none), ("stepped", none), ("after", none), ("told_and_own", none), ("Table", some "__init__"), ("Table", some "by_children"), ("Table", some "lower"), ("Table", some "look_at_children")]
def ats_1 : List (Str × Option Str) := [("Table", some "look_through_rules"), ("Table", some "by_rule"), ("Table", some "becomes"), ("Table", some "way"), ("number_table", none), ("told_way", none), ("becomes", none), ("is_way", none), ("_law_feed", none), ("_law_take", none), ("_law_pick", none), ("_law_four", none), ("_law_told_so", none), ("law", none)]
def ats : List (Str × Option Str) := ats_0 ++ ats_1
def pss_0 : List (List Str) := [["k"], ["value", "below"], ["value"], ["value"], ["tree"], ["tree"], ["tree"], ["trees"], ["tree"], ["tree", "place"], ["tree", "place", "part"], ["value"], ["rules"], ["self", "rules"], ["self"], ["self"], ["self"], ["self", "value"], ["self", "other"], ["self", "other"], ["self"], ["self", "number"], ["tree", "place", "left", "right"], ["lot", "tree", "step"], ["lot", "tree", "way"], ["rules", "trees"], ["self", "rules", "trees"], ["self", "one", "other"], ["self", "one", "other", "number"], ["self"]]
def pss_1 : List (List Str) := [["self"], ["self", "one", "other", "left", "right"], ["self", "one", "other"], ["self", "one", "other"], ["lot", "tree", "other"], ["table", "tree", "other"], ["lot", "tree", "other"], ["lot", "tree", "other", "value"], ["script", "k"], ["feed", "many"], ["feed", "some"], ["f", "part"], ["lot", "tree", "other"], ["script"]]
def pss : List (List Str) := pss_0 ++ pss_1
abbrev gx (P : Program) (w : World) (K : PySem.W.Frag) : Gx := { P := P, w := w, K := K, nm := fun i => nms.getD i "", nf := 8, cl := fun c => He.ga K (clsn.getD c ""), xc := fun c => He.ga K (excn.getD c "") }
abbrev ft (K : PySem.W.Frag) : Ft := ⟨fun k => adP K (ats.getD k ("", none)), fun k => fdAt K (adP K (ats.getD k ("", none))), fun k => pss.getD k []⟩
def fn : List He.DefD := [
  ⟨("_wall", none), "_wall", "_wall", defArgs (top 0), defBody (top 0), defScope (top 0), [], []⟩,
  ⟨("is_number", none), "is_number", "is_number", defArgs (top 11), defBody (top 11), defScope (top 11), [], []⟩,
  ⟨("is_name", none), "is_name", "is_name", defArgs (top 12), defBody (top 12), defScope (top 12), [], []⟩,
  ⟨("is_tree", none), "is_tree", "is_tree", defArgs (top 13), defBody (top 13), defScope (top 13), [], []⟩,
  ⟨("size", none), "size", "size", defArgs (top 14), defBody (top 14), defScope (top 14), [], []⟩,
  ⟨("levels_of", none), "levels_of", "levels_of", defArgs (top 15), defBody (top 15), defScope (top 15), [], []⟩,
  ⟨("sign_of", none), "sign_of", "sign_of", defArgs (top 16), defBody (top 16), defScope (top 16), [], []⟩,
  ⟨("ordered", none), "ordered", "ordered", defArgs (top 17), defBody (top 17), defScope (top 17), [], []⟩,
  ⟨("parts", none), "parts", "parts", defArgs (top 18), defBody (top 18), defScope (top 18), [], []⟩,
  ⟨("part_at", none), "part_at", "part_at", defArgs (top 19), defBody (top 19), defScope (top 19), [], []⟩,
  ⟨("put", none), "put", "put", defArgs (top 20), defBody (top 20), defScope (top 20), [], []⟩,
  ⟨("is_rule", none), "is_rule", "is_rule", defArgs (top 26), defBody (top 26), defScope (top 26), [], []⟩,
  ⟨("parts_of", none), "parts_of", "parts_of", defArgs (top 27), defBody (top 27), defScope (top 27), [], []⟩,
  ⟨("Lot", some "__init__"), "__init__", "Lot.__init__", defArgs (sub 28 0), defBody (sub 28 0), defScope (sub 28 0), [], []⟩,
  ⟨("Lot", some "rules"), "rules", "Lot.rules", defArgs (sub 28 1), defBody (sub 28 1), defScope (sub 28 1), [], []⟩,
  ⟨("Lot", some "parts"), "parts", "Lot.parts", defArgs (sub 28 2), defBody (sub 28 2), defScope (sub 28 2), [], []⟩,
  ⟨("Lot", some "__len__"), "__len__", "Lot.__len__", defArgs (sub 28 3), defBody (sub 28 3), defScope (sub 28 3), [], []⟩,
  ⟨("Lot", some "__contains__"), "__contains__", "Lot.__contains__", defArgs (sub 28 4), defBody (sub 28 4), defScope (sub 28 4), [], []⟩,
  ⟨("Lot", some "__eq__"), "__eq__", "Lot.__eq__", defArgs (sub 28 5), defBody (sub 28 5), defScope (sub 28 5), [], []⟩,
  ⟨("Lot", some "__add__"), "__add__", "Lot.__add__", defArgs (sub 28 6), defBody (sub 28 6), defScope (sub 28 6), [], []⟩,
  ⟨("Lot", some "turned"), "turned", "Lot.turned", defArgs (sub 28 7), defBody (sub 28 7), defScope (sub 28 7), [], []⟩,
  ⟨("Lot", some "without"), "without", "Lot.without", defArgs (sub 28 8), defBody (sub 28 8), defScope (sub 28 8), [], []⟩,
  ⟨("put_by", none), "put_by", "put_by", defArgs (top 29), defBody (top 29), defScope (top 29), [], []⟩,
  ⟨("stepped", none), "stepped", "stepped", defArgs (top 30), defBody (top 30), defScope (top 30), [], []⟩,
  ⟨("after", none), "after", "after", defArgs (top 31), defBody (top 31), defScope (top 31), [], []⟩,
  ⟨("told_and_own", none), "told_and_own", "told_and_own", defArgs (top 34), defBody (top 34), defScope (top 34), [], []⟩,
  ⟨("Table", some "__init__"), "__init__", "Table.__init__", defArgs (sub 35 0), defBody (sub 35 0), defScope (sub 35 0), [], []⟩,
  ⟨("Table", some "by_children"), "by_children", "Table.by_children", defArgs (sub 35 1), defBody (sub 35 1), defScope (sub 35 1), [], []⟩,
  ⟨("Table", some "lower"), "lower", "Table.lower", defArgs (sub 35 2), defBody (sub 35 2), defScope (sub 35 2), [], []⟩,
  ⟨("Table", some "look_at_children"), "look_at_children", "Table.look_at_children", defArgs (sub 35 3), defBody (sub 35 3), defScope (sub 35 3), [], []⟩,
  ⟨("Table", some "look_through_rules"), "look_through_rules", "Table.look_through_rules", defArgs (sub 35 4), defBody (sub 35 4), defScope (sub 35 4), [], []⟩,
  ⟨("Table", some "by_rule"), "by_rule", "Table.by_rule", defArgs (sub 35 5), defBody (sub 35 5), defScope (sub 35 5), [], []⟩,
  ⟨("Table", some "becomes"), "becomes", "Table.becomes", defArgs (sub 35 6), defBody (sub 35 6), defScope (sub 35 6), [], []⟩,
  ⟨("Table", some "way"), "way", "Table.way", defArgs (sub 35 7), defBody (sub 35 7), defScope (sub 35 7), [], []⟩,
  ⟨("number_table", none), "number_table", "number_table", defArgs (top 36), defBody (top 36), defScope (top 36), [], []⟩,
  ⟨("told_way", none), "told_way", "told_way", defArgs (top 37), defBody (top 37), defScope (top 37), [], []⟩,
  ⟨("becomes", none), "becomes", "becomes", defArgs (top 38), defBody (top 38), defScope (top 38), [], []⟩,
  ⟨("is_way", none), "is_way", "is_way", defArgs (top 39), defBody (top 39), defScope (top 39), [], []⟩,
  ⟨("_law_feed", none), "_law_feed", "_law_feed", defArgs (top 41), defBody (top 41), defScope (top 41), [], []⟩,
  ⟨("_law_take", none), "_law_take", "_law_take", defArgs (top 42), defBody (top 42), defScope (top 42), [], []⟩,
  ⟨("_law_pick", none), "_law_pick", "_law_pick", defArgs (top 43), defBody (top 43), defScope (top 43), [], []⟩,
  ⟨("_law_four", none), "_law_four", "_law_four", defArgs (top 44), defBody (top 44), defScope (top 44), [], []⟩,
  ⟨("_law_told_so", none), "_law_told_so", "_law_told_so", defArgs (top 45), defBody (top 45), defScope (top 45), [], []⟩,
  ⟨("law", none), "law", "law", defArgs (top 46), defBody (top 46), defScope (top 46), [], []⟩,
  ⟨("NoPlace", some "__init__"), "__init__", "NoPlace.__init__", defArgs (sub 3 0), defBody (sub 3 0), defScope (sub 3 0), [], []⟩,
  ⟨("BadLot", some "__init__"), "__init__", "BadLot.__init__", defArgs (sub 4 0), defBody (sub 4 0), defScope (sub 4 0), [], []⟩,
  ⟨("NoStep", some "__init__"), "__init__", "NoStep.__init__", defArgs (sub 5 0), defBody (sub 5 0), defScope (sub 5 0), [], []⟩,
  ⟨("TooLong", some "__init__"), "__init__", "TooLong.__init__", defArgs (sub 6 0), defBody (sub 6 0), defScope (sub 6 0), [], []⟩]
def cks : List (PySem.W.Frag → Bool) := [
  fun K => (He.Fa.glo "_wall").ok K,
  fun K => (He.Fa.glo "is_number").ok K,
  fun K => (He.Fa.glo "is_name").ok K,
  fun K => (He.Fa.glo "is_tree").ok K,
  fun K => (He.Fa.glo "size").ok K,
  fun K => (He.Fa.glo "levels_of").ok K,
  fun K => (He.Fa.glo "sign_of").ok K,
  fun K => (He.Fa.glo "ordered").ok K,
  fun K => (He.Fa.glo "parts").ok K,
  fun K => (He.Fa.glo "part_at").ok K,
  fun K => (He.Fa.glo "put").ok K,
  fun K => (He.Fa.glo "is_rule").ok K,
  fun K => (He.Fa.glo "parts_of").ok K,
  fun K => (He.Fa.glo "put_by").ok K,
  fun K => (He.Fa.glo "stepped").ok K,
  fun K => (He.Fa.glo "after").ok K,
  fun K => (He.Fa.glo "told_and_own").ok K,
  fun K => (He.Fa.glo "number_table").ok K,
  fun K => (He.Fa.glo "told_way").ok K,
  fun K => (He.Fa.glo "becomes").ok K,
  fun K => (He.Fa.glo "is_way").ok K,
  fun K => (He.Fa.glo "_law_feed").ok K,
  fun K => (He.Fa.glo "_law_take").ok K,
  fun K => (He.Fa.glo "_law_pick").ok K,
  fun K => (He.Fa.glo "_law_four").ok K,
  fun K => (He.Fa.glo "_law_told_so").ok K,
  fun K => (He.Fa.glo "law").ok K,
  fun K => (He.Fa.free "abs").ok K,
  fun K => (He.Fa.free "all").ok K,
  fun K => (He.Fa.free "bool").ok K,
  fun K => (He.Fa.free "dict").ok K,
  fun K => (He.Fa.free "enumerate").ok K,
  fun K => (He.Fa.free "int").ok K,
  fun K => (He.Fa.free "isinstance").ok K,
  fun K => (He.Fa.free "len").ok K,
  fun K => (He.Fa.free "list").ok K,
  fun K => (He.Fa.free "max").ok K,
  fun K => (He.Fa.free "sorted").ok K,
  fun K => (He.Fa.free "str").ok K,
  fun K => (He.Fa.free "sum").ok K,
  fun K => (He.Fa.free "tuple").ok K,
  fun K => (He.Fa.free "zip").ok K,
  fun K => (He.Fa.str "LETTERS" "abcdefghijklmnopqrstuvwxyz").ok K,
  fun K => (He.Fa.int "MAX_NAME" 8).ok K,
  fun K => (He.Fa.int "MAX_CHILDREN" 4).ok K,
  fun K => (He.Fa.int "MAX_RULES" 8).ok K,
  fun K => (He.Fa.int "MAX_SIDE" 6).ok K,
  fun K => (He.Fa.int "MAX_LEVELS" 4).ok K,
  fun K => (He.Fa.int "MAX_PARTS" 24).ok K,
  fun K => (He.Fa.int "MAX_WAY" 200).ok K,
  fun K => (He.Fa.glo "BadLot").ok K,
  fun K => (He.Fa.glo "NoPlace").ok K,
  fun K => (He.Fa.glo "NoStep").ok K,
  fun K => (He.Fa.glo "TooLong").ok K,
  fun K => (He.Fa.glo "Lot").ok K,
  fun K => isiB K (He.ga K "Lot"),
  fun K => (He.Fa.glo "Lot").ok K,
  fun K => (He.Fa.cls "Lot").ok K,
  fun K => mkB K (He.ga K "Lot") (adP K ("Lot", some "__init__")),
  fun K => (He.Fa.glo "Table").ok K,
  fun K => (He.Fa.cls "Table").ok K,
  fun K => mkB K (He.ga K "Table") (adP K ("Table", some "__init__")),
  fun K => methB K (He.ga K "Lot") "__len__" (adP K ("Lot", some "__len__")),
  fun K => methB K (He.ga K "Table") "becomes" (adP K ("Table", some "becomes")),
  fun K => methB K (He.ga K "Table") "by_children" (adP K ("Table", some "by_children")),
  fun K => methB K (He.ga K "Table") "by_rule" (adP K ("Table", some "by_rule")),
  fun K => methB K (He.ga K "Table") "look_at_children" (adP K ("Table", some "look_at_children")),
  fun K => methB K (He.ga K "Table") "look_through_rules" (adP K ("Table", some "look_through_rules")),
  fun K => methB K (He.ga K "Table") "lower" (adP K ("Table", some "lower")),
  fun K => methB K (He.ga K "Lot") "rules" (adP K ("Lot", some "rules")),
  fun K => methB K (He.ga K "Table") "way" (adP K ("Table", some "way")),
  fun K => (He.Fa.noat "Lot" "kept").ok K,
  fun K => (He.Fa.noat "Table" "least").ok K,
  fun K => (He.Fa.noat "Table" "like").ok K,
  fun K => (He.Fa.noat "Table" "some").ok K,
  fun K => (He.Fa.noat "Table" "used").ok K,
  fun K => oexB K (He.ga K "NoPlace"),
  fun K => He.eqO (PySem.W.findIn K (.ref (He.ga K "NoPlace")) "__init__") (some (some (.ref (adP K ("NoPlace", some "__init__"))))),
  fun K => decide (PySem.W.typeIn K (.ref (adP K ("NoPlace", some "__init__"))) = some (.type "function")),
  fun K => He.eqO (PySem.W.findIn K (.ref (He.ga K "NoPlace")) "place") (some none),
  fun K => xfB K (He.ga K "NoPlace"),
  fun K => oexB K (He.ga K "BadLot"),
  fun K => He.eqO (PySem.W.findIn K (.ref (He.ga K "BadLot")) "__init__") (some (some (.ref (adP K ("BadLot", some "__init__"))))),
  fun K => decide (PySem.W.typeIn K (.ref (adP K ("BadLot", some "__init__"))) = some (.type "function")),
  fun K => He.eqO (PySem.W.findIn K (.ref (He.ga K "BadLot")) "number") (some none),
  fun K => xfB K (He.ga K "BadLot"),
  fun K => oexB K (He.ga K "NoStep"),
  fun K => He.eqO (PySem.W.findIn K (.ref (He.ga K "NoStep")) "__init__") (some (some (.ref (adP K ("NoStep", some "__init__"))))),
  fun K => decide (PySem.W.typeIn K (.ref (adP K ("NoStep", some "__init__"))) = some (.type "function")),
  fun K => He.eqO (PySem.W.findIn K (.ref (He.ga K "NoStep")) "at") (some none),
  fun K => xfB K (He.ga K "NoStep"),
  fun K => oexB K (He.ga K "TooLong"),
  fun K => He.eqO (PySem.W.findIn K (.ref (He.ga K "TooLong")) "__init__") (some (some (.ref (adP K ("TooLong", some "__init__"))))),
  fun K => decide (PySem.W.typeIn K (.ref (adP K ("TooLong", some "__init__"))) = some (.type "function")),
  fun K => He.eqO (PySem.W.findIn K (.ref (He.ga K "TooLong")) "number") (some none),
  fun K => xfB K (He.ga K "TooLong"),
  fun K => (He.Fa.exm "TreeError" "NoPlace" false).ok K,
  fun K => (He.Fa.exm "NoPlace" "NoPlace" true).ok K,
  fun K => (He.Fa.exm "BadLot" "NoPlace" false).ok K,
  fun K => (He.Fa.exm "NoStep" "NoPlace" false).ok K,
  fun K => (He.Fa.exm "TooLong" "NoPlace" false).ok K,
  fun K => (He.Fa.exm "TreeError" "NoStep" false).ok K,
  fun K => (He.Fa.exm "NoPlace" "NoStep" false).ok K,
  fun K => (He.Fa.exm "BadLot" "NoStep" false).ok K,
  fun K => (He.Fa.exm "NoStep" "NoStep" true).ok K,
  fun K => (He.Fa.exm "TooLong" "NoStep" false).ok K,
  fun K => (He.Fa.exm "TreeError" "TooLong" false).ok K,
  fun K => (He.Fa.exm "NoPlace" "TooLong" false).ok K,
  fun K => (He.Fa.exm "BadLot" "TooLong" false).ok K,
  fun K => (He.Fa.exm "NoStep" "TooLong" false).ok K,
  fun K => (He.Fa.exm "TooLong" "TooLong" true).ok K]
def ck (K : PySem.W.Frag) : Bool := cks.all fun f => f K
structure WF (K : PySem.W.Frag) (mg : Str → Option Value) : Prop where
  g_0 : mg "_wall" = some (.ref ((ft K).a 0))
  g_1 : mg "is_number" = some (.ref ((ft K).a 1))
  g_2 : mg "is_name" = some (.ref ((ft K).a 2))
  g_3 : mg "is_tree" = some (.ref ((ft K).a 3))
  g_4 : mg "size" = some (.ref ((ft K).a 4))
  g_5 : mg "levels_of" = some (.ref ((ft K).a 5))
  g_6 : mg "sign_of" = some (.ref ((ft K).a 6))
  g_7 : mg "ordered" = some (.ref ((ft K).a 7))
  g_8 : mg "parts" = some (.ref ((ft K).a 8))
  g_9 : mg "part_at" = some (.ref ((ft K).a 9))
  g_10 : mg "put" = some (.ref ((ft K).a 10))
  g_11 : mg "is_rule" = some (.ref ((ft K).a 11))
  g_12 : mg "parts_of" = some (.ref ((ft K).a 12))
  g_22 : mg "put_by" = some (.ref ((ft K).a 22))
  g_23 : mg "stepped" = some (.ref ((ft K).a 23))
  g_24 : mg "after" = some (.ref ((ft K).a 24))
  g_25 : mg "told_and_own" = some (.ref ((ft K).a 25))
  g_34 : mg "number_table" = some (.ref ((ft K).a 34))
  g_35 : mg "told_way" = some (.ref ((ft K).a 35))
  g_36 : mg "becomes" = some (.ref ((ft K).a 36))
  g_37 : mg "is_way" = some (.ref ((ft K).a 37))
  g_38 : mg "_law_feed" = some (.ref ((ft K).a 38))
  g_39 : mg "_law_take" = some (.ref ((ft K).a 39))
  g_40 : mg "_law_pick" = some (.ref ((ft K).a 40))
  g_41 : mg "_law_four" = some (.ref ((ft K).a 41))
  g_42 : mg "_law_told_so" = some (.ref ((ft K).a 42))
  g_43 : mg "law" = some (.ref ((ft K).a 43))
  f_abs : mg "abs" = none
  f_all : mg "all" = none
  f_bool : mg "bool" = none
  f_dict : mg "dict" = none
  f_enumerate : mg "enumerate" = none
  f_int : mg "int" = none
  f_isinstance : mg "isinstance" = none
  f_len : mg "len" = none
  f_list : mg "list" = none
  f_max : mg "max" = none
  f_sorted : mg "sorted" = none
  f_str : mg "str" = none
  f_sum : mg "sum" = none
  f_tuple : mg "tuple" = none
  f_zip : mg "zip" = none
  c_LETTERS : ∃ t, mg "LETTERS" = some (.str "abcdefghijklmnopqrstuvwxyz" t)
  c_MAX_NAME : ∃ t, mg "MAX_NAME" = some (.int 8 t)
  c_MAX_CHILDREN : ∃ t, mg "MAX_CHILDREN" = some (.int 4 t)
  c_MAX_RULES : ∃ t, mg "MAX_RULES" = some (.int 8 t)
  c_MAX_SIDE : ∃ t, mg "MAX_SIDE" = some (.int 6 t)
  c_MAX_LEVELS : ∃ t, mg "MAX_LEVELS" = some (.int 4 t)
  c_MAX_PARTS : ∃ t, mg "MAX_PARTS" = some (.int 24 t)
  c_MAX_WAY : ∃ t, mg "MAX_WAY" = some (.int 200 t)
  gx_BadLot : mg "BadLot" = some (.ref (He.ga K "BadLot"))
  gx_NoPlace : mg "NoPlace" = some (.ref (He.ga K "NoPlace"))
  gx_NoStep : mg "NoStep" = some (.ref (He.ga K "NoStep"))
  gx_TooLong : mg "TooLong" = some (.ref (He.ga K "TooLong"))
  gi_Lot : mg "Lot" = some (.ref (He.ga K "Lot"))
  isi_Lot : IsiC K (He.ga K "Lot")
  gc_Lot : mg "Lot" = some (.ref (He.ga K "Lot"))
  cls_Lot : Cls K (He.ga K "Lot")
  mk_Lot : Mk K (He.ga K "Lot") (adP K ("Lot", some "__init__"))
  gc_Table : mg "Table" = some (.ref (He.ga K "Table"))
  cls_Table : Cls K (He.ga K "Table")
  mk_Table : Mk K (He.ga K "Table") (adP K ("Table", some "__init__"))
  me___len___0 : Meth K (He.ga K "Lot") "__len__" (adP K ("Lot", some "__len__"))
  me_becomes_1 : Meth K (He.ga K "Table") "becomes" (adP K ("Table", some "becomes"))
  me_by_children_1 : Meth K (He.ga K "Table") "by_children" (adP K ("Table", some "by_children"))
  me_by_rule_1 : Meth K (He.ga K "Table") "by_rule" (adP K ("Table", some "by_rule"))
  me_look_at_children_1 : Meth K (He.ga K "Table") "look_at_children" (adP K ("Table", some "look_at_children"))
  me_look_through_rules_1 : Meth K (He.ga K "Table") "look_through_rules" (adP K ("Table", some "look_through_rules"))
  me_lower_1 : Meth K (He.ga K "Table") "lower" (adP K ("Table", some "lower"))
  me_rules_0 : Meth K (He.ga K "Lot") "rules" (adP K ("Lot", some "rules"))
  me_way_1 : Meth K (He.ga K "Table") "way" (adP K ("Table", some "way"))
  na_kept_0 : NoAttr K (He.ga K "Lot") "kept"
  na_least_1 : NoAttr K (He.ga K "Table") "least"
  na_like_1 : NoAttr K (He.ga K "Table") "like"
  na_some_1 : NoAttr K (He.ga K "Table") "some"
  na_used_1 : NoAttr K (He.ga K "Table") "used"
  ox_NoPlace : OexC K (He.ga K "NoPlace")
  ic_NoPlace : PySem.W.findIn K (.ref (He.ga K "NoPlace")) "__init__" = some (some (.ref (adP K ("NoPlace", some "__init__"))))
  ti_NoPlace : PySem.W.typeIn K (.ref (adP K ("NoPlace", some "__init__"))) = some (.type "function")
  no_NoPlace : PySem.W.findIn K (.ref (He.ga K "NoPlace")) "place" = some none
  xb_NoPlace : XfC K (He.ga K "NoPlace")
  ox_BadLot : OexC K (He.ga K "BadLot")
  ic_BadLot : PySem.W.findIn K (.ref (He.ga K "BadLot")) "__init__" = some (some (.ref (adP K ("BadLot", some "__init__"))))
  ti_BadLot : PySem.W.typeIn K (.ref (adP K ("BadLot", some "__init__"))) = some (.type "function")
  no_BadLot : PySem.W.findIn K (.ref (He.ga K "BadLot")) "number" = some none
  xb_BadLot : XfC K (He.ga K "BadLot")
  ox_NoStep : OexC K (He.ga K "NoStep")
  ic_NoStep : PySem.W.findIn K (.ref (He.ga K "NoStep")) "__init__" = some (some (.ref (adP K ("NoStep", some "__init__"))))
  ti_NoStep : PySem.W.typeIn K (.ref (adP K ("NoStep", some "__init__"))) = some (.type "function")
  no_NoStep : PySem.W.findIn K (.ref (He.ga K "NoStep")) "at" = some none
  xb_NoStep : XfC K (He.ga K "NoStep")
  ox_TooLong : OexC K (He.ga K "TooLong")
  ic_TooLong : PySem.W.findIn K (.ref (He.ga K "TooLong")) "__init__" = some (some (.ref (adP K ("TooLong", some "__init__"))))
  ti_TooLong : PySem.W.typeIn K (.ref (adP K ("TooLong", some "__init__"))) = some (.type "function")
  no_TooLong : PySem.W.findIn K (.ref (He.ga K "TooLong")) "number" = some none
  xb_TooLong : XfC K (He.ga K "TooLong")
  em_NoPlace_0 : PySem.W.exmOne K (.ref (He.ga K "TreeError")) (.ref (He.ga K "NoPlace")) = some false
  em_NoPlace_1 : PySem.W.exmOne K (.ref (He.ga K "NoPlace")) (.ref (He.ga K "NoPlace")) = some true
  em_NoPlace_2 : PySem.W.exmOne K (.ref (He.ga K "BadLot")) (.ref (He.ga K "NoPlace")) = some false
  em_NoPlace_3 : PySem.W.exmOne K (.ref (He.ga K "NoStep")) (.ref (He.ga K "NoPlace")) = some false
  em_NoPlace_4 : PySem.W.exmOne K (.ref (He.ga K "TooLong")) (.ref (He.ga K "NoPlace")) = some false
  em_NoStep_0 : PySem.W.exmOne K (.ref (He.ga K "TreeError")) (.ref (He.ga K "NoStep")) = some false
  em_NoStep_1 : PySem.W.exmOne K (.ref (He.ga K "NoPlace")) (.ref (He.ga K "NoStep")) = some false
  em_NoStep_2 : PySem.W.exmOne K (.ref (He.ga K "BadLot")) (.ref (He.ga K "NoStep")) = some false
  em_NoStep_3 : PySem.W.exmOne K (.ref (He.ga K "NoStep")) (.ref (He.ga K "NoStep")) = some true
  em_NoStep_4 : PySem.W.exmOne K (.ref (He.ga K "TooLong")) (.ref (He.ga K "NoStep")) = some false
  em_TooLong_0 : PySem.W.exmOne K (.ref (He.ga K "TreeError")) (.ref (He.ga K "TooLong")) = some false
  em_TooLong_1 : PySem.W.exmOne K (.ref (He.ga K "NoPlace")) (.ref (He.ga K "TooLong")) = some false
  em_TooLong_2 : PySem.W.exmOne K (.ref (He.ga K "BadLot")) (.ref (He.ga K "TooLong")) = some false
  em_TooLong_3 : PySem.W.exmOne K (.ref (He.ga K "NoStep")) (.ref (He.ga K "TooLong")) = some false
  em_TooLong_4 : PySem.W.exmOne K (.ref (He.ga K "TooLong")) (.ref (He.ga K "TooLong")) = some true
  d_0 : ∃ fd, FunD K "_wall" "_wall" (defArgs (top 0)) (defBody (top 0)) (defScope (top 0)) [] [] ((ft K).a 0) fd
  d_1 : ∃ fd, FunD K "is_number" "is_number" (defArgs (top 11)) (defBody (top 11)) (defScope (top 11)) [] [] ((ft K).a 1) fd
  d_2 : ∃ fd, FunD K "is_name" "is_name" (defArgs (top 12)) (defBody (top 12)) (defScope (top 12)) [] [] ((ft K).a 2) fd
  d_3 : ∃ fd, FunD K "is_tree" "is_tree" (defArgs (top 13)) (defBody (top 13)) (defScope (top 13)) [] [] ((ft K).a 3) fd
  d_4 : ∃ fd, FunD K "size" "size" (defArgs (top 14)) (defBody (top 14)) (defScope (top 14)) [] [] ((ft K).a 4) fd
  d_5 : ∃ fd, FunD K "levels_of" "levels_of" (defArgs (top 15)) (defBody (top 15)) (defScope (top 15)) [] [] ((ft K).a 5) fd
  d_6 : ∃ fd, FunD K "sign_of" "sign_of" (defArgs (top 16)) (defBody (top 16)) (defScope (top 16)) [] [] ((ft K).a 6) fd
  d_7 : ∃ fd, FunD K "ordered" "ordered" (defArgs (top 17)) (defBody (top 17)) (defScope (top 17)) [] [] ((ft K).a 7) fd
  d_8 : ∃ fd, FunD K "parts" "parts" (defArgs (top 18)) (defBody (top 18)) (defScope (top 18)) [] [] ((ft K).a 8) fd
  d_9 : ∃ fd, FunD K "part_at" "part_at" (defArgs (top 19)) (defBody (top 19)) (defScope (top 19)) [] [] ((ft K).a 9) fd
  d_10 : ∃ fd, FunD K "put" "put" (defArgs (top 20)) (defBody (top 20)) (defScope (top 20)) [] [] ((ft K).a 10) fd
  d_11 : ∃ fd, FunD K "is_rule" "is_rule" (defArgs (top 26)) (defBody (top 26)) (defScope (top 26)) [] [] ((ft K).a 11) fd
  d_12 : ∃ fd, FunD K "parts_of" "parts_of" (defArgs (top 27)) (defBody (top 27)) (defScope (top 27)) [] [] ((ft K).a 12) fd
  d_13 : ∃ fd, FunD K "__init__" "Lot.__init__" (defArgs (sub 28 0)) (defBody (sub 28 0)) (defScope (sub 28 0)) [] [] ((ft K).a 13) fd
  d_14 : ∃ fd, FunD K "rules" "Lot.rules" (defArgs (sub 28 1)) (defBody (sub 28 1)) (defScope (sub 28 1)) [] [] ((ft K).a 14) fd
  d_15 : ∃ fd, FunD K "parts" "Lot.parts" (defArgs (sub 28 2)) (defBody (sub 28 2)) (defScope (sub 28 2)) [] [] ((ft K).a 15) fd
  d_16 : ∃ fd, FunD K "__len__" "Lot.__len__" (defArgs (sub 28 3)) (defBody (sub 28 3)) (defScope (sub 28 3)) [] [] ((ft K).a 16) fd
  d_17 : ∃ fd, FunD K "__contains__" "Lot.__contains__" (defArgs (sub 28 4)) (defBody (sub 28 4)) (defScope (sub 28 4)) [] [] ((ft K).a 17) fd
  d_18 : ∃ fd, FunD K "__eq__" "Lot.__eq__" (defArgs (sub 28 5)) (defBody (sub 28 5)) (defScope (sub 28 5)) [] [] ((ft K).a 18) fd
  d_19 : ∃ fd, FunD K "__add__" "Lot.__add__" (defArgs (sub 28 6)) (defBody (sub 28 6)) (defScope (sub 28 6)) [] [] ((ft K).a 19) fd
  d_20 : ∃ fd, FunD K "turned" "Lot.turned" (defArgs (sub 28 7)) (defBody (sub 28 7)) (defScope (sub 28 7)) [] [] ((ft K).a 20) fd
  d_21 : ∃ fd, FunD K "without" "Lot.without" (defArgs (sub 28 8)) (defBody (sub 28 8)) (defScope (sub 28 8)) [] [] ((ft K).a 21) fd
  d_22 : ∃ fd, FunD K "put_by" "put_by" (defArgs (top 29)) (defBody (top 29)) (defScope (top 29)) [] [] ((ft K).a 22) fd
  d_23 : ∃ fd, FunD K "stepped" "stepped" (defArgs (top 30)) (defBody (top 30)) (defScope (top 30)) [] [] ((ft K).a 23) fd
  d_24 : ∃ fd, FunD K "after" "after" (defArgs (top 31)) (defBody (top 31)) (defScope (top 31)) [] [] ((ft K).a 24) fd
  d_25 : ∃ fd, FunD K "told_and_own" "told_and_own" (defArgs (top 34)) (defBody (top 34)) (defScope (top 34)) [] [] ((ft K).a 25) fd
  d_26 : ∃ fd, FunD K "__init__" "Table.__init__" (defArgs (sub 35 0)) (defBody (sub 35 0)) (defScope (sub 35 0)) [] [] ((ft K).a 26) fd
  d_27 : ∃ fd, FunD K "by_children" "Table.by_children" (defArgs (sub 35 1)) (defBody (sub 35 1)) (defScope (sub 35 1)) [] [] ((ft K).a 27) fd
  d_28 : ∃ fd, FunD K "lower" "Table.lower" (defArgs (sub 35 2)) (defBody (sub 35 2)) (defScope (sub 35 2)) [] [] ((ft K).a 28) fd
  d_29 : ∃ fd, FunD K "look_at_children" "Table.look_at_children" (defArgs (sub 35 3)) (defBody (sub 35 3)) (defScope (sub 35 3)) [] [] ((ft K).a 29) fd
  d_30 : ∃ fd, FunD K "look_through_rules" "Table.look_through_rules" (defArgs (sub 35 4)) (defBody (sub 35 4)) (defScope (sub 35 4)) [] [] ((ft K).a 30) fd
  d_31 : ∃ fd, FunD K "by_rule" "Table.by_rule" (defArgs (sub 35 5)) (defBody (sub 35 5)) (defScope (sub 35 5)) [] [] ((ft K).a 31) fd
  d_32 : ∃ fd, FunD K "becomes" "Table.becomes" (defArgs (sub 35 6)) (defBody (sub 35 6)) (defScope (sub 35 6)) [] [] ((ft K).a 32) fd
  d_33 : ∃ fd, FunD K "way" "Table.way" (defArgs (sub 35 7)) (defBody (sub 35 7)) (defScope (sub 35 7)) [] [] ((ft K).a 33) fd
  d_34 : ∃ fd, FunD K "number_table" "number_table" (defArgs (top 36)) (defBody (top 36)) (defScope (top 36)) [] [] ((ft K).a 34) fd
  d_35 : ∃ fd, FunD K "told_way" "told_way" (defArgs (top 37)) (defBody (top 37)) (defScope (top 37)) [] [] ((ft K).a 35) fd
  d_36 : ∃ fd, FunD K "becomes" "becomes" (defArgs (top 38)) (defBody (top 38)) (defScope (top 38)) [] [] ((ft K).a 36) fd
  d_37 : ∃ fd, FunD K "is_way" "is_way" (defArgs (top 39)) (defBody (top 39)) (defScope (top 39)) [] [] ((ft K).a 37) fd
  d_38 : ∃ fd, FunD K "_law_feed" "_law_feed" (defArgs (top 41)) (defBody (top 41)) (defScope (top 41)) [] [] ((ft K).a 38) fd
  d_39 : ∃ fd, FunD K "_law_take" "_law_take" (defArgs (top 42)) (defBody (top 42)) (defScope (top 42)) [] [] ((ft K).a 39) fd
  d_40 : ∃ fd, FunD K "_law_pick" "_law_pick" (defArgs (top 43)) (defBody (top 43)) (defScope (top 43)) [] [] ((ft K).a 40) fd
  d_41 : ∃ fd, FunD K "_law_four" "_law_four" (defArgs (top 44)) (defBody (top 44)) (defScope (top 44)) [] [] ((ft K).a 41) fd
  d_42 : ∃ fd, FunD K "_law_told_so" "_law_told_so" (defArgs (top 45)) (defBody (top 45)) (defScope (top 45)) [] [] ((ft K).a 42) fd
  d_43 : ∃ fd, FunD K "law" "law" (defArgs (top 46)) (defBody (top 46)) (defScope (top 46)) [] [] ((ft K).a 43) fd
  di_NoPlace : ∃ fd, FunD K "__init__" "NoPlace.__init__" (defArgs (sub 3 0)) (defBody (sub 3 0)) (defScope (sub 3 0)) [] [] (adP K ("NoPlace", some "__init__")) fd
  di_BadLot : ∃ fd, FunD K "__init__" "BadLot.__init__" (defArgs (sub 4 0)) (defBody (sub 4 0)) (defScope (sub 4 0)) [] [] (adP K ("BadLot", some "__init__")) fd
  di_NoStep : ∃ fd, FunD K "__init__" "NoStep.__init__" (defArgs (sub 5 0)) (defBody (sub 5 0)) (defScope (sub 5 0)) [] [] (adP K ("NoStep", some "__init__")) fd
  di_TooLong : ∃ fd, FunD K "__init__" "TooLong.__init__" (defArgs (sub 6 0)) (defBody (sub 6 0)) (defScope (sub 6 0)) [] [] (adP K ("TooLong", some "__init__")) fd
theorem wf {K : PySem.W.Frag} {h : Heap} {mg : Str → Option Value} (X : K.In h) (G : h.Ns mainGlobals mg) (c : SaysX ck fn K) : WF K mg := by
  have k : ∀ (i : Nat) (f : PySem.W.Frag → Bool), cks[i]? = some f → f K = true := fun i f h => List.all_eq_true.mp c.ck_ f (List.mem_of_getElem? h)
  exact {
    g_0 := He.glo_ok X G (k 0 _ rfl)
    g_1 := He.glo_ok X G (k 1 _ rfl)
    g_2 := He.glo_ok X G (k 2 _ rfl)
    g_3 := He.glo_ok X G (k 3 _ rfl)
    g_4 := He.glo_ok X G (k 4 _ rfl)
    g_5 := He.glo_ok X G (k 5 _ rfl)
    g_6 := He.glo_ok X G (k 6 _ rfl)
    g_7 := He.glo_ok X G (k 7 _ rfl)
    g_8 := He.glo_ok X G (k 8 _ rfl)
    g_9 := He.glo_ok X G (k 9 _ rfl)
    g_10 := He.glo_ok X G (k 10 _ rfl)
    g_11 := He.glo_ok X G (k 11 _ rfl)
    g_12 := He.glo_ok X G (k 12 _ rfl)
    g_22 := He.glo_ok X G (k 13 _ rfl)
    g_23 := He.glo_ok X G (k 14 _ rfl)
    g_24 := He.glo_ok X G (k 15 _ rfl)
    g_25 := He.glo_ok X G (k 16 _ rfl)
    g_34 := He.glo_ok X G (k 17 _ rfl)
    g_35 := He.glo_ok X G (k 18 _ rfl)
    g_36 := He.glo_ok X G (k 19 _ rfl)
    g_37 := He.glo_ok X G (k 20 _ rfl)
    g_38 := He.glo_ok X G (k 21 _ rfl)
    g_39 := He.glo_ok X G (k 22 _ rfl)
    g_40 := He.glo_ok X G (k 23 _ rfl)
    g_41 := He.glo_ok X G (k 24 _ rfl)
    g_42 := He.glo_ok X G (k 25 _ rfl)
    g_43 := He.glo_ok X G (k 26 _ rfl)
    f_abs := He.free_ok X G (k 27 _ rfl)
    f_all := He.free_ok X G (k 28 _ rfl)
    f_bool := He.free_ok X G (k 29 _ rfl)
    f_dict := He.free_ok X G (k 30 _ rfl)
    f_enumerate := He.free_ok X G (k 31 _ rfl)
    f_int := He.free_ok X G (k 32 _ rfl)
    f_isinstance := He.free_ok X G (k 33 _ rfl)
    f_len := He.free_ok X G (k 34 _ rfl)
    f_list := He.free_ok X G (k 35 _ rfl)
    f_max := He.free_ok X G (k 36 _ rfl)
    f_sorted := He.free_ok X G (k 37 _ rfl)
    f_str := He.free_ok X G (k 38 _ rfl)
    f_sum := He.free_ok X G (k 39 _ rfl)
    f_tuple := He.free_ok X G (k 40 _ rfl)
    f_zip := He.free_ok X G (k 41 _ rfl)
    c_LETTERS := He.str_ok X G (k 42 _ rfl)
    c_MAX_NAME := He.int_ok X G (k 43 _ rfl)
    c_MAX_CHILDREN := He.int_ok X G (k 44 _ rfl)
    c_MAX_RULES := He.int_ok X G (k 45 _ rfl)
    c_MAX_SIDE := He.int_ok X G (k 46 _ rfl)
    c_MAX_LEVELS := He.int_ok X G (k 47 _ rfl)
    c_MAX_PARTS := He.int_ok X G (k 48 _ rfl)
    c_MAX_WAY := He.int_ok X G (k 49 _ rfl)
    gx_BadLot := He.glo_ok X G (k 50 _ rfl)
    gx_NoPlace := He.glo_ok X G (k 51 _ rfl)
    gx_NoStep := He.glo_ok X G (k 52 _ rfl)
    gx_TooLong := He.glo_ok X G (k 53 _ rfl)
    gi_Lot := He.glo_ok X G (k 54 _ rfl)
    isi_Lot := isiB_ok (k 55 _ rfl)
    gc_Lot := He.glo_ok X G (k 56 _ rfl)
    cls_Lot := He.cls_ok (k 57 _ rfl)
    mk_Lot := mkB_ok (k 58 _ rfl)
    gc_Table := He.glo_ok X G (k 59 _ rfl)
    cls_Table := He.cls_ok (k 60 _ rfl)
    mk_Table := mkB_ok (k 61 _ rfl)
    me___len___0 := methB_ok (k 62 _ rfl)
    me_becomes_1 := methB_ok (k 63 _ rfl)
    me_by_children_1 := methB_ok (k 64 _ rfl)
    me_by_rule_1 := methB_ok (k 65 _ rfl)
    me_look_at_children_1 := methB_ok (k 66 _ rfl)
    me_look_through_rules_1 := methB_ok (k 67 _ rfl)
    me_lower_1 := methB_ok (k 68 _ rfl)
    me_rules_0 := methB_ok (k 69 _ rfl)
    me_way_1 := methB_ok (k 70 _ rfl)
    na_kept_0 := He.noat_ok (k 71 _ rfl)
    na_least_1 := He.noat_ok (k 72 _ rfl)
    na_like_1 := He.noat_ok (k 73 _ rfl)
    na_some_1 := He.noat_ok (k 74 _ rfl)
    na_used_1 := He.noat_ok (k 75 _ rfl)
    ox_NoPlace := oexB_ok (k 76 _ rfl)
    ic_NoPlace := He.eqO_ok (k 77 _ rfl)
    ti_NoPlace := of_decide_eq_true (k 78 _ rfl)
    no_NoPlace := He.eqO_ok (k 79 _ rfl)
    xb_NoPlace := xfB_ok (k 80 _ rfl)
    ox_BadLot := oexB_ok (k 81 _ rfl)
    ic_BadLot := He.eqO_ok (k 82 _ rfl)
    ti_BadLot := of_decide_eq_true (k 83 _ rfl)
    no_BadLot := He.eqO_ok (k 84 _ rfl)
    xb_BadLot := xfB_ok (k 85 _ rfl)
    ox_NoStep := oexB_ok (k 86 _ rfl)
    ic_NoStep := He.eqO_ok (k 87 _ rfl)
    ti_NoStep := of_decide_eq_true (k 88 _ rfl)
    no_NoStep := He.eqO_ok (k 89 _ rfl)
    xb_NoStep := xfB_ok (k 90 _ rfl)
    ox_TooLong := oexB_ok (k 91 _ rfl)
    ic_TooLong := He.eqO_ok (k 92 _ rfl)
    ti_TooLong := of_decide_eq_true (k 93 _ rfl)
    no_TooLong := He.eqO_ok (k 94 _ rfl)
    xb_TooLong := xfB_ok (k 95 _ rfl)
    em_NoPlace_0 := He.exm_ok (k 96 _ rfl)
    em_NoPlace_1 := He.exm_ok (k 97 _ rfl)
    em_NoPlace_2 := He.exm_ok (k 98 _ rfl)
    em_NoPlace_3 := He.exm_ok (k 99 _ rfl)
    em_NoPlace_4 := He.exm_ok (k 100 _ rfl)
    em_NoStep_0 := He.exm_ok (k 101 _ rfl)
    em_NoStep_1 := He.exm_ok (k 102 _ rfl)
    em_NoStep_2 := He.exm_ok (k 103 _ rfl)
    em_NoStep_3 := He.exm_ok (k 104 _ rfl)
    em_NoStep_4 := He.exm_ok (k 105 _ rfl)
    em_TooLong_0 := He.exm_ok (k 106 _ rfl)
    em_TooLong_1 := He.exm_ok (k 107 _ rfl)
    em_TooLong_2 := He.exm_ok (k 108 _ rfl)
    em_TooLong_3 := He.exm_ok (k 109 _ rfl)
    em_TooLong_4 := He.exm_ok (k 110 _ rfl)
    d_0 := c.def_ (i := 0) rfl
    d_1 := c.def_ (i := 1) rfl
    d_2 := c.def_ (i := 2) rfl
    d_3 := c.def_ (i := 3) rfl
    d_4 := c.def_ (i := 4) rfl
    d_5 := c.def_ (i := 5) rfl
    d_6 := c.def_ (i := 6) rfl
    d_7 := c.def_ (i := 7) rfl
    d_8 := c.def_ (i := 8) rfl
    d_9 := c.def_ (i := 9) rfl
    d_10 := c.def_ (i := 10) rfl
    d_11 := c.def_ (i := 11) rfl
    d_12 := c.def_ (i := 12) rfl
    d_13 := c.def_ (i := 13) rfl
    d_14 := c.def_ (i := 14) rfl
    d_15 := c.def_ (i := 15) rfl
    d_16 := c.def_ (i := 16) rfl
    d_17 := c.def_ (i := 17) rfl
    d_18 := c.def_ (i := 18) rfl
    d_19 := c.def_ (i := 19) rfl
    d_20 := c.def_ (i := 20) rfl
    d_21 := c.def_ (i := 21) rfl
    d_22 := c.def_ (i := 22) rfl
    d_23 := c.def_ (i := 23) rfl
    d_24 := c.def_ (i := 24) rfl
    d_25 := c.def_ (i := 25) rfl
    d_26 := c.def_ (i := 26) rfl
    d_27 := c.def_ (i := 27) rfl
    d_28 := c.def_ (i := 28) rfl
    d_29 := c.def_ (i := 29) rfl
    d_30 := c.def_ (i := 30) rfl
    d_31 := c.def_ (i := 31) rfl
    d_32 := c.def_ (i := 32) rfl
    d_33 := c.def_ (i := 33) rfl
    d_34 := c.def_ (i := 34) rfl
    d_35 := c.def_ (i := 35) rfl
    d_36 := c.def_ (i := 36) rfl
    d_37 := c.def_ (i := 37) rfl
    d_38 := c.def_ (i := 38) rfl
    d_39 := c.def_ (i := 39) rfl
    d_40 := c.def_ (i := 40) rfl
    d_41 := c.def_ (i := 41) rfl
    d_42 := c.def_ (i := 42) rfl
    d_43 := c.def_ (i := 43) rfl
    di_NoPlace := c.def_ (i := 44) rfl
    di_BadLot := c.def_ (i := 45) rfl
    di_NoStep := c.def_ (i := 46) rfl
    di_TooLong := c.def_ (i := 47) rfl }
section
variable {P : Program} {w : World} {K : PySem.W.Frag} {mg : Str → Option Value} {base : Heap} {n : Nat}
theorem nmsOk : Nms (gx P w K) := ⟨nm_inj (nms := nms) (k := 8) (by decide +kernel)⟩
theorem WF.v_abs (W : WF K mg) : bootBuiltins "abs" = some (.builtin "abs") := by decide +kernel
theorem WF.v_all (W : WF K mg) : bootBuiltins "all" = some (.builtin "all") := by decide +kernel
theorem WF.v_dict (W : WF K mg) : bootBuiltins "dict" = some (.type "dict") := by decide +kernel
theorem WF.v_int (W : WF K mg) : bootBuiltins "int" = some (.type "int") := by decide +kernel
theorem WF.v_len (W : WF K mg) : bootBuiltins "len" = some (.builtin "len") := by decide +kernel
theorem WF.v_list (W : WF K mg) : bootBuiltins "list" = some (.type "list") := by decide +kernel
theorem WF.v_max (W : WF K mg) : bootBuiltins "max" = some (.builtin "max") := by decide +kernel
theorem WF.v_sorted (W : WF K mg) : bootBuiltins "sorted" = some (.builtin "sorted") := by decide +kernel
theorem WF.v_sum (W : WF K mg) : bootBuiltins "sum" = some (.builtin "sum") := by decide +kernel
theorem WF.v_tuple (W : WF K mg) : bootBuiltins "tuple" = some (.type "tuple") := by decide +kernel
theorem WF.F_0 (W : WF K mg) : FunD K "_wall" "_wall" (defArgs (top 0)) (defBody (top 0)) (defScope (top 0)) [] [] ((ft K).a 0) ((ft K).fd 0) := fun_at W.d_0
theorem WF.k_0 (W : WF K mg) : PySem.W.keepIn K (.ref ((ft K).a 0)) = true := W.F_0.kp
theorem WF.b_0 (W : WF K mg) : Binds K ((ft K).fd 0) ((ft K).ps 0) [] := W.F_0.bindsN fun _ _ _ _ _ _ us hl => match us, hl with | [_], _ => rfl
theorem WF.F_1 (W : WF K mg) : FunD K "is_number" "is_number" (defArgs (top 11)) (defBody (top 11)) (defScope (top 11)) [] [] ((ft K).a 1) ((ft K).fd 1) := fun_at W.d_1
theorem WF.k_1 (W : WF K mg) : PySem.W.keepIn K (.ref ((ft K).a 1)) = true := W.F_1.kp
theorem WF.b_1 (W : WF K mg) : Binds K ((ft K).fd 1) ((ft K).ps 1) [] := W.F_1.bindsN fun _ _ _ _ _ _ us hl => match us, hl with | [_, _], _ => rfl
theorem WF.F_2 (W : WF K mg) : FunD K "is_name" "is_name" (defArgs (top 12)) (defBody (top 12)) (defScope (top 12)) [] [] ((ft K).a 2) ((ft K).fd 2) := fun_at W.d_2
theorem WF.k_2 (W : WF K mg) : PySem.W.keepIn K (.ref ((ft K).a 2)) = true := W.F_2.kp
theorem WF.b_2 (W : WF K mg) : Binds K ((ft K).fd 2) ((ft K).ps 2) [] := W.F_2.bindsN fun _ _ _ _ _ _ us hl => match us, hl with | [_], _ => rfl
theorem WF.F_3 (W : WF K mg) : FunD K "is_tree" "is_tree" (defArgs (top 13)) (defBody (top 13)) (defScope (top 13)) [] [] ((ft K).a 3) ((ft K).fd 3) := fun_at W.d_3
theorem WF.k_3 (W : WF K mg) : PySem.W.keepIn K (.ref ((ft K).a 3)) = true := W.F_3.kp
theorem WF.b_3 (W : WF K mg) : Binds K ((ft K).fd 3) ((ft K).ps 3) [] := W.F_3.bindsN fun _ _ _ _ _ _ us hl => match us, hl with | [_], _ => rfl
theorem WF.F_4 (W : WF K mg) : FunD K "size" "size" (defArgs (top 14)) (defBody (top 14)) (defScope (top 14)) [] [] ((ft K).a 4) ((ft K).fd 4) := fun_at W.d_4
theorem WF.k_4 (W : WF K mg) : PySem.W.keepIn K (.ref ((ft K).a 4)) = true := W.F_4.kp
theorem WF.b_4 (W : WF K mg) : Binds K ((ft K).fd 4) ((ft K).ps 4) [] := W.F_4.bindsN fun _ _ _ _ _ _ us hl => match us, hl with | [_], _ => rfl
theorem WF.F_5 (W : WF K mg) : FunD K "levels_of" "levels_of" (defArgs (top 15)) (defBody (top 15)) (defScope (top 15)) [] [] ((ft K).a 5) ((ft K).fd 5) := fun_at W.d_5
theorem WF.k_5 (W : WF K mg) : PySem.W.keepIn K (.ref ((ft K).a 5)) = true := W.F_5.kp
theorem WF.b_5 (W : WF K mg) : Binds K ((ft K).fd 5) ((ft K).ps 5) [] := W.F_5.bindsN fun _ _ _ _ _ _ us hl => match us, hl with | [_], _ => rfl
theorem WF.F_6 (W : WF K mg) : FunD K "sign_of" "sign_of" (defArgs (top 16)) (defBody (top 16)) (defScope (top 16)) [] [] ((ft K).a 6) ((ft K).fd 6) := fun_at W.d_6
theorem WF.k_6 (W : WF K mg) : PySem.W.keepIn K (.ref ((ft K).a 6)) = true := W.F_6.kp
theorem WF.b_6 (W : WF K mg) : Binds K ((ft K).fd 6) ((ft K).ps 6) [] := W.F_6.bindsN fun _ _ _ _ _ _ us hl => match us, hl with | [_], _ => rfl
theorem WF.F_7 (W : WF K mg) : FunD K "ordered" "ordered" (defArgs (top 17)) (defBody (top 17)) (defScope (top 17)) [] [] ((ft K).a 7) ((ft K).fd 7) := fun_at W.d_7
theorem WF.k_7 (W : WF K mg) : PySem.W.keepIn K (.ref ((ft K).a 7)) = true := W.F_7.kp
theorem WF.b_7 (W : WF K mg) : Binds K ((ft K).fd 7) ((ft K).ps 7) [] := W.F_7.bindsN fun _ _ _ _ _ _ us hl => match us, hl with | [_], _ => rfl
theorem WF.F_8 (W : WF K mg) : FunD K "parts" "parts" (defArgs (top 18)) (defBody (top 18)) (defScope (top 18)) [] [] ((ft K).a 8) ((ft K).fd 8) := fun_at W.d_8
theorem WF.k_8 (W : WF K mg) : PySem.W.keepIn K (.ref ((ft K).a 8)) = true := W.F_8.kp
theorem WF.b_8 (W : WF K mg) : Binds K ((ft K).fd 8) ((ft K).ps 8) [] := W.F_8.bindsN fun _ _ _ _ _ _ us hl => match us, hl with | [_], _ => rfl
theorem WF.F_9 (W : WF K mg) : FunD K "part_at" "part_at" (defArgs (top 19)) (defBody (top 19)) (defScope (top 19)) [] [] ((ft K).a 9) ((ft K).fd 9) := fun_at W.d_9
theorem WF.k_9 (W : WF K mg) : PySem.W.keepIn K (.ref ((ft K).a 9)) = true := W.F_9.kp
theorem WF.b_9 (W : WF K mg) : Binds K ((ft K).fd 9) ((ft K).ps 9) [] := W.F_9.bindsN fun _ _ _ _ _ _ us hl => match us, hl with | [_, _], _ => rfl
theorem WF.F_10 (W : WF K mg) : FunD K "put" "put" (defArgs (top 20)) (defBody (top 20)) (defScope (top 20)) [] [] ((ft K).a 10) ((ft K).fd 10) := fun_at W.d_10
theorem WF.k_10 (W : WF K mg) : PySem.W.keepIn K (.ref ((ft K).a 10)) = true := W.F_10.kp
theorem WF.b_10 (W : WF K mg) : Binds K ((ft K).fd 10) ((ft K).ps 10) [] := W.F_10.bindsN fun _ _ _ _ _ _ us hl => match us, hl with | [_, _, _], _ => rfl
theorem WF.F_11 (W : WF K mg) : FunD K "is_rule" "is_rule" (defArgs (top 26)) (defBody (top 26)) (defScope (top 26)) [] [] ((ft K).a 11) ((ft K).fd 11) := fun_at W.d_11
theorem WF.k_11 (W : WF K mg) : PySem.W.keepIn K (.ref ((ft K).a 11)) = true := W.F_11.kp
theorem WF.b_11 (W : WF K mg) : Binds K ((ft K).fd 11) ((ft K).ps 11) [] := W.F_11.bindsN fun _ _ _ _ _ _ us hl => match us, hl with | [_], _ => rfl
theorem WF.F_12 (W : WF K mg) : FunD K "parts_of" "parts_of" (defArgs (top 27)) (defBody (top 27)) (defScope (top 27)) [] [] ((ft K).a 12) ((ft K).fd 12) := fun_at W.d_12
theorem WF.k_12 (W : WF K mg) : PySem.W.keepIn K (.ref ((ft K).a 12)) = true := W.F_12.kp
theorem WF.b_12 (W : WF K mg) : Binds K ((ft K).fd 12) ((ft K).ps 12) [] := W.F_12.bindsN fun _ _ _ _ _ _ us hl => match us, hl with | [_], _ => rfl
theorem WF.F_13 (W : WF K mg) : FunD K "__init__" "Lot.__init__" (defArgs (sub 28 0)) (defBody (sub 28 0)) (defScope (sub 28 0)) [] [] ((ft K).a 13) ((ft K).fd 13) := fun_at W.d_13
theorem WF.k_13 (W : WF K mg) : PySem.W.keepIn K (.ref ((ft K).a 13)) = true := W.F_13.kp
theorem WF.b_13 (W : WF K mg) : Binds K ((ft K).fd 13) ((ft K).ps 13) [] := W.F_13.bindsN fun _ _ _ _ _ _ us hl => match us, hl with | [_, _], _ => rfl
theorem WF.F_14 (W : WF K mg) : FunD K "rules" "Lot.rules" (defArgs (sub 28 1)) (defBody (sub 28 1)) (defScope (sub 28 1)) [] [] ((ft K).a 14) ((ft K).fd 14) := fun_at W.d_14
theorem WF.k_14 (W : WF K mg) : PySem.W.keepIn K (.ref ((ft K).a 14)) = true := W.F_14.kp
theorem WF.b_14 (W : WF K mg) : Binds K ((ft K).fd 14) ((ft K).ps 14) [] := W.F_14.bindsN fun _ _ _ _ _ _ us hl => match us, hl with | [_], _ => rfl
theorem WF.F_15 (W : WF K mg) : FunD K "parts" "Lot.parts" (defArgs (sub 28 2)) (defBody (sub 28 2)) (defScope (sub 28 2)) [] [] ((ft K).a 15) ((ft K).fd 15) := fun_at W.d_15
theorem WF.k_15 (W : WF K mg) : PySem.W.keepIn K (.ref ((ft K).a 15)) = true := W.F_15.kp
theorem WF.b_15 (W : WF K mg) : Binds K ((ft K).fd 15) ((ft K).ps 15) [] := W.F_15.bindsN fun _ _ _ _ _ _ us hl => match us, hl with | [_], _ => rfl
theorem WF.F_16 (W : WF K mg) : FunD K "__len__" "Lot.__len__" (defArgs (sub 28 3)) (defBody (sub 28 3)) (defScope (sub 28 3)) [] [] ((ft K).a 16) ((ft K).fd 16) := fun_at W.d_16
theorem WF.k_16 (W : WF K mg) : PySem.W.keepIn K (.ref ((ft K).a 16)) = true := W.F_16.kp
theorem WF.b_16 (W : WF K mg) : Binds K ((ft K).fd 16) ((ft K).ps 16) [] := W.F_16.bindsN fun _ _ _ _ _ _ us hl => match us, hl with | [_], _ => rfl
theorem WF.F_17 (W : WF K mg) : FunD K "__contains__" "Lot.__contains__" (defArgs (sub 28 4)) (defBody (sub 28 4)) (defScope (sub 28 4)) [] [] ((ft K).a 17) ((ft K).fd 17) := fun_at W.d_17
theorem WF.k_17 (W : WF K mg) : PySem.W.keepIn K (.ref ((ft K).a 17)) = true := W.F_17.kp
theorem WF.b_17 (W : WF K mg) : Binds K ((ft K).fd 17) ((ft K).ps 17) [] := W.F_17.bindsN fun _ _ _ _ _ _ us hl => match us, hl with | [_, _], _ => rfl
theorem WF.F_18 (W : WF K mg) : FunD K "__eq__" "Lot.__eq__" (defArgs (sub 28 5)) (defBody (sub 28 5)) (defScope (sub 28 5)) [] [] ((ft K).a 18) ((ft K).fd 18) := fun_at W.d_18
theorem WF.k_18 (W : WF K mg) : PySem.W.keepIn K (.ref ((ft K).a 18)) = true := W.F_18.kp
theorem WF.b_18 (W : WF K mg) : Binds K ((ft K).fd 18) ((ft K).ps 18) [] := W.F_18.bindsN fun _ _ _ _ _ _ us hl => match us, hl with | [_, _], _ => rfl
theorem WF.F_19 (W : WF K mg) : FunD K "__add__" "Lot.__add__" (defArgs (sub 28 6)) (defBody (sub 28 6)) (defScope (sub 28 6)) [] [] ((ft K).a 19) ((ft K).fd 19) := fun_at W.d_19
theorem WF.k_19 (W : WF K mg) : PySem.W.keepIn K (.ref ((ft K).a 19)) = true := W.F_19.kp
theorem WF.b_19 (W : WF K mg) : Binds K ((ft K).fd 19) ((ft K).ps 19) [] := W.F_19.bindsN fun _ _ _ _ _ _ us hl => match us, hl with | [_, _], _ => rfl
theorem WF.F_20 (W : WF K mg) : FunD K "turned" "Lot.turned" (defArgs (sub 28 7)) (defBody (sub 28 7)) (defScope (sub 28 7)) [] [] ((ft K).a 20) ((ft K).fd 20) := fun_at W.d_20
theorem WF.k_20 (W : WF K mg) : PySem.W.keepIn K (.ref ((ft K).a 20)) = true := W.F_20.kp
theorem WF.b_20 (W : WF K mg) : Binds K ((ft K).fd 20) ((ft K).ps 20) [] := W.F_20.bindsN fun _ _ _ _ _ _ us hl => match us, hl with | [_], _ => rfl
theorem WF.F_21 (W : WF K mg) : FunD K "without" "Lot.without" (defArgs (sub 28 8)) (defBody (sub 28 8)) (defScope (sub 28 8)) [] [] ((ft K).a 21) ((ft K).fd 21) := fun_at W.d_21
theorem WF.k_21 (W : WF K mg) : PySem.W.keepIn K (.ref ((ft K).a 21)) = true := W.F_21.kp
theorem WF.b_21 (W : WF K mg) : Binds K ((ft K).fd 21) ((ft K).ps 21) [] := W.F_21.bindsN fun _ _ _ _ _ _ us hl => match us, hl with | [_, _], _ => rfl
theorem WF.F_22 (W : WF K mg) : FunD K "put_by" "put_by" (defArgs (top 29)) (defBody (top 29)) (defScope (top 29)) [] [] ((ft K).a 22) ((ft K).fd 22) := fun_at W.d_22
theorem WF.k_22 (W : WF K mg) : PySem.W.keepIn K (.ref ((ft K).a 22)) = true := W.F_22.kp
theorem WF.b_22 (W : WF K mg) : Binds K ((ft K).fd 22) ((ft K).ps 22) [] := W.F_22.bindsN fun _ _ _ _ _ _ us hl => match us, hl with | [_, _, _, _], _ => rfl
theorem WF.F_23 (W : WF K mg) : FunD K "stepped" "stepped" (defArgs (top 30)) (defBody (top 30)) (defScope (top 30)) [] [] ((ft K).a 23) ((ft K).fd 23) := fun_at W.d_23
theorem WF.k_23 (W : WF K mg) : PySem.W.keepIn K (.ref ((ft K).a 23)) = true := W.F_23.kp
theorem WF.b_23 (W : WF K mg) : Binds K ((ft K).fd 23) ((ft K).ps 23) [] := W.F_23.bindsN fun _ _ _ _ _ _ us hl => match us, hl with | [_, _, _], _ => rfl
theorem WF.F_24 (W : WF K mg) : FunD K "after" "after" (defArgs (top 31)) (defBody (top 31)) (defScope (top 31)) [] [] ((ft K).a 24) ((ft K).fd 24) := fun_at W.d_24
theorem WF.k_24 (W : WF K mg) : PySem.W.keepIn K (.ref ((ft K).a 24)) = true := W.F_24.kp
theorem WF.b_24 (W : WF K mg) : Binds K ((ft K).fd 24) ((ft K).ps 24) [] := W.F_24.bindsN fun _ _ _ _ _ _ us hl => match us, hl with | [_, _, _], _ => rfl
theorem WF.F_25 (W : WF K mg) : FunD K "told_and_own" "told_and_own" (defArgs (top 34)) (defBody (top 34)) (defScope (top 34)) [] [] ((ft K).a 25) ((ft K).fd 25) := fun_at W.d_25
theorem WF.k_25 (W : WF K mg) : PySem.W.keepIn K (.ref ((ft K).a 25)) = true := W.F_25.kp
theorem WF.b_25 (W : WF K mg) : Binds K ((ft K).fd 25) ((ft K).ps 25) [] := W.F_25.bindsN fun _ _ _ _ _ _ us hl => match us, hl with | [_, _], _ => rfl
theorem WF.F_26 (W : WF K mg) : FunD K "__init__" "Table.__init__" (defArgs (sub 35 0)) (defBody (sub 35 0)) (defScope (sub 35 0)) [] [] ((ft K).a 26) ((ft K).fd 26) := fun_at W.d_26
theorem WF.k_26 (W : WF K mg) : PySem.W.keepIn K (.ref ((ft K).a 26)) = true := W.F_26.kp
theorem WF.b_26 (W : WF K mg) : Binds K ((ft K).fd 26) ((ft K).ps 26) [] := W.F_26.bindsN fun _ _ _ _ _ _ us hl => match us, hl with | [_, _, _], _ => rfl
theorem WF.F_27 (W : WF K mg) : FunD K "by_children" "Table.by_children" (defArgs (sub 35 1)) (defBody (sub 35 1)) (defScope (sub 35 1)) [] [] ((ft K).a 27) ((ft K).fd 27) := fun_at W.d_27
theorem WF.k_27 (W : WF K mg) : PySem.W.keepIn K (.ref ((ft K).a 27)) = true := W.F_27.kp
theorem WF.b_27 (W : WF K mg) : Binds K ((ft K).fd 27) ((ft K).ps 27) [] := W.F_27.bindsN fun _ _ _ _ _ _ us hl => match us, hl with | [_, _, _], _ => rfl
theorem WF.F_28 (W : WF K mg) : FunD K "lower" "Table.lower" (defArgs (sub 35 2)) (defBody (sub 35 2)) (defScope (sub 35 2)) [] [] ((ft K).a 28) ((ft K).fd 28) := fun_at W.d_28
theorem WF.k_28 (W : WF K mg) : PySem.W.keepIn K (.ref ((ft K).a 28)) = true := W.F_28.kp
theorem WF.b_28 (W : WF K mg) : Binds K ((ft K).fd 28) ((ft K).ps 28) [] := W.F_28.bindsN fun _ _ _ _ _ _ us hl => match us, hl with | [_, _, _, _], _ => rfl
theorem WF.F_29 (W : WF K mg) : FunD K "look_at_children" "Table.look_at_children" (defArgs (sub 35 3)) (defBody (sub 35 3)) (defScope (sub 35 3)) [] [] ((ft K).a 29) ((ft K).fd 29) := fun_at W.d_29
theorem WF.k_29 (W : WF K mg) : PySem.W.keepIn K (.ref ((ft K).a 29)) = true := W.F_29.kp
theorem WF.b_29 (W : WF K mg) : Binds K ((ft K).fd 29) ((ft K).ps 29) [] := W.F_29.bindsN fun _ _ _ _ _ _ us hl => match us, hl with | [_], _ => rfl
theorem WF.F_30 (W : WF K mg) : FunD K "look_through_rules" "Table.look_through_rules" (defArgs (sub 35 4)) (defBody (sub 35 4)) (defScope (sub 35 4)) [] [] ((ft K).a 30) ((ft K).fd 30) := fun_at W.d_30
theorem WF.k_30 (W : WF K mg) : PySem.W.keepIn K (.ref ((ft K).a 30)) = true := W.F_30.kp
theorem WF.b_30 (W : WF K mg) : Binds K ((ft K).fd 30) ((ft K).ps 30) [] := W.F_30.bindsN fun _ _ _ _ _ _ us hl => match us, hl with | [_], _ => rfl
theorem WF.F_31 (W : WF K mg) : FunD K "by_rule" "Table.by_rule" (defArgs (sub 35 5)) (defBody (sub 35 5)) (defScope (sub 35 5)) [] [] ((ft K).a 31) ((ft K).fd 31) := fun_at W.d_31
theorem WF.k_31 (W : WF K mg) : PySem.W.keepIn K (.ref ((ft K).a 31)) = true := W.F_31.kp
theorem WF.b_31 (W : WF K mg) : Binds K ((ft K).fd 31) ((ft K).ps 31) [] := W.F_31.bindsN fun _ _ _ _ _ _ us hl => match us, hl with | [_, _, _, _, _], _ => rfl
theorem WF.F_32 (W : WF K mg) : FunD K "becomes" "Table.becomes" (defArgs (sub 35 6)) (defBody (sub 35 6)) (defScope (sub 35 6)) [] [] ((ft K).a 32) ((ft K).fd 32) := fun_at W.d_32
theorem WF.k_32 (W : WF K mg) : PySem.W.keepIn K (.ref ((ft K).a 32)) = true := W.F_32.kp
theorem WF.b_32 (W : WF K mg) : Binds K ((ft K).fd 32) ((ft K).ps 32) [] := W.F_32.bindsN fun _ _ _ _ _ _ us hl => match us, hl with | [_, _, _], _ => rfl
theorem WF.F_33 (W : WF K mg) : FunD K "way" "Table.way" (defArgs (sub 35 7)) (defBody (sub 35 7)) (defScope (sub 35 7)) [] [] ((ft K).a 33) ((ft K).fd 33) := fun_at W.d_33
theorem WF.k_33 (W : WF K mg) : PySem.W.keepIn K (.ref ((ft K).a 33)) = true := W.F_33.kp
theorem WF.b_33 (W : WF K mg) : Binds K ((ft K).fd 33) ((ft K).ps 33) [] := W.F_33.bindsN fun _ _ _ _ _ _ us hl => match us, hl with | [_, _, _], _ => rfl
theorem WF.F_34 (W : WF K mg) : FunD K "number_table" "number_table" (defArgs (top 36)) (defBody (top 36)) (defScope (top 36)) [] [] ((ft K).a 34) ((ft K).fd 34) := fun_at W.d_34
theorem WF.k_34 (W : WF K mg) : PySem.W.keepIn K (.ref ((ft K).a 34)) = true := W.F_34.kp
theorem WF.b_34 (W : WF K mg) : Binds K ((ft K).fd 34) ((ft K).ps 34) [] := W.F_34.bindsN fun _ _ _ _ _ _ us hl => match us, hl with | [_, _, _], _ => rfl
theorem WF.F_35 (W : WF K mg) : FunD K "told_way" "told_way" (defArgs (top 37)) (defBody (top 37)) (defScope (top 37)) [] [] ((ft K).a 35) ((ft K).fd 35) := fun_at W.d_35
theorem WF.k_35 (W : WF K mg) : PySem.W.keepIn K (.ref ((ft K).a 35)) = true := W.F_35.kp
theorem WF.b_35 (W : WF K mg) : Binds K ((ft K).fd 35) ((ft K).ps 35) [] := W.F_35.bindsN fun _ _ _ _ _ _ us hl => match us, hl with | [_, _, _], _ => rfl
theorem WF.F_36 (W : WF K mg) : FunD K "becomes" "becomes" (defArgs (top 38)) (defBody (top 38)) (defScope (top 38)) [] [] ((ft K).a 36) ((ft K).fd 36) := fun_at W.d_36
theorem WF.k_36 (W : WF K mg) : PySem.W.keepIn K (.ref ((ft K).a 36)) = true := W.F_36.kp
theorem WF.b_36 (W : WF K mg) : Binds K ((ft K).fd 36) ((ft K).ps 36) [] := W.F_36.bindsN fun _ _ _ _ _ _ us hl => match us, hl with | [_, _, _], _ => rfl
theorem WF.F_37 (W : WF K mg) : FunD K "is_way" "is_way" (defArgs (top 39)) (defBody (top 39)) (defScope (top 39)) [] [] ((ft K).a 37) ((ft K).fd 37) := fun_at W.d_37
theorem WF.k_37 (W : WF K mg) : PySem.W.keepIn K (.ref ((ft K).a 37)) = true := W.F_37.kp
theorem WF.b_37 (W : WF K mg) : Binds K ((ft K).fd 37) ((ft K).ps 37) [] := W.F_37.bindsN fun _ _ _ _ _ _ us hl => match us, hl with | [_, _, _, _], _ => rfl
theorem WF.F_38 (W : WF K mg) : FunD K "_law_feed" "_law_feed" (defArgs (top 41)) (defBody (top 41)) (defScope (top 41)) [] [] ((ft K).a 38) ((ft K).fd 38) := fun_at W.d_38
theorem WF.k_38 (W : WF K mg) : PySem.W.keepIn K (.ref ((ft K).a 38)) = true := W.F_38.kp
theorem WF.b_38 (W : WF K mg) : Binds K ((ft K).fd 38) ((ft K).ps 38) [] := W.F_38.bindsN fun _ _ _ _ _ _ us hl => match us, hl with | [_, _], _ => rfl
theorem WF.F_39 (W : WF K mg) : FunD K "_law_take" "_law_take" (defArgs (top 42)) (defBody (top 42)) (defScope (top 42)) [] [] ((ft K).a 39) ((ft K).fd 39) := fun_at W.d_39
theorem WF.k_39 (W : WF K mg) : PySem.W.keepIn K (.ref ((ft K).a 39)) = true := W.F_39.kp
theorem WF.b_39 (W : WF K mg) : Binds K ((ft K).fd 39) ((ft K).ps 39) [] := W.F_39.bindsN fun _ _ _ _ _ _ us hl => match us, hl with | [_, _], _ => rfl
theorem WF.F_40 (W : WF K mg) : FunD K "_law_pick" "_law_pick" (defArgs (top 43)) (defBody (top 43)) (defScope (top 43)) [] [] ((ft K).a 40) ((ft K).fd 40) := fun_at W.d_40
theorem WF.k_40 (W : WF K mg) : PySem.W.keepIn K (.ref ((ft K).a 40)) = true := W.F_40.kp
theorem WF.b_40 (W : WF K mg) : Binds K ((ft K).fd 40) ((ft K).ps 40) [] := W.F_40.bindsN fun _ _ _ _ _ _ us hl => match us, hl with | [_, _], _ => rfl
theorem WF.F_41 (W : WF K mg) : FunD K "_law_four" "_law_four" (defArgs (top 44)) (defBody (top 44)) (defScope (top 44)) [] [] ((ft K).a 41) ((ft K).fd 41) := fun_at W.d_41
theorem WF.k_41 (W : WF K mg) : PySem.W.keepIn K (.ref ((ft K).a 41)) = true := W.F_41.kp
theorem WF.b_41 (W : WF K mg) : Binds K ((ft K).fd 41) ((ft K).ps 41) [] := W.F_41.bindsN fun _ _ _ _ _ _ us hl => match us, hl with | [_, _], _ => rfl
theorem WF.F_42 (W : WF K mg) : FunD K "_law_told_so" "_law_told_so" (defArgs (top 45)) (defBody (top 45)) (defScope (top 45)) [] [] ((ft K).a 42) ((ft K).fd 42) := fun_at W.d_42
theorem WF.k_42 (W : WF K mg) : PySem.W.keepIn K (.ref ((ft K).a 42)) = true := W.F_42.kp
theorem WF.b_42 (W : WF K mg) : Binds K ((ft K).fd 42) ((ft K).ps 42) [] := W.F_42.bindsN fun _ _ _ _ _ _ us hl => match us, hl with | [_, _, _], _ => rfl
theorem WF.F_43 (W : WF K mg) : FunD K "law" "law" (defArgs (top 46)) (defBody (top 46)) (defScope (top 46)) [] [] ((ft K).a 43) ((ft K).fd 43) := fun_at W.d_43
theorem WF.k_43 (W : WF K mg) : PySem.W.keepIn K (.ref ((ft K).a 43)) = true := W.F_43.kp
theorem WF.b_43 (W : WF K mg) : Binds K ((ft K).fd 43) ((ft K).ps 43) [] := W.F_43.bindsN fun _ _ _ _ _ _ us hl => match us, hl with | [_], _ => rfl
theorem WF.mt___len__ (W : WF K mg) {X : Cx} (hK : X.K = K := by rfl) : MtOk X (gx P w K) (ft K) 44 tb.meth 2 "__len__" := by
  subst hK
  have this : ∀ i, i < 8 → nms.getD i "" ≠ "__len__" := by decide
  exact ⟨fun c f h => (match c, h with
    | 0, h => (by have e : some 16 = some f := h; cases e; exact ⟨by decide, W.me___len___0, W.b_16⟩)
    | 1, h => (by have e : (Option.none : Option Nat) = some f := h; cases e)
    | _ + 2, h => (by have e : (Option.none : Option Nat) = some f := h; cases e)), fun i hi => this i hi⟩
theorem WF.mt_becomes (W : WF K mg) {X : Cx} (hK : X.K = K := by rfl) : MtOk X (gx P w K) (ft K) 44 tb.meth 13 "becomes" := by
  subst hK
  have this : ∀ i, i < 8 → nms.getD i "" ≠ "becomes" := by decide
  exact ⟨fun c f h => (match c, h with
    | 0, h => (by have e : (Option.none : Option Nat) = some f := h; cases e)
    | 1, h => (by have e : some 32 = some f := h; cases e; exact ⟨by decide, W.me_becomes_1, W.b_32⟩)
    | _ + 2, h => (by have e : (Option.none : Option Nat) = some f := h; cases e)), fun i hi => this i hi⟩
theorem WF.mt_by_children (W : WF K mg) {X : Cx} (hK : X.K = K := by rfl) : MtOk X (gx P w K) (ft K) 44 tb.meth 8 "by_children" := by
  subst hK
  have this : ∀ i, i < 8 → nms.getD i "" ≠ "by_children" := by decide
  exact ⟨fun c f h => (match c, h with
    | 0, h => (by have e : (Option.none : Option Nat) = some f := h; cases e)
    | 1, h => (by have e : some 27 = some f := h; cases e; exact ⟨by decide, W.me_by_children_1, W.b_27⟩)
    | _ + 2, h => (by have e : (Option.none : Option Nat) = some f := h; cases e)), fun i hi => this i hi⟩
theorem WF.mt_by_rule (W : WF K mg) {X : Cx} (hK : X.K = K := by rfl) : MtOk X (gx P w K) (ft K) 44 tb.meth 12 "by_rule" := by
  subst hK
  have this : ∀ i, i < 8 → nms.getD i "" ≠ "by_rule" := by decide
  exact ⟨fun c f h => (match c, h with
    | 0, h => (by have e : (Option.none : Option Nat) = some f := h; cases e)
    | 1, h => (by have e : some 31 = some f := h; cases e; exact ⟨by decide, W.me_by_rule_1, W.b_31⟩)
    | _ + 2, h => (by have e : (Option.none : Option Nat) = some f := h; cases e)), fun i hi => this i hi⟩
theorem WF.mt_look_at_children (W : WF K mg) {X : Cx} (hK : X.K = K := by rfl) : MtOk X (gx P w K) (ft K) 44 tb.meth 10 "look_at_children" := by
  subst hK
  have this : ∀ i, i < 8 → nms.getD i "" ≠ "look_at_children" := by decide
  exact ⟨fun c f h => (match c, h with
    | 0, h => (by have e : (Option.none : Option Nat) = some f := h; cases e)
    | 1, h => (by have e : some 29 = some f := h; cases e; exact ⟨by decide, W.me_look_at_children_1, W.b_29⟩)
    | _ + 2, h => (by have e : (Option.none : Option Nat) = some f := h; cases e)), fun i hi => this i hi⟩
theorem WF.mt_look_through_rules (W : WF K mg) {X : Cx} (hK : X.K = K := by rfl) : MtOk X (gx P w K) (ft K) 44 tb.meth 11 "look_through_rules" := by
  subst hK
  have this : ∀ i, i < 8 → nms.getD i "" ≠ "look_through_rules" := by decide
  exact ⟨fun c f h => (match c, h with
    | 0, h => (by have e : (Option.none : Option Nat) = some f := h; cases e)
    | 1, h => (by have e : some 30 = some f := h; cases e; exact ⟨by decide, W.me_look_through_rules_1, W.b_30⟩)
    | _ + 2, h => (by have e : (Option.none : Option Nat) = some f := h; cases e)), fun i hi => this i hi⟩
theorem WF.mt_lower (W : WF K mg) {X : Cx} (hK : X.K = K := by rfl) : MtOk X (gx P w K) (ft K) 44 tb.meth 9 "lower" := by
  subst hK
  have this : ∀ i, i < 8 → nms.getD i "" ≠ "lower" := by decide
  exact ⟨fun c f h => (match c, h with
    | 0, h => (by have e : (Option.none : Option Nat) = some f := h; cases e)
    | 1, h => (by have e : some 28 = some f := h; cases e; exact ⟨by decide, W.me_lower_1, W.b_28⟩)
    | _ + 2, h => (by have e : (Option.none : Option Nat) = some f := h; cases e)), fun i hi => this i hi⟩
theorem WF.mt_rules (W : WF K mg) {X : Cx} (hK : X.K = K := by rfl) : MtOk X (gx P w K) (ft K) 44 tb.meth 0 "rules" := by
  subst hK
  have this : ∀ i, i < 8 → nms.getD i "" ≠ "rules" := by decide
  exact ⟨fun c f h => (match c, h with
    | 0, h => (by have e : some 14 = some f := h; cases e; exact ⟨by decide, W.me_rules_0, W.b_14⟩)
    | 1, h => (by have e : (Option.none : Option Nat) = some f := h; cases e)
    | _ + 2, h => (by have e : (Option.none : Option Nat) = some f := h; cases e)), fun i hi => this i hi⟩
theorem WF.mt_way (W : WF K mg) {X : Cx} (hK : X.K = K := by rfl) : MtOk X (gx P w K) (ft K) 44 tb.meth 14 "way" := by
  subst hK
  have this : ∀ i, i < 8 → nms.getD i "" ≠ "way" := by decide
  exact ⟨fun c f h => (match c, h with
    | 0, h => (by have e : (Option.none : Option Nat) = some f := h; cases e)
    | 1, h => (by have e : some 33 = some f := h; cases e; exact ⟨by decide, W.me_way_1, W.b_33⟩)
    | _ + 2, h => (by have e : (Option.none : Option Nat) = some f := h; cases e)), fun i hi => this i hi⟩
theorem WF.ty_Lot (W : WF K mg) : TyOk K (gx P w K) (aOwn 0) (.ref (He.ga K "Lot")) := ty_own (g := gx P w K) (k := 0) W.isi_Lot
theorem WF.fl_kept (W : WF K mg) : ∀ c, tb.fld c 3 = true → FldOk (gx P w K) c 3 := fun c h => match c, h with
  | 0, h => ⟨by show _ < 8; decide, W.na_kept_0⟩
  | 1, h => (by have e : false = true := h; cases e)
  | _ + 2, h => (by have e : false = true := h; cases e)
theorem WF.fl_least (W : WF K mg) : ∀ c, tb.fld c 7 = true → FldOk (gx P w K) c 7 := fun c h => match c, h with
  | 0, h => (by have e : false = true := h; cases e)
  | 1, h => ⟨by show _ < 8; decide, W.na_least_1⟩
  | _ + 2, h => (by have e : false = true := h; cases e)
theorem WF.fl_like (W : WF K mg) : ∀ c, tb.fld c 6 = true → FldOk (gx P w K) c 6 := fun c h => match c, h with
  | 0, h => (by have e : false = true := h; cases e)
  | 1, h => ⟨by show _ < 8; decide, W.na_like_1⟩
  | _ + 2, h => (by have e : false = true := h; cases e)
theorem WF.fl_some (W : WF K mg) : ∀ c, tb.fld c 5 = true → FldOk (gx P w K) c 5 := fun c h => match c, h with
  | 0, h => (by have e : false = true := h; cases e)
  | 1, h => ⟨by show _ < 8; decide, W.na_some_1⟩
  | _ + 2, h => (by have e : false = true := h; cases e)
theorem WF.fl_used (W : WF K mg) : ∀ c, tb.fld c 4 = true → FldOk (gx P w K) c 4 := fun c h => match c, h with
  | 0, h => (by have e : false = true := h; cases e)
  | 1, h => ⟨by show _ < 8; decide, W.na_used_1⟩
  | _ + 2, h => (by have e : false = true := h; cases e)
theorem WF.I_NoPlace (W : WF K mg) : FunD K "__init__" "NoPlace.__init__" (defArgs (sub 3 0)) (defBody (sub 3 0)) (defScope (sub 3 0)) [] [] (adP K ("NoPlace", some "__init__")) (fdAt K (adP K ("NoPlace", some "__init__"))) := fun_at W.di_NoPlace
theorem WF.bi_NoPlace (W : WF K mg) : Binds K (fdAt K (adP K ("NoPlace", some "__init__"))) ["self", "place"] [] := W.I_NoPlace.bindsN fun _ _ _ _ _ _ us hl => match us, hl with | [_, _], _ => rfl
theorem WF.fi_NoPlace (W : WF K mg) : FnOk P w K mg base (L2.CX P w) 1 (adP K ("NoPlace", some "__init__")) (fdAt K (adP K ("NoPlace", some "__init__"))) ["self", "place"] (spX K "place") := x_initD W.I_NoPlace ⟨rfl, rfl, rfl, by decide +kernel, rfl, by decide +kernel, by decide +kernel⟩ (vis_of rfl) (vis_of rfl) rfl rfl rfl rfl
theorem WF.I_BadLot (W : WF K mg) : FunD K "__init__" "BadLot.__init__" (defArgs (sub 4 0)) (defBody (sub 4 0)) (defScope (sub 4 0)) [] [] (adP K ("BadLot", some "__init__")) (fdAt K (adP K ("BadLot", some "__init__"))) := fun_at W.di_BadLot
theorem WF.bi_BadLot (W : WF K mg) : Binds K (fdAt K (adP K ("BadLot", some "__init__"))) ["self", "number"] [] := W.I_BadLot.bindsN fun _ _ _ _ _ _ us hl => match us, hl with | [_, _], _ => rfl
theorem WF.fi_BadLot (W : WF K mg) : FnOk P w K mg base (L2.CX P w) 1 (adP K ("BadLot", some "__init__")) (fdAt K (adP K ("BadLot", some "__init__"))) ["self", "number"] (spX K "number") := x_initD W.I_BadLot ⟨rfl, rfl, rfl, by decide +kernel, rfl, by decide +kernel, by decide +kernel⟩ (vis_of rfl) (vis_of rfl) rfl rfl rfl rfl
theorem WF.I_NoStep (W : WF K mg) : FunD K "__init__" "NoStep.__init__" (defArgs (sub 5 0)) (defBody (sub 5 0)) (defScope (sub 5 0)) [] [] (adP K ("NoStep", some "__init__")) (fdAt K (adP K ("NoStep", some "__init__"))) := fun_at W.di_NoStep
theorem WF.bi_NoStep (W : WF K mg) : Binds K (fdAt K (adP K ("NoStep", some "__init__"))) ["self", "at"] [] := W.I_NoStep.bindsN fun _ _ _ _ _ _ us hl => match us, hl with | [_, _], _ => rfl
theorem WF.fi_NoStep (W : WF K mg) : FnOk P w K mg base (L2.CX P w) 1 (adP K ("NoStep", some "__init__")) (fdAt K (adP K ("NoStep", some "__init__"))) ["self", "at"] (spX K "at") := x_initD W.I_NoStep ⟨rfl, rfl, rfl, by decide +kernel, rfl, by decide +kernel, by decide +kernel⟩ (vis_of rfl) (vis_of rfl) rfl rfl rfl rfl
theorem WF.I_TooLong (W : WF K mg) : FunD K "__init__" "TooLong.__init__" (defArgs (sub 6 0)) (defBody (sub 6 0)) (defScope (sub 6 0)) [] [] (adP K ("TooLong", some "__init__")) (fdAt K (adP K ("TooLong", some "__init__"))) := fun_at W.di_TooLong
theorem WF.bi_TooLong (W : WF K mg) : Binds K (fdAt K (adP K ("TooLong", some "__init__"))) ["self", "number"] [] := W.I_TooLong.bindsN fun _ _ _ _ _ _ us hl => match us, hl with | [_, _], _ => rfl
theorem WF.fi_TooLong (W : WF K mg) : FnOk P w K mg base (L2.CX P w) 1 (adP K ("TooLong", some "__init__")) (fdAt K (adP K ("TooLong", some "__init__"))) ["self", "number"] (spX K "number") := x_initD W.I_TooLong ⟨rfl, rfl, rfl, by decide +kernel, rfl, by decide +kernel, by decide +kernel⟩ (vis_of rfl) (vis_of rfl) rfl rfl rfl rfl
theorem WF.cl_NoPlace (W : WF K mg) : ClOk K (gx P w K) (.ref (He.ga K "NoPlace")) [1] [0, 2, 3, 4] := ⟨fun c hc => by rw [List.mem_singleton.mp hc]; exact W.em_NoPlace_1, fun c hc => by simp at hc; rcases hc with rfl | rfl | rfl | rfl <;> first | exact W.em_NoPlace_0 | exact W.em_NoPlace_2 | exact W.em_NoPlace_3 | exact W.em_NoPlace_4⟩
theorem WF.xn_NoPlace (W : WF K mg) : ∀ c ∈ ([1] : List Nat), XfC K ((gx P w K).xc c) ∧ PySem.W.findIn K (.ref ((gx P w K).xc c)) "place" = some none := fun c hc => by rw [List.mem_singleton.mp hc]; exact ⟨W.xb_NoPlace, W.no_NoPlace⟩
theorem WF.cl_NoStep (W : WF K mg) : ClOk K (gx P w K) (.ref (He.ga K "NoStep")) [3] [0, 1, 2, 4] := ⟨fun c hc => by rw [List.mem_singleton.mp hc]; exact W.em_NoStep_3, fun c hc => by simp at hc; rcases hc with rfl | rfl | rfl | rfl <;> first | exact W.em_NoStep_0 | exact W.em_NoStep_1 | exact W.em_NoStep_2 | exact W.em_NoStep_4⟩
theorem WF.xn_NoStep (W : WF K mg) : ∀ c ∈ ([3] : List Nat), XfC K ((gx P w K).xc c) ∧ PySem.W.findIn K (.ref ((gx P w K).xc c)) "at" = some none := fun c hc => by rw [List.mem_singleton.mp hc]; exact ⟨W.xb_NoStep, W.no_NoStep⟩
theorem WF.cl_TooLong (W : WF K mg) : ClOk K (gx P w K) (.ref (He.ga K "TooLong")) [4] [0, 1, 2, 3] := ⟨fun c hc => by rw [List.mem_singleton.mp hc]; exact W.em_TooLong_4, fun c hc => by simp at hc; rcases hc with rfl | rfl | rfl | rfl <;> first | exact W.em_TooLong_0 | exact W.em_TooLong_1 | exact W.em_TooLong_2 | exact W.em_TooLong_3⟩
theorem WF.xn_TooLong (W : WF K mg) : ∀ c ∈ ([4] : List Nat), XfC K ((gx P w K).xc c) ∧ PySem.W.findIn K (.ref ((gx P w K).xc c)) "number" = some none := fun c hc => by rw [List.mem_singleton.mp hc]; exact ⟨W.xb_TooLong, W.no_TooLong⟩
def N_0 : List Str := ["k"]
theorem p_0 (W : WF K mg) (ih : AllOk P w K mg base (gx P w K) tb (ft K) 44 n) (cdv : Value) (A : Around) (outer : List PySem.Env) (s : Shared) (H : Hp) (E : XK) (hr0 : Rb n (A.deeper (envOfC "_wall" (defScope (top 0)) s.heap.objs.size ((ft K).a 0) cdv))) :
    PSs (cxOf (L2.CX P w) P w K mg base N_0 "_wall" (defScope (top 0)) ((ft K).a 0) cdv A outer s H E) (defBody (top 0)) (tS (gx P w K) (orcN tb n) (fun c d _ H => E c d H) c_0) := by
  have R : Rn (cxOf (L2.CX P w) P w K mg base N_0 "_wall" (defScope (top 0)) ((ft K).a 0) cdv A outer s H E) (gx P w K) (orcN tb n) tb (ft K) 44 n (fun c d _ H => E c d H) := Rn.fn rfl rfl rfl (by decide +kernel) hr0 ih
  have hu := G.hu_of R.room
  have hu5 := G.hu5_of R.room
  exact ss_cons (s_stuck) (ss_nil)
theorem ok_0 (W : WF K mg) (ih : AllOk P w K mg base (gx P w K) tb (ft K) 44 n) : FnG P w K mg base (n + 1) ((ft K).a 0) ((ft K).fd 0) ((ft K).ps 0) (spG (gx P w K) tb (n + 1) 0) :=
  fn_okD (N := N_0) (ps := ["k"]) W.F_0 ⟨rfl, rfl, rfl, by decide +kernel, rfl, by decide +kernel, by decide +kernel⟩ rfl rfl (p_0 W ih)
def N_1 : List Str := ["value", "below"]
theorem p_1 (W : WF K mg) (ih : AllOk P w K mg base (gx P w K) tb (ft K) 44 n) (cdv : Value) (A : Around) (outer : List PySem.Env) (s : Shared) (H : Hp) (E : XK) (hr0 : Rb n (A.deeper (envOfC "is_number" (defScope (top 11)) s.heap.objs.size ((ft K).a 1) cdv))) :
    PSs (cxOf (L2.CX P w) P w K mg base N_1 "is_number" (defScope (top 11)) ((ft K).a 1) cdv A outer s H E) (defBody (top 11)) (tS (gx P w K) (orcN tb n) (fun c d _ H => E c d H) c_1) := by
  have R : Rn (cxOf (L2.CX P w) P w K mg base N_1 "is_number" (defScope (top 11)) ((ft K).a 1) cdv A outer s H E) (gx P w K) (orcN tb n) tb (ft K) 44 n (fun c d _ H => E c d H) := Rn.fn rfl rfl rfl (by decide +kernel) hr0 ih
  have hu := G.hu_of R.room
  have hu5 := G.hu5_of R.room
  exact ss_cons (s_ret (m_and (e_isi R.K ty_int rfl W.f_isinstance (m_var (i := 0) rfl (vis_of rfl) rfl rfl) (pe_bltn (v := .ty "int") (u := .type "int") rfl W.f_int (by decide +kernel) rfl (by decide) rfl) (.ty "int") rfl rfl rfl) (m_and (m_not R.K (e_isi R.K ty_bool rfl W.f_isinstance (m_var (i := 0) rfl (vis_of rfl) rfl rfl) (pe_bltn (v := .ty "bool") (u := .type "bool") rfl W.f_bool (by decide +kernel) rfl (by decide) rfl) (.ty "bool") rfl rfl rfl)) (m_and1 (m_chain o_le o_lt (m_int) (m_var (i := 0) rfl (vis_of rfl) rfl rfl) (m_var (i := 1) rfl (vis_of rfl) rfl rfl) (by with_unfolding_all rfl)))))) (ss_nil)
theorem ok_1 (W : WF K mg) (ih : AllOk P w K mg base (gx P w K) tb (ft K) 44 n) : FnG P w K mg base (n + 1) ((ft K).a 1) ((ft K).fd 1) ((ft K).ps 1) (spG (gx P w K) tb (n + 1) 1) :=
  fn_okD (N := N_1) (ps := ["value", "below"]) W.F_1 ⟨rfl, rfl, rfl, by decide +kernel, rfl, by decide +kernel, by decide +kernel⟩ rfl rfl (p_1 W ih)
def N_2 : List Str := ["value", "sign"]
theorem p_2 (W : WF K mg) (ih : AllOk P w K mg base (gx P w K) tb (ft K) 44 n) (cdv : Value) (A : Around) (outer : List PySem.Env) (s : Shared) (H : Hp) (E : XK) (hr0 : Rb n (A.deeper (envOfC "is_name" (defScope (top 12)) s.heap.objs.size ((ft K).a 2) cdv))) :
    PSs (cxOf (L2.CX P w) P w K mg base N_2 "is_name" (defScope (top 12)) ((ft K).a 2) cdv A outer s H E) (defBody (top 12)) (tS (gx P w K) (orcN tb n) (fun c d _ H => E c d H) c_2) := by
  have R : Rn (cxOf (L2.CX P w) P w K mg base N_2 "is_name" (defScope (top 12)) ((ft K).a 2) cdv A outer s H E) (gx P w K) (orcN tb n) tb (ft K) 44 n (fun c d _ H => E c d H) := Rn.fn rfl rfl rfl (by decide +kernel) hr0 ih
  have hu := G.hu_of R.room
  have hu5 := G.hu5_of R.room
  exact ss_cons (s_ret (m_and (e_isi R.K ty_str rfl W.f_isinstance (m_var (i := 0) rfl (vis_of rfl) rfl rfl) (pe_bltn (v := .ty "str") (u := .type "str") rfl W.f_str (by decide +kernel) rfl (by decide) rfl) (.ty "str") rfl rfl rfl) (m_and (m_chain o_le o_le (m_int) (e_bi (x := "len") (b_len R.K) rfl W.f_len W.v_len (l_cons (m_var (i := 0) rfl (vis_of rfl) rfl rfl) (l_nil) rfl) (by decide) rfl rfl rfl) (m_gint rfl W.c_MAX_NAME rfl) (by with_unfolding_all rfl)) (m_and1 (e_bi (x := "all") (b_all R.calm) rfl W.f_all W.v_all (l_cons (by refine m_lc R.calm R.nd (own := [("sign", 1)]) (f := id) (hi := ?hi_14) (ok := ?ok_14) (hg := ?hg_14) (ht := ?ht_14) (he := ?he_14) (hs := ?hs_14); (case hi_14 => exact i_val (m_var (i := 0) rfl (vis_of rfl) rfl rfl)); (case ok_14 => exact blk_ok (N := N_2) (sc := defScope (top 12)) (own := [("sign", 1)]) (by decide +kernel)); (case hg_14 => exact (inBlk R fun s H C cl fp R => v_name (by decide) R.nd rfl (loc_of rfl) (by first | exact .inl rfl | exact .inr rfl))); (case ht_14 => exact .no); (case he_14 => exact (inBlk R fun s H C cl fp R => m_cmp (o_in (by exact hu5) R.K) (m_var (i := 1) rfl (vis_of rfl) rfl rfl) (m_gstr rfl W.c_LETTERS rfl (sOk_of rfl) rfl) rfl)); (case hs_14 => exact fun _ => rfl)) (l_nil) rfl) (by decide) rfl rfl rfl))))) (ss_nil)
theorem ok_2 (W : WF K mg) (ih : AllOk P w K mg base (gx P w K) tb (ft K) 44 n) : FnG P w K mg base (n + 1) ((ft K).a 2) ((ft K).fd 2) ((ft K).ps 2) (spG (gx P w K) tb (n + 1) 2) :=
  fn_okD (N := N_2) (ps := ["value"]) W.F_2 ⟨rfl, rfl, rfl, by decide +kernel, rfl, by decide +kernel, by decide +kernel⟩ rfl rfl (p_2 W ih)
def N_3 : List Str := ["value", "child"]
theorem p_3 (W : WF K mg) (ih : AllOk P w K mg base (gx P w K) tb (ft K) 44 n) (cdv : Value) (A : Around) (outer : List PySem.Env) (s : Shared) (H : Hp) (E : XK) (hr0 : Rb n (A.deeper (envOfC "is_tree" (defScope (top 13)) s.heap.objs.size ((ft K).a 3) cdv))) :
    PSs (cxOf (L2.CX P w) P w K mg base N_3 "is_tree" (defScope (top 13)) ((ft K).a 3) cdv A outer s H E) (defBody (top 13)) (tS (gx P w K) (orcN tb n) (fun c d _ H => E c d H) c_3) := by
  have R : Rn (cxOf (L2.CX P w) P w K mg base N_3 "is_tree" (defScope (top 13)) ((ft K).a 3) cdv A outer s H E) (gx P w K) (orcN tb n) tb (ft K) 44 n (fun c d _ H => E c d H) := Rn.fn rfl rfl rfl (by decide +kernel) hr0 ih
  have hu := G.hu_of R.room
  have hu5 := G.hu5_of R.room
  exact ss_cons (s_if (PW.pt (w_or (m_notT (m_truth R.K (e_isi R.K ty_tup rfl W.f_isinstance (m_var (i := 0) rfl (vis_of rfl) rfl rfl) (pe_bltn (v := .ty "tuple") (u := .type "tuple") rfl W.f_tuple (by decide +kernel) rfl (by decide) rfl) (.ty "tuple") rfl rfl rfl) (fun _ => rfl))) (w_or (m_notT (m_chainT R.K o_le o_le (m_int) (e_bi (x := "len") (b_len R.K) rfl W.f_len W.v_len (l_cons (m_var (i := 0) rfl (vis_of rfl) rfl rfl) (l_nil) rfl) (by decide) rfl rfl rfl) (m_bin o_add (m_gint rfl W.c_MAX_CHILDREN rfl) (m_int)) (by with_unfolding_all rfl))) (w_or1 (m_notT (m_truth R.K (e_callP (x := "is_name") rfl R (f := 2) (by decide) rfl W.g_2 W.k_2 W.b_2 (l_cons (m_ix (m_var (i := 0) rfl (vis_of rfl) rfl rfl) (m_int) (fun _ _ => rfl)) (l_nil) rfl) rfl rfl rfl) (fun _ => rfl))))))) (ss_cons (s_ret (m_bl)) (ss_nil)) (ss_nil)) (ss_cons (s_ret (e_bi (x := "all") (b_all R.calm) rfl W.f_all W.v_all (l_cons (by refine m_lc R.calm R.nd (own := [("child", 1)]) (f := id) (hi := ?hi_15) (ok := ?ok_15) (hg := ?hg_15) (ht := ?ht_15) (he := ?he_15) (hs := ?hs_15); (case hi_15 => exact i_val (m_sl R.K (m_var (i := 0) rfl (vis_of rfl) rfl rfl) (o_some (m_int)) (o_none))); (case ok_15 => exact blk_ok (N := N_3) (sc := defScope (top 13)) (own := [("child", 1)]) (by decide +kernel)); (case hg_15 => exact (inBlk R fun s H C cl fp R => v_name (by decide) R.nd rfl (loc_of rfl) (by first | exact .inl rfl | exact .inr rfl))); (case ht_15 => exact .no); (case he_15 => exact (inBlk R fun s H C cl fp R => e_callP (x := "is_tree") rfl R (f := 3) (by decide) rfl W.g_3 W.k_3 W.b_3 (l_cons (m_var (i := 1) rfl (vis_of rfl) rfl rfl) (l_nil) rfl) rfl rfl rfl)); (case hs_15 => exact fun _ => rfl)) (l_nil) rfl) (by decide) rfl rfl rfl)) (ss_nil))
theorem ok_3 (W : WF K mg) (ih : AllOk P w K mg base (gx P w K) tb (ft K) 44 n) : FnG P w K mg base (n + 1) ((ft K).a 3) ((ft K).fd 3) ((ft K).ps 3) (spG (gx P w K) tb (n + 1) 3) :=
  fn_okD (N := N_3) (ps := ["value"]) W.F_3 ⟨rfl, rfl, rfl, by decide +kernel, rfl, by decide +kernel, by decide +kernel⟩ rfl rfl (p_3 W ih)
def N_4 : List Str := ["tree", "child"]
theorem p_4 (W : WF K mg) (ih : AllOk P w K mg base (gx P w K) tb (ft K) 44 n) (cdv : Value) (A : Around) (outer : List PySem.Env) (s : Shared) (H : Hp) (E : XK) (hr0 : Rb n (A.deeper (envOfC "size" (defScope (top 14)) s.heap.objs.size ((ft K).a 4) cdv))) :
    PSs (cxOf (L2.CX P w) P w K mg base N_4 "size" (defScope (top 14)) ((ft K).a 4) cdv A outer s H E) (defBody (top 14)) (tS (gx P w K) (orcN tb n) (fun c d _ H => E c d H) c_4) := by
  have R : Rn (cxOf (L2.CX P w) P w K mg base N_4 "size" (defScope (top 14)) ((ft K).a 4) cdv A outer s H E) (gx P w K) (orcN tb n) tb (ft K) 44 n (fun c d _ H => E c d H) := Rn.fn rfl rfl rfl (by decide +kernel) hr0 ih
  have hu := G.hu_of R.room
  have hu5 := G.hu5_of R.room
  exact ss_cons (s_ret (m_bin o_add (m_int) (e_bi (x := "sum") (b_sum R.calm) rfl W.f_sum W.v_sum (l_cons (by refine m_lc R.calm R.nd (own := [("child", 1)]) (f := id) (hi := ?hi_16) (ok := ?ok_16) (hg := ?hg_16) (ht := ?ht_16) (he := ?he_16) (hs := ?hs_16); (case hi_16 => exact i_val (m_sl R.K (m_var (i := 0) rfl (vis_of rfl) rfl rfl) (o_some (m_int)) (o_none))); (case ok_16 => exact blk_ok (N := N_4) (sc := defScope (top 14)) (own := [("child", 1)]) (by decide +kernel)); (case hg_16 => exact (inBlk R fun s H C cl fp R => v_name (by decide) R.nd rfl (loc_of rfl) (by first | exact .inl rfl | exact .inr rfl))); (case ht_16 => exact .no); (case he_16 => exact (inBlk R fun s H C cl fp R => e_callP (x := "size") rfl R (f := 4) (by decide) rfl W.g_4 W.k_4 W.b_4 (l_cons (m_var (i := 1) rfl (vis_of rfl) rfl rfl) (l_nil) rfl) rfl rfl rfl)); (case hs_16 => exact fun _ => rfl)) (l_nil) rfl) (by decide) rfl rfl rfl))) (ss_nil)
theorem ok_4 (W : WF K mg) (ih : AllOk P w K mg base (gx P w K) tb (ft K) 44 n) : FnG P w K mg base (n + 1) ((ft K).a 4) ((ft K).fd 4) ((ft K).ps 4) (spG (gx P w K) tb (n + 1) 4) :=
  fn_okD (N := N_4) (ps := ["tree"]) W.F_4 ⟨rfl, rfl, rfl, by decide +kernel, rfl, by decide +kernel, by decide +kernel⟩ rfl rfl (p_4 W ih)
def N_5 : List Str := ["tree", "child"]
theorem p_5 (W : WF K mg) (ih : AllOk P w K mg base (gx P w K) tb (ft K) 44 n) (cdv : Value) (A : Around) (outer : List PySem.Env) (s : Shared) (H : Hp) (E : XK) (hr0 : Rb n (A.deeper (envOfC "levels_of" (defScope (top 15)) s.heap.objs.size ((ft K).a 5) cdv))) :
    PSs (cxOf (L2.CX P w) P w K mg base N_5 "levels_of" (defScope (top 15)) ((ft K).a 5) cdv A outer s H E) (defBody (top 15)) (tS (gx P w K) (orcN tb n) (fun c d _ H => E c d H) c_5) := by
  have R : Rn (cxOf (L2.CX P w) P w K mg base N_5 "levels_of" (defScope (top 15)) ((ft K).a 5) cdv A outer s H E) (gx P w K) (orcN tb n) tb (ft K) 44 n (fun c d _ H => E c d H) := Rn.fn rfl rfl rfl (by decide +kernel) hr0 ih
  have hu := G.hu_of R.room
  have hu5 := G.hu5_of R.room
  exact ss_cons (s_ret (m_bin o_add (m_int) (e_bi (x := "max") (b_max R.calm) rfl W.f_max W.v_max (l_cons (m_bin o_add (by refine m_lc R.calm R.nd (own := [("child", 1)]) (f := id) (hi := ?hi_17) (ok := ?ok_17) (hg := ?hg_17) (ht := ?ht_17) (he := ?he_17) (hs := ?hs_17); (case hi_17 => exact i_val (m_sl R.K (m_var (i := 0) rfl (vis_of rfl) rfl rfl) (o_some (m_int)) (o_none))); (case ok_17 => exact blk_ok (N := N_5) (sc := defScope (top 15)) (own := [("child", 1)]) (by decide +kernel)); (case hg_17 => exact (inBlk R fun s H C cl fp R => v_name (by decide) R.nd rfl (loc_of rfl) (by first | exact .inl rfl | exact .inr rfl))); (case ht_17 => exact .no); (case he_17 => exact (inBlk R fun s H C cl fp R => e_callP (x := "levels_of") rfl R (f := 5) (by decide) rfl W.g_5 W.k_5 W.b_5 (l_cons (m_var (i := 1) rfl (vis_of rfl) rfl rfl) (l_nil) rfl) rfl rfl rfl)); (case hs_17 => exact fun _ => rfl)) (m_lst (l_cons (m_int) (l_nil) rfl))) (l_nil) rfl) (by decide) rfl rfl rfl))) (ss_nil)
theorem ok_5 (W : WF K mg) (ih : AllOk P w K mg base (gx P w K) tb (ft K) 44 n) : FnG P w K mg base (n + 1) ((ft K).a 5) ((ft K).fd 5) ((ft K).ps 5) (spG (gx P w K) tb (n + 1) 5) :=
  fn_okD (N := N_5) (ps := ["tree"]) W.F_5 ⟨rfl, rfl, rfl, by decide +kernel, rfl, by decide +kernel, by decide +kernel⟩ rfl rfl (p_5 W ih)
def N_6 : List Str := ["tree"]
theorem p_6 (W : WF K mg) (ih : AllOk P w K mg base (gx P w K) tb (ft K) 44 n) (cdv : Value) (A : Around) (outer : List PySem.Env) (s : Shared) (H : Hp) (E : XK) (hr0 : Rb n (A.deeper (envOfC "sign_of" (defScope (top 16)) s.heap.objs.size ((ft K).a 6) cdv))) :
    PSs (cxOf (L2.CX P w) P w K mg base N_6 "sign_of" (defScope (top 16)) ((ft K).a 6) cdv A outer s H E) (defBody (top 16)) (tS (gx P w K) (orcN tb n) (fun c d _ H => E c d H) c_6) := by
  have R : Rn (cxOf (L2.CX P w) P w K mg base N_6 "sign_of" (defScope (top 16)) ((ft K).a 6) cdv A outer s H E) (gx P w K) (orcN tb n) tb (ft K) 44 n (fun c d _ H => E c d H) := Rn.fn rfl rfl rfl (by decide +kernel) hr0 ih
  have hu := G.hu_of R.room
  have hu5 := G.hu5_of R.room
  exact ss_cons (s_ret (m_tup (l_cons (m_ix (m_var (i := 0) rfl (vis_of rfl) rfl rfl) (m_int) (fun _ _ => rfl)) (l_cons (m_bin o_sub (e_bi (x := "len") (b_len R.K) rfl W.f_len W.v_len (l_cons (m_var (i := 0) rfl (vis_of rfl) rfl rfl) (l_nil) rfl) (by decide) rfl rfl rfl) (m_int)) (l_nil) rfl) rfl))) (ss_nil)
theorem ok_6 (W : WF K mg) (ih : AllOk P w K mg base (gx P w K) tb (ft K) 44 n) : FnG P w K mg base (n + 1) ((ft K).a 6) ((ft K).fd 6) ((ft K).ps 6) (spG (gx P w K) tb (n + 1) 6) :=
  fn_okD (N := N_6) (ps := ["tree"]) W.F_6 ⟨rfl, rfl, rfl, by decide +kernel, rfl, by decide +kernel, by decide +kernel⟩ rfl rfl (p_6 W ih)
def N_7 : List Str := ["trees", "found", "at", "one", "tree"]
theorem p_7 (W : WF K mg) (ih : AllOk P w K mg base (gx P w K) tb (ft K) 44 n) (cdv : Value) (A : Around) (outer : List PySem.Env) (s : Shared) (H : Hp) (E : XK) (hr0 : Rb n (A.deeper (envOfC "ordered" (defScope (top 17)) s.heap.objs.size ((ft K).a 7) cdv))) :
    PSs (cxOf (L2.CX P w) P w K mg base N_7 "ordered" (defScope (top 17)) ((ft K).a 7) cdv A outer s H E) (defBody (top 17)) (tS (gx P w K) (orcN tb n) (fun c d _ H => E c d H) c_7) := by
  have R : Rn (cxOf (L2.CX P w) P w K mg base N_7 "ordered" (defScope (top 17)) ((ft K).a 7) cdv A outer s H E) (gx P w K) (orcN tb n) tb (ft K) 44 n (fun c d _ H => E c d H) := Rn.fn rfl rfl rfl (by decide +kernel) hr0 ih
  have hu := G.hu_of R.room
  have hu5 := G.hu5_of R.room
  exact ss_cons (s_set R.nd rfl (loc_of rfl) (e_bi (x := "sorted") (b_sorted R.K (by exact hu)) rfl W.f_sorted W.v_sorted (l_cons (by refine m_lc R.calm R.nd (own := [("tree", 4)]) (f := id) (hi := ?hi_18) (ok := ?ok_18) (hg := ?hg_18) (ht := ?ht_18) (he := ?he_18) (hs := ?hs_18); (case hi_18 => exact i_val (m_var (i := 0) rfl (vis_of rfl) rfl rfl)); (case ok_18 => exact blk_ok (N := N_7) (sc := defScope (top 17)) (own := [("tree", 4)]) (by decide +kernel)); (case hg_18 => exact (inBlk R fun s H C cl fp R => v_name (by decide) R.nd rfl (loc_of rfl) (by first | exact .inl rfl | exact .inr rfl))); (case ht_18 => exact .no); (case he_18 => exact (inBlk R fun s H C cl fp R => m_tup (l_cons (e_callP (x := "size") rfl R (f := 4) (by decide) rfl W.g_4 W.k_4 W.b_4 (l_cons (m_var (i := 4) rfl (vis_of rfl) rfl rfl) (l_nil) rfl) rfl rfl rfl) (l_cons (m_var (i := 4) rfl (vis_of rfl) rfl rfl) (l_nil) rfl) rfl))); (case hs_18 => exact fun _ => rfl)) (l_nil) rfl) (by decide) rfl rfl rfl) rfl (.inl rfl)) (ss_cons (s_ret (by refine m_lc R.calm R.nd (own := [("at", 2), ("one", 3)]) (f := cIf (eOr (eOp oEq (eVar 2) (eC (.int 0))) (eOp oNe (eVar 3) (eOp oIx (eVar 1) (eOp oSub (eVar 2) (eC (.int 1))))))) (hi := ?hi_19) (ok := ?ok_19) (hg := ?hg_19) (ht := ?ht_19) (he := ?he_19) (hs := ?hs_19); (case hi_19 => exact i_enum rfl (W.f_enumerate) (m_var (i := 1) rfl (vis_of rfl) rfl rfl) rfl); (case ok_19 => exact blk_ok (N := N_7) (sc := defScope (top 17)) (own := [("at", 2), ("one", 3)]) (by decide +kernel)); (case hg_19 => exact (inBlk R fun s H C cl fp R => v_tup R.calm (vs_cons (v_name (by decide) R.nd rfl (loc_of rfl) (by first | exact .inl rfl | exact .inr rfl)) (vs_cons (v_name (by decide) R.nd rfl (loc_of rfl) (by first | exact .inl rfl | exact .inr rfl)) (vs_nil) rfl) rfl) rfl rfl)); (case ht_19 => exact (.one (inBlk R fun s H C cl fp R => PW.pt (w_or (m_cmpT R.K (o_eq (by exact hu)) (m_var (i := 2) rfl (vis_of rfl) rfl rfl) (m_int) (nomark _)) (w_or1 (m_cmpT R.K (o_ne (by exact hu)) (m_var (i := 3) rfl (vis_of rfl) rfl rfl) (m_ix (m_var (i := 1) rfl (vis_of rfl) rfl rfl) (m_bin o_sub (m_var (i := 2) rfl (vis_of rfl) rfl rfl) (m_int)) (fun _ _ => rfl)) (nomark _))))))); (case he_19 => exact (inBlk R fun s H C cl fp R => m_ix (m_var (i := 3) rfl (vis_of rfl) rfl rfl) (m_int) (fun _ _ => rfl))); (case hs_19 => exact fun _ => rfl))) (ss_nil))
theorem ok_7 (W : WF K mg) (ih : AllOk P w K mg base (gx P w K) tb (ft K) 44 n) : FnG P w K mg base (n + 1) ((ft K).a 7) ((ft K).fd 7) ((ft K).ps 7) (spG (gx P w K) tb (n + 1) 7) :=
  fn_okD (N := N_7) (ps := ["trees"]) W.F_7 ⟨rfl, rfl, rfl, by decide +kernel, rfl, by decide +kernel, by decide +kernel⟩ rfl rfl (p_7 W ih)
def N_8 : List Str := ["tree", "found", "child"]
theorem p_8 (W : WF K mg) (ih : AllOk P w K mg base (gx P w K) tb (ft K) 44 n) (cdv : Value) (A : Around) (outer : List PySem.Env) (s : Shared) (H : Hp) (E : XK) (hr0 : Rb n (A.deeper (envOfC "parts" (defScope (top 18)) s.heap.objs.size ((ft K).a 8) cdv))) :
    PSs (cxOf (L2.CX P w) P w K mg base N_8 "parts" (defScope (top 18)) ((ft K).a 8) cdv A outer s H E) (defBody (top 18)) (tS (gx P w K) (orcN tb n) (fun c d _ H => E c d H) c_8) := by
  have R : Rn (cxOf (L2.CX P w) P w K mg base N_8 "parts" (defScope (top 18)) ((ft K).a 8) cdv A outer s H E) (gx P w K) (orcN tb n) tb (ft K) 44 n (fun c d _ H => E c d H) := Rn.fn rfl rfl rfl (by decide +kernel) hr0 ih
  have hu := G.hu_of R.room
  have hu5 := G.hu5_of R.room
  exact ss_cons (s_set R.nd rfl (loc_of rfl) (m_lst (l_cons (m_var (i := 0) rfl (vis_of rfl) rfl rfl) (l_nil) rfl)) rfl (.inl rfl)) (ss_cons (s_for R.owns R.calm (i_val (m_sl R.K (m_var (i := 0) rfl (vis_of rfl) rfl rfl) (o_some (m_int)) (o_none))) (g_name R.nd rfl (loc_of rfl) (.inl rfl)) (ss_cons (s_set R.nd rfl (loc_of rfl) (m_bin o_add (m_var (i := 1) rfl (vis_of rfl) rfl rfl) (e_callL (x := "parts") rfl R (f := 8) (by decide) rfl W.g_8 W.k_8 W.b_8 (l_cons (m_var (i := 2) rfl (vis_of rfl) rfl rfl) (l_nil) rfl) rfl rfl rfl)) rfl (.inl rfl)) (ss_nil)) (fun _ => rfl)) (ss_cons (s_ret (e_call (x := "ordered") R (f := 7) (by decide) rfl W.g_7 W.k_7 W.b_7 (l_cons (m_var (i := 1) rfl (vis_of rfl) rfl rfl) (l_nil) rfl) rfl rfl rfl)) (ss_nil)))
theorem ok_8 (W : WF K mg) (ih : AllOk P w K mg base (gx P w K) tb (ft K) 44 n) : FnG P w K mg base (n + 1) ((ft K).a 8) ((ft K).fd 8) ((ft K).ps 8) (spG (gx P w K) tb (n + 1) 8) :=
  fn_okD (N := N_8) (ps := ["tree"]) W.F_8 ⟨rfl, rfl, rfl, by decide +kernel, rfl, by decide +kernel, by decide +kernel⟩ rfl rfl (p_8 W ih)
def N_9 : List Str := ["tree", "place", "found", "number"]
theorem p_9 (W : WF K mg) (ih : AllOk P w K mg base (gx P w K) tb (ft K) 44 n) (cdv : Value) (A : Around) (outer : List PySem.Env) (s : Shared) (H : Hp) (E : XK) (hr0 : Rb n (A.deeper (envOfC "part_at" (defScope (top 19)) s.heap.objs.size ((ft K).a 9) cdv))) :
    PSs (cxOf (L2.CX P w) P w K mg base N_9 "part_at" (defScope (top 19)) ((ft K).a 9) cdv A outer s H E) (defBody (top 19)) (tS (gx P w K) (orcN tb n) (fun c d _ H => E c d H) c_9) := by
  have R : Rn (cxOf (L2.CX P w) P w K mg base N_9 "part_at" (defScope (top 19)) ((ft K).a 9) cdv A outer s H E) (gx P w K) (orcN tb n) tb (ft K) 44 n (fun c d _ H => E c d H) := Rn.fn rfl rfl rfl (by decide +kernel) hr0 ih
  have hu := G.hu_of R.room
  have hu5 := G.hu5_of R.room
  exact ss_cons (s_if (m_notT (m_truth R.K (e_isi R.K ty_tup rfl W.f_isinstance (m_var (i := 1) rfl (vis_of rfl) rfl rfl) (pe_bltn (v := .ty "tuple") (u := .type "tuple") rfl W.f_tuple (by decide +kernel) rfl (by decide) rfl) (.ty "tuple") rfl rfl rfl) (fun _ => rfl))) (ss_cons (s_raise R W.ox_NoPlace W.ic_NoPlace W.ti_NoPlace W.fi_NoPlace R.room.rm.room W.bi_NoPlace W.no_NoPlace rfl (show _ < 8 by decide) rfl W.gx_NoPlace (m_var (i := 1) rfl (vis_of rfl) rfl rfl) rfl rfl) (ss_nil)) (ss_nil)) (ss_cons (s_set R.nd rfl (loc_of rfl) (m_var (i := 0) rfl (vis_of rfl) rfl rfl) rfl (.inl rfl)) (ss_cons (s_for R.owns R.calm (i_val (m_var (i := 1) rfl (vis_of rfl) rfl rfl)) (g_name R.nd rfl (loc_of rfl) (.inl rfl)) (ss_cons (s_if (m_notT (m_truth R.K (e_callP (x := "is_number") rfl R (f := 1) (by decide) rfl W.g_1 W.k_1 W.b_1 (l_cons (m_var (i := 3) rfl (vis_of rfl) rfl rfl) (l_cons (m_bin o_sub (e_bi (x := "len") (b_len R.K) rfl W.f_len W.v_len (l_cons (m_var (i := 2) rfl (vis_of rfl) rfl rfl) (l_nil) rfl) (by decide) rfl rfl rfl) (m_int)) (l_nil) rfl) rfl) rfl rfl rfl) (fun _ => rfl))) (ss_cons (s_raise R W.ox_NoPlace W.ic_NoPlace W.ti_NoPlace W.fi_NoPlace R.room.rm.room W.bi_NoPlace W.no_NoPlace rfl (show _ < 8 by decide) rfl W.gx_NoPlace (m_var (i := 1) rfl (vis_of rfl) rfl rfl) rfl rfl) (ss_nil)) (ss_nil)) (ss_cons (s_set R.nd rfl (loc_of rfl) (m_ix (m_var (i := 2) rfl (vis_of rfl) rfl rfl) (m_bin o_add (m_var (i := 3) rfl (vis_of rfl) rfl rfl) (m_int)) (fun _ _ => rfl)) rfl (.inl rfl)) (ss_nil))) (fun _ => rfl)) (ss_cons (s_ret (m_var (i := 2) rfl (vis_of rfl) rfl rfl)) (ss_nil))))
theorem ok_9 (W : WF K mg) (ih : AllOk P w K mg base (gx P w K) tb (ft K) 44 n) : FnG P w K mg base (n + 1) ((ft K).a 9) ((ft K).fd 9) ((ft K).ps 9) (spG (gx P w K) tb (n + 1) 9) :=
  fn_okD (N := N_9) (ps := ["tree", "place"]) W.F_9 ⟨rfl, rfl, rfl, by decide +kernel, rfl, by decide +kernel, by decide +kernel⟩ rfl rfl (p_9 W ih)
def N_10 : List Str := ["tree", "place", "part", "child"]
theorem p_10 (W : WF K mg) (ih : AllOk P w K mg base (gx P w K) tb (ft K) 44 n) (cdv : Value) (A : Around) (outer : List PySem.Env) (s : Shared) (H : Hp) (E : XK) (hr0 : Rb n (A.deeper (envOfC "put" (defScope (top 20)) s.heap.objs.size ((ft K).a 10) cdv))) :
    PSs (cxOf (L2.CX P w) P w K mg base N_10 "put" (defScope (top 20)) ((ft K).a 10) cdv A outer s H E) (defBody (top 20)) (tS (gx P w K) (orcN tb n) (fun c d _ H => E c d H) c_10) := by
  have R : Rn (cxOf (L2.CX P w) P w K mg base N_10 "put" (defScope (top 20)) ((ft K).a 10) cdv A outer s H E) (gx P w K) (orcN tb n) tb (ft K) 44 n (fun c d _ H => E c d H) := Rn.fn rfl rfl rfl (by decide +kernel) hr0 ih
  have hu := G.hu_of R.room
  have hu5 := G.hu5_of R.room
  exact ss_cons (s_expr (e_call (x := "part_at") R (f := 9) (by decide) rfl W.g_9 W.k_9 W.b_9 (l_cons (m_var (i := 0) rfl (vis_of rfl) rfl rfl) (l_cons (m_var (i := 1) rfl (vis_of rfl) rfl rfl) (l_nil) rfl) rfl) rfl rfl rfl) rfl) (ss_cons (s_if (m_cmpT R.K (o_eq (by exact hu)) (m_var (i := 1) rfl (vis_of rfl) rfl rfl) (m_tup (l_nil)) (nomark _)) (ss_cons (s_ret (m_var (i := 2) rfl (vis_of rfl) rfl rfl)) (ss_nil)) (ss_nil)) (ss_cons (s_set R.nd rfl (loc_of rfl) (e_callP (x := "put") rfl R (f := 10) (by decide) rfl W.g_10 W.k_10 W.b_10 (l_cons (m_ix (m_var (i := 0) rfl (vis_of rfl) rfl rfl) (m_bin o_add (m_ix (m_var (i := 1) rfl (vis_of rfl) rfl rfl) (m_int) (fun _ _ => rfl)) (m_int)) (fun _ _ => rfl)) (l_cons (m_sl R.K (m_var (i := 1) rfl (vis_of rfl) rfl rfl) (o_some (m_int)) (o_none)) (l_cons (m_var (i := 2) rfl (vis_of rfl) rfl rfl) (l_nil) rfl) rfl) rfl) rfl rfl rfl) rfl (.inl rfl)) (ss_cons (s_ret (m_bin o_add (m_bin o_add (m_sl R.K (m_var (i := 0) rfl (vis_of rfl) rfl rfl) (o_none) (o_some (m_bin o_add (m_ix (m_var (i := 1) rfl (vis_of rfl) rfl rfl) (m_int) (fun _ _ => rfl)) (m_int)))) (m_tup (l_cons (m_var (i := 3) rfl (vis_of rfl) rfl rfl) (l_nil) rfl))) (m_sl R.K (m_var (i := 0) rfl (vis_of rfl) rfl rfl) (o_some (m_bin o_add (m_ix (m_var (i := 1) rfl (vis_of rfl) rfl rfl) (m_int) (fun _ _ => rfl)) (m_int))) (o_none)))) (ss_nil))))
theorem ok_10 (W : WF K mg) (ih : AllOk P w K mg base (gx P w K) tb (ft K) 44 n) : FnG P w K mg base (n + 1) ((ft K).a 10) ((ft K).fd 10) ((ft K).ps 10) (spG (gx P w K) tb (n + 1) 10) :=
  fn_okD (N := N_10) (ps := ["tree", "place", "part"]) W.F_10 ⟨rfl, rfl, rfl, by decide +kernel, rfl, by decide +kernel, by decide +kernel⟩ rfl rfl (p_10 W ih)
def N_11 : List Str := ["value"]
theorem p_11 (W : WF K mg) (ih : AllOk P w K mg base (gx P w K) tb (ft K) 44 n) (cdv : Value) (A : Around) (outer : List PySem.Env) (s : Shared) (H : Hp) (E : XK) (hr0 : Rb n (A.deeper (envOfC "is_rule" (defScope (top 26)) s.heap.objs.size ((ft K).a 11) cdv))) :
    PSs (cxOf (L2.CX P w) P w K mg base N_11 "is_rule" (defScope (top 26)) ((ft K).a 11) cdv A outer s H E) (defBody (top 26)) (tS (gx P w K) (orcN tb n) (fun c d _ H => E c d H) c_11) := by
  have R : Rn (cxOf (L2.CX P w) P w K mg base N_11 "is_rule" (defScope (top 26)) ((ft K).a 11) cdv A outer s H E) (gx P w K) (orcN tb n) tb (ft K) 44 n (fun c d _ H => E c d H) := Rn.fn rfl rfl rfl (by decide +kernel) hr0 ih
  have hu := G.hu_of R.room
  have hu5 := G.hu5_of R.room
  exact ss_cons (s_if (PW.pt (w_or (m_notT (m_truth R.K (e_isi R.K ty_tup rfl W.f_isinstance (m_var (i := 0) rfl (vis_of rfl) rfl rfl) (pe_bltn (v := .ty "tuple") (u := .type "tuple") rfl W.f_tuple (by decide +kernel) rfl (by decide) rfl) (.ty "tuple") rfl rfl rfl) (fun _ => rfl))) (w_or (m_cmpT R.K (o_ne (by exact hu)) (e_bi (x := "len") (b_len R.K) rfl W.f_len W.v_len (l_cons (m_var (i := 0) rfl (vis_of rfl) rfl rfl) (l_nil) rfl) (by decide) rfl rfl rfl) (m_int) (nomark _)) (w_or (m_notT (m_truth R.K (e_callP (x := "is_tree") rfl R (f := 3) (by decide) rfl W.g_3 W.k_3 W.b_3 (l_cons (m_ix (m_var (i := 0) rfl (vis_of rfl) rfl rfl) (m_int) (fun _ _ => rfl)) (l_nil) rfl) rfl rfl rfl) (fun _ => rfl))) (w_or1 (m_notT (m_truth R.K (e_callP (x := "is_tree") rfl R (f := 3) (by decide) rfl W.g_3 W.k_3 W.b_3 (l_cons (m_ix (m_var (i := 0) rfl (vis_of rfl) rfl rfl) (m_int) (fun _ _ => rfl)) (l_nil) rfl) rfl rfl rfl) (fun _ => rfl)))))))) (ss_cons (s_ret (m_bl)) (ss_nil)) (ss_nil)) (ss_cons (s_if (PW.pt (w_or (m_cmpT R.K o_gt (e_bi (x := "max") (b_max2 R.calm) rfl W.f_max W.v_max (l_cons (e_callP (x := "size") rfl R (f := 4) (by decide) rfl W.g_4 W.k_4 W.b_4 (l_cons (m_ix (m_var (i := 0) rfl (vis_of rfl) rfl rfl) (m_int) (fun _ _ => rfl)) (l_nil) rfl) rfl rfl rfl) (l_cons (e_callP (x := "size") rfl R (f := 4) (by decide) rfl W.g_4 W.k_4 W.b_4 (l_cons (m_ix (m_var (i := 0) rfl (vis_of rfl) rfl rfl) (m_int) (fun _ _ => rfl)) (l_nil) rfl) rfl rfl rfl) (l_nil) rfl) rfl) (by decide) rfl rfl rfl) (m_gint rfl W.c_MAX_SIDE rfl) (nomark _)) (w_or1 (m_cmpT R.K o_gt (e_bi (x := "max") (b_max2 R.calm) rfl W.f_max W.v_max (l_cons (e_callP (x := "levels_of") rfl R (f := 5) (by decide) rfl W.g_5 W.k_5 W.b_5 (l_cons (m_ix (m_var (i := 0) rfl (vis_of rfl) rfl rfl) (m_int) (fun _ _ => rfl)) (l_nil) rfl) rfl rfl rfl) (l_cons (e_callP (x := "levels_of") rfl R (f := 5) (by decide) rfl W.g_5 W.k_5 W.b_5 (l_cons (m_ix (m_var (i := 0) rfl (vis_of rfl) rfl rfl) (m_int) (fun _ _ => rfl)) (l_nil) rfl) rfl rfl rfl) (l_nil) rfl) rfl) (by decide) rfl rfl rfl) (m_gint rfl W.c_MAX_LEVELS rfl) (nomark _))))) (ss_cons (s_ret (m_bl)) (ss_nil)) (ss_nil)) (ss_cons (s_ret (m_cmp (o_ne (by exact hu)) (m_ix (m_var (i := 0) rfl (vis_of rfl) rfl rfl) (m_int) (fun _ _ => rfl)) (m_ix (m_var (i := 0) rfl (vis_of rfl) rfl rfl) (m_int) (fun _ _ => rfl)) (nomark _))) (ss_nil)))
theorem ok_11 (W : WF K mg) (ih : AllOk P w K mg base (gx P w K) tb (ft K) 44 n) : FnG P w K mg base (n + 1) ((ft K).a 11) ((ft K).fd 11) ((ft K).ps 11) (spG (gx P w K) tb (n + 1) 11) :=
  fn_okD (N := N_11) (ps := ["value"]) W.F_11 ⟨rfl, rfl, rfl, by decide +kernel, rfl, by decide +kernel, by decide +kernel⟩ rfl rfl (p_11 W ih)
def N_12 : List Str := ["rules", "found", "left", "right"]
theorem p_12 (W : WF K mg) (ih : AllOk P w K mg base (gx P w K) tb (ft K) 44 n) (cdv : Value) (A : Around) (outer : List PySem.Env) (s : Shared) (H : Hp) (E : XK) (hr0 : Rb n (A.deeper (envOfC "parts_of" (defScope (top 27)) s.heap.objs.size ((ft K).a 12) cdv))) :
    PSs (cxOf (L2.CX P w) P w K mg base N_12 "parts_of" (defScope (top 27)) ((ft K).a 12) cdv A outer s H E) (defBody (top 27)) (tS (gx P w K) (orcN tb n) (fun c d _ H => E c d H) c_12) := by
  have R : Rn (cxOf (L2.CX P w) P w K mg base N_12 "parts_of" (defScope (top 27)) ((ft K).a 12) cdv A outer s H E) (gx P w K) (orcN tb n) tb (ft K) 44 n (fun c d _ H => E c d H) := Rn.fn rfl rfl rfl (by decide +kernel) hr0 ih
  have hu := G.hu_of R.room
  have hu5 := G.hu5_of R.room
  exact ss_cons (s_set R.nd rfl (loc_of rfl) (m_lst (l_nil)) rfl (.inl rfl)) (ss_cons (s_for R.owns R.calm (i_val (m_var (i := 0) rfl (vis_of rfl) rfl rfl)) (g_tup R.calm (gs_cons (g_name R.nd rfl (loc_of rfl) (.inl rfl)) (gs_cons (g_name R.nd rfl (loc_of rfl) (.inl rfl)) (gs_nil) rfl) rfl) rfl rfl) (ss_cons (s_set R.nd rfl (loc_of rfl) (m_bin o_add (m_bin o_add (m_var (i := 1) rfl (vis_of rfl) rfl rfl) (e_callL (x := "parts") rfl R (f := 8) (by decide) rfl W.g_8 W.k_8 W.b_8 (l_cons (m_var (i := 2) rfl (vis_of rfl) rfl rfl) (l_nil) rfl) rfl rfl rfl)) (e_callL (x := "parts") rfl R (f := 8) (by decide) rfl W.g_8 W.k_8 W.b_8 (l_cons (m_var (i := 3) rfl (vis_of rfl) rfl rfl) (l_nil) rfl) rfl rfl rfl)) rfl (.inl rfl)) (ss_nil)) (fun _ => rfl)) (ss_cons (s_ret (e_call (x := "ordered") R (f := 7) (by decide) rfl W.g_7 W.k_7 W.b_7 (l_cons (m_var (i := 1) rfl (vis_of rfl) rfl rfl) (l_nil) rfl) rfl rfl rfl)) (ss_nil)))
theorem ok_12 (W : WF K mg) (ih : AllOk P w K mg base (gx P w K) tb (ft K) 44 n) : FnG P w K mg base (n + 1) ((ft K).a 12) ((ft K).fd 12) ((ft K).ps 12) (spG (gx P w K) tb (n + 1) 12) :=
  fn_okD (N := N_12) (ps := ["rules"]) W.F_12 ⟨rfl, rfl, rfl, by decide +kernel, rfl, by decide +kernel, by decide +kernel⟩ rfl rfl (p_12 W ih)
def N_13 : List Str := ["self", "rules", "number", "rule"]
theorem p_13 (W : WF K mg) (ih : AllOk P w K mg base (gx P w K) tb (ft K) 44 n) (cdv : Value) (A : Around) (outer : List PySem.Env) (s : Shared) (H : Hp) (E : XK) (hr0 : Rb n (A.deeper (envOfC "Lot.__init__" (defScope (sub 28 0)) s.heap.objs.size ((ft K).a 13) cdv))) :
    PSs (cxOf (L2.CX P w) P w K mg base N_13 "Lot.__init__" (defScope (sub 28 0)) ((ft K).a 13) cdv A outer s H E) (defBody (sub 28 0)) (tS (gx P w K) (orcN tb n) (fun c d _ H => E c d H) c_13) := by
  have R : Rn (cxOf (L2.CX P w) P w K mg base N_13 "Lot.__init__" (defScope (sub 28 0)) ((ft K).a 13) cdv A outer s H E) (gx P w K) (orcN tb n) tb (ft K) 44 n (fun c d _ H => E c d H) := Rn.fn rfl rfl rfl (by decide +kernel) hr0 ih
  have hu := G.hu_of R.room
  have hu5 := G.hu5_of R.room
  exact ss_cons (s_if (PW.pt (w_or (m_notT (m_truth R.K (e_isi R.K ty_lst rfl W.f_isinstance (m_var (i := 1) rfl (vis_of rfl) rfl rfl) (pe_bltn (v := .ty "list") (u := .type "list") rfl W.f_list (by decide +kernel) rfl (by decide) rfl) (.ty "list") rfl rfl rfl) (fun _ => rfl))) (w_or1 (m_cmpT R.K o_gt (e_bi (x := "len") (b_len R.K) rfl W.f_len W.v_len (l_cons (m_var (i := 1) rfl (vis_of rfl) rfl rfl) (l_nil) rfl) (by decide) rfl rfl rfl) (m_gint rfl W.c_MAX_RULES rfl) (nomark _))))) (ss_cons (s_raise R W.ox_BadLot W.ic_BadLot W.ti_BadLot W.fi_BadLot R.room.rm.room W.bi_BadLot W.no_BadLot rfl (show _ < 8 by decide) rfl W.gx_BadLot (m_int) rfl rfl) (ss_nil)) (ss_nil)) (ss_cons (s_for R.owns R.calm (i_enum rfl (W.f_enumerate) (m_var (i := 1) rfl (vis_of rfl) rfl rfl) rfl) (g_tup R.calm (gs_cons (g_name R.nd rfl (loc_of rfl) (.inl rfl)) (gs_cons (g_name R.nd rfl (loc_of rfl) (.inl rfl)) (gs_nil) rfl) rfl) rfl rfl) (ss_cons (s_if (PW.pt (w_or (m_notT (m_truth R.K (e_callP (x := "is_rule") rfl R (f := 11) (by decide) rfl W.g_11 W.k_11 W.b_11 (l_cons (m_var (i := 3) rfl (vis_of rfl) rfl rfl) (l_nil) rfl) rfl rfl rfl) (fun _ => rfl))) (w_or1 (m_cmpT R.K (o_in (by exact hu5) R.K) (m_var (i := 3) rfl (vis_of rfl) rfl rfl) (m_sl R.K (m_var (i := 1) rfl (vis_of rfl) rfl rfl) (o_none) (o_some (m_var (i := 2) rfl (vis_of rfl) rfl rfl))) rfl)))) (ss_cons (s_raise R W.ox_BadLot W.ic_BadLot W.ti_BadLot W.fi_BadLot R.room.rm.room W.bi_BadLot W.no_BadLot rfl (show _ < 8 by decide) rfl W.gx_BadLot (m_var (i := 2) rfl (vis_of rfl) rfl rfl) rfl rfl) (ss_nil)) (ss_nil)) (ss_cons (s_if (m_cmpT R.K o_gt (e_bi (x := "len") (b_len R.K) rfl W.f_len W.v_len (l_cons (e_call (x := "parts_of") R (f := 12) (by decide) rfl W.g_12 W.k_12 W.b_12 (l_cons (m_sl R.K (m_var (i := 1) rfl (vis_of rfl) rfl rfl) (o_none) (o_some (m_bin o_add (m_var (i := 2) rfl (vis_of rfl) rfl rfl) (m_int)))) (l_nil) rfl) rfl rfl rfl) (l_nil) rfl) (by decide) rfl rfl rfl) (m_gint rfl W.c_MAX_PARTS rfl) (nomark _)) (ss_cons (s_raise R W.ox_BadLot W.ic_BadLot W.ti_BadLot W.fi_BadLot R.room.rm.room W.bi_BadLot W.no_BadLot rfl (show _ < 8 by decide) rfl W.gx_BadLot (m_var (i := 2) rfl (vis_of rfl) rfl rfl) rfl rfl) (ss_nil)) (ss_nil)) (ss_nil))) (fun _ => rfl)) (ss_cons (s_asg (e_ty (x := "list") (b_list R.K) rfl W.f_list W.v_list (l_cons (m_var (i := 1) rfl (vis_of rfl) rfl rfl) (l_nil) rfl) (by decide) rfl rfl rfl) (g_attr R.K nmsOk.inj rfl (fun c h => W.fl_kept c h) (m_var (i := 0) rfl (vis_of rfl) rfl rfl)) rfl rfl rfl) (ss_nil)))
theorem ok_13 (W : WF K mg) (ih : AllOk P w K mg base (gx P w K) tb (ft K) 44 n) : FnG P w K mg base (n + 1) ((ft K).a 13) ((ft K).fd 13) ((ft K).ps 13) (spG (gx P w K) tb (n + 1) 13) :=
  fn_okD (N := N_13) (ps := ["self", "rules"]) W.F_13 ⟨rfl, rfl, rfl, by decide +kernel, rfl, by decide +kernel, by decide +kernel⟩ rfl rfl (p_13 W ih)
def N_14 : List Str := ["self"]
theorem p_14 (W : WF K mg) (ih : AllOk P w K mg base (gx P w K) tb (ft K) 44 n) (cdv : Value) (A : Around) (outer : List PySem.Env) (s : Shared) (H : Hp) (E : XK) (hr0 : Rb n (A.deeper (envOfC "Lot.rules" (defScope (sub 28 1)) s.heap.objs.size ((ft K).a 14) cdv))) :
    PSs (cxOf (L2.CX P w) P w K mg base N_14 "Lot.rules" (defScope (sub 28 1)) ((ft K).a 14) cdv A outer s H E) (defBody (sub 28 1)) (tS (gx P w K) (orcN tb n) (fun c d _ H => E c d H) c_14) := by
  have R : Rn (cxOf (L2.CX P w) P w K mg base N_14 "Lot.rules" (defScope (sub 28 1)) ((ft K).a 14) cdv A outer s H E) (gx P w K) (orcN tb n) tb (ft K) 44 n (fun c d _ H => E c d H) := Rn.fn rfl rfl rfl (by decide +kernel) hr0 ih
  have hu := G.hu_of R.room
  have hu5 := G.hu5_of R.room
  exact ss_cons (s_ret (e_ty (x := "list") (b_list R.K) rfl W.f_list W.v_list (l_cons (m_attr rfl nmsOk (show _ < 8 by decide) rfl (m_var (i := 0) rfl (vis_of rfl) rfl rfl) rfl) (l_nil) rfl) (by decide) rfl rfl rfl)) (ss_nil)
theorem ok_14 (W : WF K mg) (ih : AllOk P w K mg base (gx P w K) tb (ft K) 44 n) : FnG P w K mg base (n + 1) ((ft K).a 14) ((ft K).fd 14) ((ft K).ps 14) (spG (gx P w K) tb (n + 1) 14) :=
  fn_okD (N := N_14) (ps := ["self"]) W.F_14 ⟨rfl, rfl, rfl, by decide +kernel, rfl, by decide +kernel, by decide +kernel⟩ rfl rfl (p_14 W ih)
def N_15 : List Str := ["self"]
theorem p_15 (W : WF K mg) (ih : AllOk P w K mg base (gx P w K) tb (ft K) 44 n) (cdv : Value) (A : Around) (outer : List PySem.Env) (s : Shared) (H : Hp) (E : XK) (hr0 : Rb n (A.deeper (envOfC "Lot.parts" (defScope (sub 28 2)) s.heap.objs.size ((ft K).a 15) cdv))) :
    PSs (cxOf (L2.CX P w) P w K mg base N_15 "Lot.parts" (defScope (sub 28 2)) ((ft K).a 15) cdv A outer s H E) (defBody (sub 28 2)) (tS (gx P w K) (orcN tb n) (fun c d _ H => E c d H) c_15) := by
  have R : Rn (cxOf (L2.CX P w) P w K mg base N_15 "Lot.parts" (defScope (sub 28 2)) ((ft K).a 15) cdv A outer s H E) (gx P w K) (orcN tb n) tb (ft K) 44 n (fun c d _ H => E c d H) := Rn.fn rfl rfl rfl (by decide +kernel) hr0 ih
  have hu := G.hu_of R.room
  have hu5 := G.hu5_of R.room
  exact ss_cons (s_ret (e_call (x := "parts_of") R (f := 12) (by decide) rfl W.g_12 W.k_12 W.b_12 (l_cons (m_attr rfl nmsOk (show _ < 8 by decide) rfl (m_var (i := 0) rfl (vis_of rfl) rfl rfl) rfl) (l_nil) rfl) rfl rfl rfl)) (ss_nil)
theorem ok_15 (W : WF K mg) (ih : AllOk P w K mg base (gx P w K) tb (ft K) 44 n) : FnG P w K mg base (n + 1) ((ft K).a 15) ((ft K).fd 15) ((ft K).ps 15) (spG (gx P w K) tb (n + 1) 15) :=
  fn_okD (N := N_15) (ps := ["self"]) W.F_15 ⟨rfl, rfl, rfl, by decide +kernel, rfl, by decide +kernel, by decide +kernel⟩ rfl rfl (p_15 W ih)
def N_16 : List Str := ["self"]
theorem p_16 (W : WF K mg) (ih : AllOk P w K mg base (gx P w K) tb (ft K) 44 n) (cdv : Value) (A : Around) (outer : List PySem.Env) (s : Shared) (H : Hp) (E : XK) (hr0 : Rb n (A.deeper (envOfC "Lot.__len__" (defScope (sub 28 3)) s.heap.objs.size ((ft K).a 16) cdv))) :
    PSs (cxOf (L2.CX P w) P w K mg base N_16 "Lot.__len__" (defScope (sub 28 3)) ((ft K).a 16) cdv A outer s H E) (defBody (sub 28 3)) (tS (gx P w K) (orcN tb n) (fun c d _ H => E c d H) c_16) := by
  have R : Rn (cxOf (L2.CX P w) P w K mg base N_16 "Lot.__len__" (defScope (sub 28 3)) ((ft K).a 16) cdv A outer s H E) (gx P w K) (orcN tb n) tb (ft K) 44 n (fun c d _ H => E c d H) := Rn.fn rfl rfl rfl (by decide +kernel) hr0 ih
  have hu := G.hu_of R.room
  have hu5 := G.hu5_of R.room
  exact ss_cons (s_ret (e_bi (x := "len") (b_len R.K) rfl W.f_len W.v_len (l_cons (m_attr rfl nmsOk (show _ < 8 by decide) rfl (m_var (i := 0) rfl (vis_of rfl) rfl rfl) rfl) (l_nil) rfl) (by decide) rfl rfl rfl)) (ss_nil)
theorem ok_16 (W : WF K mg) (ih : AllOk P w K mg base (gx P w K) tb (ft K) 44 n) : FnG P w K mg base (n + 1) ((ft K).a 16) ((ft K).fd 16) ((ft K).ps 16) (spG (gx P w K) tb (n + 1) 16) :=
  fn_okD (N := N_16) (ps := ["self"]) W.F_16 ⟨rfl, rfl, rfl, by decide +kernel, rfl, by decide +kernel, by decide +kernel⟩ rfl rfl (p_16 W ih)
def N_17 : List Str := ["self", "value"]
theorem p_17 (W : WF K mg) (ih : AllOk P w K mg base (gx P w K) tb (ft K) 44 n) (cdv : Value) (A : Around) (outer : List PySem.Env) (s : Shared) (H : Hp) (E : XK) (hr0 : Rb n (A.deeper (envOfC "Lot.__contains__" (defScope (sub 28 4)) s.heap.objs.size ((ft K).a 17) cdv))) :
    PSs (cxOf (L2.CX P w) P w K mg base N_17 "Lot.__contains__" (defScope (sub 28 4)) ((ft K).a 17) cdv A outer s H E) (defBody (sub 28 4)) (tS (gx P w K) (orcN tb n) (fun c d _ H => E c d H) c_17) := by
  have R : Rn (cxOf (L2.CX P w) P w K mg base N_17 "Lot.__contains__" (defScope (sub 28 4)) ((ft K).a 17) cdv A outer s H E) (gx P w K) (orcN tb n) tb (ft K) 44 n (fun c d _ H => E c d H) := Rn.fn rfl rfl rfl (by decide +kernel) hr0 ih
  have hu := G.hu_of R.room
  have hu5 := G.hu5_of R.room
  exact ss_cons (s_ret (m_cmp (o_in (by exact hu5) R.K) (m_var (i := 1) rfl (vis_of rfl) rfl rfl) (m_attr rfl nmsOk (show _ < 8 by decide) rfl (m_var (i := 0) rfl (vis_of rfl) rfl rfl) rfl) rfl)) (ss_nil)
theorem ok_17 (W : WF K mg) (ih : AllOk P w K mg base (gx P w K) tb (ft K) 44 n) : FnG P w K mg base (n + 1) ((ft K).a 17) ((ft K).fd 17) ((ft K).ps 17) (spG (gx P w K) tb (n + 1) 17) :=
  fn_okD (N := N_17) (ps := ["self", "value"]) W.F_17 ⟨rfl, rfl, rfl, by decide +kernel, rfl, by decide +kernel, by decide +kernel⟩ rfl rfl (p_17 W ih)
def N_18 : List Str := ["self", "other"]
theorem p_18 (W : WF K mg) (ih : AllOk P w K mg base (gx P w K) tb (ft K) 44 n) (cdv : Value) (A : Around) (outer : List PySem.Env) (s : Shared) (H : Hp) (E : XK) (hr0 : Rb n (A.deeper (envOfC "Lot.__eq__" (defScope (sub 28 5)) s.heap.objs.size ((ft K).a 18) cdv))) :
    PSs (cxOf (L2.CX P w) P w K mg base N_18 "Lot.__eq__" (defScope (sub 28 5)) ((ft K).a 18) cdv A outer s H E) (defBody (sub 28 5)) (tS (gx P w K) (orcN tb n) (fun c d _ H => E c d H) c_18) := by
  have R : Rn (cxOf (L2.CX P w) P w K mg base N_18 "Lot.__eq__" (defScope (sub 28 5)) ((ft K).a 18) cdv A outer s H E) (gx P w K) (orcN tb n) tb (ft K) 44 n (fun c d _ H => E c d H) := Rn.fn rfl rfl rfl (by decide +kernel) hr0 ih
  have hu := G.hu_of R.room
  have hu5 := G.hu5_of R.room
  exact ss_cons (s_ret (m_and (e_isi R.K W.ty_Lot rfl W.f_isinstance (m_var (i := 1) rfl (vis_of rfl) rfl rfl) (pe_glob (v := .ref (He.ga K "Lot")) (u := .ref (He.ga K "Lot")) rfl W.gi_Lot rfl) (.own _) rfl rfl rfl) (m_and1 (m_cmp (o_eq (by exact hu)) (m_attr rfl nmsOk (show _ < 8 by decide) rfl (m_var (i := 0) rfl (vis_of rfl) rfl rfl) rfl) (m_attr rfl nmsOk (show _ < 8 by decide) rfl (m_var (i := 1) rfl (vis_of rfl) rfl rfl) rfl) (nomark _))))) (ss_nil)
theorem ok_18 (W : WF K mg) (ih : AllOk P w K mg base (gx P w K) tb (ft K) 44 n) : FnG P w K mg base (n + 1) ((ft K).a 18) ((ft K).fd 18) ((ft K).ps 18) (spG (gx P w K) tb (n + 1) 18) :=
  fn_okD (N := N_18) (ps := ["self", "other"]) W.F_18 ⟨rfl, rfl, rfl, by decide +kernel, rfl, by decide +kernel, by decide +kernel⟩ rfl rfl (p_18 W ih)
def N_19 : List Str := ["self", "other", "rule"]
theorem p_19 (W : WF K mg) (ih : AllOk P w K mg base (gx P w K) tb (ft K) 44 n) (cdv : Value) (A : Around) (outer : List PySem.Env) (s : Shared) (H : Hp) (E : XK) (hr0 : Rb n (A.deeper (envOfC "Lot.__add__" (defScope (sub 28 6)) s.heap.objs.size ((ft K).a 19) cdv))) :
    PSs (cxOf (L2.CX P w) P w K mg base N_19 "Lot.__add__" (defScope (sub 28 6)) ((ft K).a 19) cdv A outer s H E) (defBody (sub 28 6)) (tS (gx P w K) (orcN tb n) (fun c d _ H => E c d H) c_19) := by
  have R : Rn (cxOf (L2.CX P w) P w K mg base N_19 "Lot.__add__" (defScope (sub 28 6)) ((ft K).a 19) cdv A outer s H E) (gx P w K) (orcN tb n) tb (ft K) 44 n (fun c d _ H => E c d H) := Rn.fn rfl rfl rfl (by decide +kernel) hr0 ih
  have hu := G.hu_of R.room
  have hu5 := G.hu5_of R.room
  exact ss_cons (s_ret (e_new (x := "Lot") R (c := 0) (f := 13) (by decide) W.cls_Lot W.mk_Lot W.b_13 rfl W.gc_Lot (l_cons (m_bin o_add (m_attr rfl nmsOk (show _ < 8 by decide) rfl (m_var (i := 0) rfl (vis_of rfl) rfl rfl) rfl) (by refine m_lc R.calm R.nd (own := [("rule", 2)]) (f := cIf (eOp oNotIn (eVar 2) (eAttr (eVar 0) 3))) (hi := ?hi_20) (ok := ?ok_20) (hg := ?hg_20) (ht := ?ht_20) (he := ?he_20) (hs := ?hs_20); (case hi_20 => exact i_val (m_attr rfl nmsOk (show _ < 8 by decide) rfl (m_var (i := 1) rfl (vis_of rfl) rfl rfl) rfl)); (case ok_20 => exact blk_ok (N := N_19) (sc := defScope (sub 28 6)) (own := [("rule", 2)]) (by decide +kernel)); (case hg_20 => exact (inBlk R fun s H C cl fp R => v_name (by decide) R.nd rfl (loc_of rfl) (by first | exact .inl rfl | exact .inr rfl))); (case ht_20 => exact (.one (inBlk R fun s H C cl fp R => m_cmpT R.K (o_notin (by exact hu5) R.K) (m_var (i := 2) rfl (vis_of rfl) rfl rfl) (m_attr rfl nmsOk (show _ < 8 by decide) rfl (m_var (i := 0) rfl (vis_of rfl) rfl rfl) rfl) rfl))); (case he_20 => exact (inBlk R fun s H C cl fp R => m_var (i := 2) rfl (vis_of rfl) rfl rfl)); (case hs_20 => exact fun _ => rfl))) (l_nil) rfl) rfl rfl rfl)) (ss_nil)
theorem ok_19 (W : WF K mg) (ih : AllOk P w K mg base (gx P w K) tb (ft K) 44 n) : FnG P w K mg base (n + 1) ((ft K).a 19) ((ft K).fd 19) ((ft K).ps 19) (spG (gx P w K) tb (n + 1) 19) :=
  fn_okD (N := N_19) (ps := ["self", "other"]) W.F_19 ⟨rfl, rfl, rfl, by decide +kernel, rfl, by decide +kernel, by decide +kernel⟩ rfl rfl (p_19 W ih)
def N_20 : List Str := ["self"]
theorem p_20 (W : WF K mg) (ih : AllOk P w K mg base (gx P w K) tb (ft K) 44 n) (cdv : Value) (A : Around) (outer : List PySem.Env) (s : Shared) (H : Hp) (E : XK) (hr0 : Rb n (A.deeper (envOfC "Lot.turned" (defScope (sub 28 7)) s.heap.objs.size ((ft K).a 20) cdv))) :
    PSs (cxOf (L2.CX P w) P w K mg base N_20 "Lot.turned" (defScope (sub 28 7)) ((ft K).a 20) cdv A outer s H E) (defBody (sub 28 7)) (tS (gx P w K) (orcN tb n) (fun c d _ H => E c d H) c_20) := by
  have R : Rn (cxOf (L2.CX P w) P w K mg base N_20 "Lot.turned" (defScope (sub 28 7)) ((ft K).a 20) cdv A outer s H E) (gx P w K) (orcN tb n) tb (ft K) 44 n (fun c d _ H => E c d H) := Rn.fn rfl rfl rfl (by decide +kernel) hr0 ih
  have hu := G.hu_of R.room
  have hu5 := G.hu5_of R.room
  exact ss_cons (s_expr (e_call (x := "_wall") R (f := 0) (by decide) rfl W.g_0 W.k_0 W.b_0 (l_cons (m_int) (l_nil) rfl) rfl rfl rfl) rfl) (ss_nil)
theorem ok_20 (W : WF K mg) (ih : AllOk P w K mg base (gx P w K) tb (ft K) 44 n) : FnG P w K mg base (n + 1) ((ft K).a 20) ((ft K).fd 20) ((ft K).ps 20) (spG (gx P w K) tb (n + 1) 20) :=
  fn_okD (N := N_20) (ps := ["self"]) W.F_20 ⟨rfl, rfl, rfl, by decide +kernel, rfl, by decide +kernel, by decide +kernel⟩ rfl rfl (p_20 W ih)
def N_21 : List Str := ["self", "number"]
theorem p_21 (W : WF K mg) (ih : AllOk P w K mg base (gx P w K) tb (ft K) 44 n) (cdv : Value) (A : Around) (outer : List PySem.Env) (s : Shared) (H : Hp) (E : XK) (hr0 : Rb n (A.deeper (envOfC "Lot.without" (defScope (sub 28 8)) s.heap.objs.size ((ft K).a 21) cdv))) :
    PSs (cxOf (L2.CX P w) P w K mg base N_21 "Lot.without" (defScope (sub 28 8)) ((ft K).a 21) cdv A outer s H E) (defBody (sub 28 8)) (tS (gx P w K) (orcN tb n) (fun c d _ H => E c d H) c_21) := by
  have R : Rn (cxOf (L2.CX P w) P w K mg base N_21 "Lot.without" (defScope (sub 28 8)) ((ft K).a 21) cdv A outer s H E) (gx P w K) (orcN tb n) tb (ft K) 44 n (fun c d _ H => E c d H) := Rn.fn rfl rfl rfl (by decide +kernel) hr0 ih
  have hu := G.hu_of R.room
  have hu5 := G.hu5_of R.room
  exact ss_cons (s_expr (e_call (x := "_wall") R (f := 0) (by decide) rfl W.g_0 W.k_0 W.b_0 (l_cons (m_int) (l_nil) rfl) rfl rfl rfl) rfl) (ss_nil)
theorem ok_21 (W : WF K mg) (ih : AllOk P w K mg base (gx P w K) tb (ft K) 44 n) : FnG P w K mg base (n + 1) ((ft K).a 21) ((ft K).fd 21) ((ft K).ps 21) (spG (gx P w K) tb (n + 1) 21) :=
  fn_okD (N := N_21) (ps := ["self", "number"]) W.F_21 ⟨rfl, rfl, rfl, by decide +kernel, rfl, by decide +kernel, by decide +kernel⟩ rfl rfl (p_21 W ih)
def N_22 : List Str := ["tree", "place", "left", "right", "part"]
theorem p_22 (W : WF K mg) (ih : AllOk P w K mg base (gx P w K) tb (ft K) 44 n) (cdv : Value) (A : Around) (outer : List PySem.Env) (s : Shared) (H : Hp) (E : XK) (hr0 : Rb n (A.deeper (envOfC "put_by" (defScope (top 29)) s.heap.objs.size ((ft K).a 22) cdv))) :
    PSs (cxOf (L2.CX P w) P w K mg base N_22 "put_by" (defScope (top 29)) ((ft K).a 22) cdv A outer s H E) (defBody (top 29)) (tS (gx P w K) (orcN tb n) (fun c d _ H => E c d H) c_22) := by
  have R : Rn (cxOf (L2.CX P w) P w K mg base N_22 "put_by" (defScope (top 29)) ((ft K).a 22) cdv A outer s H E) (gx P w K) (orcN tb n) tb (ft K) 44 n (fun c d _ H => E c d H) := Rn.fn rfl rfl rfl (by decide +kernel) hr0 ih
  have hu := G.hu_of R.room
  have hu5 := G.hu5_of R.room
  exact ss_cons (s_try_only ⟨rfl, rfl⟩ R.takes rfl rfl ⟨rfl, rfl, .inl W.gx_NoPlace⟩ W.cl_NoPlace (fun W2 pn xe h1 h2 => have R := R.tr h1 h2; ss_cons (s_set R.nd rfl (loc_of rfl) (e_call (x := "part_at") R (f := 9) (by decide) rfl W.g_9 W.k_9 W.b_9 (l_cons (m_var (i := 0) rfl (vis_of rfl) rfl rfl) (l_cons (m_var (i := 1) rfl (vis_of rfl) rfl rfl) (l_nil) rfl) rfl) rfl rfl rfl) rfl (.inl rfl)) (ss_nil)) (fun a oe c d fs pn hz hf hy hq => ss_cons (s_ret (m_non)) (ss_nil))) (ss_cons (s_ret (m_if (m_cmpT R.K (o_eq (by exact hu)) (m_var (i := 4) rfl (vis_of rfl) rfl rfl) (m_var (i := 2) rfl (vis_of rfl) rfl rfl) (nomark _)) (e_callP (x := "put") rfl R (f := 10) (by decide) rfl W.g_10 W.k_10 W.b_10 (l_cons (m_var (i := 0) rfl (vis_of rfl) rfl rfl) (l_cons (m_var (i := 1) rfl (vis_of rfl) rfl rfl) (l_cons (m_var (i := 3) rfl (vis_of rfl) rfl rfl) (l_nil) rfl) rfl) rfl) rfl rfl rfl) (m_non))) (ss_nil))
theorem ok_22 (W : WF K mg) (ih : AllOk P w K mg base (gx P w K) tb (ft K) 44 n) : FnG P w K mg base (n + 1) ((ft K).a 22) ((ft K).fd 22) ((ft K).ps 22) (spG (gx P w K) tb (n + 1) 22) :=
  fn_okD (N := N_22) (ps := ["tree", "place", "left", "right"]) W.F_22 ⟨rfl, rfl, rfl, by decide +kernel, rfl, by decide +kernel, by decide +kernel⟩ rfl rfl (p_22 W ih)
def N_23 : List Str := ["lot", "tree", "step", "left", "right"]
theorem p_23 (W : WF K mg) (ih : AllOk P w K mg base (gx P w K) tb (ft K) 44 n) (cdv : Value) (A : Around) (outer : List PySem.Env) (s : Shared) (H : Hp) (E : XK) (hr0 : Rb n (A.deeper (envOfC "stepped" (defScope (top 30)) s.heap.objs.size ((ft K).a 23) cdv))) :
    PSs (cxOf (L2.CX P w) P w K mg base N_23 "stepped" (defScope (top 30)) ((ft K).a 23) cdv A outer s H E) (defBody (top 30)) (tS (gx P w K) (orcN tb n) (fun c d _ H => E c d H) c_23) := by
  have R : Rn (cxOf (L2.CX P w) P w K mg base N_23 "stepped" (defScope (top 30)) ((ft K).a 23) cdv A outer s H E) (gx P w K) (orcN tb n) tb (ft K) 44 n (fun c d _ H => E c d H) := Rn.fn rfl rfl rfl (by decide +kernel) hr0 ih
  have hu := G.hu_of R.room
  have hu5 := G.hu5_of R.room
  exact ss_cons (s_if (PW.pt (w_or (m_notT (m_truth R.K (e_isi R.K ty_tup rfl W.f_isinstance (m_var (i := 2) rfl (vis_of rfl) rfl rfl) (pe_bltn (v := .ty "tuple") (u := .type "tuple") rfl W.f_tuple (by decide +kernel) rfl (by decide) rfl) (.ty "tuple") rfl rfl rfl) (fun _ => rfl))) (w_or (m_cmpT R.K (o_ne (by exact hu)) (e_bi (x := "len") (b_len R.K) rfl W.f_len W.v_len (l_cons (m_var (i := 2) rfl (vis_of rfl) rfl rfl) (l_nil) rfl) (by decide) rfl rfl rfl) (m_int) (nomark _)) (w_or1 (m_notT (m_truth R.K (e_callP (x := "is_number") rfl R (f := 1) (by decide) rfl W.g_1 W.k_1 W.b_1 (l_cons (m_ix (m_var (i := 2) rfl (vis_of rfl) rfl rfl) (m_int) (fun _ _ => rfl)) (l_cons (e_bi (x := "len") (b_lenJ R W.mt___len__) rfl W.f_len W.v_len (l_cons (m_var (i := 0) rfl (vis_of rfl) rfl rfl) (l_nil) rfl) (by decide) rfl rfl rfl) (l_nil) rfl) rfl) rfl rfl rfl) (fun _ => rfl))))))) (ss_cons (s_ret (m_non)) (ss_nil)) (ss_nil)) (ss_cons (s_asg (m_ix (e_meth0 R W.mt_rules (m_var (i := 0) rfl (vis_of rfl) rfl rfl) rfl) (m_ix (m_var (i := 2) rfl (vis_of rfl) rfl rfl) (m_int) (fun _ _ => rfl)) (fun _ _ => rfl)) (g_tup R.calm (gs_cons (g_name R.nd rfl (loc_of rfl) (.inl rfl)) (gs_cons (g_name R.nd rfl (loc_of rfl) (.inl rfl)) (gs_nil) rfl) rfl) rfl rfl) rfl rfl rfl) (ss_cons (s_ret (e_call (x := "put_by") R (f := 22) (by decide) rfl W.g_22 W.k_22 W.b_22 (l_cons (m_var (i := 1) rfl (vis_of rfl) rfl rfl) (l_cons (m_ix (m_var (i := 2) rfl (vis_of rfl) rfl rfl) (m_int) (fun _ _ => rfl)) (l_cons (m_var (i := 3) rfl (vis_of rfl) rfl rfl) (l_cons (m_var (i := 4) rfl (vis_of rfl) rfl rfl) (l_nil) rfl) rfl) rfl) rfl) rfl rfl rfl)) (ss_nil)))
theorem ok_23 (W : WF K mg) (ih : AllOk P w K mg base (gx P w K) tb (ft K) 44 n) : FnG P w K mg base (n + 1) ((ft K).a 23) ((ft K).fd 23) ((ft K).ps 23) (spG (gx P w K) tb (n + 1) 23) :=
  fn_okD (N := N_23) (ps := ["lot", "tree", "step"]) W.F_23 ⟨rfl, rfl, rfl, by decide +kernel, rfl, by decide +kernel, by decide +kernel⟩ rfl rfl (p_23 W ih)
def N_24 : List Str := ["lot", "tree", "way", "found", "at", "step"]
theorem p_24 (W : WF K mg) (ih : AllOk P w K mg base (gx P w K) tb (ft K) 44 n) (cdv : Value) (A : Around) (outer : List PySem.Env) (s : Shared) (H : Hp) (E : XK) (hr0 : Rb n (A.deeper (envOfC "after" (defScope (top 31)) s.heap.objs.size ((ft K).a 24) cdv))) :
    PSs (cxOf (L2.CX P w) P w K mg base N_24 "after" (defScope (top 31)) ((ft K).a 24) cdv A outer s H E) (defBody (top 31)) (tS (gx P w K) (orcN tb n) (fun c d _ H => E c d H) c_24) := by
  have R : Rn (cxOf (L2.CX P w) P w K mg base N_24 "after" (defScope (top 31)) ((ft K).a 24) cdv A outer s H E) (gx P w K) (orcN tb n) tb (ft K) 44 n (fun c d _ H => E c d H) := Rn.fn rfl rfl rfl (by decide +kernel) hr0 ih
  have hu := G.hu_of R.room
  have hu5 := G.hu5_of R.room
  exact ss_cons (s_if (m_notT (m_truth R.K (e_isi R.K ty_lst rfl W.f_isinstance (m_var (i := 2) rfl (vis_of rfl) rfl rfl) (pe_bltn (v := .ty "list") (u := .type "list") rfl W.f_list (by decide +kernel) rfl (by decide) rfl) (.ty "list") rfl rfl rfl) (fun _ => rfl))) (ss_cons (s_raise R W.ox_NoStep W.ic_NoStep W.ti_NoStep W.fi_NoStep R.room.rm.room W.bi_NoStep W.no_NoStep rfl (show _ < 8 by decide) rfl W.gx_NoStep (m_int) rfl rfl) (ss_nil)) (ss_nil)) (ss_cons (s_set R.nd rfl (loc_of rfl) (m_var (i := 1) rfl (vis_of rfl) rfl rfl) rfl (.inl rfl)) (ss_cons (s_for R.owns R.calm (i_enum rfl (W.f_enumerate) (m_var (i := 2) rfl (vis_of rfl) rfl rfl) rfl) (g_tup R.calm (gs_cons (g_name R.nd rfl (loc_of rfl) (.inl rfl)) (gs_cons (g_name R.nd rfl (loc_of rfl) (.inl rfl)) (gs_nil) rfl) rfl) rfl rfl) (ss_cons (s_set R.nd rfl (loc_of rfl) (e_call (x := "stepped") R (f := 23) (by decide) rfl W.g_23 W.k_23 W.b_23 (l_cons (m_var (i := 0) rfl (vis_of rfl) rfl rfl) (l_cons (m_var (i := 3) rfl (vis_of rfl) rfl rfl) (l_cons (m_var (i := 5) rfl (vis_of rfl) rfl rfl) (l_nil) rfl) rfl) rfl) rfl rfl rfl) rfl (.inl rfl)) (ss_cons (s_if (m_cmpT R.K o_is (m_var (i := 3) rfl (vis_of rfl) rfl rfl) (m_non) (nomark _)) (ss_cons (s_raise R W.ox_NoStep W.ic_NoStep W.ti_NoStep W.fi_NoStep R.room.rm.room W.bi_NoStep W.no_NoStep rfl (show _ < 8 by decide) rfl W.gx_NoStep (m_var (i := 4) rfl (vis_of rfl) rfl rfl) rfl rfl) (ss_nil)) (ss_nil)) (ss_nil))) (fun _ => rfl)) (ss_cons (s_ret (m_var (i := 3) rfl (vis_of rfl) rfl rfl)) (ss_nil))))
theorem ok_24 (W : WF K mg) (ih : AllOk P w K mg base (gx P w K) tb (ft K) 44 n) : FnG P w K mg base (n + 1) ((ft K).a 24) ((ft K).fd 24) ((ft K).ps 24) (spG (gx P w K) tb (n + 1) 24) :=
  fn_okD (N := N_24) (ps := ["lot", "tree", "way"]) W.F_24 ⟨rfl, rfl, rfl, by decide +kernel, rfl, by decide +kernel, by decide +kernel⟩ rfl rfl (p_24 W ih)
def N_25 : List Str := ["rules", "trees", "found", "tree"]
theorem p_25 (W : WF K mg) (ih : AllOk P w K mg base (gx P w K) tb (ft K) 44 n) (cdv : Value) (A : Around) (outer : List PySem.Env) (s : Shared) (H : Hp) (E : XK) (hr0 : Rb n (A.deeper (envOfC "told_and_own" (defScope (top 34)) s.heap.objs.size ((ft K).a 25) cdv))) :
    PSs (cxOf (L2.CX P w) P w K mg base N_25 "told_and_own" (defScope (top 34)) ((ft K).a 25) cdv A outer s H E) (defBody (top 34)) (tS (gx P w K) (orcN tb n) (fun c d _ H => E c d H) c_25) := by
  have R : Rn (cxOf (L2.CX P w) P w K mg base N_25 "told_and_own" (defScope (top 34)) ((ft K).a 25) cdv A outer s H E) (gx P w K) (orcN tb n) tb (ft K) 44 n (fun c d _ H => E c d H) := Rn.fn rfl rfl rfl (by decide +kernel) hr0 ih
  have hu := G.hu_of R.room
  have hu5 := G.hu5_of R.room
  exact ss_cons (s_set R.nd rfl (loc_of rfl) (e_call (x := "parts_of") R (f := 12) (by decide) rfl W.g_12 W.k_12 W.b_12 (l_cons (m_var (i := 0) rfl (vis_of rfl) rfl rfl) (l_nil) rfl) rfl rfl rfl) rfl (.inl rfl)) (ss_cons (s_for R.owns R.calm (i_val (m_var (i := 1) rfl (vis_of rfl) rfl rfl)) (g_name R.nd rfl (loc_of rfl) (.inl rfl)) (ss_cons (s_set R.nd rfl (loc_of rfl) (m_bin o_add (m_var (i := 2) rfl (vis_of rfl) rfl rfl) (e_callL (x := "parts") rfl R (f := 8) (by decide) rfl W.g_8 W.k_8 W.b_8 (l_cons (m_var (i := 3) rfl (vis_of rfl) rfl rfl) (l_nil) rfl) rfl rfl rfl)) rfl (.inl rfl)) (ss_nil)) (fun _ => rfl)) (ss_cons (s_ret (e_call (x := "ordered") R (f := 7) (by decide) rfl W.g_7 W.k_7 W.b_7 (l_cons (m_var (i := 2) rfl (vis_of rfl) rfl rfl) (l_nil) rfl) rfl rfl rfl)) (ss_nil)))
theorem ok_25 (W : WF K mg) (ih : AllOk P w K mg base (gx P w K) tb (ft K) 44 n) : FnG P w K mg base (n + 1) ((ft K).a 25) ((ft K).fd 25) ((ft K).ps 25) (spG (gx P w K) tb (n + 1) 25) :=
  fn_okD (N := N_25) (ps := ["rules", "trees"]) W.F_25 ⟨rfl, rfl, rfl, by decide +kernel, rfl, by decide +kernel, by decide +kernel⟩ rfl rfl (p_25 W ih)
def N_26 : List Str := ["self", "rules", "trees", "is_new", "one", "other", "part"]
theorem p_26 (W : WF K mg) (ih : AllOk P w K mg base (gx P w K) tb (ft K) 44 n) (cdv : Value) (A : Around) (outer : List PySem.Env) (s : Shared) (H : Hp) (E : XK) (hr0 : Rb n (A.deeper (envOfC "Table.__init__" (defScope (sub 35 0)) s.heap.objs.size ((ft K).a 26) cdv))) :
    PSs (cxOf (L2.CX P w) P w K mg base N_26 "Table.__init__" (defScope (sub 35 0)) ((ft K).a 26) cdv A outer s H E) (defBody (sub 35 0)) (tS (gx P w K) (orcN tb n) (fun c d _ H => E c d H) c_26) := by
  have R : Rn (cxOf (L2.CX P w) P w K mg base N_26 "Table.__init__" (defScope (sub 35 0)) ((ft K).a 26) cdv A outer s H E) (gx P w K) (orcN tb n) tb (ft K) 44 n (fun c d _ H => E c d H) := Rn.fn rfl rfl rfl (by decide +kernel) hr0 ih
  have hu := G.hu_of R.room
  have hu5 := G.hu5_of R.room
  exact ss_cons (s_asg (m_var (i := 1) rfl (vis_of rfl) rfl rfl) (g_attr R.K nmsOk.inj rfl (fun c h => W.fl_used c h) (m_var (i := 0) rfl (vis_of rfl) rfl rfl)) rfl rfl rfl) (ss_cons (s_asg (e_call (x := "told_and_own") R (f := 25) (by decide) rfl W.g_25 W.k_25 W.b_25 (l_cons (m_var (i := 1) rfl (vis_of rfl) rfl rfl) (l_cons (m_var (i := 2) rfl (vis_of rfl) rfl rfl) (l_nil) rfl) rfl) rfl rfl rfl) (g_attr R.K nmsOk.inj rfl (fun c h => W.fl_some c h) (m_var (i := 0) rfl (vis_of rfl) rfl rfl)) rfl rfl rfl) (ss_cons (s_asg (by refine m_lc2 R.calm R.nd (own := [("one", 4), ("other", 5)]) (vs1 := [5]) (f := id) (f1 := cIf (eOp oEq (eCallP 6 (elCons (eVar 4) (elNil))) (eCallP 6 (elCons (eVar 5) (elNil))))) (hi := ?hi_21) (ok := ?ok_21) (hv := ?hv_21) (hg := ?hg_21) (ht := ?ht_21) (hi1 := ?hi1_21) (hg1 := ?hg1_21) (ht1 := ?ht1_21) (he := ?he_21) (hs := ?hs_21) (hs1 := ?hs1_21); (case hi_21 => exact i_val (m_attr rfl nmsOk (show _ < 8 by decide) rfl (m_var (i := 0) rfl (vis_of rfl) rfl rfl) rfl)); (case ok_21 => exact blk_ok (N := N_26) (sc := defScope (sub 35 0)) (own := [("one", 4), ("other", 5)]) (by decide +kernel)); (case hv_21 => exact by decide); (case hg_21 => exact (inBlk R fun s H C cl fp R => v_name (by decide) R.nd rfl (loc_of rfl) (by first | exact .inl rfl | exact .inr rfl))); (case ht_21 => exact .no); (case hi1_21 => exact (inBlk R fun s H C cl fp R => i_val (m_attr rfl nmsOk (show _ < 8 by decide) rfl (m_var (i := 0) rfl (vis_of rfl) rfl rfl) rfl))); (case hg1_21 => exact (inBlk R fun s H C cl fp R => v_name (by decide) R.nd rfl (loc_of rfl) (by first | exact .inl rfl | exact .inr rfl))); (case ht1_21 => exact (.one (inBlk R fun s H C cl fp R => m_cmpT R.K (o_eq (by exact hu)) (e_callP (x := "sign_of") rfl R (f := 6) (by decide) rfl W.g_6 W.k_6 W.b_6 (l_cons (m_var (i := 4) rfl (vis_of rfl) rfl rfl) (l_nil) rfl) rfl rfl rfl) (e_callP (x := "sign_of") rfl R (f := 6) (by decide) rfl W.g_6 W.k_6 W.b_6 (l_cons (m_var (i := 5) rfl (vis_of rfl) rfl rfl) (l_nil) rfl) rfl rfl rfl) (nomark _)))); (case he_21 => exact (inBlk R fun s H C cl fp R => m_tup (l_cons (m_var (i := 4) rfl (vis_of rfl) rfl rfl) (l_cons (m_var (i := 5) rfl (vis_of rfl) rfl rfl) (l_nil) rfl) rfl))); (case hs_21 => exact fun _ => rfl); (case hs1_21 => exact fun _ _ => rfl)) (g_attr R.K nmsOk.inj rfl (fun c h => W.fl_like c h) (m_var (i := 0) rfl (vis_of rfl) rfl rfl)) rfl rfl rfl) (ss_cons (s_asg (by refine m_dc R.P R.w (by exact hu) R.calm R.nd (own := [("part", 6)]) (f := id) (hi := ?hi_22) (ok := ?ok_22) (hg := ?hg_22) (ht := ?ht_22) (hk := ?hk_22) (he := ?he_22) (hs := ?hs_22); (case hi_22 => exact i_val (m_attr rfl nmsOk (show _ < 8 by decide) rfl (m_var (i := 0) rfl (vis_of rfl) rfl rfl) rfl)); (case ok_22 => exact blk_ok (N := N_26) (sc := defScope (sub 35 0)) (own := [("part", 6)]) (by decide +kernel)); (case hg_22 => exact (inBlk R fun s H C cl fp R => v_name (by decide) R.nd rfl (loc_of rfl) (by first | exact .inl rfl | exact .inr rfl))); (case ht_22 => exact .no); (case hk_22 => exact (inBlk R fun s H C cl fp R => m_tup (l_cons (m_var (i := 6) rfl (vis_of rfl) rfl rfl) (l_cons (m_var (i := 6) rfl (vis_of rfl) rfl rfl) (l_nil) rfl) rfl))); (case he_22 => exact (inBlk R fun s H C cl fp R => m_int)); (case hs_22 => exact fun _ => rfl)) (g_attr R.K nmsOk.inj rfl (fun c h => W.fl_least c h) (m_var (i := 0) rfl (vis_of rfl) rfl rfl)) rfl rfl rfl) (ss_cons (s_set R.nd rfl (loc_of rfl) (m_bl) rfl (.inl rfl)) (ss_cons (s_while R.owns (m_truth R.K (m_var (i := 3) rfl (vis_of rfl) rfl rfl) (fun _ => rfl)) (ss_cons (s_set R.nd rfl (loc_of rfl) (e_meth0 R W.mt_look_through_rules (m_var (i := 0) rfl (vis_of rfl) rfl rfl) rfl) rfl (.inl rfl)) (ss_cons (s_set R.nd rfl (loc_of rfl) (m_or (e_meth0 R W.mt_look_at_children (m_var (i := 0) rfl (vis_of rfl) rfl rfl) rfl) (m_and1 (m_var (i := 3) rfl (vis_of rfl) rfl rfl))) rfl (.inl rfl)) (ss_nil)))) (ss_nil))))))
theorem ok_26 (W : WF K mg) (ih : AllOk P w K mg base (gx P w K) tb (ft K) 44 n) : FnG P w K mg base (n + 1) ((ft K).a 26) ((ft K).fd 26) ((ft K).ps 26) (spG (gx P w K) tb (n + 1) 26) :=
  fn_okD (N := N_26) (ps := ["self", "rules", "trees"]) W.F_26 ⟨rfl, rfl, rfl, by decide +kernel, rfl, by decide +kernel, by decide +kernel⟩ rfl rfl (p_26 W ih)
def N_27 : List Str := ["self", "one", "other", "numbers", "pair"]
theorem p_27 (W : WF K mg) (ih : AllOk P w K mg base (gx P w K) tb (ft K) 44 n) (cdv : Value) (A : Around) (outer : List PySem.Env) (s : Shared) (H : Hp) (E : XK) (hr0 : Rb n (A.deeper (envOfC "Table.by_children" (defScope (sub 35 1)) s.heap.objs.size ((ft K).a 27) cdv))) :
    PSs (cxOf (L2.CX P w) P w K mg base N_27 "Table.by_children" (defScope (sub 35 1)) ((ft K).a 27) cdv A outer s H E) (defBody (sub 35 1)) (tS (gx P w K) (orcN tb n) (fun c d _ H => E c d H) c_27) := by
  have R : Rn (cxOf (L2.CX P w) P w K mg base N_27 "Table.by_children" (defScope (sub 35 1)) ((ft K).a 27) cdv A outer s H E) (gx P w K) (orcN tb n) tb (ft K) 44 n (fun c d _ H => E c d H) := Rn.fn rfl rfl rfl (by decide +kernel) hr0 ih
  have hu := G.hu_of R.room
  have hu5 := G.hu5_of R.room
  exact ss_cons (s_if (m_cmpT R.K (o_ne (by exact hu)) (e_callP (x := "sign_of") rfl R (f := 6) (by decide) rfl W.g_6 W.k_6 W.b_6 (l_cons (m_var (i := 1) rfl (vis_of rfl) rfl rfl) (l_nil) rfl) rfl rfl rfl) (e_callP (x := "sign_of") rfl R (f := 6) (by decide) rfl W.g_6 W.k_6 W.b_6 (l_cons (m_var (i := 2) rfl (vis_of rfl) rfl rfl) (l_nil) rfl) rfl rfl rfl) (nomark _)) (ss_cons (s_ret (m_non)) (ss_nil)) (ss_nil)) (ss_cons (s_lc R.calm R.nd rfl rfl (sw_true rfl rfl rfl rfl) (own := [("pair", 4)]) (f := id) (hi := i_zipN (fun _ _ => rfl) rfl (W.f_zip) (l_cons (m_sl R.K (m_var (i := 1) rfl (vis_of rfl) rfl rfl) (o_some (m_int)) (o_none)) (l_cons (m_sl R.K (m_var (i := 2) rfl (vis_of rfl) rfl rfl) (o_some (m_int)) (o_none)) (l_nil) rfl) rfl) rfl rfl) (ok := blk_ok (N := N_27) (sc := defScope (sub 35 1)) (own := [("pair", 4)]) (by decide +kernel)) (hg := (inBlk R fun s H C cl fp R => v_name (by decide) R.nd rfl (loc_of rfl) (by first | exact .inl rfl | exact .inr rfl))) (ht := .no) (he := (inBlk R fun s H C cl fp R => e_get R.P R.w (by exact hu) (m_attr rfl nmsOk (show _ < 8 by decide) rfl (m_var (i := 0) rfl (vis_of rfl) rfl rfl) rfl) (l_cons (m_var (i := 4) rfl (vis_of rfl) rfl rfl) (l_nil) rfl) rfl rfl rfl rfl rfl)) (hs := fun _ => rfl)) (ss_cons (s_ret (m_if (m_cmpT R.K (o_in (by exact hu5) R.K) (m_non) (m_var (i := 3) rfl (vis_of rfl) rfl rfl) rfl) (m_non) (e_bi (x := "sum") (b_sum R.calm) rfl W.f_sum W.v_sum (l_cons (m_var (i := 3) rfl (vis_of rfl) rfl rfl) (l_nil) rfl) (by decide) rfl rfl rfl))) (ss_nil)))
theorem ok_27 (W : WF K mg) (ih : AllOk P w K mg base (gx P w K) tb (ft K) 44 n) : FnG P w K mg base (n + 1) ((ft K).a 27) ((ft K).fd 27) ((ft K).ps 27) (spG (gx P w K) tb (n + 1) 27) :=
  fn_okD (N := N_27) (ps := ["self", "one", "other"]) W.F_27 ⟨rfl, rfl, rfl, by decide +kernel, rfl, by decide +kernel, by decide +kernel⟩ rfl rfl (p_27 W ih)
def N_28 : List Str := ["self", "one", "other", "number"]
theorem p_28 (W : WF K mg) (ih : AllOk P w K mg base (gx P w K) tb (ft K) 44 n) (cdv : Value) (A : Around) (outer : List PySem.Env) (s : Shared) (H : Hp) (E : XK) (hr0 : Rb n (A.deeper (envOfC "Table.lower" (defScope (sub 35 2)) s.heap.objs.size ((ft K).a 28) cdv))) :
    PSs (cxOf (L2.CX P w) P w K mg base N_28 "Table.lower" (defScope (sub 35 2)) ((ft K).a 28) cdv A outer s H E) (defBody (sub 35 2)) (tS (gx P w K) (orcN tb n) (fun c d _ H => E c d H) c_28) := by
  have R : Rn (cxOf (L2.CX P w) P w K mg base N_28 "Table.lower" (defScope (sub 35 2)) ((ft K).a 28) cdv A outer s H E) (gx P w K) (orcN tb n) tb (ft K) 44 n (fun c d _ H => E c d H) := Rn.fn rfl rfl rfl (by decide +kernel) hr0 ih
  have hu := G.hu_of R.room
  have hu5 := G.hu5_of R.room
  exact ss_cons (s_if (PW.pt (w_and (m_cmpT R.K (o_inK R.P R.w (by exact hu)) (m_tup (l_cons (m_var (i := 1) rfl (vis_of rfl) rfl rfl) (l_cons (m_var (i := 2) rfl (vis_of rfl) rfl rfl) (l_nil) rfl) rfl)) (m_attr rfl nmsOk (show _ < 8 by decide) rfl (m_var (i := 0) rfl (vis_of rfl) rfl rfl) rfl) rfl) (w_and1 (m_cmpT R.K o_le (m_ixK R.P R.w (by exact hu) (m_attr rfl nmsOk (show _ < 8 by decide) rfl (m_var (i := 0) rfl (vis_of rfl) rfl rfl) rfl) (m_tup (l_cons (m_var (i := 1) rfl (vis_of rfl) rfl rfl) (l_cons (m_var (i := 2) rfl (vis_of rfl) rfl rfl) (l_nil) rfl) rfl)) (fun _ _ => rfl)) (m_var (i := 3) rfl (vis_of rfl) rfl rfl) (nomark _))))) (ss_cons (s_ret (m_bl)) (ss_nil)) (ss_nil)) (ss_cons (s_asg (m_var (i := 3) rfl (vis_of rfl) rfl rfl) (g_subK R.P R.w (by exact hu) (m_attr rfl nmsOk (show _ < 8 by decide) rfl (m_var (i := 0) rfl (vis_of rfl) rfl rfl) rfl) (m_tup (l_cons (m_var (i := 1) rfl (vis_of rfl) rfl rfl) (l_cons (m_var (i := 2) rfl (vis_of rfl) rfl rfl) (l_nil) rfl) rfl)) (fun _ => rfl)) rfl rfl rfl) (ss_cons (s_ret (m_bl)) (ss_nil)))
theorem ok_28 (W : WF K mg) (ih : AllOk P w K mg base (gx P w K) tb (ft K) 44 n) : FnG P w K mg base (n + 1) ((ft K).a 28) ((ft K).fd 28) ((ft K).ps 28) (spG (gx P w K) tb (n + 1) 28) :=
  fn_okD (N := N_28) (ps := ["self", "one", "other", "number"]) W.F_28 ⟨rfl, rfl, rfl, by decide +kernel, rfl, by decide +kernel, by decide +kernel⟩ rfl rfl (p_28 W ih)
def N_29 : List Str := ["self", "is_new", "one", "other", "number"]
theorem p_29 (W : WF K mg) (ih : AllOk P w K mg base (gx P w K) tb (ft K) 44 n) (cdv : Value) (A : Around) (outer : List PySem.Env) (s : Shared) (H : Hp) (E : XK) (hr0 : Rb n (A.deeper (envOfC "Table.look_at_children" (defScope (sub 35 3)) s.heap.objs.size ((ft K).a 29) cdv))) :
    PSs (cxOf (L2.CX P w) P w K mg base N_29 "Table.look_at_children" (defScope (sub 35 3)) ((ft K).a 29) cdv A outer s H E) (defBody (sub 35 3)) (tS (gx P w K) (orcN tb n) (fun c d _ H => E c d H) c_29) := by
  have R : Rn (cxOf (L2.CX P w) P w K mg base N_29 "Table.look_at_children" (defScope (sub 35 3)) ((ft K).a 29) cdv A outer s H E) (gx P w K) (orcN tb n) tb (ft K) 44 n (fun c d _ H => E c d H) := Rn.fn rfl rfl rfl (by decide +kernel) hr0 ih
  have hu := G.hu_of R.room
  have hu5 := G.hu5_of R.room
  exact ss_cons (s_set R.nd rfl (loc_of rfl) (m_bl) rfl (.inl rfl)) (ss_cons (s_for R.owns R.calm (i_val (m_attr rfl nmsOk (show _ < 8 by decide) rfl (m_var (i := 0) rfl (vis_of rfl) rfl rfl) rfl)) (g_tup R.calm (gs_cons (g_name R.nd rfl (loc_of rfl) (.inl rfl)) (gs_cons (g_name R.nd rfl (loc_of rfl) (.inl rfl)) (gs_nil) rfl) rfl) rfl rfl) (ss_cons (s_set R.nd rfl (loc_of rfl) (e_meth R W.mt_by_children (m_var (i := 0) rfl (vis_of rfl) rfl rfl) (l_cons (m_var (i := 2) rfl (vis_of rfl) rfl rfl) (l_cons (m_var (i := 3) rfl (vis_of rfl) rfl rfl) (l_nil) rfl) rfl) rfl rfl rfl) rfl (.inl rfl)) (ss_cons (s_if (m_cmpT R.K o_isnot (m_var (i := 4) rfl (vis_of rfl) rfl rfl) (m_non) (nomark _)) (ss_cons (s_set R.nd rfl (loc_of rfl) (m_or (e_meth R W.mt_lower (m_var (i := 0) rfl (vis_of rfl) rfl rfl) (l_cons (m_var (i := 2) rfl (vis_of rfl) rfl rfl) (l_cons (m_var (i := 3) rfl (vis_of rfl) rfl rfl) (l_cons (m_var (i := 4) rfl (vis_of rfl) rfl rfl) (l_nil) rfl) rfl) rfl) rfl rfl rfl) (m_and1 (m_var (i := 1) rfl (vis_of rfl) rfl rfl))) rfl (.inl rfl)) (ss_nil)) (ss_nil)) (ss_nil))) (fun _ => rfl)) (ss_cons (s_ret (m_var (i := 1) rfl (vis_of rfl) rfl rfl)) (ss_nil)))
theorem ok_29 (W : WF K mg) (ih : AllOk P w K mg base (gx P w K) tb (ft K) 44 n) : FnG P w K mg base (n + 1) ((ft K).a 29) ((ft K).fd 29) ((ft K).ps 29) (spG (gx P w K) tb (n + 1) 29) :=
  fn_okD (N := N_29) (ps := ["self"]) W.F_29 ⟨rfl, rfl, rfl, by decide +kernel, rfl, by decide +kernel, by decide +kernel⟩ rfl rfl (p_29 W ih)
def N_30 : List Str := ["self", "is_new", "left", "right", "one", "ahead", "other", "behind"]
theorem p_30 (W : WF K mg) (ih : AllOk P w K mg base (gx P w K) tb (ft K) 44 n) (cdv : Value) (A : Around) (outer : List PySem.Env) (s : Shared) (H : Hp) (E : XK) (hr0 : Rb n (A.deeper (envOfC "Table.look_through_rules" (defScope (sub 35 4)) s.heap.objs.size ((ft K).a 30) cdv))) :
    PSs (cxOf (L2.CX P w) P w K mg base N_30 "Table.look_through_rules" (defScope (sub 35 4)) ((ft K).a 30) cdv A outer s H E) (defBody (sub 35 4)) (tS (gx P w K) (orcN tb n) (fun c d _ H => E c d H) c_30) := by
  have R : Rn (cxOf (L2.CX P w) P w K mg base N_30 "Table.look_through_rules" (defScope (sub 35 4)) ((ft K).a 30) cdv A outer s H E) (gx P w K) (orcN tb n) tb (ft K) 44 n (fun c d _ H => E c d H) := Rn.fn rfl rfl rfl (by decide +kernel) hr0 ih
  have hu := G.hu_of R.room
  have hu5 := G.hu5_of R.room
  exact ss_cons (s_set R.nd rfl (loc_of rfl) (m_bl) rfl (.inl rfl)) (ss_cons (s_for R.owns R.calm (i_val (m_attr rfl nmsOk (show _ < 8 by decide) rfl (m_var (i := 0) rfl (vis_of rfl) rfl rfl) rfl)) (g_tup R.calm (gs_cons (g_name R.nd rfl (loc_of rfl) (.inl rfl)) (gs_cons (g_name R.nd rfl (loc_of rfl) (.inl rfl)) (gs_nil) rfl) rfl) rfl rfl) (ss_cons (s_lc R.calm R.nd rfl rfl (sw_true rfl rfl rfl rfl) (own := [("one", 4)]) (f := cIf (eOp oInK (eTup (elCons (eVar 4) (elCons (eVar 2) (elNil)))) (eAttr (eVar 0) 7))) (hi := i_val (m_attr rfl nmsOk (show _ < 8 by decide) rfl (m_var (i := 0) rfl (vis_of rfl) rfl rfl) rfl)) (ok := blk_ok (N := N_30) (sc := defScope (sub 35 4)) (own := [("one", 4)]) (by decide +kernel)) (hg := (inBlk R fun s H C cl fp R => v_name (by decide) R.nd rfl (loc_of rfl) (by first | exact .inl rfl | exact .inr rfl))) (ht := (.one (inBlk R fun s H C cl fp R => m_cmpT R.K (o_inK R.P R.w (by exact hu)) (m_tup (l_cons (m_var (i := 4) rfl (vis_of rfl) rfl rfl) (l_cons (m_var (i := 2) rfl (vis_of rfl) rfl rfl) (l_nil) rfl) rfl)) (m_attr rfl nmsOk (show _ < 8 by decide) rfl (m_var (i := 0) rfl (vis_of rfl) rfl rfl) rfl) rfl))) (he := (inBlk R fun s H C cl fp R => m_var (i := 4) rfl (vis_of rfl) rfl rfl)) (hs := fun _ => rfl)) (ss_cons (s_lc R.calm R.nd rfl rfl (sw_true rfl rfl rfl rfl) (own := [("other", 6)]) (f := cIf (eOp oInK (eTup (elCons (eVar 3) (elCons (eVar 6) (elNil)))) (eAttr (eVar 0) 7))) (hi := i_val (m_attr rfl nmsOk (show _ < 8 by decide) rfl (m_var (i := 0) rfl (vis_of rfl) rfl rfl) rfl)) (ok := blk_ok (N := N_30) (sc := defScope (sub 35 4)) (own := [("other", 6)]) (by decide +kernel)) (hg := (inBlk R fun s H C cl fp R => v_name (by decide) R.nd rfl (loc_of rfl) (by first | exact .inl rfl | exact .inr rfl))) (ht := (.one (inBlk R fun s H C cl fp R => m_cmpT R.K (o_inK R.P R.w (by exact hu)) (m_tup (l_cons (m_var (i := 3) rfl (vis_of rfl) rfl rfl) (l_cons (m_var (i := 6) rfl (vis_of rfl) rfl rfl) (l_nil) rfl) rfl)) (m_attr rfl nmsOk (show _ < 8 by decide) rfl (m_var (i := 0) rfl (vis_of rfl) rfl rfl) rfl) rfl))) (he := (inBlk R fun s H C cl fp R => m_var (i := 6) rfl (vis_of rfl) rfl rfl)) (hs := fun _ => rfl)) (ss_cons (s_for R.owns R.calm (i_val (m_var (i := 5) rfl (vis_of rfl) rfl rfl)) (g_name R.nd rfl (loc_of rfl) (.inl rfl)) (ss_cons (s_for R.owns R.calm (i_val (m_var (i := 7) rfl (vis_of rfl) rfl rfl)) (g_name R.nd rfl (loc_of rfl) (.inl rfl)) (ss_cons (s_set R.nd rfl (loc_of rfl) (m_or (e_meth R W.mt_lower (m_var (i := 0) rfl (vis_of rfl) rfl rfl) (l_cons (m_var (i := 4) rfl (vis_of rfl) rfl rfl) (l_cons (m_var (i := 6) rfl (vis_of rfl) rfl rfl) (l_cons (e_meth R W.mt_by_rule (m_var (i := 0) rfl (vis_of rfl) rfl rfl) (l_cons (m_var (i := 4) rfl (vis_of rfl) rfl rfl) (l_cons (m_var (i := 6) rfl (vis_of rfl) rfl rfl) (l_cons (m_var (i := 2) rfl (vis_of rfl) rfl rfl) (l_cons (m_var (i := 3) rfl (vis_of rfl) rfl rfl) (l_nil) rfl) rfl) rfl) rfl) rfl rfl rfl) (l_nil) rfl) rfl) rfl) rfl rfl rfl) (m_and1 (m_var (i := 1) rfl (vis_of rfl) rfl rfl))) rfl (.inl rfl)) (ss_nil)) (fun _ => rfl)) (ss_nil)) (fun _ => rfl)) (ss_nil)))) (fun _ => rfl)) (ss_cons (s_ret (m_var (i := 1) rfl (vis_of rfl) rfl rfl)) (ss_nil)))
theorem ok_30 (W : WF K mg) (ih : AllOk P w K mg base (gx P w K) tb (ft K) 44 n) : FnG P w K mg base (n + 1) ((ft K).a 30) ((ft K).fd 30) ((ft K).ps 30) (spG (gx P w K) tb (n + 1) 30) :=
  fn_okD (N := N_30) (ps := ["self"]) W.F_30 ⟨rfl, rfl, rfl, by decide +kernel, rfl, by decide +kernel, by decide +kernel⟩ rfl rfl (p_30 W ih)
def N_31 : List Str := ["self", "one", "other", "left", "right", "ahead", "behind"]
theorem p_31 (W : WF K mg) (ih : AllOk P w K mg base (gx P w K) tb (ft K) 44 n) (cdv : Value) (A : Around) (outer : List PySem.Env) (s : Shared) (H : Hp) (E : XK) (hr0 : Rb n (A.deeper (envOfC "Table.by_rule" (defScope (sub 35 5)) s.heap.objs.size ((ft K).a 31) cdv))) :
    PSs (cxOf (L2.CX P w) P w K mg base N_31 "Table.by_rule" (defScope (sub 35 5)) ((ft K).a 31) cdv A outer s H E) (defBody (sub 35 5)) (tS (gx P w K) (orcN tb n) (fun c d _ H => E c d H) c_31) := by
  have R : Rn (cxOf (L2.CX P w) P w K mg base N_31 "Table.by_rule" (defScope (sub 35 5)) ((ft K).a 31) cdv A outer s H E) (gx P w K) (orcN tb n) tb (ft K) 44 n (fun c d _ H => E c d H) := Rn.fn rfl rfl rfl (by decide +kernel) hr0 ih
  have hu := G.hu_of R.room
  have hu5 := G.hu5_of R.room
  exact ss_cons (s_par R.calm R.nd rfl rfl (by decide) rfl rfl (l_cons (e_get R.P R.w (by exact hu) (m_attr rfl nmsOk (show _ < 8 by decide) rfl (m_var (i := 0) rfl (vis_of rfl) rfl rfl) rfl) (l_cons (m_tup (l_cons (m_var (i := 1) rfl (vis_of rfl) rfl rfl) (l_cons (m_var (i := 3) rfl (vis_of rfl) rfl rfl) (l_nil) rfl) rfl)) (l_nil) rfl) rfl rfl rfl rfl rfl) (l_cons (e_get R.P R.w (by exact hu) (m_attr rfl nmsOk (show _ < 8 by decide) rfl (m_var (i := 0) rfl (vis_of rfl) rfl rfl) rfl) (l_cons (m_tup (l_cons (m_var (i := 4) rfl (vis_of rfl) rfl rfl) (l_cons (m_var (i := 2) rfl (vis_of rfl) rfl rfl) (l_nil) rfl) rfl)) (l_nil) rfl) rfl rfl rfl rfl rfl) (l_nil) rfl) rfl) rfl rfl) (ss_cons (s_ret (m_if (PW.pt (w_or (m_cmpT R.K o_is (m_var (i := 5) rfl (vis_of rfl) rfl rfl) (m_non) (nomark _)) (w_or1 (m_cmpT R.K o_is (m_var (i := 6) rfl (vis_of rfl) rfl rfl) (m_non) (nomark _))))) (m_non) (m_bin o_add (m_bin o_add (m_var (i := 5) rfl (vis_of rfl) rfl rfl) (m_int)) (m_var (i := 6) rfl (vis_of rfl) rfl rfl)))) (ss_nil))
theorem ok_31 (W : WF K mg) (ih : AllOk P w K mg base (gx P w K) tb (ft K) 44 n) : FnG P w K mg base (n + 1) ((ft K).a 31) ((ft K).fd 31) ((ft K).ps 31) (spG (gx P w K) tb (n + 1) 31) :=
  fn_okD (N := N_31) (ps := ["self", "one", "other", "left", "right"]) W.F_31 ⟨rfl, rfl, rfl, by decide +kernel, rfl, by decide +kernel, by decide +kernel⟩ rfl rfl (p_31 W ih)
def N_32 : List Str := ["self", "one", "other"]
theorem p_32 (W : WF K mg) (ih : AllOk P w K mg base (gx P w K) tb (ft K) 44 n) (cdv : Value) (A : Around) (outer : List PySem.Env) (s : Shared) (H : Hp) (E : XK) (hr0 : Rb n (A.deeper (envOfC "Table.becomes" (defScope (sub 35 6)) s.heap.objs.size ((ft K).a 32) cdv))) :
    PSs (cxOf (L2.CX P w) P w K mg base N_32 "Table.becomes" (defScope (sub 35 6)) ((ft K).a 32) cdv A outer s H E) (defBody (sub 35 6)) (tS (gx P w K) (orcN tb n) (fun c d _ H => E c d H) c_32) := by
  have R : Rn (cxOf (L2.CX P w) P w K mg base N_32 "Table.becomes" (defScope (sub 35 6)) ((ft K).a 32) cdv A outer s H E) (gx P w K) (orcN tb n) tb (ft K) 44 n (fun c d _ H => E c d H) := Rn.fn rfl rfl rfl (by decide +kernel) hr0 ih
  have hu := G.hu_of R.room
  have hu5 := G.hu5_of R.room
  exact ss_cons (s_ret (m_cmp (o_inK R.P R.w (by exact hu)) (m_tup (l_cons (m_var (i := 1) rfl (vis_of rfl) rfl rfl) (l_cons (m_var (i := 2) rfl (vis_of rfl) rfl rfl) (l_nil) rfl) rfl)) (m_attr rfl nmsOk (show _ < 8 by decide) rfl (m_var (i := 0) rfl (vis_of rfl) rfl rfl) rfl) rfl)) (ss_nil)
theorem ok_32 (W : WF K mg) (ih : AllOk P w K mg base (gx P w K) tb (ft K) 44 n) : FnG P w K mg base (n + 1) ((ft K).a 32) ((ft K).fd 32) ((ft K).ps 32) (spG (gx P w K) tb (n + 1) 32) :=
  fn_okD (N := N_32) (ps := ["self", "one", "other"]) W.F_32 ⟨rfl, rfl, rfl, by decide +kernel, rfl, by decide +kernel, by decide +kernel⟩ rfl rfl (p_32 W ih)
def N_33 : List Str := ["self", "one", "other", "number", "found", "at", "child", "goal", "rule", "left", "right", "place"]
theorem p_33 (W : WF K mg) (ih : AllOk P w K mg base (gx P w K) tb (ft K) 44 n) (cdv : Value) (A : Around) (outer : List PySem.Env) (s : Shared) (H : Hp) (E : XK) (hr0 : Rb n (A.deeper (envOfC "Table.way" (defScope (sub 35 7)) s.heap.objs.size ((ft K).a 33) cdv))) :
    PSs (cxOf (L2.CX P w) P w K mg base N_33 "Table.way" (defScope (sub 35 7)) ((ft K).a 33) cdv A outer s H E) (defBody (sub 35 7)) (tS (gx P w K) (orcN tb n) (fun c d _ H => E c d H) c_33) := by
  have R : Rn (cxOf (L2.CX P w) P w K mg base N_33 "Table.way" (defScope (sub 35 7)) ((ft K).a 33) cdv A outer s H E) (gx P w K) (orcN tb n) tb (ft K) 44 n (fun c d _ H => E c d H) := Rn.fn rfl rfl rfl (by decide +kernel) hr0 ih
  have hu := G.hu_of R.room
  have hu5 := G.hu5_of R.room
  exact ss_cons (s_set R.nd rfl (loc_of rfl) (m_ixK R.P R.w (by exact hu) (m_attr rfl nmsOk (show _ < 8 by decide) rfl (m_var (i := 0) rfl (vis_of rfl) rfl rfl) rfl) (m_tup (l_cons (m_var (i := 1) rfl (vis_of rfl) rfl rfl) (l_cons (m_var (i := 2) rfl (vis_of rfl) rfl rfl) (l_nil) rfl) rfl)) (fun _ _ => rfl)) rfl (.inl rfl)) (ss_cons (s_if (m_cmpT R.K (o_eq (by exact hu)) (m_var (i := 3) rfl (vis_of rfl) rfl rfl) (m_int) (nomark _)) (ss_cons (s_ret (m_lst (l_nil))) (ss_nil)) (ss_nil)) (ss_cons (s_if (m_cmpT R.K (o_eq (by exact hu)) (e_meth R W.mt_by_children (m_var (i := 0) rfl (vis_of rfl) rfl rfl) (l_cons (m_var (i := 1) rfl (vis_of rfl) rfl rfl) (l_cons (m_var (i := 2) rfl (vis_of rfl) rfl rfl) (l_nil) rfl) rfl) rfl rfl rfl) (m_var (i := 3) rfl (vis_of rfl) rfl rfl) (nomark _)) (ss_cons (s_set R.nd rfl (loc_of rfl) (m_lst (l_nil)) rfl (.inl rfl)) (ss_cons (s_for R.owns R.calm (i_enumZ rfl (W.f_enumerate) rfl (W.f_zip) (l_cons (m_sl R.K (m_var (i := 1) rfl (vis_of rfl) rfl rfl) (o_some (m_int)) (o_none)) (l_cons (m_sl R.K (m_var (i := 2) rfl (vis_of rfl) rfl rfl) (o_some (m_int)) (o_none)) (l_nil) rfl) rfl) rfl rfl rfl) (g_tup R.calm (gs_cons (g_name R.nd rfl (loc_of rfl) (.inl rfl)) (gs_cons (g_tup R.calm (gs_cons (g_name R.nd rfl (loc_of rfl) (.inl rfl)) (gs_cons (g_name R.nd rfl (loc_of rfl) (.inl rfl)) (gs_nil) rfl) rfl) rfl rfl) (gs_nil) rfl) rfl) rfl rfl) (ss_cons (s_set R.nd rfl (loc_of rfl) (m_bin o_add (m_var (i := 4) rfl (vis_of rfl) rfl rfl) (by refine m_lc R.calm R.nd (own := [("place", 11), ("rule", 8)]) (f := id) (hi := ?hi_23) (ok := ?ok_23) (hg := ?hg_23) (ht := ?ht_23) (he := ?he_23) (hs := ?hs_23); (case hi_23 => exact i_val (e_meth R W.mt_way (m_var (i := 0) rfl (vis_of rfl) rfl rfl) (l_cons (m_var (i := 6) rfl (vis_of rfl) rfl rfl) (l_cons (m_var (i := 7) rfl (vis_of rfl) rfl rfl) (l_nil) rfl) rfl) rfl rfl rfl)); (case ok_23 => exact blk_ok (N := N_33) (sc := defScope (sub 35 7)) (own := [("place", 11), ("rule", 8)]) (by decide +kernel)); (case hg_23 => exact (inBlk R fun s H C cl fp R => v_tup R.calm (vs_cons (v_name (by decide) R.nd rfl (loc_of rfl) (by first | exact .inl rfl | exact .inr rfl)) (vs_cons (v_name (by decide) R.nd rfl (loc_of rfl) (by first | exact .inl rfl | exact .inr rfl)) (vs_nil) rfl) rfl) rfl rfl)); (case ht_23 => exact .no); (case he_23 => exact (inBlk R fun s H C cl fp R => m_tup (l_cons (m_bin o_add (m_tup (l_cons (m_var (i := 5) rfl (vis_of rfl) rfl rfl) (l_nil) rfl)) (m_var (i := 11) rfl (vis_of rfl) rfl rfl)) (l_cons (m_var (i := 8) rfl (vis_of rfl) rfl rfl) (l_nil) rfl) rfl))); (case hs_23 => exact fun _ => rfl))) rfl (.inl rfl)) (ss_nil)) (fun _ => rfl)) (ss_cons (s_ret (m_var (i := 4) rfl (vis_of rfl) rfl rfl)) (ss_nil)))) (ss_nil)) (ss_cons (s_for R.owns R.calm (i_enum rfl (W.f_enumerate) (m_attr rfl nmsOk (show _ < 8 by decide) rfl (m_var (i := 0) rfl (vis_of rfl) rfl rfl) rfl) rfl) (g_tup R.calm (gs_cons (g_name R.nd rfl (loc_of rfl) (.inl rfl)) (gs_cons (g_tup R.calm (gs_cons (g_name R.nd rfl (loc_of rfl) (.inl rfl)) (gs_cons (g_name R.nd rfl (loc_of rfl) (.inl rfl)) (gs_nil) rfl) rfl) rfl rfl) (gs_nil) rfl) rfl) rfl rfl) (ss_cons (s_if (m_cmpT R.K (o_eq (by exact hu)) (e_meth R W.mt_by_rule (m_var (i := 0) rfl (vis_of rfl) rfl rfl) (l_cons (m_var (i := 1) rfl (vis_of rfl) rfl rfl) (l_cons (m_var (i := 2) rfl (vis_of rfl) rfl rfl) (l_cons (m_var (i := 9) rfl (vis_of rfl) rfl rfl) (l_cons (m_var (i := 10) rfl (vis_of rfl) rfl rfl) (l_nil) rfl) rfl) rfl) rfl) rfl rfl rfl) (m_var (i := 3) rfl (vis_of rfl) rfl rfl) (nomark _)) (ss_cons (s_break) (ss_nil)) (ss_nil)) (ss_nil)) (fun _ => rfl)) (ss_cons (s_ret (m_bin o_add (m_bin o_add (e_meth R W.mt_way (m_var (i := 0) rfl (vis_of rfl) rfl rfl) (l_cons (m_var (i := 1) rfl (vis_of rfl) rfl rfl) (l_cons (m_var (i := 9) rfl (vis_of rfl) rfl rfl) (l_nil) rfl) rfl) rfl rfl rfl) (m_lst (l_cons (m_tup (l_cons (m_tup (l_nil)) (l_cons (m_var (i := 8) rfl (vis_of rfl) rfl rfl) (l_nil) rfl) rfl)) (l_nil) rfl))) (e_meth R W.mt_way (m_var (i := 0) rfl (vis_of rfl) rfl rfl) (l_cons (m_var (i := 10) rfl (vis_of rfl) rfl rfl) (l_cons (m_var (i := 2) rfl (vis_of rfl) rfl rfl) (l_nil) rfl) rfl) rfl rfl rfl))) (ss_nil)))))
theorem ok_33 (W : WF K mg) (ih : AllOk P w K mg base (gx P w K) tb (ft K) 44 n) : FnG P w K mg base (n + 1) ((ft K).a 33) ((ft K).fd 33) ((ft K).ps 33) (spG (gx P w K) tb (n + 1) 33) :=
  fn_okD (N := N_33) (ps := ["self", "one", "other"]) W.F_33 ⟨rfl, rfl, rfl, by decide +kernel, rfl, by decide +kernel, by decide +kernel⟩ rfl rfl (p_33 W ih)
def N_34 : List Str := ["lot", "tree", "other", "table", "found", "one", "two"]
theorem p_34 (W : WF K mg) (ih : AllOk P w K mg base (gx P w K) tb (ft K) 44 n) (cdv : Value) (A : Around) (outer : List PySem.Env) (s : Shared) (H : Hp) (E : XK) (hr0 : Rb n (A.deeper (envOfC "number_table" (defScope (top 36)) s.heap.objs.size ((ft K).a 34) cdv))) :
    PSs (cxOf (L2.CX P w) P w K mg base N_34 "number_table" (defScope (top 36)) ((ft K).a 34) cdv A outer s H E) (defBody (top 36)) (tS (gx P w K) (orcN tb n) (fun c d _ H => E c d H) c_34) := by
  have R : Rn (cxOf (L2.CX P w) P w K mg base N_34 "number_table" (defScope (top 36)) ((ft K).a 34) cdv A outer s H E) (gx P w K) (orcN tb n) tb (ft K) 44 n (fun c d _ H => E c d H) := Rn.fn rfl rfl rfl (by decide +kernel) hr0 ih
  have hu := G.hu_of R.room
  have hu5 := G.hu5_of R.room
  exact ss_cons (s_par R.calm R.nd rfl rfl (by decide) rfl rfl (l_cons (e_new (x := "Table") R (c := 1) (f := 26) (by decide) W.cls_Table W.mk_Table W.b_26 rfl W.gc_Table (l_cons (e_meth0 R W.mt_rules (m_var (i := 0) rfl (vis_of rfl) rfl rfl) rfl) (l_cons (m_lst (l_cons (m_var (i := 1) rfl (vis_of rfl) rfl rfl) (l_cons (m_var (i := 2) rfl (vis_of rfl) rfl rfl) (l_nil) rfl) rfl)) (l_nil) rfl) rfl) rfl rfl rfl) (l_cons (m_lst (l_nil)) (l_nil) rfl) rfl) rfl rfl) (ss_cons (s_for R.owns R.calm (i_val (m_attr rfl nmsOk (show _ < 8 by decide) rfl (m_var (i := 3) rfl (vis_of rfl) rfl rfl) rfl)) (g_name R.nd rfl (loc_of rfl) (.inl rfl)) (ss_cons (s_for R.owns R.calm (i_val (m_attr rfl nmsOk (show _ < 8 by decide) rfl (m_var (i := 3) rfl (vis_of rfl) rfl rfl) rfl)) (g_name R.nd rfl (loc_of rfl) (.inl rfl)) (ss_cons (s_if (m_truth R.K (e_meth R W.mt_becomes (m_var (i := 3) rfl (vis_of rfl) rfl rfl) (l_cons (m_var (i := 5) rfl (vis_of rfl) rfl rfl) (l_cons (m_var (i := 6) rfl (vis_of rfl) rfl rfl) (l_nil) rfl) rfl) rfl rfl rfl) (fun _ => rfl)) (ss_cons (s_expr (e_bmL PySem.F.slot_list_append PySem.F.type_list_append bm_append (m_var (i := 4) rfl (vis_of rfl) rfl rfl) (l_cons (m_tup (l_cons (m_var (i := 5) rfl (vis_of rfl) rfl rfl) (l_cons (m_var (i := 6) rfl (vis_of rfl) rfl rfl) (l_cons (m_ixK R.P R.w (by exact hu) (m_attr rfl nmsOk (show _ < 8 by decide) rfl (m_var (i := 3) rfl (vis_of rfl) rfl rfl) rfl) (m_tup (l_cons (m_var (i := 5) rfl (vis_of rfl) rfl rfl) (l_cons (m_var (i := 6) rfl (vis_of rfl) rfl rfl) (l_nil) rfl) rfl)) (fun _ _ => rfl)) (l_nil) rfl) rfl) rfl)) (l_nil) rfl) rfl rfl rfl rfl rfl) rfl) (ss_nil)) (ss_nil)) (ss_nil)) (fun _ => rfl)) (ss_nil)) (fun _ => rfl)) (ss_cons (s_ret (m_var (i := 4) rfl (vis_of rfl) rfl rfl)) (ss_nil)))
theorem ok_34 (W : WF K mg) (ih : AllOk P w K mg base (gx P w K) tb (ft K) 44 n) : FnG P w K mg base (n + 1) ((ft K).a 34) ((ft K).fd 34) ((ft K).ps 34) (spG (gx P w K) tb (n + 1) 34) :=
  fn_okD (N := N_34) (ps := ["lot", "tree", "other"]) W.F_34 ⟨rfl, rfl, rfl, by decide +kernel, rfl, by decide +kernel, by decide +kernel⟩ rfl rfl (p_34 W ih)
def N_35 : List Str := ["table", "tree", "other", "number"]
theorem p_35 (W : WF K mg) (ih : AllOk P w K mg base (gx P w K) tb (ft K) 44 n) (cdv : Value) (A : Around) (outer : List PySem.Env) (s : Shared) (H : Hp) (E : XK) (hr0 : Rb n (A.deeper (envOfC "told_way" (defScope (top 37)) s.heap.objs.size ((ft K).a 35) cdv))) :
    PSs (cxOf (L2.CX P w) P w K mg base N_35 "told_way" (defScope (top 37)) ((ft K).a 35) cdv A outer s H E) (defBody (top 37)) (tS (gx P w K) (orcN tb n) (fun c d _ H => E c d H) c_35) := by
  have R : Rn (cxOf (L2.CX P w) P w K mg base N_35 "told_way" (defScope (top 37)) ((ft K).a 35) cdv A outer s H E) (gx P w K) (orcN tb n) tb (ft K) 44 n (fun c d _ H => E c d H) := Rn.fn rfl rfl rfl (by decide +kernel) hr0 ih
  have hu := G.hu_of R.room
  have hu5 := G.hu5_of R.room
  exact ss_cons (s_set R.nd rfl (loc_of rfl) (m_ixK R.P R.w (by exact hu) (m_attr rfl nmsOk (show _ < 8 by decide) rfl (m_var (i := 0) rfl (vis_of rfl) rfl rfl) rfl) (m_tup (l_cons (m_var (i := 1) rfl (vis_of rfl) rfl rfl) (l_cons (m_var (i := 2) rfl (vis_of rfl) rfl rfl) (l_nil) rfl) rfl)) (fun _ _ => rfl)) rfl (.inl rfl)) (ss_cons (s_if (m_cmpT R.K o_gt (m_var (i := 3) rfl (vis_of rfl) rfl rfl) (m_gint rfl W.c_MAX_WAY rfl) (nomark _)) (ss_cons (s_raise R W.ox_TooLong W.ic_TooLong W.ti_TooLong W.fi_TooLong R.room.rm.room W.bi_TooLong W.no_TooLong rfl (show _ < 8 by decide) rfl W.gx_TooLong (m_var (i := 3) rfl (vis_of rfl) rfl rfl) rfl rfl) (ss_nil)) (ss_nil)) (ss_cons (s_ret (e_meth R W.mt_way (m_var (i := 0) rfl (vis_of rfl) rfl rfl) (l_cons (m_var (i := 1) rfl (vis_of rfl) rfl rfl) (l_cons (m_var (i := 2) rfl (vis_of rfl) rfl rfl) (l_nil) rfl) rfl) rfl rfl rfl)) (ss_nil)))
theorem ok_35 (W : WF K mg) (ih : AllOk P w K mg base (gx P w K) tb (ft K) 44 n) : FnG P w K mg base (n + 1) ((ft K).a 35) ((ft K).fd 35) ((ft K).ps 35) (spG (gx P w K) tb (n + 1) 35) :=
  fn_okD (N := N_35) (ps := ["table", "tree", "other"]) W.F_35 ⟨rfl, rfl, rfl, by decide +kernel, rfl, by decide +kernel, by decide +kernel⟩ rfl rfl (p_35 W ih)
def N_36 : List Str := ["lot", "tree", "other", "table"]
theorem p_36 (W : WF K mg) (ih : AllOk P w K mg base (gx P w K) tb (ft K) 44 n) (cdv : Value) (A : Around) (outer : List PySem.Env) (s : Shared) (H : Hp) (E : XK) (hr0 : Rb n (A.deeper (envOfC "becomes" (defScope (top 38)) s.heap.objs.size ((ft K).a 36) cdv))) :
    PSs (cxOf (L2.CX P w) P w K mg base N_36 "becomes" (defScope (top 38)) ((ft K).a 36) cdv A outer s H E) (defBody (top 38)) (tS (gx P w K) (orcN tb n) (fun c d _ H => E c d H) c_36) := by
  have R : Rn (cxOf (L2.CX P w) P w K mg base N_36 "becomes" (defScope (top 38)) ((ft K).a 36) cdv A outer s H E) (gx P w K) (orcN tb n) tb (ft K) 44 n (fun c d _ H => E c d H) := Rn.fn rfl rfl rfl (by decide +kernel) hr0 ih
  have hu := G.hu_of R.room
  have hu5 := G.hu5_of R.room
  exact ss_cons (s_set R.nd rfl (loc_of rfl) (e_new (x := "Table") R (c := 1) (f := 26) (by decide) W.cls_Table W.mk_Table W.b_26 rfl W.gc_Table (l_cons (e_meth0 R W.mt_rules (m_var (i := 0) rfl (vis_of rfl) rfl rfl) rfl) (l_cons (m_lst (l_cons (m_var (i := 1) rfl (vis_of rfl) rfl rfl) (l_cons (m_var (i := 2) rfl (vis_of rfl) rfl rfl) (l_nil) rfl) rfl)) (l_nil) rfl) rfl) rfl rfl rfl) rfl (.inl rfl)) (ss_cons (s_if (m_truth R.K (e_meth R W.mt_becomes (m_var (i := 3) rfl (vis_of rfl) rfl rfl) (l_cons (m_var (i := 1) rfl (vis_of rfl) rfl rfl) (l_cons (m_var (i := 2) rfl (vis_of rfl) rfl rfl) (l_nil) rfl) rfl) rfl rfl rfl) (fun _ => rfl)) (ss_cons (s_ret (m_tup (l_cons (m_str rfl (sOk_of rfl)) (l_cons (e_call (x := "told_way") R (f := 35) (by decide) rfl W.g_35 W.k_35 W.b_35 (l_cons (m_var (i := 3) rfl (vis_of rfl) rfl rfl) (l_cons (m_var (i := 1) rfl (vis_of rfl) rfl rfl) (l_cons (m_var (i := 2) rfl (vis_of rfl) rfl rfl) (l_nil) rfl) rfl) rfl) rfl rfl rfl) (l_nil) rfl) rfl))) (ss_nil)) (ss_nil)) (ss_cons (s_ret (m_tup (l_cons (m_str rfl (sOk_of rfl)) (l_cons (e_ty (x := "list") (b_listK R.calm) rfl W.f_list W.v_list (l_cons (m_attr rfl nmsOk (show _ < 8 by decide) rfl (m_var (i := 3) rfl (vis_of rfl) rfl rfl) rfl) (l_nil) rfl) (by decide) rfl rfl rfl) (l_nil) rfl) rfl))) (ss_nil)))
theorem ok_36 (W : WF K mg) (ih : AllOk P w K mg base (gx P w K) tb (ft K) 44 n) : FnG P w K mg base (n + 1) ((ft K).a 36) ((ft K).fd 36) ((ft K).ps 36) (spG (gx P w K) tb (n + 1) 36) :=
  fn_okD (N := N_36) (ps := ["lot", "tree", "other"]) W.F_36 ⟨rfl, rfl, rfl, by decide +kernel, rfl, by decide +kernel, by decide +kernel⟩ rfl rfl (p_36 W ih)
def N_37 : List Str := ["lot", "tree", "other", "value", "found"]
theorem p_37 (W : WF K mg) (ih : AllOk P w K mg base (gx P w K) tb (ft K) 44 n) (cdv : Value) (A : Around) (outer : List PySem.Env) (s : Shared) (H : Hp) (E : XK) (hr0 : Rb n (A.deeper (envOfC "is_way" (defScope (top 39)) s.heap.objs.size ((ft K).a 37) cdv))) :
    PSs (cxOf (L2.CX P w) P w K mg base N_37 "is_way" (defScope (top 39)) ((ft K).a 37) cdv A outer s H E) (defBody (top 39)) (tS (gx P w K) (orcN tb n) (fun c d _ H => E c d H) c_37) := by
  have R : Rn (cxOf (L2.CX P w) P w K mg base N_37 "is_way" (defScope (top 39)) ((ft K).a 37) cdv A outer s H E) (gx P w K) (orcN tb n) tb (ft K) 44 n (fun c d _ H => E c d H) := Rn.fn rfl rfl rfl (by decide +kernel) hr0 ih
  have hu := G.hu_of R.room
  have hu5 := G.hu5_of R.room
  exact ss_cons (s_try_only ⟨rfl, rfl⟩ R.takes rfl rfl ⟨rfl, rfl, .inl W.gx_NoStep⟩ W.cl_NoStep (fun W2 pn xe h1 h2 => have R := R.tr h1 h2; ss_cons (s_set R.nd rfl (loc_of rfl) (e_call (x := "after") R (f := 24) (by decide) rfl W.g_24 W.k_24 W.b_24 (l_cons (m_var (i := 0) rfl (vis_of rfl) rfl rfl) (l_cons (m_var (i := 1) rfl (vis_of rfl) rfl rfl) (l_cons (m_var (i := 3) rfl (vis_of rfl) rfl rfl) (l_nil) rfl) rfl) rfl) rfl rfl rfl) rfl (.inl rfl)) (ss_nil)) (fun a oe c d fs pn hz hf hy hq => ss_cons (s_ret (m_bl)) (ss_nil))) (ss_cons (s_ret (m_cmp (o_eq (by exact hu)) (m_var (i := 4) rfl (vis_of rfl) rfl rfl) (m_var (i := 2) rfl (vis_of rfl) rfl rfl) (nomark _))) (ss_nil))
theorem ok_37 (W : WF K mg) (ih : AllOk P w K mg base (gx P w K) tb (ft K) 44 n) : FnG P w K mg base (n + 1) ((ft K).a 37) ((ft K).fd 37) ((ft K).ps 37) (spG (gx P w K) tb (n + 1) 37) :=
  fn_okD (N := N_37) (ps := ["lot", "tree", "other", "value"]) W.F_37 ⟨rfl, rfl, rfl, by decide +kernel, rfl, by decide +kernel, by decide +kernel⟩ rfl rfl (p_37 W ih)
def N_38 : List Str := ["script", "k", "seed", "digits"]
theorem p_38 (W : WF K mg) (ih : AllOk P w K mg base (gx P w K) tb (ft K) 44 n) (cdv : Value) (A : Around) (outer : List PySem.Env) (s : Shared) (H : Hp) (E : XK) (hr0 : Rb n (A.deeper (envOfC "_law_feed" (defScope (top 41)) s.heap.objs.size ((ft K).a 38) cdv))) :
    PSs (cxOf (L2.CX P w) P w K mg base N_38 "_law_feed" (defScope (top 41)) ((ft K).a 38) cdv A outer s H E) (defBody (top 41)) (tS (gx P w K) (orcN tb n) (fun c d _ H => E c d H) c_38) := by
  have R : Rn (cxOf (L2.CX P w) P w K mg base N_38 "_law_feed" (defScope (top 41)) ((ft K).a 38) cdv A outer s H E) (gx P w K) (orcN tb n) tb (ft K) 44 n (fun c d _ H => E c d H) := Rn.fn rfl rfl rfl (by decide +kernel) hr0 ih
  have hu := G.hu_of R.room
  have hu5 := G.hu5_of R.room
  exact ss_cons (s_set R.nd rfl (loc_of rfl) (m_ix (m_bin o_add (e_ty (x := "list") (b_list R.K) rfl W.f_list W.v_list (l_cons (m_sl R.K (m_var (i := 0) rfl (vis_of rfl) rfl rfl) (o_some (m_var (i := 1) rfl (vis_of rfl) rfl rfl)) (o_some (m_bin o_add (m_var (i := 1) rfl (vis_of rfl) rfl rfl) (m_int)))) (l_nil) rfl) (by decide) rfl rfl rfl) (m_lst (l_cons (m_bin o_add (m_bin o_mul (m_int) (m_var (i := 1) rfl (vis_of rfl) rfl rfl)) (m_int)) (l_nil) rfl))) (m_int) (fun _ _ => rfl)) rfl (.inl rfl)) (ss_cons (s_set R.nd rfl (loc_of rfl) (e_bi (x := "max") (b_max2 R.calm) rfl W.f_max W.v_max (l_cons (m_int) (l_cons (m_bin o_sub (e_bi (x := "abs") b_abs rfl W.f_abs W.v_abs (l_cons (m_var (i := 2) rfl (vis_of rfl) rfl rfl) (l_nil) rfl) (by decide) rfl rfl rfl) (m_bin o_pow (m_int) (m_int))) (l_nil) rfl) rfl) (by decide) rfl rfl rfl) rfl (.inl rfl)) (ss_cons (s_ret (m_lst (l_cons (m_var (i := 3) rfl (vis_of rfl) rfl rfl) (l_cons (m_bin o_mod (e_ty (x := "int") b_int rfl W.f_int W.v_int (l_cons (m_bin o_add (m_bin o_add (m_bin o_mul (m_bin o_mod (e_ty (x := "int") b_int rfl W.f_int W.v_int (l_cons (e_bi (x := "abs") b_abs rfl W.f_abs W.v_abs (l_cons (m_var (i := 2) rfl (vis_of rfl) rfl rfl) (l_nil) rfl) (by decide) rfl rfl rfl) (l_nil) rfl) (by decide) rfl rfl rfl) (m_int)) (m_int)) (m_bin o_mul (m_int) (m_var (i := 1) rfl (vis_of rfl) rfl rfl))) (m_int)) (l_nil) rfl) (by decide) rfl rfl rfl) (m_int)) (l_nil) rfl) rfl))) (ss_nil)))
theorem ok_38 (W : WF K mg) (ih : AllOk P w K mg base (gx P w K) tb (ft K) 44 n) : FnG P w K mg base (n + 1) ((ft K).a 38) ((ft K).fd 38) ((ft K).ps 38) (spG (gx P w K) tb (n + 1) 38) :=
  fn_okD (N := N_38) (ps := ["script", "k"]) W.F_38 ⟨rfl, rfl, rfl, by decide +kernel, rfl, by decide +kernel, by decide +kernel⟩ rfl rfl (p_38 W ih)
def N_39 : List Str := ["feed", "many", "digit"]
theorem p_39 (W : WF K mg) (ih : AllOk P w K mg base (gx P w K) tb (ft K) 44 n) (cdv : Value) (A : Around) (outer : List PySem.Env) (s : Shared) (H : Hp) (E : XK) (hr0 : Rb n (A.deeper (envOfC "_law_take" (defScope (top 42)) s.heap.objs.size ((ft K).a 39) cdv))) :
    PSs (cxOf (L2.CX P w) P w K mg base N_39 "_law_take" (defScope (top 42)) ((ft K).a 39) cdv A outer s H E) (defBody (top 42)) (tS (gx P w K) (orcN tb n) (fun c d _ H => E c d H) c_39) := by
  have R : Rn (cxOf (L2.CX P w) P w K mg base N_39 "_law_take" (defScope (top 42)) ((ft K).a 39) cdv A outer s H E) (gx P w K) (orcN tb n) tb (ft K) 44 n (fun c d _ H => E c d H) := Rn.fn rfl rfl rfl (by decide +kernel) hr0 ih
  have hu := G.hu_of R.room
  have hu5 := G.hu5_of R.room
  exact ss_cons (s_if (m_cmpT R.K o_gt (m_ix (m_var (i := 0) rfl (vis_of rfl) rfl rfl) (m_int) (fun _ _ => rfl)) (m_int) (nomark _)) (ss_cons (s_set R.nd rfl (loc_of rfl) (m_bin o_mod (e_ty (x := "int") b_int rfl W.f_int W.v_int (l_cons (m_ix (m_var (i := 0) rfl (vis_of rfl) rfl rfl) (m_int) (fun _ _ => rfl)) (l_nil) rfl) (by decide) rfl rfl rfl) (m_var (i := 1) rfl (vis_of rfl) rfl rfl)) rfl (.inl rfl)) (ss_cons (s_asg (m_bin o_div (m_ix (m_var (i := 0) rfl (vis_of rfl) rfl rfl) (m_int) (fun _ _ => rfl)) (m_var (i := 1) rfl (vis_of rfl) rfl rfl)) (g_sub (m_var (i := 0) rfl (vis_of rfl) rfl rfl) (m_int) (fun _ => rfl)) rfl rfl rfl) (ss_cons (s_ret (m_var (i := 2) rfl (vis_of rfl) rfl rfl)) (ss_nil)))) (ss_nil)) (ss_cons (s_asg (m_bin o_mod (e_ty (x := "int") b_int rfl W.f_int W.v_int (l_cons (m_bin o_add (m_bin o_mul (m_ix (m_var (i := 0) rfl (vis_of rfl) rfl rfl) (m_int) (fun _ _ => rfl)) (m_int)) (m_int)) (l_nil) rfl) (by decide) rfl rfl rfl) (m_int)) (g_sub (m_var (i := 0) rfl (vis_of rfl) rfl rfl) (m_int) (fun _ => rfl)) rfl rfl rfl) (ss_cons (s_ret (m_bin o_mod (e_ty (x := "int") b_int rfl W.f_int W.v_int (l_cons (m_bin o_div (m_ix (m_var (i := 0) rfl (vis_of rfl) rfl rfl) (m_int) (fun _ _ => rfl)) (m_int)) (l_nil) rfl) (by decide) rfl rfl rfl) (m_var (i := 1) rfl (vis_of rfl) rfl rfl))) (ss_nil)))
theorem ok_39 (W : WF K mg) (ih : AllOk P w K mg base (gx P w K) tb (ft K) 44 n) : FnG P w K mg base (n + 1) ((ft K).a 39) ((ft K).fd 39) ((ft K).ps 39) (spG (gx P w K) tb (n + 1) 39) :=
  fn_okD (N := N_39) (ps := ["feed", "many"]) W.F_39 ⟨rfl, rfl, rfl, by decide +kernel, rfl, by decide +kernel, by decide +kernel⟩ rfl rfl (p_39 W ih)
def N_40 : List Str := ["feed", "some"]
theorem p_40 (W : WF K mg) (ih : AllOk P w K mg base (gx P w K) tb (ft K) 44 n) (cdv : Value) (A : Around) (outer : List PySem.Env) (s : Shared) (H : Hp) (E : XK) (hr0 : Rb n (A.deeper (envOfC "_law_pick" (defScope (top 43)) s.heap.objs.size ((ft K).a 40) cdv))) :
    PSs (cxOf (L2.CX P w) P w K mg base N_40 "_law_pick" (defScope (top 43)) ((ft K).a 40) cdv A outer s H E) (defBody (top 43)) (tS (gx P w K) (orcN tb n) (fun c d _ H => E c d H) c_40) := by
  have R : Rn (cxOf (L2.CX P w) P w K mg base N_40 "_law_pick" (defScope (top 43)) ((ft K).a 40) cdv A outer s H E) (gx P w K) (orcN tb n) tb (ft K) 44 n (fun c d _ H => E c d H) := Rn.fn rfl rfl rfl (by decide +kernel) hr0 ih
  have hu := G.hu_of R.room
  have hu5 := G.hu5_of R.room
  exact ss_cons (s_ret (m_ix (m_var (i := 1) rfl (vis_of rfl) rfl rfl) (e_call (x := "_law_take") R (f := 39) (by decide) rfl W.g_39 W.k_39 W.b_39 (l_cons (m_var (i := 0) rfl (vis_of rfl) rfl rfl) (l_cons (e_bi (x := "len") (b_len R.K) rfl W.f_len W.v_len (l_cons (m_var (i := 1) rfl (vis_of rfl) rfl rfl) (l_nil) rfl) (by decide) rfl rfl rfl) (l_nil) rfl) rfl) rfl rfl rfl) (fun _ _ => rfl))) (ss_nil)
theorem ok_40 (W : WF K mg) (ih : AllOk P w K mg base (gx P w K) tb (ft K) 44 n) : FnG P w K mg base (n + 1) ((ft K).a 40) ((ft K).fd 40) ((ft K).ps 40) (spG (gx P w K) tb (n + 1) 40) :=
  fn_okD (N := N_40) (ps := ["feed", "some"]) W.F_40 ⟨rfl, rfl, rfl, by decide +kernel, rfl, by decide +kernel, by decide +kernel⟩ rfl rfl (p_40 W ih)
def N_41 : List Str := ["f", "part"]
theorem p_41 (W : WF K mg) (ih : AllOk P w K mg base (gx P w K) tb (ft K) 44 n) (cdv : Value) (A : Around) (outer : List PySem.Env) (s : Shared) (H : Hp) (E : XK) (hr0 : Rb n (A.deeper (envOfC "_law_four" (defScope (top 44)) s.heap.objs.size ((ft K).a 41) cdv))) :
    PSs (cxOf (L2.CX P w) P w K mg base N_41 "_law_four" (defScope (top 44)) ((ft K).a 41) cdv A outer s H E) (defBody (top 44)) (tS (gx P w K) (orcN tb n) (fun c d _ H => E c d H) c_41) := by
  have R : Rn (cxOf (L2.CX P w) P w K mg base N_41 "_law_four" (defScope (top 44)) ((ft K).a 41) cdv A outer s H E) (gx P w K) (orcN tb n) tb (ft K) 44 n (fun c d _ H => E c d H) := Rn.fn rfl rfl rfl (by decide +kernel) hr0 ih
  have hu := G.hu_of R.room
  have hu5 := G.hu5_of R.room
  exact ss_cons (s_ret (m_tup (l_cons (m_var (i := 0) rfl (vis_of rfl) rfl rfl) (l_cons (m_var (i := 1) rfl (vis_of rfl) rfl rfl) (l_cons (m_var (i := 1) rfl (vis_of rfl) rfl rfl) (l_cons (m_var (i := 1) rfl (vis_of rfl) rfl rfl) (l_cons (m_var (i := 1) rfl (vis_of rfl) rfl rfl) (l_nil) rfl) rfl) rfl) rfl) rfl))) (ss_nil)
theorem ok_41 (W : WF K mg) (ih : AllOk P w K mg base (gx P w K) tb (ft K) 44 n) : FnG P w K mg base (n + 1) ((ft K).a 41) ((ft K).fd 41) ((ft K).ps 41) (spG (gx P w K) tb (n + 1) 41) :=
  fn_okD (N := N_41) (ps := ["f", "part"]) W.F_41 ⟨rfl, rfl, rfl, by decide +kernel, rfl, by decide +kernel, by decide +kernel⟩ rfl rfl (p_41 W ih)
def N_42 : List Str := ["lot", "tree", "other", "error"]
theorem p_42 (W : WF K mg) (ih : AllOk P w K mg base (gx P w K) tb (ft K) 44 n) (cdv : Value) (A : Around) (outer : List PySem.Env) (s : Shared) (H : Hp) (E : XK) (hr0 : Rb n (A.deeper (envOfC "_law_told_so" (defScope (top 45)) s.heap.objs.size ((ft K).a 42) cdv))) :
    PSs (cxOf (L2.CX P w) P w K mg base N_42 "_law_told_so" (defScope (top 45)) ((ft K).a 42) cdv A outer s H E) (defBody (top 45)) (tS (gx P w K) (orcN tb n) (fun c d _ H => E c d H) c_42) := by
  have R : Rn (cxOf (L2.CX P w) P w K mg base N_42 "_law_told_so" (defScope (top 45)) ((ft K).a 42) cdv A outer s H E) (gx P w K) (orcN tb n) tb (ft K) 44 n (fun c d _ H => E c d H) := Rn.fn rfl rfl rfl (by decide +kernel) hr0 ih
  have hu := G.hu_of R.room
  have hu5 := G.hu5_of R.room
  exact ss_cons (s_try_as ⟨rfl, rfl⟩ R.nd R.takes rfl rfl rfl rfl ⟨rfl, rfl, .inl W.gx_TooLong⟩ W.cl_TooLong (fun W2 pn xe h1 h2 => have R := R.tr h1 h2; ss_cons (s_ret (e_call (x := "becomes") R (f := 36) (by decide) rfl W.g_36 W.k_36 W.b_36 (l_cons (m_var (i := 0) rfl (vis_of rfl) rfl rfl) (l_cons (m_var (i := 1) rfl (vis_of rfl) rfl rfl) (l_cons (m_var (i := 2) rfl (vis_of rfl) rfl rfl) (l_nil) rfl) rfl) rfl) rfl rfl rfl)) (ss_nil)) (fun a oe c d fs pn hz hf hy hq => ss_cons (s_ret (m_tup (l_cons (m_str rfl (sOk_of rfl)) (l_cons (m_err hz hf (W.xn_TooLong _ (any_mem hy)).1 (W.xn_TooLong _ (any_mem hy)).2 rfl (show _ < 8 by decide) (nm_inj (nms := nms) (k := 8) (by decide +kernel)) hq rfl (vis_of rfl) rfl rfl rfl) (l_nil) rfl) rfl))) (ss_nil))) (ss_nil)
theorem ok_42 (W : WF K mg) (ih : AllOk P w K mg base (gx P w K) tb (ft K) 44 n) : FnG P w K mg base (n + 1) ((ft K).a 42) ((ft K).fd 42) ((ft K).ps 42) (spG (gx P w K) tb (n + 1) 42) :=
  fn_okD (N := N_42) (ps := ["lot", "tree", "other"]) W.F_42 ⟨rfl, rfl, rfl, by decide +kernel, rfl, by decide +kernel, by decide +kernel⟩ rfl rfl (p_42 W ih)
def N_43 : List Str := ["script", "feed", "names", "f", "a", "b", "c", "d", "p", "q", "r", "rules", "lot", "pairs", "numbers", "one", "two", "number", "told", "word", "way", "name", "pair"]
theorem p_43 (W : WF K mg) (ih : AllOk P w K mg base (gx P w K) tb (ft K) 44 n) (cdv : Value) (A : Around) (outer : List PySem.Env) (s : Shared) (H : Hp) (E : XK) (hr0 : Rb n (A.deeper (envOfC "law" (defScope (top 46)) s.heap.objs.size ((ft K).a 43) cdv))) :
    PSs (cxOf (L2.CX P w) P w K mg base N_43 "law" (defScope (top 46)) ((ft K).a 43) cdv A outer s H E) (defBody (top 46)) (tS (gx P w K) (orcN tb n) (fun c d _ H => E c d H) c_43) := by
  have R : Rn (cxOf (L2.CX P w) P w K mg base N_43 "law" (defScope (top 46)) ((ft K).a 43) cdv A outer s H E) (gx P w K) (orcN tb n) tb (ft K) 44 n (fun c d _ H => E c d H) := Rn.fn rfl rfl rfl (by decide +kernel) hr0 ih
  have hu := G.hu_of R.room
  have hu5 := G.hu5_of R.room
  exact ss_cons (s_set R.nd rfl (loc_of rfl) (e_call (x := "_law_feed") R (f := 38) (by decide) rfl W.g_38 W.k_38 W.b_38 (l_cons (m_var (i := 0) rfl (vis_of rfl) rfl rfl) (l_cons (m_int) (l_nil) rfl) rfl) rfl rfl rfl) rfl (.inl rfl)) (ss_cons (s_set R.nd rfl (loc_of rfl) (e_call (x := "_law_pick") R (f := 40) (by decide) rfl W.g_40 W.k_40 W.b_40 (l_cons (m_var (i := 1) rfl (vis_of rfl) rfl rfl) (l_cons (m_lst (l_cons (m_str rfl (sOk_of rfl)) (l_cons (m_str rfl (sOk_of rfl)) (l_cons (m_str rfl (sOk_of rfl)) (l_cons (m_str rfl (sOk_of rfl)) (l_nil) rfl) rfl) rfl) rfl)) (l_nil) rfl) rfl) rfl rfl rfl) rfl (.inl rfl)) (ss_cons (s_set R.nd rfl (loc_of rfl) (m_bin o_add (m_ix (m_var (i := 2) rfl (vis_of rfl) rfl rfl) (m_int) (fun _ _ => rfl)) (e_call (x := "_law_pick") R (f := 40) (by decide) rfl W.g_40 W.k_40 W.b_40 (l_cons (m_var (i := 1) rfl (vis_of rfl) rfl rfl) (l_cons (m_lst (l_cons (m_str rfl (sOk_of rfl)) (l_cons (m_str rfl (sOk_of rfl)) (l_cons (m_str rfl (sOk_of rfl)) (l_nil) rfl) rfl) rfl)) (l_nil) rfl) rfl) rfl rfl rfl)) rfl (.inl rfl)) (ss_cons (s_asg (by refine m_lc R.calm R.nd (own := [("name", 21)]) (f := id) (hi := ?hi_24) (ok := ?ok_24) (hg := ?hg_24) (ht := ?ht_24) (he := ?he_24) (hs := ?hs_24); (case hi_24 => exact i_val (m_sl R.K (m_var (i := 2) rfl (vis_of rfl) rfl rfl) (o_some (m_int)) (o_none))); (case ok_24 => exact blk_ok (N := N_43) (sc := defScope (top 46)) (own := [("name", 21)]) (by decide +kernel)); (case hg_24 => exact (inBlk R fun s H C cl fp R => v_name (by decide) R.nd rfl (loc_of rfl) (by first | exact .inl rfl | exact .inr rfl))); (case ht_24 => exact .no); (case he_24 => exact (inBlk R fun s H C cl fp R => m_tup (l_cons (m_var (i := 21) rfl (vis_of rfl) rfl rfl) (l_nil) rfl))); (case hs_24 => exact fun _ => rfl)) (g_tup R.calm (gs_cons (g_name R.nd rfl (loc_of rfl) (.inl rfl)) (gs_cons (g_name R.nd rfl (loc_of rfl) (.inl rfl)) (gs_cons (g_name R.nd rfl (loc_of rfl) (.inl rfl)) (gs_cons (g_name R.nd rfl (loc_of rfl) (.inl rfl)) (gs_cons (g_name R.nd rfl (loc_of rfl) (.inl rfl)) (gs_cons (g_name R.nd rfl (loc_of rfl) (.inl rfl)) (gs_cons (g_name R.nd rfl (loc_of rfl) (.inl rfl)) (gs_nil) rfl) rfl) rfl) rfl) rfl) rfl) rfl) rfl rfl) rfl rfl rfl) (ss_cons (s_set R.nd rfl (loc_of rfl) (m_lst (l_cons (m_tup (l_cons (m_var (i := 8) rfl (vis_of rfl) rfl rfl) (l_cons (e_call (x := "_law_four") R (f := 41) (by decide) rfl W.g_41 W.k_41 W.b_41 (l_cons (m_var (i := 3) rfl (vis_of rfl) rfl rfl) (l_cons (m_var (i := 9) rfl (vis_of rfl) rfl rfl) (l_nil) rfl) rfl) rfl rfl rfl) (l_nil) rfl) rfl)) (l_cons (m_tup (l_cons (m_var (i := 9) rfl (vis_of rfl) rfl rfl) (l_cons (e_call (x := "_law_four") R (f := 41) (by decide) rfl W.g_41 W.k_41 W.b_41 (l_cons (m_var (i := 3) rfl (vis_of rfl) rfl rfl) (l_cons (m_var (i := 10) rfl (vis_of rfl) rfl rfl) (l_nil) rfl) rfl) rfl rfl rfl) (l_nil) rfl) rfl)) (l_cons (m_tup (l_cons (m_var (i := 10) rfl (vis_of rfl) rfl rfl) (l_cons (e_call (x := "_law_four") R (f := 41) (by decide) rfl W.g_41 W.k_41 W.b_41 (l_cons (m_var (i := 3) rfl (vis_of rfl) rfl rfl) (l_cons (m_var (i := 8) rfl (vis_of rfl) rfl rfl) (l_nil) rfl) rfl) rfl rfl rfl) (l_nil) rfl) rfl)) (l_cons (m_tup (l_cons (m_var (i := 10) rfl (vis_of rfl) rfl rfl) (l_cons (m_var (i := 4) rfl (vis_of rfl) rfl rfl) (l_nil) rfl) rfl)) (l_cons (m_tup (l_cons (e_call (x := "_law_four") R (f := 41) (by decide) rfl W.g_41 W.k_41 W.b_41 (l_cons (m_var (i := 3) rfl (vis_of rfl) rfl rfl) (l_cons (m_var (i := 4) rfl (vis_of rfl) rfl rfl) (l_nil) rfl) rfl) rfl rfl rfl) (l_cons (m_var (i := 5) rfl (vis_of rfl) rfl rfl) (l_nil) rfl) rfl)) (l_nil) rfl) rfl) rfl) rfl) rfl)) rfl (.inl rfl)) (ss_cons (s_set R.nd rfl (loc_of rfl) (e_new (x := "Lot") R (c := 0) (f := 13) (by decide) W.cls_Lot W.mk_Lot W.b_13 rfl W.gc_Lot (l_cons (m_bin o_add (m_var (i := 11) rfl (vis_of rfl) rfl rfl) (m_lst (l_cons (m_tup (l_cons (e_call (x := "_law_four") R (f := 41) (by decide) rfl W.g_41 W.k_41 W.b_41 (l_cons (m_var (i := 3) rfl (vis_of rfl) rfl rfl) (l_cons (m_var (i := 5) rfl (vis_of rfl) rfl rfl) (l_nil) rfl) rfl) rfl rfl rfl) (l_cons (m_var (i := 6) rfl (vis_of rfl) rfl rfl) (l_nil) rfl) rfl)) (l_cons (m_tup (l_cons (e_call (x := "_law_four") R (f := 41) (by decide) rfl W.g_41 W.k_41 W.b_41 (l_cons (m_var (i := 3) rfl (vis_of rfl) rfl rfl) (l_cons (m_var (i := 6) rfl (vis_of rfl) rfl rfl) (l_nil) rfl) rfl) rfl rfl rfl) (l_cons (m_var (i := 7) rfl (vis_of rfl) rfl rfl) (l_nil) rfl) rfl)) (l_cons (m_tup (l_cons (e_call (x := "_law_four") R (f := 41) (by decide) rfl W.g_41 W.k_41 W.b_41 (l_cons (m_var (i := 3) rfl (vis_of rfl) rfl rfl) (l_cons (m_var (i := 7) rfl (vis_of rfl) rfl rfl) (l_nil) rfl) rfl) rfl rfl rfl) (l_cons (m_var (i := 4) rfl (vis_of rfl) rfl rfl) (l_nil) rfl) rfl)) (l_nil) rfl) rfl) rfl))) (l_nil) rfl) rfl rfl rfl) rfl (.inl rfl)) (ss_cons (s_set R.nd rfl (loc_of rfl) (m_lst (l_cons (m_tup (l_cons (m_var (i := 10) rfl (vis_of rfl) rfl rfl) (l_cons (m_var (i := 4) rfl (vis_of rfl) rfl rfl) (l_nil) rfl) rfl)) (l_cons (m_tup (l_cons (m_var (i := 9) rfl (vis_of rfl) rfl rfl) (l_cons (m_var (i := 5) rfl (vis_of rfl) rfl rfl) (l_nil) rfl) rfl)) (l_cons (m_tup (l_cons (m_var (i := 8) rfl (vis_of rfl) rfl rfl) (l_cons (m_var (i := 6) rfl (vis_of rfl) rfl rfl) (l_nil) rfl) rfl)) (l_cons (m_tup (l_cons (m_var (i := 10) rfl (vis_of rfl) rfl rfl) (l_cons (m_var (i := 7) rfl (vis_of rfl) rfl rfl) (l_nil) rfl) rfl)) (l_cons (m_tup (l_cons (m_var (i := 9) rfl (vis_of rfl) rfl rfl) (l_cons (m_var (i := 4) rfl (vis_of rfl) rfl rfl) (l_nil) rfl) rfl)) (l_cons (m_tup (l_cons (m_var (i := 8) rfl (vis_of rfl) rfl rfl) (l_cons (m_var (i := 5) rfl (vis_of rfl) rfl rfl) (l_nil) rfl) rfl)) (l_cons (m_tup (l_cons (m_var (i := 10) rfl (vis_of rfl) rfl rfl) (l_cons (m_var (i := 6) rfl (vis_of rfl) rfl rfl) (l_nil) rfl) rfl)) (l_cons (m_tup (l_cons (m_var (i := 9) rfl (vis_of rfl) rfl rfl) (l_cons (m_var (i := 7) rfl (vis_of rfl) rfl rfl) (l_nil) rfl) rfl)) (l_cons (m_tup (l_cons (m_var (i := 8) rfl (vis_of rfl) rfl rfl) (l_cons (m_var (i := 4) rfl (vis_of rfl) rfl rfl) (l_nil) rfl) rfl)) (l_cons (m_tup (l_cons (m_var (i := 10) rfl (vis_of rfl) rfl rfl) (l_cons (m_var (i := 5) rfl (vis_of rfl) rfl rfl) (l_nil) rfl) rfl)) (l_cons (m_tup (l_cons (m_var (i := 9) rfl (vis_of rfl) rfl rfl) (l_cons (m_var (i := 6) rfl (vis_of rfl) rfl rfl) (l_nil) rfl) rfl)) (l_cons (m_tup (l_cons (m_var (i := 8) rfl (vis_of rfl) rfl rfl) (l_cons (m_var (i := 7) rfl (vis_of rfl) rfl rfl) (l_nil) rfl) rfl)) (l_nil) rfl) rfl) rfl) rfl) rfl) rfl) rfl) rfl) rfl) rfl) rfl) rfl)) rfl (.inl rfl)) (ss_cons (s_set R.nd rfl (loc_of rfl) (m_lst (l_cons (m_int) (l_cons (m_int) (l_cons (m_int) (l_cons (m_int) (l_cons (m_int) (l_cons (m_int) (l_cons (m_int) (l_cons (m_int) (l_cons (m_int) (l_cons (m_int) (l_cons (m_int) (l_cons (m_int) (l_nil) rfl) rfl) rfl) rfl) rfl) rfl) rfl) rfl) rfl) rfl) rfl) rfl)) rfl (.inl rfl)) (ss_cons (s_set R.nd rfl (loc_of rfl) (e_ty (x := "dict") (b_dictT R.P R.w (by exact hu) R.calm) rfl W.f_dict W.v_dict (l_cons (by refine m_lc R.calm R.nd (own := [("one", 15), ("two", 16), ("number", 17)]) (f := id) (hi := ?hi_25) (ok := ?ok_25) (hg := ?hg_25) (ht := ?ht_25) (he := ?he_25) (hs := ?hs_25); (case hi_25 => exact i_val (e_call (x := "number_table") R (f := 34) (by decide) rfl W.g_34 W.k_34 W.b_34 (l_cons (m_var (i := 12) rfl (vis_of rfl) rfl rfl) (l_cons (m_var (i := 8) rfl (vis_of rfl) rfl rfl) (l_cons (m_var (i := 7) rfl (vis_of rfl) rfl rfl) (l_nil) rfl) rfl) rfl) rfl rfl rfl)); (case ok_25 => exact blk_ok (N := N_43) (sc := defScope (top 46)) (own := [("one", 15), ("two", 16), ("number", 17)]) (by decide +kernel)); (case hg_25 => exact (inBlk R fun s H C cl fp R => v_tup R.calm (vs_cons (v_name (by decide) R.nd rfl (loc_of rfl) (by first | exact .inl rfl | exact .inr rfl)) (vs_cons (v_name (by decide) R.nd rfl (loc_of rfl) (by first | exact .inl rfl | exact .inr rfl)) (vs_cons (v_name (by decide) R.nd rfl (loc_of rfl) (by first | exact .inl rfl | exact .inr rfl)) (vs_nil) rfl) rfl) rfl) rfl rfl)); (case ht_25 => exact .no); (case he_25 => exact (inBlk R fun s H C cl fp R => m_tup (l_cons (m_tup (l_cons (m_var (i := 15) rfl (vis_of rfl) rfl rfl) (l_cons (m_var (i := 16) rfl (vis_of rfl) rfl rfl) (l_nil) rfl) rfl)) (l_cons (m_var (i := 17) rfl (vis_of rfl) rfl rfl) (l_nil) rfl) rfl))); (case hs_25 => exact fun _ => rfl)) (l_nil) rfl) (by decide) rfl rfl rfl) rfl (.inl rfl)) (ss_cons (s_if (PW.pt (w_or (m_cmpT R.K (o_ne (by exact hu)) (by refine m_lc R.calm R.nd (own := [("pair", 22)]) (f := id) (hi := ?hi_26) (ok := ?ok_26) (hg := ?hg_26) (ht := ?ht_26) (he := ?he_26) (hs := ?hs_26); (case hi_26 => exact i_val (m_var (i := 13) rfl (vis_of rfl) rfl rfl)); (case ok_26 => exact blk_ok (N := N_43) (sc := defScope (top 46)) (own := [("pair", 22)]) (by decide +kernel)); (case hg_26 => exact (inBlk R fun s H C cl fp R => v_name (by decide) R.nd rfl (loc_of rfl) (by first | exact .inl rfl | exact .inr rfl))); (case ht_26 => exact .no); (case he_26 => exact (inBlk R fun s H C cl fp R => e_get R.P R.w (by exact hu) (m_var (i := 18) rfl (vis_of rfl) rfl rfl) (l_cons (m_var (i := 22) rfl (vis_of rfl) rfl rfl) (l_nil) rfl) rfl rfl rfl rfl rfl)); (case hs_26 => exact fun _ => rfl)) (m_var (i := 14) rfl (vis_of rfl) rfl rfl) (nomark _)) (w_or (m_cmpT R.K (o_inK R.P R.w (by exact hu)) (m_tup (l_cons (m_var (i := 4) rfl (vis_of rfl) rfl rfl) (l_cons (m_var (i := 8) rfl (vis_of rfl) rfl rfl) (l_nil) rfl) rfl)) (m_var (i := 18) rfl (vis_of rfl) rfl rfl) rfl) (w_or1 (m_cmpT R.K (o_ne (by exact hu)) (e_get R.P R.w (by exact hu) (m_var (i := 18) rfl (vis_of rfl) rfl rfl) (l_cons (m_tup (l_cons (m_var (i := 10) rfl (vis_of rfl) rfl rfl) (l_cons (e_call (x := "_law_four") R (f := 41) (by decide) rfl W.g_41 W.k_41 W.b_41 (l_cons (m_var (i := 3) rfl (vis_of rfl) rfl rfl) (l_cons (m_var (i := 6) rfl (vis_of rfl) rfl rfl) (l_nil) rfl) rfl) rfl rfl rfl) (l_nil) rfl) rfl)) (l_nil) rfl) rfl rfl rfl rfl rfl) (m_int) (nomark _)))))) (ss_cons (s_ret (m_bl)) (ss_nil)) (ss_nil)) (ss_cons (s_asg (e_call (x := "_law_told_so") R (f := 42) (by decide) rfl W.g_42 W.k_42 W.b_42 (l_cons (m_var (i := 12) rfl (vis_of rfl) rfl rfl) (l_cons (m_var (i := 10) rfl (vis_of rfl) rfl rfl) (l_cons (m_var (i := 7) rfl (vis_of rfl) rfl rfl) (l_nil) rfl) rfl) rfl) rfl rfl rfl) (g_tup R.calm (gs_cons (g_name R.nd rfl (loc_of rfl) (.inl rfl)) (gs_cons (g_name R.nd rfl (loc_of rfl) (.inl rfl)) (gs_nil) rfl) rfl) rfl rfl) rfl rfl rfl) (ss_cons (s_if (PW.pt (w_or (m_cmpT R.K (o_ne (by exact hu)) (m_var (i := 19) rfl (vis_of rfl) rfl rfl) (m_str rfl (sOk_of rfl)) (nomark _)) (w_or (m_cmpT R.K (o_ne (by exact hu)) (e_bi (x := "len") (b_len R.K) rfl W.f_len W.v_len (l_cons (m_var (i := 20) rfl (vis_of rfl) rfl rfl) (l_nil) rfl) (by decide) rfl rfl rfl) (m_int) (nomark _)) (w_or1 (m_notT (m_truth R.K (e_call (x := "is_way") R (f := 37) (by decide) rfl W.g_37 W.k_37 W.b_37 (l_cons (m_var (i := 12) rfl (vis_of rfl) rfl rfl) (l_cons (m_var (i := 10) rfl (vis_of rfl) rfl rfl) (l_cons (m_var (i := 7) rfl (vis_of rfl) rfl rfl) (l_cons (m_var (i := 20) rfl (vis_of rfl) rfl rfl) (l_nil) rfl) rfl) rfl) rfl) rfl rfl rfl) (fun _ => rfl))))))) (ss_cons (s_ret (m_bl)) (ss_nil)) (ss_nil)) (ss_cons (s_asg (e_call (x := "_law_pick") R (f := 40) (by decide) rfl W.g_40 W.k_40 W.b_40 (l_cons (m_var (i := 1) rfl (vis_of rfl) rfl rfl) (l_cons (m_lst (l_cons (m_tup (l_cons (m_var (i := 9) rfl (vis_of rfl) rfl rfl) (l_cons (m_var (i := 4) rfl (vis_of rfl) rfl rfl) (l_cons (m_int) (l_nil) rfl) rfl) rfl)) (l_cons (m_tup (l_cons (m_var (i := 8) rfl (vis_of rfl) rfl rfl) (l_cons (m_var (i := 7) rfl (vis_of rfl) rfl rfl) (l_cons (m_int) (l_nil) rfl) rfl) rfl)) (l_cons (m_tup (l_cons (m_var (i := 10) rfl (vis_of rfl) rfl rfl) (l_cons (m_var (i := 5) rfl (vis_of rfl) rfl rfl) (l_cons (m_int) (l_nil) rfl) rfl) rfl)) (l_nil) rfl) rfl) rfl)) (l_nil) rfl) rfl) rfl rfl rfl) (g_tup R.calm (gs_cons (g_name R.nd rfl (loc_of rfl) (.inl rfl)) (gs_cons (g_name R.nd rfl (loc_of rfl) (.inl rfl)) (gs_cons (g_name R.nd rfl (loc_of rfl) (.inl rfl)) (gs_nil) rfl) rfl) rfl) rfl rfl) rfl rfl rfl) (ss_cons (s_ret (m_cmp (o_eq (by exact hu)) (e_call (x := "_law_told_so") R (f := 42) (by decide) rfl W.g_42 W.k_42 W.b_42 (l_cons (m_var (i := 12) rfl (vis_of rfl) rfl rfl) (l_cons (m_var (i := 15) rfl (vis_of rfl) rfl rfl) (l_cons (m_var (i := 16) rfl (vis_of rfl) rfl rfl) (l_nil) rfl) rfl) rfl) rfl rfl rfl) (m_tup (l_cons (m_str rfl (sOk_of rfl)) (l_cons (m_var (i := 17) rfl (vis_of rfl) rfl rfl) (l_nil) rfl) rfl)) (nomark _))) (ss_nil))))))))))))))
theorem ok_43 (W : WF K mg) (ih : AllOk P w K mg base (gx P w K) tb (ft K) 44 n) : FnG P w K mg base (n + 1) ((ft K).a 43) ((ft K).fd 43) ((ft K).ps 43) (spG (gx P w K) tb (n + 1) 43) :=
  fn_okD (N := N_43) (ps := ["script"]) W.F_43 ⟨rfl, rfl, rfl, by decide +kernel, rfl, by decide +kernel, by decide +kernel⟩ rfl rfl (p_43 W ih)
theorem all_ok (W : WF K mg) : ∀ n, AllOk P w K mg base (gx P w K) tb (ft K) 44 n
  | 0 => fun f _ => fnOk0
  | n + 1 => fun f hf => match f, hf with
    | 0, _ => ok_0 W (all_ok W n)
    | 1, _ => ok_1 W (all_ok W n)
    | 2, _ => ok_2 W (all_ok W n)
    | 3, _ => ok_3 W (all_ok W n)
    | 4, _ => ok_4 W (all_ok W n)
    | 5, _ => ok_5 W (all_ok W n)
    | 6, _ => ok_6 W (all_ok W n)
    | 7, _ => ok_7 W (all_ok W n)
    | 8, _ => ok_8 W (all_ok W n)
    | 9, _ => ok_9 W (all_ok W n)
    | 10, _ => ok_10 W (all_ok W n)
    | 11, _ => ok_11 W (all_ok W n)
    | 12, _ => ok_12 W (all_ok W n)
    | 13, _ => ok_13 W (all_ok W n)
    | 14, _ => ok_14 W (all_ok W n)
    | 15, _ => ok_15 W (all_ok W n)
    | 16, _ => ok_16 W (all_ok W n)
    | 17, _ => ok_17 W (all_ok W n)
    | 18, _ => ok_18 W (all_ok W n)
    | 19, _ => ok_19 W (all_ok W n)
    | 20, _ => ok_20 W (all_ok W n)
    | 21, _ => ok_21 W (all_ok W n)
    | 22, _ => ok_22 W (all_ok W n)
    | 23, _ => ok_23 W (all_ok W n)
    | 24, _ => ok_24 W (all_ok W n)
    | 25, _ => ok_25 W (all_ok W n)
    | 26, _ => ok_26 W (all_ok W n)
    | 27, _ => ok_27 W (all_ok W n)
    | 28, _ => ok_28 W (all_ok W n)
    | 29, _ => ok_29 W (all_ok W n)
    | 30, _ => ok_30 W (all_ok W n)
    | 31, _ => ok_31 W (all_ok W n)
    | 32, _ => ok_32 W (all_ok W n)
    | 33, _ => ok_33 W (all_ok W n)
    | 34, _ => ok_34 W (all_ok W n)
    | 35, _ => ok_35 W (all_ok W n)
    | 36, _ => ok_36 W (all_ok W n)
    | 37, _ => ok_37 W (all_ok W n)
    | 38, _ => ok_38 W (all_ok W n)
    | 39, _ => ok_39 W (all_ok W n)
    | 40, _ => ok_40 W (all_ok W n)
    | 41, _ => ok_41 W (all_ok W n)
    | 42, _ => ok_42 W (all_ok W n)
    | 43, _ => ok_43 W (all_ok W n)
    | k + 44, h => absurd h (by omega)
end
def names0 : List Str := ["_wall", "TreeError", "NoPlace", "BadLot", "NoStep", "TooLong", "LETTERS", "MAX_NAME", "MAX_CHILDREN", "is_number", "is_name", "is_tree", "size", "levels_of", "sign_of", "ordered", "parts", "part_at", "put", "MAX_RULES", "MAX_SIDE", "MAX_LEVELS", "MAX_PARTS", "is_rule", "parts_of", "Lot", "put_by", "stepped", "after", "MAX_WAY"]
def names1 : List Str := ["told_and_own", "Table", "number_table", "told_way", "becomes", "is_way", "_law_feed", "_law_take", "_law_pick", "_law_four", "_law_told_so"]
def names : List Str := names0 ++ names1
abbrev R : PySem.W.OpenRow := PySem.W.OpenLaw.row PySem.Challenge.rw_graftrules_k19_known_great_numbers
abbrev hk : PySem.W.Hook := hookX 6 ck fn
def ob (s : PySem.W.SharedT) : He.AlD := obsXG 6 ck fn (HandSHeadRun.getT s)
theorem ob_eq (s : PySem.W.SharedT) : ob s = hk.obs s.abs := obsXG_eq (HandSHeadRun.getT_eq s)
theorem run (w : World) : HandSHeadRun.RunEq R (PySem.W.view R.prog [46]) hk ob 20000 names w := by
  intro os
  kernel_rfl
end L19
set_option Elab.async false
set_option linter.all false
set_option maxRecDepth 100000
set_option maxHeartbeats 0
namespace L19
open PySem PySem.Spec L2 G
open PyProof.Rows hiding St
def lA1 : EL := elCons (eVar 1) (elCons (eLst (elCons (eC (.str [102, 97, 98, 99, 100, 112, 113, 114])) (elCons (eC (.str [122, 121, 120, 119, 118, 117, 116, 115])) (elCons (eC (.str [98, 102, 97, 99, 101, 100, 103, 104])) (elCons (eC (.str [104, 103, 102, 101, 100, 99, 98, 97])) (elNil)))))) (elNil))
def lA2 : EL := elCons (eVar 1) (elCons (eLst (elCons (eC (.str [])) (elCons (eC (.str [120])) (elCons (eC (.str [102, 102])) (elNil))))) (elNil))
def lE2 : G.E := eOp oAdd (eOp oIx (eVar 2) (eC (.int 0))) (eCall 40 (elCons (eVar 1) (elCons (eLst (elCons (eC (.str [])) (elCons (eC (.str [120])) (elCons (eC (.str [102, 102])) (elNil))))) (elNil))))
theorem seg_0 (ns : List Int) (d y : Int) (d0 : 0 ≤ d) (y0 : 0 ≤ y) (y1 : y < 2 ^ 40) : Fin1 (cSeq (sAsg (tName 3) lE2) (seqL lBs (cSeq (sAsg lT3 (eCall 40 lA3)) lC)) (orcN tb 299) [some (.scr ns), some (.ref 4), some (.str [102, 97, 98, 99, 100, 112, 113, 114]), .none, .none, .none, .none, .none, .none, .none, .none, .none, .none, .none, .none, .none, .none, .none, .none, .none, .none, .none, .none] (Z6 (.lst (cell0 ns)) (.lst (cell0 ns)) (.lst [.int 23]) (.lst (cell0 ns ++ [.int 23])) d y)) := by
  obtain ⟨j, d2, y2, v, hj, d20, y20, y21, hv, e2⟩ := pick_at (tk := 39) (pk := 40) (o := orcN tb 299) (o1 := orcN tb 298) (o2 := orcN tb 297) (fun _ _ => rfl) (fun _ _ => rfl) (as := lA2) (ρ := [some (.scr ns), some (.ref 4), some (.str [102, 97, 98, 99, 100, 112, 113, 114]), .none, .none, .none, .none, .none, .none, .none, .none, .none, .none, .none, .none, .none, .none, .none, .none, .none, .none, .none, .none]) (S := Z6 (.lst (cell0 ns)) (.lst (cell0 ns)) (.lst [.int 23]) (.lst (cell0 ns ++ [.int 23])) d y) (S2 := Z7 (.lst (cell0 ns)) (.lst (cell0 ns)) (.lst [.int 23]) (.lst (cell0 ns ++ [.int 23])) d y) (l := 6) (vs := [.str [], .str [120], .str [102, 102]]) (by kernel_rfl) (by kernel_rfl) (by kernel_rfl) (by decide) d0 y0 y1 (by decide) (by decide)
  have e3 : (Z7 (.lst (cell0 ns)) (.lst (cell0 ns)) (.lst [.int 23]) (.lst (cell0 ns ++ [.int 23])) d y).put 4 (.lst [.int d2, .int y2]) = Z7 (.lst (cell0 ns)) (.lst (cell0 ns)) (.lst [.int 23]) (.lst (cell0 ns ++ [.int 23])) d2 y2 := by kernel_rfl
  rw [e3] at e2
  have hj3 : j = 0 ∨ j = 1 ∨ j = 2 := by simp at hj; omega
  have hx : (eOp oIx (eVar 2) (eC (.int 0)) : G.E) (orcN tb 299) [some (.scr ns), some (.ref 4), some (.str [102, 97, 98, 99, 100, 112, 113, 114]), .none, .none, .none, .none, .none, .none, .none, .none, .none, .none, .none, .none, .none, .none, .none, .none, .none, .none, .none, .none] (Z6 (.lst (cell0 ns)) (.lst (cell0 ns)) (.lst [.int 23]) (.lst (cell0 ns ++ [.int 23])) d y) = .ok (.str [102]) (Z6 (.lst (cell0 ns)) (.lst (cell0 ns)) (.lst [.int 23]) (.lst (cell0 ns ++ [.int 23])) d y) := by kernel_rfl
  rcases hj3 with rfl | rfl | rfl
  · cases hv
    have e4 : lE2 (orcN tb 299) [some (.scr ns), some (.ref 4), some (.str [102, 97, 98, 99, 100, 112, 113, 114]), .none, .none, .none, .none, .none, .none, .none, .none, .none, .none, .none, .none, .none, .none, .none, .none, .none, .none, .none, .none] (Z6 (.lst (cell0 ns)) (.lst (cell0 ns)) (.lst [.int 23]) (.lst (cell0 ns ++ [.int 23])) d y) = .ok (.str [102]) (Z7 (.lst (cell0 ns)) (.lst (cell0 ns)) (.lst [.int 23]) (.lst (cell0 ns ++ [.int 23])) d2 y2) := (op_eq (f := oAdd) hx e2).trans (by kernel_rfl)
    refine fin_seq (ρ' := [some (.scr ns), some (.ref 4), some (.str [102, 97, 98, 99, 100, 112, 113, 114]), some (.str [102]), .none, .none, .none, .none, .none, .none, .none, .none, .none, .none, .none, .none, .none, .none, .none, .none, .none, .none, .none]) (S' := Z7 (.lst (cell0 ns)) (.lst (cell0 ns)) (.lst [.int 23]) (.lst (cell0 ns ++ [.int 23])) d2 y2) (run_asg e4) ?_
    rw [seqL_app]
    exact fin_out (tk := 39) (pk := 40) (o1 := orcN tb 298) (o2 := orcN tb 297) (fun _ _ => rfl) (fun _ _ => rfl) d20 y20 y21 (fun d4 y4 => hb_0_0 _ _ _ _ ns d2 y2 d4 y4)
  · cases hv
    have e4 : lE2 (orcN tb 299) [some (.scr ns), some (.ref 4), some (.str [102, 97, 98, 99, 100, 112, 113, 114]), .none, .none, .none, .none, .none, .none, .none, .none, .none, .none, .none, .none, .none, .none, .none, .none, .none, .none, .none, .none] (Z6 (.lst (cell0 ns)) (.lst (cell0 ns)) (.lst [.int 23]) (.lst (cell0 ns ++ [.int 23])) d y) = .ok (.str [102, 120]) (Z7 (.lst (cell0 ns)) (.lst (cell0 ns)) (.lst [.int 23]) (.lst (cell0 ns ++ [.int 23])) d2 y2) := (op_eq (f := oAdd) hx e2).trans (by kernel_rfl)
    refine fin_seq (ρ' := [some (.scr ns), some (.ref 4), some (.str [102, 97, 98, 99, 100, 112, 113, 114]), some (.str [102, 120]), .none, .none, .none, .none, .none, .none, .none, .none, .none, .none, .none, .none, .none, .none, .none, .none, .none, .none, .none]) (S' := Z7 (.lst (cell0 ns)) (.lst (cell0 ns)) (.lst [.int 23]) (.lst (cell0 ns ++ [.int 23])) d2 y2) (run_asg e4) ?_
    rw [seqL_app]
    exact fin_out (tk := 39) (pk := 40) (o1 := orcN tb 298) (o2 := orcN tb 297) (fun _ _ => rfl) (fun _ _ => rfl) d20 y20 y21 (fun d4 y4 => hb_0_1 _ _ _ _ ns d2 y2 d4 y4)
  · cases hv
    have e4 : lE2 (orcN tb 299) [some (.scr ns), some (.ref 4), some (.str [102, 97, 98, 99, 100, 112, 113, 114]), .none, .none, .none, .none, .none, .none, .none, .none, .none, .none, .none, .none, .none, .none, .none, .none, .none, .none, .none, .none] (Z6 (.lst (cell0 ns)) (.lst (cell0 ns)) (.lst [.int 23]) (.lst (cell0 ns ++ [.int 23])) d y) = .ok (.str [102, 102, 102]) (Z7 (.lst (cell0 ns)) (.lst (cell0 ns)) (.lst [.int 23]) (.lst (cell0 ns ++ [.int 23])) d2 y2) := (op_eq (f := oAdd) hx e2).trans (by kernel_rfl)
    refine fin_seq (ρ' := [some (.scr ns), some (.ref 4), some (.str [102, 97, 98, 99, 100, 112, 113, 114]), some (.str [102, 102, 102]), .none, .none, .none, .none, .none, .none, .none, .none, .none, .none, .none, .none, .none, .none, .none, .none, .none, .none, .none]) (S' := Z7 (.lst (cell0 ns)) (.lst (cell0 ns)) (.lst [.int 23]) (.lst (cell0 ns ++ [.int 23])) d2 y2) (run_asg e4) ?_
    rw [seqL_app]
    exact fin_out (tk := 39) (pk := 40) (o1 := orcN tb 298) (o2 := orcN tb 297) (fun _ _ => rfl) (fun _ _ => rfl) d20 y20 y21 (fun d4 y4 => hb_0_2 _ _ _ _ ns d2 y2 d4 y4)
theorem seg_1 (ns : List Int) (d y : Int) (d0 : 0 ≤ d) (y0 : 0 ≤ y) (y1 : y < 2 ^ 40) : Fin1 (cSeq (sAsg (tName 3) lE2) (seqL lBs (cSeq (sAsg lT3 (eCall 40 lA3)) lC)) (orcN tb 299) [some (.scr ns), some (.ref 4), some (.str [122, 121, 120, 119, 118, 117, 116, 115]), .none, .none, .none, .none, .none, .none, .none, .none, .none, .none, .none, .none, .none, .none, .none, .none, .none, .none, .none, .none] (Z6 (.lst (cell0 ns)) (.lst (cell0 ns)) (.lst [.int 23]) (.lst (cell0 ns ++ [.int 23])) d y)) := by
  obtain ⟨j, d2, y2, v, hj, d20, y20, y21, hv, e2⟩ := pick_at (tk := 39) (pk := 40) (o := orcN tb 299) (o1 := orcN tb 298) (o2 := orcN tb 297) (fun _ _ => rfl) (fun _ _ => rfl) (as := lA2) (ρ := [some (.scr ns), some (.ref 4), some (.str [122, 121, 120, 119, 118, 117, 116, 115]), .none, .none, .none, .none, .none, .none, .none, .none, .none, .none, .none, .none, .none, .none, .none, .none, .none, .none, .none, .none]) (S := Z6 (.lst (cell0 ns)) (.lst (cell0 ns)) (.lst [.int 23]) (.lst (cell0 ns ++ [.int 23])) d y) (S2 := Z7 (.lst (cell0 ns)) (.lst (cell0 ns)) (.lst [.int 23]) (.lst (cell0 ns ++ [.int 23])) d y) (l := 6) (vs := [.str [], .str [120], .str [102, 102]]) (by kernel_rfl) (by kernel_rfl) (by kernel_rfl) (by decide) d0 y0 y1 (by decide) (by decide)
  have e3 : (Z7 (.lst (cell0 ns)) (.lst (cell0 ns)) (.lst [.int 23]) (.lst (cell0 ns ++ [.int 23])) d y).put 4 (.lst [.int d2, .int y2]) = Z7 (.lst (cell0 ns)) (.lst (cell0 ns)) (.lst [.int 23]) (.lst (cell0 ns ++ [.int 23])) d2 y2 := by kernel_rfl
  rw [e3] at e2
  have hj3 : j = 0 ∨ j = 1 ∨ j = 2 := by simp at hj; omega
  have hx : (eOp oIx (eVar 2) (eC (.int 0)) : G.E) (orcN tb 299) [some (.scr ns), some (.ref 4), some (.str [122, 121, 120, 119, 118, 117, 116, 115]), .none, .none, .none, .none, .none, .none, .none, .none, .none, .none, .none, .none, .none, .none, .none, .none, .none, .none, .none, .none] (Z6 (.lst (cell0 ns)) (.lst (cell0 ns)) (.lst [.int 23]) (.lst (cell0 ns ++ [.int 23])) d y) = .ok (.str [122]) (Z6 (.lst (cell0 ns)) (.lst (cell0 ns)) (.lst [.int 23]) (.lst (cell0 ns ++ [.int 23])) d y) := by kernel_rfl
  rcases hj3 with rfl | rfl | rfl
  · cases hv
    have e4 : lE2 (orcN tb 299) [some (.scr ns), some (.ref 4), some (.str [122, 121, 120, 119, 118, 117, 116, 115]), .none, .none, .none, .none, .none, .none, .none, .none, .none, .none, .none, .none, .none, .none, .none, .none, .none, .none, .none, .none] (Z6 (.lst (cell0 ns)) (.lst (cell0 ns)) (.lst [.int 23]) (.lst (cell0 ns ++ [.int 23])) d y) = .ok (.str [122]) (Z7 (.lst (cell0 ns)) (.lst (cell0 ns)) (.lst [.int 23]) (.lst (cell0 ns ++ [.int 23])) d2 y2) := (op_eq (f := oAdd) hx e2).trans (by kernel_rfl)
    refine fin_seq (ρ' := [some (.scr ns), some (.ref 4), some (.str [122, 121, 120, 119, 118, 117, 116, 115]), some (.str [122]), .none, .none, .none, .none, .none, .none, .none, .none, .none, .none, .none, .none, .none, .none, .none, .none, .none, .none, .none]) (S' := Z7 (.lst (cell0 ns)) (.lst (cell0 ns)) (.lst [.int 23]) (.lst (cell0 ns ++ [.int 23])) d2 y2) (run_asg e4) ?_
    rw [seqL_app]
    exact fin_out (tk := 39) (pk := 40) (o1 := orcN tb 298) (o2 := orcN tb 297) (fun _ _ => rfl) (fun _ _ => rfl) d20 y20 y21 (fun d4 y4 => hb_1_0 _ _ _ _ ns d2 y2 d4 y4)
  · cases hv
    have e4 : lE2 (orcN tb 299) [some (.scr ns), some (.ref 4), some (.str [122, 121, 120, 119, 118, 117, 116, 115]), .none, .none, .none, .none, .none, .none, .none, .none, .none, .none, .none, .none, .none, .none, .none, .none, .none, .none, .none, .none] (Z6 (.lst (cell0 ns)) (.lst (cell0 ns)) (.lst [.int 23]) (.lst (cell0 ns ++ [.int 23])) d y) = .ok (.str [122, 120]) (Z7 (.lst (cell0 ns)) (.lst (cell0 ns)) (.lst [.int 23]) (.lst (cell0 ns ++ [.int 23])) d2 y2) := (op_eq (f := oAdd) hx e2).trans (by kernel_rfl)
    refine fin_seq (ρ' := [some (.scr ns), some (.ref 4), some (.str [122, 121, 120, 119, 118, 117, 116, 115]), some (.str [122, 120]), .none, .none, .none, .none, .none, .none, .none, .none, .none, .none, .none, .none, .none, .none, .none, .none, .none, .none, .none]) (S' := Z7 (.lst (cell0 ns)) (.lst (cell0 ns)) (.lst [.int 23]) (.lst (cell0 ns ++ [.int 23])) d2 y2) (run_asg e4) ?_
    rw [seqL_app]
    exact fin_out (tk := 39) (pk := 40) (o1 := orcN tb 298) (o2 := orcN tb 297) (fun _ _ => rfl) (fun _ _ => rfl) d20 y20 y21 (fun d4 y4 => hb_1_1 _ _ _ _ ns d2 y2 d4 y4)
  · cases hv
    have e4 : lE2 (orcN tb 299) [some (.scr ns), some (.ref 4), some (.str [122, 121, 120, 119, 118, 117, 116, 115]), .none, .none, .none, .none, .none, .none, .none, .none, .none, .none, .none, .none, .none, .none, .none, .none, .none, .none, .none, .none] (Z6 (.lst (cell0 ns)) (.lst (cell0 ns)) (.lst [.int 23]) (.lst (cell0 ns ++ [.int 23])) d y) = .ok (.str [122, 102, 102]) (Z7 (.lst (cell0 ns)) (.lst (cell0 ns)) (.lst [.int 23]) (.lst (cell0 ns ++ [.int 23])) d2 y2) := (op_eq (f := oAdd) hx e2).trans (by kernel_rfl)
    refine fin_seq (ρ' := [some (.scr ns), some (.ref 4), some (.str [122, 121, 120, 119, 118, 117, 116, 115]), some (.str [122, 102, 102]), .none, .none, .none, .none, .none, .none, .none, .none, .none, .none, .none, .none, .none, .none, .none, .none, .none, .none, .none]) (S' := Z7 (.lst (cell0 ns)) (.lst (cell0 ns)) (.lst [.int 23]) (.lst (cell0 ns ++ [.int 23])) d2 y2) (run_asg e4) ?_
    rw [seqL_app]
    exact fin_out (tk := 39) (pk := 40) (o1 := orcN tb 298) (o2 := orcN tb 297) (fun _ _ => rfl) (fun _ _ => rfl) d20 y20 y21 (fun d4 y4 => hb_1_2 _ _ _ _ ns d2 y2 d4 y4)
theorem seg_2 (ns : List Int) (d y : Int) (d0 : 0 ≤ d) (y0 : 0 ≤ y) (y1 : y < 2 ^ 40) : Fin1 (cSeq (sAsg (tName 3) lE2) (seqL lBs (cSeq (sAsg lT3 (eCall 40 lA3)) lC)) (orcN tb 299) [some (.scr ns), some (.ref 4), some (.str [98, 102, 97, 99, 101, 100, 103, 104]), .none, .none, .none, .none, .none, .none, .none, .none, .none, .none, .none, .none, .none, .none, .none, .none, .none, .none, .none, .none] (Z6 (.lst (cell0 ns)) (.lst (cell0 ns)) (.lst [.int 23]) (.lst (cell0 ns ++ [.int 23])) d y)) := by
  obtain ⟨j, d2, y2, v, hj, d20, y20, y21, hv, e2⟩ := pick_at (tk := 39) (pk := 40) (o := orcN tb 299) (o1 := orcN tb 298) (o2 := orcN tb 297) (fun _ _ => rfl) (fun _ _ => rfl) (as := lA2) (ρ := [some (.scr ns), some (.ref 4), some (.str [98, 102, 97, 99, 101, 100, 103, 104]), .none, .none, .none, .none, .none, .none, .none, .none, .none, .none, .none, .none, .none, .none, .none, .none, .none, .none, .none, .none]) (S := Z6 (.lst (cell0 ns)) (.lst (cell0 ns)) (.lst [.int 23]) (.lst (cell0 ns ++ [.int 23])) d y) (S2 := Z7 (.lst (cell0 ns)) (.lst (cell0 ns)) (.lst [.int 23]) (.lst (cell0 ns ++ [.int 23])) d y) (l := 6) (vs := [.str [], .str [120], .str [102, 102]]) (by kernel_rfl) (by kernel_rfl) (by kernel_rfl) (by decide) d0 y0 y1 (by decide) (by decide)
  have e3 : (Z7 (.lst (cell0 ns)) (.lst (cell0 ns)) (.lst [.int 23]) (.lst (cell0 ns ++ [.int 23])) d y).put 4 (.lst [.int d2, .int y2]) = Z7 (.lst (cell0 ns)) (.lst (cell0 ns)) (.lst [.int 23]) (.lst (cell0 ns ++ [.int 23])) d2 y2 := by kernel_rfl
  rw [e3] at e2
  have hj3 : j = 0 ∨ j = 1 ∨ j = 2 := by simp at hj; omega
  have hx : (eOp oIx (eVar 2) (eC (.int 0)) : G.E) (orcN tb 299) [some (.scr ns), some (.ref 4), some (.str [98, 102, 97, 99, 101, 100, 103, 104]), .none, .none, .none, .none, .none, .none, .none, .none, .none, .none, .none, .none, .none, .none, .none, .none, .none, .none, .none, .none] (Z6 (.lst (cell0 ns)) (.lst (cell0 ns)) (.lst [.int 23]) (.lst (cell0 ns ++ [.int 23])) d y) = .ok (.str [98]) (Z6 (.lst (cell0 ns)) (.lst (cell0 ns)) (.lst [.int 23]) (.lst (cell0 ns ++ [.int 23])) d y) := by kernel_rfl
  rcases hj3 with rfl | rfl | rfl
  · cases hv
    have e4 : lE2 (orcN tb 299) [some (.scr ns), some (.ref 4), some (.str [98, 102, 97, 99, 101, 100, 103, 104]), .none, .none, .none, .none, .none, .none, .none, .none, .none, .none, .none, .none, .none, .none, .none, .none, .none, .none, .none, .none] (Z6 (.lst (cell0 ns)) (.lst (cell0 ns)) (.lst [.int 23]) (.lst (cell0 ns ++ [.int 23])) d y) = .ok (.str [98]) (Z7 (.lst (cell0 ns)) (.lst (cell0 ns)) (.lst [.int 23]) (.lst (cell0 ns ++ [.int 23])) d2 y2) := (op_eq (f := oAdd) hx e2).trans (by kernel_rfl)
    refine fin_seq (ρ' := [some (.scr ns), some (.ref 4), some (.str [98, 102, 97, 99, 101, 100, 103, 104]), some (.str [98]), .none, .none, .none, .none, .none, .none, .none, .none, .none, .none, .none, .none, .none, .none, .none, .none, .none, .none, .none]) (S' := Z7 (.lst (cell0 ns)) (.lst (cell0 ns)) (.lst [.int 23]) (.lst (cell0 ns ++ [.int 23])) d2 y2) (run_asg e4) ?_
    rw [seqL_app]
    exact fin_out (tk := 39) (pk := 40) (o1 := orcN tb 298) (o2 := orcN tb 297) (fun _ _ => rfl) (fun _ _ => rfl) d20 y20 y21 (fun d4 y4 => hb_2_0 _ _ _ _ ns d2 y2 d4 y4)
  · cases hv
    have e4 : lE2 (orcN tb 299) [some (.scr ns), some (.ref 4), some (.str [98, 102, 97, 99, 101, 100, 103, 104]), .none, .none, .none, .none, .none, .none, .none, .none, .none, .none, .none, .none, .none, .none, .none, .none, .none, .none, .none, .none] (Z6 (.lst (cell0 ns)) (.lst (cell0 ns)) (.lst [.int 23]) (.lst (cell0 ns ++ [.int 23])) d y) = .ok (.str [98, 120]) (Z7 (.lst (cell0 ns)) (.lst (cell0 ns)) (.lst [.int 23]) (.lst (cell0 ns ++ [.int 23])) d2 y2) := (op_eq (f := oAdd) hx e2).trans (by kernel_rfl)
    refine fin_seq (ρ' := [some (.scr ns), some (.ref 4), some (.str [98, 102, 97, 99, 101, 100, 103, 104]), some (.str [98, 120]), .none, .none, .none, .none, .none, .none, .none, .none, .none, .none, .none, .none, .none, .none, .none, .none, .none, .none, .none]) (S' := Z7 (.lst (cell0 ns)) (.lst (cell0 ns)) (.lst [.int 23]) (.lst (cell0 ns ++ [.int 23])) d2 y2) (run_asg e4) ?_
    rw [seqL_app]
    exact fin_out (tk := 39) (pk := 40) (o1 := orcN tb 298) (o2 := orcN tb 297) (fun _ _ => rfl) (fun _ _ => rfl) d20 y20 y21 (fun d4 y4 => hb_2_1 _ _ _ _ ns d2 y2 d4 y4)
  · cases hv
    have e4 : lE2 (orcN tb 299) [some (.scr ns), some (.ref 4), some (.str [98, 102, 97, 99, 101, 100, 103, 104]), .none, .none, .none, .none, .none, .none, .none, .none, .none, .none, .none, .none, .none, .none, .none, .none, .none, .none, .none, .none] (Z6 (.lst (cell0 ns)) (.lst (cell0 ns)) (.lst [.int 23]) (.lst (cell0 ns ++ [.int 23])) d y) = .ok (.str [98, 102, 102]) (Z7 (.lst (cell0 ns)) (.lst (cell0 ns)) (.lst [.int 23]) (.lst (cell0 ns ++ [.int 23])) d2 y2) := (op_eq (f := oAdd) hx e2).trans (by kernel_rfl)
    refine fin_seq (ρ' := [some (.scr ns), some (.ref 4), some (.str [98, 102, 97, 99, 101, 100, 103, 104]), some (.str [98, 102, 102]), .none, .none, .none, .none, .none, .none, .none, .none, .none, .none, .none, .none, .none, .none, .none, .none, .none, .none, .none]) (S' := Z7 (.lst (cell0 ns)) (.lst (cell0 ns)) (.lst [.int 23]) (.lst (cell0 ns ++ [.int 23])) d2 y2) (run_asg e4) ?_
    rw [seqL_app]
    exact fin_out (tk := 39) (pk := 40) (o1 := orcN tb 298) (o2 := orcN tb 297) (fun _ _ => rfl) (fun _ _ => rfl) d20 y20 y21 (fun d4 y4 => hb_2_2 _ _ _ _ ns d2 y2 d4 y4)
theorem seg_3 (ns : List Int) (d y : Int) (d0 : 0 ≤ d) (y0 : 0 ≤ y) (y1 : y < 2 ^ 40) : Fin1 (cSeq (sAsg (tName 3) lE2) (seqL lBs (cSeq (sAsg lT3 (eCall 40 lA3)) lC)) (orcN tb 299) [some (.scr ns), some (.ref 4), some (.str [104, 103, 102, 101, 100, 99, 98, 97]), .none, .none, .none, .none, .none, .none, .none, .none, .none, .none, .none, .none, .none, .none, .none, .none, .none, .none, .none, .none] (Z6 (.lst (cell0 ns)) (.lst (cell0 ns)) (.lst [.int 23]) (.lst (cell0 ns ++ [.int 23])) d y)) := by
  obtain ⟨j, d2, y2, v, hj, d20, y20, y21, hv, e2⟩ := pick_at (tk := 39) (pk := 40) (o := orcN tb 299) (o1 := orcN tb 298) (o2 := orcN tb 297) (fun _ _ => rfl) (fun _ _ => rfl) (as := lA2) (ρ := [some (.scr ns), some (.ref 4), some (.str [104, 103, 102, 101, 100, 99, 98, 97]), .none, .none, .none, .none, .none, .none, .none, .none, .none, .none, .none, .none, .none, .none, .none, .none, .none, .none, .none, .none]) (S := Z6 (.lst (cell0 ns)) (.lst (cell0 ns)) (.lst [.int 23]) (.lst (cell0 ns ++ [.int 23])) d y) (S2 := Z7 (.lst (cell0 ns)) (.lst (cell0 ns)) (.lst [.int 23]) (.lst (cell0 ns ++ [.int 23])) d y) (l := 6) (vs := [.str [], .str [120], .str [102, 102]]) (by kernel_rfl) (by kernel_rfl) (by kernel_rfl) (by decide) d0 y0 y1 (by decide) (by decide)
  have e3 : (Z7 (.lst (cell0 ns)) (.lst (cell0 ns)) (.lst [.int 23]) (.lst (cell0 ns ++ [.int 23])) d y).put 4 (.lst [.int d2, .int y2]) = Z7 (.lst (cell0 ns)) (.lst (cell0 ns)) (.lst [.int 23]) (.lst (cell0 ns ++ [.int 23])) d2 y2 := by kernel_rfl
  rw [e3] at e2
  have hj3 : j = 0 ∨ j = 1 ∨ j = 2 := by simp at hj; omega
  have hx : (eOp oIx (eVar 2) (eC (.int 0)) : G.E) (orcN tb 299) [some (.scr ns), some (.ref 4), some (.str [104, 103, 102, 101, 100, 99, 98, 97]), .none, .none, .none, .none, .none, .none, .none, .none, .none, .none, .none, .none, .none, .none, .none, .none, .none, .none, .none, .none] (Z6 (.lst (cell0 ns)) (.lst (cell0 ns)) (.lst [.int 23]) (.lst (cell0 ns ++ [.int 23])) d y) = .ok (.str [104]) (Z6 (.lst (cell0 ns)) (.lst (cell0 ns)) (.lst [.int 23]) (.lst (cell0 ns ++ [.int 23])) d y) := by kernel_rfl
  rcases hj3 with rfl | rfl | rfl
  · cases hv
    have e4 : lE2 (orcN tb 299) [some (.scr ns), some (.ref 4), some (.str [104, 103, 102, 101, 100, 99, 98, 97]), .none, .none, .none, .none, .none, .none, .none, .none, .none, .none, .none, .none, .none, .none, .none, .none, .none, .none, .none, .none] (Z6 (.lst (cell0 ns)) (.lst (cell0 ns)) (.lst [.int 23]) (.lst (cell0 ns ++ [.int 23])) d y) = .ok (.str [104]) (Z7 (.lst (cell0 ns)) (.lst (cell0 ns)) (.lst [.int 23]) (.lst (cell0 ns ++ [.int 23])) d2 y2) := (op_eq (f := oAdd) hx e2).trans (by kernel_rfl)
    refine fin_seq (ρ' := [some (.scr ns), some (.ref 4), some (.str [104, 103, 102, 101, 100, 99, 98, 97]), some (.str [104]), .none, .none, .none, .none, .none, .none, .none, .none, .none, .none, .none, .none, .none, .none, .none, .none, .none, .none, .none]) (S' := Z7 (.lst (cell0 ns)) (.lst (cell0 ns)) (.lst [.int 23]) (.lst (cell0 ns ++ [.int 23])) d2 y2) (run_asg e4) ?_
    rw [seqL_app]
    exact fin_out (tk := 39) (pk := 40) (o1 := orcN tb 298) (o2 := orcN tb 297) (fun _ _ => rfl) (fun _ _ => rfl) d20 y20 y21 (fun d4 y4 => hb_3_0 _ _ _ _ ns d2 y2 d4 y4)
  · cases hv
    have e4 : lE2 (orcN tb 299) [some (.scr ns), some (.ref 4), some (.str [104, 103, 102, 101, 100, 99, 98, 97]), .none, .none, .none, .none, .none, .none, .none, .none, .none, .none, .none, .none, .none, .none, .none, .none, .none, .none, .none, .none] (Z6 (.lst (cell0 ns)) (.lst (cell0 ns)) (.lst [.int 23]) (.lst (cell0 ns ++ [.int 23])) d y) = .ok (.str [104, 120]) (Z7 (.lst (cell0 ns)) (.lst (cell0 ns)) (.lst [.int 23]) (.lst (cell0 ns ++ [.int 23])) d2 y2) := (op_eq (f := oAdd) hx e2).trans (by kernel_rfl)
    refine fin_seq (ρ' := [some (.scr ns), some (.ref 4), some (.str [104, 103, 102, 101, 100, 99, 98, 97]), some (.str [104, 120]), .none, .none, .none, .none, .none, .none, .none, .none, .none, .none, .none, .none, .none, .none, .none, .none, .none, .none, .none]) (S' := Z7 (.lst (cell0 ns)) (.lst (cell0 ns)) (.lst [.int 23]) (.lst (cell0 ns ++ [.int 23])) d2 y2) (run_asg e4) ?_
    rw [seqL_app]
    exact fin_out (tk := 39) (pk := 40) (o1 := orcN tb 298) (o2 := orcN tb 297) (fun _ _ => rfl) (fun _ _ => rfl) d20 y20 y21 (fun d4 y4 => hb_3_1 _ _ _ _ ns d2 y2 d4 y4)
  · cases hv
    have e4 : lE2 (orcN tb 299) [some (.scr ns), some (.ref 4), some (.str [104, 103, 102, 101, 100, 99, 98, 97]), .none, .none, .none, .none, .none, .none, .none, .none, .none, .none, .none, .none, .none, .none, .none, .none, .none, .none, .none, .none] (Z6 (.lst (cell0 ns)) (.lst (cell0 ns)) (.lst [.int 23]) (.lst (cell0 ns ++ [.int 23])) d y) = .ok (.str [104, 102, 102]) (Z7 (.lst (cell0 ns)) (.lst (cell0 ns)) (.lst [.int 23]) (.lst (cell0 ns ++ [.int 23])) d2 y2) := (op_eq (f := oAdd) hx e2).trans (by kernel_rfl)
    refine fin_seq (ρ' := [some (.scr ns), some (.ref 4), some (.str [104, 103, 102, 101, 100, 99, 98, 97]), some (.str [104, 102, 102]), .none, .none, .none, .none, .none, .none, .none, .none, .none, .none, .none, .none, .none, .none, .none, .none, .none, .none, .none]) (S' := Z7 (.lst (cell0 ns)) (.lst (cell0 ns)) (.lst [.int 23]) (.lst (cell0 ns ++ [.int 23])) d2 y2) (run_asg e4) ?_
    rw [seqL_app]
    exact fin_out (tk := 39) (pk := 40) (o1 := orcN tb 298) (o2 := orcN tb 297) (fun _ _ => rfl) (fun _ _ => rfl) d20 y20 y21 (fun d4 y4 => hb_3_2 _ _ _ _ ns d2 y2 d4 y4)
theorem plain (ns : List Int) (h : ns.length ≤ 63) : ∃ S, callN tb 300 43 [.scr ns] ⟨0, .nil⟩ = .ok (.bool true) S := by
  obtain ⟨d, y, d0, y0, y1, e1⟩ := feed_eq (orcN tb 298) ns
  refine fin_fn rfl ?_
  show Fin1 (c_43 (orcN tb 299) [some (.scr ns), .none, .none, .none, .none, .none, .none, .none, .none, .none, .none, .none, .none, .none, .none, .none, .none, .none, .none, .none, .none, .none, .none] ⟨0, .nil⟩)
  have ec : c_43 = cSeq (sAsg (tName 1) (eCall 38 (elCons (eVar 0) (elCons (eC (.int 0)) (elNil))))) (cSeq (sAsg (tName 2) (eCall 40 lA1)) (cSeq (sAsg (tName 3) lE2) (seqL lBs (cSeq (sAsg lT3 (eCall 40 lA3)) lC)))) := rfl
  rw [ec]
  refine fin_seq (ρ' := [some (.scr ns), some (.ref 4), .none, .none, .none, .none, .none, .none, .none, .none, .none, .none, .none, .none, .none, .none, .none, .none, .none, .none, .none, .none, .none]) (S' := feedS (cell0 ns) d y) (run_asg (v := .ref 4) e1) ?_
  obtain ⟨j, d2, y2, v, hj, d20, y20, y21, hv, e2⟩ := pick_at (tk := 39) (pk := 40) (o := orcN tb 299) (o1 := orcN tb 298) (o2 := orcN tb 297) (fun _ _ => rfl) (fun _ _ => rfl) (as := lA1) (ρ := [some (.scr ns), some (.ref 4), .none, .none, .none, .none, .none, .none, .none, .none, .none, .none, .none, .none, .none, .none, .none, .none, .none, .none, .none, .none, .none]) (S := feedS (cell0 ns) d y) (S2 := Z6 (.lst (cell0 ns)) (.lst (cell0 ns)) (.lst [.int 23]) (.lst (cell0 ns ++ [.int 23])) d y) (l := 5) (vs := [.str [102, 97, 98, 99, 100, 112, 113, 114], .str [122, 121, 120, 119, 118, 117, 116, 115], .str [98, 102, 97, 99, 101, 100, 103, 104], .str [104, 103, 102, 101, 100, 99, 98, 97]]) (by kernel_rfl) (by kernel_rfl) (by kernel_rfl) (by decide) d0 y0 y1 (by decide) (by decide)
  have e3 : (Z6 (.lst (cell0 ns)) (.lst (cell0 ns)) (.lst [.int 23]) (.lst (cell0 ns ++ [.int 23])) d y).put 4 (.lst [.int d2, .int y2]) = Z6 (.lst (cell0 ns)) (.lst (cell0 ns)) (.lst [.int 23]) (.lst (cell0 ns ++ [.int 23])) d2 y2 := by kernel_rfl
  rw [e3] at e2
  have hj3 : j = 0 ∨ j = 1 ∨ j = 2 ∨ j = 3 := by simp at hj; omega
  rcases hj3 with rfl | rfl | rfl | rfl
  · cases hv
    refine fin_seq (ρ' := [some (.scr ns), some (.ref 4), some (.str [102, 97, 98, 99, 100, 112, 113, 114]), .none, .none, .none, .none, .none, .none, .none, .none, .none, .none, .none, .none, .none, .none, .none, .none, .none, .none, .none, .none]) (S' := Z6 (.lst (cell0 ns)) (.lst (cell0 ns)) (.lst [.int 23]) (.lst (cell0 ns ++ [.int 23])) d2 y2) (run_asg e2) ?_
    exact seg_0 ns d2 y2 d20 y20 y21
  · cases hv
    refine fin_seq (ρ' := [some (.scr ns), some (.ref 4), some (.str [122, 121, 120, 119, 118, 117, 116, 115]), .none, .none, .none, .none, .none, .none, .none, .none, .none, .none, .none, .none, .none, .none, .none, .none, .none, .none, .none, .none]) (S' := Z6 (.lst (cell0 ns)) (.lst (cell0 ns)) (.lst [.int 23]) (.lst (cell0 ns ++ [.int 23])) d2 y2) (run_asg e2) ?_
    exact seg_1 ns d2 y2 d20 y20 y21
  · cases hv
    refine fin_seq (ρ' := [some (.scr ns), some (.ref 4), some (.str [98, 102, 97, 99, 101, 100, 103, 104]), .none, .none, .none, .none, .none, .none, .none, .none, .none, .none, .none, .none, .none, .none, .none, .none, .none, .none, .none, .none]) (S' := Z6 (.lst (cell0 ns)) (.lst (cell0 ns)) (.lst [.int 23]) (.lst (cell0 ns ++ [.int 23])) d2 y2) (run_asg e2) ?_
    exact seg_2 ns d2 y2 d20 y20 y21
  · cases hv
    refine fin_seq (ρ' := [some (.scr ns), some (.ref 4), some (.str [104, 103, 102, 101, 100, 99, 98, 97]), .none, .none, .none, .none, .none, .none, .none, .none, .none, .none, .none, .none, .none, .none, .none, .none, .none, .none, .none, .none]) (S' := Z6 (.lst (cell0 ns)) (.lst (cell0 ns)) (.lst [.int 23]) (.lst (cell0 ns ++ [.int 23])) d2 y2) (run_asg e2) ?_
    exact seg_3 ns d2 y2 d20 y20 y21
end L19
open PySem PySem.W PySem.Calls PyProof.Rows
theorem PySem.Challenge.cw_graftrules_k19_known_great_numbers_holds : PySem.Challenge.rw_graftrules_k19_known_great_numbers.Holds := by
  w_on; o_law
  refine HandSHeadRun.head_any (r := OpenLaw.row PySem.Challenge.rw_graftrules_k19_known_great_numbers) (q := view (OpenLaw.row PySem.Challenge.rw_graftrules_k19_known_great_numbers).prog [46]) (H := L19.hk) (ob := L19.ob) (M := 20000) (loose := L19.names) (d := HandSHeadRun.topDef (OpenLaw.row PySem.Challenge.rw_graftrules_k19_known_great_numbers).prog 46) (kwd := []) L19.ob_eq
    (by kernel_rfl) (fun s => by kernel_rfl) L19.run (by kernel_rfl) (by kernel_rfl) (by kernel_rfl) (by rfl) (by first | assumption | decide +kernel) (by decide +kernel) ⟨rfl, rfl, rfl, rfl, rfl, by decide +kernel⟩ ?hw ?hc
  case hw => w_witness2
  case hc =>
    refine G.end_walk (l := PySem.Challenge.rw_graftrules_k19_known_great_numbers) (most := 63) (n := 300) (x := "script") rfl (by decide) (by kernel_rfl) ⟨rfl, by decide, by decide, rfl⟩ ?F
    intro w mg fa h Y G0 hmg0
    obtain ⟨K, KX, c⟩ := Y
    have hmg : mg ("law" : PySem.Str) = some (.ref fa) := by
      have e : (HandSHeadRun.topDef (OpenLaw.row PySem.Challenge.rw_graftrules_k19_known_great_numbers).prog 46).name = ("law" : PySem.Str) := by kernel_rfl
      rw [← e]
      exact hmg0
    have W : L19.WF K mg := L19.wf KX G0 c
    have e := hmg.symm.trans W.g_43
    cases e
    refine ⟨K, _, _, KX, fun s u => W.F_43.bindsA (ps := ["script"]) (fun _ _ _ _ _ _ us hl => match us, hl with | [_], _ => rfl) s [u] rfl, fun H a ns hl ho hS => ?_, fun base _ _ => L19.all_ok (P := (PySem.Challenge.rw_graftrules_k19_known_great_numbers).prog) (w := w) (base := base) W 300 43 (by decide)⟩
    exact G.law_wish (g := L19.gx (PySem.Challenge.rw_graftrules_k19_known_great_numbers).prog w K) ⟨rfl, rfl⟩ L19.plain hl ho hS
